import PyProof.Rows.All
import Wide.All
import OpenK.AllK
import Wide.FinOn
import HandS.ForMost
import HandS.ForExc
import HandS.SortInts
import HandS.Conv
import HandS.More
import HandS.RevRange
import HandS.StrMore
import HandS.Style
import HandS.Deep
import HandS.Wide
import HandS.TupAny
import HandS.Property
import PyProof.ReprBulk
import HandS.ExcIs
import HandS.IsInst
import HandS.TryMany
import HandS.Flow
import KE.GoesMore
import PyProof.Draws
import PyProof.EnumMake
import KE.LtSeq
import KE.KDictKeyed
import HandS.TupLen
import HandS.Star
import KE.DataCmp
import HandS.Text
import HandS.Codes
import PyProof.Rows.StrFirst
import KE.KExcIs
import HandS.ExcInit
import HandS.ExcField
import HandS.Iter
import KE.KDictWalk
import KE.KDictDisplayH
import HandS.DictComp
import HandS.Zip
import HandS.Gcd
import HandS.HotCalls
import PySem.Challenge.RW_yardsort_k27_accepts_and_walkers
set_option Elab.async false
set_option linter.all false
set_option maxRecDepth 100000
set_option maxHeartbeats 4000000
/-! JD: values without a heap, and what a def's body asks of them: a reading over plain data. No program in sight. -/
namespace J
/-- data: ints, truth values, texts (their code points), lists, tuples, dicts, sets, instances -/
inductive D where
  | non | bl (b : Bool) | int (i : Int) | str (s : List Nat)
  | lst (ds : List D) | tup (ds : List D) | scr (ns : List Int)
  | dic (kvs : List (D × D)) | sett (ds : List D) | obj (c : Nat) (ds : List D) | fn (n : Nat)
/-- a thing of one's own: shared data in it, a list of shared data, a list (none) or an object (some c) of own things, a dict; each but the first with its name q -/
inductive F where
  | sh (d : D) | ol (q : Nat) (ds : List D) | nd (q : Nat) (k : Option Nat) (fs : List F) | od (q : Nat) (kvs : List (D × D))
/-- what a slot or an operand holds: data that never changes again, a list lent by the caller, the slot i itself, a list of one's own, an error, another thing of one's own, the part p (its name q) of the slot i's own thing -/
inductive T where
  | sh (d : D) | bor (d : D) | al (i : Nat) | ol (ds : List D) | exc (c : Nat) (ds : List D) | own (f : F) | ptr (i : Nat) (p : List Nat) (q : Nat)
mutual
/-- an own thing once it never changes again -/
def fD : F → D
  | .sh d => d
  | .ol _ ds => .lst ds
  | .nd _ none fs => .lst (fDs fs)
  | .nd _ (some c) fs => .obj c (fDs fs)
  | .od _ kvs => .dic kvs
def fDs : List F → List D
  | [] => []
  | f :: fs => fD f :: fDs fs
end
@[simp] theorem fD_sh (d : D) : fD (.sh d) = d := by simp [fD]
@[simp] theorem fD_ol (q : Nat) (ds : List D) : fD (.ol q ds) = .lst ds := by simp [fD]
@[simp] theorem fD_ls (q : Nat) (fs : List F) : fD (.nd q none fs) = .lst (fDs fs) := by simp [fD]
@[simp] theorem fD_ob (q c : Nat) (fs : List F) : fD (.nd q (some c) fs) = .obj c (fDs fs) := by simp [fD]
@[simp] theorem fD_od (q : Nat) (kvs : List (D × D)) : fD (.od q kvs) = .dic kvs := by simp [fD]
@[simp] theorem fDs_nil : fDs [] = [] := by simp [fDs]
@[simp] theorem fDs_cons (f : F) (fs : List F) : fDs (f :: fs) = fD f :: fDs fs := by simp [fDs]
mutual
/-- the names in an own thing -/
def idsF : F → List Nat
  | .sh _ => []
  | .ol q _ => [q]
  | .nd q _ fs => q :: idsFs fs
  | .od q _ => [q]
def idsFs : List F → List Nat
  | [] => []
  | f :: fs => idsF f ++ idsFs fs
end
/-- its own name (0: it has none) -/
@[simp] def idF : F → Nat
  | .sh _ => 0
  | .ol q _ => q
  | .nd q _ _ => q
  | .od q _ => q
/-- a part -/
@[simp] def atF : List Nat → F → Option F
  | [], f => some f
  | k :: p, .nd _ _ fs => match fs[k]? with
    | some f => atF p f
    | none => none
  | _ :: _, _ => none
/-- a part given another content -/
@[simp] def setAt (g : F) : List Nat → F → F
  | [], _ => g
  | k :: p, .nd q c fs => match fs[k]? with
    | some f => .nd q c (fs.set k (setAt g p f))
    | none => .nd q c fs
  | _ :: _, f => f
/-- what a part of an own list is, as data: its name alone -/
@[simp] def headD : F → D
  | .sh d => d
  | f => .fn (idF f)
/-- an own thing read where it stands -/
@[simp] def F.rd : F → Option D
  | .sh d => some d
  | .ol _ ds => some (.lst ds)
  | .nd _ none fs => some (.lst (fs.map headD))
  | .nd q (some _) _ => some (.fn q)
  | .od _ kvs => some (.dic kvs)
structure Err where
  cls : Nat
  vals : List D
/-- the classes: their names and their fields in the order in which they are set -/
def clsT : Nat → PySem.Str × List PySem.Str
  | 0 => ("Walker", ["machine", "state"])
  | 1 => ("Counter", ["letters", "table", "rows"])
  | 2 => ("Group", ["sign", "yards"])
  | 3 => ("Reading", ["text", "at", "kinds", "bounds", "links", "groups"])
  | 4 => ("Yard", ["text", "kinds", "bounds", "links"])
  | 5 => ("Search", ["yard", "wagons", "met", "known", "origin", "found"])
  | 6 => ("Language", ["yard", "letters"])
  | 7 => ("Walk", ["one", "other", "pairs", "words", "known"])
  | 8 => ("Shown", ["which", "places"])
  | 9 => ("TreeReader", ["text", "at", "wagons"])
  | 10 => ("Shift", ["yard", "current", "wagons", "events"])
  | 11 => ("Track", ["text", "at", "kinds", "bounds", "links", "groups"])
  | 12 => ("Walk", ["letters", "accepted", "table", "sink"])
  | _ => ("Desk", [])
abbrev Env := List (Option T)
@[simp] def look : Env → Nat → Option T
  | [], _ => none
  | t :: _, 0 => t
  | _ :: r, n + 1 => look r n
@[simp] def put : Env → Nat → Option T → Env
  | [], _, _ => []
  | _ :: r, 0, t => t :: r
  | x :: r, n + 1, t => x :: put r n t
def T.rd : T → Option D
  | .sh d => some d
  | .bor d => some d
  | .ol ds => some (.lst ds)
  | .own f => f.rd
  | _ => none
/-- the part p, named q, of the slot i's own thing -/
@[simp] def getP (r : Env) (i : Nat) (p : List Nat) (q : Nat) : Option F := match look r i with
  | some (.own f) => match atF p f with
    | some (.sh _) => none
    | some g => if idF g = q then some g else none
    | none => none
  | _ => none
/-- a list or a dict -/
@[simp] def isLD : D → Bool
  | .lst _ => true
  | .dic _ => true
  | _ => false
/-- an operand's data, as it is now -/
def rdT (r : Env) : T → Option D
  | .al i => match look r i with
    | some t => t.rd
    | none => none
  | .sh d => some d
  | .bor d => some d
  | .ol ds => some (.lst ds)
  | .exc _ _ => none
  | .own f => f.rd
  | .ptr i p q => match getP r i p q with
    | some f => f.rd
    | none => none

abbrev XD := Err → Env → Prop
abbrev QE := T → Env → Prop
abbrev DE := XD → QE → Env → Prop
abbrev DT := XD → (Bool → Env → Prop) → Env → Prop
abbrev DA := XD → (List T → Env → Prop) → Env → Prop
structure DEnds where
  nx : Env → Prop
  rt : T → Env → Prop
  bk : Env → Prop
  ct : Env → Prop
abbrev DS := XD → DEnds → Env → Prop
/-- what a def does: from its arguments, the way of an error, the way of a value -/
abbrev Spec := List D → (Err → Prop) → (T → Prop) → Prop

/-! ### names, constants -/
/-- slot i, shared data -/
@[simp] def dV (i : Nat) (_a0 : XD) (Q : QE) (r : Env) : Prop := match look r i with
  | some (.sh d) => Q (.sh d) r
  | _ => False
/-- slot i, only read where it stands -/
@[simp] def dA (i : Nat) (_a0 : XD) (Q : QE) (r : Env) : Prop := match look r i with
  | some _ => Q (.al i) r
  | none => False
/-- slot i: a list of one's own becomes shared -/
@[simp] def dM (i : Nat) (_a0 : XD) (Q : QE) (r : Env) : Prop := match look r i with
  | some (.ol ds) => Q (.sh (.lst ds)) (put r i (some (.sh (.lst ds))))
  | some (.sh d) => Q (.sh d) r
  | some (.own f) => Q (.sh (fD f)) (put r i (some (.sh (fD f))))
  | _ => False
/-- slot i is given away -/
@[simp] def dG (i : Nat) (_a0 : XD) (Q : QE) (r : Env) : Prop := match look r i with
  | some (.ol ds) => Q (.ol ds) (put r i none)
  | some (.sh d) => Q (.sh d) r
  | some (.own f) => Q (.own f) (put r i none)
  | _ => False
@[simp] def dC (d : D) (_a0 : XD) (Q : QE) (r : Env) : Prop := Q (.sh d) r
/-- what was made becomes shared -/
@[simp] def dF (e : DE) (X : XD) (Q : QE) (r : Env) : Prop := e X (fun t r' => match t with
  | .ol ds => Q (.sh (.lst ds)) r'
  | .sh d => Q (.sh d) r'
  | .own f => Q (.sh (fD f)) r'
  | _ => False) r

/-! ### operators on data -/
abbrev R2D := D → D → (T → Prop) → Prop
abbrev R1D := D → (T → Prop) → Prop
@[simp] def dOp (o : R2D) (a b : DE) (X : XD) (Q : QE) (r : Env) : Prop := a X (fun ta r1 => b X (fun tb r2 => match rdT r2 ta, rdT r2 tb with
  | some x, some y => o x y fun t => Q t r2
  | _, _ => False) r1) r
@[simp] def dU (o : R1D) (a : DE) (X : XD) (Q : QE) (r : Env) : Prop := a X (fun ta r1 => match rdT r1 ta with
  | some x => o x fun t => Q t r1
  | none => False) r
def oI0 (g : Int → Int → D) (x : D) (y : D) (Q : (T → Prop)) : Prop := match x, y with
  | .int i, .int j => Q (.sh (g i j))
  | _, _ => False
def oI (C : Int → Int → Prop) (g : Int → Int → D) (x : D) (y : D) (Q : (T → Prop)) : Prop := match x, y with
  | .int i, .int j => C i j ∧ Q (.sh (g i j))
  | _, _ => False
abbrev oAddI : R2D := oI0 fun i j => .int (i + j)
abbrev oSub : R2D := oI0 fun i j => .int (i - j)
abbrev oDiv : R2D := oI (fun _ j => 0 < j ∧ j < 1073741824) fun i j => .int (i / j)
abbrev oMod : R2D := oI (fun _ j => 0 < j) fun i j => .int (i % j)
abbrev oPow : R2D := oI (fun i j => 0 ≤ j ∧ j ≤ 1000000 ∧ i.natAbs < 2 ^ 64) fun i j => .int (i ^ j.toNat)
abbrev oLt : R2D := oI0 fun i j => .bl (decide (i < j))
abbrev oLe : R2D := oI0 fun i j => .bl (decide (i ≤ j))
abbrev oGt : R2D := oI0 fun i j => .bl (decide (j < i))
abbrev oGe : R2D := oI0 fun i j => .bl (decide (j ≤ i))
/-- a + b: ints, lists, texts, tuples -/
def oAdd (x : D) (y : D) (Q : (T → Prop)) : Prop := match x, y with
  | .int i, .int j => Q (.sh (.int (i + j)))
  | .lst xs, .lst ys => xs.length + ys.length ≤ 16777216 ∧ Q (.ol (xs ++ ys))
  | .str s, .str t => s.length + t.length ≤ 16777216 ∧ Q (.sh (.str (s ++ t)))
  | .tup xs, .tup ys => xs.length + ys.length ≤ 16777216 ∧ Q (.sh (.tup (xs ++ ys)))
  | _, _ => False
/-- a * b: ints, a list and an int -/
def oMul (x : D) (y : D) (Q : (T → Prop)) : Prop := match x, y with
  | .int i, .int j => ((-(2 ^ 64) < i ∧ i < 2 ^ 64) ∨ (-(2 ^ 64) < j ∧ j < 2 ^ 64)) ∧ Q (.sh (.int (i * j)))
  | .lst xs, .int k => (k < 2 ^ 63 ∧ -(2 ^ 63) ≤ k ∧ xs.length * k.toNat ≤ 16777216) ∧ Q (.ol (List.replicate k.toNat xs).flatten)
  | _, _ => False
mutual
def eqD : D → D → Bool
  | .non, .non => true
  | .bl a, .bl b => a == b
  | .bl a, .int j => (if a then 1 else 0) == j
  | .int i, .bl b => i == (if b then 1 else 0)
  | .int i, .int j => i == j
  | .str x, .str y => x == y
  | .lst xs, .lst ys => eqDs xs ys
  | .tup xs, .tup ys => eqDs xs ys
  | _, _ => false
def eqDs : List D → List D → Bool
  | [], [] => true
  | x :: xs, y :: ys => eqD x y && eqDs xs ys
  | [], _ :: _ => false
  | _ :: _, [] => false
end
mutual
/-- data that == reads, and how deep it is -/
def lay : D → Bool
  | .non => true
  | .bl _ => true
  | .int _ => true
  | .str s => s.all (· < 0x110000)
  | .lst xs => lays xs
  | .tup xs => lays xs
  | _ => false
def lays : List D → Bool
  | [] => true
  | x :: xs => lay x && lays xs
end
mutual
def deep : D → Nat
  | .lst xs => deeps xs + 1
  | .tup xs => deeps xs + 1
  | _ => 0
def deeps : List D → Nat
  | [] => 0
  | x :: xs => max (deep x) (deeps xs)
end
mutual
/-- data that is a dict's key: ints, truth values, None, tuples of such -/
def okK : D → Bool
  | .non => true
  | .bl _ => true
  | .int _ => true
  | .tup ds => okKs ds
  | _ => false
def okKs : List D → Bool
  | [] => true
  | d :: ds => okK d && okKs ds
end
def okE (d : D) : Prop := lay d = true ∧ deep d ≤ 64
@[simp] def scalD : D → D → Bool
  | .non, .non => true
  | .non, .int _ => true
  | .int _, .non => true
  | .non, .bl _ => true
  | .bl _, .non => true
  | .non, .str _ => true
  | .str _, .non => true
  | .int _, .int _ => true
  | .bl _, .bl _ => true
  | .str _, .str _ => true
  | .int _, .str _ => true
  | .str _, .int _ => true
  | .bl _, .str _ => true
  | .str _, .bl _ => true
  | _, _ => false
@[simp] def oEq (x : D) (y : D) (Q : (T → Prop)) : Prop := (scalD x y = true ∨ (okE x ∧ okE y)) ∧ Q (.sh (.bl (eqD x y)))
@[simp] def oNe (x : D) (y : D) (Q : (T → Prop)) : Prop := (scalD x y = true ∨ (okE x ∧ okE y)) ∧ Q (.sh (.bl (!eqD x y)))
/-- x in xs over flat things: ints, texts, None, truth values -/
def flatD : D → Bool
  | .non => true
  | .int _ => true
  | .str _ => true
  | .bl _ => true
  | _ => false
def oIn (neg : Bool) : R2D := fun x y Q => match y with
  | .lst ys => (flatD x = true ∧ ys.all flatD = true) ∧ Q (.sh (.bl (if neg then !(ys.any fun z => eqD z x) else ys.any fun z => eqD z x)))
  | .tup ys => (flatD x = true ∧ ys.all flatD = true) ∧ Q (.sh (.bl (if neg then !(ys.any fun z => eqD z x) else ys.any fun z => eqD z x)))
  | .str s => match x with
    | .str [c] => Q (.sh (.bl (if neg then !decide (c ∈ s) else decide (c ∈ s))))
    | _ => False
  | _ => False
def uNeg (x : D) (Q : (T → Prop)) : Prop := match x with
  | .int i => Q (.sh (.int (-i)))
  | _ => False
def isNon : D → Bool
  | .non => true
  | _ => false
@[simp] def uIsN (neg : Bool) (x : D) (Q : (T → Prop)) : Prop := Q (.sh (.bl (if neg then !isNon x else isNon x)))

/-! ### places in a list, slices -/
def ixD (n : Nat) (i : Int) : Option Nat := if 0 ≤ i then (if i < n then some i.toNat else none) else if -(n : Int) ≤ i then some (i + n).toNat else none
def atD {A : Type} (xs : List A) (i : Int) : Option A := (ixD xs.length i).bind fun j => xs[j]?
def oIx (x : D) (y : D) (Q : (T → Prop)) : Prop := match x, y with
  | .lst xs, .int i => match atD xs i with
    | some d => Q (.sh d)
    | none => False
  | .tup xs, .int i => match atD xs i with
    | some d => Q (.sh d)
    | none => False
  | .scr xs, .int i => match atD xs i with
    | some d => Q (.sh (.int d))
    | none => False
  | .str s, .int i => s.length ≤ 16777216 ∧ match atD s i with
    | some c => Q (.sh (.str [c]))
    | none => False
  | _, _ => False
def sIxD (n d : Nat) : Option Int → Nat
  | none => d
  | some v => if v < 0 then (v + (n : Int)).toNat else min v.toNat n
def cutD {A : Type} (xs : List A) (lo hi : Option Int) : List A := (xs.drop (sIxD xs.length 0 lo)).take (sIxD xs.length xs.length hi - sIxD xs.length 0 lo)
abbrev DO := XD → (Option Int → Env → Prop) → Env → Prop
@[simp] def dNo (_a0 : XD) (Q : (Option Int → Env → Prop)) (r : Env) : Prop := Q none r
@[simp] def dPt (e : DE) (X : XD) (Q : (Option Int → Env → Prop)) (r : Env) : Prop := e X (fun t r' => match rdT r' t with
  | some (.int i) => Q (some i) r'
  | _ => False) r
@[simp] def dSl (e : DE) (lo hi : DO) (X : XD) (Q : QE) (r : Env) : Prop := e X (fun t r1 => lo X (fun a r2 => hi X (fun b r3 => match rdT r3 t with
  | some (.lst xs) => Q (.ol (cutD xs a b)) r3
  | some (.str s) => s.length ≤ 16777216 ∧ Q (.sh (.str (cutD s a b))) r3
  | some (.tup xs) => Q (.sh (.tup (cutD xs a b))) r3
  | _ => False) r2) r1) r

/-- xs[::-1] -/
@[simp] def dRevSl (e : DE) (X : XD) (Q : QE) (r : Env) : Prop := e X (fun t r1 => match rdT r1 t with
  | some (.lst xs) => Q (.ol xs.reverse) r1
  | _ => False) r

/-! ### repr -/
mutual
def py : D → PySem.PyData
  | .non => .none
  | .bl b => .bool b
  | .int i => .int i
  | .str s => .str ⟨s.toArray⟩
  | .lst ds => .list (pys ds)
  | .tup ds => .tuple (pys ds)
  | _ => .none
def pys : List D → List PySem.PyData
  | [] => []
  | d :: ds => py d :: pys ds
end
/-- ints below it are told by repr here -/
def bigN : Nat := 10 ^ 160
theorem lt_big {n : Nat} (h : n < 1000000000000) : n < bigN := Nat.lt_of_lt_of_le h (by decide)
mutual
def smallR : D → Bool
  | .int i => decide (i.natAbs < bigN)
  | .lst ds => smallRs ds
  | .tup ds => smallRs ds
  | _ => true
def smallRs : List D → Bool
  | [] => true
  | d :: ds => smallR d && smallRs ds
end
mutual
def bulkR : D → Nat
  | .str s => s.length
  | .lst ds => bulkRs ds
  | .tup ds => bulkRs ds
  | _ => 0
def bulkRs : List D → Nat
  | [] => 0
  | d :: ds => bulkR d + 1 + bulkRs ds
end
/-- repr of data, as a text -/
def reprD (d : D) : List Nat := (PySem.PyData.shown (py d)).cps.toList
def okR (d : D) : Prop := lay d = true ∧ deep d ≤ 60 ∧ smallR d = true ∧ bulkR d ≤ 100000
@[simp] def dRepr (e : DE) (X : XD) (Q : QE) (r : Env) : Prop := e X (fun t r1 => match rdT r1 t with
  | some d => okR d ∧ Q (.sh (.str (reprD d))) r1
  | none => False) r

/-! ### tests -/
@[simp] def dB (e : DE) (X : XD) (Q : (Bool → Env → Prop)) (r : Env) : Prop := e X (fun t r' => match rdT r' t with
  | some (.bl b) => Q b r'
  | _ => False) r
/-- by truth -/
def truD : D → (Bool → Prop) → Prop
  | .non, Q => Q false
  | .bl b, Q => Q b
  | .int i, Q => Q (i != 0)
  | .str s, Q => s.length ≤ 16777216 ∧ Q (s.length != 0)
  | .lst xs, Q => Q (!xs.isEmpty)
  | .tup xs, Q => Q (!xs.isEmpty)
  | _, _ => False
@[simp] def dTr (e : DE) (X : XD) (Q : (Bool → Env → Prop)) (r : Env) : Prop := e X (fun t r' => match rdT r' t with
  | some d => truD d fun b => Q b r'
  | none => False) r
@[simp] def dAnd (a b : DT) (X : XD) (Q : (Bool → Env → Prop)) (r : Env) : Prop := a X (fun c r1 => if c = true then b X Q r1 else Q false r1) r
@[simp] def dOr (a b : DT) (X : XD) (Q : (Bool → Env → Prop)) (r : Env) : Prop := a X (fun c r1 => if c = true then Q true r1 else b X Q r1) r
@[simp] def dNot (a : DT) (X : XD) (Q : (Bool → Env → Prop)) (r : Env) : Prop := a X (fun c r1 => Q (!c) r1) r
/-- a test as a value -/
@[simp] def dAndV (a b : DE) (X : XD) (Q : QE) (r : Env) : Prop := dB a X (fun c r1 => if c = true then b X Q r1 else Q (.sh (.bl false)) r1) r
@[simp] def dOrV (a b : DE) (X : XD) (Q : QE) (r : Env) : Prop := dB a X (fun c r1 => if c = true then Q (.sh (.bl true)) r1 else b X Q r1) r
@[simp] def dNotV (a : DE) (X : XD) (Q : QE) (r : Env) : Prop := dB a X (fun c r1 => Q (.sh (.bl (!c))) r1) r
@[simp] def dIfE (c : DT) (a b : DE) (X : XD) (Q : QE) (r : Env) : Prop := c X (fun k r1 => if k = true then a X Q r1 else b X Q r1) r
/-- a < b < c -/
@[simp] def dChain (o o' : R2D) (a b c : DE) (X : XD) (Q : QE) (r : Env) : Prop := a X (fun ta r1 => b X (fun tb r2 => match rdT r2 ta, rdT r2 tb with
  | some x, some y => o x y fun t => match t with
    | .sh (.bl k) => if k = true then c X (fun tc r3 => match rdT r3 tb, rdT r3 tc with
        | some y', some z => o' y' z fun t' => Q t' r3
        | _, _ => False) r2 else Q (.sh (.bl false)) r2
    | _ => False
  | _, _ => False) r1) r

/-! ### arguments, displays, calls -/
@[simp] def dNil (_a0 : XD) (Q : (List T → Env → Prop)) (r : Env) : Prop := Q [] r
@[simp] def dCons (e : DE) (a : DA) (X : XD) (Q : (List T → Env → Prop)) (r : Env) : Prop := e X (fun t r1 => a X (fun ts r2 => Q (t :: ts) r2) r1) r
/-- all shared -/
@[simp] def shs : List T → Option (List D)
  | [] => some []
  | .sh d :: r => (shs r).map (d :: ·)
  | _ :: _ => none
@[simp] def reads (r : Env) : List T → Option (List D)
  | [] => some []
  | t :: ts => match rdT r t, reads r ts with
    | some d, some ds => some (d :: ds)
    | _, _ => none
@[simp] def dLst (a : DA) (X : XD) (Q : QE) (r : Env) : Prop := a X (fun ts r1 => match shs ts with
  | some ds => ds.length ≤ 16777216 ∧ Q (.ol ds) r1
  | none => False) r
@[simp] def dTup (a : DA) (X : XD) (Q : QE) (r : Env) : Prop := a X (fun ts r1 => match shs ts with
  | some ds => ds.length ≤ 16777216 ∧ Q (.sh (.tup ds)) r1
  | none => False) r
/-- which arguments must be shared: true -/
@[simp] def capOk : List Bool → List T → Bool
  | true :: ms, .sh _ :: ts => capOk ms ts
  | false :: ms, _ :: ts => capOk ms ts
  | [], [] => true
  | _, _ => false
@[simp] def dCall (ms : List Bool) (S : Spec) (a : DA) (X : XD) (Q : QE) (r : Env) : Prop := a X (fun ts r1 => capOk ms ts = true ∧ match reads r1 ts with
  | some ds => S ds (fun e => X e r1) (fun t => Q t r1)
  | none => False) r
/-- a built-in called: by its arguments' data -/
abbrev RCD := List D → (T → Prop) → Prop
@[simp] def dB1 (c : RCD) (a : DA) (X : XD) (Q : QE) (r : Env) : Prop := a X (fun ts r1 => match reads r1 ts with
  | some ds => c ds fun t => Q t r1
  | none => False) r
@[simp] def cLen (ds : List D) (Q : (T → Prop)) : Prop := match ds with
  | [.lst xs] => Q (.sh (.int xs.length))
  | [.tup xs] => Q (.sh (.int xs.length))
  | [.scr xs] => Q (.sh (.int xs.length))
  | [.str s] => s.length ≤ 16777216 ∧ Q (.sh (.int s.length))
  | _ => False
@[simp] def cInt (ds : List D) (Q : (T → Prop)) : Prop := match ds with
  | [.int i] => Q (.sh (.int i))
  | [.bl b] => Q (.sh (.int (if b then 1 else 0)))
  | _ => False
/-- list(x) -/
@[simp] def cList (ds : List D) (Q : (T → Prop)) : Prop := match ds with
  | [.lst xs] => Q (.ol xs)
  | [.tup xs] => Q (.ol xs)
  | _ => False
@[simp] def cTup (ds : List D) (Q : (T → Prop)) : Prop := match ds with
  | [.lst xs] => Q (.sh (.tup xs))
  | [.tup xs] => Q (.sh (.tup xs))
  | _ => False
def intsOf : List D → Option (List Int)
  | [] => some []
  | .int i :: r => (intsOf r).map (i :: ·)
  | _ :: _ => none
def leI (a b : Int) : Bool := decide (a ≤ b)
def sortI (xs : List Int) : List Int := xs.mergeSort leI
abbrev li (xs : List Int) : List D := xs.map D.int
/-- sorted(xs), whole numbers -/
def cSort : RCD := fun ds Q => match ds with
  | [.lst xs] => match intsOf xs with
    | some ns => Q (.ol (li (sortI ns)))
    | none => False
  | _ => False
def cSum : RCD := fun ds Q => match ds with
  | [.lst xs] => match intsOf xs with
    | some ns => Q (.sh (.int ns.sum))
    | none => False
  | _ => False
def cMax2 : RCD := fun ds Q => match ds with
  | [.int i, .int j] => Q (.sh (.int (if j > i then j else i)))
  | _ => False
def cMin2 : RCD := fun ds Q => match ds with
  | [.int i, .int j] => Q (.sh (.int (if j < i then j else i)))
  | _ => False
def upI (lo : Int) (n : Nat) : List Int := (List.range n).map fun (k : Nat) => lo + (k : Int)
/-- list(range(..)) -/
@[simp] def dRangeL (a : DA) (X : XD) (Q : QE) (r : Env) : Prop := a X (fun ts r1 => match reads r1 ts with
  | some [.int n] => (-(2 ^ 62) ≤ n ∧ n ≤ 16777216) ∧ Q (.ol (li (upI 0 n.toNat))) r1
  | some [.int m, .int n] => ((-(2 ^ 62) ≤ m ∧ m < 2 ^ 62) ∧ (-(2 ^ 62) ≤ n ∧ n < 2 ^ 62) ∧ n - m ≤ 16777216) ∧ Q (.ol (li (upI m (n - m).toNat))) r1
  | _ => False) r

/-! ### a list's own methods: xs.append(e) as the slot i's list changes -/
@[simp] def isOl : Option T → Prop
  | some (.ol _) => True
  | _ => False
@[simp] def dApp (i : Nat) (e : DE) (X : XD) (Q : QE) (r : Env) : Prop := isOl (look r i) ∧ e X (fun t r1 => match t, look r1 i with
  | .sh d, some (.ol ds) => ds.length < 16777216 ∧ Q (.sh .non) (put r1 i (some (.ol (ds ++ [d]))))
  | _, _ => False) r
@[simp] def dPop (i : Nat) (_a0 : XD) (Q : QE) (r : Env) : Prop := match look r i with
  | some (.ol ds) => match ds.getLast? with
    | some d => Q (.sh d) (put r i (some (.ol ds.dropLast)))
    | none => False
  | _ => False
@[simp] def dRev (i : Nat) (_a0 : XD) (Q : QE) (r : Env) : Prop := match look r i with
  | some (.ol ds) => Q (.sh .non) (put r i (some (.ol ds.reverse)))
  | _ => False

/-! ### statements -/
@[simp] def dNext (_a0 : XD) (E : DEnds) (r : Env) : Prop := E.nx r
@[simp] def dSeq (s t : DS) (X : XD) (E : DEnds) (r : Env) : Prop := s X { E with nx := t X E } r
@[simp] def dSet (i : Nat) (e : DE) (X : XD) (E : DEnds) (r : Env) : Prop := e X (fun t r1 => match t with
  | .sh d => E.nx (put r1 i (some (.sh d)))
  | .ol ds => E.nx (put r1 i (some (.ol ds)))
  | .own f => E.nx (put r1 i (some (.own f)))
  | _ => False) r
@[simp] def dEx (e : DE) (X : XD) (E : DEnds) (r : Env) : Prop := e X (fun _ r1 => E.nx r1) r
@[simp] def dRet (e : DE) (X : XD) (E : DEnds) (r : Env) : Prop := e X (fun t r1 => match t with
  | .sh d => E.rt (.sh d) r1
  | .ol ds => E.rt (.ol ds) r1
  | .own f => E.rt (.own f) r1
  | _ => False) r
@[simp] def dRetN (_a0 : XD) (E : DEnds) (r : Env) : Prop := E.rt (.sh .non) r
@[simp] def dBrk (_a0 : XD) (E : DEnds) (r : Env) : Prop := E.bk r
@[simp] def dCnt (_a0 : XD) (E : DEnds) (r : Env) : Prop := E.ct r
@[simp] def dIf (c : DT) (a b : DS) (X : XD) (E : DEnds) (r : Env) : Prop := c X (fun k r1 => if k = true then a X E r1 else b X E r1) r
/-- xs[i] = e: first e, then the place -/
@[simp] def dSetIx (i : Nat) (k e : DE) (X : XD) (E : DEnds) (r : Env) : Prop := e X (fun t r1 => isOl (look r1 i) ∧ k X (fun u r2 => match t, rdT r2 u, look r2 i with
  | .sh d, some (.int z), some (.ol ds) => match ixD ds.length z with
    | some j => E.nx (put r2 i (some (.ol (ds.set j d))))
    | none => False
  | _, _, _ => False) r1) r
/-- x op= e -/
@[simp] def dAug (i : Nat) (o : R2D) (e : DE) (X : XD) (E : DEnds) (r : Env) : Prop := match look r i with
  | some (.sh x) => e X (fun tb r1 => match rdT r1 tb with
    | some y => o x y fun t => match t with
      | .sh d => E.nx (put r1 i (some (.sh d)))
      | _ => False
    | none => False) r
  | _ => False
/-- raise of a class without fields -/
@[simp] def dRaise (c : Nat) (X : XD) (_a1 : DEnds) (r : Env) : Prop := X ⟨c, []⟩ r
def dWhile (c : DT) (b : DS) (X : XD) (E : DEnds) (r : Env) : Prop := ∃ (I : Env → Prop) (m : Env → Nat), I r ∧ ∀ r1, I r1 → c X (fun k r2 => if k = true then b X { E with nx := fun r3 => I r3 ∧ m r3 < m r1, ct := fun r3 => I r3 ∧ m r3 < m r1, bk := E.nx } r2 else E.nx r2) r1
/-- what a for walks: the items, and what must stay while it does -/
abbrev DI := XD → (List D → (Env → Prop) → Env → Prop) → Env → Prop
@[simp] def alOk (ks : List Nat) : T → Prop
  | .al i => i ∈ ks
  | _ => True
@[simp] def iSeq (ks : List Nat) (e : DE) (X : XD) (Q : (List D → (Env → Prop) → Env → Prop)) (r : Env) : Prop := e X (fun t r1 => alOk ks t ∧ match rdT r1 t with
  | some (.lst ds) => Q ds (fun r2 => rdT r2 t = some (.lst ds)) r1
  | some (.scr ns) => Q (li ns) (fun r2 => rdT r2 t = some (.scr ns)) r1
  | some (.tup ds) => Q ds (fun r2 => rdT r2 t = some (.tup ds)) r1
  | some (.str s) => Q (s.map fun c => .str [c]) (fun _ => True) r1
  | _ => False) r
@[simp] def iTup (e : DE) (X : XD) (Q : (List D → (Env → Prop) → Env → Prop)) (r : Env) : Prop := e X (fun t r1 => match t with
  | .sh (.tup ds) => Q ds (fun _ => True) r1
  | _ => False) r
@[simp] def iRange (a : DA) (X : XD) (Q : (List D → (Env → Prop) → Env → Prop)) (r : Env) : Prop := a X (fun ts r1 => match reads r1 ts with
  | some [.int n] => (-(2 ^ 62) ≤ n ∧ n < 2 ^ 62) ∧ Q (li (upI 0 n.toNat)) (fun _ => True) r1
  | some [.int m, .int n] => (-(2 ^ 62) ≤ m ∧ m < 2 ^ 62 ∧ -(2 ^ 62) ≤ n ∧ n < 2 ^ 62) ∧ Q (li (upI m (n - m).toNat)) (fun _ => True) r1
  | _ => False) r
def enumD : Nat → List D → List D
  | _, [] => []
  | k, d :: ds => .tup [.int k, d] :: enumD (k + 1) ds
@[simp] def iEnum (ks : List Nat) (e : DE) (X : XD) (Q : (List D → (Env → Prop) → Env → Prop)) (r : Env) : Prop := e X (fun t r1 => alOk ks t ∧ match rdT r1 t with
  | some (.lst ds) => Q (enumD 0 ds) (fun r2 => rdT r2 t = some (.lst ds)) r1
  | _ => False) r
@[simp] def iStr (e : DE) (X : XD) (Q : (List D → (Env → Prop) → Env → Prop)) (r : Env) : Prop := e X (fun t r1 => match rdT r1 t with
  | some (.str s) => Q (s.map fun c => .str [c]) (fun _ => True) r1
  | _ => False) r
abbrev DG := D → Env → (Env → Prop) → Prop
@[simp] def gN (i : Nat) (d : D) (r : Env) (K : (Env → Prop)) : Prop := K (put r i (some (.sh d)))
abbrev DGs := List D → Env → (Env → Prop) → Prop
@[simp] def gNl (ds : List D) (r : Env) (K : (Env → Prop)) : Prop := ds = [] ∧ K r
@[simp] def gCn (g : DG) (gs : DGs) (ds : List D) (r : Env) (K : (Env → Prop)) : Prop := match ds with
  | d :: rest => g d r fun r1 => gs rest r1 K
  | [] => False
@[simp] def gTp (gs : DGs) (d : D) (r : Env) (K : (Env → Prop)) : Prop := match d with
  | .tup ds => gs ds r K
  | _ => False
/-- a for's turns over ds -/
def forOk (ds : List D) (st : Env → Prop) (g : DG) (b : DS) (X : XD) (E : DEnds) (r1 : Env) : Prop := ∃ I : Nat → Env → Prop, I 0 r1 ∧ (∀ i r2, i ≤ ds.length → I i r2 → st r2) ∧
  (∀ i d r2, ds[i]? = some d → I i r2 → g d r2 fun r3 => b X { E with nx := I (i + 1), ct := I (i + 1), bk := E.nx } r3) ∧ ∀ r2, I ds.length r2 → E.nx r2
@[simp] def dFor (it : DI) (g : DG) (b : DS) (X : XD) (E : DEnds) (r : Env) : Prop := it X (fun ds st r1 => forOk ds st g b X E r1) r
/-- target = e, a tuple unpacked -/
@[simp] def dSetG (g : DG) (e : DE) (X : XD) (E : DEnds) (r : Env) : Prop := e X (fun t r1 => match t with
  | .sh d => g d r1 E.nx
  | _ => False) r
@[simp] def wipeE (r : Env) : List Nat → Env
  | [] => r
  | v :: vs => put (wipeE r vs) v none
/-- a list comprehension: f tells for each item what is kept; vs: the comprehension's own slots -/
def lcOk (ds : List D) (st : Env → Prop) (g : DG) (c : DT) (e : DE) (vs : List Nat) (Q : QE) (r1 : Env) : Prop := ∃ f : D → Option D,
  (∀ r2, wipeE r2 vs = wipeE r1 vs → st r2) ∧
  (∀ d ∈ ds, g d (wipeE r1 vs) fun r2 => c (fun _ _ => False) (fun k r3 => if k = true then e (fun _ _ => False) (fun t r4 => wipeE r4 vs = wipeE r1 vs ∧ ∃ v, t = .sh v ∧ f d = some v) r3
    else wipeE r3 vs = wipeE r1 vs ∧ f d = none) r2) ∧
  ds.length ≤ 16777216 ∧ Q (.ol (ds.filterMap f)) (wipeE r1 vs)
@[simp] def dLC (it : DI) (g : DG) (c : DT) (e : DE) (vs : List Nat) (X : XD) (Q : QE) (r : Env) : Prop := it X (fun ds st r1 => lcOk ds st g c e vs Q r1) r
@[simp] def dYes (_a0 : XD) (Q : (Bool → Env → Prop)) (r : Env) : Prop := Q true r
/-- try: b except c: s (without a name) -/
@[simp] def dTry (sub : Nat → Bool) (b s : DS) (X : XD) (E : DEnds) (r : Env) : Prop := b (fun e r1 => if sub e.cls = true then s (fun _ _ => False) E r1 else X e r1) E r
/-- an own def's start: its arguments by mode, then nothing -/
@[simp] def argT : Bool → D → T
  | false, .lst ds => .bor (.lst ds)
  | false, .dic kvs => .bor (.dic kvs)
  | _, d => .sh d
@[simp] def startE : List Bool → List D → Nat → Env
  | m :: ms, d :: ds, n => some (argT m d) :: startE ms ds n
  | _, _, n => List.replicate n none
def rtOf (Q : T → Prop) : T → Prop
  | .sh d => Q (.sh d)
  | .ol ds => Q (.ol ds)
  | .own f => Q (.own f)
  | _ => False
/-- a body keeps the promise S -/
def Keeps (ms : List Bool) (n : Nat) (S : Spec) (b : DS) : Prop := ∀ ds X Q, S ds X Q → ds.length = ms.length ∧ b (fun e _ => X e) ⟨fun _ => Q (.sh .non), fun t _ => rtOf Q t, fun _ => False, fun _ => False⟩ (startE ms ds n)
/-- the law's promise: true, whatever the script -/
def SLaw : Spec := fun ds _ Q => ∃ ns : List Int, ds = [.scr ns] ∧ ns.length ≤ 63 ∧ Q (.sh (.bl true))
section
variable (r : Env) (Q : T → Prop) (K : Bool → Prop)
@[simp] theorem rdT_sh (d : D) : rdT r (.sh d) = some d := rfl
@[simp] theorem rdT_bor (d : D) : rdT r (.bor d) = some d := rfl
@[simp] theorem rdT_ol (ds : List D) : rdT r (.ol ds) = some (.lst ds) := rfl
@[simp] theorem rdT_al (i : Nat) : rdT r (.al i) = match look r i with
    | some t => t.rd
    | none => none := rfl
@[simp] theorem rd_sh (d : D) : T.rd (.sh d) = some d := rfl
@[simp] theorem rd_bor (d : D) : T.rd (.bor d) = some d := rfl
@[simp] theorem rd_ol (ds : List D) : T.rd (.ol ds) = some (.lst ds) := rfl
@[simp] theorem rd_own (f : F) : T.rd (.own f) = f.rd := rfl
@[simp] theorem rdT_own (f : F) : rdT r (.own f) = f.rd := rfl
@[simp] theorem rdT_ptr (i : Nat) (p : List Nat) (q : Nat) : rdT r (.ptr i p q) = match getP r i p q with
    | some f => f.rd
    | none => none := rfl
@[simp] theorem oI0_int (g : Int → Int → D) (i j : Int) : oI0 g (.int i) (.int j) Q = Q (.sh (g i j)) := rfl
@[simp] theorem oI_int (C : Int → Int → Prop) (g : Int → Int → D) (i j : Int) : oI C g (.int i) (.int j) Q = (C i j ∧ Q (.sh (g i j))) := rfl
@[simp] theorem oAdd_int (i j : Int) : oAdd (.int i) (.int j) Q = Q (.sh (.int (i + j))) := rfl
@[simp] theorem oAdd_lst (xs ys : List D) : oAdd (.lst xs) (.lst ys) Q = (xs.length + ys.length ≤ 16777216 ∧ Q (.ol (xs ++ ys))) := rfl
@[simp] theorem oAdd_str (s t : List Nat) : oAdd (.str s) (.str t) Q = (s.length + t.length ≤ 16777216 ∧ Q (.sh (.str (s ++ t)))) := rfl
@[simp] theorem oAdd_tup (xs ys : List D) : oAdd (.tup xs) (.tup ys) Q = (xs.length + ys.length ≤ 16777216 ∧ Q (.sh (.tup (xs ++ ys)))) := rfl
@[simp] theorem oMul_int (i j : Int) : oMul (.int i) (.int j) Q = (((-(2 ^ 64) < i ∧ i < 2 ^ 64) ∨ (-(2 ^ 64) < j ∧ j < 2 ^ 64)) ∧ Q (.sh (.int (i * j)))) := rfl
@[simp] theorem oMul_lst (xs : List D) (k : Int) : oMul (.lst xs) (.int k) Q = ((k < 2 ^ 63 ∧ -(2 ^ 63) ≤ k ∧ xs.length * k.toNat ≤ 16777216) ∧ Q (.ol (List.replicate k.toNat xs).flatten)) := rfl
@[simp] theorem oIx_lst (xs : List D) (i : Int) : oIx (.lst xs) (.int i) Q = match atD xs i with
    | some d => Q (.sh d)
    | none => False := rfl
@[simp] theorem oIx_tup (xs : List D) (i : Int) : oIx (.tup xs) (.int i) Q = match atD xs i with
    | some d => Q (.sh d)
    | none => False := rfl
@[simp] theorem oIx_scr (xs : List Int) (i : Int) : oIx (.scr xs) (.int i) Q = match atD xs i with
    | some d => Q (.sh (.int d))
    | none => False := rfl
@[simp] theorem oIx_str (s : List Nat) (i : Int) : oIx (.str s) (.int i) Q = (s.length ≤ 16777216 ∧ match atD s i with
    | some c => Q (.sh (.str [c]))
    | none => False) := rfl
@[simp] theorem truD_non : truD .non K = K false := rfl
@[simp] theorem truD_bl (b : Bool) : truD (.bl b) K = K b := rfl
@[simp] theorem truD_int (i : Int) : truD (.int i) K = K (i != 0) := rfl
@[simp] theorem truD_str (s : List Nat) : truD (.str s) K = (s.length ≤ 16777216 ∧ K (s.length != 0)) := rfl
@[simp] theorem truD_lst (xs : List D) : truD (.lst xs) K = K (!xs.isEmpty) := rfl
@[simp] theorem truD_tup (xs : List D) : truD (.tup xs) K = K (!xs.isEmpty) := rfl
@[simp] theorem uNeg_int (i : Int) : uNeg (.int i) Q = Q (.sh (.int (-i))) := rfl
@[simp] theorem isNon_non : isNon .non = true := rfl
@[simp] theorem isNon_int (i : Int) : isNon (.int i) = false := rfl
@[simp] theorem isNon_bl (b : Bool) : isNon (.bl b) = false := rfl
@[simp] theorem isNon_str (s : List Nat) : isNon (.str s) = false := rfl
@[simp] theorem isNon_lst (s : List D) : isNon (.lst s) = false := rfl
@[simp] theorem isNon_tup (s : List D) : isNon (.tup s) = false := rfl
end
@[simp] theorem rtOf_sh (Q : T → Prop) (d : D) : rtOf Q (.sh d) = Q (.sh d) := rfl
@[simp] theorem rtOf_ol (Q : T → Prop) (d : List D) : rtOf Q (.ol d) = Q (.ol d) := rfl
@[simp] theorem rtOf_own (Q : T → Prop) (f : F) : rtOf Q (.own f) = Q (.own f) := rfl
/-! ### turns -/
section
variable {st : Env → Prop} {g : DG} {b : DS} {X : XD} {E : DEnds} {r : Env}
/-- a for over any data -/
theorem fo_lst {ds : List D} (I : Nat → Env → Prop) (h0 : I 0 r) (hst : ∀ i r2, I i r2 → st r2) (step : ∀ i r2 (hi : i < ds.length), I i r2 → g ds[i] r2 fun r3 => b X { E with nx := I (i + 1), ct := I (i + 1), bk := E.nx } r3) (fin : ∀ r2, I ds.length r2 → E.nx r2) :
    forOk ds st g b X E r := ⟨I, h0, fun i r2 _ h => hst i r2 h, fun i d r2 hd h => by
    obtain ⟨hi, rfl⟩ := List.getElem?_eq_some_iff.mp hd
    exact step i r2 hi h, fin⟩
/-- over ints -/
theorem fo_li {ns : List Int} (I : Nat → Env → Prop) (h0 : I 0 r) (hst : ∀ i r2, I i r2 → st r2) (step : ∀ i r2 (hi : i < ns.length), I i r2 → g (.int ns[i]) r2 fun r3 => b X { E with nx := I (i + 1), ct := I (i + 1), bk := E.nx } r3) (fin : ∀ r2, I ns.length r2 → E.nx r2) :
    forOk (ns.map D.int) st g b X E r := fo_lst I h0 hst (fun i r2 hi h => by
    rw [List.getElem_map]
    exact step i r2 (by simpa using hi) h) (by rw [List.length_map]; exact fin)
/-- over a range -/
theorem fo_up {a : Int} {n : Nat} (I : Nat → Env → Prop) (h0 : I 0 r) (step : ∀ i r2, i < n → I i r2 → g (.int (a + i)) r2 fun r3 => b X { E with nx := I (i + 1), ct := I (i + 1), bk := E.nx } r3) (fin : ∀ r2, I n r2 → E.nx r2) :
    forOk ((upI a n).map D.int) (fun _ => True) g b X E r := fo_li I h0 (fun _ _ _ => trivial) (fun i r2 hi h => by
    have e : (upI a n)[i] = a + i := by simp [upI]
    rw [e]
    exact step i r2 (by simpa [upI] using hi) h) (by simpa [upI] using fin)
theorem en_get : ∀ (ds : List D) (k i : Nat), (enumD k ds)[i]? = (ds[i]?).map fun d => D.tup [.int ((k + i : Nat) : Int), d]
  | [], _, _ => by simp [enumD]
  | d :: ds, k, 0 => by simp [enumD]
  | d :: ds, k, i + 1 => by
    have := en_get ds (k + 1) i
    simp only [enumD, List.getElem?_cons_succ, this]
    have e : k + 1 + i = k + (i + 1) := by omega
    rw [e]
@[simp] theorem en_length : ∀ (ds : List D) (k : Nat), (enumD k ds).length = ds.length
  | [], _ => rfl
  | d :: ds, k => congrArg (· + 1) (en_length ds (k + 1))
/-- over enumerate of any data -/
theorem fo_enum {ds : List D} (I : Nat → Env → Prop) (h0 : I 0 r) (hst : ∀ i r2, I i r2 → st r2) (step : ∀ i r2 (hi : i < ds.length), I i r2 → g (.tup [.int i, ds[i]]) r2 fun r3 => b X { E with nx := I (i + 1), ct := I (i + 1), bk := E.nx } r3) (fin : ∀ r2, I ds.length r2 → E.nx r2) :
    forOk (enumD 0 ds) st g b X E r := by
  refine ⟨I, h0, fun i r2 _ h => hst i r2 h, fun i d r2 hd h => ?_, by rw [en_length]; exact fin⟩
  rw [en_get] at hd
  by_cases hi : i < ds.length
  · rw [List.getElem?_eq_getElem hi] at hd
    simp only [Option.map_some, Option.some.injEq, Nat.zero_add] at hd
    rw [← hd]
    exact step i r2 hi h
  · rw [List.getElem?_eq_none (by omega)] at hd
    cases hd
variable {c : DT} {e : DE} {vs : List Nat} {P : QE}
/-- a comprehension that keeps all: by place -/
theorem lc_lst {ds : List D} (f : D → D) (hst : ∀ r2, wipeE r2 vs = wipeE r vs → st r2) (hl : ds.length ≤ 16777216)
    (step : ∀ d ∈ ds, g d (wipeE r vs) fun r2 => e (fun _ _ => False) (fun t r4 => wipeE r4 vs = wipeE r vs ∧ t = .sh (f d)) r2) (h : P (.ol (ds.map f)) (wipeE r vs)) : lcOk ds st g dYes e vs P r := by
  refine ⟨fun d => some (f d), hst, fun d hd => ?_, hl, by simpa using h⟩
  simp only [dYes, if_true]
  have := step d hd
  simpa using this
/-- of ints to ints -/
theorem lc_li {ns : List Int} (f : Int → Int) (hst : ∀ r2, wipeE r2 vs = wipeE r vs → st r2) (hl : ns.length ≤ 16777216)
    (step : ∀ d ∈ ns, g (.int d) (wipeE r vs) fun r2 => e (fun _ _ => False) (fun t r4 => wipeE r4 vs = wipeE r vs ∧ t = .sh (.int (f d))) r2) (h : P (.ol ((ns.map f).map D.int)) (wipeE r vs)) : lcOk (ns.map D.int) st g dYes e vs P r := by
  refine lc_lst (fun d => match d with
    | .int i => .int (f i)
    | d => d) hst (by simpa using hl) (fun d hd => ?_) ?_
  · obtain ⟨i, hi, rfl⟩ := List.mem_map.mp hd
    exact step i hi
  · rw [List.map_map] at h ⊢
    exact h
end
end J

/-! JD2: more readings over plain data: a list's own methods, several clauses of a try, what kind a thing is. -/
namespace J
/-- the classes of errors stand in one row; the 0th is above all others -/
def subErr (k m : Nat) : Bool := k == 0 || k == m
@[simp] theorem subErr_0 (m : Nat) : subErr 0 m = true := rfl
@[simp] theorem subErr_lit (k m : Nat) : subErr (k + 1) m = (k + 1 == m) := rfl
def pickX (Y : XD) (E : DEnds) : List (Nat × DS) → Err → Env → Prop
  | [], e, r => Y e r
  | (k, s) :: rest, e, r => if subErr k e.cls = true then s (fun _ _ => False) E r else pickX Y E rest e r
@[simp] theorem pickX_nil (Y : XD) (E : DEnds) (e : Err) (r : Env) : pickX Y E [] e r = Y e r := rfl
@[simp] theorem pickX_cons (Y : XD) (E : DEnds) (k : Nat) (s : DS) (rest : List (Nat × DS)) (e : Err) (r : Env) :
    pickX Y E ((k, s) :: rest) e r = if subErr k e.cls = true then s (fun _ _ => False) E r else pickX Y E rest e r := rfl
/-- try: b, clauses without a name -/
@[simp] def dTryM (b : DS) (cs : List (Nat × DS)) (X : XD) (E : DEnds) (r : Env) : Prop := b (fun e r1 => pickX X E cs e r1) E r
/-- errors that are held are forgotten -/
def clT : Option T → Option T
  | some (.exc _ _) => none
  | t => t
@[simp] theorem clT_none : clT none = none := rfl
@[simp] theorem clT_sh (d : D) : clT (some (.sh d)) = some (.sh d) := rfl
@[simp] theorem clT_bor (d : D) : clT (some (.bor d)) = some (.bor d) := rfl
@[simp] theorem clT_ol (d : List D) : clT (some (.ol d)) = some (.ol d) := rfl
@[simp] theorem clT_own (f : F) : clT (some (.own f)) = some (.own f) := rfl
@[simp] theorem clT_ptr (i : Nat) (p : List Nat) (q : Nat) : clT (some (.ptr i p q)) = some (.ptr i p q) := rfl
@[simp] theorem clT_exc (n : Nat) (d : List D) : clT (some (.exc n d)) = none := rfl
@[simp] def clE (r : Env) : Env := r.map clT
def noXT : T → Prop
  | .exc _ _ => False
  | _ => True
@[simp] theorem noXT_sh (d : D) : noXT (.sh d) = True := rfl
@[simp] theorem noXT_ol (d : List D) : noXT (.ol d) = True := rfl
@[simp] theorem noXT_own (f : F) : noXT (.own f) = True := rfl
@[simp] def asE (i : Nat) (E : DEnds) : DEnds := ⟨fun r => E.nx (clE (put r i none)), fun t r => noXT t ∧ E.rt t (clE r), fun r => E.bk (clE (put r i none)), fun r => E.ct (clE (put r i none))⟩
/-- try: b except k as i: s -/
@[simp] def dTryAs (k i : Nat) (b s : DS) (X : XD) (E : DEnds) (r : Env) : Prop :=
  b (fun e r1 => if subErr k e.cls = true then s (fun _ _ => False) (asE i E) (put r1 i (some (.exc e.cls e.vals))) else X e r1) E r
/-- isinstance(e, C), e the held error; ValueError is above all of them -/
@[simp] def dIsX (k : Nat) (i : Nat) (X : XD) (Q : QE) (r : Env) : Prop := match look r i with
  | some (.exc n _) => Q (.sh (.bl (subErr k n))) r
  | _ => False
/-- what kind a thing is -/
inductive Ty where
  | non | bl | int | str | lst | tup
def tyD : D → Option Ty
  | .non => some .non
  | .bl _ => some .bl
  | .int _ => some .int
  | .str _ => some .str
  | .lst _ => some .lst
  | .tup _ => some .tup
  | _ => none
def subT : Ty → Ty → Bool
  | .non, .non => true
  | .bl, .bl => true
  | .int, .int => true
  | .str, .str => true
  | .lst, .lst => true
  | .tup, .tup => true
  | .bl, .int => true
  | _, _ => false
@[simp] def uIsTy (u : Ty) (x : D) (Q : T → Prop) : Prop := match tyD x with
  | some t => Q (.sh (.bl (subT t u)))
  | none => False
@[simp] theorem tyD_non : tyD .non = some .non := rfl
@[simp] theorem tyD_bl (b : Bool) : tyD (.bl b) = some .bl := rfl
@[simp] theorem tyD_int (i : Int) : tyD (.int i) = some .int := rfl
@[simp] theorem tyD_str (s : List Nat) : tyD (.str s) = some .str := rfl
@[simp] theorem tyD_lst (s : List D) : tyD (.lst s) = some .lst := rfl
@[simp] theorem tyD_tup (s : List D) : tyD (.tup s) = some .tup := rfl
/-- o.m(e), o a list that is only read -/
@[simp] def dMl (m : R2D) (o e : DE) (X : XD) (Q : QE) (r : Env) : Prop := o X (fun ta r1 => (∃ ds, rdT r1 ta = some (.lst ds)) ∧ e X (fun tb r2 => match rdT r2 ta, rdT r2 tb with
  | some x, some y => m x y fun t => Q t r2
  | _, _ => False) r1) r
/-- the first place of a flat thing -/
def mIndex (x y : D) (Q : T → Prop) : Prop := match x with
  | .lst xs => (flatD y = true ∧ xs.all flatD = true) ∧ match xs.findIdx? fun z => eqD z y with
    | some j => Q (.sh (.int (j : Nat)))
    | none => False
  | _ => False
/-- xs.insert(a, b) -/
@[simp] def dIns (i : Nat) (a b : DE) (X : XD) (Q : QE) (r : Env) : Prop := isOl (look r i) ∧ a X (fun u r0 => b X (fun t r1 => match rdT r1 u, t, look r1 i with
  | some (.int k), .sh d, some (.ol ds) => (0 ≤ k ∧ k < 2 ^ 62) ∧ ds.length < 16777216 ∧ Q (.sh .non) (put r1 i (some (.ol (ds.take k.toNat ++ [d] ++ ds.drop k.toNat))))
  | _, _, _ => False) r0) r
def downI (lo : Int) (n : Nat) : List Int := (List.range n).map fun (k : Nat) => lo - (k : Int)
/-- range(a, b, -1) -/
@[simp] def iRangeD (a : DA) (X : XD) (Q : List D → (Env → Prop) → Env → Prop) (r : Env) : Prop := a X (fun ts r1 => match reads r1 ts with
  | some [.int m, .int n, .int c] => c = -1 ∧ (-(2 ^ 62) ≤ m ∧ m < 2 ^ 62 ∧ -(2 ^ 62) ≤ n ∧ n < 2 ^ 62) ∧ Q (li (downI m (m - n).toNat)) (fun _ => True) r1
  | _ => False) r
end J

/-! JD3: defs that change the list that they are handed first. -/
namespace J
/-- such a def: the list as it stands, the other arguments, what follows (the value, the list then) -/
abbrev SpecM := List D → List D → (T → List D → Prop) → Prop
def noAl (i : Nat) : List T → Prop
  | [] => True
  | .al j :: ts => j ≠ i ∧ noAl i ts
  | .ptr j _ _ :: ts => j ≠ i ∧ noAl i ts
  | _ :: ts => noAl i ts
@[simp] theorem noAl_nil (i : Nat) : noAl i [] = True := rfl
@[simp] theorem noAl_al (i j : Nat) (ts : List T) : noAl i (.al j :: ts) = (j ≠ i ∧ noAl i ts) := rfl
@[simp] theorem noAl_sh (i : Nat) (d : D) (ts : List T) : noAl i (.sh d :: ts) = noAl i ts := rfl
@[simp] theorem noAl_ol (i : Nat) (d : List D) (ts : List T) : noAl i (.ol d :: ts) = noAl i ts := rfl
@[simp] theorem noAl_own (i : Nat) (f : F) (ts : List T) : noAl i (.own f :: ts) = noAl i ts := rfl
@[simp] theorem noAl_ptr (i j : Nat) (p : List Nat) (q : Nat) (ts : List T) : noAl i (.ptr j p q :: ts) = (j ≠ i ∧ noAl i ts) := rfl
@[simp] theorem noAl_bor (i : Nat) (d : D) (ts : List T) : noAl i (.bor d :: ts) = noAl i ts := rfl
@[simp] def dCallM (i : Nat) (ms : List Bool) (S : SpecM) (a : DA) (X : XD) (Q : QE) (r : Env) : Prop := isOl (look r i) ∧ a X (fun ts r1 => capOk ms ts = true ∧ noAl i ts ∧ match look r1 i, reads r1 ts with
  | some (.ol es), some ds => S es ds fun t es' => Q t (put r1 i (some (.ol es')))
  | _, _ => False) r
@[simp] def finM (Q : T → List D → Prop) (t : T) (r : Env) : Prop := match look r 0 with
  | some (.ol es) => rtOf (fun u => Q u es) t
  | _ => False
/-- a body keeps the promise S; its first parameter is the list -/
def KeepsM (ms : List Bool) (n : Nat) (S : SpecM) (b : DS) : Prop := ∀ es ds Q, S es ds Q → ds.length = ms.length ∧ b (fun _ _ => False) ⟨fun r => finM Q (.sh .non) r, fun t r => finM Q t r, fun _ => False, fun _ => False⟩ (some (.ol es) :: startE ms ds n)
end J

/-! JD4: not by truth, extend, the greatest and the least of a list. -/
namespace J
/-- not e as a value, e by its truth -/
@[simp] def dNotT (e : DE) (X : XD) (Q : QE) (r : Env) : Prop := e X (fun t r1 => match rdT r1 t with
  | some d => truD d fun b => Q (.sh (.bl (!b))) r1
  | none => False) r
/-- xs.extend(e) -/
@[simp] def dExt (i : Nat) (e : DE) (X : XD) (Q : QE) (r : Env) : Prop := isOl (look r i) ∧ e X (fun t r1 => match rdT r1 t, look r1 i with
  | some (.lst es), some (.ol ds) => t ≠ .al i ∧ ds.length + es.length ≤ 16777216 ∧ Q (.sh .non) (put r1 i (some (.ol (ds ++ es))))
  | _, _ => False) r
/-- the greatest of whole numbers -/
def maxI (n : Int) (ns : List Int) : Int := ns.foldl max n
def minI (n : Int) (ns : List Int) : Int := ns.foldl min n
theorem le_maxI : ∀ (ns : List Int) (n x : Int), x = n ∨ x ∈ ns → x ≤ maxI n ns
  | [], n, x, h => by
    rcases h with h | h
    · exact Int.le_of_eq h
    · simp at h
  | m :: ns, n, x, h => by
    show x ≤ maxI (max n m) ns
    rcases h with h | h
    · exact Int.le_trans (by omega) (le_maxI ns (max n m) (max n m) (Or.inl rfl))
    · rcases List.mem_cons.mp h with h | h
      · exact Int.le_trans (by omega) (le_maxI ns (max n m) (max n m) (Or.inl rfl))
      · exact le_maxI ns _ x (Or.inr h)
theorem maxI_mem : ∀ (ns : List Int) (n : Int), maxI n ns = n ∨ maxI n ns ∈ ns
  | [], n => Or.inl rfl
  | m :: ns, n => by
    show maxI (max n m) ns = n ∨ maxI (max n m) ns ∈ m :: ns
    rcases maxI_mem ns (max n m) with h | h
    · rw [h]
      by_cases q : m ≤ n
      · exact Or.inl (by omega)
      · exact Or.inr (List.mem_cons.mpr (Or.inl (by omega)))
    · exact Or.inr (List.mem_cons_of_mem _ h)
theorem minI_le : ∀ (ns : List Int) (n x : Int), x = n ∨ x ∈ ns → minI n ns ≤ x
  | [], n, x, h => by
    rcases h with h | h
    · exact Int.le_of_eq h.symm
    · simp at h
  | m :: ns, n, x, h => by
    show minI (min n m) ns ≤ x
    rcases h with h | h
    · exact Int.le_trans (minI_le ns (min n m) (min n m) (Or.inl rfl)) (by omega)
    · rcases List.mem_cons.mp h with h | h
      · exact Int.le_trans (minI_le ns (min n m) (min n m) (Or.inl rfl)) (by omega)
      · exact minI_le ns _ x (Or.inr h)
theorem minI_mem : ∀ (ns : List Int) (n : Int), minI n ns = n ∨ minI n ns ∈ ns
  | [], n => Or.inl rfl
  | m :: ns, n => by
    show minI (min n m) ns = n ∨ minI (min n m) ns ∈ m :: ns
    rcases minI_mem ns (min n m) with h | h
    · rw [h]
      by_cases q : n ≤ m
      · exact Or.inl (by omega)
      · exact Or.inr (List.mem_cons.mpr (Or.inl (by omega)))
    · exact Or.inr (List.mem_cons_of_mem _ h)
def cMax1 : RCD := fun ds Q => match ds with
  | [.lst xs] => match intsOf xs with
    | some (n :: ns) => Q (.sh (.int (maxI n ns)))
    | _ => False
  | _ => False
def cMin1 : RCD := fun ds Q => match ds with
  | [.lst xs] => match intsOf xs with
    | some (n :: ns) => Q (.sh (.int (minI n ns)))
    | _ => False
  | _ => False
end J

/-! JD5: comprehensions whose items change the slots. -/
namespace J
/-- a list comprehension's turns: behind i items acc is kept, the slots are as I says (the comprehension's own names are empty then) -/
def lcSt (ds : List D) (st : Env → Prop) (g : DG) (c : DT) (e : DE) (vs : List Nat) (Q : QE) (r1 : Env) : Prop := ∃ I : Nat → List D → Env → Prop,
  I 0 [] (wipeE r1 vs) ∧ (∀ i acc r2, I i acc r2 → st r2 ∧ acc.length ≤ i ∧ wipeE r2 vs = r2) ∧
  (∀ i d acc r2, ds[i]? = some d → I i acc r2 → g d r2 fun r3 => c (fun _ _ => False) (fun k r4 => if k = true then e (fun _ _ => False) (fun t r5 => ∃ v, t = .sh v ∧ I (i + 1) (acc ++ [v]) (wipeE r5 vs)) r4
    else I (i + 1) acc (wipeE r4 vs)) r3) ∧
  ds.length ≤ 16777216 ∧ ∀ acc r2, I ds.length acc r2 → Q (.ol acc) r2
@[simp] def dLCs (it : DI) (g : DG) (c : DT) (e : DE) (vs : List Nat) (X : XD) (Q : QE) (r : Env) : Prop := it X (fun ds st r1 => lcSt ds st g c e vs Q r1) r
/-- the inner turns of a comprehension with two for: behind j items of the inner row acc is kept -/
def lcIn (ds : List D) (st : Env → Prop) (g : DG) (c : DT) (e : DE) (vs : List Nat) (acc0 : List D) (Q : List D → Env → Prop) (r1 : Env) : Prop := ∃ I : Nat → List D → Env → Prop,
  I 0 acc0 (wipeE r1 vs) ∧ (∀ i acc r2, I i acc r2 → st r2 ∧ acc.length ≤ 16777215 ∧ wipeE r2 vs = r2) ∧
  (∀ i d acc r2, ds[i]? = some d → I i acc r2 → g d r2 fun r3 => c (fun _ _ => False) (fun k r4 => if k = true then e (fun _ _ => False) (fun t r5 => ∃ v, t = .sh v ∧ I (i + 1) (acc ++ [v]) (wipeE r5 vs)) r4
    else I (i + 1) acc (wipeE r4 vs)) r3) ∧ ∀ acc r2, I ds.length acc r2 → Q acc r2
/-- its outer turns -/
def lcOut (ds : List D) (st : Env → Prop) (g : DG) (c : DT) (it1 : DI) (g1 : DG) (c1 : DT) (e : DE) (vs vs1 : List Nat) (Q : QE) (r1 : Env) : Prop := ∃ I : Nat → List D → Env → Prop,
  I 0 [] (wipeE r1 vs) ∧ (∀ i acc r2, I i acc r2 → st r2 ∧ wipeE r2 vs = r2) ∧
  (∀ i d acc r2, ds[i]? = some d → I i acc r2 → g d r2 fun r3 => c (fun _ _ => False) (fun k r4 => if k = true then it1 (fun _ _ => False) (fun ds1 st1 r5 => lcIn ds1 st1 g1 c1 e vs1 acc (fun acc2 r6 => I (i + 1) acc2 (wipeE r6 vs)) r5) r4
    else I (i + 1) acc (wipeE r4 vs)) r3) ∧ ∀ acc r2, I ds.length acc r2 → Q (.ol acc) r2
@[simp] def dLC2 (it : DI) (g : DG) (c : DT) (it1 : DI) (g1 : DG) (c1 : DT) (e : DE) (vs vs1 : List Nat) (X : XD) (Q : QE) (r : Env) : Prop := it X (fun ds st r1 => lcOut ds st g c it1 g1 c1 e vs vs1 Q r1) r
/-- enumerate(e), e a list or a tuple -/
@[simp] def iEnA (ks : List Nat) (e : DE) (X : XD) (Q : List D → (Env → Prop) → Env → Prop) (r : Env) : Prop := e X (fun t r1 => alOk ks t ∧ match rdT r1 t with
  | some (.lst ds) => Q (enumD 0 ds) (fun r2 => rdT r2 t = some (.lst ds)) r1
  | some (.tup ds) => Q (enumD 0 ds) (fun r2 => rdT r2 t = some (.tup ds)) r1
  | _ => False) r
end J

/-! JD6: one list of ints ahead of another one. -/
namespace J
/-- by the first place that differs; a beginning is less -/
def ltI : List Int → List Int → Bool
  | [], [] => false
  | [], _ :: _ => true
  | _ :: _, [] => false
  | x :: xs, y :: ys => if x = y then ltI xs ys else decide (x < y)
/-- a < b: ints, lists of ints, tuples of ints -/
def oLtA (x y : D) (Q : T → Prop) : Prop := match x, y with
  | .int i, .int j => Q (.sh (.bl (decide (i < j))))
  | .lst xs, .lst ys => match intsOf xs, intsOf ys with
    | some ns, some ms => Q (.sh (.bl (ltI ns ms)))
    | _, _ => False
  | _, _ => False
@[simp] theorem oLtA_int (i j : Int) (Q : T → Prop) : oLtA (.int i) (.int j) Q = Q (.sh (.bl (decide (i < j)))) := rfl
end J

/-! JD7: objects: their fields, their making, their methods. -/
namespace J
theorem lookP_ne : ∀ {r : Env} {i j : Nat} {t : Option T}, i ≠ j → look (put r i t) j = look r j
  | [], _, _, _, _ => rfl
  | _ :: _, 0, 0, _, h => absurd rfl h
  | _ :: _, 0, _ + 1, _, _ => rfl
  | _ :: _, _ + 1, 0, _, _ => rfl
  | _ :: r, i + 1, j + 1, t, h => lookP_ne (r := r) (i := i) (j := j) (fun e => h (by rw [e]))
theorem lookW_ne : ∀ {vs : List Nat} {r : Env} {j : Nat}, j ∉ vs → look (wipeE r vs) j = look r j
  | [], _, _, _ => rfl
  | v :: vs, r, j, h => by
    show look (put (wipeE r vs) v none) j = _
    rw [lookP_ne (fun e => h (by rw [e]; exact List.mem_cons_self)), lookW_ne fun q => h (List.mem_cons_of_mem _ q)]
/-- a comprehension's own slots stand apart from the slot j -/
theorem lookV_wipe {vs : List Nat} {r r2 : Env} {j : Nat} (hj : j ∉ vs) (h : wipeE r2 vs = wipeE r vs) : look r2 j = look r j := by
  rw [← lookW_ne (r := r2) hj, h, lookW_ne hj]
/-- the slot j put in -/
@[simp] def insE : Nat → Option T → Env → Env
  | 0, t, r => t :: r
  | _ + 1, t, [] => [t]
  | n + 1, t, x :: r => x :: insE n t r
/-- f(.., xs, ..), f changes xs, the slot i, its j-th argument -/
@[simp] def dCallP (i j : Nat) (ms : List Bool) (S : SpecM) (a : DA) (X : XD) (Q : QE) (r : Env) : Prop := a X (fun ts r1 => ts[j]? = some (.al i) ∧ capOk ms (ts.eraseIdx j) = true ∧ noAl i (ts.eraseIdx j) ∧ match look r1 i, reads r1 (ts.eraseIdx j) with
  | some (.ol es), some ds => S es ds fun t es' => Q t (put r1 i (some (.ol es')))
  | _, _ => False) r
@[simp] def finP (j : Nat) (Q : T → List D → Prop) (t : T) (r : Env) : Prop := match look r j with
  | some (.ol es) => rtOf (fun u => Q u es) t
  | _ => False
/-- a body keeps the promise S; its parameter j is the list -/
def KeepsP (j : Nat) (ms : List Bool) (n : Nat) (S : SpecM) (b : DS) : Prop := ∀ es ds Q, S es ds Q → ds.length = ms.length ∧ b (fun _ _ => False) ⟨fun r => finP j Q (.sh .non) r, fun t r => finP j Q t r, fun _ => False, fun _ => False⟩ (insE j (some (.ol es)) (startE ms ds n))
/-- which place a class's field has -/
def fX (c : Nat) (f : PySem.Str) : Option Nat := (clsT c).2.findIdx? (· == f)
def shF : Option F → Option D
  | some (.sh d) => some d
  | _ => none
@[simp] theorem shF_none : shF none = none := rfl
@[simp] theorem shF_sh (d : D) : shF (some (.sh d)) = some d := rfl
@[simp] theorem shF_ol (q : Nat) (d : List D) : shF (some (.ol q d)) = none := rfl
/-- a field that is shared data -/
def fldT (f : PySem.Str) : T → Option D
  | .sh (.obj c ds) => (fX c f).bind fun k => ds[k]?
  | .own (.nd _ (some c) fs) => (fX c f).bind fun k => shF fs[k]?
  | _ => none
@[simp] theorem fldT_sh (f : PySem.Str) (c : Nat) (ds : List D) : fldT f (.sh (.obj c ds)) = (fX c f).bind fun k => ds[k]? := rfl
@[simp] theorem fldT_own (f : PySem.Str) (q c : Nat) (fs : List F) : fldT f (.own (.nd q (some c) fs)) = (fX c f).bind fun k => shF fs[k]? := rfl
/-- x.f, x the slot i -/
@[simp] def dFo (i : Nat) (f : PySem.Str) (_a0 : XD) (Q : QE) (r : Env) : Prop := match (look r i).bind (fldT f) with
  | some d => Q (.sh d) r
  | none => False
/-- e.f, e shared -/
@[simp] def dFs (f : PySem.Str) (e : DE) (X : XD) (Q : QE) (r : Env) : Prop := e X (fun t r1 => match t with
  | .sh (.obj c ds) => match (fX c f).bind (fun k => ds[k]?) with
    | some d => Q (.sh d) r1
    | none => False
  | _ => False) r
/-- what is handed on becomes a part (a list of one's own: whatever its name) -/
def leafA (t : T) (K : F → Prop) : Prop := match t with
  | .sh d => K (.sh d)
  | .ol ds => ∀ q, K (.ol q ds)
  | .own f => K f
  | _ => False
@[simp] theorem leafA_sh (d : D) (K : F → Prop) : leafA (.sh d) K = K (.sh d) := rfl
@[simp] theorem leafA_ol (ds : List D) (K : F → Prop) : leafA (.ol ds) K = ∀ q, K (.ol q ds) := rfl
@[simp] theorem leafA_own (f : F) (K : F → Prop) : leafA (.own f) K = K f := rfl
/-- the fields once one is set -/
@[simp] def setF (fs : List F) (k : Nat) (l : F) : Option (List F) := if k < fs.length then some (fs.set k l) else if k = fs.length then some (fs ++ [l]) else none
/-- x.f = e, x the slot i, one's own -/
@[simp] def dFSet (i : Nat) (f : PySem.Str) (e : DE) (X : XD) (E : DEnds) (r : Env) : Prop := e X (fun t r1 => leafA t fun l => match look r1 i with
  | some (.own (.nd q (some c) fs)) => match (fX c f).bind fun k => setF fs k l with
    | some fs' => E.nx (put r1 i (some (.own (.nd q (some c) fs'))))
    | none => False
  | _ => False) r
/-- a method that changes its object: the object, the other arguments, the way of an error, the way of a value -/
abbrev SpecO := F → List D → (Err → F → Prop) → (T → F → Prop) → Prop
@[simp] def isOw : Option T → Prop
  | some (.own _) => True
  | _ => False
/-- x.m(..), x the slot i -/
@[simp] def dMeth (i : Nat) (c : Nat) (ms : List Bool) (S : SpecO) (a : DA) (X : XD) (Q : QE) (r : Env) : Prop := (match look r i with
  | some (.own (.nd _ (some c') _)) => c' = c
  | _ => False) ∧ a X (fun ts r1 => capOk ms ts = true ∧ noAl i ts ∧ match look r1 i, reads r1 ts with
  | some (.own f), some ds => S f ds (fun e f' => X e (put r1 i (some (.own f')))) fun t f' => Q t (put r1 i (some (.own f')))
  | _, _ => False) r
/-- f(x, ..), x the slot i, one's own; f may change it -/
@[simp] def dCallOw (i : Nat) (ms : List Bool) (S : SpecO) (a : DA) (X : XD) (Q : QE) (r : Env) : Prop := isOw (look r i) ∧ a X (fun ts r1 => capOk ms ts = true ∧ noAl i ts ∧ match look r1 i, reads r1 ts with
  | some (.own f), some ds => S f ds (fun e f' => X e (put r1 i (some (.own f')))) fun t f' => Q t (put r1 i (some (.own f')))
  | _, _ => False) r
/-- e.m(..), e shared -/
@[simp] def dCallO (c : Nat) (ms : List Bool) (S : Spec) (e : DE) (a : DA) (X : XD) (Q : QE) (r : Env) : Prop := e X (fun t r1 => match t with
  | .sh (.obj c' fs) => c' = c ∧ a X (fun ts r2 => capOk ms ts = true ∧ match reads r2 ts with
    | some ds => S (.obj c' fs :: ds) (fun e => X e r2) (fun t => Q t r2)
    | none => False) r1
  | _ => False) r
/-- C(..) -/
@[simp] def dMake (c : Nat) (ms : List Bool) (S : SpecO) (a : DA) (X : XD) (Q : QE) (r : Env) : Prop := a X (fun ts r1 => capOk ms ts = true ∧ match reads r1 ts with
  | some ds => ∀ q, S (.nd q (some c) []) ds (fun e _ => X e r1) fun t f => t = .sh .non ∧ Q (.own f) r1
  | none => False) r
/-- x.p, a property, x the slot i -/
@[simp] def dProp (i : Nat) (c : Nat) (S : SpecO) (_a0 : XD) (Q : QE) (r : Env) : Prop := match look r i with
  | some (.own (.nd q (some c') fs)) => c' = c ∧ S (.nd q (some c') fs) [] (fun _ _ => False) fun t f' => Q t (put r i (some (.own f')))
  | _ => False
/-- e.p, a property, e shared -/
@[simp] def dPropS (c : Nat) (S : Spec) (e : DE) (X : XD) (Q : QE) (r : Env) : Prop := e X (fun t r1 => match t with
  | .sh (.obj c' fs) => c' = c ∧ S [.obj c' fs] (fun _ => False) fun t => Q t r1
  | _ => False) r
@[simp] def finO (Q : T → F → Prop) (t : T) (r : Env) : Prop := match look r 0 with
  | some (.own f) => rtOf (fun u => Q u f) t
  | _ => False
@[simp] def finX (X : Err → F → Prop) (e : Err) (r : Env) : Prop := match look r 0 with
  | some (.own f) => X e f
  | _ => False
/-- a body keeps the promise S; its first parameter is its object -/
def KeepsO (ms : List Bool) (n : Nat) (S : SpecO) (b : DS) : Prop := ∀ f ds X Q, S f ds X Q → ds.length = ms.length ∧ b (fun e r => finX X e r) ⟨fun r => finO Q (.sh .non) r, fun t r => finO Q t r, fun _ => False, fun _ => False⟩ (some (.own f) :: startE ms ds n)
@[simp] theorem fX_0_machine : fX 0 "machine" = some 0 := by decide
@[simp] theorem fX_0_state : fX 0 "state" = some 1 := by decide
@[simp] theorem fX_1_letters : fX 1 "letters" = some 0 := by decide
@[simp] theorem fX_1_table : fX 1 "table" = some 1 := by decide
@[simp] theorem fX_1_rows : fX 1 "rows" = some 2 := by decide
@[simp] theorem fX_2_sign : fX 2 "sign" = some 0 := by decide
@[simp] theorem fX_2_yards : fX 2 "yards" = some 1 := by decide
@[simp] theorem fX_3_text : fX 3 "text" = some 0 := by decide
@[simp] theorem fX_3_at : fX 3 "at" = some 1 := by decide
@[simp] theorem fX_3_kinds : fX 3 "kinds" = some 2 := by decide
@[simp] theorem fX_3_bounds : fX 3 "bounds" = some 3 := by decide
@[simp] theorem fX_3_links : fX 3 "links" = some 4 := by decide
@[simp] theorem fX_3_groups : fX 3 "groups" = some 5 := by decide
@[simp] theorem fX_4_text : fX 4 "text" = some 0 := by decide
@[simp] theorem fX_4_kinds : fX 4 "kinds" = some 1 := by decide
@[simp] theorem fX_4_bounds : fX 4 "bounds" = some 2 := by decide
@[simp] theorem fX_4_links : fX 4 "links" = some 3 := by decide
@[simp] theorem fX_5_yard : fX 5 "yard" = some 0 := by decide
@[simp] theorem fX_5_wagons : fX 5 "wagons" = some 1 := by decide
@[simp] theorem fX_5_met : fX 5 "met" = some 2 := by decide
@[simp] theorem fX_5_known : fX 5 "known" = some 3 := by decide
@[simp] theorem fX_5_origin : fX 5 "origin" = some 4 := by decide
@[simp] theorem fX_5_found : fX 5 "found" = some 5 := by decide
@[simp] theorem fX_6_yard : fX 6 "yard" = some 0 := by decide
@[simp] theorem fX_6_letters : fX 6 "letters" = some 1 := by decide
@[simp] theorem fX_7_one : fX 7 "one" = some 0 := by decide
@[simp] theorem fX_7_other : fX 7 "other" = some 1 := by decide
@[simp] theorem fX_7_pairs : fX 7 "pairs" = some 2 := by decide
@[simp] theorem fX_7_words : fX 7 "words" = some 3 := by decide
@[simp] theorem fX_7_known : fX 7 "known" = some 4 := by decide
@[simp] theorem fX_8_which : fX 8 "which" = some 0 := by decide
@[simp] theorem fX_8_places : fX 8 "places" = some 1 := by decide
@[simp] theorem fX_9_text : fX 9 "text" = some 0 := by decide
@[simp] theorem fX_9_at : fX 9 "at" = some 1 := by decide
@[simp] theorem fX_9_wagons : fX 9 "wagons" = some 2 := by decide
@[simp] theorem fX_10_yard : fX 10 "yard" = some 0 := by decide
@[simp] theorem fX_10_current : fX 10 "current" = some 1 := by decide
@[simp] theorem fX_10_wagons : fX 10 "wagons" = some 2 := by decide
@[simp] theorem fX_10_events : fX 10 "events" = some 3 := by decide
@[simp] theorem fX_11_text : fX 11 "text" = some 0 := by decide
@[simp] theorem fX_11_at : fX 11 "at" = some 1 := by decide
@[simp] theorem fX_11_kinds : fX 11 "kinds" = some 2 := by decide
@[simp] theorem fX_11_bounds : fX 11 "bounds" = some 3 := by decide
@[simp] theorem fX_11_links : fX 11 "links" = some 4 := by decide
@[simp] theorem fX_11_groups : fX 11 "groups" = some 5 := by decide
@[simp] theorem fX_12_letters : fX 12 "letters" = some 0 := by decide
@[simp] theorem fX_12_accepted : fX 12 "accepted" = some 1 := by decide
@[simp] theorem fX_12_table : fX 12 "table" = some 2 := by decide
@[simp] theorem fX_12_sink : fX 12 "sink" = some 3 := by decide
end J

/-! JD8: parts of own things: read, changed where they stand. -/
namespace J
/-- a part as an operand -/
def partT (i : Nat) (p : List Nat) : F → T
  | .sh d => .sh d
  | f => .ptr i p (idF f)
@[simp] theorem partT_sh (i : Nat) (p : List Nat) (d : D) : partT i p (.sh d) = .sh d := rfl
@[simp] theorem partT_ol (i : Nat) (p : List Nat) (q : Nat) (ds : List D) : partT i p (.ol q ds) = .ptr i p q := rfl
@[simp] theorem partT_nd (i : Nat) (p : List Nat) (q : Nat) (c : Option Nat) (fs : List F) : partT i p (.nd q c fs) = .ptr i p q := rfl
@[simp] theorem partT_od (i : Nat) (p : List Nat) (q : Nat) (kvs : List (D × D)) : partT i p (.od q kvs) = .ptr i p q := rfl
/-- the slot i, as the beginning of a path -/
@[simp] def dPn (i : Nat) (_a0 : XD) (Q : QE) (r : Env) : Prop := match look r i with
  | some (.own f) => Q (partT i [] f) r
  | some (.ptr j p q) => Q (.ptr j p q) r
  | some (.sh d) => Q (.sh d) r
  | _ => False
/-- e.f -/
@[simp] def dPf (f : PySem.Str) (e : DE) (X : XD) (Q : QE) (r : Env) : Prop := e X (fun t r1 => match t with
  | .sh (.obj c ds) => match (fX c f).bind (fun k => ds[k]?) with
    | some d => Q (.sh d) r1
    | none => False
  | .ptr i p q => match getP r1 i p q with
    | some (.nd _ (some c) fs) => match fX c f with
      | some k => match fs[k]? with
        | some g => Q (partT i (p ++ [k]) g) r1
        | none => False
      | none => False
    | _ => False
  | _ => False) r
/-- x[y]: a part of an own list of own things, or as ever -/
def ixP (r : Env) (t : T) (y : D) (Q : T → Prop) : Prop := match t with
  | .ptr i p q => match getP r i p q, y with
    | some (.nd _ none fs), .int z => match ixD fs.length z with
      | some k => match fs[k]? with
        | some g => Q (partT i (p ++ [k]) g)
        | none => False
      | none => False
    | _, _ => match rdT r t with
      | some x => oIx x y Q
      | none => False
  | _ => match rdT r t with
    | some x => oIx x y Q
    | none => False
@[simp] theorem ixP_sh (r : Env) (d y : D) (Q : T → Prop) : ixP r (.sh d) y Q = oIx d y Q := rfl
@[simp] theorem ixP_al (r : Env) (i : Nat) (y : D) (Q : T → Prop) : ixP r (.al i) y Q = match rdT r (.al i) with
    | some x => oIx x y Q
    | none => False := rfl
@[simp] theorem ixP_ptr (r : Env) (i : Nat) (p : List Nat) (q : Nat) (y : D) (Q : T → Prop) : ixP r (.ptr i p q) y Q = match getP r i p q, y with
    | some (.nd _ none fs), .int z => match ixD fs.length z with
      | some k => match fs[k]? with
        | some g => Q (partT i (p ++ [k]) g)
        | none => False
      | none => False
    | _, _ => match rdT r (.ptr i p q) with
      | some x => oIx x y Q
      | none => False := rfl
@[simp] def dPx (a b : DE) (X : XD) (Q : QE) (r : Env) : Prop := a X (fun ta r1 => b X (fun tb r2 => match rdT r2 tb with
  | some y => ixP r2 ta y fun t => Q t r2
  | none => False) r1) r
/-- the slot i's thing with the part p changed -/
@[simp] def setP (r : Env) (i : Nat) (p : List Nat) (g : F) : Env := match look r i with
  | some (.own f) => put r i (some (.own (setAt g p f)))
  | _ => r
/-- an own list with one thing more -/
def appF : F → F → Option F
  | .ol q ds, .sh d => if ds.length < 16777216 then some (.ol q (ds ++ [d])) else none
  | .nd q none fs, l => if fs.length < 16777216 then some (.nd q none (fs ++ [l])) else none
  | _, _ => none
@[simp] theorem appF_ol (q : Nat) (ds : List D) (d : D) : appF (.ol q ds) (.sh d) = if ds.length < 16777216 then some (.ol q (ds ++ [d])) else none := rfl
@[simp] theorem appF_nd (q : Nat) (fs : List F) (l : F) : appF (.nd q none fs) l = if fs.length < 16777216 then some (.nd q none (fs ++ [l])) else none := rfl
/-- o.append(e), o a part -/
@[simp] def dPapp (o e : DE) (X : XD) (Q : QE) (r : Env) : Prop := o X (fun ta r1 => match ta with
  | .ptr i p q => (∃ g, getP r1 i p q = some g ∧ (match g with
    | .ol _ _ => True
    | .nd _ none _ => True
    | _ => False)) ∧ e X (fun tb r2 => leafA tb fun l => match getP r2 i p q with
    | some g => match appF g l with
      | some g' => Q (.sh .non) (setP r2 i p g')
      | none => False
    | none => False) r1
  | _ => False) r
/-- o.pop(), o a part: shared data, or what is never asked for again -/
@[simp] def dPpop (o : DE) (X : XD) (Q : QE) (r : Env) : Prop := o X (fun ta r1 => match ta with
  | .ptr i p q => match getP r1 i p q with
    | some (.ol n ds) => match ds.getLast? with
      | some d => Q (.sh d) (setP r1 i p (.ol n ds.dropLast))
      | none => False
    | some (.nd n none fs) => match fs.getLast? with
      | some (.sh d) => Q (.sh d) (setP r1 i p (.nd n none fs.dropLast))
      | some g => Q (.own g) (setP r1 i p (.nd n none fs.dropLast))
      | none => False
    | _ => False
  | _ => False) r
/-- o[k] = e, o a part (a list) -/
@[simp] def dPsetIx (o k e : DE) (X : XD) (E : DEnds) (r : Env) : Prop := e X (fun t r1 => o X (fun ta r2 => match ta with
  | .ptr i p q => k X (fun tb r3 => match t, rdT r3 tb, getP r3 i p q with
    | .sh d, some (.int z), some (.ol n ds) => match ixD ds.length z with
      | some j => E.nx (setP r3 i p (.ol n (ds.set j d)))
      | none => False
    | _, _, _ => False) r2
  | _ => False) r1) r
/-- o.f = e, o a part (an object) -/
@[simp] def dPfSet (f : PySem.Str) (o e : DE) (X : XD) (E : DEnds) (r : Env) : Prop := e X (fun t r1 => o X (fun ta r2 => match ta with
  | .ptr i p q => leafA t fun l => match getP r2 i p q with
    | some (.nd n (some c) fs) => match (fX c f).bind fun k => setF fs k l with
      | some fs' => E.nx (setP r2 i p (.nd n (some c) fs'))
      | none => False
    | _ => False
  | _ => False) r1) r
/-- a target that is a field of the slot i's object -/
@[simp] def gF (i : Nat) (f : PySem.Str) (d : D) (r : Env) (K : (Env → Prop)) : Prop := match look r i with
  | some (.own (.nd q (some c) fs)) => match (fX c f).bind fun k => setF fs k (.sh d) with
    | some fs' => K (put r i (some (.own (.nd q (some c) fs'))))
    | none => False
  | _ => False
/-- x.f op= e, x the slot i, the field shared data -/
@[simp] def dFAug (i : Nat) (f : PySem.Str) (o : R2D) (e : DE) (X : XD) (E : DEnds) (r : Env) : Prop := match look r i with
  | some (.own (.nd _ (some c0) fs0)) => match (fX c0 f).bind fun k => shF fs0[k]? with
    | some x => e X (fun tb r1 => match rdT r1 tb with
      | some y => o x y fun t => match t, look r1 i with
        | .sh d, some (.own (.nd q (some c) fs)) => c = c0 ∧ match (fX c f).bind fun k => setF fs k (.sh d) with
          | some fs' => E.nx (put r1 i (some (.own (.nd q (some c) fs'))))
          | none => False
        | _, _ => False
      | none => False) r
    | none => False
  | _ => False
end J
namespace J
section
variable {st : Env → Prop} {g : DG} {X : XD} {r : Env} {c : DT} {e : DE} {vs : List Nat} {P : QE}
theorem wipeE_twice : ∀ (vs : List Nat) (r : Env), wipeE (wipeE r vs) vs = wipeE r vs := by
  have pp : ∀ (r : Env) (i : Nat), put (put r i none) i none = put r i none := by
    intro r
    induction r with
    | nil => intro i; rfl
    | cons x r ih =>
      intro i
      cases i with
      | zero => rfl
      | succ i => exact congrArg (x :: ·) (ih i)
  have pc : ∀ (r : Env) (i j : Nat), put (put r i none) j none = put (put r j none) i none := by
    intro r
    induction r with
    | nil => intro i j; rfl
    | cons x r ih =>
      intro i j
      cases i <;> cases j <;> simp [ih]
  have pw : ∀ (vs : List Nat) (r : Env) (i : Nat), wipeE (put r i none) vs = put (wipeE r vs) i none := by
    intro vs
    induction vs with
    | nil => intro r i; rfl
    | cons v vs ih =>
      intro r i
      show put (wipeE (put r i none) vs) v none = put (put (wipeE r vs) v none) i none
      rw [ih, pc]
  intro vs
  induction vs with
  | nil => intro r; rfl
  | cons v vs ih =>
    intro r
    show put (wipeE (put (wipeE r vs) v none) vs) v none = put (wipeE r vs) v none
    rw [pw, ih, pp]
theorem take_snoc {A : Type} {ds : List A} {i : Nat} {d : A} (f : A → D) (h : ds[i]? = some d) : (ds.take i).map f ++ [f d] = (ds.take (i + 1)).map f := by
  rw [List.take_add_one, h]
  simp
/-- a comprehension whose items leave the slots as they are -/
theorem lcs_same {ds : List D} (f : D → D) (hst : ∀ r2, r2 = wipeE r vs → st r2) (hl : ds.length ≤ 16777216)
    (step : ∀ i d, ds[i]? = some d → g d (wipeE r vs) fun r2 => e (fun _ _ => False) (fun t r5 => ∃ v, t = .sh v ∧ (ds.take i).map f ++ [v] = (ds.take (i + 1)).map f ∧ wipeE r5 vs = wipeE r vs) r2) (h : P (.ol (ds.map f)) (wipeE r vs)) : lcSt ds st g dYes e vs P r := by
  refine ⟨fun i acc r2 => acc = (ds.take i).map f ∧ r2 = wipeE r vs, ⟨by simp, rfl⟩, fun i acc r2 hI => ?_, fun i d acc r2 hd hI => ?_, hl, fun acc r2 hI => ?_⟩
  · obtain ⟨rfl, rfl⟩ := hI
    exact ⟨hst _ rfl, by simp; omega, wipeE_twice _ _⟩
  · obtain ⟨rfl, rfl⟩ := hI
    simp only [dYes, if_true]
    exact step i d hd
  · obtain ⟨rfl, rfl⟩ := hI
    rw [List.take_length]
    exact h
end
end J

/-! JD9: starred items of displays, all and any. -/
namespace J
@[simp] def itemsD : D → Option (List D)
  | .lst ds => some ds
  | .tup ds => some ds
  | _ => none
/-- *e among the items of a display -/
@[simp] def dStar (e : DE) (a : DA) (X : XD) (Q : (List T → Env → Prop)) (r : Env) : Prop := e X (fun t r1 => match (rdT r1 t).bind itemsD with
  | some ds => a X (fun ts r2 => Q (ds.map T.sh ++ ts) r2) r1
  | none => False) r
@[simp] theorem shs_map : ∀ ds : List D, shs (ds.map T.sh) = some ds
  | [] => rfl
  | d :: ds => by simp [shs_map ds]
@[simp] theorem shs_app : ∀ (ds : List D) (ts : List T), shs (ds.map T.sh ++ ts) = (shs ts).map (ds ++ ·)
  | [], ts => by cases h : shs ts <;> simp [h]
  | d :: ds, ts => by cases h : shs ts <;> simp [shs_app ds ts, h]
def blsOf : List D → Option (List Bool)
  | [] => some []
  | .bl b :: r => (blsOf r).map (b :: ·)
  | _ :: _ => none
@[simp] theorem blsOf_map : ∀ bs : List Bool, blsOf (bs.map D.bl) = some bs
  | [] => rfl
  | b :: bs => by simp [blsOf, blsOf_map bs]
def cAll : RCD := fun ds Q => match ds with
  | [.lst xs] => match blsOf xs with
    | some bs => Q (.sh (.bl (bs.all id)))
    | none => False
  | _ => False
def cAny : RCD := fun ds Q => match ds with
  | [.lst xs] => match blsOf xs with
    | some bs => Q (.sh (.bl (bs.any id)))
    | none => False
  | _ => False
@[simp] theorem cAll_bls (bs : List Bool) (Q : T → Prop) : cAll [.lst (bs.map D.bl)] Q = Q (.sh (.bl (bs.all id))) := by simp [cAll]
@[simp] theorem cAny_bls (bs : List Bool) (Q : T → Prop) : cAny [.lst (bs.map D.bl)] Q = Q (.sh (.bl (bs.any id))) := by simp [cAny]
/-- x in xs, data of any depth -/
def oInD (neg : Bool) : R2D := fun x y Q => match y with
  | .lst ys => (okE x ∧ okE (.lst ys)) ∧ Q (.sh (.bl (if neg then !(ys.any fun z => eqD z x) else ys.any fun z => eqD z x)))
  | _ => False
/-- xs.index(x), data of any depth -/
def mIndexD (x y : D) (Q : T → Prop) : Prop := match x with
  | .lst xs => (okE y ∧ okE (.lst xs)) ∧ match xs.findIdx? fun z => eqD z y with
    | some j => Q (.sh (.int (j : Nat)))
    | none => False
  | _ => False
/-- x > y, ints or lists of ints -/
def oGtA (x y : D) (Q : T → Prop) : Prop := match x, y with
  | .int i, .int j => Q (.sh (.bl (decide (j < i))))
  | .lst xs, .lst ys => match intsOf xs, intsOf ys with
    | some ns, some ms => Q (.sh (.bl (ltI ms ns)))
    | _, _ => False
  | _, _ => False
/-- x is b, x is not b, b a truth value -/
def oIsB (neg : Bool) : R2D := fun x y Q => match x, y with
  | .bl a, .bl b => Q (.sh (.bl (if neg then !decide (a = b) else decide (a = b))))
  | _, _ => False
@[simp] theorem oIsB_bl (neg a b : Bool) (Q : T → Prop) : oIsB neg (.bl a) (.bl b) Q = Q (.sh (.bl (if neg then !decide (a = b) else decide (a = b)))) := rfl
end J

/-! JD10: texts: split, join, partition, startswith, find, str(i), int(text). -/
namespace J
/-- a text cut at each sign c -/
def splitD (c : Nat) : List Nat → List (List Nat)
  | [] => [[]]
  | x :: xs => if x = c then [] :: splitD c xs else match splitD c xs with
    | p :: ps => (x :: p) :: ps
    | [] => [[x]]
theorem splitD_ne (c : Nat) : ∀ xs, splitD c xs ≠ []
  | [] => by simp [splitD]
  | x :: xs => by
    unfold splitD
    split
    · simp
    · split <;> simp
def joinD (s : List Nat) : List (List Nat) → List Nat
  | [] => []
  | [x] => x
  | x :: y :: r => x ++ (s ++ joinD s (y :: r))
def strsOf : List D → Option (List (List Nat))
  | [] => some []
  | .str s :: r => (strsOf r).map (s :: ·)
  | _ :: _ => none
@[simp] theorem strsOf_map : ∀ ss : List (List Nat), strsOf (ss.map D.str) = some ss
  | [] => rfl
  | s :: ss => by simp [strsOf, strsOf_map ss]
/-- a method of a text with one argument -/
@[simp] def dMs (m : R2D) (o e : DE) (X : XD) (Q : QE) (r : Env) : Prop := o X (fun ta r1 => (∃ s, rdT r1 ta = some (.str s)) ∧ e X (fun tb r2 => match rdT r2 ta, rdT r2 tb with
  | some x, some y => m x y fun t => Q t r2
  | _, _ => False) r1) r
def mSplit : R2D := fun x y Q => match x, y with
  | .str a, .str [c] => (c < 256 ∧ a.length + 2 ≤ 16777216) ∧ Q (.ol ((splitD c a).map D.str))
  | _, _ => False
@[simp] theorem mSplit_str (a : List Nat) (c : Nat) (Q : T → Prop) : mSplit (.str a) (.str [c]) Q = ((c < 256 ∧ a.length + 2 ≤ 16777216) ∧ Q (.ol ((splitD c a).map D.str))) := rfl
def mJoin : R2D := fun x y Q => match x, y with
  | .str a, .lst xs => match strsOf xs with
    | some ys => (ys.map List.length).sum + ys.length * a.length ≤ 16777216 ∧ Q (.sh (.str (joinD a ys)))
    | none => False
  | _, _ => False
@[simp] theorem mJoin_strs (a : List Nat) (ys : List (List Nat)) (Q : T → Prop) : mJoin (.str a) (.lst (ys.map D.str)) Q = ((ys.map List.length).sum + ys.length * a.length ≤ 16777216 ∧ Q (.sh (.str (joinD a ys)))) := by simp [mJoin]
/-- what stands before the first c, c, and what stands behind it -/
def partD (c : Nat) (a : List Nat) : List Nat × List Nat × List Nat := if c ∈ a then (a.takeWhile (· != c), [c], (a.dropWhile (· != c)).drop 1) else (a, [], [])
def mPart : R2D := fun x y Q => match x, y with
  | .str a, .str [c] => a.length ≤ 16777216 ∧ Q (.sh (.tup [.str (partD c a).1, .str (partD c a).2.1, .str (partD c a).2.2]))
  | _, _ => False
@[simp] theorem mPart_str (a : List Nat) (c : Nat) (Q : T → Prop) : mPart (.str a) (.str [c]) Q = (a.length ≤ 16777216 ∧ Q (.sh (.tup [.str (partD c a).1, .str (partD c a).2.1, .str (partD c a).2.2]))) := rfl
def mStarts : R2D := fun x y Q => match x, y with
  | .str a, .str b => Q (.sh (.bl (decide (a.take b.length = b))))
  | _, _ => False
@[simp] theorem mStarts_str (a b : List Nat) (Q : T → Prop) : mStarts (.str a) (.str b) Q = Q (.sh (.bl (decide (a.take b.length = b)))) := rfl
def mFind : R2D := fun x y Q => match x, y with
  | .str a, .str [c] => Q (.sh (.int (if c ∈ a then (a.idxOf c : Int) else -1)))
  | _, _ => False
@[simp] theorem mFind_str (a : List Nat) (c : Nat) (Q : T → Prop) : mFind (.str a) (.str [c]) Q = Q (.sh (.int (if c ∈ a then (a.idxOf c : Int) else -1))) := rfl
/-- the signs of a number -/
def showN (n : Nat) : List Nat := (Nat.toDigits 10 n).map Char.toNat
def cStrI : RCD := fun ds Q => match ds with
  | [.int i] => (0 ≤ i ∧ i < 1000000000000) ∧ Q (.sh (.str (showN i.toNat)))
  | _ => False
@[simp] theorem cStrI_int (i : Int) (Q : T → Prop) : cStrI [.int i] Q = ((0 ≤ i ∧ i < 1000000000000) ∧ Q (.sh (.str (showN i.toNat)))) := rfl
def digB (s : List Nat) : Bool := s.all fun c => decide (48 ≤ c) && decide (c ≤ 57)
def valN (s : List Nat) : Nat := s.foldl (fun a c => a * 10 + (c - 48)) 0
def cIntS : RCD := fun ds Q => match ds with
  | [.str s] => (digB s = true ∧ s ≠ [] ∧ s.length ≤ 640) ∧ Q (.sh (.int (valN s : Nat)))
  | _ => False
@[simp] theorem cIntS_str (s : List Nat) (Q : T → Prop) : cIntS [.str s] Q = ((digB s = true ∧ s ≠ [] ∧ s.length ≤ 640) ∧ Q (.sh (.int (valN s : Nat)))) := rfl
/-- f(), a def of the text without parameters -/
@[simp] def dCall0 (S : Spec) (X : XD) (Q : QE) (r : Env) : Prop := S [] (fun e => X e r) (fun t => Q t r)
end J

/-! JD11: errors with a field. -/
namespace J
/-- raise C(e), C an error with one field, a flat thing -/
@[simp] def dRaiseF (c : Nat) (e : DE) (X : XD) (_a1 : DEnds) (r : Env) : Prop := e X (fun t r1 => match rdT r1 t with
  | some d => flatD d = true ∧ X ⟨c, [d]⟩ r1
  | none => False) r
/-- e.f, e the held error -/
@[simp] def dXf (i n0 : Nat) (_a0 : XD) (Q : QE) (r : Env) : Prop := match look r i with
  | some (.exc n [d]) => n = n0 ∧ Q (.sh d) r
  | _ => False
@[simp] theorem flatD_int (i : Int) : flatD (.int i) = true := rfl
@[simp] theorem flatD_str (s : List Nat) : flatD (.str s) = true := rfl
@[simp] theorem flatD_non : flatD .non = true := rfl
@[simp] theorem flatD_bl (b : Bool) : flatD (.bl b) = true := rfl
end J

/-! JD12: dicts by ints and by tuples. -/
namespace J
def dGetK (kvs : List (D × D)) (k : D) : Option D := (kvs.find? fun kv => eqD kv.1 k).map (·.2)
def dPutK (kvs : List (D × D)) (k v : D) : List (D × D) := if kvs.any (fun kv => eqD kv.1 k) then kvs.map (fun kv => if eqD kv.1 k = true then (kv.1, v) else kv) else kvs ++ [(k, v)]
def isIK : D → Bool
  | .int _ => true
  | _ => false
def isTK : D → Bool
  | .tup ds => okKs ds && decide (deep (.tup ds) ≤ 8)
  | _ => false
/-- all keys are ints, and so is k; or all of them are tuples, and so is k -/
def keyOk (kvs : List (D × D)) (k : D) : Bool := (isIK k && kvs.all fun kv => isIK kv.1) || (isTK k && kvs.all fun kv => isTK kv.1)
def oGetK : R2D := fun x y Q => match x with
  | .dic kvs => keyOk kvs y = true ∧ match dGetK kvs y with
    | some v => Q (.sh v)
    | none => False
  | _ => False
def oInK (neg : Bool) : R2D := fun y x Q => match x with
  | .dic kvs => keyOk kvs y = true ∧ Q (.sh (.bl (if neg then !(dGetK kvs y).isSome else (dGetK kvs y).isSome)))
  | _ => False
@[simp] theorem oGetK_dic (kvs : List (D × D)) (y : D) (Q : T → Prop) : oGetK (.dic kvs) y Q = (keyOk kvs y = true ∧ match dGetK kvs y with
    | some v => Q (.sh v)
    | none => False) := rfl
@[simp] theorem oInK_dic (neg : Bool) (kvs : List (D × D)) (y : D) (Q : T → Prop) : oInK neg y (.dic kvs) Q = (keyOk kvs y = true ∧ Q (.sh (.bl (if neg then !(dGetK kvs y).isSome else (dGetK kvs y).isSome)))) := rfl
/-- {} -/
@[simp] def dDic0 (_a0 : XD) (Q : QE) (r : Env) : Prop := ∀ q, Q (.own (.od q [])) r
/-- {k: v} -/
@[simp] def dDic1 (k v : DE) (X : XD) (Q : QE) (r : Env) : Prop := k X (fun tk r1 => v X (fun tv r2 => match tk, tv with
  | .sh kd, .sh vd => keyOk [] kd = true ∧ ∀ q, Q (.own (.od q [(kd, vd)])) r2
  | _, _ => False) r1) r
/-- d.get(k, x) -/
@[simp] def dGet2 (o k x : DE) (X : XD) (Q : QE) (r : Env) : Prop := o X (fun ta r1 => (∃ kvs, rdT r1 ta = some (.dic kvs)) ∧ k X (fun tb r2 => x X (fun tc r3 => match rdT r3 ta, rdT r3 tb, tc with
  | some (.dic kvs), some kd, .sh xd => keyOk kvs kd = true ∧ Q (.sh ((dGetK kvs kd).getD xd)) r3
  | _, _, _ => False) r2) r1) r
/-- d[k] = e, d the slot i's own dict -/
@[simp] def dSetK (i : Nat) (k e : DE) (X : XD) (E : DEnds) (r : Env) : Prop := e X (fun t r1 => isOw (look r1 i) ∧ k X (fun u r2 => match t, u, look r2 i with
  | .sh vd, .sh kd, some (.own (.od q kvs)) => keyOk kvs kd = true ∧ kvs.length < 16777216 ∧ E.nx (put r2 i (some (.own (.od q (dPutK kvs kd vd)))))
  | _, _, _ => False) r1) r
/-- d[k] op= e -/
@[simp] def dAugK (i : Nat) (k : DE) (o : R2D) (e : DE) (X : XD) (E : DEnds) (r : Env) : Prop := isOw (look r i) ∧ k X (fun u r1 => match u, look r1 i with
  | .sh kd, some (.own (.od _ kvs)) => keyOk kvs kd = true ∧ match dGetK kvs kd with
    | some x => e X (fun tb r2 => match rdT r2 tb, look r2 i with
      | some y, some (.own (.od q kvs2)) => o x y fun t => match t with
        | .sh d => keyOk kvs2 kd = true ∧ kvs2.length < 16777216 ∧ E.nx (put r2 i (some (.own (.od q (dPutK kvs2 kd d)))))
        | _ => False
      | _, _ => False) r1
    | none => False
  | _, _ => False) r
/-- o[k] = e, o a part (a dict) -/
@[simp] def dPsetK (o k e : DE) (X : XD) (E : DEnds) (r : Env) : Prop := e X (fun t r1 => o X (fun ta r2 => match ta with
  | .ptr i p q => k X (fun tb r3 => match t, tb, getP r3 i p q with
    | .sh vd, .sh kd, some (.od n kvs) => keyOk kvs kd = true ∧ kvs.length < 16777216 ∧ E.nx (setP r3 i p (.od n (dPutK kvs kd vd)))
    | _, _, _ => False) r2
  | _ => False) r1) r
/-- what a dict that does not change is walked by -/
abbrev DIK := XD → (List (D × D) → Env → Prop) → Env → Prop
/-- a dict that is lent or shared -/
@[simp] def iDic (e : DE) (X : XD) (Q : List (D × D) → Env → Prop) (r : Env) : Prop := e X (fun t r1 => match t with
  | .sh (.dic kvs) => Q kvs r1
  | .al i => match look r1 i with
    | some (.sh (.dic kvs)) => Q kvs r1
    | some (.bor (.dic kvs)) => Q kvs r1
    | _ => False
  | _ => False) r
/-- for k in d; for v in d.values(); for k, v in d.items(): w tells which -/
@[simp] def pickK (w : Nat) (kv : D × D) : D := match w with
  | 0 => kv.1
  | 1 => kv.2
  | _ => .tup [kv.1, kv.2]
@[simp] def dForK (w : Nat) (it : DIK) (g : DG) (b : DS) (X : XD) (E : DEnds) (r : Env) : Prop := it X (fun kvs r1 => forOk (kvs.map (pickK w)) (fun _ => True) g b X E r1) r
/-- a dict comprehension's turns over ds -/
def dcOk (ds : List D) (st : Env → Prop) (g : DG) (c : DT) (k e : DE) (vs : List Nat) (Q : QE) (r1 : Env) : Prop := ∃ I : Nat → List (D × D) → Env → Prop,
  I 0 [] (wipeE r1 vs) ∧ (∀ i acc r2, I i acc r2 → st r2 ∧ acc.length ≤ i ∧ wipeE r2 vs = r2) ∧
  (∀ i d acc r2, ds[i]? = some d → I i acc r2 → g d r2 fun r3 => c (fun _ _ => False) (fun b r4 => if b = true then k (fun _ _ => False) (fun tk r5 => e (fun _ _ => False) (fun tv r6 => match tk, tv with
    | .sh kd, .sh vd => keyOk acc kd = true ∧ I (i + 1) (dPutK acc kd vd) (wipeE r6 vs)
    | _, _ => False) r5) r4
    else I (i + 1) acc (wipeE r4 vs)) r3) ∧
  ds.length ≤ 16777216 ∧ ∀ acc r2, I ds.length acc r2 → ∀ q, Q (.own (.od q acc)) r2
@[simp] def dDC (it : DI) (g : DG) (c : DT) (k e : DE) (vs : List Nat) (X : XD) (Q : QE) (r : Env) : Prop := it X (fun ds st r1 => dcOk ds st g c k e vs Q r1) r
@[simp] def dDCK (w : Nat) (it : DIK) (g : DG) (c : DT) (k e : DE) (vs : List Nat) (X : XD) (Q : QE) (r : Env) : Prop := it X (fun kvs r1 => dcOk (kvs.map (pickK w)) (fun _ => True) g c k e vs Q r1) r
@[simp] def dLCK (w : Nat) (it : DIK) (g : DG) (c : DT) (e : DE) (vs : List Nat) (X : XD) (Q : QE) (r : Env) : Prop := it X (fun kvs r1 => lcSt (kvs.map (pickK w)) (fun _ => True) g c e vs Q r1) r
@[simp] theorem rdF_od (q : Nat) (kvs : List (D × D)) : F.rd (.od q kvs) = some (.dic kvs) := rfl
@[simp] theorem isNon_dic (kvs : List (D × D)) : isNon (.dic kvs) = false := rfl
end J

/-! JD13: places of lists and dicts with op=, two targets at once, the values of a dict. -/
namespace J
/-- xs[k] op= e, xs the slot i's own list -/
@[simp] def dAugIx (i : Nat) (k : DE) (o : R2D) (e : DE) (X : XD) (E : DEnds) (r : Env) : Prop := isOl (look r i) ∧ k X (fun u r1 => match rdT r1 u, look r1 i with
  | some (.int z), some (.ol ds) => match ixD ds.length z with
    | some j => match ds[j]? with
      | some x => e X (fun tb r2 => match rdT r2 tb, look r2 i with
        | some y, some (.ol ds2) => ds2.length = ds.length ∧ o x y fun t => match t with
          | .sh d => E.nx (put r2 i (some (.ol (ds2.set j d))))
          | _ => False
        | _, _ => False) r1
      | none => False
    | none => False
  | _, _ => False) r
/-- .. of a part -/
@[simp] def dPAugIx (b k : DE) (o : R2D) (e : DE) (X : XD) (E : DEnds) (r : Env) : Prop := b X (fun ta r0 => match ta with
  | .ptr i p q => k X (fun u r1 => match rdT r1 u, getP r1 i p q with
    | some (.int z), some (.ol _ ds) => match ixD ds.length z with
      | some j => match ds[j]? with
        | some x => e X (fun tb r2 => match rdT r2 tb, getP r2 i p q with
          | some y, some (.ol n ds2) => ds2.length = ds.length ∧ o x y fun t => match t with
            | .sh d => E.nx (setP r2 i p (.ol n (ds2.set j d)))
            | _ => False
          | _, _ => False) r1
        | none => False
      | none => False
    | _, _ => False) r0
  | _ => False) r
/-- x, y = a, b: plain names -/
@[simp] def dPar (i j : Nat) (a : DA) (X : XD) (E : DEnds) (r : Env) : Prop := a X (fun ts r1 => match ts with
  | [.sh d1, .sh d2] => E.nx (put (put r1 j (some (.sh d2))) i (some (.sh d1)))
  | _ => False) r
/-- max(d.values()), ints -/
def cMaxV : RCD := fun ds Q => match ds with
  | [.dic kvs] => match intsOf (kvs.map (·.2)) with
    | some (n :: ns) => Q (.sh (.int (maxI n ns)))
    | _ => False
  | _ => False
/-- len(d) -/
def cLenK : RCD := fun ds Q => match ds with
  | [.dic kvs] => kvs.length ≤ 16777216 ∧ Q (.sh (.int kvs.length))
  | _ => False
@[simp] theorem cLenK_dic (kvs : List (D × D)) (Q : T → Prop) : cLenK [.dic kvs] Q = (kvs.length ≤ 16777216 ∧ Q (.sh (.int kvs.length))) := rfl
end J

/-! JD14: lists of one's own lists by a comprehension, walks over what stays, zip, gcd. -/
namespace J
/-- a comprehension of own things: behind i items acc is kept -/
def lcNs (ds : List D) (st : Env → Prop) (g : DG) (c : DT) (e : DE) (vs : List Nat) (Q : QE) (r1 : Env) : Prop := ∃ I : Nat → List F → Env → Prop,
  I 0 [] (wipeE r1 vs) ∧ (∀ i acc r2, I i acc r2 → st r2 ∧ acc.length ≤ i ∧ wipeE r2 vs = r2) ∧
  (∀ i d acc r2, ds[i]? = some d → I i acc r2 → g d r2 fun r3 => c (fun _ _ => False) (fun b r4 => if b = true then e (fun _ _ => False) (fun t r5 => leafA t fun l => I (i + 1) (acc ++ [l]) (wipeE r5 vs)) r4
    else I (i + 1) acc (wipeE r4 vs)) r3) ∧ ds.length ≤ 16777216 ∧ ∀ acc r2, I ds.length acc r2 → ∀ q, Q (.own (.nd q none acc)) r2
@[simp] def dLCN (it : DI) (g : DG) (c : DT) (e : DE) (vs : List Nat) (X : XD) (Q : QE) (r : Env) : Prop := it X (fun ds st r1 => lcNs ds st g c e vs Q r1) r
/-- walks over what stays as it is -/
abbrev DIP := XD → (List D → Env → Prop) → Env → Prop
@[simp] def ipDic (w : Nat) (it : DIK) (X : XD) (Q : List D → Env → Prop) (r : Env) : Prop := it X (fun kvs r1 => Q (kvs.map (pickK w)) r1) r
@[simp] def seqD : D → Option (Bool × List D)
  | .lst ds => some (true, ds)
  | .tup ds => some (false, ds)
  | _ => none
/-- what an operand that stays holds -/
@[simp] def stayD (r : Env) : T → Option (Bool × List D)
  | .sh d => seqD d
  | .al i => match look r i with
    | some (.sh d) => seqD d
    | some (.bor d) => seqD d
    | _ => none
  | _ => none
def zipD (ds es : List D) : List D := List.zipWith (fun a b => D.tup [a, b]) ds es
/-- zip(a, b): two lists or two tuples -/
@[simp] def ipZip (a b : DE) (X : XD) (Q : List D → Env → Prop) (r : Env) : Prop := a X (fun ta r1 => b X (fun tb r2 => match stayD r2 ta, stayD r2 tb with
  | some (_, ds), some (_, es) => Q (zipD ds es) r2
  | _, _ => False) r1) r
@[simp] def dForP (it : DIP) (g : DG) (b : DS) (X : XD) (E : DEnds) (r : Env) : Prop := it X (fun ds r1 => forOk ds (fun _ => True) g b X E r1) r
@[simp] def dLCP (it : DIP) (g : DG) (c : DT) (e : DE) (vs : List Nat) (X : XD) (Q : QE) (r : Env) : Prop := it X (fun ds r1 => lcSt ds (fun _ => True) g c e vs Q r1) r
def cGcd : RCD := fun ds Q => match ds with
  | [.int a, .int b] => Q (.sh (.int ((Nat.gcd a.natAbs b.natAbs : Nat) : Int)))
  | _ => False
@[simp] theorem cGcd_int (a b : Int) (Q : T → Prop) : cGcd [.int a, .int b] Q = Q (.sh (.int ((Nat.gcd a.natAbs b.natAbs : Nat) : Int))) := rfl
end J

/-! JD15: reversed ranges. -/
namespace J
/-- reversed(range(n)), reversed(range(m, n)) -/
@[simp] def iRangeV (a : DA) (X : XD) (Q : List D → (Env → Prop) → Env → Prop) (r : Env) : Prop := a X (fun ts r1 => match reads r1 ts with
  | some [.int n] => (-(2 ^ 62) ≤ n ∧ n < 2 ^ 62) ∧ Q (li (downI (n - 1) n.toNat)) (fun _ => True) r1
  | some [.int m, .int n] => (-(2 ^ 62) ≤ m ∧ m < 2 ^ 62 ∧ -(2 ^ 62) ≤ n ∧ n < 2 ^ 62) ∧ Q (li (downI (n - 1) (n - m).toNat)) (fun _ => True) r1
  | _ => False) r
/-- // by any divisor but 0 -/
def CDivNW (_ j : Int) : Prop := j ≠ 0 ∧ j.natAbs.log2 < 9000
abbrev oDivN : R2D := oI CDivNW fun i j => .int (i.fdiv j)
/-- * of great ints -/
def CMulWD (i j : Int) : Prop := i.natAbs.log2 + j.natAbs.log2 < 1000000
abbrev oMulW : R2D := oI CMulWD fun i j => .int (i * j)
abbrev oModN : R2D := oI (fun _ j => j ≠ 0) fun i j => .int (i.fmod j)
end J

/-! JD16: a walk over one's own list of own things: each is a part while it is walked. -/
namespace J
/-- for x in y, y the slot j's own list of own things, x the slot i -/
def dForO (j i : Nat) (b : DS) (X : XD) (E : DEnds) (r : Env) : Prop := ∃ (q n : Nat) (I : Nat → Env → Prop), I 0 r ∧ ∀ k r2, I k r2 → k ≤ n ∧ ∃ fs, look r2 j = some (.own (.nd q none fs)) ∧ fs.length = n ∧
  (∀ f, fs[k]? = some f → b X { E with nx := I (k + 1), ct := I (k + 1), bk := E.nx } (put r2 i (some (partT j [k] f)))) ∧ (k = n → E.nx r2)
/-- a new list, to be filled with own things -/
@[simp] def dNst (_a0 : XD) (Q : QE) (r : Env) : Prop := ∀ q, Q (.own (.nd q none [])) r
/-- x = a part: the slot i holds it -/
@[simp] def dSetP (i : Nat) (e : DE) (X : XD) (E : DEnds) (r : Env) : Prop := e X (fun t r1 => match t with
  | .sh d => E.nx (put r1 i (some (.sh d)))
  | .ptr j p q => E.nx (put r1 i (some (.ptr j p q)))
  | _ => False) r
end J

/-! JL1: how the plain data of JD stand in the heap: what is shared, what is one's own; the moves of that account. -/
namespace J
open PySem L2

abbrev codes (s : List Nat) : Str := ⟨s.toArray⟩
/-- a def's call: the heap at its entry, what its shared arguments hold, what it may change, the slots of comprehensions -/
structure G where
  H0 : Hp
  B0 : Hp
  M : List Addr
  cs : List Nat
  n : Nat
  /-- the error that a suite holds: where it stands, its class, its fields -/
  xs : Addr → Nat → List D → Hp → Prop
abbrev noX : Addr → Nat → List D → Hp → Prop := fun _ _ _ _ => False

/-- C is the class number c -/
structure ClsIs (K : PySem.W.Frag) (C : Addr) (c : Nat) : Prop where
  ns : PySem.W.nsIn K mainGlobals (clsT c).1 = some (some (.ref C))
  cl : Cls K C
  na : ∀ f ∈ (clsT c).2, NoAttr K C f
mutual
/-- a key, as the library tells it -/
def nkD : D → NestedKey
  | .int i => .num i
  | .bl b => .num (if b = true then 1 else 0)
  | .tup ds => .tup (nkDs ds)
  | _ => .none
def nkDs : List D → List NestedKey
  | [] => []
  | d :: ds => nkD d :: nkDs ds
end
/-- the dict at a: just this object -/
def rawO (a : Addr) (es : Array DictEntry) (ep : Nat) : HO := .ext fun h => ∃ o, h.get? a = some o ∧ o.ExactDict ∧ o.data = .dict es ep
/-- an entry -/
structure EntR (k v : V) (n : NestedKey) (e : DictEntry) : Prop where
  key : RelV k e.key
  val : RelV v e.val
  hash : ∀ w, e.hash = n.hash w
inductive Ents : List V → List V → List NestedKey → List DictEntry → Prop
  | nil : Ents [] [] [] []
  | cons {k w : V} {n : NestedKey} {e : DictEntry} {ks ws : List V} {ns : List NestedKey} {es : List DictEntry} : EntR k w n e → Ents ks ws ns es → Ents (k :: ks) (w :: ws) (n :: ns) (e :: es)
/-- the entries: their keys and values -/
structure EntsR (ks ws : List V) (kvs : List (D × D)) (es : Array DictEntry) : Prop where
  each : Ents ks ws (kvs.map fun kv => nkD kv.1) es.toList
  nodup : (kvs.map fun kv => nkD kv.1).Nodup
mutual
inductive Rep (K : PySem.W.Frag) (B : Hp) : V → D → Prop
  | non : Rep K B .non .non
  | bl (b : Bool) : Rep K B (.bl b) (.bl b)
  | int (i : Int) : Rep K B (.int i) (.int i)
  | str (s : List Nat) : Rep K B (.str (codes s)) (.str s)
  | lst {a : Addr} {vs : List V} {ds : List D} : B a = some (.lst vs) → RepAll K B vs ds → Rep K B (.ref a) (.lst ds)
  | tup {a : Addr} {vs : List V} {ds : List D} : SqT K B a vs → RepAll K B vs ds → Rep K B (.ref a) (.tup ds)
  | scr {a : Addr} {ns : List Int} : SqL K B a (ns.map V.int) → Rep K B (.ref a) (.scr ns)
  | obj {a C dx : Addr} {c : Nat} {fl : List (Str × V)} {ds : List D} : B a = some (.ins C dx fl) → ClsIs K C c → fl.map (·.1) = (clsT c).2.take ds.length → RepAll K B (fl.map (·.2)) ds → Rep K B (.ref a) (.obj c ds)
  | dic {a : Addr} {es : Array DictEntry} {ep : Nat} {ks ws : List V} {kvs : List (D × D)} {dk dw : List D} : B a = some (rawO a es ep) → (a == sysModules) = false → EntsR ks ws kvs es → dk = kvs.map (·.1) → dw = kvs.map (·.2) → RepAll K B ks dk → RepAll K B ws dw → Rep K B (.ref a) (.dic kvs)
  | any (a : Addr) (n : Nat) : Rep K B (.ref a) (.fn n)
inductive RepAll (K : PySem.W.Frag) (B : Hp) : List V → List D → Prop
  | nil : RepAll K B [] []
  | cons {v : V} {vs : List V} {d : D} {ds : List D} : Rep K B v d → RepAll K B vs ds → RepAll K B (v :: vs) (d :: ds)
end

section
variable {K : PySem.W.Frag} {B B' H H' : Hp}
theorem same_rd {a : Addr} {u : HO} (e : Same H H') (h : Rd H a u) : Rd H' a u := by
  rcases h with h | ⟨o, h⟩
  · exact Or.inl (e a _ h)
  · exact Or.inr ⟨o, e a _ h⟩
theorem same_l {a : Addr} {xs : List V} (e : Same H H') (h : SqL K H a xs) : SqL K H' a xs := by
  rcases h with h | h
  · exact Or.inl (same_rd e h)
  · exact Or.inr h
theorem same_t {a : Addr} {xs : List V} (e : Same H H') (h : SqT K H a xs) : SqT K H' a xs := by
  rcases h with h | h
  · exact Or.inl (same_rd e h)
  · exact Or.inr h
mutual
theorem Rep.mono (e : Same B B') : ∀ {v : V} {d : D}, Rep K B v d → Rep K B' v d
  | _, _, .non => .non
  | _, _, .bl b => .bl b
  | _, _, .int i => .int i
  | _, _, .str s => .str s
  | _, _, .lst h r => .lst (e _ _ h) (RepAll.mono e r)
  | _, _, .tup h r => .tup (same_t e h) (RepAll.mono e r)
  | _, _, .scr h => .scr (same_l e h)
  | _, _, .obj h c n r => .obj (e _ _ h) c n (RepAll.mono e r)
  | _, _, .dic h n m e1 e2 r r' => .dic (e _ _ h) n m e1 e2 (RepAll.mono e r) (RepAll.mono e r')
  | _, _, .any v n => .any v n
theorem RepAll.mono (e : Same B B') : ∀ {vs : List V} {ds : List D}, RepAll K B vs ds → RepAll K B' vs ds
  | _, _, .nil => .nil
  | _, _, .cons h r => .cons (Rep.mono e h) (RepAll.mono e r)
end
theorem RepAll.len : ∀ {vs : List V} {ds : List D}, RepAll K B vs ds → vs.length = ds.length
  | _, _, .nil => rfl
  | _, _, .cons _ r => congrArg (· + 1) r.len
theorem RepAll.get : ∀ {vs : List V} {ds : List D} {i : Nat} {d : D}, RepAll K B vs ds → ds[i]? = some d → ∃ v, vs[i]? = some v ∧ Rep K B v d
  | _, _, _, _, .nil, h => by simp at h
  | _, _, 0, _, .cons h _, e => by
    simp at e
    subst e
    exact ⟨_, rfl, h⟩
  | _, _, i + 1, _, .cons _ r, e => by
    obtain ⟨v, h1, h2⟩ := RepAll.get (i := i) r (by simpa using e)
    exact ⟨v, by simpa using h1, h2⟩
theorem RepAll.getV : ∀ {vs : List V} {ds : List D} {i : Nat} {v : V}, RepAll K B vs ds → vs[i]? = some v → ∃ d, ds[i]? = some d ∧ Rep K B v d
  | _, _, _, _, .nil, h => by simp at h
  | _, _, 0, _, .cons h _, e => by
    simp at e
    subst e
    exact ⟨_, rfl, h⟩
  | _, _, i + 1, _, .cons _ r, e => by
    obtain ⟨v, h1, h2⟩ := RepAll.getV (i := i) r (by simpa using e)
    exact ⟨v, by simpa using h1, h2⟩
theorem RepAll.append : ∀ {vs ws : List V} {ds es : List D}, RepAll K B vs ds → RepAll K B ws es → RepAll K B (vs ++ ws) (ds ++ es)
  | _, _, _, _, .nil, s => s
  | _, _, _, _, .cons h r, s => .cons h (RepAll.append r s)
theorem RepAll.drop : ∀ {vs : List V} {ds : List D} (n : Nat), RepAll K B vs ds → RepAll K B (vs.drop n) (ds.drop n)
  | _, _, 0, r => r
  | _, _, _ + 1, .nil => .nil
  | _, _, n + 1, .cons _ r => RepAll.drop n r
theorem RepAll.take : ∀ {vs : List V} {ds : List D} (n : Nat), RepAll K B vs ds → RepAll K B (vs.take n) (ds.take n)
  | _, _, 0, _ => .nil
  | _, _, _ + 1, .nil => .nil
  | _, _, n + 1, .cons h r => .cons h (RepAll.take n r)
theorem RepAll.set {v : V} {d : D} (h : Rep K B v d) : ∀ {vs : List V} {ds : List D} (i : Nat), RepAll K B vs ds → RepAll K B (vs.set i v) (ds.set i d)
  | _, _, _, .nil => .nil
  | _, _, 0, .cons _ r => .cons h r
  | _, _, i + 1, .cons q r => .cons q (RepAll.set h i r)
theorem RepAll.reverse {vs : List V} {ds : List D} (r : RepAll K B vs ds) : RepAll K B vs.reverse ds.reverse := by
  induction ds generalizing vs with
  | nil => cases r; exact .nil
  | cons d ds ih =>
    cases r with
    | cons h r =>
      rw [List.reverse_cons, List.reverse_cons]
      exact (ih r).append (.cons h .nil)
theorem RepAll.dropLast {vs : List V} {ds : List D} (r : RepAll K B vs ds) : RepAll K B vs.dropLast ds.dropLast := by
  rw [List.dropLast_eq_take, List.dropLast_eq_take, r.len]
  exact r.take _
theorem RepAll.ints : ∀ (ns : List Int), RepAll K B (ns.map V.int) (ns.map D.int)
  | [] => .nil
  | n :: ns => .cons (.int n) (RepAll.ints ns)
theorem RepAll.intsOf : ∀ {vs : List V} {ds : List D} {ns : List Int}, RepAll K B vs ds → J.intsOf ds = some ns → vs = ns.map V.int
  | _, _, ns, .nil, h => by
    have e : ns = [] := by simpa [J.intsOf] using h.symm
    subst e
    rfl
  | _, _, ns, .cons h r, e => by
    cases h with
    | int i =>
      simp only [J.intsOf, Option.map_eq_some_iff] at e
      obtain ⟨ms, e1, rfl⟩ := e
      rw [RepAll.intsOf r e1]
      rfl
    | _ => simp [J.intsOf] at e
end


/-! ### things of one's own -/
def kidsV : HO → List V
  | .lst vs => vs
  | .ins _ _ fl => fl.map (·.2)
  | _ => []
/-- a dict: its entries' keys and values are shared -/
def DicOk (K : PySem.W.Frag) (B H : Hp) (a : Addr) (kvs : List (D × D)) : Prop := ∃ (es : Array DictEntry) (ep : Nat) (ks ws : List V), H a = some (rawO a es ep) ∧ (a == sysModules) = false ∧ EntsR ks ws kvs es ∧ RepAll K B ks (kvs.map (·.1)) ∧ RepAll K B ws (kvs.map (·.2))
section
variable {K : PySem.W.Frag} {B B' H H' : Hp} {a : Addr} {kvs : List (D × D)}
theorem DicOk.live (h : DicOk K B H a kvs) : H a ≠ none := by
  obtain ⟨_, _, _, _, e, _⟩ := h
  rw [e]; simp
theorem DicOk.frame (h : DicOk K B H a kvs) (hb : Same B B') (hh : H' a = H a) : DicOk K B' H' a kvs := by
  obtain ⟨es, ep, ks, ws, e, y, r, r1, r2⟩ := h
  exact ⟨es, ep, ks, ws, hh.trans e, y, r, r1.mono hb, r2.mono hb⟩
theorem DicOk.rep (h : DicOk K B B a kvs) : Rep K B (.ref a) (.dic kvs) := by
  obtain ⟨es, ep, ks, ws, e, y, r, r1, r2⟩ := h
  exact .dic e y r rfl rfl r1 r2
theorem DicOk.of (h : Rep K B (.ref a) (.dic kvs)) : DicOk K B B a kvs := by
  cases h with
  | dic e y r e1 e2 r1 r2 =>
    subst e1 e2
    exact ⟨_, _, _, _, e, y, r, r1, r2⟩
end
def NodeOk (K : PySem.W.Frag) : Option Nat → HO → Nat → Prop
  | none, o, _ => ∃ vs, o = .lst vs
  | some c, o, n => ∃ C dx fl, o = .ins C dx fl ∧ ClsIs K C c ∧ fl.map (·.1) = (clsT c).2.take n
/-- the addresses of an own thing -/
def fpF (_ : Hp) (f : F) (_ : V) (a : Addr) : Prop := a ∈ idsF f
def fpFs (_ : Hp) (fs : List F) (_ : List V) (a : Addr) : Prop := a ∈ idsFs fs
mutual
def OwF (K : PySem.W.Frag) (B H : Hp) : F → V → Prop
  | .sh d, v => Rep K B v d
  | .ol q ds, v => v = .ref q ∧ ∃ vs, H q = some (.lst vs) ∧ RepAll K B vs ds
  | .od q kvs, v => v = .ref q ∧ DicOk K B H q kvs
  | .nd q k fs, v => v = .ref q ∧ ∃ o, H q = some o ∧ NodeOk K k o fs.length ∧ OwFs K B H fs (kidsV o) ∧ q ∉ idsFs fs
def OwFs (K : PySem.W.Frag) (B H : Hp) : List F → List V → Prop
  | [], vs => vs = []
  | f :: fs, vs => match vs with
    | v :: vs => OwF K B H f v ∧ OwFs K B H fs vs ∧ ∀ a, a ∈ idsF f → a ∉ idsFs fs
    | [] => False
end
section
variable {K : PySem.W.Frag} {B B' H H' : Hp}
mutual
theorem ow_live : ∀ {f : F} {v : V} {a : Addr}, OwF K B H f v → a ∈ idsF f → H a ≠ none
  | .sh _, _, _, _, h => by simp [idsF] at h
  | .ol _ _, _, _, ⟨_, vs, h, _⟩, h' => by
    have := List.mem_singleton.mp (by simpa [idsF] using h' : _ ∈ [_])
    subst this
    rw [h]; simp
  | .od q kvs, _, _, ⟨_, h⟩, h' => by
    have := List.mem_singleton.mp (by simpa [idsF] using h' : _ ∈ [_])
    subst this
    exact h.live
  | .nd _ _ fs, _, _, ⟨_, o, h, _, hk, _⟩, h' => by
    simp only [idsF, List.mem_cons] at h'
    rcases h' with h' | h'
    · subst h'
      rw [h]; simp
    · exact ow_lives hk h'
theorem ow_lives : ∀ {fs : List F} {vs : List V} {a : Addr}, OwFs K B H fs vs → a ∈ idsFs fs → H a ≠ none
  | [], _, _, _, h => by simp [idsFs] at h
  | _ :: _, [], _, h, _ => h.elim
  | f :: fs, v :: vs, a, ⟨h1, h2, _⟩, h => by
    simp only [idsFs, List.mem_append] at h
    rcases h with h | h
    · exact ow_live h1 h
    · exact ow_lives h2 h
end
mutual
theorem ow_frame : ∀ {f : F} {v : V}, OwF K B H f v → Same B B' → (∀ a, a ∈ idsF f → H' a = H a) → OwF K B' H' f v
  | .sh _, _, h, hb, _ => Rep.mono hb h
  | .ol q _, _, ⟨e, vs, h, r⟩, hb, hh => ⟨e, vs, (hh q (by simp [idsF])).trans h, r.mono hb⟩
  | .od q _, _, ⟨e, h⟩, hb, hh => ⟨e, h.frame hb (hh q (by simp [idsF]))⟩
  | .nd q _ fs, v, ⟨e, o, h, n, hk, nf⟩, hb, hh =>
    ⟨e, o, (hh q (by simp [idsF])).trans h, n, ow_frames hk hb (fun a q => hh a (by simp [idsF, q])), nf⟩
theorem ow_frames : ∀ {fs : List F} {vs : List V}, OwFs K B H fs vs → Same B B' → (∀ a, a ∈ idsFs fs → H' a = H a) → OwFs K B' H' fs vs
  | [], _, h, _, _ => h
  | _ :: _, [], h, _, _ => h.elim
  | f :: fs, v :: vs, ⟨h1, h2, h3⟩, hb, hh =>
    ⟨ow_frame h1 hb (fun a q => hh a (by simp [idsFs, q])), ow_frames h2 hb (fun a q => hh a (by simp [idsFs, q])), h3⟩
end
theorem OwFs.len : ∀ {fs : List F} {vs : List V}, OwFs K B H fs vs → vs.length = fs.length
  | [], vs, h => by
    have h : vs = [] := h
    rw [h]; rfl
  | _ :: _, [], h => h.elim
  | _ :: _, _ :: _, ⟨_, h, _⟩ => congrArg (· + 1) h.len
mutual
/-- what is in a heap that never changes is shared -/
theorem ow_rep (hb : Same B B') : ∀ {f : F} {v : V}, OwF K B H f v → (∀ a, a ∈ idsF f → B' a = H a) → Rep K B' v (fD f)
  | .sh _, _, h, _ => by
    rw [fD_sh]
    exact Rep.mono hb h
  | .ol q ds, _, ⟨e, vs, h, r⟩, hh => by
    subst e
    rw [fD_ol]
    exact .lst ((hh q (by simp [idsF])).trans h) (r.mono hb)
  | .od q kvs, _, ⟨e, h⟩, hh => by
    subst e
    rw [fD_od]
    exact (h.frame hb (hh q (by simp [idsF]))).rep
  | .nd q k fs, v, ⟨e, o, h, n, hk, nf⟩, hh => by
    have ih := ow_reps hb hk (fun a q => hh a (by simp [idsF, q]))
    subst e
    have h' := (hh q (by simp [idsF])).trans h
    cases k with
    | none =>
      obtain ⟨vs, rfl⟩ := n
      rw [fD_ls]
      exact .lst h' ih
    | some c =>
      obtain ⟨C, dx, fl, rfl, c1, c2⟩ := n
      rw [fD_ob]
      refine .obj h' c1 ?_ ih
      rw [c2]
      have : fs.length = (fDs fs).length := by
        have := ih.len
        rw [← this, ← hk.len]
      rw [this]
theorem ow_reps (hb : Same B B') : ∀ {fs : List F} {vs : List V}, OwFs K B H fs vs → (∀ a, a ∈ idsFs fs → B' a = H a) → RepAll K B' vs (fDs fs)
  | [], vs, h, _ => by
    have h : vs = [] := h
    rw [h, fDs_nil]
    exact .nil
  | _ :: _, [], h, _ => h.elim
  | f :: fs, v :: vs, ⟨h1, h2, _⟩, hh => by
    rw [fDs_cons]
    exact .cons (ow_rep hb h1 fun a q => hh a (by simp [idsFs, q])) (ow_reps hb h2 fun a q => hh a (by simp [idsFs, q]))
end
theorem OwF.isRef : ∀ {f : F} {v : V}, OwF K B H f v → (∃ d, f = .sh d) ∨ v = .ref (idF f)
  | .sh d, _, _ => Or.inl ⟨d, rfl⟩
  | .ol _ _, _, h => Or.inr h.1
  | .od _ _, _, h => Or.inr h.1
  | .nd _ _ _, _, h => Or.inr h.1
end
/-- what is lent: a list, a dict -/
def BorOk (K : PySem.W.Frag) (B L : Hp) (a : Addr) : D → Prop
  | .lst ds => ∃ vs, L a = some (.lst vs) ∧ RepAll K B vs ds
  | .dic kvs => DicOk K B L a kvs
  | _ => False
theorem BorOk.mono {K : PySem.W.Frag} {B B' L : Hp} {a : Addr} (hb : Same B B') : ∀ {d : D}, BorOk K B L a d → BorOk K B' L a d
  | .lst _, ⟨vs, h, r⟩ => ⟨vs, h, r.mono hb⟩
  | .dic _, h => DicOk.frame h hb rfl
  | .non, h => h.elim
  | .bl _, h => h.elim
  | .int _, h => h.elim
  | .str _, h => h.elim
  | .tup _, h => h.elim
  | .scr _, h => h.elim
  | .sett _, h => h.elim
  | .obj _ _, h => h.elim
  | .fn _, h => h.elim
theorem BorOk.live {K : PySem.W.Frag} {B L : Hp} {a : Addr} : ∀ {d : D}, BorOk K B L a d → L a ≠ none
  | .lst _, ⟨vs, h, r⟩ => by rw [h]; simp
  | .dic _, h => DicOk.live h
  | .non, h => h.elim
  | .bl _, h => h.elim
  | .int _, h => h.elim
  | .str _, h => h.elim
  | .tup _, h => h.elim
  | .scr _, h => h.elim
  | .sett _, h => h.elim
  | .obj _ _, h => h.elim
  | .fn _, h => h.elim
/-- an entry of the account -/
def En (K : PySem.W.Frag) (g : G) (B H : Hp) (s : St) (v : V) : T → Prop
  | .sh d => Rep K B v d
  | .bor d => ∃ a : Addr, v = .ref a ∧ a ∉ g.M ∧ BorOk K B g.H0 a d
  | .al i => s[i]? = some (some v)
  | .ol ds => ∃ (p : Addr) (vs : List V), v = .ref p ∧ H p = some (.lst vs) ∧ RepAll K B vs ds ∧ B p = none ∧ (g.H0 p = none ∨ p ∈ g.M)
  | .exc n ds => ∃ (a : Addr) (B1 : Hp), v = .ref a ∧ Same B1 B ∧ g.xs a n ds B1
  | .own f => OwF K B H f v ∧ ∀ a, fpF H f v a → B a = none ∧ (g.H0 a = none ∨ a ∈ g.M)
  | .ptr _ _ q => v = .ref q
abbrev Stk := List (V × T)
/-- the addresses that an entry has for itself -/
def fpT (H : Hp) (v : V) : T → Addr → Prop
  | .ol _, a => v = .ref a
  | .own f, a => fpF H f v a
  | _, _ => False
structure SR (K : PySem.W.Frag) (g : G) (B : Hp) (s : St) (r : Env) (z : Stk) (H : Hp) : Prop where
  b0 : Same g.B0 B
  bh : Same B H
  fr : ∀ a, B a ≠ none → g.B0 a ≠ none ∨ g.H0 a = none ∨ a ∈ g.M
  h0 : ∀ a o, g.H0 a = some o → a ∉ g.M → H a = some o
  hm : ∀ a, g.H0 a ≠ none → H a ≠ none
  len : s.length = r.length
  ln : r.length = g.n
  env : ∀ (i : Nat) t, look r i = some t → ∃ v, s[i]? = some (some v) ∧ En K g B H s v t
  stk : ∀ x, x ∈ z → En K g B H s x.1 x.2
  al : ∀ (i : Nat) v, (v, T.al i) ∈ z → i ∉ g.cs
  d1 : ∀ (i j : Nat) (t u : T) (v w : V), i ≠ j → look r i = some t → look r j = some u → s[i]? = some (some v) → s[j]? = some (some w) → ∀ a, fpT H v t a → fpT H w u a → False
  d2 : ∀ (i : Nat) (t : T) (v : V) (x : V × T), look r i = some t → s[i]? = some (some v) → x ∈ z → ∀ a, fpT H v t a → fpT H x.1 x.2 a → False
  d3 : z.Pairwise fun x y => ∀ a, fpT H x.1 x.2 a → fpT H y.1 y.2 a → False
  ea : ∀ (i j : Nat), look r i = some (.al j) → False

theorem look_put_self : ∀ {r : Env} {i : Nat} {t : Option T}, i < r.length → look (put r i t) i = t
  | _ :: _, 0, _, _ => rfl
  | _ :: r, i + 1, t, h => look_put_self (r := r) (i := i) (by simpa using h)
theorem look_put_ne : ∀ {r : Env} {i j : Nat} {t : Option T}, i ≠ j → look (put r i t) j = look r j
  | [], _, _, _, _ => rfl
  | _ :: _, 0, 0, _, h => absurd rfl h
  | _ :: _, 0, _ + 1, _, _ => rfl
  | _ :: _, _ + 1, 0, _, _ => rfl
  | _ :: r, i + 1, j + 1, t, h => look_put_ne (r := r) (i := i) (j := j) (fun e => h (by rw [e]))
theorem put_len : ∀ {r : Env} {i : Nat} {t : Option T}, (put r i t).length = r.length
  | [], _, _ => rfl
  | _ :: _, 0, _ => rfl
  | _ :: r, i + 1, t => congrArg (· + 1) (put_len (r := r) (i := i) (t := t))
theorem look_lt : ∀ {r : Env} {i : Nat} {t : T}, look r i = some t → i < r.length
  | [], _, _, h => by cases h
  | _ :: _, 0, _, _ => by simp
  | _ :: r, i + 1, t, h => by
    have := look_lt (r := r) (i := i) h
    simpa using this

section
variable {K : PySem.W.Frag} {g : G} {B B' H H' : Hp} {s : St} {r : Env} {z : Stk} {v : V} {t : T}
theorem En.live (h : En K g B H s v t) {a : Addr} (q : fpT H v t a) : H a ≠ none ∧ B a = none ∧ (g.H0 a = none ∨ a ∈ g.M) := by
  cases t with
  | ol ds =>
    obtain ⟨p, vs, e, h1, _, h3, h4⟩ := h
    rw [e] at q
    cases (show V.ref p = V.ref a from q)
    exact ⟨by rw [h1]; simp, h3, h4⟩
  | own f => exact ⟨ow_live h.1 q, (h.2 a q).1, (h.2 a q).2⟩
  | _ => exact q.elim
/-- an entry whose own addresses stay as they are -/
theorem En.frame (hb : Same B B') (hh : ∀ a, fpT H v t a → H' a = H a) (hn : ∀ a, fpT H v t a → B' a = none) (h : En K g B H s v t) : En K g B' H' s v t ∧ ∀ a, fpT H' v t a ↔ fpT H v t a := by
  cases t with
  | sh _ => exact ⟨Rep.mono hb h, fun _ => Iff.rfl⟩
  | bor _ =>
    obtain ⟨a, e1, h1, h2⟩ := h
    exact ⟨⟨a, e1, h1, h2.mono hb⟩, fun _ => Iff.rfl⟩
  | al _ => exact ⟨h, fun _ => Iff.rfl⟩
  | exc _ _ =>
    obtain ⟨a, B1, e1, h1, h2⟩ := h
    exact ⟨⟨a, B1, e1, h1.trans hb, h2⟩, fun _ => Iff.rfl⟩
  | ptr _ _ _ => exact ⟨h, fun _ => Iff.rfl⟩
  | ol ds =>
    obtain ⟨p, vs, e, h1, h2, h3, h4⟩ := h
    exact ⟨⟨p, vs, e, (hh p e).trans h1, h2.mono hb, hn p e, h4⟩, fun _ => Iff.rfl⟩
  | own f =>
    exact ⟨⟨ow_frame h.1 hb hh, fun a q => ⟨hn a q, (h.2 a q).2⟩⟩, fun _ => Iff.rfl⟩
/-- the heap grows, what is shared grows -/
theorem En.growI (hb : Same B B') (hh : Same H H') (hn : ∀ a, B' a ≠ none → B a ≠ none ∨ H a = none) (h : En K g B H s v t) : En K g B' H' s v t ∧ ∀ a, fpT H' v t a ↔ fpT H v t a :=
  h.frame hb (fun a q => by
    cases e : H a with
    | none => exact absurd e (h.live q).1
    | some o => exact hh a o e) fun a q => by
    obtain ⟨q1, q2, _⟩ := h.live q
    cases e : B' a with
    | none => rfl
    | some o =>
      rcases hn a (by rw [e]; simp) with z | z
      · exact absurd q2 z
      · exact absurd z q1
theorem En.grow (hb : Same B B') (hh : Same H H') (hn : ∀ a, B' a ≠ none → B a ≠ none ∨ H a = none) (h : En K g B H s v t) : En K g B' H' s v t := (h.growI hb hh hn).1
theorem SR.grow (S : SR K g B s r z H) (hb : Same B B') (hh : Same H H') (hs : Same B' H') (hn : ∀ a, B' a ≠ none → B a ≠ none ∨ H a = none) : SR K g B' s r z H' where
  b0 := fun a o e => hb a o (S.b0 a o e)
  bh := hs
  fr := fun a h => by
    rcases hn a h with q | q
    · exact S.fr a q
    · exact Or.inr (Or.inl (Classical.byContradiction fun e => S.hm a e q))
  h0 := fun a o e m => hh a o (S.h0 a o e m)
  hm := fun a e => by
    cases q : H a with
    | none => exact absurd q (S.hm a e)
    | some o => rw [hh a o q]; simp
  len := S.len
  ln := S.ln
  env := fun i t e => by
    obtain ⟨v, h1, h2⟩ := S.env i t e
    exact ⟨v, h1, h2.grow hb hh hn⟩
  stk := fun x hx => (S.stk x hx).grow hb hh hn
  al := S.al
  d1 := fun i j t u v w hij l1 l2 e1 e2 a q1 q2 => by
    obtain ⟨v', f1, g1⟩ := S.env i t l1
    obtain ⟨w', f2, g2⟩ := S.env j u l2
    rw [e1] at f1
    rw [e2] at f2
    cases f1
    cases f2
    exact S.d1 i j t u v w hij l1 l2 e1 e2 a (((g1.growI hb hh hn).2 a).mp q1) (((g2.growI hb hh hn).2 a).mp q2)
  d2 := fun i t v x l1 e1 hx a q1 q2 => by
    obtain ⟨v', f1, g1⟩ := S.env i t l1
    rw [e1] at f1
    cases f1
    exact S.d2 i t v x l1 e1 hx a (((g1.growI hb hh hn).2 a).mp q1) ((((S.stk x hx).growI hb hh hn).2 a).mp q2)
  d3 := List.Pairwise.imp_of_mem (fun {x y} hx hy h a q1 q2 => h a ((((S.stk x hx).growI hb hh hn).2 a).mp q1) ((((S.stk y hy).growI hb hh hn).2 a).mp q2)) S.d3
  ea := S.ea
/-- the heap alone grows -/
theorem SR.heap (S : SR K g B s r z H) (hh : Same H H') : SR K g B s r z H' :=
  S.grow (Same.refl _) hh (S.bh.trans hh) fun a h => Or.inl h
theorem sm_new {H : Hp} {p : Addr} {o : HO} (h : H p = none) : Same H (L2.upd H p o) := fun a u e => by
  rw [upd_ne (ne_of_none e h)]
  exact e
theorem sm_upd {B H : Hp} {p : Addr} {o : HO} (h : Same B H) : Same (L2.upd B p o) (L2.upd H p o) := fun a u e => by
  by_cases q : a = p
  · subst q
    rw [upd_same] at e ⊢
    exact e
  · rw [upd_ne q] at e ⊢
    exact h a u e
theorem sm_mut {B H : Hp} {p : Addr} {o : HO} (h : Same B H) (n : B p = none) : Same B (L2.upd H p o) := fun a u e => by
  rw [upd_ne (ne_of_none e n)]
  exact h a u e
theorem SR.bnone (S : SR K g B s r z H) {p : Addr} (hp : H p = none) : B p = none := by
  cases q : B p with
  | none => rfl
  | some u => rw [S.bh p u q] at hp; cases hp
theorem SR.h0none (S : SR K g B s r z H) {p : Addr} (hp : H p = none) : g.H0 p = none := Classical.byContradiction fun e => S.hm p e hp
/-- a new object that is shared at once -/
theorem SR.alloc (S : SR K g B s r z H) {p : Addr} {o : HO} (hp : H p = none) : SR K g (L2.upd B p o) s r z (L2.upd H p o) := by
  have bp : B p = none := S.bnone hp
  refine S.grow (sm_new bp) (sm_new hp) (sm_upd S.bh) fun a h => ?_
  by_cases q : a = p
  · subst q; exact Or.inr hp
  · rw [upd_ne q] at h; exact Or.inl h
/-- what has no addresses of its own comes onto the stack -/
theorem SR.pushN (S : SR K g B s r z H) (h : En K g B H s v t) (hf : ∀ a, fpT H v t a → False) (hc : ∀ i, t = .al i → i ∉ g.cs) : SR K g B s r ((v, t) :: z) H :=
  ⟨S.b0, S.bh, S.fr, S.h0, S.hm, S.len, S.ln, S.env, fun x hx => by
    rcases List.mem_cons.mp hx with e | hx
    · subst e; exact h
    · exact S.stk x hx, fun i v' hx => by
    rcases List.mem_cons.mp hx with e | hx
    · cases e; exact hc i rfl
    · exact S.al i v' hx, S.d1, fun i t' v' x l e hx a q1 q2 => by
    rcases List.mem_cons.mp hx with e' | hx
    · subst e'; exact hf a q2
    · exact S.d2 i t' v' x l e hx a q1 q2, List.pairwise_cons.mpr ⟨fun _ _ a q _ => hf a q, S.d3⟩, S.ea⟩
theorem SR.push (S : SR K g B s r z H) {d : D} (h : Rep K B v d) : SR K g B s r ((v, .sh d) :: z) H :=
  S.pushN h (fun _ q => q) fun i e => by cases e
theorem SR.pushAl (S : SR K g B s r z H) {i : Nat} (h : look r i = some t) (hc : i ∉ g.cs) : ∃ v, s[i]? = some (some v) ∧ SR K g B s r ((v, .al i) :: z) H := by
  obtain ⟨v, h1, h2⟩ := S.env i t h
  exact ⟨v, h1, S.pushN h1 (fun _ q => q) fun j e => by cases e; exact hc⟩
theorem SR.pop {x : V × T} (S : SR K g B s r (x :: z) H) : SR K g B s r z H :=
  ⟨S.b0, S.bh, S.fr, S.h0, S.hm, S.len, S.ln, S.env, fun x hx => S.stk x (List.mem_cons_of_mem _ hx), fun i v hx => S.al i v (List.mem_cons_of_mem _ hx), S.d1, fun i t v x h1 h2 hx => S.d2 i t v x h1 h2 (List.mem_cons_of_mem _ hx), (List.pairwise_cons.mp S.d3).2, S.ea⟩
theorem SR.top (S : SR K g B s r ((v, t) :: z) H) : En K g B H s v t := S.stk (v, t) List.mem_cons_self
/-- an own thing all of whose addresses are new comes onto the stack -/
theorem SR.pushF (S : SR K g B s r z H) (h : En K g B H s v t) (hf : ∀ a, fpT H v t a → (∀ i u w, look r i = some u → s[i]? = some (some w) → ¬ fpT H w u a) ∧ ∀ x ∈ z, ¬ fpT H x.1 x.2 a) (hc : ∀ i, t ≠ .al i) : SR K g B s r ((v, t) :: z) H :=
  ⟨S.b0, S.bh, S.fr, S.h0, S.hm, S.len, S.ln, S.env, fun x hx => by
    rcases List.mem_cons.mp hx with e | hx
    · subst e; exact h
    · exact S.stk x hx, fun i v' hx => by
    rcases List.mem_cons.mp hx with e | hx
    · cases e; exact absurd rfl (hc i)
    · exact S.al i v' hx, S.d1, fun i t' v' x l e hx a q1 q2 => by
    rcases List.mem_cons.mp hx with e' | hx
    · subst e'; exact (hf a q2).1 i t' v' l e q1
    · exact S.d2 i t' v' x l e hx a q1 q2, List.pairwise_cons.mpr ⟨fun y hy a q1 q2 => (hf a q1).2 y hy q2, S.d3⟩, S.ea⟩
/-- nobody holds a free address -/
theorem SR.free (S : SR K g B s r z H) {a : Addr} (hp : H a = none) : (∀ i u w, look r i = some u → s[i]? = some (some w) → ¬ fpT H w u a) ∧ ∀ x ∈ z, ¬ fpT H x.1 x.2 a := by
  refine ⟨fun i u w l e q => ?_, fun x hx q => ((S.stk x hx).live q).1 hp⟩
  obtain ⟨v, e1, h⟩ := S.env i u l
  rw [e] at e1
  cases e1
  exact (h.live q).1 hp
theorem SR.fresh (S : SR K g B s r z H) {p : Addr} (hp : H p = none) : (∀ (i : Nat) ds, look r i = some (.ol ds) → s[i]? = some (some (.ref p)) → False) ∧ ∀ ds, (V.ref p, T.ol ds) ∈ z → False :=
  ⟨fun i ds l e => (S.free hp).1 i _ _ l e rfl, fun ds hx => (S.free hp).2 _ hx rfl⟩
/-- an own thing that was made: its addresses were free before -/
theorem SR.ownG (S : SR K g B s r z H) (hh : Same H H') (h : En K g B H' s v t) (hf : ∀ a, fpT H' v t a → H a = none) (hc : ∀ i, t ≠ .al i) : SR K g B s r ((v, t) :: z) H' := by
  have S1 := S.heap hh
  refine S1.pushF h (fun a q => ?_) hc
  have ha := hf a q
  obtain ⟨f1, f2⟩ := S.free ha
  refine ⟨fun i u w l e q => ?_, fun x hx q => ?_⟩
  · obtain ⟨v', e1, g1⟩ := S.env i u l
    rw [e] at e1
    cases e1
    exact f1 i u w l e (((g1.growI (Same.refl _) hh fun _ h => Or.inl h).2 a).mp q)
  · exact f2 x hx ((((S.stk x hx).growI (Same.refl _) hh fun _ h => Or.inl h).2 a).mp q)
/-- a new list of one's own -/
theorem SR.own (S : SR K g B s r z H) {p : Addr} {vs : List V} {ds : List D} (hp : H p = none) (h : RepAll K B vs ds) : SR K g B s r ((.ref p, .ol ds) :: z) (upd H p (.lst vs)) :=
  S.ownG (sm_new hp) ⟨p, vs, rfl, upd_same, h, S.bnone hp, Or.inl (S.h0none hp)⟩ (fun a q => by
    cases (show V.ref p = V.ref a from q)
    exact hp) fun i e => by cases e
/-- what a T becomes once it is shared -/
def frzT : T → Option D
  | .ol ds => some (.lst ds)
  | .own f => some (fD f)
  | _ => none
/-- the top becomes shared -/
theorem SR.freezeT {d : D} (S : SR K g B s r ((v, t) :: z) H) (hd : frzT t = some d) : ∃ B', Same B B' ∧ SR K g B' s r ((v, .sh d) :: z) H := by
  have S0 := S.pop
  have top := S.top
  have := Classical.propDecidable
  let B' : Hp := fun a => if fpT H v t a then H a else B a
  have bin : ∀ a, fpT H v t a → B' a = H a := fun a q => if_pos q
  have bout : ∀ a, ¬ fpT H v t a → B' a = B a := fun a q => if_neg q
  have bs : Same B B' := fun a o e => by
    by_cases q : fpT H v t a
    · rw [(top.live q).2.1] at e; cases e
    · rw [bout a q]; exact e
  have bh : Same B' H := fun a u e => by
    by_cases q : fpT H v t a
    · rw [bin a q] at e; exact e
    · rw [bout a q] at e; exact S.bh a u e
  have rep : Rep K B' v d := by
    cases t with
    | ol ds =>
      cases hd
      obtain ⟨p, vs, rfl, h1, h2, h3, h4⟩ := top
      exact .lst ((bin p rfl).trans h1) (h2.mono bs)
    | own f =>
      cases hd
      exact ow_rep bs top.1 fun a q => bin a q
    | _ => cases hd
  have keep : ∀ {v' : V} {t' : T}, En K g B H s v' t' → (∀ a, fpT H v t a → fpT H v' t' a → False) → En K g B' H s v' t' := fun {v' t'} h hne =>
    (h.frame bs (fun _ _ => rfl) fun a q => by
      rw [bout a fun q' => hne a q' q]
      exact (h.live q).2.1).1
  have k1 := (List.pairwise_cons.mp S.d3).1
  have S1 : SR K g B' s r z H := ⟨fun a o e => bs a o (S.b0 a o e), bh, fun a h => by
    by_cases q : fpT H v t a
    · exact Or.inr (top.live q).2.2
    · rw [bout a q] at h; exact S.fr a h, S.h0, S.hm, S.len, S.ln, fun i t' e => by
    obtain ⟨w, e1, e2⟩ := S.env i t' e
    exact ⟨w, e1, keep e2 fun a q1 q2 => S.d2 i t' w (v, t) e e1 List.mem_cons_self a q2 q1⟩, fun x hx => keep (S0.stk x hx) fun a q1 q2 => k1 x hx a q1 q2, S0.al, S0.d1, S0.d2, S0.d3, S0.ea⟩
  exact ⟨B', bs, S1.push rep⟩
theorem SR.freeze {ds : List D} (S : SR K g B s r ((v, .ol ds) :: z) H) : ∃ B', Same B B' ∧ SR K g B' s r ((v, .sh (.lst ds)) :: z) H := S.freezeT rfl
/-- slot i is empty -/
theorem SR.dropped (S : SR K g B s r z H) (i : Nat) : SR K g B s (put r i none) z H := by
  have ne : ∀ {j : Nat} {t : T}, look (put r i none) j = some t → look r j = some t := fun {j t} e => by
    by_cases q : i = j
    · subst q
      by_cases lt : i < r.length
      · rw [look_put_self lt] at e
        cases e
      · have := look_lt e
        rw [put_len] at this
        exact absurd this lt
    · rw [look_put_ne q] at e
      exact e
  exact ⟨S.b0, S.bh, S.fr, S.h0, S.hm, by rw [put_len]; exact S.len, by rw [put_len]; exact S.ln, fun j t e => S.env j t (ne e), S.stk, S.al, fun j k t u v w hjk a b => S.d1 j k t u v w hjk (ne a) (ne b), fun j t v x a => S.d2 j t v x (ne a), S.d3, fun j k e => S.ea j k (ne e)⟩
/-- slot i's own thing goes onto the stack -/
theorem SR.takeT {i : Nat} (S : SR K g B s r z H) (h : look r i = some t) (hc : ∀ j, t ≠ .al j) : ∃ v, s[i]? = some (some v) ∧ SR K g B s (put r i none) ((v, t) :: z) H := by
  obtain ⟨v, e1, e2⟩ := S.env i _ h
  refine ⟨v, e1, (S.dropped i).pushF e2 (fun a q => ⟨fun j u w l e q2 => ?_, fun x hx q2 => S.d2 i t v x h e1 hx a q q2⟩) hc⟩
  have lt := look_lt h
  by_cases ij : i = j
  · subst ij
    rw [look_put_self lt] at l
    cases l
  · rw [look_put_ne ij] at l
    exact S.d1 i j t u v w ij h l e1 e a q q2
theorem SR.take {i : Nat} {ds : List D} (S : SR K g B s r z H) (h : look r i = some (.ol ds)) : ∃ v, s[i]? = some (some v) ∧ SR K g B s (put r i none) ((v, .ol ds) :: z) H := S.takeT h fun j e => by cases e
/-- the top goes into slot i; the slot itself must not stand on the stack -/
theorem SR.storeT {i : Nat} (S : SR K g B s r ((v, t) :: z) H) (hi : i < r.length) (tal : ∀ j, t ≠ .al j) (hz : ∀ w, (w, T.al i) ∉ z) : SR K g B (s.set i (some v)) (put r i (some t)) z H := by
  have his : i < s.length := by rw [S.len]; exact hi
  have one : ∀ {j : Nat} {t' : T}, look (put r i (some t)) j = some t' → (j = i ∧ t' = t) ∨ (i ≠ j ∧ look r j = some t') := fun {j t'} e => by
    by_cases q : i = j
    · subst q
      rw [look_put_self hi] at e
      cases e
      exact Or.inl ⟨rfl, rfl⟩
    · rw [look_put_ne q] at e
      exact Or.inr ⟨q, e⟩
  have sg : ∀ {j : Nat}, i ≠ j → (s.set i (some v))[j]? = s[j]? := fun {j} q => List.getElem?_set_ne q
  have ss : (s.set i (some v))[i]? = some (some v) := List.getElem?_set_self his
  have en : ∀ {v' : V} {t' : T}, (∀ j, t' = .al j → j ≠ i) → En K g B H s v' t' → En K g B H (s.set i (some v)) v' t' := fun {v' t'} hne h => by
    cases t' with
    | al j =>
      have : (s.set i (some v))[j]? = some (some v') := (sg (Ne.symm (hne j rfl))).trans h
      exact this
    | sh _ => exact h
    | bor _ => exact h
    | ol _ => exact h
    | exc _ _ => exact h
    | own _ => exact h
    | ptr _ _ _ => exact h
  have d3 := List.pairwise_cons.mp S.d3
  refine ⟨S.b0, S.bh, S.fr, S.h0, S.hm, by rw [put_len, List.length_set]; exact S.len, by rw [put_len]; exact S.ln, fun j t' e => ?_, fun x hx => ?_, fun j w hx => S.al j w (List.mem_cons_of_mem _ hx), fun j k t1 t2 v1 v2 hjk a b c d x q1 q2 => ?_, fun j t1 v1 x a b hx y q1 q2 => ?_, d3.2, fun j k e => ?_⟩
  · rcases one e with ⟨rfl, rfl⟩ | ⟨q, e⟩
    · exact ⟨v, ss, en (fun j e => absurd e (tal j)) S.top⟩
    · obtain ⟨w, a, b⟩ := S.env j t' e
      exact ⟨w, (sg q).trans a, en (fun k e' => by subst e'; exact absurd e (S.ea j k)) b⟩
  · refine en (fun j e => ?_) (S.stk x (List.mem_cons_of_mem _ hx))
    obtain ⟨xv, xt⟩ := x
    have e' : xt = .al j := e
    subst e'
    intro q
    subst q
    exact hz _ hx
  · rcases one a with ⟨e1, e2⟩ | ⟨p1, a'⟩
    · rcases one b with ⟨e, _⟩ | ⟨p2, b'⟩
      · exact hjk (e1.trans e.symm)
      · rw [e1, ss] at c
        rw [sg p2] at d
        cases c
        rw [e2] at q1
        exact S.d2 k t2 v2 (v, t) b' d List.mem_cons_self x q2 q1
    · rcases one b with ⟨e1, e2⟩ | ⟨p2, b'⟩
      · rw [e1, ss] at d
        rw [sg p1] at c
        cases d
        rw [e2] at q2
        exact S.d2 j t1 v1 (v, t) a' c List.mem_cons_self x q1 q2
      · rw [sg p1] at c
        rw [sg p2] at d
        exact S.d1 j k t1 t2 v1 v2 hjk a' b' c d x q1 q2
  · rcases one a with ⟨e1, e2⟩ | ⟨p1, a'⟩
    · rw [e1, ss] at b
      cases b
      rw [e2] at q1
      exact d3.1 x hx y q1 q2
    · rw [sg p1] at b
      exact S.d2 j t1 v1 x a' b (List.mem_cons_of_mem _ hx) y q1 q2
  · rcases one e with ⟨_, e'⟩ | ⟨_, e'⟩
    · exact tal k e'.symm
    · exact S.ea j k e'
/-- slot i's own thing, with what stands on the stack's top zo, is given another content; zn comes onto the stack -/
theorem SR.store {i : Nat} (S : SR K g B s r ((v, t) :: z) H) (hi : i < r.length) (ht : (∃ d, t = .sh d) ∨ (∃ ds, t = .ol ds) ∨ ∃ f, t = .own f) (hz : ∀ w, (w, T.al i) ∉ z) : SR K g B (s.set i (some v)) (put r i (some t)) z H :=
  S.storeT hi (fun j e => by
    subst e
    rcases ht with ⟨_, ht⟩ | ⟨_, ht⟩ | ⟨_, ht⟩ <;> cases ht) hz
theorem SR.trade {i : Nat} {zo zn : Stk} {t' : T} (S : SR K g B s r (zo ++ z) H) (h : look r i = some t) (hv : s[i]? = some (some v))
    (hh : ∀ a o, H a = some o → ¬ fpT H v t a → (∀ x ∈ zo, ¬ fpT H x.1 x.2 a) → H' a = some o) (hm : ∀ a, H a ≠ none → H' a ≠ none)
    (ok : En K g B H' s v t') (sub : ∀ a, fpT H' v t' a → fpT H v t a ∨ (∃ x ∈ zo, fpT H x.1 x.2 a) ∨ H a = none)
    (okn : ∀ x ∈ zn, En K g B H' s x.1 x.2) (subn : ∀ x ∈ zn, ∀ a, fpT H' x.1 x.2 a → fpT H v t a ∨ (∃ x ∈ zo, fpT H x.1 x.2 a) ∨ H a = none)
    (al : ∀ x ∈ zn, ∀ j, x.2 ≠ .al j) (al' : ∀ j, t' ≠ .al j) (dis : ∀ x ∈ zn, ∀ a, fpT H' v t' a → fpT H' x.1 x.2 a → False) (disn : zn.Pairwise fun x y => ∀ a, fpT H' x.1 x.2 a → fpT H' y.1 y.2 a → False) :
    SR K g B s (put r i (some t')) (zn ++ z) H' := by
  have lt := look_lt h
  obtain ⟨v0, e0, en0⟩ := S.env i t h
  rw [hv] at e0
  cases e0
  obtain ⟨pz1, pz2, pz3⟩ := List.pairwise_append.mp S.d3
  -- traded addresses
  have old : ∀ a, (fpT H v t a ∨ ∃ x ∈ zo, fpT H x.1 x.2 a) → B a = none ∧ (g.H0 a = none ∨ a ∈ g.M) := fun a q => by
    rcases q with q | ⟨x, hx, q⟩
    · exact ⟨(en0.live q).2.1, (en0.live q).2.2⟩
    · have := (S.stk x (List.mem_append_left _ hx)).live q
      exact ⟨this.2.1, this.2.2⟩
  have out : ∀ {w : V} {u : T}, En K g B H s w u → (∀ a, fpT H w u a → ¬ fpT H v t a ∧ ∀ x ∈ zo, ¬ fpT H x.1 x.2 a) → En K g B H' s w u ∧ ∀ a, fpT H' w u a ↔ fpT H w u a := fun {w u} e n =>
    e.frame (Same.refl _) (fun a q => by
      cases eo : H a with
      | none => exact absurd eo (e.live q).1
      | some o => exact hh a o eo (n a q).1 (n a q).2) fun a q => (e.live q).2.1
  have oe : ∀ j w u, i ≠ j → look r j = some u → s[j]? = some (some w) → En K g B H s w u → ∀ a, fpT H w u a → ¬ fpT H v t a ∧ ∀ x ∈ zo, ¬ fpT H x.1 x.2 a := fun j w u ij l e _ a q =>
    ⟨fun q' => S.d1 i j t u v w ij h l hv e a q' q, fun x hx q' => S.d2 j u w x l e (List.mem_append_left _ hx) a q q'⟩
  have oz : ∀ y ∈ z, ∀ a, fpT H y.1 y.2 a → ¬ fpT H v t a ∧ ∀ x ∈ zo, ¬ fpT H x.1 x.2 a := fun y hy a q =>
    ⟨fun q' => S.d2 i t v y h hv (List.mem_append_right _ hy) a q' q, fun x hx q' => pz3 x hx y hy a q' q⟩
  have nold : ∀ {a : Addr}, (fpT H v t a ∨ (∃ x ∈ zo, fpT H x.1 x.2 a) ∨ H a = none) → (H a ≠ none → ¬ fpT H v t a → (∀ x ∈ zo, ¬ fpT H x.1 x.2 a) → False) := fun {a} q n1 n2 n3 => by
    rcases q with q | ⟨x, hx, q⟩ | q
    · exact n2 q
    · exact n3 x hx q
    · exact n1 q
  have one : ∀ {j : Nat} {u : T}, look (put r i (some t')) j = some u → (j = i ∧ u = t') ∨ (i ≠ j ∧ look r j = some u) := fun {j u} e => by
    by_cases q : i = j
    · subst q
      rw [look_put_self lt] at e
      cases e
      exact Or.inl ⟨rfl, rfl⟩
    · rw [look_put_ne q] at e
      exact Or.inr ⟨q, e⟩
  refine ⟨S.b0, fun a o e => ?_, S.fr, fun a o e m => ?_, fun a e => hm a (S.hm a e), by rw [put_len]; exact S.len, by rw [put_len]; exact S.ln, fun j u e => ?_, fun x hx => ?_, fun j w hx => ?_, fun j k t1 t2 v1 v2 hjk a b c d y q1 q2 => ?_, fun j t1 v1 x a b hx y q1 q2 => ?_, ?_, fun j k e => ?_⟩
  · refine hh a o (S.bh a o e) (fun q => ?_) fun x hx q => ?_
    · have := (old a (Or.inl q)).1
      rw [e] at this; cases this
    · have := (old a (Or.inr ⟨x, hx, q⟩)).1
      rw [e] at this; cases this
  · refine hh a o (S.h0 a o e m) (fun q => ?_) fun x hx q => ?_
    · rcases (old a (Or.inl q)).2 with q | q
      · rw [e] at q; cases q
      · exact m q
    · rcases (old a (Or.inr ⟨x, hx, q⟩)).2 with q | q
      · rw [e] at q; cases q
      · exact m q
  · rcases one e with ⟨rfl, rfl⟩ | ⟨q, e⟩
    · exact ⟨v, hv, ok⟩
    · obtain ⟨w, a, b⟩ := S.env j u e
      exact ⟨w, a, (out b (oe j w u q e a b)).1⟩
  · rcases List.mem_append.mp hx with hx | hx
    · exact okn x hx
    · exact (out (S.stk x (List.mem_append_right _ hx)) (oz x hx)).1
  · rcases List.mem_append.mp hx with hx | hx
    · exact absurd rfl (al _ hx j)
    · exact S.al j w (List.mem_append_right _ hx)
  · rcases one a with ⟨e1, e2⟩ | ⟨p1, a'⟩
    · rcases one b with ⟨e, _⟩ | ⟨p2, b'⟩
      · exact hjk (e1.trans e.symm)
      · subst e1 e2
        rw [hv] at c
        cases c
        obtain ⟨w, f1, f2⟩ := S.env k t2 b'
        rw [d] at f1
        cases f1
        have o2 := oe k v2 t2 p2 b' d f2
        have q3 := ((out f2 o2).2 y).mp q2
        exact nold (sub y q1) (f2.live q3).1 (o2 y q3).1 (o2 y q3).2
    · rcases one b with ⟨e1, e2⟩ | ⟨p2, b'⟩
      · subst e1 e2
        rw [hv] at d
        cases d
        obtain ⟨w, f1, f2⟩ := S.env j t1 a'
        rw [c] at f1
        cases f1
        have o2 := oe j v1 t1 p1 a' c f2
        have q3 := ((out f2 o2).2 y).mp q1
        exact nold (sub y q2) (f2.live q3).1 (o2 y q3).1 (o2 y q3).2
      · obtain ⟨w1, f1, f2⟩ := S.env j t1 a'
        obtain ⟨w2, g1, g2⟩ := S.env k t2 b'
        rw [c] at f1
        rw [d] at g1
        cases f1
        cases g1
        exact S.d1 j k t1 t2 v1 v2 hjk a' b' c d y (((out f2 (oe j v1 t1 p1 a' c f2)).2 y).mp q1) (((out g2 (oe k v2 t2 p2 b' d g2)).2 y).mp q2)
  · rcases one a with ⟨e1, e2⟩ | ⟨p1, a'⟩
    · subst e1 e2
      rw [hv] at b
      cases b
      rcases List.mem_append.mp hx with hx | hx
      · exact dis x hx y q1 q2
      · have f2 := S.stk x (List.mem_append_right _ hx)
        have q3 := ((out f2 (oz x hx)).2 y).mp q2
        exact nold (sub y q1) (f2.live q3).1 (oz x hx y q3).1 (oz x hx y q3).2
    · obtain ⟨w, f1, f2⟩ := S.env j t1 a'
      rw [b] at f1
      cases f1
      have o2 := oe j v1 t1 p1 a' b f2
      have q3 := ((out f2 o2).2 y).mp q1
      rcases List.mem_append.mp hx with hx | hx
      · exact nold (subn x hx y q2) (f2.live q3).1 (o2 y q3).1 (o2 y q3).2
      · have g2 := S.stk x (List.mem_append_right _ hx)
        exact S.d2 j t1 v1 x a' b (List.mem_append_right _ hx) y q3 (((out g2 (oz x hx)).2 y).mp q2)
  · refine List.pairwise_append.mpr ⟨disn, ?_, fun x hx y hy a q1 q2 => ?_⟩
    · exact List.Pairwise.imp_of_mem (fun {x y} hx hy hq a q1 q2 => hq a (((out (S.stk x (List.mem_append_right _ hx)) (oz x hx)).2 a).mp q1) (((out (S.stk y (List.mem_append_right _ hy)) (oz y hy)).2 a).mp q2)) pz2
    · have f2 := S.stk y (List.mem_append_right _ hy)
      have q3 := ((out f2 (oz y hy)).2 a).mp q2
      exact nold (subn x hx a q1) (f2.live q3).1 (oz y hy a q3).1 (oz y hy a q3).2
  · rcases one e with ⟨_, e'⟩ | ⟨_, e'⟩
    · exact al' k e'.symm
    · exact S.ea j k e'
/-- the stack's top zo is given another content zn -/
theorem SR.tradeZ {zo zn : Stk} (S : SR K g B s r (zo ++ z) H)
    (hh : ∀ a o, H a = some o → (∀ x ∈ zo, ¬ fpT H x.1 x.2 a) → H' a = some o) (hm : ∀ a, H a ≠ none → H' a ≠ none)
    (okn : ∀ x ∈ zn, En K g B H' s x.1 x.2) (subn : ∀ x ∈ zn, ∀ a, fpT H' x.1 x.2 a → (∃ x ∈ zo, fpT H x.1 x.2 a) ∨ H a = none)
    (al : ∀ x ∈ zn, ∀ j, x.2 ≠ .al j) (disn : zn.Pairwise fun x y => ∀ a, fpT H' x.1 x.2 a → fpT H' y.1 y.2 a → False) :
    SR K g B s r (zn ++ z) H' := by
  obtain ⟨pz1, pz2, pz3⟩ := List.pairwise_append.mp S.d3
  have old : ∀ a, (∃ x ∈ zo, fpT H x.1 x.2 a) → B a = none ∧ (g.H0 a = none ∨ a ∈ g.M) := fun a ⟨x, hx, q⟩ => by
    have := (S.stk x (List.mem_append_left _ hx)).live q
    exact ⟨this.2.1, this.2.2⟩
  have out : ∀ {w : V} {u : T}, En K g B H s w u → (∀ a, fpT H w u a → ∀ x ∈ zo, ¬ fpT H x.1 x.2 a) → En K g B H' s w u ∧ ∀ a, fpT H' w u a ↔ fpT H w u a := fun {w u} e n =>
    e.frame (Same.refl _) (fun a q => by
      cases eo : H a with
      | none => exact absurd eo (e.live q).1
      | some o => exact hh a o eo (n a q)) fun a q => (e.live q).2.1
  have oe : ∀ j w u, look r j = some u → s[j]? = some (some w) → ∀ a, fpT H w u a → ∀ x ∈ zo, ¬ fpT H x.1 x.2 a := fun j w u l e a q x hx q' =>
    S.d2 j u w x l e (List.mem_append_left _ hx) a q q'
  have oz : ∀ y ∈ z, ∀ a, fpT H y.1 y.2 a → ∀ x ∈ zo, ¬ fpT H x.1 x.2 a := fun y hy a q x hx q' => pz3 x hx y hy a q' q
  have nold : ∀ {a : Addr}, ((∃ x ∈ zo, fpT H x.1 x.2 a) ∨ H a = none) → (H a ≠ none → (∀ x ∈ zo, ¬ fpT H x.1 x.2 a) → False) := fun {a} q n1 n3 => by
    rcases q with ⟨x, hx, q⟩ | q
    · exact n3 x hx q
    · exact n1 q
  refine ⟨S.b0, fun a o e => ?_, S.fr, fun a o e m => ?_, fun a e => hm a (S.hm a e), S.len, S.ln, fun j u e => ?_, fun x hx => ?_, fun j w hx => ?_, fun j k t1 t2 v1 v2 hjk a b c d y q1 q2 => ?_, fun j t1 v1 x a b hx y q1 q2 => ?_, ?_, S.ea⟩
  · refine hh a o (S.bh a o e) fun x hx q => ?_
    have := (old a ⟨x, hx, q⟩).1
    rw [e] at this; cases this
  · refine hh a o (S.h0 a o e m) fun x hx q => ?_
    rcases (old a ⟨x, hx, q⟩).2 with q | q
    · rw [e] at q; cases q
    · exact m q
  · obtain ⟨w, a, b⟩ := S.env j u e
    exact ⟨w, a, (out b (oe j w u e a)).1⟩
  · rcases List.mem_append.mp hx with hx | hx
    · exact okn x hx
    · exact (out (S.stk x (List.mem_append_right _ hx)) (oz x hx)).1
  · rcases List.mem_append.mp hx with hx | hx
    · exact absurd rfl (al _ hx j)
    · exact S.al j w (List.mem_append_right _ hx)
  · obtain ⟨w1, f1, f2⟩ := S.env j t1 a
    obtain ⟨w2, g1, g2⟩ := S.env k t2 b
    rw [c] at f1
    rw [d] at g1
    cases f1
    cases g1
    exact S.d1 j k t1 t2 v1 v2 hjk a b c d y (((out f2 (oe j v1 t1 a c)).2 y).mp q1) (((out g2 (oe k v2 t2 b d)).2 y).mp q2)
  · obtain ⟨w, f1, f2⟩ := S.env j t1 a
    rw [b] at f1
    cases f1
    have o2 := oe j v1 t1 a b
    have q3 := ((out f2 o2).2 y).mp q1
    rcases List.mem_append.mp hx with hx | hx
    · exact nold (subn x hx y q2) (f2.live q3).1 (o2 y q3)
    · have g2 := S.stk x (List.mem_append_right _ hx)
      exact S.d2 j t1 v1 x a b (List.mem_append_right _ hx) y q3 (((out g2 (oz x hx)).2 y).mp q2)
  · refine List.pairwise_append.mpr ⟨disn, ?_, fun x hx y hy a q1 q2 => ?_⟩
    · exact List.Pairwise.imp_of_mem (fun {x y} hx hy hq a q1 q2 => hq a (((out (S.stk x (List.mem_append_right _ hx)) (oz x hx)).2 a).mp q1) (((out (S.stk y (List.mem_append_right _ hy)) (oz y hy)).2 a).mp q2)) pz2
    · have f2 := S.stk y (List.mem_append_right _ hy)
      have q3 := ((out f2 (oz y hy)).2 a).mp q2
      exact nold (subn x hx a q1) (f2.live q3).1 (oz y hy a q3)
/-- slot i's list is given another content -/
theorem SR.change {i : Nat} {ds : List D} {ws : List V} {es : List D} (S : SR K g B s r z H) (h : look r i = some (.ol ds)) (hw : RepAll K B ws es) : ∃ p vs, s[i]? = some (some (.ref p)) ∧ H p = some (.lst vs) ∧ RepAll K B vs ds ∧ SR K g B s (put r i (some (.ol es))) z (L2.upd H p (.lst ws)) := by
  obtain ⟨v, e1, e2⟩ := S.env i _ h
  obtain ⟨p, vs, e, h1, h2, h3, h4⟩ := id e2
  subst e
  refine ⟨p, vs, e1, h1, h2, ?_⟩
  refine SR.trade (zo := []) (zn := []) S h e1 (fun a o e q _ => ?_) (fun a e => ?_) ⟨p, ws, rfl, upd_same, hw, h3, h4⟩ (fun a q => Or.inl q) (fun x hx => by cases hx) (fun x hx => by cases hx) (fun x hx => by cases hx) (fun j e => by cases e) (fun x hx => by cases hx) List.Pairwise.nil
  · rw [upd_ne fun e' => q (by rw [e']; rfl)]
    exact e
  · by_cases q : a = p
    · subst q
      rw [upd_same]; simp
    · rw [upd_ne q]; exact e
/-- slot i's own thing becomes shared -/
theorem SR.shareT {i : Nat} {d : D} (S : SR K g B s r z H) (h : look r i = some t) (hd : frzT t = some d) (hz : ∀ w, (w, T.al i) ∉ z) : ∃ v B', s[i]? = some (some v) ∧ Same B B' ∧ Rep K B' v d ∧ SR K g B' s (put r i (some (.sh d))) z H := by
  obtain ⟨v, e1, S1⟩ := S.takeT h fun j e => by subst e; cases hd
  obtain ⟨B', hb, S2⟩ := S1.freezeT hd
  have lt := look_lt h
  have S3 := S2.store (i := i) (by rw [put_len]; exact lt) (Or.inl ⟨_, rfl⟩) hz
  have es : s.set i (some v) = s := by
    apply List.ext_getElem?
    intro j
    by_cases q : i = j
    · subst q
      rw [List.getElem?_set_self (by rw [S.len]; exact lt), e1]
    · rw [List.getElem?_set_ne q]
  have er : put (put r i none) i (some (.sh d)) = put r i (some (.sh d)) := by
    have : ∀ (r : Env) (i : Nat) (a b : Option T), put (put r i a) i b = put r i b := by
      intro r
      induction r with
      | nil => intro i a b; rfl
      | cons x r ih =>
        intro i a b
        cases i with
        | zero => rfl
        | succ i => exact congrArg (x :: ·) (ih i a b)
    exact this _ _ _ _
  rw [es, er] at S3
  exact ⟨v, B', e1, hb, S2.top, S3⟩
theorem SR.share {i : Nat} {ds : List D} (S : SR K g B s r z H) (h : look r i = some (.ol ds)) (hz : ∀ w, (w, T.al i) ∉ z) : ∃ v B', s[i]? = some (some v) ∧ Same B B' ∧ Rep K B' v (.lst ds) ∧ SR K g B' s (put r i (some (.sh (.lst ds)))) z H := S.shareT h rfl hz
end
end J

/-! JN: dicts by ints and by tuples of any depth: in the heap. -/
namespace J
open PySem PySem.Spec PyProof.Rows L2
mutual
/-- the value v is the key n -/
inductive KeyR (K : PySem.W.Frag) (H : Hp) : V → NestedKey → Prop
  | int (i : Int) : KeyR K H (.int i) (.num i)
  | bl (b : Bool) : KeyR K H (.bl b) (.num (if b = true then 1 else 0))
  | non : KeyR K H .non .none
  | tup {a : Addr} {vs : List V} {ns : List NestedKey} : SqT K H a vs → KeyRs K H vs ns → KeyR K H (.ref a) (.tup ns)
inductive KeyRs (K : PySem.W.Frag) (H : Hp) : List V → List NestedKey → Prop
  | nil : KeyRs K H [] []
  | cons {v : V} {n : NestedKey} {vs : List V} {ns : List NestedKey} : KeyR K H v n → KeyRs K H vs ns → KeyRs K H (v :: vs) (n :: ns)
end
section
variable {X : Cx} {pins : List (Addr × Obj)} {σ : L2.St} {H : Hp} {s : Shared}
mutual
theorem KeyR.is (I : Inv X pins σ H s) : ∀ {v : V} {n : NestedKey} {u : Value}, KeyR X.K H v n → RelV v u → NestedIs s.heap n u
  | _, _, _, .int i, ⟨t, e⟩ => by subst e; exact .int i t
  | _, _, _, .bl b, e => by
    cases (show _ = Value.bool b from e)
    exact .bool rfl
  | _, _, _, .non, e => by
    cases (show _ = Value.none from e)
    exact .none
  | _, _, _, .tup h r, e => by
    cases (show _ = Value.ref _ from e)
    obtain ⟨its, rv, ⟨o, h1, h2, n, h3⟩, _⟩ := I.tuple h
    exact .tup h1 h2 h3 (by simpa using KeyRs.is I r rv)
theorem KeyRs.is (I : Inv X pins σ H s) : ∀ {vs : List V} {ns : List NestedKey} {us : List Value}, KeyRs X.K H vs ns → Vals vs us → NestedAll s.heap ns us
  | _, _, _, .nil, .nil => .nil
  | _, _, _, .cons h r, .cons e t => .cons (KeyR.is I h e) (KeyRs.is I r t)
end
end
mutual
/-- keys that the library tells: ints, truth values, None, tuples of such -/
theorem Rep.keyR {K : PySem.W.Frag} {B H : Hp} (hb : Same B H) : ∀ {v : V} {d : D}, Rep K B v d → okK d = true → KeyR K H v (nkD d)
  | _, _, .int i, _ => by rw [nkD]; exact .int i
  | _, _, .bl b, _ => by rw [nkD]; exact .bl b
  | _, _, .non, _ => by rw [show nkD .non = NestedKey.none by simp [nkD]]; exact .non
  | _, _, .tup h r, q => by
    rw [okK] at q
    rw [nkD]
    exact .tup (same_t hb h) (RepAll.keyR hb r q)
  | _, _, .str _, q => by simp [okK] at q
  | _, _, .lst _ _, q => by simp [okK] at q
  | _, _, .scr _, q => by simp [okK] at q
  | _, _, .obj _ _ _ _, q => by simp [okK] at q
  | _, _, .dic _ _ _ _ _ _ _, q => by simp [okK] at q
  | _, _, .any _ _, q => by simp [okK] at q
theorem RepAll.keyR {K : PySem.W.Frag} {B H : Hp} (hb : Same B H) : ∀ {vs : List V} {ds : List D}, RepAll K B vs ds → okKs ds = true → KeyRs K H vs (nkDs ds)
  | _, _, .nil, _ => by rw [nkDs]; exact .nil
  | _, _, .cons h r, q => by
    rw [okKs, Bool.and_eq_true] at q
    rw [nkDs]
    exact .cons (Rep.keyR hb h q.1) (RepAll.keyR hb r q.2)
end
mutual
theorem nk_inj : ∀ {x y : D}, okK x = true → okK y = true → eqD x y = decide (nkD x = nkD y)
  | .int i, .int j, _, _ => by
    rw [eqD, nkD, nkD]
    by_cases e : i = j
    · subst e; simp
    · simp [e]
  | .int i, .bl b, _, _ => by
    rw [eqD, nkD, nkD]
    by_cases e : i = (if b = true then 1 else 0)
    · subst e; simp
    · simp [e]
  | .int i, .non, _, _ => by rw [eqD, nkD, nkD] <;> simp
  | .int i, .tup ds, _, _ => by rw [eqD, nkD, nkD] <;> simp
  | .bl a, .int j, _, _ => by
    rw [eqD, nkD, nkD]
    by_cases e : (if a = true then 1 else 0) = j
    · subst e; simp
    · simp [e]
  | .bl a, .bl b, _, _ => by
    rw [eqD, nkD, nkD]
    cases a <;> cases b <;> simp
  | .bl a, .non, _, _ => by rw [eqD, nkD, nkD] <;> simp
  | .bl a, .tup ds, _, _ => by rw [eqD, nkD, nkD] <;> simp
  | .non, .int j, _, _ => by rw [eqD, nkD, nkD] <;> simp
  | .non, .bl b, _, _ => by rw [eqD, nkD, nkD] <;> simp
  | .non, .non, _, _ => by rw [eqD]; simp
  | .non, .tup ds, _, _ => by rw [eqD, nkD, nkD] <;> simp
  | .tup ds, .int j, _, _ => by rw [eqD, nkD, nkD] <;> simp
  | .tup ds, .bl b, _, _ => by rw [eqD, nkD, nkD] <;> simp
  | .tup ds, .non, _, _ => by rw [eqD, nkD, nkD] <;> simp
  | .tup xs, .tup ys, h1, h2 => by
    rw [okK] at h1 h2
    rw [eqD, nkD, nkD, nks_inj h1 h2]
    simp
  | .str _, _, h, _ => by simp [okK] at h
  | .lst _, _, h, _ => by simp [okK] at h
  | .scr _, _, h, _ => by simp [okK] at h
  | .dic _, _, h, _ => by simp [okK] at h
  | .sett _, _, h, _ => by simp [okK] at h
  | .obj _ _, _, h, _ => by simp [okK] at h
  | .fn _, _, h, _ => by simp [okK] at h
  | _, .str _, _, h => by simp [okK] at h
  | _, .lst _, _, h => by simp [okK] at h
  | _, .scr _, _, h => by simp [okK] at h
  | _, .dic _, _, h => by simp [okK] at h
  | _, .sett _, _, h => by simp [okK] at h
  | _, .obj _ _, _, h => by simp [okK] at h
  | _, .fn _, _, h => by simp [okK] at h
theorem nks_inj : ∀ {xs ys : List D}, okKs xs = true → okKs ys = true → eqDs xs ys = decide (nkDs xs = nkDs ys)
  | [], [], _, _ => by simp [eqDs]
  | [], _ :: _, _, _ => by simp [eqDs, nkDs]
  | _ :: _, [], _, _ => by simp [eqDs, nkDs]
  | x :: xs, y :: ys, h1, h2 => by
    rw [okKs, Bool.and_eq_true] at h1 h2
    rw [eqDs, nk_inj h1.1 h2.1, nks_inj h1.2 h2.2, nkDs, nkDs]
    simp
end
mutual
theorem nk_depth : ∀ (d : D), okK d = true → (nkD d).depth ≤ deep d
  | .int _, _ => by simp [nkD, NestedKey.depth]
  | .bl _, _ => by simp [nkD, NestedKey.depth]
  | .non, _ => by simp [nkD, NestedKey.depth]
  | .tup ds, h => by
    rw [okK] at h
    have := nks_depth ds h
    simp only [nkD, NestedKey.depth, deep]
    omega
  | .str _, h => by simp [okK] at h
  | .lst _, h => by simp [okK] at h
  | .scr _, h => by simp [okK] at h
  | .dic _, h => by simp [okK] at h
  | .sett _, h => by simp [okK] at h
  | .obj _ _, h => by simp [okK] at h
  | .fn _, h => by simp [okK] at h
theorem nks_depth : ∀ (ds : List D), okKs ds = true → NestedKey.depthAll (nkDs ds) ≤ deeps ds
  | [], _ => by simp [nkDs, NestedKey.depthAll]
  | d :: ds, h => by
    rw [okKs, Bool.and_eq_true] at h
    have := nk_depth d h.1
    have := nks_depth ds h.2
    simp only [nkDs, NestedKey.depthAll, deeps]
    omega
end
/-! ### a dict's look-ups and stores, by values -/
/-- all keys are ints, and so is y; or all of them are tuples, and so is y -/
inductive DKind (K : PySem.W.Frag) (H : Hp) (ks : List V) (ns : List NestedKey) (y : V) (n : NestedKey) : Prop
  | int (i : Int) (is : List Int) : ks = is.map V.int → ns = is.map NestedKey.num → y = .int i → n = .num i → DKind K H ks ns y n
  | tup (b : Addr) (ms : List NestedKey) : KeyRs K H ks ns → (∀ m ∈ ns, m.depth ≤ 8 ∧ ∃ l, m = .tup l) → y = .ref b → n = .tup ms → KeyR K H (.ref b) (.tup ms) → (NestedKey.tup ms).depth ≤ 8 → DKind K H ks ns y n
theorem isIntS (k : Int) (t : Tok) : PySem.Value.isInt k (.int k t) = true := by simp [PySem.Value.isInt]
theorem nodup_of_map {A B : Type} (f : A → B) : ∀ {l : List A}, (l.map f).Nodup → l.Nodup
  | [], _ => List.nodup_nil
  | a :: l, h => by
    rw [List.map_cons, List.nodup_cons] at h
    exact List.nodup_cons.mpr ⟨fun q => h.1 (List.mem_map_of_mem q), nodup_of_map f h.2⟩
theorem ents_len : ∀ {ks ws : List V} {ns : List NestedKey} {es : List DictEntry}, Ents ks ws ns es → ks.length = ns.length ∧ ws.length = ns.length ∧ es.length = ns.length
  | _, _, _, _, .nil => ⟨rfl, rfl, rfl⟩
  | _, _, _, _, .cons _ r => by
    obtain ⟨a, b, c⟩ := ents_len r
    simp [a, b, c]
theorem ents_int {P : Program} {w : World} : ∀ {is : List Int} {ws : List V} {es : List DictEntry}, Ents (is.map V.int) ws (is.map NestedKey.num) es →
    ∃ vs : List (Int × Value), PySem.Pairs (PySem.intKind P w) es vs ∧ (∀ e ∈ es, ∃ k, (PySem.intKind P w).is k e.key = true ∧ e.hash = (PySem.intKind P w).hash k) ∧ KV (is.zip ws) vs ∧ vs.map (·.1) = is
  | [], _, _, .nil => ⟨[], .nil, fun _ h => by simp at h, .nil, rfl⟩
  | i :: is, _, _, .cons (w := v) (e := e) h r => by
    obtain ⟨vs, a1, a2, a3, a4⟩ := ents_int (P := P) (w := w) r
    obtain ⟨t, ht⟩ := (show ∃ t, e.key = Value.int i t from h.key)
    have ki : (PySem.intKind P w).is i e.key = true := by
      rw [ht]
      exact isIntS i t
    refine ⟨(i, e.val) :: vs, .cons ki rfl a1, fun x hx => ?_, .cons ⟨rfl, h.val⟩ a3, by simp [a4]⟩
    rcases List.mem_cons.mp hx with rfl | hx
    · exact ⟨i, ki, h.hash w⟩
    · exact a2 x hx
theorem ints_ents {P : Program} {w : World} : ∀ {es : List DictEntry} {vs : List (Int × Value)} {kvs : List (Int × V)}, PySem.Pairs (PySem.intKind P w) es vs → (∀ e ∈ es, ∃ k, (PySem.intKind P w).is k e.key = true ∧ e.hash = (PySem.intKind P w).hash k) → KV kvs vs →
    Ents (kvs.map fun p => V.int p.1) (kvs.map (·.2)) (kvs.map fun p => NestedKey.num p.1) es
  | _, _, _, .nil, _, .nil => .nil
  | _, _, _, .cons h1 h2 r, hk, .cons ⟨e1, e2⟩ t => by
    refine .cons ⟨?_, ?_, fun w' => ?_⟩ (ints_ents r (fun e he => hk e (List.mem_cons_of_mem _ he)) t)
    · obtain ⟨t, ht⟩ := PySem.Value.isInt_shape h1
      exact ⟨t, by rw [ht, ← e1]⟩
    · rw [h2]; exact e2
    · obtain ⟨k, q1, q2⟩ := hk _ List.mem_cons_self
      have := (PySem.intKind P w).inj _ _ _ q1 h1
      rw [q2, this, ← e1]
      rfl
theorem ents_tup {X : Cx} {pins : List (Addr × Obj)} {σ : L2.St} {H : Hp} {s : Shared} (I : Inv X pins σ H s) : ∀ {ks ws : List V} {ns : List NestedKey} {es : List DictEntry}, Ents ks ws ns es → KeyRs X.K H ks ns → (∀ m ∈ ns, m.depth ≤ 8 ∧ ∃ l, m = .tup l) →
    ∃ xs : List (NestedKey × Addr × Value), es = xs.map (PySem.entryOfKey (nestedKind X.prog X.w)) ∧ (∀ x ∈ xs, (nestedKind X.prog X.w).is s.heap x.1 x.2.1) ∧ KV (ns.zip ws) (pairsH xs) ∧ xs.map (·.1) = ns ∧ ks = xs.map fun x => V.ref x.2.1
  | _, _, _, _, .nil, _, _ => ⟨[], rfl, fun _ h => by simp at h, .nil, rfl, rfl⟩
  | _, _, _, _, .cons (e := e) h r, .cons q qs, hn => by
    obtain ⟨xs, a1, a2, a3, a4, a5⟩ := ents_tup I r qs fun m hm => hn m (List.mem_cons_of_mem _ hm)
    obtain ⟨hd, l, el⟩ := hn _ List.mem_cons_self
    subst el
    cases id q with
    | tup q1 q2 =>
      rename_i b vs
      have ek : e.key = Value.ref b := h.key
      refine ⟨(.tup l, b, e.val) :: xs, ?_, fun x hx => ?_, .cons ⟨rfl, h.val⟩ a3, by simp [a4], by simp [a5]⟩
      · rw [List.map_cons, ← a1]
        congr 1
        obtain ⟨eh, ek', ev⟩ := e
        have e1 : ek' = Value.ref b := ek
        have e2 : eh = (NestedKey.tup l).hash X.w := h.hash X.w
        subst e1 e2
        rfl
      · rcases List.mem_cons.mp hx with rfl | hx
        · exact ⟨KeyR.is I q rfl, hd⟩
        · exact a2 x hx
theorem tups_ents {P : Program} {w : World} : ∀ {xs : List (NestedKey × Addr × Value)} {kvs : List (NestedKey × V)}, (∀ x ∈ xs, ∀ w', x.1.hash w' = x.1.hash w) → KV kvs (pairsH xs) →
    Ents (xs.map fun x => V.ref x.2.1) (kvs.map (·.2)) (kvs.map (·.1)) (xs.map (PySem.entryOfKey (nestedKind P w)))
  | [], _, _, .nil => .nil
  | x :: xs, _, hw, .cons ⟨e1, e2⟩ t => by
    refine .cons ⟨rfl, e2, fun w' => ?_⟩ (tups_ents (fun y hy => hw y (List.mem_cons_of_mem _ hy)) t)
    have := hw x List.mem_cons_self w'
    show x.1.hash w = _
    rw [← this]
    exact congrArg (NestedKey.hash w') e1.symm
mutual
theorem KeyR.hash {K : PySem.W.Frag} {H : Hp} : ∀ {v : V} {n : NestedKey}, KeyR K H v n → ∀ w w', n.hash w = n.hash w'
  | _, _, .int i, _, _ => rfl
  | _, _, .bl b, _, _ => rfl
  | _, _, .non, _, _ => rfl
  | _, _, .tup h r, w, w' => by rw [NestedKey.hash, NestedKey.hash, KeyRs.hash r w w']
theorem KeyRs.hash {K : PySem.W.Frag} {H : Hp} : ∀ {vs : List V} {ns : List NestedKey}, KeyRs K H vs ns → ∀ w w', NestedKey.hashes w ns = NestedKey.hashes w' ns
  | _, _, .nil, _, _ => rfl
  | _, _, .cons h r, w, w' => by rw [NestedKey.hashes, NestedKey.hashes, KeyR.hash h w w', KeyRs.hash r w w']
end
theorem KeyRs.hashA {K : PySem.W.Frag} {H : Hp} : ∀ {vs : List V} {ns : List NestedKey}, KeyRs K H vs ns → ∀ n ∈ ns, ∀ w w', n.hash w = n.hash w'
  | _, _, .nil, n, h, _, _ => by simp at h
  | _, _, .cons q r, n, h, w, w' => by
    rcases List.mem_cons.mp h with rfl | h
    · exact q.hash w w'
    · exact KeyRs.hashA r n h w w'
/-- the dict at a: its keys, their values -/
structure NDic (K : PySem.W.Frag) (H : Hp) (a : Addr) (ks ws : List V) (ns : List NestedKey) (es : Array DictEntry) (ep : Nat) : Prop where
  at_ : H a = some (rawO a es ep)
  sys : (a == sysModules) = false
  each : Ents ks ws ns es.toList
  nodup : ns.Nodup
def NGet (K : PySem.W.Frag) (H : Hp) (a : Addr) (y : V) (r : Option V) : Prop := ∃ ks ws ns es ep n, NDic K H a ks ws ns es ep ∧ DKind K H ks ns y n ∧ r = valV (ns.zip ws) n
/-- the keys behind a store -/
def keysPut (ks : List V) (ns : List NestedKey) (y : V) (n : NestedKey) : List V := if n ∈ ns then ks else ks ++ [y]
def NPut (K : PySem.W.Frag) (H : Hp) (a : Addr) (y v : V) (R : Hp → Prop) : Prop := ∃ ks ws ns es ep n, NDic K H a ks ws ns es ep ∧ DKind K H ks ns y n ∧ ns.length < sizeLine ∧
  ∀ es' ep', NDic K (L2.upd H a (rawO a es' ep')) a (keysPut ks ns y n) ((putK (ns.zip ws) n v).map (·.2)) ((putK (ns.zip ws) n v).map (·.1)) es' ep' → R (L2.upd H a (rawO a es' ep'))
section
variable {X : Cx} {pins : List (Addr × Obj)} {σ : L2.St} {H : Hp} {s : Shared} {a : Addr} {y v : V} {u r : Value} {o : Option V} {A : Around} {E : Value → Shared → Prop}
theorem NDic.raw {ks ws : List V} {ns : List NestedKey} {es : Array DictEntry} {ep : Nat} (D : NDic X.K H a ks ws ns es ep) (I : Inv X pins σ H s) : ∃ o, s.heap.get? a = some o ∧ o.ExactDict ∧ o.data = .dict es ep := (I.hok a _ D.at_).1
theorem NDic.intOf {is : List Int} {ws : List V} {es : Array DictEntry} {ep : Nat} (D : NDic X.K H a (is.map V.int) ws (is.map NestedKey.num) es ep) (I : Inv X pins σ H s) : ∃ vs : List (Int × Value), s.heap.DictOf (PySem.intKind X.prog X.w) a vs ∧ KV (is.zip ws) vs ∧ vs.map (·.1) = is := by
  obtain ⟨o, h1, h2, h3⟩ := D.raw I
  obtain ⟨vs, a1, a2, a3, a4⟩ := ents_int (P := X.prog) (w := X.w) D.each
  refine ⟨vs, ⟨o, es, ep, h1, h2, h3, fun e he => a2 e (by simpa using he), a1, ?_⟩, a3, a4⟩
  rw [a4]
  exact nodup_of_map _ D.nodup
theorem NDic.tupOf {ks ws : List V} {ns : List NestedKey} {es : Array DictEntry} {ep : Nat} (D : NDic X.K H a ks ws ns es ep) (I : Inv X pins σ H s) (hk : KeyRs X.K H ks ns) (hn : ∀ m ∈ ns, m.depth ≤ 8 ∧ ∃ l, m = .tup l) :
    ∃ xs : List (NestedKey × Addr × Value), s.heap.DictOfH (nestedKind X.prog X.w) a xs ∧ KV (ns.zip ws) (pairsH xs) ∧ xs.map (·.1) = ns ∧ ks = xs.map fun x => V.ref x.2.1 := by
  obtain ⟨o, h1, h2, h3⟩ := D.raw I
  obtain ⟨xs, a1, a2, a3, a4, a5⟩ := ents_tup I D.each hk hn
  exact ⟨xs, ⟨o, es, ep, h1, h2, h3, a1, a2, by rw [a4]; exact D.nodup⟩, a3, a4, a5⟩
theorem zipNum (is : List Int) (ws : List V) (i : Int) : valV ((is.map NestedKey.num).zip ws) (.num i) = valV (is.zip ws) i := by
  induction is generalizing ws with
  | nil => rfl
  | cons j is ih =>
    cases ws with
    | nil => rfl
    | cons w ws =>
      rw [List.map_cons, List.zip_cons_cons, List.zip_cons_cons]
      by_cases e : j = i
      · rw [valV_pos (by rw [e]), valV_pos e]
      · rw [valV_neg (fun q => e (by simpa using q)), valV_neg e, ih]
theorem NDic.typeIs {ks ws : List V} {ns : List NestedKey} {es : Array DictEntry} {ep : Nat} (D : NDic X.K H a ks ws ns es ep) (I : Inv X pins σ H s) : s.TypeIs (.ref a) "dict" := by
  obtain ⟨o, h1, h2, _⟩ := D.raw I
  exact ⟨o, h1, h2.1⟩
/-- d[y], there -/
theorem n_getItem {Q : Value → Shared → Prop} (hu : A.units + 16 < cLine) (I : Inv X pins σ H s) (g : NGet X.K H a y (some v)) (ry : RelV y u) (h : ∀ w' s', Inv X pins σ H s' → RelV v w' → Q w' s') :
    wpAny (model X.prog X.w) A (getItem (.ref a) u) Q E s := by
  obtain ⟨ks, ws, ns, es, ep, n, D, dk, l⟩ := g
  cases dk with
  | int i is e1 e2 e3 e4 =>
    subst e1 e2 e3 e4
    obtain ⟨t, rfl⟩ := (show ∃ t, u = Value.int i t from ry)
    obtain ⟨vs, dd, rel, _⟩ := D.intOf I
    rw [zipNum] at l
    obtain ⟨w', hw, rw'⟩ := RelO.some_of (v := v) (o := valueAt vs i) (by rw [l]; exact rel.val i)
    exact wpAny_getItem_of (isIntS i t) dd.mapOf hw (h w' _ (I.tok _) rw')
  | tup b ms e1 e2 e3 e4 e5 e6 =>
    subst e3 e4
    cases (show u = Value.ref b from ry)
    obtain ⟨xs, dd, rel, _, _⟩ := D.tupOf I e1 e2
    obtain ⟨w', hw, rw'⟩ := RelO.some_of (v := v) (o := valueAt (pairsH xs) (.tup ms)) (by rw [l]; exact rel.val _)
    rw [valueAt_pairsH] at hw
    obtain ⟨p, hp, hp2⟩ := Option.map_eq_some_iff.mp hw
    refine wpAny_getItem_heap (knd := nestedKind X.prog X.w) (k := .tup ms) (by show A.in1.units + 8 < cLine; rw [Around.in1_units]; omega) ⟨KeyR.is I e5 rfl, e6⟩ dd hp ?_
    rw [hp2]
    exact h w' _ (I.tok _) rw'
theorem n_in {Q : Value → Shared → Prop} (hu : A.units + 16 < cLine) (I : Inv X pins σ H s) (g : NGet X.K H a y o) (ry : RelV y u) (h : ∀ s', Inv X pins σ H s' → Q (.bool o.isSome) s') :
    wpAny (model X.prog X.w) A (compareOp .In u (.ref a)) Q E s := by
  obtain ⟨ks, ws, ns, es, ep, n, D, dk, l⟩ := g
  cases dk with
  | int i is e1 e2 e3 e4 =>
    subst e1 e2 e3 e4
    obtain ⟨t, rfl⟩ := (show ∃ t, u = Value.int i t from ry)
    obtain ⟨vs, dd, rel, _⟩ := D.intOf I
    refine wpAny_in_of (isIntS i t) D.sys dd.mapOf ?_
    rw [← (rel.val i).isSome_eq, ← zipNum, ← l]
    exact h _ (I.tok _)
  | tup b ms e1 e2 e3 e4 e5 e6 =>
    subst e3 e4
    cases (show u = Value.ref b from ry)
    obtain ⟨xs, dd, rel, _, _⟩ := D.tupOf I e1 e2
    refine wpAny_in_heap (knd := nestedKind X.prog X.w) (k := .tup ms) (by show A.in1.units + 8 < cLine; rw [Around.in1_units]; omega) ⟨KeyR.is I e5 rfl, e6⟩ D.sys dd ?_
    have q := (rel.val (.tup ms)).isSome_eq
    rw [valueAt_pairsH, Option.isSome_map] at q
    rw [← q, ← l]
    exact h _ (I.tok _)
theorem n_notIn {Q : Value → Shared → Prop} (hu : A.units + 16 < cLine) (I : Inv X pins σ H s) (g : NGet X.K H a y o) (ry : RelV y u) (h : ∀ s', Inv X pins σ H s' → Q (.bool (!o.isSome)) s') :
    wpAny (model X.prog X.w) A (compareOp .NotIn u (.ref a)) Q E s := by
  obtain ⟨ks, ws, ns, es, ep, n, D, dk, l⟩ := g
  cases dk with
  | int i is e1 e2 e3 e4 =>
    subst e1 e2 e3 e4
    obtain ⟨t, rfl⟩ := (show ∃ t, u = Value.int i t from ry)
    obtain ⟨vs, dd, rel, _⟩ := D.intOf I
    refine wpAny_notIn_of (isIntS i t) D.sys dd.mapOf ?_
    rw [← (rel.val i).isSome_eq, ← zipNum, ← l]
    exact h _ (I.tok _)
  | tup b ms e1 e2 e3 e4 e5 e6 =>
    subst e3 e4
    cases (show u = Value.ref b from ry)
    obtain ⟨xs, dd, rel, _, _⟩ := D.tupOf I e1 e2
    refine wpAny_notIn_heap (knd := nestedKind X.prog X.w) (k := .tup ms) (by show A.in1.units + 8 < cLine; rw [Around.in1_units]; omega) ⟨KeyR.is I e5 rfl, e6⟩ D.sys dd ?_
    have q := (rel.val (.tup ms)).isSome_eq
    rw [valueAt_pairsH, Option.isSome_map] at q
    rw [← q, ← l]
    exact h _ (I.tok _)
theorem raw_ok {P : Program} {w : World} {H' : Hp} {h' : Heap} {es : Array DictEntry} {ep : Nat} {o : Obj} (h1 : h'.get? a = some o) (h2 : o.ExactDict) (h3 : o.data = .dict es ep) : ObjOk P w H' h' a (rawO a es ep) :=
  ⟨⟨o, h1, h2, h3⟩, ⟨o, h1⟩, fun g1 g2 ⟨o', q1, q2, q3⟩ hk => ⟨o', hk _ q1, q2, q3⟩⟩
theorem putNum (is : List Int) (ws : List V) (i : Int) (v : V) (hl : ws.length = is.length) : (putK ((is.map NestedKey.num).zip ws) (.num i) v).map (·.2) = (putK (is.zip ws) i v).map (·.2) ∧ (putK ((is.map NestedKey.num).zip ws) (.num i) v).map (·.1) = (putK (is.zip ws) i v).map fun p => NestedKey.num p.1 := by
  have hz : (is.map NestedKey.num).zip ws = (is.zip ws).map fun p => (NestedKey.num p.1, p.2) := by
    rw [List.zip_map_left]
    rfl
  have ha : (((is.zip ws).map fun p => (NestedKey.num p.1, p.2)).any fun kv => decide (kv.1 = NestedKey.num i)) = ((is.zip ws).any fun kv => decide (kv.1 = i)) := by
    rw [List.any_map]
    congr 1
    funext p
    simp
  rw [hz]
  unfold putK
  rw [ha]
  split
  · constructor
    · rw [List.map_map, List.map_map, List.map_map]
      refine List.map_congr_left fun p _ => ?_
      by_cases e : p.1 = i <;> simp [e]
    · rw [List.map_map, List.map_map, List.map_map]
      refine List.map_congr_left fun p _ => ?_
      by_cases e : p.1 = i <;> simp [e]
  · simp
theorem put_fst {κ : Type} [DecidableEq κ] (kvs : List (κ × V)) (k : κ) (v : V) : (putK kvs k v).map (·.1) = if k ∈ kvs.map (·.1) then kvs.map (·.1) else kvs.map (·.1) ++ [k] := by
  unfold putK
  have : (kvs.any fun kv => decide (kv.1 = k)) = decide (k ∈ kvs.map (·.1)) := by
    rw [Bool.eq_iff_iff]
    simp only [List.any_eq_true, decide_eq_true_eq, List.mem_map]
  rw [this]
  by_cases e : k ∈ kvs.map (·.1)
  · rw [if_pos e, if_pos (decide_eq_true e), List.map_map]
    refine List.map_congr_left fun p _ => ?_
    by_cases q : p.1 = k <;> simp [q]
  · rw [if_neg e, if_neg (by simpa using e)]
    simp
theorem zip_fst {κ : Type} : ∀ (ks : List κ) (ws : List V), ws.length = ks.length → (ks.zip ws).map (·.1) = ks
  | [], [], _ => rfl
  | k :: ks, w :: ws, h => by rw [List.zip_cons_cons, List.map_cons, zip_fst ks ws (by simpa using h)]
  | [], _ :: _, h => by simp at h
  | _ :: _, [], h => by simp at h
/-- d[y] = v -/
theorem n_setItem {R : Hp → Prop} {Q : Unit → Shared → Prop} (hu : A.units + 16 < cLine) (I : Inv X pins σ H s) (g : NPut X.K H a y v R) (ry : RelV y u) (rv : RelV v r) (h : ∀ H' s', R H' → Inv X pins σ H' s' → Q () s') :
    wpAny (model X.prog X.w) A (setItem (.ref a) u r) Q E s := by
  obtain ⟨ks, ws, ns, es, ep, n, D, dk, hl, fin⟩ := g
  obtain ⟨l1, l2, l3⟩ := ents_len D.each
  have mu : Mut (H a) := by rw [D.at_]; exact True.intro
  cases dk with
  | int i is e1 e2 e3 e4 =>
    subst e1 e2 e3 e4
    obtain ⟨t, rfl⟩ := (show ∃ t, u = Value.int i t from ry)
    obtain ⟨vs, dd, rel, hvs⟩ := D.intOf I
    have lw : ws.length = is.length := by simpa using l2
    have hz : vs.length ≤ sizeLine := by rw [← Paired.length rel, List.length_zip, lw]; simp at hl; omega
    refine wpAny_setItem_pairs (hsz := hz) (isIntS i t) dd fun h' dd' hs => ?_
    obtain ⟨o', es', ep', q1, q2, q3, q4, q5, q6⟩ := dd'
    refine h _ _ (fin es' ep' ⟨upd_same, D.sys, ?_, ?_⟩) (d_write I mu hs ⟨o', q1⟩ (raw_ok q1 q2 q3))
    · have en := ints_ents q5 (fun e he => q4 e (by simpa using he)) (rel.put i rv)
      obtain ⟨p1, p2⟩ := putNum is ws i v lw
      rw [p1, p2]
      have e : keysPut (is.map V.int) (is.map NestedKey.num) (.int i) (.num i) = (putK (is.zip ws) i v).map fun p => V.int p.1 := by
        have : ((putK (is.zip ws) i v).map fun p => V.int p.1) = ((putK (is.zip ws) i v).map (·.1)).map V.int := by rw [List.map_map]; rfl
        rw [this, put_fst, zip_fst is ws lw]
        unfold keysPut
        by_cases e : i ∈ is
        · rw [if_pos e, if_pos (List.mem_map_of_mem e)]
        · rw [if_neg e, if_neg (by simpa using e)]
          simp
      rw [e]
      exact en
    · obtain ⟨_, p2⟩ := putNum is ws i v lw
      rw [p2]
      have : ((putK (is.zip ws) i v).map fun p => NestedKey.num p.1) = ((putK (is.zip ws) i v).map (·.1)).map NestedKey.num := by rw [List.map_map]; rfl
      rw [this, put_fst, zip_fst is ws lw]
      have nd : is.Nodup := nodup_of_map _ D.nodup
      split
      · exact D.nodup
      · rename_i e
        rw [List.map_append]
        refine List.nodup_append.mpr ⟨D.nodup, by simp, fun x hx z hz => ?_⟩
        rw [List.map_cons, List.map_nil, List.mem_singleton] at hz
        subst hz
        intro q
        subst q
        exact e (by simpa using hx)
  | tup b ms e1 e2 e3 e4 e5 e6 =>
    subst e3 e4
    cases (show u = Value.ref b from ry)
    obtain ⟨xs, dd, rel, hxs, hks⟩ := D.tupOf I e1 e2
    have hz : xs.length ≤ sizeLine := by
      have := congrArg List.length hxs
      rw [List.length_map] at this
      omega
    refine wpAny_setItem_heap (knd := nestedKind X.prog X.w) (k := .tup ms) (hsz := hz) (by show A.in1.units + 8 < cLine; rw [Around.in1_units]; omega) ⟨KeyR.is I e5 rfl, e6⟩ dd fun h' dd' hs => ?_
    obtain ⟨o', es', ep', q1, q2, q3, q4, q5, q6⟩ := dd'
    have keys : (storedH xs (.tup ms) b r).map (·.1) = (putK (ns.zip ws) (.tup ms) v).map (·.1) := by
      have r2 := rel.put (.tup ms) rv
      rw [← pairsH_storedH xs (.tup ms) b r] at r2
      rw [r2.keys]
      unfold pairsH
      rw [List.map_map]
      rfl
    refine h _ _ (fin es' ep' ⟨upd_same, D.sys, ?_, ?_⟩) (d_write I mu hs ⟨o', q1⟩ (raw_ok q1 q2 q3))
    · rw [q4]
      have r2 := rel.put (.tup ms) rv
      rw [← pairsH_storedH xs (.tup ms) b r] at r2
      have en := tups_ents (P := X.prog) (w := X.w) (fun x hx w' => ?_) r2
      have e : keysPut ks ns (.ref b) (.tup ms) = (storedH xs (.tup ms) b r).map fun x => V.ref x.2.1 := by
        unfold keysPut
        have hin : (atKey xs (.tup ms)).isSome = decide (NestedKey.tup ms ∈ ns) := by
          rw [← any_pairsH]
          rw [Bool.eq_iff_iff]
          simp only [List.any_eq_true, decide_eq_true_eq, ← hxs, List.mem_map, pairsH]
          constructor
          · rintro ⟨_, ⟨x, hx, rfl⟩, e⟩
            exact ⟨x, hx, e⟩
          · rintro ⟨x, hx, e⟩
            exact ⟨_, ⟨x, hx, rfl⟩, e⟩
        unfold storedH
        rw [hin]
        by_cases c : NestedKey.tup ms ∈ ns
        · rw [if_pos c, if_pos (decide_eq_true c), hks, List.map_map]
          refine List.map_congr_left fun x _ => ?_
          unfold putAt
          simp only [Function.comp]
          split <;> rfl
        · rw [if_neg c, if_neg (by simpa using c), hks]
          simp
      rw [e]
      exact en
      have mem : x.1 ∈ (putK (ns.zip ws) (.tup ms) v).map (·.1) := by
        rw [← keys]
        exact List.mem_map_of_mem hx
      rw [put_fst, zip_fst ns ws l2] at mem
      split at mem
      · exact KeyRs.hashA e1 _ mem _ _
      · rcases List.mem_append.mp mem with q | q
        · exact KeyRs.hashA e1 _ q _ _
        · rw [List.mem_singleton] at q
          rw [q]
          exact e5.hash _ _
    · rw [← keys]
      exact q6
end
end J

/-! JL2: the rules: a piece of a def's text and its reading over plain data. -/
namespace J
open PySem L2

/-- the error classes: where each stands, its field's name -/
structure Cl where
  cm : Nat → Addr
  fn : Nat → Str
  ok : Nat → Bool
def ErrR (c : Cl) (B : Hp) (e : Err) (cls : Value) (d : Option Addr) : Prop :=
  cls = .ref (c.cm e.cls) ∧ c.ok e.cls = true ∧ ((e.vals = [] ∧ d = none) ∨ ∃ (a : Addr) (v : V) (x : D), d = some a ∧ e.vals = [x] ∧ B a = some (.xd [(c.fn e.cls, v)]) ∧ ∀ K, Rep K (fun _ => none) v x)
def LW (K : PySem.W.Frag) (g : G) (c : Cl) (W : WX) (Y : XD) (z0 : Stk) : Prop := ∀ cls d H s r B z e, z0 <:+ z → SR K g B s r z H → ErrR c B e cls d → Y e r → W cls d s H
theorem LW.ext {K : PySem.W.Frag} {g : G} {c : Cl} {W : WX} {Y : XD} {z : Stk} {x : V × T} (h : LW K g c W Y z) : LW K g c W Y (x :: z) :=
  fun cls d H s r B z2 e hs => h cls d H s r B z2 e ((List.suffix_cons x z).trans hs)
def stkL : List V → List T → Stk → Stk
  | v :: vs, t :: ts, z => stkL vs ts ((v, t) :: z)
  | _, _, z => z

def ES (K : PySem.W.Frag) (g : G) (c : Cl) (W : WX) (te : TE) (de : DE) : Prop := ∀ (s : St) (H : Hp) (r : Env) (B : Hp) (z : Stk) (Y : XD) (Q : QE) (Qv : VK), LW K g c W Y z → SR K g B s r z H → de Y Q r →
  (∀ v H' B' r' t, SR K g B' s r' ((v, t) :: z) H' → Q t r' → Qv v H') → te s H Qv
def TSm (K : PySem.W.Frag) (g : G) (c : Cl) (W : WX) (tt : TT) (dt : DT) : Prop := ∀ (s : St) (H : Hp) (r : Env) (B : Hp) (z : Stk) (Y : XD) (Q : Bool → Env → Prop) (Qv : Bool → Hp → Prop), LW K g c W Y z → SR K g B s r z H → dt Y Q r →
  (∀ b H' B' r', SR K g B' s r' z H' → Q b r' → Qv b H') → tt s H Qv
def AS (K : PySem.W.Frag) (g : G) (c : Cl) (W : WX) (ta : TA) (da : DA) : Prop := ∀ (s : St) (H : Hp) (r : Env) (B : Hp) (z : Stk) (Y : XD) (Q : List T → Env → Prop) (Qv : List V → Hp → Prop), LW K g c W Y z → SR K g B s r z H → da Y Q r →
  (∀ vs H' B' r' ts, vs.length = ts.length → SR K g B' s r' (stkL vs ts z) H' → Q ts r' → Qv vs H') → ta s H Qv
def OSm (K : PySem.W.Frag) (g : G) (c : Cl) (W : WX) (to : TO) (d : DO) : Prop := ∀ (s : St) (H : Hp) (r : Env) (B : Hp) (z : Stk) (Y : XD) (Q : Option Int → Env → Prop) (Qv : Option Int → Hp → Prop), LW K g c W Y z → SR K g B s r z H → d Y Q r →
  (∀ b H' B' r', SR K g B' s r' z H' → Q b r' → Qv b H') → to s H Qv
structure EndsR (K : PySem.W.Frag) (g : G) (z : Stk) (E : DEnds) (D : Ends) : Prop where
  nx : ∀ s H B r, SR K g B s r z H → E.nx r → D.nx s H
  rt : ∀ v s H B r t, SR K g B s r ((v, t) :: z) H → E.rt t r → D.rt v H
  bk : ∀ s H B r, SR K g B s r z H → E.bk r → D.bk s H
  ct : ∀ s H B r, SR K g B s r z H → E.ct r → D.ct s H
def SSm (K : PySem.W.Frag) (g : G) (c : Cl) (W : WX) (L : List Nat) (ts : TS) (ds : DS) : Prop := ∀ (s : St) (H : Hp) (r : Env) (B : Hp) (z : Stk) (Y : XD) (E : DEnds) (D : Ends), LW K g c W Y z → SR K g B s r z H → (∀ i w, (w, T.al i) ∈ z → i ∈ L) → ds Y E r → EndsR K g z E D → ts D s H

structure JE (X : Cx) (g : G) (c : Cl) (W : WX) (e : Expr) (de : DE) : Prop where
  ex : ∃ te, PE X e te ∧ ES X.K g c W te de
structure JT (X : Cx) (g : G) (c : Cl) (W : WX) (e : Expr) (dt : DT) : Prop where
  ex : ∃ tt, PT X e tt ∧ TSm X.K g c W tt dt
structure JW (X : Cx) (g : G) (c : Cl) (W : WX) (e : Expr) (dt : DT) : Prop where
  ex : ∃ tt, PW X e tt ∧ TSm X.K g c W tt dt
structure JA (X : Cx) (g : G) (c : Cl) (W : WX) (es : List Expr) (da : DA) : Prop where
  ex : ∃ ta, PA X es ta ∧ AS X.K g c W ta da
structure JO (X : Cx) (g : G) (c : Cl) (W : WX) (e : Option Expr) (d : DO) : Prop where
  ex : ∃ to, PO X e to ∧ OSm X.K g c W to d
structure JS (X : Cx) (g : G) (c : Cl) (W : WX) (L : List Nat) (st : Stmt) (ds : DS) : Prop where
  ex : ∃ t, PS X st t ∧ SSm X.K g c W L t ds
structure JSs (X : Cx) (g : G) (c : Cl) (W : WX) (L : List Nat) (st : List Stmt) (ds : DS) : Prop where
  ex : ∃ t, PSs X st t ∧ SSm X.K g c W L t ds

/-- an operand's value against its data -/
def View (K : PySem.W.Frag) (B H : Hp) (v : V) : D → Prop
  | .lst ds => ∃ (a : Addr) (vs : List V), v = .ref a ∧ H a = some (.lst vs) ∧ RepAll K B vs ds
  | .dic kvs => ∃ a : Addr, v = .ref a ∧ DicOk K B H a kvs
  | d => Rep K B v d
section
variable {K : PySem.W.Frag} {g : G} {B B' H H' : Hp} {s : St} {r : Env} {z : Stk} {v : V} {t : T} {d : D}
theorem view_rep (h : Rep K B v d) (hb : Same B H) : View K B H v d := by
  cases h with
  | lst h r => exact ⟨_, _, rfl, hb _ _ h, r⟩
  | non => exact .non
  | bl b => exact .bl b
  | int i => exact .int i
  | str s => exact .str s
  | tup h r => exact .tup h r
  | scr h => exact .scr h
  | obj h c n r => exact .obj h c n r
  | dic h n m e1 e2 r r' =>
    subst e1 e2
    exact ⟨_, rfl, _, _, _, _, hb _ _ h, n, m, r, r'⟩
  | any v n => exact .any v n
theorem rep_heads {H : Hp} : ∀ {fs : List F} {vs : List V}, OwFs K B H fs vs → RepAll K B vs (fs.map headD)
  | [], vs, h => by
    have h : vs = [] := h
    rw [h]
    exact .nil
  | _ :: _, [], h => h.elim
  | f :: fs, v :: vs, ⟨h1, h2, _⟩ => by
    refine .cons ?_ (rep_heads h2)
    cases f with
    | sh d => exact h1
    | ol _ _ => rw [h1.1]; exact .any _ _
    | nd _ _ _ => rw [h1.1]; exact .any _ _
    | od _ _ => rw [h1.1]; exact .any _ _
theorem ow_view {f : F} (h : OwF K B H f v) (e : f.rd = some d) (hb : Same B H) : View K B H v d := by
  cases f with
  | sh d' =>
    cases e
    exact view_rep h hb
  | ol q ds =>
    cases e
    obtain ⟨rfl, vs, h1, h2⟩ := h
    exact ⟨q, vs, rfl, h1, h2⟩
  | od q kvs =>
    cases e
    exact ⟨q, h.1, h.2⟩
  | nd q k fs =>
    cases k with
    | some c =>
      cases e
      rw [h.1]
      exact .any _ _
    | none =>
      cases e
      obtain ⟨rfl, o, h1, ⟨vs, rfl⟩, h2, _⟩ := h
      exact ⟨q, vs, rfl, h1, rep_heads h2⟩
/-- a part of an own thing -/
theorem ows_get : ∀ {fs : List F} {vs : List V} {k : Nat} {g : F}, OwFs K B H fs vs → fs[k]? = some g → ∃ w, vs[k]? = some w ∧ OwF K B H g w ∧ ∀ a, a ∈ idsF g → a ∈ idsFs fs
  | [], _, _, _, _, h => by simp at h
  | _ :: _, [], _, _, h, _ => h.elim
  | f :: fs, v :: vs, 0, g, ⟨h1, _, _⟩, h => by
    simp at h
    subst h
    exact ⟨v, rfl, h1, fun a q => by simp [idsFs, q]⟩
  | f :: fs, v :: vs, k + 1, g, ⟨_, h2, _⟩, h => by
    obtain ⟨w, h1, h3, h4⟩ := ows_get h2 (by simpa using h)
    exact ⟨w, by simpa using h1, h3, fun a q => by simp [idsFs, h4 a q]⟩
theorem ow_at : ∀ {p : List Nat} {f g : F} {v : V}, OwF K B H f v → atF p f = some g → ∃ w, OwF K B H g w ∧ ∀ a, a ∈ idsF g → a ∈ idsF f
  | [], f, g, v, h, e => by
    cases e
    exact ⟨v, h, fun _ q => q⟩
  | k :: p, .nd q c fs, g, v, h, e => by
    simp only [atF] at e
    split at e
    · rename_i f' e1
      obtain ⟨_, o, h1, h2, h3, h4⟩ := h
      obtain ⟨w, a1, a2, a3⟩ := ows_get h3 e1
      obtain ⟨w', b1, b2⟩ := ow_at a2 e
      exact ⟨w', b1, fun a m => by simp [idsF, a3 a (b2 a m)]⟩
    · cases e
  | _ :: _, .sh _, _, _, _, e => by simp at e
  | _ :: _, .ol _ _, _, _, _, e => by simp at e
  | _ :: _, .od _ _, _, _, _, e => by simp at e
theorem getP_eq {i : Nat} {p : List Nat} {q : Nat} {g : F} (h : getP r i p q = some g) : ∃ f, look r i = some (.own f) ∧ atF p f = some g ∧ idF g = q ∧ ∀ d, g ≠ .sh d := by
  unfold getP at h
  split at h
  · rename_i f l
    refine ⟨f, l, ?_⟩
    cases e : atF p f with
    | none => rw [e] at h; cases h
    | some g' =>
      rw [e] at h
      cases g' with
      | sh d => cases h
      | _ =>
        simp only [Option.ite_none_right_eq_some, Option.some.injEq] at h
        obtain ⟨h1, rfl⟩ := h
        exact ⟨rfl, h1, fun d e => by cases e⟩
  · cases h
theorem ow_named {f : F} (h : OwF K B H f v) (n : ∀ d, f ≠ .sh d) : v = .ref (idF f) := by
  rcases h.isRef with ⟨d, e⟩ | e
  · exact absurd e (n d)
  · exact e
/-- what a part of the slot i's thing is in the heap -/
theorem SR.part {i : Nat} {p : List Nat} {q : Nat} {f : F} (S : SR K g B s r z H) (h : getP r i p q = some f) : OwF K B H f (.ref q) := by
  obtain ⟨f0, l, e1, e2, e3⟩ := getP_eq h
  obtain ⟨v0, _, en⟩ := S.env i _ l
  obtain ⟨w, h1, _⟩ := ow_at en.1 e1
  have := ow_named h1 e3
  rw [e2] at this
  rw [← this]
  exact h1
theorem En.view (S : SR K g B s r z H) (h : En K g B H s v t) (e : t.rd = some d) : View K B H v d := by
  cases t with
  | sh d' =>
    cases e
    exact view_rep h S.bh
  | bor d' =>
    cases e
    obtain ⟨a, rfl, h1, h2⟩ := h
    cases d with
    | lst ds =>
      obtain ⟨vs, h3, h4⟩ := h2
      exact ⟨a, vs, rfl, S.h0 a _ h3 h1, h4⟩
    | dic kvs =>
      obtain ⟨es, ep, ks, ws, h3, h4⟩ := h2
      exact ⟨a, rfl, es, ep, ks, ws, S.h0 a _ h3 h1, h4⟩
    | _ => exact h2.elim
  | al i => cases e
  | ol ds =>
    cases e
    obtain ⟨p, vs, rfl, h1, h2, _⟩ := h
    exact ⟨p, vs, rfl, h1, h2⟩
  | exc _ _ => cases e
  | own f => exact ow_view h.1 e S.bh
  | ptr _ _ _ => cases e
theorem SR.view (S : SR K g B s r z H) (h : (v, t) ∈ z) (e : rdT r t = some d) : View K B H v d := by
  have q := S.stk _ h
  cases t with
  | al i =>
    have q' : s[i]? = some (some v) := q
    cases l : look r i with
    | none => simp [rdT, l] at e
    | some t' =>
      simp only [rdT, l] at e
      obtain ⟨w, h1, h2⟩ := S.env i t' l
      rw [q'] at h1
      cases h1
      exact h2.view S e
  | sh d' => exact En.view S q e
  | bor d' => exact En.view S q e
  | ol ds => exact En.view S q e
  | exc _ _ => simp [rdT] at e
  | own f => exact En.view S q e
  | ptr i p n =>
    have q : v = .ref n := q
    subst q
    cases l : getP r i p n with
    | none => simp only [rdT_ptr, l] at e; cases e
    | some f =>
      simp only [rdT_ptr, l] at e
      exact ow_view (S.part l) e S.bh
theorem mem_stk : ∀ {vs : List V} {ts : List T} {z : Stk} {x : V × T}, x ∈ z → x ∈ stkL vs ts z
  | [], _, _, _, h => h
  | _ :: _, [], _, _, h => h
  | v :: vs, t :: ts, z, x, h => mem_stk (vs := vs) (ts := ts) (List.mem_cons_of_mem _ h)
theorem stk_at : ∀ {vs : List V} {ts : List T} {z : Stk} {i : Nat} {v : V} {t : T}, vs[i]? = some v → ts[i]? = some t → (v, t) ∈ stkL vs ts z
  | [], _, _, _, _, _, h, _ => by simp at h
  | _ :: _, [], _, _, _, _, _, h => by simp at h
  | w :: vs, u :: ts, z, 0, v, t, h1, h2 => by
    simp at h1 h2
    subst h1 h2
    exact mem_stk (vs := vs) (ts := ts) List.mem_cons_self
  | w :: vs, u :: ts, z, i + 1, v, t, h1, h2 => stk_at (vs := vs) (ts := ts) (i := i) (by simpa using h1) (by simpa using h2)
theorem SR.unstk : ∀ {vs : List V} {ts : List T} {z : Stk}, SR K g B s r (stkL vs ts z) H → SR K g B s r z H
  | [], _, _, S => S
  | _ :: _, [], _, S => S
  | v :: vs, t :: ts, z, S => (SR.unstk (vs := vs) (ts := ts) (z := (v, t) :: z) S).pop
/-- arguments read -/
inductive Views (K : PySem.W.Frag) (B H : Hp) : List V → List D → Prop
  | nil : Views K B H [] []
  | cons {v : V} {vs : List V} {d : D} {ds : List D} : View K B H v d → Views K B H vs ds → Views K B H (v :: vs) (d :: ds)
theorem views_of (S : SR K g B s r z H) : ∀ {vs : List V} {ts : List T} {ds : List D}, vs.length = ts.length → (∀ (i : Nat) v t, vs[i]? = some v → ts[i]? = some t → (v, t) ∈ z) → reads r ts = some ds → Views K B H vs ds
  | [], [], ds, _, _, e => by
    cases e
    exact .nil
  | [], _ :: _, _, h, _, _ => by simp at h
  | _ :: _, [], _, h, _, _ => by simp at h
  | v :: vs, t :: ts, ds, hl, hm, e => by
    simp only [reads] at e
    split at e
    · rename_i d ds' e1 e2
      cases e
      exact .cons (S.view (hm 0 v t rfl rfl) e1) (views_of S (by simpa using hl) (fun i w u h1 h2 => hm (i + 1) w u (by simpa using h1) (by simpa using h2)) e2)
    · cases e
theorem SR.views {vs : List V} {ts : List T} {ds : List D} (S : SR K g B s r (stkL vs ts z) H) (hl : vs.length = ts.length) (e : reads r ts = some ds) : Views K B H vs ds :=
  views_of S hl (fun _ _ _ h1 h2 => stk_at h1 h2) e
theorem reps_of (S : SR K g B s r z H) : ∀ {vs : List V} {ts : List T} {ds : List D}, vs.length = ts.length → (∀ (i : Nat) v t, vs[i]? = some v → ts[i]? = some t → (v, t) ∈ z) → shs ts = some ds → RepAll K B vs ds
  | [], [], ds, _, _, e => by
    cases e
    exact .nil
  | [], _ :: _, _, h, _, _ => by simp at h
  | _ :: _, [], _, h, _, _ => by simp at h
  | v :: vs, .sh d :: ts, ds, hl, hm, e => by
    simp only [shs, Option.map_eq_some_iff] at e
    obtain ⟨ds', e1, rfl⟩ := e
    exact .cons (S.stk _ (hm 0 v (.sh d) rfl rfl)) (reps_of S (by simpa using hl) (fun i w u h1 h2 => hm (i + 1) w u (by simpa using h1) (by simpa using h2)) e1)
  | _ :: _, .bor _ :: _, _, _, _, e => by simp [shs] at e
  | _ :: _, .al _ :: _, _, _, _, e => by simp [shs] at e
  | _ :: _, .ol _ :: _, _, _, _, e => by simp [shs] at e
  | _ :: _, .exc _ _ :: _, _, _, _, e => by simp [shs] at e
  | _ :: _, .own _ :: _, _, _, _, e => by simp [shs] at e
  | _ :: _, .ptr _ _ _ :: _, _, _, _, e => by simp [shs] at e
theorem SR.reps {vs : List V} {ts : List T} {ds : List D} (S : SR K g B s r (stkL vs ts z) H) (hl : vs.length = ts.length) (e : shs ts = some ds) : RepAll K B vs ds :=
  reps_of S hl (fun _ _ _ h1 h2 => stk_at h1 h2) e
end

/-! ### names, constants -/
section
variable {X : Cx} {g : G} {c : Cl} {W : WX} {L : List Nat}
theorem j_v (i : Nat) {x : Str} {pos : Pos} (hN : X.N[i]? = some x := by rfl) (hv : Vis X.env.scope x := by first | exact Or.inl rfl | exact Or.inr (Or.inl rfl) | exact Or.inr (Or.inr rfl)) (hd : (x == ("__debug__" : Str)) = false := by decide)
    (hcd : (x == ("__classdict__" : Str)) = false := by decide) : JE X g c W (.Name x pos) (dV i) := by
  refine ⟨_, pe_var hN hv hd hcd, fun s H r B z Y Q Qv _ S h k => ?_⟩
  unfold dV at h
  split at h
  · rename_i d l
    obtain ⟨v, e1, e2⟩ := S.env i _ l
    exact ⟨v, e1, k v H B r _ (S.push e2) h⟩
  · exact h.elim
theorem j_a (i : Nat) {x : Str} {pos : Pos} (hc : i ∉ g.cs) (hN : X.N[i]? = some x := by rfl) (hv : Vis X.env.scope x := by first | exact Or.inl rfl | exact Or.inr (Or.inl rfl) | exact Or.inr (Or.inr rfl)) (hd : (x == ("__debug__" : Str)) = false := by decide)
    (hcd : (x == ("__classdict__" : Str)) = false := by decide) : JE X g c W (.Name x pos) (dA i) := by
  refine ⟨_, pe_var hN hv hd hcd, fun s H r B z Y Q Qv _ S h k => ?_⟩
  unfold dA at h
  split at h
  · rename_i t l
    obtain ⟨v, e1, S'⟩ := S.pushAl l hc
    exact ⟨v, e1, k v H B r _ S' h⟩
  · exact h.elim
theorem j_g (i : Nat) {x : Str} {pos : Pos} (hN : X.N[i]? = some x := by rfl) (hv : Vis X.env.scope x := by first | exact Or.inl rfl | exact Or.inr (Or.inl rfl) | exact Or.inr (Or.inr rfl)) (hd : (x == ("__debug__" : Str)) = false := by decide)
    (hcd : (x == ("__classdict__" : Str)) = false := by decide) : JE X g c W (.Name x pos) (dG i) := by
  refine ⟨_, pe_var hN hv hd hcd, fun s H r B z Y Q Qv _ S h k => ?_⟩
  unfold dG at h
  split at h
  · rename_i ds l
    obtain ⟨v, e1, S'⟩ := S.take l
    exact ⟨v, e1, k v H B _ _ S' h⟩
  · rename_i d l
    obtain ⟨v, e1, e2⟩ := S.env i _ l
    exact ⟨v, e1, k v H B r _ (S.push e2) h⟩
  · rename_i f l
    obtain ⟨v, e1, S'⟩ := S.takeT l fun j e => by cases e
    exact ⟨v, e1, k v H B _ _ S' h⟩
  · exact h.elim
theorem j_c {e : Expr} {v : V} {d : D} (h : PE X e (tC v)) (r : ∀ B, Rep X.K B v d) : JE X g c W e (dC d) :=
  ⟨_, h, fun s H r' B z Y Q Qv _ S h k => k v H B r' _ (S.push (r B)) h⟩
theorem j_int {i j pos} : JE X g c W (.Constant (.int i) j pos) (dC (.int i)) := j_c pe_int fun _ => .int i
theorem j_bl {b j pos} : JE X g c W (.Constant (.bool b) j pos) (dC (.bl b)) := j_c pe_bl fun _ => .bl b
theorem j_non {j pos} : JE X g c W (.Constant .none j pos) (dC .non) := j_c pe_non fun _ => .non
theorem j_str {x : Str} {j pos} : JE X g c W (.Constant (.str x) j pos) (dC (.str x.cps.toList)) := j_c pe_str fun _ => by
  have e : V.str x = V.str (codes x.cps.toList) := by simp [codes]
  rw [e]
  exact .str _
theorem j_strN {x : Str} {l : List Nat} {j pos} (h : x.cps.toList = l) : JE X g c W (.Constant (.str x) j pos) (dC (.str l)) := h ▸ j_str
/-- a module's constant int, text -/
theorem j_gint {x : Str} {i : Int} {t : Tok} {pos : Pos} (hg : Gl X x) (hm : X.mg x = some (.int i t)) (hd : (x == ("__debug__" : Str)) = false := by decide) : JE X g c W (.Name x pos) (dC (.int i)) :=
  j_c (pe_glob hg hm (v := .int i) ⟨_, rfl⟩ hd) fun _ => .int i
theorem j_gstr {x y : Str} {l : List Nat} {t : Tok} {pos : Pos} (h : y.cps.toList = l) (hg : Gl X x) (hm : X.mg x = some (.str y t)) (hd : (x == ("__debug__" : Str)) = false := by decide) : JE X g c W (.Name x pos) (dC (.str l)) :=
  j_c (pe_glob hg hm (v := .str y) ⟨_, rfl⟩ hd) fun _ => by
    have e : V.str y = V.str (codes l) := by rw [← h]
    rw [e]
    exact .str _
/-- what was made becomes shared -/
theorem j_f {e : Expr} {de : DE} (h : JE X g c W e de) : JE X g c W e (dF de) := by
  obtain ⟨te, hp, hs⟩ := h.ex
  refine ⟨te, hp, fun s H r B z Y Q Qv lw S h k => hs s H r B z Y _ Qv lw S h fun v H' B' r' t S' q => ?_⟩
  split at q
  · obtain ⟨B2, _, S2⟩ := S'.freeze
    exact k v H' B2 r' _ S2 q
  · exact k v H' B' r' _ S' q
  · obtain ⟨B2, _, S2⟩ := S'.freezeT rfl
    exact k v H' B2 r' _ S2 q
  · exact q.elim

/-! ### operators -/
def OpS (K : PySem.W.Frag) (g : G) (o : R2) (d : R2D) : Prop := ∀ (B : Hp) (s : St) (r : Env) (z : Stk) (H : Hp) (v w : V) (x y : D) (Q : T → Prop) (Qv : VK), SR K g B s r z H → View K B H v x → View K B H w y → d x y Q →
  (∀ u H' B' t, SR K g B' s r ((u, t) :: z) H' → Q t → Qv u H') → o v w H Qv
def UnS (K : PySem.W.Frag) (g : G) (o : V → Hp → VK → Prop) (d : R1D) : Prop := ∀ (B : Hp) (s : St) (r : Env) (z : Stk) (H : Hp) (v : V) (x : D) (Q : T → Prop) (Qv : VK), SR K g B s r z H → View K B H v x → d x Q →
  (∀ u H' B' t, SR K g B' s r ((u, t) :: z) H' → Q t → Qv u H') → o v H Qv
theorem es_op {ta tb : TE} {da db : DE} {o : R2} {od : R2D} {K : PySem.W.Frag} (h1 : ES K g c W ta da) (h2 : ES K g c W tb db) (ho : OpS K g o od) : ES K g c W (tOp o ta tb) (dOp od da db) := fun s H r B z Y Q Qv lw S h k => by
  refine h1 s H r B z Y _ _ lw S h fun v H1 B1 r1 t1 S1 q1 => ?_
  refine h2 s H1 r1 B1 _ Y _ _ lw.ext S1 q1 fun w H2 B2 r2 t2 S2 q2 => ?_
  split at q2
  · rename_i x y e1 e2
    exact ho B2 s r2 z H2 v w x y _ _ S2.pop.pop (S2.view (List.mem_cons_of_mem _ List.mem_cons_self) e1) (S2.view List.mem_cons_self e2) q2 fun u H' B' t S' q => k u H' B' r2 t S' q
  · exact q2.elim
theorem j_op {a b : Expr} {da db : DE} {op : Operator} {o : R2} {od : R2D} {pos : Pos} (ho : OpR X (binaryOp op) o ∧ OpS X.K g o od) (ha : JE X g c W a da) (hb : JE X g c W b db) : JE X g c W (.BinOp a op b pos) (dOp od da db) := by
  obtain ⟨ta, pa, sa⟩ := ha.ex
  obtain ⟨tb, pb, sb⟩ := hb.ex
  exact ⟨_, pe_op ho.1 pa pb, es_op sa sb ho.2⟩
theorem j_cmp {a b : Expr} {da db : DE} {op : CmpOp} {o : R2} {od : R2D} {pos : Pos} (ho : OpR X (compareOp op) o ∧ OpS X.K g o od) (ha : JE X g c W a da) (hb : JE X g c W b db) (hm : behindInMarks op b = false := by first | exact nobehind _ (by decide) (by decide) | rfl) :
    JE X g c W (.Compare a [op] [b] pos) (dOp od da db) := by
  obtain ⟨ta, pa, sa⟩ := ha.ex
  obtain ⟨tb, pb, sb⟩ := hb.ex
  exact ⟨_, pe_cmpR ho.1 pa pb hm, es_op sa sb ho.2⟩
theorem j_un {a : Expr} {da : DE} {op : UnaryOp} {o : V → Hp → VK → Prop} {od : R1D} {pos : Pos} (ho : UnR X (unaryOp op) o ∧ UnS X.K g o od) (ha : JE X g c W a da) : JE X g c W (.UnaryOp op a pos) (dU od da) := by
  obtain ⟨ta, pa, sa⟩ := ha.ex
  refine ⟨_, pe_un ho.1 pa, fun s H r B z Y Q Qv lw S h k => ?_⟩
  refine sa s H r B z Y _ _ lw S h fun v H1 B1 r1 t1 S1 q1 => ?_
  split at q1
  · rename_i x e1
    exact ho.2 B1 s r1 z H1 v x _ _ S1.pop (S1.view List.mem_cons_self e1) q1 fun u H' B' t S' q => k u H' B' r1 t S' q
  · exact q1.elim
theorem opR_or {f : Value → Value → Sem Value} {o o' : R2} (h : OpR X f o) (h' : OpR X f o') : OpR X f (fun x y H Q => o x y H Q ∨ o' x y H Q) := fun pins s σ H x y v u Q I rx ry h2 => by
  rcases h2 with h2 | h2
  · exact h pins s σ H x y v u Q I rx ry h2
  · exact h' pins s σ H x y v u Q I rx ry h2
/-- ints to a scalar -/
theorem ops_I0 {K : PySem.W.Frag} {f : Int → Int → V} {d : Int → Int → D} (h : ∀ i j B, Rep K B (f i j) (d i j)) : OpS K g (rI0 f) (oI0 d) := fun B s r z H v w x y Q Qv S h1 h2 q k => by
  unfold oI0 at q
  split at q
  · rename_i i j
    cases h1
    cases h2
    exact ⟨i, j, rfl, rfl, k _ H B _ (S.push (h i j B)) q⟩
  · exact q.elim
theorem ops_I {K : PySem.W.Frag} {C C' : Int → Int → Prop} {f : Int → Int → V} {d : Int → Int → D} (hC : ∀ i j, C' i j → C i j) (h : ∀ i j B, Rep K B (f i j) (d i j)) : OpS K g (rI C f) (oI C' d) := fun B s r z H v w x y Q Qv S h1 h2 q k => by
  unfold oI at q
  split at q
  · rename_i i j
    cases h1
    cases h2
    exact ⟨i, j, rfl, rfl, hC i j q.1, k _ H B _ (S.push (h i j B)) q.2⟩
  · exact q.elim
theorem jo_sub : OpR X (binaryOp .Sub) (rI0 fun i j => .int (i - j)) ∧ OpS X.K g (rI0 fun i j => .int (i - j)) oSub := ⟨op_sub, ops_I0 fun _ _ _ => .int _⟩
theorem jo_div : OpR X (binaryOp .FloorDiv) (rI CDiv fun i j => .int (i / j)) ∧ OpS X.K g (rI CDiv fun i j => .int (i / j)) oDiv := ⟨op_fdiv, ops_I (fun _ _ h => h) fun _ _ _ => .int _⟩
theorem jo_mod : OpR X (binaryOp .Mod) (rI (fun _ j => 0 < j) fun i j => .int (i % j)) ∧ OpS X.K g (rI (fun _ j => 0 < j) fun i j => .int (i % j)) oMod := ⟨op_mod, ops_I (fun _ _ h => h) fun _ _ _ => .int _⟩
theorem jo_pow : OpR X (binaryOp .Pow) (rI CPow fun i j => .int (i ^ j.toNat)) ∧ OpS X.K g (rI CPow fun i j => .int (i ^ j.toNat)) oPow := ⟨op_pow, ops_I (fun _ _ h => h) fun _ _ _ => .int _⟩
theorem jo_lt : OpR X (compareOp .Lt) (rI0 fun i j => .bl (decide (i < j))) ∧ OpS X.K g (rI0 fun i j => .bl (decide (i < j))) oLt := ⟨op_lt, ops_I0 fun _ _ _ => .bl _⟩
theorem jo_le : OpR X (compareOp .LtE) (rI0 fun i j => .bl (decide (i ≤ j))) ∧ OpS X.K g (rI0 fun i j => .bl (decide (i ≤ j))) oLe := ⟨op_le, ops_I0 fun _ _ _ => .bl _⟩
theorem jo_gt : OpR X (compareOp .Gt) (rI0 fun i j => .bl (decide (j < i))) ∧ OpS X.K g (rI0 fun i j => .bl (decide (j < i))) oGt := ⟨op_gt, ops_I0 fun _ _ _ => .bl _⟩
theorem jo_ge : OpR X (compareOp .GtE) (rI0 fun i j => .bl (decide (j ≤ i))) ∧ OpS X.K g (rI0 fun i j => .bl (decide (j ≤ i))) oGe := ⟨op_ge, ops_I0 fun _ _ _ => .bl _⟩
theorem size_is : (16777216 : Nat) = sizeLine := by rw [sizeLine_eq]
abbrev rAddA (K : PySem.W.Frag) : R2 := fun x y H Q => (rI0 fun i j => .int (i + j)) x y H Q ∨ (rCat x y H Q ∨ ((∃ i j, x = .str i ∧ y = .str j ∧ i.length + j.length ≤ sizeLine ∧ Q (.str (i ++ j)) H) ∨ rCatA K x y H Q))
theorem jo_add : OpR X (binaryOp .Add) (rAddA X.K) ∧ OpS X.K g (rAddA X.K) oAdd := by
  refine ⟨opR_or op_add (opR_or op_cat (opR_or op_add_str op_catA)), fun B s r z H v w x y Q Qv S h1 h2 q k => ?_⟩
  unfold oAdd at q
  split at q
  · rename_i i j
    cases h1
    cases h2
    exact Or.inl ⟨i, j, rfl, rfl, k _ H B _ (S.push (.int _)) q⟩
  · rename_i xs ys
    obtain ⟨a, vs, rfl, e1, e2⟩ := h1
    obtain ⟨b, ws, rfl, e3, e4⟩ := h2
    refine Or.inr (Or.inl ⟨a, b, vs, ws, rfl, rfl, e1, e3, by rw [e2.len, e4.len, ← size_is]; exact q.1, fun p hp => ?_⟩)
    exact k _ _ B _ (S.own hp (e2.append e4)) q.2
  · rename_i a b
    cases h1
    cases h2
    refine Or.inr (Or.inr (Or.inl ⟨_, _, rfl, rfl, by rw [← size_is]; simpa [codes, Str.length] using q.1, ?_⟩))
    have e : (codes a ++ codes b : Str) = codes (a ++ b) := by
      show Str.mk _ = Str.mk _
      simp [codes]
    rw [e]
    exact k _ H B _ (S.push (.str _)) q.2
  · rename_i xs ys
    cases h1 with
    | tup e1 e2 =>
    cases h2 with
    | tup e3 e4 =>
    refine Or.inr (Or.inr (Or.inr ⟨_, _, _, _, rfl, rfl, same_t S.bh e1, same_t S.bh e3, by rw [e2.len, e4.len, ← size_is]; exact q.1, fun hx => ?_, fun hx hy => ?_, fun hx hy p hp => ?_⟩))
    · subst hx
      cases e2
      exact k _ H B _ (S.push (.tup e3 e4)) q.2
    · subst hy
      cases e4
      refine k _ H B _ (S.push (d := .tup (xs ++ [])) ?_) q.2
      rw [List.append_nil]
      exact .tup e1 e2
    · have hb : B p = none := by
        cases q : B p with
        | none => rfl
        | some u => rw [S.bh p u q] at hp; cases hp
      exact k _ _ _ _ ((S.alloc (o := .tup _) hp).push (.tup (SqT.of upd_same) ((e2.append e4).mono (sm_new hb)))) q.2
  · exact q.elim
end
end J

/-! JL3: more operators, tests, arguments, displays, calls of built-ins, places, slices. -/
namespace J
open PySem L2
mutual
theorem py_lay : ∀ d : D, lay d = true → (py d).canLay0 = true
  | .non, _ => rfl
  | .bl _, _ => rfl
  | .int _, _ => rfl
  | .str s, h => by
    have h' : s.all (· < 0x110000) = true := h
    show PyData.strOk (codes s) = true
    unfold PyData.strOk
    simpa [codes] using h'
  | .lst ds, h => pys_lay ds h
  | .tup ds, h => pys_lay ds h
  | .scr _, h => by cases h
  | .dic _, h => by cases h
  | .sett _, h => by cases h
  | .obj _ _, h => by cases h
  | .fn _, h => by cases h
theorem pys_lay : ∀ ds : List D, lays ds = true → PyData.canLayAll0 (pys ds) = true
  | [], _ => rfl
  | d :: ds, h => by
    have h' : (lay d && lays ds) = true := h
    rw [Bool.and_eq_true] at h'
    show ((py d).canLay0 && PyData.canLayAll0 (pys ds)) = true
    rw [py_lay d h'.1, pys_lay ds h'.2]
    rfl
end
mutual
theorem py_deep : ∀ d : D, (py d).depth = deep d ∨ lay d = false
  | .non => .inl rfl
  | .bl _ => .inl rfl
  | .int _ => .inl rfl
  | .str _ => .inl rfl
  | .lst ds => by
    rcases pys_deep ds with h | h
    · exact .inl (congrArg (· + 1) h)
    · exact .inr h
  | .tup ds => by
    rcases pys_deep ds with h | h
    · exact .inl (congrArg (· + 1) h)
    · exact .inr h
  | .scr _ => .inr rfl
  | .dic _ => .inr rfl
  | .sett _ => .inr rfl
  | .obj _ _ => .inr rfl
  | .fn _ => .inr rfl
theorem pys_deep : ∀ ds : List D, PyData.depthAll (pys ds) = deeps ds ∨ lays ds = false
  | [] => .inl rfl
  | d :: ds => by
    rcases py_deep d with h | h
    · rcases pys_deep ds with h' | h'
      · exact .inl (by show max (py d).depth (PyData.depthAll (pys ds)) = max (deep d) (deeps ds); rw [h, h'])
      · exact .inr (by show (lay d && lays ds) = false; rw [h', Bool.and_false])
    · exact .inr (by show (lay d && lays ds) = false; rw [h, Bool.false_and])
end
theorem shaped_of {d : D} (h : okE d) : SeqAt.shaped (py d) = true := by
  unfold SeqAt.shaped
  rw [py_lay d h.1]
  rcases py_deep d with e | e
  · rw [e, decide_eq_true h.2]
    rfl
  · rw [h.1] at e
    cases e
theorem codes_inj (x y : List Nat) : (codes x == codes y) = (x == y) := by
  by_cases h : x = y
  · subst h; simp
  · have : codes x ≠ codes y := fun e => h (by simpa [codes] using e)
    rw [beq_eq_false_iff_ne.mpr this, beq_eq_false_iff_ne.mpr h]
mutual
theorem eqv_py : ∀ (x y : D), lay x = true → lay y = true → PyData.eqv (py x) (py y) = eqD x y := by
  intro x y hx hy
  cases x with
  | scr _ => cases hx
  | dic _ => cases hx
  | sett _ => cases hx
  | obj _ _ => cases hx
  | fn _ => cases hx
  | lst xs =>
    cases y with
    | lst ys => exact eqv_pys xs ys hx hy
    | scr _ => cases hy
    | dic _ => cases hy
    | sett _ => cases hy
    | obj _ _ => cases hy
    | fn _ => cases hy
    | _ => rfl
  | tup xs =>
    cases y with
    | tup ys => exact eqv_pys xs ys hx hy
    | scr _ => cases hy
    | dic _ => cases hy
    | sett _ => cases hy
    | obj _ _ => cases hy
    | fn _ => cases hy
    | _ => rfl
  | str a =>
    cases y with
    | str b => exact codes_inj a b
    | scr _ => cases hy
    | dic _ => cases hy
    | sett _ => cases hy
    | obj _ _ => cases hy
    | fn _ => cases hy
    | _ => rfl
  | non =>
    cases y with
    | scr _ => cases hy
    | dic _ => cases hy
    | sett _ => cases hy
    | obj _ _ => cases hy
    | fn _ => cases hy
    | _ => rfl
  | bl _ =>
    cases y with
    | scr _ => cases hy
    | dic _ => cases hy
    | sett _ => cases hy
    | obj _ _ => cases hy
    | fn _ => cases hy
    | _ => rfl
  | int _ =>
    cases y with
    | scr _ => cases hy
    | dic _ => cases hy
    | sett _ => cases hy
    | obj _ _ => cases hy
    | fn _ => cases hy
    | _ => rfl
theorem eqv_pys : ∀ (xs ys : List D), lays xs = true → lays ys = true → PyData.eqvAll (pys xs) (pys ys) = eqDs xs ys := by
  intro xs ys hx hy
  cases xs with
  | nil => cases ys <;> rfl
  | cons x xs =>
    cases ys with
    | nil => rfl
    | cons y ys =>
      have hx' : (lay x && lays xs) = true := hx
      have hy' : (lay y && lays ys) = true := hy
      rw [Bool.and_eq_true] at hx' hy'
      show (PyData.eqv (py x) (py y) && PyData.eqvAll (pys xs) (pys ys)) = (eqD x y && eqDs xs ys)
      rw [eqv_py x y hx'.1 hy'.1, eqv_pys xs ys hx'.2 hy'.2]
end
section
variable {K : PySem.W.Frag} {B H : Hp}
mutual
theorem dp_of (hb : Same B H) : ∀ {v : V} {d : D}, Rep K B v d → lay d = true → Dp K H v (py d)
  | _, _, .non, _ => .non
  | _, _, .bl b, _ => .bl b
  | _, _, .int i, _ => .int i
  | _, _, .str s, _ => .str _
  | _, _, .lst h r, l => .lst (SqL.of (hb _ _ h)) (dps_of hb r l)
  | _, _, .tup h r, l => .tup (same_t hb h) (dps_of hb r l)
  | _, _, .scr _, l => by cases l
theorem dps_of (hb : Same B H) : ∀ {vs : List V} {ds : List D}, RepAll K B vs ds → lays ds = true → DpAll K H vs (pys ds)
  | _, _, .nil, _ => .nil
  | _, _, .cons (d := d) (ds := ds) h r, l => by
    have l' : (lay d && lays ds) = true := l
    rw [Bool.and_eq_true] at l'
    exact .cons (dp_of hb h l'.1) (dps_of hb r l'.2)
end
theorem dp_view {v : V} {d : D} (hb : Same B H) (h : View K B H v d) (l : lay d = true) : Dp K H v (py d) := by
  cases d with
  | lst ds =>
    obtain ⟨a, vs, rfl, h1, h2⟩ := h
    exact .lst (SqL.of h1) (dps_of hb h2 l)
  | non => exact dp_of hb h l
  | bl _ => exact dp_of hb h l
  | int _ => exact dp_of hb h l
  | str _ => exact dp_of hb h l
  | tup _ => exact dp_of hb h l
  | scr _ => cases l
  | dic _ => cases l
  | sett _ => cases l
  | obj _ _ => cases l
  | fn _ => cases l
theorem scal_of {v w : V} {x y : D} (h1 : View K B H v x) (h2 : View K B H w y) (h : scalD x y = true) : scal v w = true ∧ decide (v = w) = eqD x y := by
  cases x <;> cases y <;> first | (exact absurd h Bool.false_ne_true) | skip
  all_goals (cases h1; cases h2)
  all_goals first
    | exact ⟨rfl, rfl⟩
    | (refine ⟨rfl, ?_⟩
       show decide (_ = _) = (_ == _)
       rename_i a b
       by_cases e : a = b
       · subst e; simp
       · have : ¬ (V.int a = V.int b) := fun q => e (by cases q; rfl)
         rw [decide_eq_false this, beq_eq_false_iff_ne.mpr e])
    | (refine ⟨rfl, ?_⟩
       show decide (_ = _) = (_ == _)
       rename_i a b
       by_cases e : a = b
       · subst e; simp
       · have : ¬ (V.bl a = V.bl b) := fun q => e (by cases q; rfl)
         rw [decide_eq_false this, beq_eq_false_iff_ne.mpr e])
    | (refine ⟨rfl, ?_⟩
       show decide (_ = _) = (_ == _)
       rename_i a b
       by_cases e : a = b
       · subst e; simp
       · have : ¬ (V.str (codes a) = V.str (codes b)) := fun q => e (by simpa [codes] using q)
         rw [decide_eq_false this, beq_eq_false_iff_ne.mpr e])
end
section
variable {X : Cx} {g : G} {c : Cl} {W : WX} {L : List Nat}
abbrev rEqA (K : PySem.W.Frag) : R2 := fun x y H Q => rEq x y H Q ∨ rEqD K x y H Q
abbrev rNeA (K : PySem.W.Frag) : R2 := fun x y H Q => rNe x y H Q ∨ rNeD K x y H Q
theorem jo_eq {k : Nat} (hr : Room k X.A) : OpR X (compareOp .Eq) (rEqA X.K) ∧ OpS X.K g (rEqA X.K) oEq := by
  refine ⟨opR_or op_eq (op_eqD hr.units), fun B s r z H v w x y Q Qv S h1 h2 q k => ?_⟩
  obtain ⟨h | h, q⟩ := q
  · obtain ⟨e1, e2⟩ := scal_of h1 h2 h
    refine Or.inl ⟨e1, ?_⟩
    rw [e2]
    exact k _ H B _ (S.push (.bl _)) q
  · refine Or.inr ⟨py x, py y, dp_view S.bh h1 h.1.1, dp_view S.bh h2 h.2.1, shaped_of h.1, shaped_of h.2, ?_⟩
    rw [eqv_py x y h.1.1 h.2.1]
    exact k _ H B _ (S.push (.bl _)) q
theorem jo_ne {k : Nat} (hr : Room k X.A) : OpR X (compareOp .NotEq) (rNeA X.K) ∧ OpS X.K g (rNeA X.K) oNe := by
  refine ⟨opR_or op_ne (op_neD hr.units), fun B s r z H v w x y Q Qv S h1 h2 q k => ?_⟩
  obtain ⟨h | h, q⟩ := q
  · obtain ⟨e1, e2⟩ := scal_of h1 h2 h
    refine Or.inl ⟨e1, ?_⟩
    rw [e2]
    exact k _ H B _ (S.push (.bl _)) q
  · refine Or.inr ⟨py x, py y, dp_view S.bh h1 h.1.1, dp_view S.bh h2 h.2.1, shaped_of h.1, shaped_of h.2, ?_⟩
    rw [eqv_py x y h.1.1 h.2.1]
    exact k _ H B _ (S.push (.bl _)) q
abbrev rMulA : R2 := fun x y H Q => rI CMul (fun i j => .int (i * j)) x y H Q ∨ rRep x y H Q
theorem rep_flat {K : PySem.W.Frag} {B : Hp} {vs : List V} {ds : List D} (h : RepAll K B vs ds) : ∀ n, RepAll K B (List.replicate n vs).flatten (List.replicate n ds).flatten
  | 0 => .nil
  | n + 1 => by
    rw [List.replicate_succ, List.replicate_succ, List.flatten_cons, List.flatten_cons]
    exact h.append (rep_flat h n)
theorem jo_mul : OpR X (binaryOp .Mult) rMulA ∧ OpS X.K g rMulA oMul := by
  refine ⟨opR_or op_mul op_rep, fun B s r z H v w x y Q Qv S h1 h2 q k => ?_⟩
  unfold oMul at q
  split at q
  · rename_i i j
    cases h1
    cases h2
    exact Or.inl ⟨i, j, rfl, rfl, q.1, k _ H B _ (S.push (.int _)) q.2⟩
  · rename_i xs n
    obtain ⟨a, vs, rfl, e1, e2⟩ := h1
    cases h2
    refine Or.inr ⟨a, n, vs, rfl, rfl, e1, q.1.2.1, q.1.1, by rw [e2.len, ← size_is]; exact q.1.2.2, fun p hp => ?_⟩
    exact k _ _ B _ (S.own hp (rep_flat e2 _)) q.2
  · exact q.elim
theorem flat_of {K : PySem.W.Frag} {B : Hp} {v : V} {d : D} (h : Rep K B v d) (f : flatD d = true) : flatV v = true := by
  cases h <;> first | rfl | (exact absurd f Bool.false_ne_true)
theorem flats_of {K : PySem.W.Frag} {B : Hp} : ∀ {vs : List V} {ds : List D}, RepAll K B vs ds → ds.all flatD = true → vs.all flatV = true
  | _, _, .nil, _ => rfl
  | _, _, .cons h r, f => by
    rw [List.all_cons, Bool.and_eq_true] at f
    rw [List.all_cons, flat_of h f.1, flats_of r f.2]
    rfl
theorem eqV_of {K : PySem.W.Frag} {B B' : Hp} {v w : V} {x y : D} (h1 : Rep K B v x) (h2 : Rep K B' w y) (f1 : flatD x = true) (f2 : flatD y = true) : eqV v w = eqD x y := by
  cases h1 <;> cases h2 <;> first | rfl | (exact absurd f1 Bool.false_ne_true) | (exact absurd f2 Bool.false_ne_true) | exact codes_inj _ _
theorem inV_of {K : PySem.W.Frag} {B B' : Hp} {w : V} {y : D} (h2 : Rep K B' w y) (f2 : flatD y = true) : ∀ {vs : List V} {ds : List D}, RepAll K B vs ds → ds.all flatD = true → inV w vs = ds.any fun z => eqD z y
  | _, _, .nil, _ => rfl
  | _, _, .cons h r, f => by
    rw [List.all_cons, Bool.and_eq_true] at f
    have ih := inV_of h2 f2 r f.2
    unfold inV at ih ⊢
    rw [List.any_cons, List.any_cons, ih, eqV_of h h2 f.1 f2]
abbrev rInA (K : PySem.W.Frag) : R2 := fun x y H Q => rIn K false x y H Q ∨ (∃ (c : Nat) (z : Str), x = .str ⟨#[c]⟩ ∧ y = .str z ∧ Q (.bl (decide (c ∈ z.cps.toList))) H)
abbrev rNiA (K : PySem.W.Frag) : R2 := fun x y H Q => rIn K true x y H Q ∨ (∃ (c : Nat) (z : Str), x = .str ⟨#[c]⟩ ∧ y = .str z ∧ Q (.bl (!decide (c ∈ z.cps.toList))) H)
theorem flat_rep {K : PySem.W.Frag} {B H : Hp} {v : V} {d : D} (h : View K B H v d) (f : flatD d = true) : Rep K B v d := by
  cases d <;> first | exact h | (exact absurd f Bool.false_ne_true)
theorem jo_in : OpR X (compareOp .In) (rInA X.K) ∧ OpS X.K g (rInA X.K) (oIn false) := by
  refine ⟨opR_or op_in_seq op_in_sign, fun B s r z H v w x y Q Qv S h1 h2 q k => ?_⟩
  unfold oIn at q
  split at q
  · rename_i ys
    obtain ⟨a, vs, rfl, e1, e2⟩ := h2
    have r1 := flat_rep h1 q.1.1
    refine Or.inl ⟨a, vs, rfl, Or.inl (SqL.of e1), flat_of r1 q.1.1, flats_of e2 q.1.2, ?_⟩
    rw [inV_of r1 q.1.1 e2 q.1.2]
    exact k _ H B _ (S.push (.bl _)) q.2
  · rename_i ys
    cases h2 with
    | tup e1 e2 =>
      have r1 := flat_rep h1 q.1.1
      refine Or.inl ⟨_, _, rfl, Or.inr (same_t S.bh e1), flat_of r1 q.1.1, flats_of e2 q.1.2, ?_⟩
      rw [inV_of r1 q.1.1 e2 q.1.2]
      exact k _ H B _ (S.push (.bl _)) q.2
  · rename_i t
    split at q
    · rename_i cc
      cases h1
      cases h2
      refine Or.inr ⟨cc, codes t, rfl, rfl, ?_⟩
      exact k _ H B _ (S.push (.bl _)) (by simpa [codes] using q)
    · exact q.elim
  · exact q.elim
theorem jo_ni : OpR X (compareOp .NotIn) (rNiA X.K) ∧ OpS X.K g (rNiA X.K) (oIn true) := by
  refine ⟨opR_or op_notIn_seq op_notIn_sign, fun B s r z H v w x y Q Qv S h1 h2 q k => ?_⟩
  unfold oIn at q
  split at q
  · rename_i ys
    obtain ⟨a, vs, rfl, e1, e2⟩ := h2
    have r1 := flat_rep h1 q.1.1
    refine Or.inl ⟨a, vs, rfl, Or.inl (SqL.of e1), flat_of r1 q.1.1, flats_of e2 q.1.2, ?_⟩
    rw [inV_of r1 q.1.1 e2 q.1.2]
    exact k _ H B _ (S.push (.bl _)) q.2
  · rename_i ys
    cases h2 with
    | tup e1 e2 =>
      have r1 := flat_rep h1 q.1.1
      refine Or.inl ⟨_, _, rfl, Or.inr (same_t S.bh e1), flat_of r1 q.1.1, flats_of e2 q.1.2, ?_⟩
      rw [inV_of r1 q.1.1 e2 q.1.2]
      exact k _ H B _ (S.push (.bl _)) q.2
  · rename_i t
    split at q
    · rename_i cc
      cases h1
      cases h2
      refine Or.inr ⟨cc, codes t, rfl, rfl, ?_⟩
      exact k _ H B _ (S.push (.bl _)) (by simpa [codes] using q)
    · exact q.elim
  · exact q.elim
theorem ju_neg : UnR X (unaryOp .USub) (rU fun i => .int (-i)) ∧ UnS X.K g (rU fun i => .int (-i)) uNeg := by
  refine ⟨un_neg, fun B s r z H v x Q Qv S h q k => ?_⟩
  unfold uNeg at q
  split at q
  · rename_i i
    cases h
    exact ⟨i, rfl, k _ H B _ (S.push (.int _)) q⟩
  · exact q.elim
theorem isNon_of {K : PySem.W.Frag} {B H : Hp} {v : V} {d : D} (h : View K B H v d) : decide (v = .non) = isNon d := by
  cases d with
  | lst ds =>
    obtain ⟨a, vs, rfl, _⟩ := h
    rfl
  | dic kvs =>
    obtain ⟨a, rfl, _⟩ := h
    rfl
  | _ => cases h <;> rfl
theorem j_isN {a : Expr} {da : DE} {j : Nat} {p pos : Pos} (ha : JE X g c W a da) : JE X g c W (.Compare a [.Is] [.Constant .none j p] pos) (dU (uIsN false) da) := by
  obtain ⟨ta, pa, sa⟩ := ha.ex
  refine ⟨_, pe_cmp (pc_isN pa) rfl, fun s H r B z Y Q Qv lw S h k => ?_⟩
  refine sa s H r B z Y _ _ lw S h fun v H1 B1 r1 t1 S1 q1 => ?_
  split at q1
  · rename_i x e1
    have v1 := S1.view List.mem_cons_self e1
    rw [isNon_of v1]
    exact k _ H1 B1 r1 _ (S1.pop.push (.bl _)) q1
  · exact q1.elim
theorem j_notN {a : Expr} {da : DE} {j : Nat} {p pos : Pos} (ha : JE X g c W a da) : JE X g c W (.Compare a [.IsNot] [.Constant .none j p] pos) (dU (uIsN true) da) := by
  obtain ⟨ta, pa, sa⟩ := ha.ex
  refine ⟨_, pe_cmp (pc_notN pa) rfl, fun s H r B z Y Q Qv lw S h k => ?_⟩
  refine sa s H r B z Y _ _ lw S h fun v H1 B1 r1 t1 S1 q1 => ?_
  split at q1
  · rename_i x e1
    have v1 := S1.view List.mem_cons_self e1
    rw [isNon_of v1]
    exact k _ H1 B1 r1 _ (S1.pop.push (.bl _)) q1
  · exact q1.elim

/-! ### places, slices -/
theorem atD_is {A : Type} (xs : List A) (i : Int) : atD xs i = atI xs i := rfl
theorem at_rep {K : PySem.W.Frag} {B : Hp} {vs : List V} {ds : List D} {i : Int} {d : D} (h : RepAll K B vs ds) (e : atD ds i = some d) : ∃ v, atI vs i = some v ∧ Rep K B v d := by
  unfold atD at e
  unfold atI
  rw [h.len]
  obtain ⟨j, e1, e2⟩ := Option.bind_eq_some_iff.mp e
  obtain ⟨v, q1, q2⟩ := h.get e2
  exact ⟨v, Option.bind_eq_some_iff.mpr ⟨j, e1, q1⟩, q2⟩
theorem ops_ix {K : PySem.W.Frag} : OpS K g (rIx K) oIx := fun B s r z H v w x y Q Qv S h1 h2 q k => by
  unfold oIx at q
  split at q
  · rename_i xs i
    split at q
    · rename_i d e
      obtain ⟨a, vs, rfl, e1, e2⟩ := h1
      cases h2
      obtain ⟨u, q1, q2⟩ := at_rep e2 e
      exact Or.inl ⟨a, vs, i, u, rfl, rfl, SqL.of e1, q1, k _ H B _ (S.push q2) q⟩
    · exact q.elim
  · rename_i xs i
    split at q
    · rename_i d e
      cases h2
      cases h1 with
      | tup e1 e2 =>
        obtain ⟨u, q1, q2⟩ := at_rep e2 e
        exact Or.inr (Or.inl ⟨_, _, i, u, rfl, rfl, same_t S.bh e1, q1, k _ H B _ (S.push q2) q⟩)
    · exact q.elim
  · rename_i ns i
    split at q
    · rename_i d e
      cases h2
      cases h1 with
      | scr e1 =>
        refine Or.inl ⟨_, _, i, .int d, rfl, rfl, same_l S.bh e1, ?_, k _ H B _ (S.push (.int _)) q⟩
        unfold atD at e
        unfold atI
        rw [List.length_map]
        obtain ⟨j, q1, q2⟩ := Option.bind_eq_some_iff.mp e
        refine Option.bind_eq_some_iff.mpr ⟨j, q1, ?_⟩
        rw [List.getElem?_map, q2]
        rfl
    · exact q.elim
  · rename_i t i
    obtain ⟨hz, q⟩ := q
    split at q
    · rename_i cc e
      cases h1
      cases h2
      exact Or.inr (Or.inr ⟨codes t, i, cc, rfl, rfl, by rw [← size_is]; simpa [codes, Str.length] using hz, by simpa [codes, atD_is] using e, k _ H B _ (S.push (.str [cc])) q⟩)
    · exact q.elim
  · exact q.elim
theorem j_ix {a b : Expr} {da db : DE} {pos : Pos} (ha : JE X g c W a da) (hb : JE X g c W b db) (hs : PlainIx b := by exact fun _ _ => rfl) : JE X g c W (.Subscript a b pos) (dOp oIx da db) := by
  obtain ⟨ta, pa, sa⟩ := ha.ex
  obtain ⟨tb, pb, sb⟩ := hb.ex
  exact ⟨_, pe_ix ix_seq pa pb hs, es_op sa sb ops_ix⟩
theorem jp_no : JO X g c W none dNo := ⟨_, po_none, fun s H r B z Y Q Qv _ S h k => k none H B r S h⟩
theorem jp_pt {e : Expr} {de : DE} (h : JE X g c W e de) : JO X g c W (some e) (dPt de) := by
  obtain ⟨te, pe, se⟩ := h.ex
  refine ⟨_, po_some pe, fun s H r B z Y Q Qv lw S h k => ?_⟩
  refine se s H r B z Y _ _ lw S h fun v H1 B1 r1 t1 S1 q1 => ?_
  split at q1
  · rename_i i e1
    have v1 := S1.view List.mem_cons_self e1
    cases v1
    exact ⟨i, rfl, k (some i) H1 B1 r1 S1.pop q1⟩
  · exact q1.elim
abbrev rSlA (K : PySem.W.Frag) : V → Option Int → Option Int → Hp → VK → Prop := fun x lo hi H Q => rSlL K x lo hi H Q ∨ (rSlS x lo hi H Q ∨ L2.rSlA K x lo hi H Q)
theorem cut_rep {K : PySem.W.Frag} {B : Hp} {vs : List V} {ds : List D} (h : RepAll K B vs ds) (lo hi : Option Int) : RepAll K B (cutV vs lo hi) (cutD ds lo hi) := by
  unfold cutV cutD
  rw [h.len]
  exact (h.drop _).take _
theorem j_sl {e : Expr} {lo hi : Option Expr} {de : DE} {dl dh : DO} {p2 pos : Pos} (he : JE X g c W e de) (hl : JO X g c W lo dl) (hh : JO X g c W hi dh) : JE X g c W (.Subscript e (.Slice lo hi none p2) pos) (dSl de dl dh) := by
  obtain ⟨te, pe, se⟩ := he.ex
  obtain ⟨tl, pl, sl⟩ := hl.ex
  obtain ⟨th, ph, sh⟩ := hh.ex
  refine ⟨_, pe_slice (r := rSlA X.K) (SlR.or sl_list (SlR.or sl_str sl_tupA)) pe pl ph, fun s H r B z Y Q Qv lw S h k => ?_⟩
  refine se s H r B z Y _ _ lw S h fun v H1 B1 r1 t1 S1 q1 => ?_
  refine sl s H1 r1 B1 _ Y _ _ lw.ext S1 q1 fun a H2 B2 r2 S2 q2 => ?_
  refine sh s H2 r2 B2 _ Y _ _ lw.ext S2 q2 fun b H3 B3 r3 S3 q3 => ?_
  split at q3
  · rename_i xs e3
    obtain ⟨p, vs, rfl, e1, e2⟩ := S3.view List.mem_cons_self e3
    refine Or.inl ⟨p, vs, rfl, SqL.of e1, fun q hq => ?_⟩
    exact k _ _ B3 _ _ (S3.pop.own hq (cut_rep e2 a b)) q3
  · rename_i t e3
    have v3 := S3.view List.mem_cons_self e3
    cases v3
    refine Or.inr (Or.inl ⟨codes t, rfl, by rw [← size_is]; simpa [codes, Str.length] using q3.1, ?_⟩)
    have e : cutS (codes t) a b = codes (cutD t a b) := rfl
    rw [e]
    exact k _ H3 B3 r3 _ (S3.pop.push (.str _)) q3.2
  · rename_i xs e3
    have v3 := S3.view List.mem_cons_self e3
    cases v3 with
    | tup e1 e2 =>
      refine Or.inr (Or.inr ⟨_, _, rfl, same_t S3.bh e1, fun w => ?_, fun _ p hp => ?_⟩)
      · have cr := cut_rep e2 a b
        unfold cutV at cr
        rw [w.1, w.2, List.drop_zero, Nat.sub_zero, List.take_length] at cr
        exact k _ H3 B3 r3 _ (S3.pop.push (.tup e1 cr)) q3
      · have hb : B3 p = none := by
          cases q : B3 p with
          | none => rfl
          | some u => rw [S3.bh p u q] at hp; cases hp
        exact k _ _ _ _ _ ((S3.pop.alloc (o := .tup _) hp).push (.tup (SqT.of upd_same) ((cut_rep e2 a b).mono (sm_new hb)))) q3
  · exact q3.elim
theorem j_rev {e : Expr} {de : DE} {k : Nat} {p1 p2 p3 pos : Pos} (he : JE X g c W e de) : JE X g c W (.Subscript e (.Slice none none (some (.UnaryOp .USub (.Constant (.int 1) k p1) p2)) p3) pos) (dRevSl de) := by
  obtain ⟨te, pe, se⟩ := he.ex
  refine ⟨_, pe_revL pe, fun s H r B z Y Q Qv lw S h k => ?_⟩
  refine se s H r B z Y _ _ lw S h fun v H1 B1 r1 t1 S1 q1 => ?_
  split at q1
  · rename_i xs e1
    obtain ⟨p, vs, rfl, h1, h2⟩ := S1.view List.mem_cons_self e1
    exact ⟨p, vs, rfl, SqL.of h1, fun q hq => k _ _ B1 _ _ (S1.pop.own hq h2.reverse) q1⟩
  · exact q1.elim
end
end J

/-! JL4: tests, arguments, displays, calls; a def's promise over plain data. -/
namespace J
open PySem L2
section
variable {X : Cx} {g : G} {c : Cl} {W : WX} {L : List Nat} {K : PySem.W.Frag}
/-! ### tests -/
theorem ts_B {te : TE} {de : DE} (h : ES K g c W te de) : TSm K g c W (tB te) (dB de) := fun s H r B z Y Q Qv lw S q k => by
  refine h s H r B z Y _ _ lw S q fun v H1 B1 r1 t1 S1 q1 => ?_
  split at q1
  · rename_i b e1
    have v1 := S1.view List.mem_cons_self e1
    cases v1
    exact ⟨b, rfl, k b H1 B1 r1 S1.pop q1⟩
  · exact q1.elim
theorem jt_cmp {a b : Expr} {da db : DE} {op : CmpOp} {o : R2} {od : R2D} {pos : Pos} (ho : OpR X (compareOp op) o ∧ OpS X.K g o od) (ha : JE X g c W a da) (hb : JE X g c W b db) (hm : behindInMarks op b = false := by first | exact nobehind _ (by decide) (by decide) | rfl) :
    JT X g c W (.Compare a [op] [b] pos) (dB (dOp od da db)) := by
  obtain ⟨ta, pa, sa⟩ := ha.ex
  obtain ⟨tb, pb, sb⟩ := hb.ex
  exact ⟨_, pt_cmpR ho.1 pa pb hm, ts_B (es_op sa sb ho.2)⟩
theorem jt_val {e : Expr} {de : DE} (h : JE X g c W e de) (he : ∀ whole, isTrue e X.env whole = (do let v ← whole; standAt e.pos; holding [v] (truthy v)) := by intro _; rfl) : JT X g c W e (dB de) := by
  obtain ⟨te, pe, se⟩ := h.ex
  exact ⟨_, pt_val pe he, ts_B se⟩
theorem jt_isN {a : Expr} {da : DE} {j : Nat} {p pos : Pos} (ha : JE X g c W a da) : JT X g c W (.Compare a [.Is] [.Constant .none j p] pos) (dB (dU (uIsN false) da)) := by
  obtain ⟨ta, pa, sa⟩ := ha.ex
  refine ⟨_, pt_cmp (pc_isN pa) rfl, ts_B fun s H r B z Y Q Qv lw S h k => ?_⟩
  refine sa s H r B z Y _ _ lw S h fun v H1 B1 r1 t1 S1 q1 => ?_
  split at q1
  · rename_i x e1
    have v1 := S1.view List.mem_cons_self e1
    rw [isNon_of v1]
    exact k _ H1 B1 r1 _ (S1.pop.push (.bl _)) q1
  · exact q1.elim
theorem jt_notN {a : Expr} {da : DE} {j : Nat} {p pos : Pos} (ha : JE X g c W a da) : JT X g c W (.Compare a [.IsNot] [.Constant .none j p] pos) (dB (dU (uIsN true) da)) := by
  obtain ⟨ta, pa, sa⟩ := ha.ex
  refine ⟨_, pt_cmp (pc_notN pa) rfl, ts_B fun s H r B z Y Q Qv lw S h k => ?_⟩
  refine sa s H r B z Y _ _ lw S h fun v H1 B1 r1 t1 S1 q1 => ?_
  split at q1
  · rename_i x e1
    have v1 := S1.view List.mem_cons_self e1
    rw [isNon_of v1]
    exact k _ H1 B1 r1 _ (S1.pop.push (.bl _)) q1
  · exact q1.elim
theorem isEmpty_rep {B : Hp} {vs : List V} {ds : List D} (h : RepAll K B vs ds) : vs.isEmpty = ds.isEmpty := by
  cases h <;> rfl
theorem jt_tr {e : Expr} {de : DE} (h : JE X g c W e de) (he : ∀ whole, isTrue e X.env whole = (do let v ← whole; standAt e.pos; holding [v] (truthy v)) := by intro _; rfl) : JT X g c W e (dTr de) := by
  obtain ⟨te, pe, se⟩ := h.ex
  refine ⟨_, pt_truth pe he, fun s H r B z Y Q Qv lw S q k => ?_⟩
  refine se s H r B z Y _ _ lw S q fun v H1 B1 r1 t1 S1 q1 => ?_
  split at q1
  · rename_i d e1
    have v1 := S1.view List.mem_cons_self e1
    have kk := fun b (qb : Q b r1) => k b H1 B1 r1 S1.pop qb
    cases d with
    | non => cases v1; exact ⟨_, rfl, kk _ q1⟩
    | bl _ => cases v1; exact ⟨_, rfl, kk _ q1⟩
    | int _ => cases v1; exact ⟨_, rfl, kk _ q1⟩
    | str t =>
      cases v1
      refine ⟨_, ⟨by rw [← size_is]; simpa [codes, Str.length] using q1.1, ?_⟩, kk _ q1.2⟩
      show ((t.length != 0) : Bool) = (((codes t).length : Int) != 0)
      have : ((codes t).length : Int) = (t.length : Int) := by simp [codes, Str.length]
      rw [this]
      cases t <;> rfl
    | lst ds =>
      obtain ⟨a, vs, rfl, h1, h2⟩ := v1
      exact ⟨_, Or.inl ⟨vs, SqL.of h1, by rw [isEmpty_rep h2]⟩, kk _ q1⟩
    | tup ds =>
      cases v1 with
      | tup h1 h2 => exact ⟨_, Or.inr (Or.inl ⟨_, same_t S1.bh h1, by rw [isEmpty_rep h2]⟩), kk _ q1⟩
    | _ => exact q1.elim
  · exact q1.elim
theorem jt_not {a : Expr} {da : DT} {pos : Pos} (ha : JT X g c W a da) : JT X g c W (.UnaryOp .Not a pos) (dNot da) := by
  obtain ⟨ta, pa, sa⟩ := ha.ex
  refine ⟨_, pt_not pa, fun s H r B z Y Q Qv lw S h k => ?_⟩
  exact sa s H r B z Y _ _ lw S h fun b H1 B1 r1 S1 q1 => k (!b) H1 B1 r1 S1 q1
theorem ts_and {ta tb : TT} {da db : DT} (h1 : TSm K g c W ta da) (h2 : TSm K g c W tb db) : TSm K g c W (tAnd ta tb) (dAnd da db) := fun s H r B z Y Q Qv lw S h k => by
  refine h1 s H r B z Y _ _ lw S h fun b H1 B1 r1 S1 q1 => ?_
  cases b with
  | true =>
    show tb s H1 Qv
    exact h2 s H1 r1 B1 z Y Q Qv lw S1 q1 k
  | false =>
    show Qv false H1
    exact k false H1 B1 r1 S1 q1
theorem ts_or {ta tb : TT} {da db : DT} (h1 : TSm K g c W ta da) (h2 : TSm K g c W tb db) : TSm K g c W (tOr ta tb) (dOr da db) := fun s H r B z Y Q Qv lw S h k => by
  refine h1 s H r B z Y _ _ lw S h fun b H1 B1 r1 S1 q1 => ?_
  cases b with
  | true =>
    show Qv true H1
    exact k true H1 B1 r1 S1 q1
  | false =>
    show tb s H1 Qv
    exact h2 s H1 r1 B1 z Y Q Qv lw S1 q1 k
theorem jw_pt {e : Expr} {d : DT} (h : JW X g c W e d) : JT X g c W e d := by
  obtain ⟨t, p, s⟩ := h.ex
  exact ⟨t, p.pt, s⟩
theorem jw_and1 {a : Expr} {da : DT} {pos : Pos} (ha : JT X g c W a da) : JW X g c W (.BoolOp .And [a] pos) da := by
  obtain ⟨ta, pa, sa⟩ := ha.ex
  exact ⟨_, pw_and1 pa, sa⟩
theorem jw_or1 {a : Expr} {da : DT} {pos : Pos} (ha : JT X g c W a da) : JW X g c W (.BoolOp .Or [a] pos) da := by
  obtain ⟨ta, pa, sa⟩ := ha.ex
  exact ⟨_, pw_or1 pa, sa⟩
theorem jw_and {a b : Expr} {rest : List Expr} {da db : DT} {pos : Pos} (ha : JT X g c W a da) (hb : JW X g c W (.BoolOp .And (b :: rest) pos) db) : JW X g c W (.BoolOp .And (a :: b :: rest) pos) (dAnd da db) := by
  obtain ⟨ta, pa, sa⟩ := ha.ex
  obtain ⟨tb, pb, sb⟩ := hb.ex
  exact ⟨_, pw_and pa pb, ts_and sa sb⟩
theorem jw_or {a b : Expr} {rest : List Expr} {da db : DT} {pos : Pos} (ha : JT X g c W a da) (hb : JW X g c W (.BoolOp .Or (b :: rest) pos) db) : JW X g c W (.BoolOp .Or (a :: b :: rest) pos) (dOr da db) := by
  obtain ⟨ta, pa, sa⟩ := ha.ex
  obtain ⟨tb, pb, sb⟩ := hb.ex
  exact ⟨_, pw_or pa pb, ts_or sa sb⟩
/-! ### tests as values, a if t else b, chains -/
theorem j_one {a : Expr} {op} {da : DE} {pos : Pos} (ha : JE X g c W a da) : JE X g c W (.BoolOp op [a] pos) da := by
  obtain ⟨ta, pa, sa⟩ := ha.ex
  exact ⟨_, pe_one pa, sa⟩
theorem j_and {a b : Expr} {rest : List Expr} {da db : DE} {pos : Pos} (ha : JE X g c W a da) (hb : JE X g c W (.BoolOp .And (b :: rest) pos) db) : JE X g c W (.BoolOp .And (a :: b :: rest) pos) (dAndV da db) := by
  obtain ⟨ta, pa, sa⟩ := ha.ex
  obtain ⟨tb, pb, sb⟩ := hb.ex
  refine ⟨_, pe_and pa pb, fun s H r B z Y Q Qv lw S h k => ?_⟩
  refine ts_B sa s H r B z Y _ _ lw S h fun b H1 B1 r1 S1 q1 => ?_
  cases b with
  | true => exact sb s H1 r1 B1 z Y Q Qv lw S1 q1 k
  | false => exact k _ H1 B1 r1 _ (S1.push (.bl _)) q1
theorem j_or {a b : Expr} {rest : List Expr} {da db : DE} {pos : Pos} (ha : JE X g c W a da) (hb : JE X g c W (.BoolOp .Or (b :: rest) pos) db) : JE X g c W (.BoolOp .Or (a :: b :: rest) pos) (dOrV da db) := by
  obtain ⟨ta, pa, sa⟩ := ha.ex
  obtain ⟨tb, pb, sb⟩ := hb.ex
  refine ⟨_, pe_or pa pb, fun s H r B z Y Q Qv lw S h k => ?_⟩
  refine ts_B sa s H r B z Y _ _ lw S h fun b H1 B1 r1 S1 q1 => ?_
  cases b with
  | false => exact sb s H1 r1 B1 z Y Q Qv lw S1 q1 k
  | true => exact k _ H1 B1 r1 _ (S1.push (.bl _)) q1
theorem j_not {a : Expr} {da : DE} {pos : Pos} (ha : JE X g c W a da) : JE X g c W (.UnaryOp .Not a pos) (dNotV da) := by
  obtain ⟨ta, pa, sa⟩ := ha.ex
  refine ⟨_, pe_not pa, fun s H r B z Y Q Qv lw S h k => ?_⟩
  exact ts_B sa s H r B z Y _ _ lw S h fun b H1 B1 r1 S1 q1 => k _ H1 B1 r1 _ (S1.push (.bl _)) q1
theorem j_ifE {t a b : Expr} {dt : DT} {da db : DE} {pos : Pos} (ht : JT X g c W t dt) (ha : JE X g c W a da) (hb : JE X g c W b db) : JE X g c W (.IfExp t a b pos) (dIfE dt da db) := by
  obtain ⟨tt, pt, st⟩ := ht.ex
  obtain ⟨ta, pa, sa⟩ := ha.ex
  obtain ⟨tb, pb, sb⟩ := hb.ex
  refine ⟨_, pe_ifExp pt pa pb, fun s H r B z Y Q Qv lw S h k => ?_⟩
  refine st s H r B z Y _ _ lw S h fun b H1 B1 r1 S1 q1 => ?_
  cases b with
  | true => exact sa s H1 r1 B1 z Y Q Qv lw S1 q1 k
  | false => exact sb s H1 r1 B1 z Y Q Qv lw S1 q1 k
theorem SR.pop2 {g : G} {K : PySem.W.Frag} {B H : Hp} {s : St} {r : Env} {z : Stk} {a b : V × T} (S : SR K g B s r (a :: b :: z) H) : SR K g B s r (a :: z) H :=
  ⟨S.b0, S.bh, S.fr, S.h0, S.hm, S.len, S.ln, S.env, fun x hx => S.stk x (by
    rcases List.mem_cons.mp hx with e | hx
    · subst e; exact List.mem_cons_self
    · exact List.mem_cons_of_mem _ (List.mem_cons_of_mem _ hx)), fun i v hx => S.al i v (by
    rcases List.mem_cons.mp hx with e | hx
    · subst e; exact List.mem_cons_self
    · exact List.mem_cons_of_mem _ (List.mem_cons_of_mem _ hx)), S.d1, fun i t v x h1 h2 hx => S.d2 i t v x h1 h2 (by
    rcases List.mem_cons.mp hx with e | hx
    · subst e; exact List.mem_cons_self
    · exact List.mem_cons_of_mem _ (List.mem_cons_of_mem _ hx)), by
    obtain ⟨h1, h2⟩ := List.pairwise_cons.mp S.d3
    exact List.pairwise_cons.mpr ⟨fun y hy => h1 y (List.mem_cons_of_mem _ hy), (List.pairwise_cons.mp h2).2⟩, S.ea⟩
theorem es_chain {ta tb tc : TE} {da db dc : DE} {o o' : R2} {od od' : R2D} (h1 : ES K g c W ta da) (h2 : ES K g c W tb db) (h3 : ES K g c W tc dc) (ho : OpS K g o od) (ho' : OpS K g o' od') : ES K g c W (tChain o o' ta tb tc) (dChain od od' da db dc) := fun s H r B z Y Q Qv lw S h k => by
  refine h1 s H r B z Y _ _ lw S h fun v H1 B1 r1 t1 S1 q1 => ?_
  refine h2 s H1 r1 B1 _ Y _ _ lw.ext S1 q1 fun w H2 B2 r2 t2 S2 q2 => ?_
  split at q2
  · rename_i x y e1 e2
    refine ho B2 s r2 _ H2 v w x y _ _ S2 (S2.view (List.mem_cons_of_mem _ List.mem_cons_self) e1) (S2.view List.mem_cons_self e2) q2 fun u H' B' t S' q => ?_
    split at q
    · rename_i kb
      have v1 := S'.top
      cases v1
      refine ⟨kb, rfl, ?_⟩
      cases kb with
      | true =>
        have q : dc Y (fun tc r3 => match rdT r3 t2, rdT r3 tc with
          | some y', some z => od' y' z fun t' => Q t' r3
          | _, _ => False) r2 := q
        show tc s H' _
        refine h3 s H' r2 B' _ Y _ _ lw.ext.ext S'.pop q fun w3 H3 B3 r3 t3 S3 q3 => ?_
        split at q3
        · rename_i y' x3 e3 e4
          refine ho' B3 s r3 z H3 w w3 y' x3 _ _ S3.pop.pop.pop (S3.view (List.mem_cons_of_mem _ List.mem_cons_self) e3) (S3.view List.mem_cons_self e4) q3 fun u4 H4 B4 t4 S4 q4 => k u4 H4 B4 r3 t4 S4 q4
        · exact q3.elim
      | false =>
        show Qv (.bl false) H'
        exact k _ H' B' r2 _ (S'.pop.pop.pop.push (.bl _)) q
    · exact q.elim
  · exact q2.elim
theorem j_chain {a b e : Expr} {da db de : DE} {op op' : CmpOp} {o o' : R2} {od od' : R2D} {pos : Pos} (ho : OpR X (compareOp op) o ∧ OpS X.K g o od) (ho' : OpR X (compareOp op') o' ∧ OpS X.K g o' od') (ha : JE X g c W a da) (hb : JE X g c W b db) (he : JE X g c W e de)
    (hm : lastMarks [op, op'] [b, e] = false := by with_unfolding_all rfl) : JE X g c W (.Compare a [op, op'] [b, e] pos) (dChain od od' da db de) := by
  obtain ⟨ta, pa, sa⟩ := ha.ex
  obtain ⟨tb, pb, sb⟩ := hb.ex
  obtain ⟨te, pe, se⟩ := he.ex
  exact ⟨_, pe_chain ho.1 ho'.1 pa pb pe hm, es_chain sa sb se ho.2 ho'.2⟩
theorem jt_chain {a b e : Expr} {da db de : DE} {op op' : CmpOp} {o o' : R2} {od od' : R2D} {pos : Pos} (ho : OpR X (compareOp op) o ∧ OpS X.K g o od) (ho' : OpR X (compareOp op') o' ∧ OpS X.K g o' od') (ha : JE X g c W a da) (hb : JE X g c W b db) (he : JE X g c W e de)
    (hm : lastMarks [op, op'] [b, e] = false := by with_unfolding_all rfl) : JT X g c W (.Compare a [op, op'] [b, e] pos) (dB (dChain od od' da db de)) := by
  obtain ⟨ta, pa, sa⟩ := ha.ex
  obtain ⟨tb, pb, sb⟩ := hb.ex
  obtain ⟨te, pe, se⟩ := he.ex
  exact ⟨_, pt_chain ho.1 ho'.1 pa pb pe hm, ts_B (es_chain sa sb se ho.2 ho'.2)⟩

/-! ### arguments, displays -/
theorem ja_nil : JA X g c W [] dNil := ⟨_, pa_nil, fun s H r B z Y Q Qv _ S h k => k [] H B r [] rfl S h⟩
theorem ja_cons {e : Expr} {es : List Expr} {de : DE} {da : DA} (he : JE X g c W e de) (ha : JA X g c W es da) (hs : starEach (e :: es) X.env = (false, eval e X.env) :: starEach es X.env := by rfl) : JA X g c W (e :: es) (dCons de da) := by
  obtain ⟨te, pe, se⟩ := he.ex
  obtain ⟨ta, pa, sa⟩ := ha.ex
  refine ⟨_, pa_cons pe pa hs, fun s H r B z Y Q Qv lw S h k => ?_⟩
  refine se s H r B z Y _ _ lw S h fun v H1 B1 r1 t1 S1 q1 => ?_
  refine sa s H1 r1 B1 _ Y _ _ lw.ext S1 q1 fun vs H2 B2 r2 ts hl S2 q2 => ?_
  exact k (v :: vs) H2 B2 r2 (t1 :: ts) (by simp [hl]) S2 q2
theorem j_lst {es : List Expr} {da : DA} {pos : Pos} (ha : JA X g c W es da) : JE X g c W (.List es pos) (dLst da) := by
  obtain ⟨ta, pa, sa⟩ := ha.ex
  refine ⟨_, pe_lst pa, fun s H r B z Y Q Qv lw S h k => ?_⟩
  refine sa s H r B z Y _ _ lw S h fun vs H1 B1 r1 ts hl S1 q1 => ?_
  split at q1
  · rename_i ds e1
    have rr := S1.reps hl e1
    refine ⟨by rw [rr.len, ← size_is]; exact q1.1, fun p hp => ?_⟩
    exact k _ _ B1 r1 _ (S1.unstk.own hp rr) q1.2
  · exact q1.elim
theorem j_tup {es : List Expr} {x1} {da : DA} {pos : Pos} (ha : JA X g c W es da) : JE X g c W (.Tuple es x1 pos) (dTup da) := by
  obtain ⟨ta, pa, sa⟩ := ha.ex
  refine ⟨_, pe_tup pa, fun s H r B z Y Q Qv lw S h k => ?_⟩
  refine sa s H r B z Y _ _ lw S h fun vs H1 B1 r1 ts hl S1 q1 => ?_
  split at q1
  · rename_i ds e1
    have rr := S1.reps hl e1
    refine ⟨by rw [rr.len, ← size_is]; exact q1.1, fun p hp => ?_⟩
    have S2 := S1.unstk.alloc (o := .tup vs) hp
    have bp : B1 p = none := by
      cases q : B1 p with
      | none => rfl
      | some u => rw [S1.bh p u q] at hp; cases hp
    exact k _ _ _ r1 _ (S2.push (.tup (SqT.of upd_same) (rr.mono (sm_new bp)))) q1.2
  · exact q1.elim

/-! ### what a def promises -/
inductive ArgsR (K : PySem.W.Frag) (B H : Hp) : List Bool → List V → List D → Prop
  | nil : ArgsR K B H [] [] []
  | cap {v : V} {d : D} {ms : List Bool} {vs : List V} {ds : List D} : Rep K B v d → ArgsR K B H ms vs ds → ArgsR K B H (true :: ms) (v :: vs) (d :: ds)
  | bor {v : V} {d : D} {ms : List Bool} {vs : List V} {ds : List D} : View K B H v d → ArgsR K B H ms vs ds → ArgsR K B H (false :: ms) (v :: vs) (d :: ds)
def ResR (K : PySem.W.Frag) (B B' H' H : Hp) (v : V) : T → Prop
  | .sh d => Rep K B' v d
  | .ol ds => ∃ (p : Addr) (vs : List V), v = .ref p ∧ H' p = some (.lst vs) ∧ RepAll K B' vs ds ∧ B' p = none ∧ H p = none
  | .own f => OwF K B' H' f v ∧ ∀ a, fpF H' f v a → B' a = none ∧ H a = none
  | _ => False
structure Out (B H B' H' : Hp) : Prop where
  hh : Same H H'
  hb : Same B B'
  hs : Same B' H'
  hn : ∀ a, B' a ≠ none → B a ≠ none ∨ H a = none
def SpJ (K : PySem.W.Frag) (c : Cl) (ms : List Bool) (S : Spec) : Sp := fun vs H Q E => ∃ (B : Hp) (ds : List D), Same B H ∧ ArgsR K B H ms vs ds ∧
  ∃ (E0 : Err → Prop) (Q0 : T → Prop), S ds E0 Q0 ∧ (∀ e, E0 e → ∀ cls d H' B', Out B H B' H' → ErrR c B' e cls d → E cls d H') ∧ ∀ t, Q0 t → ∀ v H' B', Out B H B' H' → ResR K B B' H' H v t → Q v H'
theorem ArgsR.len {K : PySem.W.Frag} {B H : Hp} : ∀ {ms : List Bool} {vs : List V} {ds : List D}, ArgsR K B H ms vs ds → vs.length = ms.length ∧ ds.length = ms.length
  | _, _, _, .nil => ⟨rfl, rfl⟩
  | _, _, _, .cap _ r => ⟨congrArg (· + 1) r.len.1, congrArg (· + 1) r.len.2⟩
  | _, _, _, .bor _ r => ⟨congrArg (· + 1) r.len.1, congrArg (· + 1) r.len.2⟩
section
variable {B B' H H' : Hp} {s : St} {r : Env} {z : Stk}
theorem args_of (S : SR K g B s r z H) : ∀ {ms : List Bool} {vs : List V} {ts : List T} {ds : List D}, vs.length = ts.length → (∀ (i : Nat) v t, vs[i]? = some v → ts[i]? = some t → (v, t) ∈ z) → capOk ms ts = true → reads r ts = some ds → ArgsR K B H ms vs ds
  | [], [], [], ds, _, _, _, e => by
    cases e
    exact .nil
  | m0 :: _, [], [], _, _, _, c, _ => by
    cases m0 <;> cases c
  | _, [], _ :: _, _, h, _, _, _ => by simp at h
  | _, _ :: _, [], _, h, _, _, _ => by simp at h
  | [], _ :: _, t :: _, _, _, _, c, _ => by cases t <;> cases c
  | m :: ms, v :: vs, t :: ts, ds, hl, hm, cp, e => by
    simp only [reads] at e
    split at e
    · rename_i d ds' e1 e2
      cases e
      have tl : capOk ms ts = true → ArgsR K B H ms vs ds' := fun q => args_of S (by simpa using hl) (fun i w u h1 h2 => hm (i + 1) w u (by simpa using h1) (by simpa using h2)) q e2
      cases m with
      | true =>
        cases t with
        | sh d' =>
          have e3 : d' = d := Option.some.inj e1
          subst e3
          exact .cap (S.stk _ (hm 0 v _ rfl rfl)) (tl cp)
        | bor _ => cases cp
        | al _ => cases cp
        | ol _ => cases cp
        | exc _ _ => cases cp
        | own _ => cases cp
        | ptr _ _ _ => cases cp
      | false => exact .bor (S.view (hm 0 v t rfl rfl) e1) (tl cp)
    · cases e
/-- what a call hands back comes onto the stack -/
theorem SR.got (S : SR K g B s r z H) (o : Out B H B' H') {v : V} {t : T} (h : ResR K B B' H' H v t) : SR K g B' s r ((v, t) :: z) H' := by
  have S1 := S.grow o.hb o.hh o.hs o.hn
  have nof : ∀ a, H a = none → (∀ i u w, look r i = some u → s[i]? = some (some w) → ¬ fpT H' w u a) ∧ ∀ x ∈ z, ¬ fpT H' x.1 x.2 a := fun a ha => by
    obtain ⟨f1, f2⟩ := S.free ha
    refine ⟨fun i u w l e q => ?_, fun x hx q => ?_⟩
    · obtain ⟨v', e1, g1⟩ := S.env i u l
      rw [e] at e1
      cases e1
      exact f1 i u w l e (((g1.growI o.hb o.hh o.hn).2 a).mp q)
    · exact f2 x hx ((((S.stk x hx).growI o.hb o.hh o.hn).2 a).mp q)
  cases t with
  | sh d => exact S1.push h
  | ol ds =>
    obtain ⟨p, vs, rfl, h1, h2, h3, h4⟩ := h
    exact S1.pushF ⟨p, vs, rfl, h1, h2, h3, Or.inl (S.h0none h4)⟩ (fun a q => by
      cases (show V.ref p = V.ref a from q)
      exact nof p h4) fun i e => by cases e
  | own f =>
    exact S1.pushF ⟨h.1, fun a q => ⟨(h.2 a q).1, Or.inl (S.h0none (h.2 a q).2)⟩⟩ (fun a q => nof a (h.2 a q).2) fun i e => by cases e
  | bor _ => exact h.elim
  | al _ => exact h.elim
  | exc _ _ => exact h.elim
  | ptr _ _ _ => exact h.elim
end
/-- f(e, ..), a def of the text -/
theorem j_call {ms : List Bool} {Sf : Spec} {k : Nat} {f : Addr} {fd : FuncData} {ps : List Str} {x : Str} {p pos : Pos} {e : Expr} {es : List Expr} {da : DA} (F : FnOk X.prog X.w X.K X.mg X.base (L2.CX X.prog X.w) k f fd ps (SpJ X.K c ms Sf)) (hr : Room k X.A) (hg : Gl X x) (hm : X.mg x = some (.ref f))
    (hk : PySem.W.keepIn X.K (.ref f) = true) (hb : Binds X.K fd ps []) (tk : Takes X W) (ha : JA X g c W (e :: es) da) (hdb : (x == ("__debug__" : Str)) = false := by decide)
    (he : starEach (e :: es) X.env = (false, eval e X.env) :: starEach es X.env := by rfl) (hpl : (backTo pos (starEach es X.env)).any (·.1) = false := by rfl) : JE X g c W (.Call (.Name x p) (e :: es) [] pos) (dCall ms Sf da) := by
  obtain ⟨ta, pa, sa⟩ := ha.ex
  refine ⟨_, pe_callS F hr hg hm hk hb (fun σ => passAt tk σ) pa hdb he hpl, fun s H r B z Y Q Qv lw S h kq => ?_⟩
  refine sa s H r B z Y _ _ lw S h fun vs H1 B1 r1 ts hl S1 q1 => ?_
  obtain ⟨cp, q1⟩ := q1
  split at q1
  · rename_i ds e1
    have S2 := S1.unstk
    exact ⟨B1, ds, S1.bh, args_of S1 hl (fun _ _ _ h1 h2 => stk_at h1 h2) cp e1, _, _, q1, fun e ye cls d H2 B2 o er => lw cls d H2 s r1 B2 z e (List.suffix_refl _) (S2.grow o.hb o.hh o.hs o.hn) er ye, fun t qt v H2 B2 o rr => kq v H2 B2 r1 t (S2.got o rr) qt⟩
  · exact q1.elim
end
end J

/-! JL5: built-ins, a list's methods, statements, loops, comprehensions. -/
namespace J
open PySem L2
section
variable {X : Cx} {g : G} {c : Cl} {W : WX} {L : List Nat} {K : PySem.W.Frag}
/-! ### built-ins -/
def CbS (K : PySem.W.Frag) (g : G) (o : List V → Hp → VK → Prop) (d : RCD) : Prop := ∀ (B : Hp) (s : St) (r : Env) (z : Stk) (H : Hp) (vs : List V) (ds : List D) (Q : T → Prop) (Qv : VK), SR K g B s r z H → Views K B H vs ds → d ds Q →
  (∀ u H' B' t, SR K g B' s r ((u, t) :: z) H' → Q t → Qv u H') → o vs H Qv
theorem es_cb {ta : TA} {da : DA} {o : List V → Hp → VK → Prop} {d : RCD} (h1 : AS K g c W ta da) (ho : CbS K g o d) : ES K g c W (tCB o ta) (dB1 d da) := fun s H r B z Y Q Qv lw S h k => by
  refine h1 s H r B z Y _ _ lw S h fun vs H1 B1 r1 ts hl S1 q1 => ?_
  split at q1
  · rename_i ds e1
    exact ho B1 s r1 z H1 vs ds _ _ S1.unstk (S1.views hl e1) q1 fun u H' B' t S' q => k u H' B' r1 t S' q
  · exact q1.elim
theorem j_cb {id : String} {d : RCD} {o : List V → Hp → VK → Prop} {x : Str} {p pos : Pos} {e : Expr} {es : List Expr} {da : DA} (ho : CallR X (.builtin id) o ∧ CbS X.K g o d) (hg : Gl X x) (hm : X.mg x = none) (hv : bootBuiltins x = some (.builtin id)) (ha : JA X g c W (e :: es) da) (hn : x ≠ "__name__" := by decide) (hdb : (x == ("__debug__" : Str)) = false := by decide)
    (he : starEach (e :: es) X.env = (false, eval e X.env) :: starEach es X.env := by rfl) (hpl : (backTo pos (starEach es X.env)).any (·.1) = false := by rfl) : JE X g c W (.Call (.Name x p) (e :: es) [] pos) (dB1 d da) := by
  obtain ⟨ta, pa, sa⟩ := ha.ex
  exact ⟨_, pe_callB ho.1 hg hm hv pa hn hdb he hpl, es_cb sa ho.2⟩
theorem j_ct {id : String} {d : RCD} {o : List V → Hp → VK → Prop} {x : Str} {p pos : Pos} {e : Expr} {es : List Expr} {da : DA} (ho : CallR X (.type id) o ∧ CbS X.K g o d) (hg : Gl X x) (hm : X.mg x = none) (hv : bootBuiltins x = some (.type id)) (ha : JA X g c W (e :: es) da) (hn : x ≠ "__name__" := by decide) (hdb : (x == ("__debug__" : Str)) = false := by decide)
    (he : starEach (e :: es) X.env = (false, eval e X.env) :: starEach es X.env := by rfl) (hpl : (backTo pos (starEach es X.env)).any (·.1) = false := by rfl) : JE X g c W (.Call (.Name x p) (e :: es) [] pos) (dB1 d da) := by
  obtain ⟨ta, pa, sa⟩ := ha.ex
  exact ⟨_, pe_callTy ho.1 hg hm hv pa hn hdb he hpl, es_cb sa ho.2⟩
abbrev rLenA (K : PySem.W.Frag) : List V → Hp → VK → Prop := fun xs H Q => (∃ p ys, xs = [.ref p] ∧ (SqL K H p ys ∨ SqT K H p ys) ∧ Q (.int ys.length) H) ∨ (∃ z : Str, xs = [.str z] ∧ z.length ≤ sizeLine ∧ Q (.int z.length) H)
theorem jc_len : CallR X (.builtin "len") (rLenA X.K) ∧ CbS X.K g (rLenA X.K) cLen := by
  refine ⟨CallR.or call_len_seq call_len_str, fun B s r z H vs ds Q Qv S h q k => ?_⟩
  unfold cLen at q
  split at q
  · rename_i xs
    cases h with
    | cons h1 h2 =>
      cases h2
      obtain ⟨a, ws, rfl, e1, e2⟩ := h1
      refine Or.inl ⟨a, ws, rfl, Or.inl (SqL.of e1), ?_⟩
      rw [e2.len]
      exact k _ H B _ (S.push (.int _)) q
  · rename_i xs
    cases h with
    | cons h1 h2 =>
      cases h2
      cases h1 with
      | tup e1 e2 =>
        refine Or.inl ⟨_, _, rfl, Or.inr (same_t S.bh e1), ?_⟩
        rw [e2.len]
        exact k _ H B _ (S.push (.int _)) q
  · rename_i xs
    cases h with
    | cons h1 h2 =>
      cases h2
      cases h1 with
      | scr e1 =>
        refine Or.inl ⟨_, _, rfl, Or.inl (same_l S.bh e1), ?_⟩
        rw [List.length_map]
        exact k _ H B _ (S.push (.int _)) q
  · rename_i t
    cases h with
    | cons h1 h2 =>
      cases h2
      cases h1
      refine Or.inr ⟨codes t, rfl, by rw [← size_is]; simpa [codes, Str.length] using q.1, ?_⟩
      have : (codes t).length = t.length := by simp [codes, Str.length]
      rw [this]
      exact k _ H B _ (S.push (.int _)) q.2
  · exact q.elim
abbrev rInt1 : List V → Hp → VK → Prop := fun xs H Q => (∃ i, xs = [.int i] ∧ Q (.int i) H) ∨ ∃ k, xs = [.bl k] ∧ Q (.int (if k then 1 else 0)) H
theorem jc_int : CallR X (.type "int") rInt1 ∧ CbS X.K g rInt1 cInt := by
  refine ⟨call_int1, fun B s r z H vs ds Q Qv S h q k => ?_⟩
  unfold cInt at q
  split at q
  · cases h with
    | cons h1 h2 =>
      cases h2
      cases h1
      exact Or.inl ⟨_, rfl, k _ H B _ (S.push (.int _)) q⟩
  · cases h with
    | cons h1 h2 =>
      cases h2
      cases h1
      exact Or.inr ⟨_, rfl, k _ H B _ (S.push (.int _)) q⟩
  · exact q.elim
abbrev rListA (K : PySem.W.Frag) : List V → Hp → VK → Prop := fun xs H Q => ∃ p ys, xs = [.ref p] ∧ (SqL K H p ys ∨ SqT K H p ys) ∧ ∀ l, H l = none → Q (.ref l) (upd H l (.lst ys))
theorem jc_list : CallR X (.type "list") (rListA X.K) ∧ CbS X.K g (rListA X.K) cList := by
  refine ⟨call_list_of, fun B s r z H vs ds Q Qv S h q k => ?_⟩
  unfold cList at q
  split at q
  · cases h with
    | cons h1 h2 =>
      cases h2
      obtain ⟨a, ws, rfl, e1, e2⟩ := h1
      exact ⟨a, ws, rfl, Or.inl (SqL.of e1), fun l hl => k _ _ B _ (S.own hl e2) q⟩
  · cases h with
    | cons h1 h2 =>
      cases h2
      cases h1 with
      | tup e1 e2 => exact ⟨_, _, rfl, Or.inr (same_t S.bh e1), fun l hl => k _ _ B _ (S.own hl e2) q⟩
  · exact q.elim
abbrev rTupA (K : PySem.W.Frag) : List V → Hp → VK → Prop := fun xs H Q => ∃ p ys, xs = [.ref p] ∧ ((SqL K H p ys ∧ ∀ l, H l = none → Q (.ref l) (upd H l (.tup ys))) ∨ (SqT K H p ys ∧ Q (.ref p) H))
theorem none_b {B H : Hp} {p : Addr} (hb : Same B H) (hp : H p = none) : B p = none := by
  cases q : B p with
  | none => rfl
  | some u => rw [hb p u q] at hp; cases hp
theorem jc_tup : CallR X (.type "tuple") (rTupA X.K) ∧ CbS X.K g (rTupA X.K) cTup := by
  refine ⟨call_tuple_of, fun B s r z H vs ds Q Qv S h q k => ?_⟩
  unfold cTup at q
  split at q
  · cases h with
    | cons h1 h2 =>
      cases h2
      obtain ⟨a, ws, rfl, e1, e2⟩ := h1
      refine ⟨a, ws, rfl, Or.inl ⟨SqL.of e1, fun l hl => ?_⟩⟩
      exact k _ _ _ _ ((S.alloc (o := .tup ws) hl).push (.tup (SqT.of upd_same) (e2.mono (sm_new (none_b S.bh hl))))) q
  · cases h with
    | cons h1 h2 =>
      cases h2
      cases h1 with
      | tup e1 e2 => exact ⟨_, _, rfl, Or.inr ⟨same_t S.bh e1, k _ H B _ (S.push (.tup e1 e2)) q⟩⟩
  · exact q.elim
theorem leI_total (a b : Int) : (leI a b || leI b a) = true := by
  unfold leI
  rcases Int.le_total a b with h | h <;> simp [h]
theorem leI_trans (a b c : Int) (h1 : leI a b = true) (h2 : leI b c = true) : leI a c = true := by
  unfold leI at h1 h2 ⊢
  simp only [decide_eq_true_eq] at h1 h2 ⊢
  omega
theorem sortI_perm (xs : List Int) : (sortI xs).Perm xs := List.mergeSort_perm xs leI
theorem sortI_pw (xs : List Int) : (sortI xs).Pairwise (· ≤ ·) := by
  have h := List.pairwise_mergeSort (le := leI) leI_trans leI_total xs
  exact h.imp fun h => by simpa [leI] using h
theorem sort_uniq {xs ys : List Int} (hp : ys.Perm xs) (hs : ys.Pairwise (· ≤ ·)) : ys = sortI xs :=
  List.Perm.eq_of_pairwise (fun x y _ _ h1 h2 => Int.le_antisymm h1 h2) hs (sortI_pw xs) (hp.trans (sortI_perm xs).symm)
theorem intsOf_li : ∀ ns : List Int, intsOf (li ns) = some ns
  | [] => rfl
  | n :: ns => by
    show (intsOf (li ns)).map (n :: ·) = some (n :: ns)
    rw [intsOf_li ns]
    rfl
theorem jc_sort : CallR X (.builtin "sorted") (rSortedI X.K) ∧ CbS X.K g (rSortedI X.K) cSort := by
  refine ⟨cr_sortedI, fun B s r z H vs ds Q Qv S h q k => ?_⟩
  unfold cSort at q
  split at q
  · rename_i xs
    split at q
    · rename_i ns e
      cases h with
      | cons h1 h2 =>
        cases h2
        obtain ⟨a, ws, rfl, e1, e2⟩ := h1
        have e3 := e2.intsOf e
        subst e3
        refine ⟨a, ns, rfl, SqL.of e1, fun ns' p hp hs hn => ?_⟩
        rw [sort_uniq hp hs]
        exact k _ _ B _ (S.own hn (RepAll.ints _)) q
    · exact q.elim
  · exact q.elim
theorem jc_sum (hc : X.calm = true) : CallR X (.builtin "sum") (rSum X.K) ∧ CbS X.K g (rSum X.K) cSum := by
  refine ⟨cr_sum hc, fun B s r z H vs ds Q Qv S h q k => ?_⟩
  unfold cSum at q
  split at q
  · split at q
    · rename_i ns e
      cases h with
      | cons h1 h2 =>
        cases h2
        obtain ⟨a, ws, rfl, e1, e2⟩ := h1
        have e3 := e2.intsOf e
        subst e3
        exact ⟨a, ns, rfl, SqL.of e1, k _ H B _ (S.push (.int _)) q⟩
    · exact q.elim
  · exact q.elim
abbrev rMax2 : List V → Hp → VK → Prop := fun xs H Q => ∃ i j, xs = [.int i, .int j] ∧ Q (.int (if j > i then j else i)) H
abbrev rMin2 : List V → Hp → VK → Prop := fun xs H Q => ∃ i j, xs = [.int i, .int j] ∧ Q (.int (if j < i then j else i)) H
theorem jc_max2 (hc : X.calm = true) : CallR X (.builtin "max") rMax2 ∧ CbS X.K g rMax2 cMax2 := by
  refine ⟨call_max2 hc, fun B s r z H vs ds Q Qv S h q k => ?_⟩
  unfold cMax2 at q
  split at q
  · cases h with
    | cons h1 h2 =>
      cases h2 with
      | cons h2 h3 =>
        cases h3
        cases h1
        cases h2
        exact ⟨_, _, rfl, k _ H B _ (S.push (.int _)) q⟩
  · exact q.elim
theorem jc_min2 (hc : X.calm = true) : CallR X (.builtin "min") rMin2 ∧ CbS X.K g rMin2 cMin2 := by
  refine ⟨call_min2 hc, fun B s r z H vs ds Q Qv S h q k => ?_⟩
  unfold cMin2 at q
  split at q
  · cases h with
    | cons h1 h2 =>
      cases h2 with
      | cons h2 h3 =>
        cases h3
        cases h1
        cases h2
        exact ⟨_, _, rfl, k _ H B _ (S.push (.int _)) q⟩
  · exact q.elim
/-- list(range(n)), list(range(m, n)) -/
theorem rgV_up (m n : Int) : rgV m n = (upI m (n - m).toNat).map V.int := by
  unfold rgV upI
  rw [List.map_map]
  rfl
theorem j_rg1 {a : Expr} {da : DE} {p p2 pos pos2 : Pos} (hc : X.calm = true) (hgl : Gl X "list") (hml : X.mg "list" = none) (hg : Gl X "range") (hm : X.mg "range" = none) (ha : JE X g c W a da)
    (na : starEach [a] X.env = (false, eval a X.env) :: starEach [] X.env := by rfl) (nb : starEach [.Call (.Name "range" p2) [a] [] pos2] X.env = (false, eval (.Call (.Name "range" p2) [a] [] pos2) X.env) :: starEach [] X.env := by rfl) :
    JE X g c W (.Call (.Name "list" p) [.Call (.Name "range" p2) [a] [] pos2] [] pos) (dRangeL (dCons da dNil)) := by
  obtain ⟨ta, pa, sa⟩ := ha.ex
  refine ⟨_, pe_listRg hc hgl hml (prg_1 hg hm pa na) nb, fun s H r B z Y Q Qv lw S h k => ?_⟩
  refine sa s H r B z Y _ _ lw S h fun v H1 B1 r1 t1 S1 q1 => ?_
  simp only [dNil, reads] at q1
  split at q1
  · rename_i n e
    split at e
    · rename_i d ds e1 e2
      cases e2
      cases e
      have v1 := S1.view List.mem_cons_self e1
      cases v1
      refine ⟨n, rfl, ⟨by omega, by omega, q1.1.1, by omega, by omega⟩, fun q hq => ?_⟩
      rw [rgV_up, Int.sub_zero]
      exact k _ _ B1 r1 _ (S1.pop.own hq (RepAll.ints _)) q1.2
    · cases e
  · rename_i e
    split at e
    · rename_i e1 e2
      cases e2
      cases e
    · cases e
  · exact q1.elim
theorem j_rg2 {a b : Expr} {da db : DE} {p p2 pos pos2 : Pos} (hc : X.calm = true) (hgl : Gl X "list") (hml : X.mg "list" = none) (hg : Gl X "range") (hm : X.mg "range" = none) (ha : JE X g c W a da) (hb : JE X g c W b db)
    (na : starEach [a, b] X.env = (false, eval a X.env) :: starEach [b] X.env := by rfl) (nb : starEach [b] X.env = (false, eval b X.env) :: starEach [] X.env := by rfl) (np : (backTo pos2 (starEach [b] X.env)).any (·.1) = false := by rfl) (nc : starEach [.Call (.Name "range" p2) [a, b] [] pos2] X.env = (false, eval (.Call (.Name "range" p2) [a, b] [] pos2) X.env) :: starEach [] X.env := by rfl) :
    JE X g c W (.Call (.Name "list" p) [.Call (.Name "range" p2) [a, b] [] pos2] [] pos) (dRangeL (dCons da (dCons db dNil))) := by
  obtain ⟨ta, pa, sa⟩ := ha.ex
  obtain ⟨tb, pb, sb⟩ := hb.ex
  refine ⟨_, pe_listRg hc hgl hml (prg_2 hg hm pa pb na nb np) nc, fun s H r B z Y Q Qv lw S h k => ?_⟩
  refine sa s H r B z Y _ _ lw S h fun v H1 B1 r1 t1 S1 q1 => ?_
  refine sb s H1 r1 B1 _ Y _ _ lw.ext S1 q1 fun w H2 B2 r2 t2 S2 q2 => ?_
  simp only [dNil, reads] at q2
  split at q2
  · rename_i e
    split at e
    · rename_i e1 e2
      split at e2
      · cases e2; cases e
      · cases e2
    · cases e
  · rename_i m n e
    split at e
    · rename_i d ds e1 e2
      split at e2
      · rename_i d' ds' e3 e4
        cases e4
        cases e2
        cases e
        have v1 := S2.view (List.mem_cons_of_mem _ List.mem_cons_self) e1
        have v2 := S2.view List.mem_cons_self e3
        cases v1
        cases v2
        refine ⟨m, n, rfl, rfl, ⟨q2.1.1.1, q2.1.1.2, q2.1.2.1.1, q2.1.2.1.2, by omega⟩, fun q hq => ?_⟩
        rw [rgV_up]
        exact k _ _ B2 r2 _ (S2.pop.pop.own hq (RepAll.ints _)) q2.2
      · cases e2
    · cases e
  · exact q2.elim
end
end J

/-! JL6: a list's own methods, statements, loops, comprehensions; the rule for a def. -/
namespace J
open PySem L2
section
variable {X : Cx} {g : G} {c : Cl} {W : WX} {L : List Nat} {K : PySem.W.Frag}
theorem ty_list {H : Hp} {p : Addr} {vs : List V} (h : H p = some (.lst vs)) : tyV K "list" (.ref p) H := .inl ⟨rfl, _, SqL.of h⟩
/-- xs.append(e), xs the slot i -/
theorem j_app (i : Nat)  {x : Str} {px apos pos : Pos} {e : Expr} {de : DE} (he : JE X g c W e de) (hN : X.N[i]? = some x := by rfl) (hv : Vis X.env.scope x := by first | exact Or.inl rfl | exact Or.inr (Or.inl rfl) | exact Or.inr (Or.inr rfl))
    (hd : (x == ("__debug__" : Str)) = false := by decide) (hcd : (x == ("__classdict__" : Str)) = false := by decide)
    (hs1 : starEach [e] X.env = (false, eval e X.env) :: starEach [] X.env := by rfl)
    (hbase : attributeBase (.Name x px) "append" X.env (eval (.Name x px) X.env) = eval (.Name x px) X.env := by rfl)
    (hfew : ((backTo pos (starEach [e] X.env)).all (fun x => !x.1) && (backToKw pos (keywordEach [] X.env)).all (fun x => x.1.isSome) && decide (([e] : List Expr).length + ([] : List Keyword).length + (if ([] : List Keyword).isEmpty then 0 else 1) < 30)) = true := by rfl)
    (hline : (apos.endLine == pos.line) = true := by rfl) (hplain : (backTo pos (starEach [] X.env)).any (·.1) = false := by rfl) :
    JE X g c W (.Call (.Attribute (.Name x px) "append" apos) [e] [] pos) (dApp i de) := by
  obtain ⟨te, pe, se⟩ := he.ex
  refine ⟨_, pe_bm PySem.F.plainAttrs_list PySem.F.slot_list_append PySem.F.type_list_append mt_append (pe_var hN hv hd hcd) (pa_cons pe pa_nil hs1) hbase hfew hline hs1 hplain, fun s H r B z Y Q Qv lw S h k => ?_⟩
  unfold dApp at h
  -- the slot's value ahead: the slot must hold a list throughout
  obtain ⟨h0, h⟩ := h
  cases l0 : look r i with
  | none => rw [l0] at h0; exact h0.elim
  | some t0 =>
    rw [l0] at h0
    cases t0 with
    | ol ds0 =>
      obtain ⟨v0, e1, e2⟩ := S.env i _ l0
      obtain ⟨p, vs, rfl, h1, h2, h3, h4⟩ := id e2
      refine ⟨_, e1, ty_list h1, ?_⟩
      refine se s H r B z Y _ _ lw S h fun v H1 B1 r1 t1 S1 q1 => ?_
      split at q1
      · rename_i d ds l1
        have rv : Rep X.K B1 v d := S1.top
        obtain ⟨p', vs', f1, f2, f3, S2⟩ := S1.pop.change l1 (RepAll.nil (K := X.K) (B := B1))
        rw [e1] at f1
        cases f1
        obtain ⟨p'', vs'', f1, f2', f3', S3⟩ := S1.pop.change l1 (f3.append (.cons rv .nil))
        rw [e1] at f1
        cases f1
        rw [f2] at f2'
        cases f2'
        refine ⟨p, vs', v, rfl, rfl, f2, by rw [f3.len, ← size_is]; exact q1.1, ?_⟩
        exact k _ _ B1 _ _ (S3.push .non) q1.2
      · exact q1.elim
    | _ => exact h0.elim
/-- xs.pop(), xs.reverse() -/
theorem j_pop (i : Nat) {x : Str} {px apos pos : Pos} (hN : X.N[i]? = some x := by rfl) (hv : Vis X.env.scope x := by first | exact Or.inl rfl | exact Or.inr (Or.inl rfl) | exact Or.inr (Or.inr rfl))
    (hd : (x == ("__debug__" : Str)) = false := by decide) (hcd : (x == ("__classdict__" : Str)) = false := by decide)
    (hbase : attributeBase (.Name x px) "pop" X.env (eval (.Name x px) X.env) = eval (.Name x px) X.env := by rfl) (hline : (apos.endLine == pos.line) = true := by rfl) :
    JE X g c W (.Call (.Attribute (.Name x px) "pop" apos) [] [] pos) (dPop i) := by
  refine ⟨_, pe_bm0 PySem.F.plainAttrs_list PySem.F.slot_list_pop PySem.F.type_list_pop mt_pop (pe_var hN hv hd hcd) hbase hline, fun s H r B z Y Q Qv lw S h k => ?_⟩
  unfold dPop at h
  split at h
  · rename_i ds l0
    split at h
    · rename_i d l1
      obtain ⟨p, vs, e1, e2, e3, _⟩ := S.change l0 (RepAll.nil (K := X.K) (B := B))
      obtain ⟨p', vs', e1', e2', e3', S2⟩ := S.change l0 e3.dropLast
      rw [e1] at e1'
      cases e1'
      rw [e2] at e2'
      cases e2'
      have l2 : ds[ds.length - 1]? = some d := by rw [← List.getLast?_eq_getElem?]; exact l1
      obtain ⟨v, q1, q2⟩ := e3.get l2
      refine ⟨_, e1, ty_list e2, p, vs, v, rfl, rfl, e2, by rw [e3.len]; exact q1, ?_⟩
      exact k _ _ B _ _ (S2.push q2) h
    · exact h.elim
  · exact h.elim
theorem j_reverse (i : Nat) {x : Str} {px apos pos : Pos} (hN : X.N[i]? = some x := by rfl) (hv : Vis X.env.scope x := by first | exact Or.inl rfl | exact Or.inr (Or.inl rfl) | exact Or.inr (Or.inr rfl))
    (hd : (x == ("__debug__" : Str)) = false := by decide) (hcd : (x == ("__classdict__" : Str)) = false := by decide)
    (hbase : attributeBase (.Name x px) "reverse" X.env (eval (.Name x px) X.env) = eval (.Name x px) X.env := by rfl) (hline : (apos.endLine == pos.line) = true := by rfl) :
    JE X g c W (.Call (.Attribute (.Name x px) "reverse" apos) [] [] pos) (dRev i) := by
  refine ⟨_, pe_bm0 PySem.F.plainAttrs_list PySem.F.slot_list_reverse PySem.F.type_list_reverse mt_reverse (pe_var hN hv hd hcd) hbase hline, fun s H r B z Y Q Qv lw S h k => ?_⟩
  unfold dRev at h
  split at h
  · rename_i ds l0
    obtain ⟨p, vs, e1, e2, e3, _⟩ := S.change l0 (RepAll.nil (K := X.K) (B := B))
    obtain ⟨p', vs', e1', e2', e3', S2⟩ := S.change l0 e3.reverse
    rw [e1] at e1'
    cases e1'
    rw [e2] at e2'
    cases e2'
    exact ⟨_, e1, ty_list e2, p, vs, rfl, rfl, e2, k _ _ B _ _ (S2.push .non) h⟩
  · exact h.elim

/-! ### blocks, small statements -/
theorem jss_nil : JSs X g c W L [] dNext := ⟨_, pss_nil, fun s H r B z Y E D _ S _ h k => k.nx s H B r S h⟩
theorem ss_seq {t1 t2 : TS} {d1 d2 : DS} (h1 : SSm K g c W L t1 d1) (h2 : SSm K g c W L t2 d2) : SSm K g c W L (tSeq t1 t2) (dSeq d1 d2) := fun s H r B z Y E D lw S hl h k =>
  h1 s H r B z Y _ { D with nx := t2 D } lw S hl h ⟨fun s' H' B' r' S' q => h2 s' H' r' B' z Y E D lw S' hl q k, k.rt, k.bk, k.ct⟩
theorem jss_cons {st : Stmt} {rest : List Stmt} {d1 d2 : DS} (h1 : JS X g c W L st d1) (h2 : JSs X g c W L rest d2) : JSs X g c W L (st :: rest) (dSeq d1 d2) := by
  obtain ⟨t1, p1, s1⟩ := h1.ex
  obtain ⟨t2, p2, s2⟩ := h2.ex
  exact ⟨_, pss_cons p1 p2, ss_seq s1 s2⟩
theorem jss_one {st : Stmt} {d : DS} (h : JS X g c W L st d) : JSs X g c W L [st] d := by
  obtain ⟨t, p, s⟩ := h.ex
  exact ⟨_, pss_one p, s⟩
theorem js_pass {pos} : JS X g c W L (.Pass pos) dNext := ⟨_, ps_pass, fun s H r B z Y E D _ S _ h k => k.nx s H B r S h⟩
theorem js_break {pos} : JS X g c W L (.Break pos) dBrk := ⟨_, ps_break, fun s H r B z Y E D _ S _ h k => k.bk s H B r S h⟩
theorem js_continue {pos} : JS X g c W L (.Continue pos) dCnt := ⟨_, ps_continue, fun s H r B z Y E D _ S _ h k => k.ct s H B r S h⟩
theorem js_expr {e : Expr} {de : DE} {pos : Pos} (he : JE X g c W e de) (hs : swapsWith e none pos.line X.env = pure false := by rfl) : JS X g c W L (.Expr e pos) (dEx de) := by
  obtain ⟨te, pe, se⟩ := he.ex
  exact ⟨_, ps_expr pe hs, fun s H r B z Y E D lw S _ h k => se s H r B z Y _ _ lw S h fun v H1 B1 r1 t1 S1 q1 => k.nx s H1 B1 r1 S1.pop q1⟩
theorem js_ret {e : Expr} {de : DE} {pos : Pos} (he : JE X g c W e de) : JS X g c W L (.Return (some e) pos) (dRet de) := by
  obtain ⟨te, pe, se⟩ := he.ex
  refine ⟨_, ps_ret pe, fun s H r B z Y E D lw S _ h k => se s H r B z Y _ _ lw S h fun v H1 B1 r1 t1 S1 q1 => ?_⟩
  split at q1
  · exact k.rt v s H1 B1 r1 _ S1 q1
  · exact k.rt v s H1 B1 r1 _ S1 q1
  · exact k.rt v s H1 B1 r1 _ S1 q1
  · exact q1.elim
theorem js_retN {pos : Pos} : JS X g c W L (.Return none pos) dRetN := ⟨_, ps_retN, fun s H r B z Y E D _ S _ h k => k.rt .non s H B r _ (S.push .non) h⟩
theorem js_if {e : Expr} {a b : List Stmt} {dt : DT} {da db : DS} {pos : Pos} (ht : JT X g c W e dt) (ha : JSs X g c W L a da) (hb : JSs X g c W L b db) : JS X g c W L (.If e a b pos) (dIf dt da db) := by
  obtain ⟨tt, pt, st⟩ := ht.ex
  obtain ⟨ta, pa, sa⟩ := ha.ex
  obtain ⟨tb, pb, sb⟩ := hb.ex
  refine ⟨_, ps_if pt pa pb, fun s H r B z Y E D lw S hl h k => st s H r B z Y _ _ lw S h fun b H1 B1 r1 S1 q1 => ?_⟩
  cases b with
  | true => exact sa s H1 r1 B1 z Y E D lw S1 hl q1 k
  | false => exact sb s H1 r1 B1 z Y E D lw S1 hl q1 k
theorem nol {i : Nat} {z : Stk} (hi : i ∉ L) (hl : ∀ i w, (w, T.al i) ∈ z → i ∈ L) : ∀ w, (w, T.al i) ∉ z := fun w h => hi (hl i w h)
/-- what is kept at the top of the stack goes into a slot -/
theorem ss_set {i : Nat} {te : TE} {de : DE} (hi : i ∉ L) (hn : i < g.n) (h1 : ES K g c W te de) : SSm K g c W L (tAsg te (gName i)) (dSet i de) := fun s H r B z Y E D lw S hl h k => by
  refine h1 s H r B z Y _ _ lw S h fun v H1 B1 r1 t1 S1 q1 => ?_
  split at q1
  · exact k.nx _ H1 B1 _ (S1.store (by rw [S1.ln]; exact hn) (Or.inl ⟨_, rfl⟩) (nol hi hl)) q1
  · exact k.nx _ H1 B1 _ (S1.store (by rw [S1.ln]; exact hn) (Or.inr (Or.inl ⟨_, rfl⟩)) (nol hi hl)) q1
  · exact k.nx _ H1 B1 _ (S1.store (by rw [S1.ln]; exact hn) (Or.inr (Or.inr ⟨_, rfl⟩)) (nol hi hl)) q1
  · exact q1.elim
theorem js_set {i : Nat} {x : Str} {e : Expr} {de : DE} {pos pos' : Pos} (hi : i ∉ L) (hn : i < g.n) (hN : X.N.Nodup) (hx : X.N[i]? = some x) (hv : Loc X.env.scope x) (he : JE X g c W e de) (hs : swapsWith e (some (.Name x pos')) pos.line X.env = pure false := by rfl)
    (hf : X.fn x = true ∨ X.env.scope.names.lookup x = some .local := by first | exact .inl rfl | exact .inr rfl | assumption) : JS X g c W L (.Assign [.Name x pos'] e pos) (dSet i de) := by
  obtain ⟨te, pe, se⟩ := he.ex
  exact ⟨_, ps_set hN hx hv pe hs hf, ss_set hi hn se⟩
/-- x op= e -/
theorem js_aug {i : Nat} {x : Str} {e : Expr} {de : DE} {op : Operator} {o : R2} {od : R2D} {pos pos' : Pos} (ho : PIp X op o ∧ OpS X.K g o od) (hi : i ∉ L) (hn : i < g.n) (hN : X.N.Nodup) (hx : X.N[i]? = some x) (hv : Loc X.env.scope x) (he : JE X g c W e de)
    (hf : X.fn x = true ∨ X.env.scope.names.lookup x = some .local := by first | exact .inl rfl | exact .inr rfl | assumption) : JS X g c W L (.AugAssign (.Name x pos') op e pos) (dAug i od de) := by
  obtain ⟨te, pe, se⟩ := he.ex
  refine ⟨_, ps_aug hN hx hv pe ho.1 hf, fun s H r B z Y E D lw S hl h k => ?_⟩
  unfold dAug at h
  split at h
  · rename_i x0 l0
    obtain ⟨v0, e1, e2⟩ := S.env i _ l0
    refine ⟨v0, e1, ?_⟩
    refine se s H r B _ Y _ _ lw.ext (S.push e2) h fun v H1 B1 r1 t1 S1 q1 => ?_
    split at q1
    · rename_i y e3
      have v1 := S1.view List.mem_cons_self e3
      have v2 : View X.K B1 H1 v0 x0 := S1.view (List.mem_cons_of_mem _ List.mem_cons_self) rfl
      refine ho.2 B1 s r1 z H1 v0 v x0 y _ _ S1.pop.pop v2 v1 q1 fun u H2 B2 t2 S2 q2 => ?_
      split at q2
      · exact k.nx _ H2 B2 _ (S2.store (by rw [S2.ln]; exact hn) (Or.inl ⟨_, rfl⟩) (nol hi hl)) q2
      · exact q2.elim
    · exact q1.elim
  · exact h.elim
theorem ji_add : PIp X .Add (rI0 fun i j => .int (i + j)) ∧ OpS X.K g (rI0 fun i j => .int (i + j)) oAddI := ⟨ip_add, ops_I0 fun _ _ _ => .int _⟩
theorem ji_sub : PIp X .Sub (rI0 fun i j => .int (i - j)) ∧ OpS X.K g (rI0 fun i j => .int (i - j)) oSub := ⟨ip_sub, ops_I0 fun _ _ _ => .int _⟩
/-- x[k] = e -/
theorem js_setIx {i : Nat} {x : Str} {e ke : Expr} {de dk : DE} {px ps pos : Pos} (he : JE X g c W e de) (hk : JE X g c W ke dk) (hN : X.N[i]? = some x := by rfl) (hv : Vis X.env.scope x := by first | exact Or.inl rfl | exact Or.inr (Or.inl rfl) | exact Or.inr (Or.inr rfl))
    (hd : (x == ("__debug__" : Str)) = false := by decide) (hcd : (x == ("__classdict__" : Str)) = false := by decide)
    (hs : swapsWithSole [.Subscript (.Name x px) ke ps] e pos.line X.env = pure false := by rfl) (hw : swappedStores [.Subscript (.Name x px) ke ps] e X.env = pure none := by rfl)
    (h1 : (assignEach [.Subscript (.Name x px) ke ps] X.env).map (·.2) = [assign (.Subscript (.Name x px) ke ps) X.env] := by rfl)
    (hsub : ∀ v, assign (.Subscript (.Name x px) ke ps) X.env v = (do
      let ov ← holding [v] (eval (.Name x px) X.env)
      let iv ← holding [v, ov] (eval ke X.env)
      standAt ps
      holding [v, ov, iv] (setItem ov iv v)
      release [v, ov, iv] []) := by intro _; rfl) : JS X g c W L (.Assign [.Subscript (.Name x px) ke ps] e pos) (dSetIx i dk de) := by
  obtain ⟨te, pe, se⟩ := he.ex
  obtain ⟨tk, pk, sk⟩ := hk.ex
  refine ⟨_, ps_asg pe (pg_sub (pe_var hN hv hd hcd) pk set_list hsub) hs hw h1, fun s H r B z Y E D lw S hl h k => ?_⟩
  refine se s H r B z Y _ _ lw S h fun v H1 B1 r1 t1 S1 q1 => ?_
  obtain ⟨h0, q1⟩ := q1
  cases l0 : look r1 i with
  | none => rw [l0] at h0; exact h0.elim
  | some t0 =>
    rw [l0] at h0
    cases t0 with
    | ol ds0 =>
      obtain ⟨v0, e1, e2⟩ := S1.env i _ l0
      obtain ⟨p, vs, rfl, _⟩ := id e2
      refine ⟨_, e1, ?_⟩
      refine sk s H1 r1 B1 _ Y _ _ lw.ext S1 q1 fun w H2 B2 r2 t2 S2 q2 => ?_
      split at q2
      · rename_i d zi ds e3 l2
        split at q2
        · rename_i j ej
          have vi := S2.view List.mem_cons_self e3
          cases vi
          have rv : Rep X.K B2 v d := S2.pop.top
          obtain ⟨p1, vs1, f1, f2, f3, _⟩ := S2.pop.pop.change l2 (RepAll.nil (K := X.K) (B := B2))
          obtain ⟨p2, vs2, f1', f2', f3', S3⟩ := S2.pop.pop.change l2 (f3.set rv j)
          rw [e1] at f1 f1'
          cases f1
          cases f1'
          rw [f2] at f2'
          cases f2'
          exact ⟨p, vs1, zi, j, rfl, rfl, f2, by rw [f3.len]; exact ej, k.nx s _ B2 _ S3 q2⟩
        · exact q2.elim
      · exact q2.elim
    | _ => exact h0.elim
/-- raise C('..') of a class without fields -/
theorem js_raise {n : Nat} {x m : Str} {C : Addr} {bmB : List Value} {BB newId initId : String} {j : Nat} {p p2 pos pos2 : Pos} (F : ExcBaseFacts BB newId initId bmB) (hC : C = c.cm n) (hok : c.ok n = true) (hc : X.calm = true) (tk : Takes X W) (q : PySem.W.excIn X.K C bmB newId = true) (gC : X.mg x = some (.ref C)) (kC : PySem.W.keepIn X.K (.ref C) = true)
    (rs : Raises X (.ref C)) (hg : Gl X x) (hdb : (x == ("__debug__" : Str)) = false := by decide) : JS X g c W L (.Raise (some (.Call (.Name x p) [.Constant (.str m) j p2] [] pos)) none pos2) (dRaise n) := by
  refine ⟨_, ps_raise hc tk (pmk_own F q gC kC rs hg hdb), fun s H r B z Y E D lw S hl h k => ?_⟩
  exact lw _ _ H s r B z ⟨n, []⟩ (List.suffix_refl _) S ⟨by rw [hC], hok, Or.inl ⟨rfl, rfl⟩⟩ h
/-! ### loops -/
theorem js_while {e : Expr} {body : List Stmt} {dt : DT} {db : DS} {pos : Pos} (hp : PassesOwn (model X.prog X.w) X.A X.env X.xe) (ht : JT X g c W e dt) (hb : JSs X g c W L body db) : JS X g c W L (.While e body [] pos) (dWhile dt db) := by
  obtain ⟨tt, pt, st⟩ := ht.ex
  obtain ⟨tb, pb, sb⟩ := hb.ex
  refine ⟨_, ps_while hp pt pb, fun s H r B z Y E D lw S hl h k => ?_⟩
  obtain ⟨I, m, i0, step⟩ := h
  refine ⟨fun n s' H' => ∃ B' r', SR X.K g B' s' r' z H' ∧ I r' ∧ n = m r', ⟨_, B, r, S, i0, rfl⟩, fun n s1 H1 hW => ?_⟩
  obtain ⟨B1, r1, S1, i1, rfl⟩ := hW
  refine st s1 H1 r1 B1 z Y _ _ lw S1 (step r1 i1) fun b H2 B2 r2 S2 q2 => ?_
  cases b with
  | true =>
    refine ⟨fun s' H' => ∃ B' r', SR X.K g B' s' r' z H' ∧ I r' ∧ m r' < m r1, fun s' H' ⟨B', r', S', i', l'⟩ => ⟨_, l', B', r', S', i', rfl⟩, ?_⟩
    exact sb s1 H2 r2 B2 z Y _ _ lw S2 hl q2 ⟨fun s' H' B' r' S' q => ⟨B', r', S', q.1, q.2⟩, k.rt, fun s' H' B' r' S' q => k.nx s' H' B' r' S' q, fun s' H' B' r' S' q => ⟨B', r', S', q.1, q.2⟩⟩
  | false => exact k.nx s1 H2 B2 r2 S2 q2
/-- what a for's iterator does -/
def JOk (K : PySem.W.Frag) (g : G) (J : It) (ds : List D) (st : Env → Prop) (v : V) (t : T) : Prop := ∀ (i : Nat) (s : St) (H : Hp) (B : Hp) (r : Env) (z : Stk), SR K g B s r z H → (v, t) ∈ z → st r →
  (i < ds.length → J.go i H ∧ ∀ x H2, J.yld i H x H2 → ∃ B2 d, ds[i]? = some d ∧ SR K g B2 s r ((x, .sh d) :: z) H2) ∧ (ds.length ≤ i → J.stop i H)
def ISm (K : PySem.W.Frag) (g : G) (c : Cl) (W : WX) (ks : List Nat) (wi : TI) (di : DI) : Prop := ∀ (s : St) (H : Hp) (r : Env) (B : Hp) (z : Stk) (Y : XD) (Q : List D → (Env → Prop) → Env → Prop) (R : It → Hp → Prop), LW K g c W Y z → SR K g B s r z H → di Y Q r →
  (∀ J H' B' r' ds st v t, SR K g B' s r' ((v, t) :: z) H' → (∀ i, t = .al i → i ∈ ks) → Q ds st r' → JOk K g J ds st v t → R J H') → wi s H R
structure JI (X : Cx) (g : G) (c : Cl) (W : WX) (ks : List Nat) (tg iter : Expr) (di : DI) : Prop where
  ex : ∃ wi, PI X tg iter wi ∧ ISm X.K g c W ks wi di
def GSm (K : PySem.W.Frag) (g : G) (P : Nat → Prop) (sets : List Nat) (tg : TG) (dg : DG) : Prop := ∀ (s : St) (H : Hp) (r : Env) (B : Hp) (z : Stk) (v : V) (d : D) (Q : Env → Prop) (Qv : St → Hp → Prop), SR K g B s r ((v, .sh d) :: z) H → (∀ i w, (w, T.al i) ∈ z → P i) → dg d r Q →
  (∀ s' H' B' r', SR K g B' s' r' z H' → s'.length = s.length → (∀ i, i ∉ sets → s'[i]? = s[i]?) → Q r' → Qv s' H') → tg v s H Qv
structure JG (X : Cx) (g : G) (P : Nat → Prop) (sets : List Nat) (tg : Expr) (dg : DG) : Prop where
  ex : ∃ t, PG X tg t ∧ GSm X.K g P sets t dg
theorem gs_name {P : Nat → Prop} {i : Nat} (hi : ¬ P i) (hn : i < g.n) : GSm K g P [i] (gName i) (gN i) := fun s H r B z v d Q Qv S hl h k =>
  k _ H B _ (S.store (by rw [S.ln]; exact hn) (Or.inl ⟨_, rfl⟩) (fun w hw => hi (hl i w hw))) (by rw [List.length_set]) (fun j hj => List.getElem?_set_ne fun e => hj (by simp [e])) h
theorem jg_name {P : Nat → Prop} {i : Nat} {x : Str} {pos : Pos} (hi : ¬ P i) (hn : i < g.n) (hN : X.N.Nodup) (hx : X.N[i]? = some x) (hv : Loc X.env.scope x) (hf : X.fn x = true ∨ X.env.scope.names.lookup x = some .local := by first | exact .inl rfl | exact .inr rfl | assumption) : JG X g P [i] (.Name x pos) (gN i) :=
  ⟨_, pg_name hN hx hv hf, gs_name hi hn⟩
theorem js_for {tg iter : Expr} {body : List Stmt} {di : DI} {dg : DG} {db : DS} {ks sets : List Nat} {pos : Pos} (hp : PassesOwn (model X.prog X.w) X.A X.env X.xe) (hc : X.calm = true) (hi : JI X g c W ks tg iter di) (hg : JG X g (· ∈ ks ++ L) sets tg dg) (hb : JSs X g c W (ks ++ L) body db)
    (hs : ∀ x, foldedSetIterable iter X.env x = pure x := by intro _; rfl) : JS X g c W L (.For tg iter body [] pos) (dFor di dg db) := by
  obtain ⟨wi, pi, si⟩ := hi.ex
  obtain ⟨tg', pg, sg⟩ := hg.ex
  obtain ⟨tb, pb, sb⟩ := hb.ex
  refine ⟨_, ps_for hp hc pi pg pb hs, fun s H r B z Y E D lw S hl h k => ?_⟩
  refine si s H r B z Y _ _ lw S h fun J H1 B1 r1 ds st v t S1 hks q1 jok => ?_
  obtain ⟨I, i0, stay, turn, done⟩ := q1
  have hl' : ∀ i w, (w, T.al i) ∈ ((v, t) :: z) → i ∈ ks ++ L := fun i w hw => by
    rcases List.mem_cons.mp hw with e | hw
    · cases e
      exact List.mem_append_left _ (hks i rfl)
    · exact List.mem_append_right _ (hl i w hw)
  refine ⟨fun i m s' H' => ∃ B' r', SR X.K g B' s' r' ((v, t) :: z) H' ∧ I i r' ∧ i ≤ ds.length ∧ m = ds.length - i, ⟨ds.length, B1, r1, S1, i0, Nat.zero_le _, rfl⟩, fun i m s2 H2 hW => ?_⟩
  obtain ⟨B2, r2, S2, i2, hle, rfl⟩ := hW
  obtain ⟨jgo, jstop⟩ := jok i s2 H2 B2 r2 _ S2 List.mem_cons_self (stay i r2 hle i2)
  by_cases hlt : i < ds.length
  · obtain ⟨go, yl⟩ := jgo hlt
    refine Or.inr ⟨go, fun s' H' => ∃ B' r', SR X.K g B' s' r' ((v, t) :: z) H' ∧ I (i + 1) r', fun s' H' ⟨B', r', S', i'⟩ => ⟨ds.length - (i + 1), by omega, B', r', S', i', hlt, rfl⟩, fun x H3 hy => ?_⟩
    obtain ⟨B3, d, ed, S3⟩ := yl x H3 hy
    refine sg s2 H3 r2 B3 _ x d _ _ S3 hl' (turn i d r2 ed i2) fun s4 H4 B4 r4 S4 _ _ q4 => ?_
    exact sb s4 H4 r4 B4 _ Y _ _ lw.ext S4 hl' q4 ⟨fun s' H' B' r' S' q => ⟨B', r', S', q⟩, fun v' s' H' B' r' t' S' q => k.rt v' s' H' B' r' t' S'.pop2 q, fun s' H' B' r' S' q => k.nx s' H' B' r' S'.pop q, fun s' H' B' r' S' q => ⟨B', r', S', q⟩⟩
  · have e : i = ds.length := by omega
    subst e
    exact Or.inl ⟨jstop (Nat.le_refl _), k.nx s2 H2 B2 r2 S2.pop (done r2 i2)⟩
end
end J

/-! JL7: what a for walks; tuples as targets; comprehensions; try; the rule for a def. -/
namespace J
open PySem L2
section
variable {X : Cx} {g : G} {c : Cl} {W : WX} {L : List Nat} {K : PySem.W.Frag}
theorem al_ok {ks : List Nat} {t : T} (h : alOk ks t) : ∀ i, t = .al i → i ∈ ks := fun i e => by subst e; exact h
/-- what stands in a for: a list, a tuple or a text -/
def iAny (K : PySem.W.Frag) (tl : TE) : TI := fun s H R => tl s H fun x H1 => (∃ a, x = .ref a ∧ (∃ us, SqL K H1 a us) ∧ R (Itl K a) H1) ∨ (∃ a, x = .ref a ∧ (∃ us, SqT K H1 a us) ∧ R (Itt K a) H1) ∨ ∃ t, x = .str t ∧ R (Its t) H1
theorem pi_any {tg l : Expr} {tl : TE} (hl : PE X l tl) : PI X tg l (iAny X.K tl) := by
  constructor
  intro pins sh s H R I h
  refine thn (hl.run pins sh s H _ I h) ?_
  rintro v s1 ⟨x, H1, J1, rv, ⟨a, rfl, ⟨us, hq⟩, q⟩ | ⟨a, rfl, ⟨us, hq⟩, q⟩ | ⟨t, rfl, q⟩⟩
  · cases rv
    obtain ⟨its, _, pl, _⟩ := J1.list hq
    exact wpAny_pyIter_list pl.isList (pi_one (tk := s1.toks) J1 _ (turn_list a _) ⟨_, Heap.get?_push_size _ rfl, rfl, rfl⟩ q)
  · cases rv
    obtain ⟨its, _, pl, _⟩ := J1.tuple hq
    exact wpAny_pyIter_tuple (show s1.heap.IsTuple a its.toArray from pl) (pi_one (tk := s1.toks) J1 _ (turn_tuple a _) ⟨_, Heap.get?_push_size _ rfl, rfl, rfl⟩ q)
  · obtain ⟨tk, rfl⟩ := rv
    cases ha : t.cps.all (· < 128) with
    | false => exact wpAny_pyIter_wide ha (pi_one (tk := s1.toks) J1 _ (turn_str _ t tk "str_iterator" (.inr rfl)) ⟨_, Heap.get?_push_size _ rfl, rfl, rfl⟩ q)
    | true => exact wpAny_pyIter_ascii ha (pi_one (tk := s1.toks) J1 _ (turn_str _ t tk "str_ascii_iterator" (.inl rfl)) ⟨_, Heap.get?_push_size _ rfl, rfl, rfl⟩ q)
theorem ji_seq {ks : List Nat} {tg e : Expr} {de : DE} (he : JE X g c W e de) : JI X g c W ks tg e (iSeq ks de) := by
  obtain ⟨te, pe, se⟩ := he.ex
  refine ⟨_, pi_any pe, fun s H r B z Y Q R lw S h k => ?_⟩
  refine se s H r B z Y _ _ lw S h fun v H1 B1 r1 t1 S1 q1 => ?_
  obtain ⟨ha, q1⟩ := q1
  split at q1
  · rename_i ds e1
    obtain ⟨a, vs, rfl, h1, h2⟩ := S1.view List.mem_cons_self e1
    refine Or.inl ⟨a, rfl, ⟨vs, SqL.of h1⟩, k _ H1 B1 r1 ds _ _ t1 S1 (al_ok ha) q1 fun i s2 H2 B2 r2 z2 S2 hm hst => ?_⟩
    obtain ⟨a', ws, ea, g1, g2⟩ := S2.view hm hst
    cases ea
    refine ⟨fun hi => ⟨?_, fun x H3 hy => ?_⟩, fun hi => ⟨ws, SqL.of g1, by rw [g2.len]; exact hi⟩⟩
    · obtain ⟨v, q, _⟩ := g2.get (i := i) (List.getElem?_eq_getElem hi)
      exact ⟨ws, v, SqL.of g1, q⟩
    · obtain ⟨rfl, hy⟩ := hy
      obtain ⟨d, q, rr⟩ := g2.getV (hy ws (SqL.of g1))
      exact ⟨B2, d, q, S2.push rr⟩
  · rename_i ns e1
    have v1 := S1.view List.mem_cons_self e1
    cases v1 with
    | @scr a _ h1 =>
      refine Or.inl ⟨a, rfl, ⟨_, same_l S1.bh h1⟩, k _ H1 B1 r1 _ _ _ t1 S1 (al_ok ha) q1 fun i s2 H2 B2 r2 z2 S2 hm hst => ?_⟩
      have w2 := S2.view hm hst
      cases w2 with
      | scr h2 =>
        have g1 := same_l S2.bh h2
        refine ⟨fun hi => ⟨?_, fun x H3 hy => ?_⟩, fun hi => ⟨_, g1, by simpa using hi⟩⟩
        · have hi' : i < ns.length := by simpa using hi
          exact ⟨_, .int ns[i], g1, by simp [List.getElem?_eq_getElem hi']⟩
        · obtain ⟨rfl, hy⟩ := hy
          have q := hy _ g1
          rw [List.getElem?_map] at q
          cases e : ns[i]? with
          | none => rw [e] at q; cases q
          | some n =>
            rw [e] at q
            cases q
            exact ⟨B2, .int n, by simp [e], S2.push (.int n)⟩
  · rename_i ds e1
    have v1 := S1.view List.mem_cons_self e1
    cases v1 with
    | @tup a us _ h1 h2 =>
      refine Or.inr (Or.inl ⟨a, rfl, ⟨_, same_t S1.bh h1⟩, k _ H1 B1 r1 ds _ _ t1 S1 (al_ok ha) q1 fun i s2 H2 B2 r2 z2 S2 hm hst => ?_⟩)
      have w2 := S2.view hm hst
      cases w2 with
      | tup g1 g2 =>
        have g1' := same_t S2.bh g1
        refine ⟨fun hi => ⟨?_, fun x H3 hy => ?_⟩, fun hi => ⟨_, g1', by rw [g2.len]; exact hi⟩⟩
        · obtain ⟨w, q, _⟩ := g2.get (i := i) (List.getElem?_eq_getElem hi)
          exact ⟨_, w, g1', q⟩
        · obtain ⟨rfl, hy⟩ := hy
          obtain ⟨d, q, rr⟩ := g2.getV (hy _ g1')
          exact ⟨B2, d, q, S2.push rr⟩
  · rename_i t e1
    have v1 := S1.view List.mem_cons_self e1
    cases v1
    refine Or.inr (Or.inr ⟨codes t, rfl, k _ H1 B1 r1 _ _ .non _ (S1.pop.push .non) (fun _ e => by cases e) q1 fun i s2 H2 B2 r2 z2 S2 _ _ => ?_⟩)
    rw [List.length_map]
    refine ⟨fun hi => ⟨by show i < (codes t).cps.size; simpa [codes] using hi, fun x H3 hy => ?_⟩, fun hi => by show (codes t).cps.size ≤ i; simpa [codes] using hi⟩
    obtain ⟨rfl, cc, hcc, rfl⟩ := hy
    refine ⟨B2, .str [cc], ?_, S2.push (.str [cc])⟩
    rw [List.getElem?_map]
    have e : t[i]? = some cc := by simpa [codes] using hcc
    rw [e]
    rfl
  · exact q1.elim
theorem ji_tup {tg e : Expr} {de : DE} (he : JE X g c W e de) : JI X g c W [] tg e (iTup de) := by
  obtain ⟨te, pe, se⟩ := he.ex
  refine ⟨_, pi_tup pe, fun s H r B z Y Q R lw S h k => ?_⟩
  refine se s H r B z Y _ _ lw S h fun v H1 B1 r1 t1 S1 q1 => ?_
  split at q1
  · rename_i ds
    have v1 : Rep X.K B1 v (.tup ds) := S1.top
    cases v1 with
    | tup h1 h2 =>
      refine ⟨_, rfl, ⟨_, same_t S1.bh h1⟩, k _ H1 B1 r1 ds _ _ _ S1 (fun _ e => by cases e) q1 fun i s2 H2 B2 r2 z2 S2 hm _ => ?_⟩
      have v2 : Rep X.K B2 (.ref _) (.tup ds) := S2.stk _ hm
      cases v2 with
      | tup g1 g2 =>
        have g1' := same_t S2.bh g1
        refine ⟨fun hi => ⟨?_, fun x H3 hy => ?_⟩, fun hi => ⟨_, g1', by rw [g2.len]; exact hi⟩⟩
        · obtain ⟨v, q, _⟩ := g2.get (i := i) (List.getElem?_eq_getElem hi)
          exact ⟨_, v, g1', q⟩
        · obtain ⟨rfl, hy⟩ := hy
          obtain ⟨d, q, rr⟩ := g2.getV (hy _ g1')
          exact ⟨B2, d, q, S2.push rr⟩
  · exact q1.elim
theorem li_get (lo : Int) (n i : Nat) (h : i < n) : (li (upI lo n))[i]? = some (.int (lo + (i : Int))) := by
  unfold li upI
  rw [List.map_map, List.getElem?_map, List.getElem?_range h]
  rfl
theorem li_len (lo : Int) (n : Nat) : (li (upI lo n)).length = n := by
  unfold li upI
  rw [List.length_map, List.length_map, List.length_range]
theorem jok_rng {lo : Int} {n : Nat} {v : V} {t : T} : JOk K g (Itr lo n) (li (upI lo n)) (fun _ => True) v t := fun i s2 H2 B2 r2 z2 S2 _ _ => by
  rw [li_len]
  refine ⟨fun hi => ⟨hi, fun x H3 hy => ?_⟩, fun hi => hi⟩
  obtain ⟨rfl, rfl⟩ := hy
  exact ⟨B2, _, li_get lo n i hi, S2.push (.int _)⟩
theorem ji_rg1 {tg a : Expr} {da : DE} {p pos : Pos} (hg : Gl X "range") (hm : X.mg "range" = none) (ha : JE X g c W a da) (hs : starEach [a] X.env = [(false, eval a X.env)] := by rfl) : JI X g c W [] tg (.Call (.Name "range" p) [a] [] pos) (iRange (dCons da dNil)) := by
  obtain ⟨te, pe, se⟩ := ha.ex
  refine ⟨_, pi_range1 hg hm (pa_cons pe pa_nil hs) hs, fun s H r B z Y Q R lw S h k => ?_⟩
  refine se s H r B z Y _ _ lw S h fun v H1 B1 r1 t1 S1 q1 => ?_
  simp only [dNil, reads] at q1
  cases e1 : rdT r1 t1 with
  | none => simp only [e1] at q1
  | some d =>
    simp only [e1] at q1
    cases d with
    | int n =>
      have v1 := S1.view List.mem_cons_self e1
      cases v1
      refine ⟨n, rfl, q1.1.1, q1.1.2, ?_⟩
      exact k _ H1 B1 r1 _ _ .non _ (S1.pop.push .non) (fun _ e => by cases e) q1.2 jok_rng
    | _ => exact q1.elim
theorem ji_rg2 {tg a b : Expr} {da db : DE} {p pos : Pos} (hg : Gl X "range") (hm : X.mg "range" = none) (ha : JE X g c W a da) (hb : JE X g c W b db) (hs : starEach [a, b] X.env = [(false, eval a X.env), (false, eval b X.env)] := by rfl) (hs2 : starEach [b] X.env = [(false, eval b X.env)] := by rfl)
    (hs3 : starEach [a, b] X.env = (false, eval a X.env) :: starEach [b] X.env := by rfl) : JI X g c W [] tg (.Call (.Name "range" p) [a, b] [] pos) (iRange (dCons da (dCons db dNil))) := by
  obtain ⟨ta, pa, sa⟩ := ha.ex
  obtain ⟨tb, pb, sb⟩ := hb.ex
  refine ⟨_, pi_range2 hg hm (pa_cons pa (pa_cons pb pa_nil hs2) hs3) hs hs2, fun s H r B z Y Q R lw S h k => ?_⟩
  refine sa s H r B z Y _ _ lw S h fun v H1 B1 r1 t1 S1 q1 => ?_
  refine sb s H1 r1 B1 _ Y _ _ lw.ext S1 q1 fun w H2 B2 r2 t2 S2 q2 => ?_
  simp only [dNil, reads] at q2
  cases e2 : rdT r2 t2 with
  | none => cases e1 : rdT r2 t1 <;> simp only [e1, e2] at q2
  | some d2 =>
    cases e1 : rdT r2 t1 with
    | none => simp only [e1, e2] at q2
    | some d1 =>
      simp only [e1, e2] at q2
      cases d1 with
      | int m =>
        cases d2 with
        | int n =>
          have v1 := S2.view (List.mem_cons_of_mem _ List.mem_cons_self) e1
          have v2 := S2.view List.mem_cons_self e2
          cases v1
          cases v2
          refine ⟨m, n, rfl, q2.1, ?_⟩
          exact k _ H2 B2 r2 _ _ .non _ (S2.pop.pop.push .non) (fun _ e => by cases e) q2.2 jok_rng
        | _ => exact q2.elim
      | _ => cases d2 <;> exact q2.elim
theorem enum_get : ∀ (ds : List D) (k i : Nat), (enumD k ds)[i]? = (ds[i]?).map fun d => D.tup [.int ((k + i : Nat) : Int), d]
  | [], _, _ => by simp [enumD]
  | d :: ds, k, 0 => by simp [enumD]
  | d :: ds, k, i + 1 => by
    have := enum_get ds (k + 1) i
    simp only [enumD, List.getElem?_cons_succ, this]
    have e : k + 1 + i = k + (i + 1) := by omega
    rw [e]
theorem enum_len : ∀ (ds : List D) (k : Nat), (enumD k ds).length = ds.length
  | [], _ => rfl
  | d :: ds, k => congrArg (· + 1) (enum_len ds (k + 1))
theorem ji_enum {ks : List Nat} {e : Expr} {de : DE} {elts : List Expr} {kk : Nat} {p pos tpos : Pos} (hg : Gl X "enumerate") (hm : X.mg "enumerate" = none) (he : JE X g c W e de) (hs : starEach [e] X.env = [(false, eval e X.env)] := by rfl) : JI X g c W ks (.Tuple elts kk tpos) (.Call (.Name "enumerate" p) [e] [] pos) (iEnum ks de) := by
  obtain ⟨te, pe, se⟩ := he.ex
  refine ⟨_, pi_enum hg hm (pa_cons pe pa_nil hs) hs, fun s H r B z Y Q R lw S h k => ?_⟩
  refine se s H r B z Y _ _ lw S h fun v H1 B1 r1 t1 S1 q1 => ?_
  obtain ⟨ha, q1⟩ := q1
  split at q1
  · rename_i ds e1
    obtain ⟨a, vs, rfl, h1, h2⟩ := S1.view List.mem_cons_self e1
    refine ⟨a, vs, rfl, SqL.of h1, k _ H1 B1 r1 _ _ _ t1 S1 (al_ok ha) q1 fun i s2 H2 B2 r2 z2 S2 hm hst => ?_⟩
    obtain ⟨a', ws, ea, g1, g2⟩ := S2.view hm hst
    cases ea
    rw [enum_len]
    refine ⟨fun hi => ⟨?_, fun x H3 hy => ?_⟩, fun hi => ⟨ws, SqL.of g1, by rw [g2.len]; exact hi⟩⟩
    · obtain ⟨v, q, _⟩ := g2.get (i := i) (List.getElem?_eq_getElem hi)
      exact ⟨ws, v, SqL.of g1, q⟩
    · obtain ⟨T', x', rfl, hT, rfl, hy⟩ := hy
      obtain ⟨d, q, rr⟩ := g2.getV (hy ws (SqL.of g1))
      refine ⟨_, _, by rw [enum_get, q]; rfl, (S2.alloc (o := .tup [.int (i : Nat), x']) hT).push (.tup (SqT.of upd_same) (.cons ?_ (.cons (rr.mono (sm_new (none_b S2.bh hT))) .nil)))⟩
      rw [Nat.zero_add]
      exact .int _
  · exact q1.elim
theorem ji_str {tg e : Expr} {de : DE} (he : JE X g c W e de) : JI X g c W [] tg e (iStr de) := by
  obtain ⟨te, pe, se⟩ := he.ex
  refine ⟨_, pi_str pe, fun s H r B z Y Q R lw S h k => ?_⟩
  refine se s H r B z Y _ _ lw S h fun v H1 B1 r1 t1 S1 q1 => ?_
  split at q1
  · rename_i t e1
    have v1 := S1.view List.mem_cons_self e1
    cases v1
    refine ⟨codes t, rfl, k _ H1 B1 r1 _ _ .non _ (S1.pop.push .non) (fun _ e => by cases e) q1 fun i s2 H2 B2 r2 z2 S2 _ _ => ?_⟩
    rw [List.length_map]
    refine ⟨fun hi => ⟨by show i < (codes t).cps.size; simpa [codes] using hi, fun x H3 hy => ?_⟩, fun hi => by show (codes t).cps.size ≤ i; simpa [codes] using hi⟩
    obtain ⟨rfl, cc, hcc, rfl⟩ := hy
    refine ⟨B2, .str [cc], ?_, S2.push (.str [cc])⟩
    rw [List.getElem?_map]
    have : t[i]? = some cc := by simpa [codes] using hcc
    rw [this]
    rfl
  · exact q1.elim
/-! ### tuples as targets -/
def GsS (K : PySem.W.Frag) (g : G) (P : Nat → Prop) (sets : List Nat) (tg : TGs) (dg : DGs) : Prop := ∀ (s : St) (H : Hp) (r : Env) (B : Hp) (z : Stk) (vs : List V) (ds : List D) (Q : Env → Prop) (Qv : St → Hp → Prop), SR K g B s r z H → (∀ i w, (w, T.al i) ∈ z → P i) → RepAll K B vs ds → dg ds r Q →
  (∀ s' H' B' r', SR K g B' s' r' z H' → s'.length = s.length → (∀ i, i ∉ sets → s'[i]? = s[i]?) → Same B B' → Q r' → Qv s' H') → tg vs s H Qv
structure JGs (X : Cx) (g : G) (P : Nat → Prop) (sets : List Nat) (es : List Expr) (dg : DGs) (n : Nat) : Prop where
  ex : ∃ t, PGs X es t ∧ GsS X.K g P sets t dg ∧ ∀ ds r K, dg ds r K → ds.length = n
theorem jgs_nil {P : Nat → Prop} : JGs X g P [] [] gNl 0 := by
  refine ⟨_, pgs_nil, fun s H r B z vs ds Q Qv S _ rr h k => ?_, fun ds r K h => by obtain ⟨rfl, _⟩ := h; rfl⟩
  obtain ⟨rfl, h⟩ := h
  cases rr
  exact ⟨rfl, k s H B r S rfl (fun _ _ => rfl) (Same.refl _) h⟩
theorem jgs_name {P : Nat → Prop} {sets : List Nat} {n : Nat} {i : Nat} {x : Str} {pos : Pos} {es : List Expr} {dg : DGs} (hi : ¬ P i) (hn : i < g.n) (hN : X.N.Nodup) (hx : X.N[i]? = some x) (hv : Loc X.env.scope x) (hr : JGs X g P sets es dg n)
    (hf : X.fn x = true ∨ X.env.scope.names.lookup x = some .local := by first | exact .inl rfl | exact .inr rfl | assumption)
    (hs : (assignEach (.Name x pos :: es) X.env).map (·.2) = assign (.Name x pos) X.env :: (assignEach es X.env).map (·.2) := by rfl) : JGs X g P (i :: sets) (.Name x pos :: es) (gCn (gN i) dg) (n + 1) := by
  obtain ⟨t, pt, st, hl⟩ := hr.ex
  refine ⟨_, pgs_cons (pg_name hN hx hv hf) pt hs, fun s H r B z vs ds Q Qv S hz rr h k => ?_, fun ds r K h => ?_⟩
  · unfold gCn at h
    split at h
    · rename_i d rest
      cases rr with
      | cons r1 r2 =>
        refine ⟨_, _, rfl, ?_⟩
        have S1 := (S.push r1).store (i := i) (by rw [S.ln]; exact hn) (Or.inl ⟨_, rfl⟩) (fun w hw => hi (hz i w hw))
        refine st _ H _ B z _ rest Q Qv S1 hz r2 h fun s' H' B' r' S' l' ne' hb q => ?_
        refine k s' H' B' r' S' (by rw [l', List.length_set]) (fun j hj => ?_) hb q
        rw [List.mem_cons, not_or] at hj
        rw [ne' j hj.2]
        exact List.getElem?_set_ne (Ne.symm hj.1)
    · exact h.elim
  · unfold gCn at h
    split at h
    · exact congrArg (· + 1) (hl _ _ _ h)
    · exact h.elim
theorem jg_tup {P : Nat → Prop} {sets : List Nat} {n : Nat} {es : List Expr} {k : Nat} {pos : Pos} {dg : DGs} (hc : X.calm = true) (h : JGs X g P sets es dg n) (hn : (assignEach es X.env).length = n := by rfl) (hst : (assignEach es X.env).findIdx? (·.1) = none := by rfl) :
    JG X g P sets (.Tuple es k pos) (gTp dg) := by
  obtain ⟨t, pt, st, hl⟩ := h.ex
  refine ⟨_, pg_tup hc pt hn hst, fun s H r B z v d Q Qv S hz h kq => ?_⟩
  unfold gTp at h
  split at h
  · rename_i ds
    have v1 : Rep X.K B v (.tup ds) := S.top
    cases v1 with
    | tup h1 h2 =>
      refine ⟨_, _, rfl, same_t S.bh h1, by rw [h2.len]; exact hl _ _ _ h, ?_⟩
      exact st s H r B z _ ds Q Qv S.pop hz h2 h fun s' H' B' r' S' l' ne' _ q => kq s' H' B' r' S' l' ne' q
  · exact h.elim
/-- a, b = e -/
theorem js_asgG {P : Nat → Prop} {sets : List Nat} {tg e : Expr} {dg : DG} {de : DE} {pos : Pos} (hP : ∀ i, i ∈ L → P i) (he : JE X g c W e de) (hg : JG X g P sets tg dg) (hs : swapsWithSole [tg] e pos.line X.env = pure false := by rfl) (hw : swappedStores [tg] e X.env = pure none := by rfl)
    (h1 : (assignEach [tg] X.env).map (·.2) = [assign tg X.env] := by rfl) : JS X g c W L (.Assign [tg] e pos) (dSetG dg de) := by
  obtain ⟨te, pe, se⟩ := he.ex
  obtain ⟨t, pt, st⟩ := hg.ex
  refine ⟨_, ps_asg pe pt hs hw h1, fun s H r B z Y E D lw S hl h k => ?_⟩
  refine se s H r B z Y _ _ lw S h fun v H1 B1 r1 t1 S1 q1 => ?_
  split at q1
  · exact st s H1 r1 B1 z v _ _ _ S1 (fun i w hw => hP i (hl i w hw)) q1 fun s' H' B' r' S' _ _ q => k.nx s' H' B' r' S' q
  · exact q1.elim
end
end J

/-! JL8: comprehensions; try; the rule for a def. -/
namespace J
open PySem L2
section
variable {X : Cx} {g : G} {c : Cl} {W : WX} {L : List Nat} {K : PySem.W.Frag}
theorem look_wipe : ∀ {r : Env} {vs : List Nat} {i : Nat} {t : T}, look (wipeE r vs) i = some t → look r i = some t ∧ i ∉ vs
  | r, [], i, t, h => ⟨h, by simp⟩
  | r, v :: vs, i, t, h => by
    unfold wipeE at h
    by_cases e : v = i
    · subst e
      have lt := look_lt h
      rw [put_len] at lt
      rw [look_put_self lt] at h
      cases h
    · rw [look_put_ne e] at h
      obtain ⟨h1, h2⟩ := look_wipe h
      exact ⟨h1, by simp [Ne.symm e, h2]⟩
theorem wipeE_len : ∀ {r : Env} {vs : List Nat}, (wipeE r vs).length = r.length
  | _, [] => rfl
  | r, v :: vs => by
    unfold wipeE
    rw [put_len, wipeE_len]
theorem wipe_ne : ∀ {s : St} {vs : List Nat} {i : Nat}, i ∉ vs → (wipe s vs)[i]? = s[i]?
  | _, [], _, _ => rfl
  | s, v :: vs, i, h => by
    rw [List.mem_cons, not_or] at h
    unfold wipe
    rw [List.getElem?_set_ne (Ne.symm h.1)]
    exact wipe_ne h.2
theorem wipe_ext {s s' : St} {vs : List Nat} (hl : s'.length = s.length) (h : ∀ i, i ∉ vs → s'[i]? = s[i]?) : wipe s' vs = wipe s vs := by
  have key : ∀ (s s' : St) (vs : List Nat), s'.length = s.length → ∀ i, i ∈ vs → (wipe s' vs)[i]? = (wipe s vs)[i]? := by
    intro s s' vs hl
    induction vs with
    | nil => intro i h; simp at h
    | cons v vs ih =>
      intro i h
      unfold wipe
      by_cases e : v = i
      · subst e
        by_cases lt : v < s.length
        · rw [List.getElem?_set_self (by rw [wipe_length, hl]; exact lt), List.getElem?_set_self (by rw [wipe_length]; exact lt)]
        · rw [List.getElem?_eq_none (by rw [List.length_set, wipe_length]; omega), List.getElem?_eq_none (by rw [List.length_set, wipe_length]; omega)]
      · rw [List.getElem?_set_ne e, List.getElem?_set_ne e]
        exact ih i (by
          rcases List.mem_cons.mp h with q | q
          · exact absurd q.symm e
          · exact q)
  apply List.ext_getElem?
  intro i
  by_cases hi : i ∈ vs
  · exact key s s' vs hl i hi
  · rw [wipe_ne hi, wipe_ne hi]
    exact h i hi
section
variable {B H : Hp} {s s' : St} {r r' : Env} {z : Stk}
/-- the slots vs forgotten, the frame's values changed there at will -/
theorem SR.wiped {vs : List Nat} (S : SR K g B s r z H) (hv : ∀ i, i ∈ vs → i ∈ g.cs) (hl : s'.length = s.length) (hs : ∀ i, i ∉ vs → s'[i]? = s[i]?) : SR K g B s' (wipeE r vs) z H := by
  have en : ∀ {v : V} {t : T}, (∀ i, t = .al i → i ∉ vs) → En K g B H s v t → En K g B H s' v t := fun {v t} hn h => by
    cases t with
    | al i => exact (hs i (hn i rfl)).trans h
    | sh _ => exact h
    | bor _ => exact h
    | ol _ => exact h
    | exc _ _ => exact h
    | own _ => exact h
    | ptr _ _ _ => exact h
  refine ⟨S.b0, S.bh, S.fr, S.h0, S.hm, by rw [wipeE_len, hl]; exact S.len, by rw [wipeE_len]; exact S.ln, fun i t e => ?_, fun x hx => ?_, S.al, fun i j t u v w hij a b e1 e2 => ?_, fun i t v x a e1 hx => ?_, S.d3, fun i j e => S.ea i j (look_wipe e).1⟩
  · obtain ⟨e1, e2⟩ := look_wipe e
    obtain ⟨v, h1, h2⟩ := S.env i t e1
    exact ⟨v, (hs i e2).trans h1, en (fun j e => by subst e; exact absurd e1 (S.ea i j)) h2⟩
  · refine en (fun i e hi => ?_) (S.stk x hx)
    obtain ⟨xv, xt⟩ := x
    have e' : xt = .al i := e
    subst e'
    exact S.al i xv hx (hv i hi)
  · obtain ⟨a1, a2⟩ := look_wipe a
    obtain ⟨b1, b2⟩ := look_wipe b
    rw [hs i a2] at e1
    rw [hs j b2] at e2
    exact S.d1 i j t u v w hij a1 b1 e1 e2
  · obtain ⟨a1, a2⟩ := look_wipe a
    rw [hs i a2] at e1
    exact S.d2 i t v x a1 e1 hx
/-- the list on top, with one item more -/
theorem SR.grown {p : Addr} {ds : List D} {v : V} {d : D} (S : SR K g B s r ((v, .sh d) :: (.ref p, .ol ds) :: z) H) : ∃ vs, H p = some (.lst vs) ∧ vs.length = ds.length ∧ SR K g B s r ((.ref p, .ol (ds ++ [d])) :: z) (L2.upd H p (.lst (vs ++ [v]))) := by
  have rv : Rep K B v d := S.top
  have S1 := S.pop
  obtain ⟨p', vs, e, h1, h2, h3, h4⟩ := S1.top
  cases e
  refine ⟨vs, h1, h2.len, SR.tradeZ (zo := [(.ref p, .ol ds)]) (zn := [(.ref p, .ol (ds ++ [d]))]) S1 (fun a o e q => ?_) (fun a e => ?_) (fun x hx => ?_) (fun x hx a q => ?_) (fun x hx j e => ?_) (List.pairwise_singleton _ _)⟩
  · rw [upd_ne fun e' => q _ (List.mem_singleton.mpr rfl) (by rw [e']; rfl)]
    exact e
  · by_cases q : a = p
    · subst q; rw [upd_same]; simp
    · rw [upd_ne q]; exact e
  · rw [List.mem_singleton] at hx
    subst hx
    exact ⟨p, _, rfl, upd_same, h2.append (.cons rv .nil), h3, h4⟩
  · rw [List.mem_singleton] at hx
    subst hx
    exact Or.inl ⟨_, List.mem_singleton.mpr rfl, q⟩
  · rw [List.mem_singleton] at hx
    subst hx
    cases e
end
/-- the tests of a comprehension -/
structure JTs (X : Cx) (g : G) (c : Cl) (W : WX) (ifs : List Expr) (dt : DT) : Prop where
  ex : ∃ tt, PTs X ifs tt ∧ TSm X.K g c W tt dt
theorem jts_nil : JTs X g c W [] dYes := ⟨_, pts_nil, fun s H r B z Y Q Qv _ S h k => k true H B r S h⟩
theorem jts_one {e : Expr} {dt : DT} (h : JT X g c W e dt) : JTs X g c W [e] dt := by
  obtain ⟨t, p, s⟩ := h.ex
  exact ⟨t, pts_one p, s⟩
abbrev W0 : WX := fun _ _ _ _ => False
theorem wipe_idem (r : Env) (vs : List Nat) : wipeE (wipeE r vs) vs = wipeE r vs := by
  have pp : ∀ (r : Env) (i j : Nat) (a b : Option T), i ≠ j → put (put r i a) j b = put (put r j b) i a := by
    intro r
    induction r with
    | nil => intros; rfl
    | cons x r ih =>
      intro i j a b h
      cases i with
      | zero =>
        cases j with
        | zero => exact absurd rfl h
        | succ j => rfl
      | succ i =>
        cases j with
        | zero => rfl
        | succ j => exact congrArg (x :: ·) (ih i j a b fun e => h (by rw [e]))
  have p2 : ∀ (r : Env) (i : Nat) (a b : Option T), put (put r i a) i b = put r i b := by
    intro r
    induction r with
    | nil => intros; rfl
    | cons x r ih =>
      intro i a b
      cases i with
      | zero => rfl
      | succ i => exact congrArg (x :: ·) (ih i a b)
  have out : ∀ (vs : List Nat) (r : Env) (i : Nat), wipeE (put r i none) vs = put (wipeE r vs) i none := by
    intro vs
    induction vs with
    | nil => intros; rfl
    | cons v vs ih =>
      intro r i
      show put (wipeE (put r i none) vs) v none = put (put (wipeE r vs) v none) i none
      rw [ih]
      by_cases e : v = i
      · subst e; rfl
      · exact pp _ _ _ _ _ (Ne.symm e)
  induction vs with
  | nil => rfl
  | cons v vs ih =>
    show put (wipeE (put (wipeE r vs) v none) vs) v none = put (wipeE r vs) v none
    rw [out, ih, p2]
theorem wipe_wipe (s : St) (vs : List Nat) : wipe (wipe s vs) vs = wipe s vs := wipe_ext (wipe_length s vs) fun _ hi => wipe_ne hi
theorem es_lc {wi : TI} {tg : TG} {tt : TT} {te : TE} {di : DI} {dg : DG} {dt : DT} {de : DE} {ks sets vs : List Nat} (hi : ISm K g c W ks wi di) (hg : GSm K g (· ∉ g.cs) sets tg dg) (ht : TSm K g c W0 tt dt) (he : ES K g c W0 te de) (hv : ∀ i, i ∈ vs → i ∈ g.cs) (hsub : ∀ i, i ∈ sets → i ∈ vs) :
    ES K g c W (tLc wi tg tt te vs) (dLC di dg dt de vs) := fun s H r B z Y Q Qv lw S h k => by
  refine hi s H r B z Y _ _ lw S h fun J H1 B1 r1 ds st v t S1 _ q1 jok D hD => ?_
  obtain ⟨f, hst, hf, hlen, hq⟩ := q1
  have lw0 : ∀ z, LW K g c W0 (fun _ _ => False) z := fun _ _ _ _ _ _ _ _ _ _ _ _ y => y.elim
  have S2 := (S1.own hD (RepAll.nil (K := K) (B := B1))).wiped (s' := wipe s vs) hv (wipe_length s vs) fun i hi => wipe_ne hi
  refine ⟨fun i m H' => ∃ B', SR K g B' (wipe s vs) (wipeE r1 vs) ((.ref D, .ol ((ds.take i).filterMap f)) :: (v, t) :: z) H' ∧ i ≤ ds.length ∧ m = ds.length - i, ⟨ds.length, B1, S2, Nat.zero_le _, rfl⟩, fun i m H' hW => ?_⟩
  obtain ⟨B', S', hle, rfl⟩ := hW
  obtain ⟨jgo, jstop⟩ := jok i (wipe s vs) H' B' _ _ S' (List.mem_cons_of_mem _ List.mem_cons_self) (hst _ (wipe_idem r1 vs))
  by_cases hlt : i < ds.length
  · obtain ⟨go, yl⟩ := jgo hlt
    refine Or.inr ⟨go, fun H2 => ∃ B2, SR K g B2 (wipe s vs) (wipeE r1 vs) ((.ref D, .ol ((ds.take (i + 1)).filterMap f)) :: (v, t) :: z) H2, fun H2 ⟨B2, S2⟩ => ⟨ds.length - (i + 1), by omega, B2, S2, hlt, rfl⟩, fun x H2 hy => ?_⟩
    obtain ⟨B2, d, ed, S3⟩ := yl x H2 hy
    have hd : d ∈ ds := List.mem_of_getElem? ed
    have tk : (ds.take (i + 1)).filterMap f = (ds.take i).filterMap f ++ (f d).toList := by
      rw [List.take_add_one, ed, List.filterMap_append]
      cases q : f d <;> simp [q]
    refine hg (wipe s vs) H2 _ B2 _ x d _ _ S3 (fun i w hw => S3.al i w (List.mem_cons_of_mem _ hw)) (hf d hd) fun s4 H4 B4 r4 S4 l4 n4 q4 => ?_
    have ws : wipe s4 vs = wipe s vs := by
      rw [← wipe_wipe s vs]
      exact wipe_ext l4 fun i hi => n4 i fun h => hi (hsub i h)
    refine ⟨ws, ?_⟩
    have back : ∀ {B5 : Hp} {H5 : Hp} {r5 : Env} {z5 : Stk}, SR K g B5 s4 r5 z5 H5 → wipeE r5 vs = wipeE r1 vs → SR K g B5 (wipe s vs) (wipeE r1 vs) z5 H5 := fun {B5 H5 r5 z5} S5 e => by
      rw [← e, ← ws]
      exact S5.wiped hv (wipe_length s4 vs) fun i hi => wipe_ne hi
    refine ht s4 H4 r4 B4 _ _ _ _ (lw0 _) S4 q4 fun b H5 B5 r5 S5 q5 => ?_
    cases b with
    | true =>
      refine he s4 H5 r5 B5 _ _ _ _ (lw0 _) S5 q5 fun y H6 B6 r6 t6 S6 q6 => ?_
      obtain ⟨e6, d6, rfl, fd⟩ := q6
      obtain ⟨ws', g1, g2, S7⟩ := S6.grown
      refine ⟨ws', g1, ?_, B6, ?_⟩
      · rw [g2, ← size_is]
        have l1 : ((ds.take i).filterMap f).length ≤ (ds.take i).length := List.length_filterMap_le f _
        have l2 : (ds.take i).length ≤ i := by rw [List.length_take]; omega
        omega
      · rw [tk, fd]
        exact back S7 e6
    | false =>
      obtain ⟨e5, fd⟩ := q5
      refine ⟨B5, ?_⟩
      rw [tk, fd, Option.toList_none, List.append_nil]
      exact back S5 e5
  · have e : i = ds.length := by omega
    subst e
    refine Or.inl ⟨jstop (Nat.le_refl _), ?_⟩
    rw [List.take_length] at S'
    have S8 := S'.wiped (s' := s) hv (wipe_length s vs).symm fun i hi => (wipe_ne hi).symm
    rw [wipe_idem] at S8
    exact k _ _ B' _ _ S8.pop2 hq
/-! ### one reading for all blocks: the weakest that the plain one gives -/
def canonE (K : PySem.W.Frag) (g : G) (c : Cl) (W : WX) (de : DE) : TE := fun s H Qv => ∃ r B z Y Q, LW K g c W Y z ∧ SR K g B s r z H ∧ de Y Q r ∧ ∀ v H' B' r' t, SR K g B' s r' ((v, t) :: z) H' → Q t r' → Qv v H'
def canonT (K : PySem.W.Frag) (g : G) (c : Cl) (W : WX) (dt : DT) : TT := fun s H Qv => ∃ r B z Y Q, LW K g c W Y z ∧ SR K g B s r z H ∧ dt Y Q r ∧ ∀ b H' B' r', SR K g B' s r' z H' → Q b r' → Qv b H'
def canonG (K : PySem.W.Frag) (g : G) (P : Nat → Prop) (sets : List Nat) (dg : DG) : TG := fun v s H Qv => ∃ r B z d Q, SR K g B s r ((v, .sh d) :: z) H ∧ (∀ i w, (w, T.al i) ∈ z → P i) ∧ dg d r Q ∧
  ∀ s' H' B' r', SR K g B' s' r' z H' → s'.length = s.length → (∀ i, i ∉ sets → s'[i]? = s[i]?) → Q r' → Qv s' H'
def canonS (K : PySem.W.Frag) (g : G) (c : Cl) (W : WX) (L : List Nat) (ds : DS) : TS := fun D s H => ∃ r B z Y E, LW K g c W Y z ∧ SR K g B s r z H ∧ (∀ i w, (w, T.al i) ∈ z → i ∈ L) ∧ ds Y E r ∧ EndsR K g z E D
theorem canonS_ok {ds : DS} : SSm K g c W L (canonS K g c W L ds) ds := fun s H r B z Y E D lw S hl h k => ⟨r, B, z, Y, E, lw, S, hl, h, k⟩
theorem JSs.canon {st : List Stmt} {ds : DS} (h : JSs X g c W L st ds) : PSs X st (canonS X.K g c W L ds) := by
  obtain ⟨t, p, s⟩ := h.ex
  exact ⟨fun pins sh σ H D I ⟨r, B, z, Y, E, lw, S, hl, h, k⟩ => p.run pins sh σ H D I (s σ H r B z Y E D lw S hl h k)⟩
theorem canonE_ok {de : DE} : ES K g c W (canonE K g c W de) de := fun s H r B z Y Q Qv lw S h k => ⟨r, B, z, Y, Q, lw, S, h, k⟩
theorem canonT_ok {dt : DT} : TSm K g c W (canonT K g c W dt) dt := fun s H r B z Y Q Qv lw S h k => ⟨r, B, z, Y, Q, lw, S, h, k⟩
theorem canonG_ok {P : Nat → Prop} {sets : List Nat} {dg : DG} : GSm K g P sets (canonG K g P sets dg) dg := fun s H r B z v d Q Qv S hz h k => ⟨r, B, z, d, Q, S, hz, h, k⟩
theorem JE.canon {e : Expr} {de : DE} (h : JE X g c W e de) : PE X e (canonE X.K g c W de) := by
  obtain ⟨te, pe, se⟩ := h.ex
  exact ⟨fun pins s σ H Q I ⟨r, B, z, Y, Q', lw, S, h, k⟩ => pe.run pins s σ H Q I (se σ H r B z Y Q' Q lw S h k)⟩
theorem JT.canon {e : Expr} {dt : DT} (h : JT X g c W e dt) : PT X e (canonT X.K g c W dt) := by
  obtain ⟨te, pe, se⟩ := h.ex
  exact ⟨fun pins s σ H Q I ⟨r, B, z, Y, Q', lw, S, h, k⟩ => pe.run pins s σ H Q I (se σ H r B z Y Q' Q lw S h k)⟩
theorem JTs.canon {ifs : List Expr} {dt : DT} (h : JTs X g c W ifs dt) : PTs X ifs (canonT X.K g c W dt) := by
  obtain ⟨te, pe, se⟩ := h.ex
  exact ⟨fun pins s σ H Q I ⟨r, B, z, Y, Q', lw, S, h, k⟩ => pe.run pins s σ H Q I (se σ H r B z Y Q' Q lw S h k)⟩
theorem JG.canon {P : Nat → Prop} {sets : List Nat} {tg : Expr} {dg : DG} (h : JG X g P sets tg dg) : PG X tg (canonG X.K g P sets dg) := by
  obtain ⟨te, pe, se⟩ := h.ex
  exact ⟨fun pins s σ H v u Q I rv ⟨r, B, z, d, Q', S, hz, h, k⟩ => pe.run pins s σ H v u Q I rv (se σ H r B z v d Q' Q S hz h k)⟩
theorem j_lc {elt tg iter : Expr} {ifs : List Expr} {scope : Scope} {own : List (Str × Nat)} {pos : Pos} {di : DI} {dg : DG} {dt : DT} {de : DE} {ks sets vs : List Nat} (hc : X.calm = true) (hN : X.N.Nodup) (hi : JI X g c W ks tg iter di) (ok : BlkOk X.N X.env.scope scope own) (hvs : own.map (·.2) = vs) (hv : ∀ i, i ∈ vs → i ∈ g.cs) (hsub : ∀ i, i ∈ sets → i ∈ vs)
    (hg : ∀ (s : Shared) (H : Hp) (C : Addr) (cl : List (Str × Addr)) (fp : List Addr), JG (X.blk s H scope (compEnvC scope cl C X.env) fp) g (· ∉ g.cs) sets tg dg)
    (ht : ∀ (s : Shared) (H : Hp) (C : Addr) (cl : List (Str × Addr)) (fp : List Addr), JTs (X.blk s H scope (compEnvC scope cl C X.env) fp) g c W0 ifs dt)
    (he : ∀ (s : Shared) (H : Hp) (C : Addr) (cl : List (Str × Addr)) (fp : List Addr), JE (X.blk s H scope (compEnvC scope cl C X.env) fp) g c W0 elt de) (hs : ∀ x, foldedSetIterable iter X.env x = pure x := by intro _; rfl) :
    JE X g c W (.ListComp elt [⟨tg, iter, ifs, 0⟩] scope pos) (dLC di dg dt de vs) := by
  obtain ⟨wi, pi, si⟩ := hi.ex
  subst hvs
  exact ⟨_, pe_lc hc hN pi ok (fun s H C cl fp => (hg s H C cl fp).canon) (fun s H C cl fp => (ht s H C cl fp).canon) (fun s H C cl fp => (he s H C cl fp).canon) hs, es_lc si (canonG_ok (P := (· ∉ g.cs))) canonT_ok canonE_ok hv hsub⟩
/-- y = [..] -/
theorem js_setLc {i : Nat} {y : Str} {py : Pos} {elt tg iter : Expr} {ifs : List Expr} {scope : Scope} {own : List (Str × Nat)} {pos spos : Pos} {di : DI} {dg : DG} {dt : DT} {de : DE} {ks sets vs : List Nat} (hiL : i ∉ L) (hn : i < g.n) (hc : X.calm = true) (hN : X.N.Nodup) (hy : X.N[i]? = some y) (hyl : X.env.scope.names.lookup y = some .local)
    (hsw : swapsWith (.ListComp elt [⟨tg, iter, ifs, 0⟩] scope pos) (some (.Name y py)) spos.line X.env = pure true) (hi : JI X g c W ks tg iter di) (ok : BlkOk X.N X.env.scope scope own) (hvs : own.map (·.2) = vs) (hv : ∀ i, i ∈ vs → i ∈ g.cs) (hsub : ∀ i, i ∈ sets → i ∈ vs)
    (hg : ∀ (s : Shared) (H : Hp) (C : Addr) (cl : List (Str × Addr)) (fp : List Addr), JG (X.blk s H scope (compEnvC scope cl C X.env) fp) g (· ∉ g.cs) sets tg dg)
    (ht : ∀ (s : Shared) (H : Hp) (C : Addr) (cl : List (Str × Addr)) (fp : List Addr), JTs (X.blk s H scope (compEnvC scope cl C X.env) fp) g c W0 ifs dt)
    (he : ∀ (s : Shared) (H : Hp) (C : Addr) (cl : List (Str × Addr)) (fp : List Addr), JE (X.blk s H scope (compEnvC scope cl C X.env) fp) g c W0 elt de) (hs : ∀ x, foldedSetIterable iter X.env x = pure x := by intro _; rfl) :
    JS X g c W L (.Assign [.Name y py] (.ListComp elt [⟨tg, iter, ifs, 0⟩] scope pos) spos) (dSet i (dLC di dg dt de vs)) := by
  obtain ⟨wi, pi, si⟩ := hi.ex
  subst hvs
  exact ⟨_, ps_setLc hc hN hy hyl hsw pi ok (fun s H C cl fp => (hg s H C cl fp).canon) (fun s H C cl fp => (ht s H C cl fp).canon) (fun s H C cl fp => (he s H C cl fp).canon) hs, ss_set hiL hn (es_lc si (canonG_ok (P := (· ∉ g.cs))) canonT_ok canonE_ok hv hsub)⟩
theorem SR.drop {B H : Hp} {s : St} {r : Env} {z : Stk} : ∀ {p : Stk}, SR K g B s r (p ++ z) H → SR K g B s r z H
  | [], S => S
  | _ :: p, S => SR.drop (p := p) S.pop
/-! ### try: body except C: suite -/
theorem js_try {x : Str} {C : Addr} {body suite : List Stmt} {b0 : Stmt} {np pos pos' : Pos} {db ds : DS} {sub : Nat → Bool} (hs : X.stack = X.env :: X.outer) (hf : X.env.frame = some X.env.locals) (hC : Names X x (.ref C)) (tk : Takes X W)
    (hsub : ∀ m, c.ok m = true → PySem.W.exmOne X.K (.ref (c.cm m)) (.ref C) = some (sub m))
    (hb : ∀ (W' : WX) (pn : List (Addr × Obj)) (xe : Value → Shared → Prop), Takes (X.tr pn xe) W' → PassesOwn (model X.prog X.w) X.A X.env xe → JSs (X.tr pn xe) g c W' L body db)
    (hsu : ∀ (a : Addr) (oe : Obj) (cls : Value) (d : Option Addr) (pn : List (Addr × Obj)), Zc cls d oe → (∃ vs, oe.data = .fields vs) → JSs (X.suite a ((a, oe) :: pn)) g c W0 L (b0 :: suite) ds) :
    JS X g c W L (.Try body [.ExceptHandler (some (.Name x np)) none (b0 :: suite) pos'] [] [] pos) (dTry sub db ds) := by
  refine ⟨_, ps_try_only (tb := fun W' => canonS X.K g c W' L db) (ts := fun _ _ _ => canonS X.K g c W0 L ds) hs hf hC tk (fun W' pn xe tk' ps => (hb W' pn xe tk' ps).canon) (fun a oe cls d pn h1 h2 => (hsu a oe cls d pn h1 h2).canon), fun s H r B z Y E D lw S hl h k => ?_⟩
  unfold dTry at h
  refine ⟨r, B, z, _, E, ?_, S, hl, h, k⟩
  intro cls d H2 s2 r2 B2 z2 e hz S2 er hY
  obtain ⟨p, rfl⟩ := hz
  have S3 : SR X.K g B2 s2 r2 z H2 := S2.drop
  obtain ⟨rfl, eo, ed⟩ := er
  refine ⟨sub e.cls, hsub _ eo, fun hs a ha => ?_, fun hs => ?_⟩
  · have hY : if sub e.cls = true then ds (fun _ _ => False) E r2 else Y e r2 := hY
    rw [if_pos hs] at hY
    exact ⟨r2, B2, z, _, E, fun _ _ _ _ _ _ _ _ _ _ _ y => y.elim, S3, hl, hY, k⟩
  · have hY : if sub e.cls = true then ds (fun _ _ => False) E r2 else Y e r2 := hY
    rw [if_neg (by rw [hs]; decide)] at hY
    exact lw _ _ H2 s2 r2 B2 z e (List.suffix_refl _) S3 ⟨rfl, eo, ed⟩ hY
end
end J

/-! JL9: a def keeps its promise; repr; the law's own end. -/
namespace J
open PySem L2 PySem.W PyProof.Rows
section
variable {K : PySem.W.Frag} {c : Cl}
theorem startE_len : ∀ {ms : List Bool} {ds : List D} {n : Nat}, ds.length = ms.length → (startE ms ds n).length = ms.length + n
  | [], [], n, _ => by simp [startE]
  | [], _ :: _, n, h => by simp at h
  | _ :: _, [], n, h => by simp at h
  | m :: ms, d :: ds, n, h => by
    show (startE ms ds n).length + 1 = ms.length + 1 + n
    rw [startE_len (by simpa using h)]
    omega
theorem look_none : ∀ {n i : Nat} {t : T}, look (List.replicate n none) i = some t → False
  | 0, _, _, h => by cases h
  | n + 1, 0, _, h => by cases h
  | n + 1, i + 1, t, h => look_none (n := n) (i := i) h
theorem start_env {g : G} {B H : Hp} (hg : g.H0 = H) (hM : g.M = []) : ∀ {ms : List Bool} {vs : List V} {ds : List D} {n : Nat} {tl : L2.St}, ArgsR K B H ms vs ds → ∀ (i : Nat) t, look (startE ms ds n) i = some t →
    (∃ v, (vs.map some ++ tl)[i]? = some (some v) ∧ ∀ s, En K g B H s v t) ∧ (∀ (H : Hp) (v : V) a, ¬ fpT H v t a) ∧ ∀ j, t ≠ .al j
  | _, _, _, n, tl, .nil, i, t, h => (look_none h).elim
  | _, _, _, n, tl, .cap (v := v) (d := d) hr r, 0, t, h => by
    have e : some (argT true d) = some t := h
    cases e
    have e2 : argT true d = .sh d := by cases d <;> rfl
    rw [e2]
    exact ⟨⟨v, rfl, fun _ => hr⟩, fun _ _ _ q => q, fun _ q => (by cases q)⟩
  | _, _, _, n, tl, .cap hr r, i + 1, t, h => by
    obtain ⟨⟨v, h1, h2⟩, h3⟩ := start_env hg hM (tl := tl) r i t h
    exact ⟨⟨v, by simpa using h1, h2⟩, h3⟩
  | _, _, _, n, tl, .bor (v := v) (d := d) hr r, 0, t, h => by
    have e : some (argT false d) = some t := h
    cases e
    cases d with
    | lst ds =>
      obtain ⟨a, vs, rfl, h1, h2⟩ := hr
      exact ⟨⟨_, rfl, fun _ => ⟨a, rfl, by rw [hM]; simp, vs, by rw [hg]; exact h1, h2⟩⟩, fun _ _ _ q => q, fun _ q => (by cases q)⟩
    | dic kvs =>
      obtain ⟨a, rfl, h1⟩ := hr
      exact ⟨⟨_, rfl, fun _ => ⟨a, rfl, by rw [hM]; simp, by rw [hg]; exact h1⟩⟩, fun _ _ _ q => q, fun _ q => (by cases q)⟩
    | _ => exact ⟨⟨v, rfl, fun _ => hr⟩, fun _ _ _ q => q, fun _ q => (by cases q)⟩
  | _, _, _, n, tl, .bor hr r, i + 1, t, h => by
    obtain ⟨⟨v, h1, h2⟩, h3⟩ := start_env hg hM (tl := tl) r i t h
    exact ⟨⟨v, by simpa using h1, h2⟩, h3⟩
theorem sr_start {B H : Hp} {ms : List Bool} {vs : List V} {ds : List D} {N : List Str} {cs : List Nat} (hB : Same B H) (ha : ArgsR K B H ms vs ds) (hN : ms.length ≤ N.length) :
    SR K ⟨H, B, [], cs, N.length, noX⟩ B (L2.start N vs) (startE ms ds (N.length - ms.length)) [] H := by
  obtain ⟨l1, l2⟩ := ha.len
  have ev := start_env (K := K) (g := ⟨H, B, [], cs, N.length, noX⟩) (B := B) (H := H) rfl rfl (n := N.length - ms.length) (tl := List.replicate (N.length - vs.length) none) ha
  have le : (startE ms ds (N.length - ms.length)).length = N.length := by rw [startE_len l2]; omega
  refine ⟨Same.refl _, hB, fun a h => Or.inl h, fun a o h _ => h, fun a h => h, ?_, le, fun i t h => ?_, fun x hx => absurd hx List.not_mem_nil, fun i v hx => absurd hx List.not_mem_nil, fun i j t u v w _ h _ _ _ a q _ => ?_, fun i t v x h _ hx => absurd hx List.not_mem_nil, List.Pairwise.nil, fun i j h => ?_⟩
  · rw [le]
    unfold L2.start
    rw [List.length_append, List.length_map, List.length_replicate, l1]
    omega
  · obtain ⟨⟨v, h1, h2⟩, _⟩ := ev i t h
    exact ⟨v, h1, h2 _⟩
  · exact (ev i _ h).2.1 _ _ _ q
  · exact (ev i _ h).2.2 _ rfl
/-- a body's reading at the promise's entry -/
theorem enter {ms : List Bool} {S : Spec} {db : DS} {N : List Str} {cs : List Nat} {t : TS} {vs : List V} {H : Hp} {Q : VK} {E : XK} (hN : ms.length ≤ N.length) (hk : Keeps ms (N.length - ms.length) S db)
    {B : Hp} {ds : List D} {E0 : Err → Prop} {Q0 : T → Prop} (st : SSm K ⟨H, B, [], cs, N.length, noX⟩ c (fun cls d _ H => E cls d H) [] t db) (hB : Same B H) (ha : ArgsR K B H ms vs ds) (hS : S ds E0 Q0)
    (hE : ∀ e, E0 e → ∀ cls d H' B', Out B H B' H' → ErrR c B' e cls d → E cls d H') (hQ : ∀ t, Q0 t → ∀ v H' B', Out B H B' H' → ResR K B B' H' H v t → Q v H') : t { nx := fun _ H' => Q .non H', rt := Q } (L2.start N vs) H := by
  obtain ⟨_, hb⟩ := hk ds E0 Q0 hS
  have S0 := sr_start (K := K) (N := N) (cs := cs) hB ha hN
  have same : ∀ {B' H' : Hp} {s : L2.St} {r : Env} {z : Stk}, SR K ⟨H, B, [], cs, N.length, noX⟩ B' s r z H' → Same H H' := fun S a o e => S.h0 a o e (by simp)
  have out : ∀ {B' H' : Hp} {s : L2.St} {r : Env} {z : Stk}, SR K ⟨H, B, [], cs, N.length, noX⟩ B' s r z H' → Out B H B' H' := fun S => ⟨same S, S.b0, S.bh, fun a q => by
    rcases S.fr a q with q | q | q
    · exact Or.inl q
    · exact Or.inr q
    · exact absurd q List.not_mem_nil⟩
  refine st (L2.start N vs) H _ B [] _ _ _ ?_ S0 (fun i w hw => absurd hw List.not_mem_nil) hb ⟨fun s H' B' r S q => ?_, fun v s H' B' r tt S q => ?_, fun _ _ _ _ _ q => q.elim, fun _ _ _ _ _ q => q.elim⟩
  · intro cls d H2 s2 r2 B2 z2 e _ S2 er hY
    exact hE e hY cls d H2 B2 (out S2) er
  · exact hQ _ q .non H' B' (out S) .non
  · cases tt with
    | sh d => exact hQ _ q v H' B' (out S) S.top
    | ol es =>
      obtain ⟨p, ws, e, h1, h2, h3, h4⟩ := S.top
      refine hQ _ q v H' B' (out S) ⟨p, ws, e, h1, h2, h3, ?_⟩
      rcases h4 with h4 | h4
      · exact h4
      · exact absurd h4 List.not_mem_nil
    | own f =>
      refine hQ _ q v H' B' (out S) ⟨S.top.1, fun a qa => ⟨(S.top.2 a qa).1, ?_⟩⟩
      rcases (S.top.2 a qa).2 with h4 | h4
      · exact h4
      · exact absurd h4 List.not_mem_nil
    | _ => exact q.elim
variable {P : Program} {w : World} {mg : Str → Option Value} {base : Heap}
theorem fnJ {x qual : Str} {st : Stmt} {f : Addr} {fd : FuncData} {N ps : List Str} {k : Nat} {ms : List Bool} {S : Spec} {db : DS} (cs : List Nat) (F : Fun K x qual st f fd) (Sc : FnScope N ps (defScope st)) (hms : ms.length = ps.length) (hN : ms.length ≤ N.length)
    (hk : Keeps ms (N.length - ms.length) S db)
    (body : ∀ (cdv : Value) (A : Around) (outer : List PySem.Env) (s : Shared) (H : Hp) (E : XK) (B : Hp), Room k (cxOf (L2.CX P w) P w K mg base N qual (defScope st) f cdv A outer s H E).A →
      JSs (cxOf (L2.CX P w) P w K mg base N qual (defScope st) f cdv A outer s H E) ⟨H, B, [], cs, N.length, noX⟩ c (fun cls d _ H => E cls d H) [] (defBody st) db) :
    FnOk P w K mg base (L2.CX P w) (k + 1) f fd ps (SpJ K c ms S) := by
  refine F.okX Sc (fun vs H Q E h => ?_) (fun cdv A outer s H vs Q E hr h => ?_)
  · obtain ⟨B, ds, _, ha, _⟩ := h
    rw [ha.len.1, hms]
  · obtain ⟨B, ds, hB, ha, E0, Q0, hS, hE, hQ⟩ := h
    obtain ⟨t, pt, stt⟩ := (body cdv A outer s H E B hr).ex
    exact ⟨t, pt, enter hN hk stt hB ha hS hE hQ⟩

/-! ### a def where nothing is being shown (repr may be asked) -/
abbrev Ungd (A : Around) : Prop := A.guards = some []
structure FnP (P : Program) (w : World) (K : PySem.W.Frag) (mg : Str → Option Value) (base : Heap) (k : Nat) (f : Addr) (fd : FuncData) (ps : List Str) (sp : Sp) : Prop where
  len : ∀ vs H Q E, sp vs H Q E → vs.length = ps.length
  run : ∀ (A : Around) (outer : List PySem.Env) (s : Shared) (H : Hp) (args : Args) (us : List Value) (vs : List V) (Q : VK) (E : XK), Ungd A → Room k A → Env0 P w K mg base A outer s H →
    BindsTo s fd args (ps.zip us) → Vals vs us → sp vs H Q E → codeAny (model P w) A (.call (.ref f) args) (CR (L2.CX P w) outer P w H s Q E) s
theorem fnP {x qual : Str} {st : Stmt} {f : Addr} {fd : FuncData} {N ps : List Str} {k : Nat} {sp : Sp} (F : Fun K x qual st f fd) (Sc : FnScope N ps (defScope st)) (hlen : ∀ vs H Q E, sp vs H Q E → vs.length = ps.length)
    (body : ∀ (cdv : Value) (A : Around) (outer : List PySem.Env) (s : Shared) (H : Hp) (vs : List V) (Q : VK) (E : XK), Ungd A → Room k (A.deeper (envOfC qual (defScope st) s.heap.objs.size f cdv)) → sp vs H Q E →
      ∃ t, PSs (cxOf (L2.CX P w) P w K mg base N qual (defScope st) f cdv A outer s H E) (defBody st) t ∧ t { nx := fun _ H' => Q .non H', rt := Q } (L2.start N vs) H) : FnP P w K mg base (k + 1) f fd ps sp := by
  obtain ⟨oc, od, kV, doc, pm, an, cdv, ct, osl, rfl, lk, hcd⟩ := F.ex
  refine ⟨hlen, fun A outer s H args us vs Q E hgd hr e0 hb r hsp => ?_⟩
  have keepB := fun b o e => (e0.bs b o e).1
  have kin := e0.mod.kin.keeps keepB
  have names : ∀ y ∈ ps.zip us, (defScope st).names.lookup y.1 = some .local ∨ ((defScope st).names.lookup y.1 = some .cell ∧ ((cellsFrom (s.heap.objs.size + 1) (defScope st).names []).lookup y.1).isSome = true) := by
    rintro ⟨n, v⟩ hy
    cases Sc.par n (List.of_mem_zip hy).1 with
    | inl q => exact .inl q
    | inr q => exact .inr ⟨q, cellsFrom_some _ _ _ (.inl q)⟩
  refine codeAny_call_function hr.depth (kin _ _ lk) rfl Sc.co Sc.gen rfl (codeRec_of kin hcd) (hb _ _ _ _ ?_)
  refine wpAny_newFunctionEnv_cells Sc.kind names fun en hen s1 ic => ?_
  subst hen
  refine ⟨(e0.mod.nolimit.keeps keepB).keeps ic.toInCall.keep, codeAny_func ?_⟩
  obtain ⟨t, ht, hq⟩ := body cdv A outer s H vs Q E hgd (hr.deeper _) hsp
  have I0 := inv_start (CX := L2.CX P w) (E := E) Sc hr.hd e0 (hlen _ _ _ _ hsp) r ic
  refine wpAny_mono (ht.run [] s1 (L2.start N vs) H _ I0 hq) ?_ (fun _ _ z => z)
  intro fl s2 hs
  cases fl with
  | next =>
    obtain ⟨_, H2, J, q⟩ := hs
    exact ⟨.non, H2, J.os, J.bare, J.base, J.hok, rfl, q⟩
  | ret u =>
    obtain ⟨v, _, H2, J, rv, q⟩ := hs
    exact ⟨v, H2, J.os, J.bare, J.base, J.hok, rv, q⟩
  | brk => exact hs.elim fun _ h => h.elim fun _ h => h.2.elim
  | cont => exact hs.elim fun _ h => h.elim fun _ h => h.2.elim
theorem fnJP {x qual : Str} {st : Stmt} {f : Addr} {fd : FuncData} {N ps : List Str} {k : Nat} {ms : List Bool} {S : Spec} {db : DS} (cs : List Nat) (F : Fun K x qual st f fd) (Sc : FnScope N ps (defScope st)) (hms : ms.length = ps.length) (hN : ms.length ≤ N.length)
    (hk : Keeps ms (N.length - ms.length) S db)
    (body : ∀ (cdv : Value) (A : Around) (outer : List PySem.Env) (s : Shared) (H : Hp) (E : XK) (B : Hp), Ungd A → Room k (cxOf (L2.CX P w) P w K mg base N qual (defScope st) f cdv A outer s H E).A →
      JSs (cxOf (L2.CX P w) P w K mg base N qual (defScope st) f cdv A outer s H E) ⟨H, B, [], cs, N.length, noX⟩ c (fun cls d _ H => E cls d H) [] (defBody st) db) :
    FnP P w K mg base (k + 1) f fd ps (SpJ K c ms S) := by
  refine fnP F Sc (fun vs H Q E h => ?_) (fun cdv A outer s H vs Q E hgd hr h => ?_)
  · obtain ⟨B, ds, _, ha, _⟩ := h
    rw [ha.len.1, hms]
  · obtain ⟨B, ds, hB, ha, E0, Q0, hS, hE, hQ⟩ := h
    obtain ⟨t, pt, stt⟩ := (body cdv A outer s H E B hgd hr).ex
    exact ⟨t, pt, enter hN hk stt hB ha hS hE hQ⟩
end
end J

/-! JL10: repr, where nothing else is being shown; the law's end. -/
namespace J
open PySem L2 PySem.W PyProof.Rows
mutual
theorem py_bulk : ∀ d : D, (py d).bulk = bulkR d
  | .non => rfl
  | .bl _ => rfl
  | .int _ => rfl
  | .str s => by simp [py, PyData.bulk, bulkR]
  | .lst ds => pys_bulk ds
  | .tup ds => pys_bulk ds
  | .scr _ => rfl
  | .dic _ => rfl
  | .sett _ => rfl
  | .obj _ _ => rfl
  | .fn _ => rfl
theorem pys_bulk : ∀ ds : List D, PyData.bulkAll (pys ds) = bulkRs ds
  | [] => rfl
  | d :: ds => by
    show (py d).bulk + 1 + PyData.bulkAll (pys ds) = bulkR d + 1 + bulkRs ds
    rw [py_bulk d, pys_bulk ds]
end
mutual
theorem py_short : ∀ d : D, lay d = true → smallR d = true → (py d).leavesShort 161 = true
  | .non, _, _ => rfl
  | .bl _, _, _ => rfl
  | .int i, _, h => by
    have h' : i.natAbs < 10 ^ 160 := of_decide_eq_true h
    have := int_text_length_le10 (a := i) (k := 160) (by decide) h'
    refine decide_eq_true ?_
    show (Str.ofString (toString i)).length ≤ 161
    rw [PySem.ofString_length]
    exact this
  | .str s, h, _ => by
    have h' : s.all (· < 0x110000) = true := h
    show (Array.toList (List.toArray s)).all (fun c => decide (c < 16 ^ 8)) = true
    rw [List.all_eq_true] at h' ⊢
    intro c hc
    have := h' c (by simpa using hc)
    simp only [decide_eq_true_eq] at this ⊢
    omega
  | .lst ds, h, k => pys_short ds h k
  | .tup ds, h, k => pys_short ds h k
  | .scr _, h, _ => by cases h
  | .dic _, h, _ => by cases h
  | .sett _, h, _ => by cases h
  | .obj _ _, h, _ => by cases h
  | .fn _, h, _ => by cases h
theorem pys_short : ∀ ds : List D, lays ds = true → smallRs ds = true → PyData.leavesShortAll 161 (pys ds) = true
  | [], _, _ => rfl
  | d :: ds, h, k => by
    have h' : (lay d && lays ds) = true := h
    have k' : (smallR d && smallRs ds) = true := k
    rw [Bool.and_eq_true] at h' k'
    show ((py d).leavesShort 161 && PyData.leavesShortAll 161 (pys ds)) = true
    rw [py_short d h'.1 k'.1, pys_short ds h'.2 k'.2]
    rfl
end
theorem log_small {n : Nat} (h : n < bigN) : n.log2 < 1920 := by
  by_cases h0 : n = 0
  · subst h0; decide
  · rw [Nat.log2_lt h0]
    exact Nat.lt_of_lt_of_le h (by decide)
mutual
theorem py_show : ∀ d : D, lay d = true → smallR d = true → (py d).showable = true
  | .non, _, _ => rfl
  | .bl _, _, _ => rfl
  | .int i, _, h => decide_eq_true (log_small (of_decide_eq_true h))
  | .str s, _, _ => rfl
  | .lst ds, h, k => pys_show ds h k
  | .tup ds, h, k => pys_show ds h k
  | .scr _, h, _ => by cases h
  | .dic _, h, _ => by cases h
  | .sett _, h, _ => by cases h
  | .obj _ _, h, _ => by cases h
  | .fn _, h, _ => by cases h
theorem pys_show : ∀ ds : List D, lays ds = true → smallRs ds = true → PyData.showableAll (pys ds) = true
  | [], _, _ => rfl
  | d :: ds, h, k => by
    have h' : (lay d && lays ds) = true := h
    have k' : (smallR d && smallRs ds) = true := k
    rw [Bool.and_eq_true] at h' k'
    show ((py d).showable && PyData.showableAll (pys ds)) = true
    rw [py_show d h'.1 k'.1, pys_show ds h'.2 k'.2]
    rfl
end
theorem py_nodict (d : D) (h : lay d = true) : (py d).hasDict = false := PyData.hasDict_of_canLay _ (py_lay d h)
section
variable {X : Cx} {g : G} {c : Cl} {W : WX} {L : List Nat} {K : PySem.W.Frag}
theorem fits_bulk {d : PyData} (hl : d.leavesShort 161 = true) (hw : d.bulk ≤ 100000) : d.shown.length ≤ sizeLine := by
  have h := PyData.shown_le_bulk 161 (by decide) d hl
  rw [sizeLine_eq]
  omega
def rReprD (K : PySem.W.Frag) : List V → Hp → VK → Prop := fun vs H Q => ∃ (x : V) (d : D), vs = [x] ∧ Dp K H x (py d) ∧ okR d ∧ Q (.str (py d).shown) H
theorem cr_repr {k : Nat} (hr : Room k X.A) (hgd : Ungd X.A) : CallR X (.builtin "repr") (rReprD X.K) := by
  intro pins s σ H xs us Q I r h
  obtain ⟨x, d, rfl, hd, ⟨o1, o2, o3, o4⟩, q⟩ := h
  have hsz : (py d).shown.length ≤ sizeLine := fits_bulk (py_short d o1 o3) (by rw [py_bulk]; exact o4)
  have hdep : (py d).depth ≤ 60 := by
    rcases py_deep d with e | e
    · rw [e]; exact o2
    · rw [o1] at e; cases e
  cases r with
  | cons r1 rn =>
    rename_i u us'
    cases rn
    obtain ⟨as, rd⟩ := Dp.reads I (py d) x u hd r1
    cases hx : py d with
    | none =>
      rw [hx] at hd q
      cases hd
      cases r1
      exact PySem.P.repr_of_none ⟨.str _, H, I.tok _, ⟨_, rfl⟩, q⟩
    | bool b =>
      rw [hx] at hd q
      cases hd
      cases r1
      exact PySem.P.repr_of_bool ⟨.str _, H, I.tok _, ⟨_, rfl⟩, q⟩
    | int i =>
      rw [hx] at hd q
      cases hd
      obtain ⟨t, rfl⟩ := r1
      have hs := py_show d o1 o3
      rw [hx] at hs
      exact PySem.P.repr_of_int (of_decide_eq_true hs) ⟨.str _, H, I.tok _, ⟨_, rfl⟩, q⟩
    | str t =>
      rw [hx] at hd q hsz
      cases hd
      obtain ⟨t', rfl⟩ := r1
      exact PySem.P.repr_of_str ⟨.str _, H, I.tok _, ⟨_, rfl⟩, q⟩ hsz
    | list ds =>
      have hu := hr.units
      rw [hx] at hd q
      cases hd with
      | lst h1 h2 =>
        cases r1
        rw [← hx] at q
        exact repr_of_reads' rd (py_show d o1 o3) (PyData.noDict_hsm (py_nodict d o1)) hgd (by omega) (fun _ _ e => e) (fun h' u tk hk => ⟨.str _, H, I.kept hk, ⟨_, rfl⟩, q⟩) hsz
    | tuple ds =>
      have hu := hr.units
      rw [hx] at hd q
      cases hd with
      | tup h1 h2 =>
        cases r1
        rw [← hx] at q
        exact repr_of_reads' rd (py_show d o1 o3) (PyData.noDict_hsm (py_nodict d o1)) hgd (by omega) (fun _ _ e => e) (fun h' u tk hk => ⟨.str _, H, I.kept hk, ⟨_, rfl⟩, q⟩) hsz
    | dict _ => rw [hx] at hd; cases hd
theorem j_repr {k : Nat} {e : Expr} {de : DE} {p pos : Pos} (hr : Room k X.A) (hgd : Ungd X.A) (hg : Gl X "repr") (hm : X.mg "repr" = none) (he : JE X g c W e de) (hs : starEach [e] X.env = (false, eval e X.env) :: starEach [] X.env := by rfl)
    (hpl : (backTo pos (starEach [] X.env)).any (·.1) = false := by rfl) : JE X g c W (.Call (.Name "repr" p) [e] [] pos) (dRepr de) := by
  obtain ⟨te, pe, se⟩ := he.ex
  refine ⟨_, pe_callB (cr_repr hr hgd) hg hm (by decide +kernel) (pa_cons pe pa_nil hs) (by decide) (by decide) hs hpl, fun s H r B z Y Q Qv lw S h k => ?_⟩
  refine se s H r B z Y _ _ lw S h fun v H1 B1 r1 t1 S1 q1 => ?_
  split at q1
  · rename_i d e1
    refine ⟨v, d, rfl, dp_view S1.bh (S1.view List.mem_cons_self e1) q1.1.1, q1.1, ?_⟩
    refine k _ H1 B1 r1 _ (S1.pop.push ?_) q1.2
    have e : V.str (py d).shown = V.str (codes (reprD d)) := by simp [codes, reprD]
    rw [e]
    exact .str _
  · exact q1.elim
end
theorem law_end {l : PySem.W.OpenLaw} {k : Nat} {q : Program} {loose : List Str} {XP : (Str → Option Value) → Heap → Prop} {YP : World → Heap → Prop} {d : DefRec} {KK : Params → PySem.W.Frag} {x : Str}
    (hn : l.most = some 63) (hdf : d.params.defaults = []) (hr : Room k callerA) (hY : ∀ (w : World) (h : Heap), YP w h → (KK w.params).In h)
    (F : ∀ (w : World) (mg : Str → Option Value) (fa : Addr) (h : Heap), (KK w.params).In h → h.Ns mainGlobals mg → mg d.name = some (.ref fa) →
      ∃ (fd : FuncData) (cl : Cl), (∀ (s : Shared) (u : Value), BindsTo s fd ⟨[u], []⟩ [(x, u)]) ∧
        ∀ base : Heap, (KK w.params).In base → base.Ns mainGlobals mg → FnP l.prog w (KK w.params) mg base k fa fd [x] (SpJ (KK w.params) cl [false] SLaw)) :
    PySem.W.WalkO q loose XP YP l.row.toRowW d [] (fun f vs => PySem.call f vs) := by
  refine Att.attach_call hn hdf fun w s0 s1 mg mb fa o pm cd doc a vs ns G Y ho hd hcd hmg hobj hints hlen hg => ?_
  have KX := hY w _ Y
  obtain ⟨fd, cl, hb, hF⟩ := F w mg fa _ KX G.T.g hmg
  -- what is tracked at the entry: the script alone, where it is none of the module's own
  let oS : Obj := { cls := .type "list", data := .seq vs.toArray }
  have szl : (ns.map V.int).length ≤ sizeLine := by
    rw [List.length_map, ← size_is]
    omega
  have rv := vals_ints hints
  have go : ∀ H : Hp, (∀ b u, H b = some u → b = a ∧ u = .frz oS (.lst (ns.map V.int)) ∧ (KK w.params).lookup a = none) → SqL (KK w.params) H a (ns.map V.int) → HOk l.prog w H s1.heap →
      codeAny (model l.prog w) callerA (.call (.ref fa) ⟨[.ref a], []⟩) (fun r s' => r = .ok (.ret (.bool true)) ∧ OldK s1.heap s'.heap ∧ s'.os = s1.os ∧ AllBare s'.gens) s1 := by
    intro H hO hS hok
    have hid : ∀ {b : Addr} {ob : Obj}, s1.heap.get? b = some ob → H b = none → (hidT s1.heap H).get? b = some ob := fun e n => hidT_get e n
    have untr : ∀ {b : Addr} {ob : Obj} {es : Array DictEntry} {ep : Nat}, s1.heap.get? b = some ob → ob.data = .dict es ep → H b = none := fun {b ob es ep} e dd => by
      cases q : H b with
      | none => rfl
      | some u =>
        obtain ⟨rfl, _, _⟩ := hO b u q
        rw [hobj] at e
        cases e
        cases dd
    have nsOf : ∀ {b : Addr} {m : Str → Option Value}, s1.heap.Ns b m → (hidT s1.heap H).Ns b m := fun {b m} ⟨ob, es, ep, e, dd, rr⟩ => ⟨ob, es, ep, hid e (untr e dd), dd, rr⟩
    have kb : (KK w.params).In (hidT s1.heap H) := fun b ob e => hid (KX b ob e) (by
      cases q : H b with
      | none => rfl
      | some u =>
        obtain ⟨rfl, _, ek⟩ := hO b u q
        rw [ek] at e
        cases e)
    have hM : Mod (KK w.params) mg (hidT s1.heap H) := ⟨kb, nsOf G.T.g, ⟨mb, nsOf G.T.b, G.T.builtins⟩, by
      obtain ⟨mc, n1, n2⟩ := G.T.nolimit
      exact ⟨mc, nsOf n1, n2⟩⟩
    have e0 : Env0 l.prog w (KK w.params) mg (hidT s1.heap H) callerA [] s1 H :=
      ⟨rfl, hM, fun b ob e => of_hidT e, Nat.le_of_eq (hidT_size _ _), trivial, fun b hb => absurd hb List.not_mem_nil, hok, .of_eq hg⟩
    have prom : SpJ (KK w.params) cl [false] SLaw [.ref a] H (fun v _ => v = .bl true) (fun _ _ _ => False) :=
      ⟨H, [.scr ns], Same.refl _, .bor (.scr hS) .nil, fun _ => False, fun t => t = .sh (.bl true), ⟨ns, rfl, hlen, rfl⟩, fun _ z => z.elim, fun t e v H' B' _ rr => by
        subst e
        cases rr
        rfl⟩
    refine codeAny_mono ((hF _ kb (nsOf G.T.g)).run callerA [] s1 H ⟨[.ref a], []⟩ [.ref a] [.ref a] _ _ rfl hr e0 (hb s1 (.ref a)) (.cons rfl .nil) prom) ?_
    intro r s' h
    cases r with
    | error e =>
      obtain ⟨_, _, _, _, _, _, _, _, _, _, _, _, z⟩ := h
      exact z.elim
    | ok fl =>
      cases fl with
      | ret u =>
        obtain ⟨v, H', hos, bare, un, hok', rr, q⟩ := h
        have q' : v = .bl true := q
        subst q'
        cases rr
        refine ⟨rfl, OldK.of_keep fun b ob e => ?_, hos, bare⟩
        cases q : H b with
        | none => exact un.keep b ob e q (fun z => absurd z List.not_mem_nil) (fun z => absurd z List.not_mem_nil)
        | some u =>
          obtain ⟨rfl, rfl, _⟩ := hO b u q
          rw [hobj] at e
          cases e
          exact (hok' b _ (un.frzs b _ _ q)).1
      | next => exact False.elim h
      | brk => exact False.elim h
      | cont => exact False.elim h
  cases hk : (KK w.params).lookup a with
  | some ob =>
    have e := KX a ob hk
    rw [hobj] at e
    cases e
    exact go (fun _ => none) (fun _ _ e => by cases e) (.inr ⟨_, vs.toArray, _, hk, rfl, rfl, rfl, by rw [List.size_toArray, ← rv.length]; exact szl, by simpa using rv⟩) (fun _ _ e => by cases e)
  | none =>
    refine go (upd (fun _ => none) a (.frz oS (.lst (ns.map V.int)))) (fun b u e => ?_) (.inl (.inr ⟨oS, upd_same⟩)) (fun b u e => ?_)
    all_goals
      by_cases hb : b = a
      · subst hb
        rw [upd_same] at e
        cases e
        first
          | exact ⟨rfl, rfl, hk⟩
          | exact ⟨hobj, szl, vs, _, rv, hobj⟩
      · rw [upd_ne hb] at e
        cases e
end J

/-! JL11: more: a slot's list becomes shared where it stands; kept comprehensions. -/
namespace J
open PySem L2
section
variable {X : Cx} {g : G} {c : Cl} {W : WX} {L : List Nat} {K : PySem.W.Frag}
theorem es_f {te : TE} {de : DE} (hs : ES K g c W te de) : ES K g c W te (dF de) := fun s H r B z Y Q Qv lw S h k => hs s H r B z Y _ Qv lw S h fun v H' B' r' t S' q => by
  split at q
  · obtain ⟨B2, _, S2⟩ := S'.freeze
    exact k v H' B2 r' _ S2 q
  · exact k v H' B' r' _ S' q
  · obtain ⟨B2, _, S2⟩ := S'.freezeT rfl
    exact k v H' B2 r' _ S2 q
  · exact q.elim
theorem js_setLcF {i : Nat} {y : Str} {py : Pos} {elt tg iter : Expr} {ifs : List Expr} {scope : Scope} {own : List (Str × Nat)} {pos spos : Pos} {di : DI} {dg : DG} {dt : DT} {de : DE} {ks sets vs : List Nat} (hiL : i ∉ L) (hn : i < g.n) (hc : X.calm = true) (hN : X.N.Nodup) (hy : X.N[i]? = some y) (hyl : X.env.scope.names.lookup y = some .local)
    (hsw : swapsWith (.ListComp elt [⟨tg, iter, ifs, 0⟩] scope pos) (some (.Name y py)) spos.line X.env = pure true) (hi : JI X g c W ks tg iter di) (ok : BlkOk X.N X.env.scope scope own) (hvs : own.map (·.2) = vs) (hv : ∀ i, i ∈ vs → i ∈ g.cs) (hsub : ∀ i, i ∈ sets → i ∈ vs)
    (hg : ∀ (s : Shared) (H : Hp) (C : Addr) (cl : List (Str × Addr)) (fp : List Addr), JG (X.blk s H scope (compEnvC scope cl C X.env) fp) g (· ∉ g.cs) sets tg dg)
    (ht : ∀ (s : Shared) (H : Hp) (C : Addr) (cl : List (Str × Addr)) (fp : List Addr), JTs (X.blk s H scope (compEnvC scope cl C X.env) fp) g c W0 ifs dt)
    (he : ∀ (s : Shared) (H : Hp) (C : Addr) (cl : List (Str × Addr)) (fp : List Addr), JE (X.blk s H scope (compEnvC scope cl C X.env) fp) g c W0 elt de) (hs : ∀ x, foldedSetIterable iter X.env x = pure x := by intro _; rfl) :
    JS X g c W L (.Assign [.Name y py] (.ListComp elt [⟨tg, iter, ifs, 0⟩] scope pos) spos) (dSet i (dF (dLC di dg dt de vs))) := by
  obtain ⟨wi, pi, si⟩ := hi.ex
  subst hvs
  exact ⟨_, ps_setLc hc hN hy hyl hsw pi ok (fun s H C cl fp => (hg s H C cl fp).canon) (fun s H C cl fp => (ht s H C cl fp).canon) (fun s H C cl fp => (he s H C cl fp).canon) hs, ss_set hiL hn (es_f (es_lc si (canonG_ok (P := (· ∉ g.cs))) canonT_ok canonE_ok hv hsub))⟩
theorem put_put {i : Nat} {a b : Option T} : ∀ {r : Env}, put (put r i a) i b = put r i b := by
  intro r
  induction r generalizing i with
  | nil => rfl
  | cons x r ih =>
    cases i with
    | zero => rfl
    | succ i => exact congrArg (x :: ·) ih
theorem SR.back {B H : Hp} {s : St} {r : Env} {z : Stk} {v : V} {d : D} {i : Nat} (S : SR K g B s r ((v, .sh d) :: z) H) (hi : i < r.length) (hs : s[i]? = some (some v)) : SR K g B s (put r i (some (.sh d))) ((v, .sh d) :: z) H := by
  have one : ∀ {j : Nat} {t' : T}, look (put r i (some (.sh d))) j = some t' → (j = i ∧ t' = .sh d) ∨ look r j = some t' := fun {j t'} e => by
    by_cases q : i = j
    · subst q
      rw [look_put_self hi] at e
      cases e
      exact Or.inl ⟨rfl, rfl⟩
    · rw [look_put_ne q] at e
      exact Or.inr e
  have two : ∀ {j : Nat} {t : T} {H : Hp} {w : V} {a : Addr}, look (put r i (some (.sh d))) j = some t → fpT H w t a → look r j = some t := fun {j t H w a} e q' => by
    rcases one e with ⟨_, q⟩ | q
    · subst q; exact q'.elim
    · exact q
  refine ⟨S.b0, S.bh, S.fr, S.h0, S.hm, by rw [put_len]; exact S.len, by rw [put_len]; exact S.ln, fun j t' e => ?_, S.stk, S.al, fun j k t u v w hjk a b c d x q1 q2 => S.d1 j k t u v w hjk (two a q1) (two b q2) c d x q1 q2, fun j t v x a b hx y q1 q2 => S.d2 j t v x (two a q1) b hx y q1 q2, S.d3, fun j k e => ?_⟩
  · rcases one e with ⟨rfl, rfl⟩ | e
    · exact ⟨v, hs, S.top⟩
    · exact S.env j t' e
  · rcases one e with ⟨_, q⟩ | e
    · cases q
    · exact S.ea j k e
/-- slot i's list is shared from here on -/
theorem j_m (i : Nat) {x : Str} {pos : Pos} (hN : X.N[i]? = some x := by rfl) (hv : Vis X.env.scope x := by first | exact Or.inl rfl | exact Or.inr (Or.inl rfl) | exact Or.inr (Or.inr rfl)) (hd : (x == ("__debug__" : Str)) = false := by decide)
    (hcd : (x == ("__classdict__" : Str)) = false := by decide) : JE X g c W (.Name x pos) (dM i) := by
  refine ⟨_, pe_var hN hv hd hcd, fun s H r B z Y Q Qv _ S h k => ?_⟩
  unfold dM at h
  split at h
  · rename_i ds l
    obtain ⟨v, e1, S'⟩ := S.take l
    obtain ⟨B2, _, S2⟩ := S'.freeze
    have S3 := S2.back (i := i) (by rw [put_len]; exact look_lt l) e1
    rw [put_put] at S3
    exact ⟨v, e1, k v H B2 _ _ S3 h⟩
  · rename_i d l
    obtain ⟨v, e1, e2⟩ := S.env i _ l
    exact ⟨v, e1, k v H B r _ (S.push e2) h⟩
  · rename_i f l
    obtain ⟨v, e1, S'⟩ := S.takeT l fun j e => by cases e
    obtain ⟨B2, _, S2⟩ := S'.freezeT rfl
    have S3 := S2.back (i := i) (by rw [put_len]; exact look_lt l) e1
    rw [put_put] at S3
    exact ⟨v, e1, k v H B2 _ _ S3 h⟩
  · exact h.elim
end
end J

/-! JL12: more rules: several clauses, held errors, isinstance, a list's own methods, ranges downwards. -/
namespace J
open PySem L2
section
variable {X : Cx} {g : G} {c : Cl} {W : WX} {L : List Nat} {K : PySem.W.Frag}
/-! ### a held error in the account -/
abbrev G.hold (g : G) (xs : Addr → Nat → List D → Hp → Prop) : G := ⟨g.H0, g.B0, g.M, g.cs, g.n, xs⟩
theorem En.hold {xs : Addr → Nat → List D → Hp → Prop} {B H : Hp} {s : St} {v : V} (hx : g.xs = noX) : ∀ {t : T}, En K g B H s v t → En K (g.hold xs) B H s v t
  | .sh _, h => h
  | .bor _, h => h
  | .al _, h => h
  | .ol _, h => h
  | .own _, h => h
  | .ptr _ _ _, h => h
  | .exc n ds, ⟨a, _, _, _, h⟩ => by rw [hx] at h; exact h.elim
theorem En.unhold {xs : Addr → Nat → List D → Hp → Prop} {B H : Hp} {s : St} {v : V} : ∀ {t : T}, noXT t → En K (g.hold xs) B H s v t → En K g B H s v t
  | .sh _, _, h => h
  | .bor _, _, h => h
  | .al _, _, h => h
  | .ol _, _, h => h
  | .own _, _, h => h
  | .ptr _ _ _, _, h => h
  | .exc n ds, h, _ => h.elim
theorem SR.noX {B H : Hp} {s : St} {r : Env} {z : Stk} (S : SR K g B s r z H) (hx : g.xs = J.noX) : ∀ x ∈ z, noXT x.2 := fun x hx' => by
  obtain ⟨v, t⟩ := x
  cases t with
  | exc n ds =>
    obtain ⟨a, _, _, _, h⟩ := S.stk _ hx'
    rw [hx] at h
    exact h.elim
  | _ => trivial
theorem look_clE : ∀ (r : Env) (i : Nat), look (clE r) i = (match look r i with
    | some (.exc _ _) => none
    | t => t)
  | [], _ => rfl
  | none :: _, 0 => rfl
  | some (.exc _ _) :: _, 0 => rfl
  | some (.sh _) :: _, 0 => rfl
  | some (.bor _) :: _, 0 => rfl
  | some (.al _) :: _, 0 => rfl
  | some (.ol _) :: _, 0 => rfl
  | some (.own _) :: _, 0 => rfl
  | some (.ptr _ _ _) :: _, 0 => rfl
  | _ :: r, i + 1 => look_clE r i
theorem look_cl {r : Env} {i : Nat} {t : T} (h : look (clE r) i = some t) : look r i = some t ∧ noXT t := by
  rw [look_clE] at h
  cases l : look r i with
  | none => rw [l] at h; cases h
  | some u =>
    rw [l] at h
    cases u with
    | exc _ _ => cases h
    | _ => cases h; exact ⟨rfl, trivial⟩
theorem SR.holdX {xs : Addr → Nat → List D → Hp → Prop} {B H : Hp} {s : St} {r : Env} {z : Stk} {i : Nat} {a : Addr} {n : Nat} {ds : List D} (S : SR K g B s r z H) (hx : g.xs = J.noX) (hi : i < r.length) (hz : ∀ w, (w, T.al i) ∉ z) (ha : xs a n ds B) :
    SR K (g.hold xs) B (s.set i (some (.ref a))) (put r i (some (.exc n ds))) z H := by
  have his : i < s.length := by rw [S.len]; exact hi
  have one : ∀ {j : Nat} {t' : T}, look (put r i (some (.exc n ds))) j = some t' → (j = i ∧ t' = .exc n ds) ∨ (i ≠ j ∧ look r j = some t') := fun {j t'} e => by
    by_cases q : i = j
    · subst q
      rw [look_put_self hi] at e
      cases e
      exact Or.inl ⟨rfl, rfl⟩
    · rw [look_put_ne q] at e
      exact Or.inr ⟨q, e⟩
  have ols : ∀ {j : Nat} {t : T} {H : Hp} {w : V} {y : Addr}, look (put r i (some (.exc n ds))) j = some t → fpT H w t y → i ≠ j ∧ look r j = some t := fun {j t H w y} e q' => by
    rcases one e with ⟨_, q⟩ | q
    · subst q; exact q'.elim
    · exact q
  have sg : ∀ {j : Nat}, i ≠ j → (s.set i (some (V.ref a)))[j]? = s[j]? := fun {j} q => List.getElem?_set_ne q
  have en : ∀ {v' : V} {t' : T}, (∀ j, t' = .al j → j ≠ i) → En K g B H s v' t' → En K (g.hold xs) B H (s.set i (some (.ref a))) v' t' := fun {v' t'} hne h => by
    have h := h.hold (xs := xs) hx
    cases t' with
    | al j =>
      have : (s.set i (some (V.ref a)))[j]? = some (some v') := (sg (Ne.symm (hne j rfl))).trans h
      exact this
    | sh _ => exact h
    | bor _ => exact h
    | ol _ => exact h
    | own _ => exact h
    | ptr _ _ _ => exact h
    | exc _ _ => exact h
  refine ⟨S.b0, S.bh, S.fr, S.h0, S.hm, by rw [put_len, List.length_set]; exact S.len, by rw [put_len]; exact S.ln, fun j t' e => ?_, fun x hx' => ?_, S.al, fun j k t u v w hjk x1 x2 x3 x4 y q1 q2 => ?_, fun j t v x x1 x2 x3 y q1 q2 => ?_, S.d3, fun j k e => ?_⟩
  · rcases one e with ⟨rfl, rfl⟩ | ⟨q, e⟩
    · exact ⟨_, List.getElem?_set_self his, a, B, rfl, Same.refl _, ha⟩
    · obtain ⟨w, x1, x2⟩ := S.env j t' e
      exact ⟨w, (sg q).trans x1, en (fun k e' => by subst e'; exact absurd e (S.ea j k)) x2⟩
  · refine en (fun j e q => ?_) (S.stk x hx')
    obtain ⟨xv, xt⟩ := x
    have e' : xt = .al j := e
    subst e' q
    exact hz _ hx'
  · obtain ⟨n1, x1⟩ := ols x1 q1
    obtain ⟨n2, x2⟩ := ols x2 q2
    rw [sg n1] at x3
    rw [sg n2] at x4
    exact S.d1 j k t u v w hjk x1 x2 x3 x4 y q1 q2
  · obtain ⟨n1, x1⟩ := ols x1 q1
    rw [sg n1] at x2
    exact S.d2 j t v x x1 x2 x3 y q1 q2
  · rcases one e with ⟨_, q⟩ | ⟨_, q⟩
    · cases q
    · exact S.ea j k q
theorem SR.unholdX {xs : Addr → Nat → List D → Hp → Prop} {B H : Hp} {s : St} {r : Env} {z : Stk} (S : SR K (g.hold xs) B s r z H) (hz : ∀ x ∈ z, noXT x.2) : SR K g B s (clE r) z H := by
  have len : (clE r).length = r.length := by simp [clE]
  refine ⟨S.b0, S.bh, S.fr, S.h0, S.hm, by rw [len]; exact S.len, by rw [len]; exact S.ln, fun j t' e => ?_, fun x hx' => (S.stk x hx').unhold (hz x hx'), S.al, fun j k t u v w hjk x1 x2 => S.d1 j k t u v w hjk (look_cl x1).1 (look_cl x2).1, fun j t v x x1 => S.d2 j t v x (look_cl x1).1, S.d3, fun j k e => S.ea j k (look_cl e).1⟩
  obtain ⟨e1, e2⟩ := look_cl e
  obtain ⟨v, h1, h2⟩ := S.env j t' e1
  exact ⟨v, h1, h2.unhold e2⟩
/-- a slot is emptied -/
theorem SR.emptied {B H : Hp} {s : St} {r : Env} {z : Stk} {i : Nat} (S : SR K g B s r z H) (hz : ∀ w, (w, T.al i) ∉ z) : SR K g B (s.set i none) (put r i none) z H := by
  have one : ∀ {j : Nat} {t' : T}, look (put r i none) j = some t' → i ≠ j ∧ look r j = some t' := fun {j t'} e => by
    by_cases q : i = j
    · subst q
      by_cases hi : i < r.length
      · rw [look_put_self hi] at e
        cases e
      · have := look_lt e
        rw [put_len] at this
        exact absurd this hi
    · rw [look_put_ne q] at e
      exact ⟨q, e⟩
  have sg : ∀ {j : Nat}, i ≠ j → (s.set i (none : Option V))[j]? = s[j]? := fun {j} q => List.getElem?_set_ne q
  have en : ∀ {v' : V} {t' : T}, (∀ j, t' = .al j → j ≠ i) → En K g B H s v' t' → En K g B H (s.set i none) v' t' := fun {v' t'} hne h => by
    cases t' with
    | al j =>
      have : (s.set i (none : Option V))[j]? = some (some v') := (sg (Ne.symm (hne j rfl))).trans h
      exact this
    | sh _ => exact h
    | bor _ => exact h
    | ol _ => exact h
    | own _ => exact h
    | ptr _ _ _ => exact h
    | exc _ _ => exact h
  refine ⟨S.b0, S.bh, S.fr, S.h0, S.hm, by rw [put_len, List.length_set]; exact S.len, by rw [put_len]; exact S.ln, fun j t' e => ?_, fun x hx' => ?_, S.al, fun j k t u v w hjk x1 x2 x3 x4 => ?_, fun j t v x x1 x2 x3 => ?_, S.d3, fun j k e => S.ea j k (one e).2⟩
  · obtain ⟨q, e⟩ := one e
    obtain ⟨w, x1, x2⟩ := S.env j t' e
    exact ⟨w, (sg q).trans x1, en (fun k e' => by subst e'; exact absurd e (S.ea j k)) x2⟩
  · refine en (fun j e q => ?_) (S.stk x hx')
    obtain ⟨xv, xt⟩ := x
    have e' : xt = .al j := e
    subst e' q
    exact hz _ hx'
  · rw [sg (one x1).1] at x3
    rw [sg (one x2).1] at x4
    exact S.d1 j k t u v w hjk (one x1).2 (one x2).2 x3 x4
  · rw [sg (one x1).1] at x2
    exact S.d2 j t v x (one x1).2 x2 x3
/-! ### try with several clauses -/
structure HdsJ (X : Cx) (g : G) (c : Cl) (L : List Nat) (hds : List ExceptHandler) (ds : List (Nat × DS)) : Prop where
  ex : ∃ l, HdsOk X hds l ∧ ∀ (W : WX) (E : DEnds) (D : Ends) (z : Stk) (Y : XD), LW X.K g c W Y z → EndsR X.K g z E D → (∀ i w, (w, T.al i) ∈ z → i ∈ L) → ∀ (cls : Value) (d : Option Addr) (H : Hp) (s : St) (r : Env) (B : Hp) (e : Err),
    SR X.K g B s r z H → ErrR c B e cls d → pickX Y E ds e r → wMany X.K W D l cls d s H
theorem jh_nil : HdsJ X g c L [] [] := ⟨[], .nil, fun W E D z Y lw _ _ cls d H s r B e S er hY => lw _ _ H s r B z e (List.suffix_refl _) S er hY⟩
theorem jh_cons {x : Str} {n : Nat} {C : Addr} {suite : List Stmt} {b0 : Stmt} {np pos' : Pos} {hds : List ExceptHandler} {ds : DS} {rest : List (Nat × DS)} (hC : Names X x (.ref C))
    (hsub : ∀ m, c.ok m = true → PySem.W.exmOne X.K (.ref (c.cm m)) (.ref C) = some (subErr n m))
    (hsu : ∀ (a : Addr) (oe : Obj) (cls : Value) (d : Option Addr) (pn : List (Addr × Obj)), Zc cls d oe → (∃ vs, oe.data = .fields vs) → JSs (X.suite a ((a, oe) :: pn)) g c W0 L (b0 :: suite) ds) (hr : HdsJ X g c L hds rest) :
    HdsJ X g c L (.ExceptHandler (some (.Name x np)) none (b0 :: suite) pos' :: hds) ((n, ds) :: rest) := by
  obtain ⟨l, hl, hw⟩ := hr.ex
  refine ⟨_, .cons (ts := fun _ _ _ => canonS X.K g c W0 L ds) hC (fun a oe cls d pn h1 h2 => (hsu a oe cls d pn h1 h2).canon) hl, fun W E D z Y lw k hzl cls d H s r B e S er hY => ?_⟩
  obtain ⟨rfl, eo, ed⟩ := er
  rw [pickX_cons] at hY
  refine ⟨subErr n e.cls, hsub _ eo, fun hs a ha => ?_, fun hs => ?_⟩
  · rw [if_pos hs] at hY
    exact ⟨r, B, z, _, E, fun _ _ _ _ _ _ _ _ _ _ _ y => y.elim, S, hzl, hY, k⟩
  · rw [if_neg (by rw [hs]; decide)] at hY
    exact hw W E D z Y lw k hzl _ d H s r B e S ⟨rfl, eo, ed⟩ hY
theorem js_tryM {body : List Stmt} {h0 : ExceptHandler} {hds : List ExceptHandler} {pos : Pos} {db : DS} {ds : List (Nat × DS)} (hs : X.stack = X.env :: X.outer) (hf : X.env.frame = some X.env.locals) (tk : Takes X W)
    (hb : ∀ (W' : WX) (pn : List (Addr × Obj)) (xe : Value → Shared → Prop), Takes (X.tr pn xe) W' → PassesOwn (model X.prog X.w) X.A X.env xe → JSs (X.tr pn xe) g c W' L body db)
    (hh : HdsJ X g c L (h0 :: hds) ds) : JS X g c W L (.Try body (h0 :: hds) [] [] pos) (dTryM db ds) := by
  obtain ⟨l, hl, hw⟩ := hh.ex
  refine ⟨_, ps_try_many (tb := fun W' => canonS X.K g c W' L db) hs hf tk (fun W' pn xe tk' ps => (hb W' pn xe tk' ps).canon) hl, fun s H r B z Y E D lw S hl' h k => ?_⟩
  refine ⟨r, B, z, _, E, ?_, S, hl', h, k⟩
  intro cls d H2 s2 r2 B2 z2 e hz S2 er hY
  obtain ⟨p, rfl⟩ := hz
  exact hw W E D z Y lw k hl' cls d H2 s2 r2 B2 e S2.drop er hY
/-! ### try: body except C as n: suite -/
/-- what the suite knows of the error that it holds -/
abbrev heldX (c : Cl) (a : Addr) (cls : Value) (d : Option Addr) : Addr → Nat → List D → Hp → Prop := fun a' n vs B => a' = a ∧ ErrR c B ⟨n, vs⟩ cls d
theorem js_tryAs {x y : Str} {n i : Nat} {C : Addr} {body suite : List Stmt} {b0 : Stmt} {np pos pos' : Pos} {db ds : DS} (hs : X.stack = X.env :: X.outer) (hf : X.env.frame = some X.env.locals) (hN : X.N.Nodup) (hi : X.N[i]? = some y) (hln : X.env.kindOf y = some .local) (hiL : i ∉ L) (hin : i < g.n) (hx : g.xs = noX)
    (hC : Names X x (.ref C)) (tk : Takes X W)
    (hsub : ∀ m, c.ok m = true → PySem.W.exmOne X.K (.ref (c.cm m)) (.ref C) = some (subErr n m))
    (hb : ∀ (W' : WX) (pn : List (Addr × Obj)) (xe : Value → Shared → Prop), Takes (X.tr pn xe) W' → PassesOwn (model X.prog X.w) X.A X.env xe → JSs (X.tr pn xe) g c W' L body db)
    (hsu : ∀ (a : Addr) (oe : Obj) (cls : Value) (d : Option Addr) (pn : List (Addr × Obj)), Zc cls d oe → (∃ vs, oe.data = .fields vs) → JSs (X.suite a ((a, oe) :: pn)) (g.hold (heldX c a cls d)) c W0 L (b0 :: suite) ds) :
    JS X g c W L (.Try body [.ExceptHandler (some (.Name x np)) (some y) (b0 :: suite) pos'] [] [] pos) (dTryAs n i db ds) := by
  refine ⟨_, ps_try_as (tb := fun W' => canonS X.K g c W' L db) (ts := fun a cls d => canonS X.K (g.hold (heldX c a cls d)) c W0 L ds) hs hf hN hi hln hC tk (fun W' pn xe tk' ps => (hb W' pn xe tk' ps).canon) (fun a oe cls d pn h1 h2 => (hsu a oe cls d pn h1 h2).canon), fun s H r B z Y E D lw S hl h k => ?_⟩
  refine ⟨r, B, z, _, E, ?_, S, hl, h, k⟩
  intro cls d H2 s2 r2 B2 z2 e hz S2 er hY
  obtain ⟨p, rfl⟩ := hz
  have S3 : SR X.K g B2 s2 r2 z H2 := S2.drop
  have nz := nol hiL hl
  obtain ⟨rfl, eo, ed⟩ := er
  refine ⟨subErr n e.cls, hsub _ eo, fun hs a ha => ?_, fun hs => ?_⟩
  · have hY : if subErr n e.cls = true then ds (fun _ _ => False) (asE i E) (put r2 i (some (.exc e.cls e.vals))) else Y e r2 := hY
    rw [if_pos hs] at hY
    have S4 := S3.holdX (i := i) (a := a) (xs := heldX c a (.ref (c.cm e.cls)) d) hx (by rw [S3.ln]; exact hin) nz ⟨rfl, rfl, eo, ed⟩
    have nx := S3.noX hx
    refine ⟨_, B2, z, _, _, fun _ _ _ _ _ _ _ _ _ _ _ y => y.elim, S4, hl, hY, ⟨fun s' H' B' r' S' q => ?_, fun v s' H' B' r' t S' q => ?_, fun s' H' B' r' S' q => ?_, fun s' H' B' r' S' q => ?_⟩⟩
    · exact k.nx _ _ B' _ ((S'.emptied nz).unholdX nx) q
    · exact k.rt v s' H' B' _ t (S'.unholdX fun x hx' => by
        rcases List.mem_cons.mp hx' with e | hx'
        · subst e; exact q.1
        · exact nx x hx') q.2
    · exact k.bk _ _ B' _ ((S'.emptied nz).unholdX nx) q
    · exact k.ct _ _ B' _ ((S'.emptied nz).unholdX nx) q
  · have hY : if subErr n e.cls = true then ds (fun _ _ => False) (asE i E) (put r2 i (some (.exc e.cls e.vals))) else Y e r2 := hY
    rw [if_neg (by rw [hs]; decide)] at hY
    exact lw _ _ H2 s2 r2 B2 z e (List.suffix_refl _) S3 ⟨rfl, eo, ed⟩ hY
/-! ### isinstance -/
/-- of an error with a dict of its own, or without -/
theorem call_isEX {X : Cx} {a D : Addr} {d : Option Addr} {oe : Obj} {pn : List (Addr × Obj)} (C : ExcC X.K D) (hz : Zc (.ref D) d oe) (hf : ∃ vs, oe.data = .fields vs) : CallR (X.suite a ((a, oe) :: pn)) (.builtin "isinstance") (fun xs H Q => (d = none ∨ ∃ dd fs, d = some dd ∧ H dd = some (.xd fs)) ∧ rIsE X.K D a xs H Q) := by
  intro pins s σ H xs us Q I r h
  obtain ⟨hd, c, cv, b, rfl, hcv, e, q⟩ := h
  cases r with
  | cons rx rr =>
    cases rr with
    | cons rt rr =>
      cases rr
      cases rx
      have ec := hcv _ rt
      subst ec
      obtain ⟨hget, _⟩ := I.pin (a, oe) (List.mem_append.mpr (.inl List.mem_cons_self))
      obtain ⟨vs, hv⟩ := hf
      have J : ∃ od, PySem.W.InstAt s.heap a oe D od := by
        obtain ⟨oc, od, oda, osl⟩ := oe
        obtain ⟨h1, h2⟩ := hz
        dsimp only at h1 h2 hv
        subst h1 h2 hv
        rcases hd with hd | ⟨dd, fs, hd, hH⟩
        · subst hd
          exact ⟨none, hget, rfl, rfl, trivial⟩
        · subst hd
          obtain ⟨mA, ⟨o, es, ep, e1, _⟩, _⟩ := I.hok dd _ hH
          exact ⟨some o, hget, rfl, rfl, e1⟩
      obtain ⟨od, J⟩ := J
      have hcl : (PySem.W.clsIn X.K D).isSome = true := by
        obtain ⟨cd, hc, _⟩ := PySem.W.any_some C.hd
        rw [hc]; rfl
      exact PySem.W.kia_one (PySem.W.kitx_exc hcl C.hg C.hk C.hs C.ha C.hn C.ht C.hm) I.kIn J e (fun z => nomatch z) fun tk => ⟨.bl b, H, I.kept (t' := tk) fun _ _ z => z, rfl, q⟩
theorem j_isX {i k : Nat} {x y : Str} {a : Addr} {oe : Obj} {cls : Value} {d : Option Addr} {pn : List (Addr × Obj)} {cv : V} {cu : Value} {p p1 p2 pos : Pos} {g0 : G} (hz : Zc cls d oe) (hf : ∃ vs, oe.data = .fields vs)
    (hE : ∀ n, c.ok n = true → ExcC X.K (c.cm n)) (hsub : ∀ n, c.ok n = true → PySem.W.kitOne X.K (.ref (c.cm n)) cu = some (subErr k n)) (hcv : ∀ u, RelV cv u → u = cu)
    (hg : Gl (X.suite a ((a, oe) :: pn)) "isinstance") (hm : X.mg "isinstance" = none) (hN : X.N[i]? = some x) (hv : Vis X.env.scope x) (hc : PE (X.suite a ((a, oe) :: pn)) (.Name y p2) (tC cv)) (hd1 : (x == ("__debug__" : Str)) = false := by decide) (hcd : (x == ("__classdict__" : Str)) = false := by decide)
    (hs : starEach [.Name x p1, .Name y p2] (X.suite a ((a, oe) :: pn)).env = (false, eval (.Name x p1) (X.suite a ((a, oe) :: pn)).env) :: starEach [.Name y p2] (X.suite a ((a, oe) :: pn)).env := by rfl)
    (hs2 : starEach [.Name y p2] (X.suite a ((a, oe) :: pn)).env = (false, eval (.Name y p2) (X.suite a ((a, oe) :: pn)).env) :: starEach [] (X.suite a ((a, oe) :: pn)).env := by rfl)
    (hpl : (backTo pos (starEach [.Name y p2] (X.suite a ((a, oe) :: pn)).env)).any (·.1) = false := by rfl) :
    JE (X.suite a ((a, oe) :: pn)) (g0.hold (heldX c a cls d)) c W (.Call (.Name "isinstance" p) [.Name x p1, .Name y p2] [] pos) (dIsX k i) := by
  have cr : CallR (X.suite a ((a, oe) :: pn)) (.builtin "isinstance") (fun xs H Q => ∃ n, (d = none ∨ ∃ dd fs, d = some dd ∧ H dd = some (.xd fs)) ∧ cls = .ref (c.cm n) ∧ c.ok n = true ∧ rIsE X.K (c.cm n) a xs H Q) := fun pins s σ H xs us Q I r h => by
    obtain ⟨n, hd, rfl, hn, h⟩ := h
    exact call_isEX (hE n hn) hz hf pins s σ H xs us Q I r ⟨hd, h⟩
  refine ⟨_, pe_callB cr hg hm (by decide +kernel) (pa_cons (pe_var hN hv hd1 hcd) (pa_cons hc pa_nil hs2) hs) (by decide) (by decide) hs hpl, fun s H r B z Y Q Qv _ S h k => ?_⟩
  unfold dIsX at h
  split at h
  · rename_i n _ l
    obtain ⟨v, e1, a', B1, rfl, sb, rfl, hcls, hok, hdn⟩ := S.env i _ l
    refine ⟨_, e1, n, ?_, hcls, hok, cv, cu, _, rfl, hcv, hsub n hok, ?_⟩
    · rcases hdn with hdn | ⟨dd, v', x', hd, _, hb, _⟩
      · exact Or.inl hdn.2
      · exact Or.inr ⟨dd, _, hd, S.bh _ _ (sb _ _ hb)⟩
    · exact k _ H B r _ (S.push (.bl _)) h
  · exact h.elim
def tyV' : Ty → Value
  | .non => .type "NoneType"
  | .bl => .type "bool"
  | .int => .type "int"
  | .str => .type "str"
  | .lst => .type "list"
  | .tup => .type "tuple"
theorem tyX_of {B H : Hp} {v : V} {d : D} {t : Ty} (hb : Same B H) (h : View K B H v d) (e : tyD d = some t) : TyX K H v (tyV' t) := by
  cases d with
  | lst ds =>
    cases e
    obtain ⟨a, vs, rfl, h1, _⟩ := h
    exact .base (.lst h1)
  | non => cases e; cases h; exact .base .non
  | bl b => cases e; cases h; exact .base (.bl b)
  | int b => cases e; cases h; exact .base (.int b)
  | str b => cases e; cases h; exact .base (.str _)
  | tup ds =>
    cases e
    cases h with
    | tup h1 h2 =>
      rcases same_t hb h1 with (h1 | ⟨o, h1⟩) | ⟨o, its, n, h1, h2, _⟩
      · exact .base (.tup h1)
      · exact .fTuple h1
      · exact .kTuple h1 h2
  | _ => cases e
/-- isinstance(x, T), T a built-in kind -/
theorem j_isTy {u : Ty} {y : Str} {e : Expr} {de : DE} {p p2 pos : Pos} {n : String} (hu : tyV' u = .type n) (hsub : ∀ t, PySem.W.kitOne X.K (tyV' t) (.type n) = some (subT t u))
    (hg : Gl X "isinstance") (hm : X.mg "isinstance" = none) (hc : PE X (.Name y p2) (tC (.ty n))) (he : JE X g c W e de)
    (hs : starEach [e, .Name y p2] X.env = (false, eval e X.env) :: starEach [.Name y p2] X.env := by rfl)
    (hs2 : starEach [.Name y p2] X.env = (false, eval (.Name y p2) X.env) :: starEach [] X.env := by rfl)
    (hpl : (backTo pos (starEach [.Name y p2] X.env)).any (·.1) = false := by rfl) :
    JE X g c W (.Call (.Name "isinstance" p) [e, .Name y p2] [] pos) (dU (uIsTy u) de) := by
  obtain ⟨te, pe, se⟩ := he.ex
  refine ⟨_, pe_callB call_isi hg hm (by decide +kernel) (pa_cons pe (pa_cons hc pa_nil hs2) hs) (by decide) (by decide) hs hpl, fun s H r B z Y Q Qv lw S h k => ?_⟩
  refine se s H r B z Y _ _ lw S h fun v H1 B1 r1 t1 S1 q1 => ?_
  split at q1
  · rename_i x e1
    unfold uIsTy at q1
    split at q1
    · rename_i t e2
      refine ⟨v, .ty n, tyV' t, .type n, _, rfl, .ty n, tyX_of S1.bh (S1.view List.mem_cons_self e1) e2, hsub t, ?_⟩
      exact k _ H1 B1 r1 _ (S1.pop.push (.bl _)) q1
    · exact q1.elim
  · exact q1.elim
/-! ### a list's own methods -/
theorem es_ml {r0 : V → List V → Hp → VK → Prop} {m : R2D} {to te : TE} {da db : DE} (h1 : ES K g c W to da) (h2 : ES K g c W te db) (hm : OpS K g (fun x y H Q => r0 x [y] H Q) m) : ES K g c W (tBM K "list" r0 to (tCons te tNil)) (dMl m da db) := fun s H r B z Y Q Qv lw S h k => by
  refine h1 s H r B z Y _ _ lw S h fun v H1 B1 r1 t1 S1 q1 => ?_
  obtain ⟨⟨ds, e0⟩, q1⟩ := q1
  have v0 := S1.view List.mem_cons_self e0
  obtain ⟨a, vs, rfl, g1, g2⟩ := v0
  refine ⟨.inl ⟨rfl, _, SqL.of g1⟩, ?_⟩
  refine h2 s H1 r1 B1 _ Y _ _ lw.ext S1 q1 fun w H2 B2 r2 t2 S2 q2 => ?_
  split at q2
  · rename_i x y e1 e2
    exact hm B2 s r2 z H2 _ w x y _ _ S2.pop.pop (S2.view (List.mem_cons_of_mem _ List.mem_cons_self) e1) (S2.view List.mem_cons_self e2) q2 fun u H' B' t S' q => k u H' B' r2 t S' q
  · exact q2.elim
theorem j_index {o e : Expr} {do_ de : DE} {apos pos : Pos} (ho : JE X g c W o do_) (he : JE X g c W e de)
    (hs1 : starEach [e] X.env = (false, eval e X.env) :: starEach [] X.env := by rfl)
    (hbase : attributeBase o "index" X.env (eval o X.env) = eval o X.env := by rfl)
    (hfew : ((backTo pos (starEach [e] X.env)).all (fun x => !x.1) && (backToKw pos (keywordEach [] X.env)).all (fun x => x.1.isSome) && decide (([e] : List Expr).length + ([] : List Keyword).length + (if ([] : List Keyword).isEmpty then 0 else 1) < 30)) = true := by rfl)
    (hline : (apos.endLine == pos.line) = true := by rfl) (hplain : (backTo pos (starEach [] X.env)).any (·.1) = false := by rfl) :
    JE X g c W (.Call (.Attribute o "index" apos) [e] [] pos) (dMl mIndex do_ de) := by
  obtain ⟨to, po, so⟩ := ho.ex
  obtain ⟨te, pe, se⟩ := he.ex
  refine ⟨_, pe_bm PySem.F.plainAttrs_list PySem.F.slot_list_index PySem.F.type_list_index mt_index po (pa_cons pe pa_nil hs1) hbase hfew hline hs1 hplain, es_ml so se ?_⟩
  intro B s r z H v w x y Q Qv S h1 h2 q k
  unfold mIndex at q
  split at q
  · rename_i ds
    obtain ⟨⟨f1, f2⟩, q⟩ := q
    obtain ⟨a, vs, rfl, g1, g2⟩ := h1
    have ry := flat_rep h2 f1
    split at q
    · rename_i j e
      rw [List.findIdx?_eq_some_iff_getElem] at e
      obtain ⟨hj, e1, e2⟩ := e
      obtain ⟨v, q1, q2⟩ := g2.get (List.getElem?_eq_getElem hj)
      have fd : ∀ (m : Nat) (hm : m < ds.length), flatD ds[m] = true := fun m hm => List.all_eq_true.mp f2 _ (List.getElem_mem hm)
      refine ⟨a, vs, w, j, v, rfl, rfl, SqL.of g1, flat_of ry f1, flats_of g2 f2, q1, by rw [eqV_of q2 ry (fd j hj) f1]; exact e1, fun m z hm hz => ?_, k _ H B _ (S.push (.int _)) q⟩
      obtain ⟨dd, q3, q4⟩ := g2.getV hz
      obtain ⟨hm', rfl⟩ := List.getElem?_eq_some_iff.mp q3
      rw [eqV_of q4 ry (fd m hm') f1]
      simpa using e2 m hm
    · exact q.elim
  · exact q.elim
/-- xs.insert(a, b), xs the slot i -/
theorem j_ins (i : Nat) {x : Str} {px apos pos : Pos} {e1 e2 : Expr} {d1 d2 : DE} (h1 : JE X g c W e1 d1) (h2 : JE X g c W e2 d2) (hN : X.N[i]? = some x := by rfl) (hv : Vis X.env.scope x := by first | exact Or.inl rfl | exact Or.inr (Or.inl rfl) | exact Or.inr (Or.inr rfl))
    (hd : (x == ("__debug__" : Str)) = false := by decide) (hcd : (x == ("__classdict__" : Str)) = false := by decide)
    (hs1 : starEach [e1, e2] X.env = (false, eval e1 X.env) :: starEach [e2] X.env := by rfl) (hs2 : starEach [e2] X.env = (false, eval e2 X.env) :: starEach [] X.env := by rfl)
    (hbase : attributeBase (.Name x px) "insert" X.env (eval (.Name x px) X.env) = eval (.Name x px) X.env := by rfl)
    (hfew : ((backTo pos (starEach [e1, e2] X.env)).all (fun x => !x.1) && (backToKw pos (keywordEach [] X.env)).all (fun x => x.1.isSome) && decide (([e1, e2] : List Expr).length + ([] : List Keyword).length + (if ([] : List Keyword).isEmpty then 0 else 1) < 30)) = true := by rfl)
    (hline : (apos.endLine == pos.line) = true := by rfl) (hplain : (backTo pos (starEach [e2] X.env)).any (·.1) = false := by rfl) :
    JE X g c W (.Call (.Attribute (.Name x px) "insert" apos) [e1, e2] [] pos) (dIns i d1 d2) := by
  obtain ⟨ta, pa, sa⟩ := h1.ex
  obtain ⟨tb, pb, sb⟩ := h2.ex
  refine ⟨_, pe_bm PySem.F.plainAttrs_list PySem.F.slot_list_insert PySem.F.type_list_insert mt_insert (pe_var hN hv hd hcd) (pa_cons pa (pa_cons pb pa_nil hs2) hs1) hbase hfew hline hs1 hplain, fun s H r B z Y Q Qv lw S h k => ?_⟩
  unfold dIns at h
  obtain ⟨h0, h⟩ := h
  cases l0 : look r i with
  | none => rw [l0] at h0; exact h0.elim
  | some t0 =>
    rw [l0] at h0
    cases t0 with
    | ol ds0 =>
      obtain ⟨v0, e1, e2⟩ := S.env i _ l0
      obtain ⟨p, vs, rfl, g1, g2, g3, g4⟩ := id e2
      refine ⟨_, e1, ty_list g1, ?_⟩
      refine sa s H r B z Y _ _ lw S h fun u H0 B0 r0 t0 S0 q0 => ?_
      refine sb s H0 r0 B0 _ Y _ _ lw.ext S0 q0 fun v H1 B1 r1 t1 S1 q1 => ?_
      split at q1
      · rename_i kk d ds e3 l1
        have rv : Rep X.K B1 v d := S1.top
        have ru := S1.view (List.mem_cons_of_mem _ List.mem_cons_self) e3
        cases ru
        obtain ⟨p', vs', f1, f2, f3, S2⟩ := S1.pop.pop.change l1 (RepAll.nil (K := X.K) (B := B1))
        rw [e1] at f1
        cases f1
        obtain ⟨p'', vs'', f1, f2', f3', S3⟩ := S1.pop.pop.change l1 (((f3.take kk.toNat).append (.cons rv .nil)).append (f3.drop kk.toNat))
        rw [e1] at f1
        cases f1
        rw [f2] at f2'
        cases f2'
        refine ⟨p, vs', kk, v, rfl, rfl, f2, by rw [f3.len, ← size_is]; exact q1.2.1, q1.1.1, by have := q1.1.2; omega, ?_⟩
        exact k _ _ B1 _ _ (S3.push .non) q1.2.2
      · exact q1.elim
    | _ => exact h0.elim
/-- range(a, b, -1) -/
theorem ji_rgD {tg a b e : Expr} {da db de : DE} {p pos : Pos} (hg : Gl X "range") (hm : X.mg "range" = none) (ha : JE X g c W a da) (hb : JE X g c W b db) (he : JE X g c W e de)
    (hs1 : starEach [a, b, e] X.env = (false, eval a X.env) :: starEach [b, e] X.env := by rfl) (hs2 : starEach [b, e] X.env = (false, eval b X.env) :: starEach [e] X.env := by rfl) (hs3 : starEach [e] X.env = (false, eval e X.env) :: starEach [] X.env := by rfl)
    (hpl : (backTo pos (starEach [b, e] X.env)).any (·.1) = false := by rfl) :
    JI X g c W [] tg (.Call (.Name "range" p) [a, b, e] [] pos) (iRangeD (dCons da (dCons db (dCons de dNil)))) := by
  obtain ⟨ta, pa, sa⟩ := ha.ex
  obtain ⟨tb, pb, sb⟩ := hb.ex
  obtain ⟨te, pe, se⟩ := he.ex
  refine ⟨_, pi_range3 hg hm (pa_cons pa (pa_cons pb (pa_cons pe pa_nil hs3) hs2) hs1) hs1 hpl, fun s H r B z Y Q R lw S h k => ?_⟩
  refine sa s H r B z Y _ _ lw S h fun v H1 B1 r1 t1 S1 q1 => ?_
  refine sb s H1 r1 B1 _ Y _ _ lw.ext S1 q1 fun w H2 B2 r2 t2 S2 q2 => ?_
  refine se s H2 r2 B2 _ Y _ _ lw.ext.ext S2 q2 fun u H3 B3 r3 t3 S3 q3 => ?_
  have S3' : SR X.K g B3 s r3 ((u, t3) :: (w, t2) :: (v, t1) :: z) H3 := S3
  simp only [dNil, reads] at q3
  cases e3 : rdT r3 t3 with
  | none => cases e1 : rdT r3 t1 <;> cases e2 : rdT r3 t2 <;> simp only [e1, e2, e3] at q3
  | some d3 =>
    cases e1 : rdT r3 t1 with
    | none => simp only [e1] at q3
    | some d1 =>
      cases e2 : rdT r3 t2 with
      | none => simp only [e1, e2] at q3
      | some d2 =>
        simp only [e1, e2, e3] at q3
        have w1 := S3'.view (List.mem_cons_of_mem _ (List.mem_cons_of_mem _ List.mem_cons_self)) e1
        have w2 := S3'.view (List.mem_cons_of_mem _ List.mem_cons_self) e2
        have w3 := S3'.view List.mem_cons_self e3
        cases d1 with
        | int m =>
          cases d2 with
          | int n =>
            cases d3 with
            | int cc =>
              cases w1
              cases w2
              cases w3
              obtain ⟨rfl, ⟨b1, b2, b3, b4⟩, q3⟩ := q3
              refine ⟨m, n, -1, (m - n).toNat, rfl, RgC.neg b1 b2 b3 b4, ?_⟩
              refine k _ H3 B3 r3 _ _ .non _ (S3'.pop.pop.pop.push .non) (fun _ e => by cases e) q3 fun i s2 H2 B2 r2 z2 S2 _ _ => ?_
              have ln : (li (downI m (m - n).toNat)).length = (m - n).toNat := by simp [downI]
              rw [ln]
              refine ⟨fun hi => ⟨hi, fun x H3 hy => ?_⟩, fun hi => hi⟩
              obtain ⟨rfl, rfl⟩ := hy
              refine ⟨B2, .int (m + i * -1), ?_, S2.push (.int _)⟩
              simp [downI, hi]
              omega
            | _ => exact q3.elim
          | _ => cases d3 <;> exact q3.elim
        | _ => cases d2 <;> cases d3 <;> exact q3.elim
theorem exm_of {C S : Addr} {b : Bool} (h1 : PySem.W.subIn K (.ref S) (.type "BaseException") = some true) (h2 : PySem.W.isClsIn K S = true) (h3 : PySem.W.typeIn K (.ref S) = some (.type "type")) (h4 : PySem.W.subIn K (.ref C) (.ref S) = some b) :
    PySem.W.exmOne K (.ref C) (.ref S) = some b := by
  have e1 : (PySem.W.subIn K (.ref S) (.type "BaseException") == some true) = true := by rw [h1] <;> rfl
  have e2 : ((PySem.W.clsIn K S).isSome && PySem.W.typeIn K (.ref S) == some (.type "type")) = true := by
    have h2' : (PySem.W.clsIn K S).isSome = true := h2
    rw [h2', h3] <;> rfl
  show (if (PySem.W.subIn K (.ref S) (.type "BaseException") == some true) = true then (if ((PySem.W.clsIn K S).isSome && PySem.W.typeIn K (.ref S) == some (.type "type")) = true then PySem.W.subIn K (.ref C) (.ref S) else none) else none) = some b
  rw [if_pos e1, if_pos e2]
  exact h4
end
end J

/-! JL13: defs that change the list that they are handed first. -/
namespace J
open PySem L2
section
variable {X : Cx} {g : G} {c : Cl} {W : WX} {L : List Nat} {K : PySem.W.Frag}
structure OutM (p : Addr) (B H B' H' : Hp) : Prop where
  hh : ∀ a o, H a = some o → a ≠ p → H' a = some o
  hb : Same B B'
  hs : Same B' H'
  hn : ∀ a, B' a ≠ none → B a ≠ none ∨ H a = none
/-- no lent list stands at p -/
def Apart (p : Addr) (ms : List Bool) (vs : List V) (ds : List D) : Prop := ∀ (i : Nat) (v : V) (d : D), ms[i]? = some false → vs[i]? = some v → ds[i]? = some d → isLD d = true → v ≠ .ref p
def SpM (K : PySem.W.Frag) (ms : List Bool) (S : SpecM) : Sp := fun vs0 H Q E => ∃ (p : Addr) (vs : List V) (B : Hp) (ds : List D) (ws : List V) (es : List D), vs0 = .ref p :: vs ∧ Same B H ∧ ArgsR K B H ms vs ds ∧ Apart p ms vs ds ∧
  H p = some (.lst ws) ∧ RepAll K B ws es ∧ B p = none ∧
  ∃ Q0 : T → List D → Prop, S es ds Q0 ∧ ∀ t es', Q0 t es' → ∀ v H' B' ws', OutM p B H B' H' → H' p = some (.lst ws') → RepAll K B' ws' es' → B' p = none → ResR K B B' H' H v t → Q v H'
theorem SR.gotM {i : Nat} {p : Addr} {B B' H H' : Hp} {s : St} {r : Env} {z : Stk} {v : V} {t : T} {es es' : List D} {ws' : List V} (S : SR K g B s r z H) (h : look r i = some (.ol es)) (hv : s[i]? = some (some (.ref p))) (o : OutM p B H B' H') (hp : H' p = some (.lst ws')) (hr : RepAll K B' ws' es') (hb : B' p = none) (rr : ResR K B B' H' H v t) :
    SR K g B' s (put r i (some (.ol es'))) ((v, t) :: z) H' := by
  obtain ⟨v0, e1, q, ws, e2, h1, h2, h3, h4⟩ := S.env i _ h
  rw [hv] at e1
  cases e1
  cases e2
  have o1 : Out B H B' (L2.upd H' p (.lst ws)) := ⟨fun a u e => by
    by_cases q : a = p
    · subst q
      rw [upd_same]
      rw [h1] at e
      exact e
    · rw [upd_ne q]
      exact o.hh a u e q, o.hb, fun a u e => by
    have q : a ≠ p := fun q => by rw [q, hb] at e; cases e
    rw [upd_ne q]
    exact o.hs a u e, o.hn⟩
  have r1 : ResR K B B' (L2.upd H' p (.lst ws)) H v t := by
    cases t with
    | sh d => exact rr
    | ol ds =>
      obtain ⟨q, vs, rfl, a1, a2, a3, a4⟩ := rr
      have hq : q ≠ p := fun e => by rw [e, h1] at a4; cases a4
      exact ⟨q, vs, rfl, by rw [upd_ne hq]; exact a1, a2, a3, a4⟩
    | own f =>
      have hh : ∀ a, fpF H' f v a → (L2.upd H' p (.lst ws)) a = H' a := fun a q => by
        rw [upd_ne]
        intro e
        have := (rr.2 a q).2
        rw [e, h1] at this; cases this
      exact ⟨ow_frame rr.1 (Same.refl _) hh, rr.2⟩
    | _ => exact rr
  have S1 := S.got o1 r1
  obtain ⟨p', vs', f1, f2, f3, S2⟩ := S1.change h hr
  rw [hv] at f1
  cases f1
  have e : L2.upd (L2.upd H' p (.lst ws)) p (.lst ws') = H' := by
    funext a
    by_cases q : a = p
    · subst q
      rw [upd_same, hp]
    · rw [upd_ne q, upd_ne q]
  rw [e] at S2
  exact S2
/-- a list or a dict that is read stands apart from the slot i's own thing -/
theorem SR.apart {B H : Hp} {s : St} {r : Env} {z : Stk} {t : T} {d : D} {i : Nat} {a : Addr} {u : T} {w : V} (S : SR K g B s r z H) (hi : look r i = some u) (hw : s[i]? = some (some w)) (hu : fpT H w u a) (h : (V.ref a, t) ∈ z) (na : noAl i [t]) (e : rdT r t = some d) (ld : isLD d = true) : False := by
  obtain ⟨w0, e1, en0⟩ := S.env i _ hi
  rw [hw] at e1
  cases e1
  obtain ⟨_, b0, m0⟩ := en0.live hu
  have own : ∀ {f : F}, OwF K B H f (.ref a) → f.rd = some d → a ∈ idsF f := fun {f} o q => by
    cases f with
    | sh d' =>
      cases q
      have o : Rep K B (.ref a) d := o
      cases o with
      | lst q _ => rw [b0] at q; cases q
      | dic q _ _ _ _ _ _ => rw [b0] at q; cases q
      | _ => cases ld
    | _ =>
      have e2 : V.ref a = V.ref _ := o.1
      cases e2
      simp [idsF]
  have core : ∀ {t : T}, En K g B H s (.ref a) t → t.rd = some d → (∃ ds, t = .ol ds) ∨ ∃ f, t = .own f ∧ a ∈ idsF f := fun {t} en e => by
    cases t with
    | sh d' =>
      cases e
      have en : Rep K B (.ref a) d := en
      cases en with
      | lst q _ => rw [b0] at q; cases q
      | dic q _ _ _ _ _ _ => rw [b0] at q; cases q
      | _ => cases ld
    | bor d' =>
      cases e
      obtain ⟨a', e1, q2, q1⟩ := en
      cases e1
      rcases m0 with h4 | h4
      · exact absurd h4 q1.live
      · exact absurd h4 q2
    | al j => cases e
    | ol ds => exact Or.inl ⟨ds, rfl⟩
    | exc _ _ => cases e
    | own f => exact Or.inr ⟨f, rfl, own en.1 e⟩
    | ptr _ _ _ => cases e
  have en := S.stk _ h
  have top : ∀ {t : T}, (V.ref a, t) ∈ z → En K g B H s (.ref a) t → t.rd = some d → False := fun {t} hz en e => by
    rcases core en e with ⟨ds, rfl⟩ | ⟨f, rfl, q⟩
    · exact S.d2 i _ _ _ hi hw hz a hu rfl
    · exact S.d2 i _ _ _ hi hw hz a hu q
  cases t with
  | al j =>
    have na : j ≠ i := na.1
    cases l : look r j with
    | none => simp [rdT, l] at e
    | some t' =>
      simp only [rdT, l] at e
      obtain ⟨w', a1, a2⟩ := S.env j t' l
      have en' : s[j]? = some (some (V.ref a)) := en
      rw [en'] at a1
      cases a1
      rcases core a2 e with ⟨ds, rfl⟩ | ⟨f, rfl, q⟩
      · exact S.d1 j i _ _ _ _ na l hi en' hw a rfl hu
      · exact S.d1 j i _ _ _ _ na l hi en' hw a q hu
  | ptr j p q =>
    have nj : j ≠ i := na.1
    have en' : V.ref a = V.ref q := en
    cases en'
    cases l : getP r j p a with
    | none => simp only [rdT_ptr, l] at e; cases e
    | some f =>
      obtain ⟨f0, l0, e1, e2, e3⟩ := getP_eq l
      obtain ⟨w', a1, a2⟩ := S.env j _ l0
      obtain ⟨_, _, sub⟩ := ow_at a2.1 e1
      have : a ∈ idsF f := by
        rw [← e2]
        cases f with
        | sh d => exact absurd rfl (e3 d)
        | _ => simp [idsF]
      exact S.d1 j i _ _ _ _ nj l0 hi a1 hw a (sub a this) hu
  | sh d' => exact top h en e
  | bor d' => exact top h en e
  | ol ds => exact top h en e
  | exc _ _ => simp [rdT] at e
  | own f => exact top h en e
theorem apart_of {i : Nat} {p : Addr} {B H : Hp} {s : St} {r : Env} {z : Stk} {es0 : List D} (S : SR K g B s r z H) (hi : look r i = some (.ol es0)) (hv : s[i]? = some (some (.ref p))) : ∀ {ms : List Bool} {vs : List V} {ts : List T} {ds : List D}, vs.length = ts.length → (∀ (j : Nat) v t, vs[j]? = some v → ts[j]? = some t → (v, t) ∈ z) → noAl i ts → reads r ts = some ds → Apart p ms vs ds := by
  intro ms vs ts
  induction ts generalizing ms vs with
  | nil =>
    intro ds hl _ _ e j v d _ hj
    have : vs = [] := List.length_eq_zero_iff.mp (by simpa using hl)
    subst this
    simp at hj
  | cons t ts ih =>
    intro ds hl hm na e
    cases vs with
    | nil => simp at hl
    | cons v vs =>
      simp only [reads] at e
      split at e
      · rename_i d ds' e1 e2
        cases e
        have nt : noAl i [t] ∧ noAl i ts := by
          cases t with
          | al j => exact ⟨⟨na.1, trivial⟩, na.2⟩
          | ptr j _ _ => exact ⟨⟨na.1, trivial⟩, na.2⟩
          | _ => exact ⟨trivial, na⟩
        intro j w d2 hms hj hd ld
        cases j with
        | zero =>
          simp at hj hd
          subst hj
          subst hd
          intro ev
          subst ev
          exact S.apart hi hv rfl (hm 0 _ t rfl rfl) nt.1 e1 ld
        | succ j =>
          cases ms with
          | nil => simp at hms
          | cons m ms =>
            exact ih (ms := ms) (by simpa using hl) (fun k w u h1 h2 => hm (k + 1) w u (by simpa using h1) (by simpa using h2)) nt.2 e2 j w d2 (by simpa using hms) (by simpa using hj) (by simpa using hd) ld
      · cases e
/-- f(xs, ..), f changes xs, the slot i -/
theorem j_callM (i : Nat) {ms : List Bool} {Sf : SpecM} {k : Nat} {f : Addr} {fd : FuncData} {ps : List Str} {x y : Str} {p py pos : Pos} {es : List Expr} {da : DA} (F : FnOk X.prog X.w X.K X.mg X.base (L2.CX X.prog X.w) k f fd ps (SpM X.K ms Sf)) (hr : Room k X.A) (hg : Gl X x) (hm : X.mg x = some (.ref f))
    (hk : PySem.W.keepIn X.K (.ref f) = true) (hb : Binds X.K fd ps []) (tk : Takes X W) (hc : i ∉ g.cs) (ha : JA X g c W es da) (hN : X.N[i]? = some y := by rfl) (hv : Vis X.env.scope y := by first | exact Or.inl rfl | exact Or.inr (Or.inl rfl) | exact Or.inr (Or.inr rfl)) (hd1 : (y == ("__debug__" : Str)) = false := by decide)
    (hcd : (y == ("__classdict__" : Str)) = false := by decide) (hdb : (x == ("__debug__" : Str)) = false := by decide)
    (he : starEach (.Name y py :: es) X.env = (false, eval (.Name y py) X.env) :: starEach es X.env := by rfl) (hpl : (backTo pos (starEach es X.env)).any (·.1) = false := by rfl) : JE X g c W (.Call (.Name x p) (.Name y py :: es) [] pos) (dCallM i ms Sf da) := by
  obtain ⟨ta, pa, sa⟩ := ha.ex
  refine ⟨_, pe_callS F hr hg hm hk hb (fun σ => passAt tk σ) (pa_cons (pe_var hN hv hd1 hcd) pa he) hdb he hpl, fun s H r B z Y Q Qv lw S h kq => ?_⟩
  obtain ⟨h0, h⟩ := h
  cases l0 : look r i with
  | none => rw [l0] at h0; exact h0.elim
  | some t0 =>
    obtain ⟨v0, e1, S0⟩ := S.pushAl l0 hc
    refine ⟨v0, e1, ?_⟩
    refine sa s H r B _ Y _ _ lw.ext S0 h fun vs H1 B1 r1 ts hl S1 q1 => ?_
    obtain ⟨cp, na, q1⟩ := q1
    split at q1
    · rename_i es0 ds l1 e2
      have S2 := S1.unstk
      have hvi : s[i]? = some (some v0) := S2.top
      obtain ⟨w, f1, q, ws, f2, g1, g2, g3, g4⟩ := S2.env i _ l1
      rw [hvi] at f1
      cases f1
      subst f2
      refine ⟨q, vs, B1, ds, ws, es0, rfl, S1.bh, args_of S1 hl (fun _ _ _ h1 h2 => stk_at h1 h2) cp e2, apart_of S1 l1 hvi hl (fun _ _ _ h1 h2 => stk_at h1 h2) na e2, g1, g2, g3, _, q1, fun t es' qt v H2 B2 ws' o hp hr' hb' rr => ?_⟩
      exact kq v H2 B2 _ t (S2.pop.gotM l1 hvi o hp hr' hb' rr) qt
    · exact q1.elim
/-! ### such a def keeps its promise -/
theorem start_envM {g : G} {B H : Hp} (hg : g.H0 = H) {p : Addr} (hM : g.M = [p]) : ∀ {ms : List Bool} {vs : List V} {ds : List D} {n : Nat} {tl : L2.St}, ArgsR K B H ms vs ds → Apart p ms vs ds → ∀ (i : Nat) t, look (startE ms ds n) i = some t →
    (∃ v, (vs.map some ++ tl)[i]? = some (some v) ∧ ∀ s, En K g B H s v t) ∧ (∀ (H : Hp) (v : V) a, ¬ fpT H v t a) ∧ ∀ j, t ≠ .al j
  | _, _, _, n, tl, .nil, _, i, t, h => (look_none h).elim
  | _, _, _, n, tl, .cap (v := v) (d := d) hr r, _, 0, t, h => by
    have e : some (argT true d) = some t := h
    cases e
    have e2 : argT true d = .sh d := by cases d <;> rfl
    rw [e2]
    exact ⟨⟨v, rfl, fun _ => hr⟩, fun _ _ _ q => q, fun _ q => (by cases q)⟩
  | _, _, _, n, tl, .cap hr r, ap, i + 1, t, h => by
    obtain ⟨⟨v, h1, h2⟩, h3⟩ := start_envM hg hM (tl := tl) r (fun j w es a b c => ap (j + 1) w es (by simpa using a) (by simpa using b) (by simpa using c)) i t h
    exact ⟨⟨v, by simpa using h1, h2⟩, h3⟩
  | _, _, _, n, tl, .bor (v := v) (d := d) hr r, ap, 0, t, h => by
    have e : some (argT false d) = some t := h
    cases e
    cases d with
    | lst ds =>
      obtain ⟨a, vs, rfl, h1, h2⟩ := hr
      have na := ap 0 _ (.lst ds) rfl rfl rfl rfl
      exact ⟨⟨_, rfl, fun _ => ⟨a, rfl, by
        rw [hM, List.mem_singleton]
        exact fun e => na (by rw [e]), vs, by rw [hg]; exact h1, h2⟩⟩, fun _ _ _ q => q, fun _ q => (by cases q)⟩
    | dic kvs =>
      obtain ⟨a, rfl, h1⟩ := hr
      have na := ap 0 _ (.dic kvs) rfl rfl rfl rfl
      exact ⟨⟨_, rfl, fun _ => ⟨a, rfl, by
        rw [hM, List.mem_singleton]
        exact fun e => na (by rw [e]), by rw [hg]; exact h1⟩⟩, fun _ _ _ q => q, fun _ q => (by cases q)⟩
    | _ => exact ⟨⟨v, rfl, fun _ => hr⟩, fun _ _ _ q => q, fun _ q => (by cases q)⟩
  | _, _, _, n, tl, .bor hr r, ap, i + 1, t, h => by
    obtain ⟨⟨v, h1, h2⟩, h3⟩ := start_envM hg hM (tl := tl) r (fun j w es a b c => ap (j + 1) w es (by simpa using a) (by simpa using b) (by simpa using c)) i t h
    exact ⟨⟨v, by simpa using h1, h2⟩, h3⟩
theorem sr_startM {B H : Hp} {p : Addr} {ws : List V} {es : List D} {ms : List Bool} {vs : List V} {ds : List D} {N : List Str} {cs : List Nat} (hB : Same B H) (ha : ArgsR K B H ms vs ds) (ap : Apart p ms vs ds) (h1 : H p = some (.lst ws)) (h2 : RepAll K B ws es) (h3 : B p = none) (hN : ms.length + 1 ≤ N.length) (hcs : 0 ∉ cs) :
    SR K ⟨H, B, [p], cs, N.length, noX⟩ B (L2.start N (.ref p :: vs)) (some (.ol es) :: startE ms ds (N.length - (ms.length + 1))) [(.ref p, .al 0)] H := by
  obtain ⟨l1, l2⟩ := ha.len
  have ev := start_envM (K := K) (g := ⟨H, B, [p], cs, N.length, noX⟩) (B := B) (H := H) rfl (p := p) rfl (n := N.length - (ms.length + 1)) (tl := List.replicate (N.length - (vs.length + 1)) none) ha ap
  have le : (some (T.ol es) :: startE ms ds (N.length - (ms.length + 1))).length = N.length := by
    rw [List.length_cons, startE_len l2]; omega
  have no : ∀ (j : Nat) t H w a, look (startE ms ds (N.length - (ms.length + 1))) j = some t → fpT H w t a → False := fun j t H w a e => (ev j _ e).2.1 H w a
  refine ⟨Same.refl _, hB, fun a h => Or.inl h, fun a o h _ => h, fun a h => h, ?_, le, fun i t h => ?_, fun x hx => ?_, fun i v hx => ?_, fun i j t u v w hij h h' _ _ a q1 q2 => ?_, fun i t v x h _ hx a q1 q2 => ?_, ?_, fun i j h => ?_⟩
  · rw [le]
    unfold L2.start
    rw [List.length_append, List.length_map, List.length_replicate, List.length_cons, l1]
    omega
  · cases i with
    | zero =>
      have e : some (T.ol es) = some t := h
      cases e
      exact ⟨_, rfl, p, ws, rfl, h1, h2, h3, Or.inr List.mem_cons_self⟩
    | succ i =>
      obtain ⟨⟨v, a, b⟩, _⟩ := ev i t h
      exact ⟨v, a, b _⟩
  · rw [List.mem_singleton] at hx
    subst hx
    rfl
  · rw [List.mem_singleton] at hx
    cases hx
    exact hcs
  · cases i with
    | zero =>
      cases j with
      | zero => exact hij rfl
      | succ j => exact no j _ _ _ _ h' q2
    | succ i => exact no i _ _ _ _ h q1
  · rw [List.mem_singleton] at hx
    cases hx
    exact q2
  · exact List.pairwise_singleton _ _
  · cases i with
    | zero =>
      have e : some (T.ol es) = some (T.al j) := h
      cases e
    | succ i => exact (ev i _ h).2.2 _ rfl
theorem enterM {ms : List Bool} {S : SpecM} {db : DS} {N : List Str} {cs : List Nat} {t : TS} {p : Addr} {vs : List V} {H : Hp} {Q : VK} {E : XK} (hN : ms.length + 1 ≤ N.length) (hcs : 0 ∉ cs) (hk : KeepsM ms (N.length - (ms.length + 1)) S db)
    {B : Hp} {ds : List D} {ws : List V} {es : List D} {Q0 : T → List D → Prop} (st : SSm K ⟨H, B, [p], cs, N.length, noX⟩ c (fun cls d _ H => E cls d H) [0] t db) (hB : Same B H) (ha : ArgsR K B H ms vs ds) (ap : Apart p ms vs ds) (h1 : H p = some (.lst ws)) (h2 : RepAll K B ws es) (h3 : B p = none) (hS : S es ds Q0)
    (hQ : ∀ t es', Q0 t es' → ∀ v H' B' ws', OutM p B H B' H' → H' p = some (.lst ws') → RepAll K B' ws' es' → B' p = none → ResR K B B' H' H v t → Q v H') : t { nx := fun _ H' => Q .non H', rt := Q } (L2.start N (.ref p :: vs)) H := by
  obtain ⟨_, hb⟩ := hk es ds Q0 hS
  have S0 := sr_startM (K := K) (N := N) (cs := cs) hB ha ap h1 h2 h3 hN hcs
  have out : ∀ {B' H' : Hp} {s : L2.St} {r : Env} {z : Stk}, SR K ⟨H, B, [p], cs, N.length, noX⟩ B' s r z H' → B' p = none → OutM p B H B' H' := fun S hp => ⟨fun a o e q => S.h0 a o e (by simpa using q), S.b0, S.bh, fun a q => by
    rcases S.fr a q with q1 | q1 | q1
    · exact Or.inl q1
    · exact Or.inr q1
    · rw [List.mem_singleton] at q1
      subst q1
      exact absurd hp q⟩
  have slot : ∀ {B' H' : Hp} {s : L2.St} {r : Env} {z : Stk} {es' : List D}, SR K ⟨H, B, [p], cs, N.length, noX⟩ B' s r z H' → (V.ref p, T.al 0) ∈ z → look r 0 = some (.ol es') → ∃ ws', H' p = some (.lst ws') ∧ RepAll K B' ws' es' ∧ B' p = none := fun {B' H' s r z es'} S hz l => by
    have e0 : s[0]? = some (some (V.ref p)) := S.stk _ hz
    obtain ⟨v, e1, q, ws', e2, a1, a2, a3, _⟩ := S.env 0 _ l
    rw [e0] at e1
    cases e1
    cases e2
    exact ⟨ws', a1, a2, a3⟩
  refine st (L2.start N (.ref p :: vs)) H _ B [(.ref p, .al 0)] _ _ _ (fun _ _ _ _ _ _ _ _ _ _ _ y => y.elim) S0 (fun i w hw => ?_) hb ⟨fun s H' B' r S q => ?_, fun v s H' B' r tt S q => ?_, fun _ _ _ _ _ q => q.elim, fun _ _ _ _ _ q => q.elim⟩
  · rw [List.mem_singleton] at hw
    cases hw
    exact List.mem_cons_self
  · have q : finM Q0 (.sh .non) r := q
    unfold finM at q
    split at q
    · rename_i es' l
      obtain ⟨ws', a1, a2, a3⟩ := slot S List.mem_cons_self l
      exact hQ _ es' q .non H' B' ws' (out S a3) a1 a2 a3 .non
    · exact q.elim
  · have q : finM Q0 tt r := q
    unfold finM at q
    split at q
    · rename_i es' l
      obtain ⟨ws', a1, a2, a3⟩ := slot S (List.mem_cons_of_mem _ List.mem_cons_self) l
      cases tt with
      | sh d => exact hQ _ es' q v H' B' ws' (out S a3) a1 a2 a3 S.top
      | ol fs =>
        obtain ⟨p1, ws1, e, b1, b2, b3, b4⟩ := S.top
        refine hQ _ es' q v H' B' ws' (out S a3) a1 a2 a3 ⟨p1, ws1, e, b1, b2, b3, ?_⟩
        rcases b4 with b4 | b4
        · exact b4
        · exfalso
          have b4 : p1 ∈ [p] := b4
          rw [List.mem_singleton] at b4
          subst b4 e
          have e0 : s[0]? = some (some (V.ref p1)) := S.stk _ (List.mem_cons_of_mem _ List.mem_cons_self)
          exact S.d2 0 _ _ _ l e0 List.mem_cons_self p1 rfl rfl
      | own f =>
        refine hQ _ es' q v H' B' ws' (out S a3) a1 a2 a3 ⟨S.top.1, fun a qa => ⟨(S.top.2 a qa).1, ?_⟩⟩
        rcases (S.top.2 a qa).2 with b4 | b4
        · exact b4
        · exfalso
          have b4 : a ∈ [p] := b4
          rw [List.mem_singleton] at b4
          have e0 : s[0]? = some (some (V.ref p)) := S.stk _ (List.mem_cons_of_mem _ List.mem_cons_self)
          exact S.d2 0 _ _ _ l e0 List.mem_cons_self p rfl (by rw [← b4]; exact qa)
      | _ => exact q.elim
    · exact q.elim
variable {P : Program} {w : World} {mg : Str → Option Value} {base : Heap}
theorem fnJM {x qual : Str} {st : Stmt} {f : Addr} {fd : FuncData} {N ps : List Str} {k : Nat} {ms : List Bool} {S : SpecM} {db : DS} (cs : List Nat) (F : Fun K x qual st f fd) (Sc : FnScope N ps (defScope st)) (hms : ms.length + 1 = ps.length) (hN : ms.length + 1 ≤ N.length) (hcs : 0 ∉ cs)
    (hk : KeepsM ms (N.length - (ms.length + 1)) S db)
    (body : ∀ (cdv : Value) (A : Around) (outer : List PySem.Env) (s : Shared) (H : Hp) (E : XK) (B : Hp) (p : Addr), Room k (cxOf (L2.CX P w) P w K mg base N qual (defScope st) f cdv A outer s H E).A →
      JSs (cxOf (L2.CX P w) P w K mg base N qual (defScope st) f cdv A outer s H E) ⟨H, B, [p], cs, N.length, noX⟩ c (fun cls d _ H => E cls d H) [0] (defBody st) db) :
    FnOk P w K mg base (L2.CX P w) (k + 1) f fd ps (SpM K ms S) := by
  refine F.okX Sc (fun vs H Q E h => ?_) (fun cdv A outer s H vs Q E hr h => ?_)
  · obtain ⟨p, vs', B, ds, _, _, rfl, _, ha, _⟩ := h
    rw [List.length_cons, ha.len.1, hms]
  · obtain ⟨p, vs', B, ds, ws, es, rfl, hB, ha, ap, h1, h2, h3, Q0, hS, hQ⟩ := h
    obtain ⟨t, pt, stt⟩ := (body cdv A outer s H E B p hr).ex
    exact ⟨t, pt, enterM (E := E) hN hcs hk stt hB ha ap h1 h2 h3 hS hQ⟩
end
end J

/-! JL14: not by truth, extend, the greatest and the least of a list. -/
namespace J
open PySem L2
section
variable {X : Cx} {g : G} {c : Cl} {W : WX} {L : List Nat} {K : PySem.W.Frag}
theorem j_notT {e : Expr} {de : DE} {pos : Pos} (h : JE X g c W e de) : JE X g c W (.UnaryOp .Not e pos) (dNotT de) := by
  obtain ⟨te, pe, se⟩ := h.ex
  refine ⟨_, pe_notT pe, fun s H r B z Y Q Qv lw S q k => ?_⟩
  refine se s H r B z Y _ _ lw S q fun v H1 B1 r1 t1 S1 q1 => ?_
  split at q1
  · rename_i d e1
    have v1 := S1.view List.mem_cons_self e1
    have kk := fun b (qb : Q (.sh (.bl b)) r1) => k (.bl b) H1 B1 r1 _ (S1.pop.push (.bl _)) qb
    cases d with
    | non => cases v1; exact ⟨_, rfl, kk _ q1⟩
    | bl _ => cases v1; exact ⟨_, rfl, kk _ q1⟩
    | int _ => cases v1; exact ⟨_, rfl, kk _ q1⟩
    | str t =>
      cases v1
      refine ⟨_, ⟨by rw [← size_is]; simpa [codes, Str.length] using q1.1, ?_⟩, kk _ q1.2⟩
      show ((t.length != 0) : Bool) = (((codes t).length : Int) != 0)
      have : ((codes t).length : Int) = (t.length : Int) := by simp [codes, Str.length]
      rw [this]
      cases t <;> rfl
    | lst ds =>
      obtain ⟨a, vs, rfl, h1, h2⟩ := v1
      exact ⟨_, Or.inl ⟨vs, SqL.of h1, by rw [isEmpty_rep h2]⟩, kk _ q1⟩
    | tup ds =>
      cases v1 with
      | tup h1 h2 => exact ⟨_, Or.inr (Or.inl ⟨_, same_t S1.bh h1, by rw [isEmpty_rep h2]⟩), kk _ q1⟩
    | _ => exact q1.elim
  · exact q1.elim
theorem j_ext (i : Nat) {x : Str} {px apos pos : Pos} {e : Expr} {de : DE} (he : JE X g c W e de) (hN : X.N[i]? = some x := by rfl) (hv : Vis X.env.scope x := by first | exact Or.inl rfl | exact Or.inr (Or.inl rfl) | exact Or.inr (Or.inr rfl))
    (hd : (x == ("__debug__" : Str)) = false := by decide) (hcd : (x == ("__classdict__" : Str)) = false := by decide)
    (hs1 : starEach [e] X.env = (false, eval e X.env) :: starEach [] X.env := by rfl)
    (hbase : attributeBase (.Name x px) "extend" X.env (eval (.Name x px) X.env) = eval (.Name x px) X.env := by rfl)
    (hfew : ((backTo pos (starEach [e] X.env)).all (fun x => !x.1) && (backToKw pos (keywordEach [] X.env)).all (fun x => x.1.isSome) && decide (([e] : List Expr).length + ([] : List Keyword).length + (if ([] : List Keyword).isEmpty then 0 else 1) < 30)) = true := by rfl)
    (hline : (apos.endLine == pos.line) = true := by rfl) (hplain : (backTo pos (starEach [] X.env)).any (·.1) = false := by rfl) :
    JE X g c W (.Call (.Attribute (.Name x px) "extend" apos) [e] [] pos) (dExt i de) := by
  obtain ⟨te, pe, se⟩ := he.ex
  refine ⟨_, pe_bm PySem.F.plainAttrs_list PySem.F.slot_list_extend PySem.F.type_list_extend mt_extend (pe_var hN hv hd hcd) (pa_cons pe pa_nil hs1) hbase hfew hline hs1 hplain, fun s H r B z Y Q Qv lw S h k => ?_⟩
  obtain ⟨h0, h⟩ := h
  cases l0 : look r i with
  | none => rw [l0] at h0; exact h0.elim
  | some t0 =>
    rw [l0] at h0
    cases t0 with
    | ol ds0 =>
      obtain ⟨v0, e1, e2⟩ := S.env i _ l0
      obtain ⟨p, vs, rfl, h1, h2, h3, h4⟩ := id e2
      refine ⟨_, e1, ty_list h1, ?_⟩
      refine se s H r B z Y _ _ lw S h fun v H1 B1 r1 t1 S1 q1 => ?_
      split at q1
      · rename_i es ds ev l1
        obtain ⟨_, q1⟩ := q1
        obtain ⟨b, zs, rfl, g1, g2⟩ := S1.view List.mem_cons_self ev
        obtain ⟨p', vs', f1, f2, f3, S2⟩ := S1.pop.change l1 (RepAll.nil (K := X.K) (B := B1))
        rw [e1] at f1
        cases f1
        obtain ⟨p'', vs'', f1, f2', f3', S3⟩ := S1.pop.change l1 (f3.append g2)
        rw [e1] at f1
        cases f1
        rw [f2] at f2'
        cases f2'
        refine ⟨p, b, vs', zs, rfl, rfl, f2, g1, by rw [f3.len, g2.len, ← size_is]; exact q1.1, ?_⟩
        exact k _ _ B1 _ _ (S3.push .non) q1.2
      · exact q1.elim
    | _ => exact h0.elim
theorem jc_max1 (hc : X.calm = true) : CallR X (.builtin "max") (rMax X.K) ∧ CbS X.K g (rMax X.K) cMax1 := by
  refine ⟨cr_max hc, fun B s r z H vs ds Q Qv S h q k => ?_⟩
  unfold cMax1 at q
  split at q
  · split at q
    · rename_i n ns e
      cases h with
      | cons h1 h2 =>
        cases h2
        obtain ⟨a, ws, rfl, e1, e2⟩ := h1
        have e3 := e2.intsOf e
        subst e3
        refine ⟨a, n :: ns, rfl, SqL.of e1, by simp, fun m hm hy => ?_⟩
        have : m = maxI n ns := by
          have a1 := le_maxI ns n m (List.mem_cons.mp hm)
          have a2 : maxI n ns ∈ n :: ns := List.mem_cons.mpr (maxI_mem ns n)
          have a3 := hy _ a2
          omega
        subst this
        exact k _ H B _ (S.push (.int _)) q
    · exact q.elim
  · exact q.elim
theorem jc_min1 (hc : X.calm = true) : CallR X (.builtin "min") (rMin X.K) ∧ CbS X.K g (rMin X.K) cMin1 := by
  refine ⟨cr_min hc, fun B s r z H vs ds Q Qv S h q k => ?_⟩
  unfold cMin1 at q
  split at q
  · split at q
    · rename_i n ns e
      cases h with
      | cons h1 h2 =>
        cases h2
        obtain ⟨a, ws, rfl, e1, e2⟩ := h1
        have e3 := e2.intsOf e
        subst e3
        refine ⟨a, n :: ns, rfl, SqL.of e1, by simp, fun m hm hy => ?_⟩
        have : m = minI n ns := by
          have a1 := minI_le ns n m (List.mem_cons.mp hm)
          have a2 : minI n ns ∈ n :: ns := List.mem_cons.mpr (minI_mem ns n)
          have a3 := hy _ a2
          omega
        subst this
        exact k _ H B _ (S.push (.int _)) q
    · exact q.elim
  · exact q.elim
/-! ### a promise that nobody can ask for -/
variable {P : Program} {w : World} {mg : Str → Option Value} {base : Heap} {CX : CXT} {k : Nat} {f : Addr} {fd : FuncData} {ps : List Str}
theorem never_J {ms : List Bool} {S : Spec} (Z : ∀ ds X Q, ¬ S ds X Q) : FnOk P w K mg base CX k f fd ps (SpJ K c ms S) :=
  ⟨fun vs H Q E h => by
    obtain ⟨B, ds, _, _, E0, Q0, hS, _⟩ := h
    exact absurd hS (Z _ _ _), fun A outer s H args us vs Q E _ _ _ _ h => by
    obtain ⟨B, ds, _, _, E0, Q0, hS, _⟩ := h
    exact absurd hS (Z _ _ _)⟩
theorem never_M {ms : List Bool} {S : SpecM} (Z : ∀ es ds Q, ¬ S es ds Q) : FnOk P w K mg base CX k f fd ps (SpM K ms S) :=
  ⟨fun vs H Q E h => by
    obtain ⟨_, _, _, _, _, _, _, _, _, _, _, _, _, Q0, hS, _⟩ := h
    exact absurd hS (Z _ _ _), fun A outer s H args us vs Q E _ _ _ _ h => by
    obtain ⟨_, _, _, _, _, _, _, _, _, _, _, _, _, Q0, hS, _⟩ := h
    exact absurd hS (Z _ _ _)⟩
end
end J

/-! JL15: comprehensions whose items change the slots. -/
namespace J
open PySem L2
section
variable {X : Cx} {g : G} {c : Cl} {W : WX} {L : List Nat} {K : PySem.W.Frag}
theorem es_lcs {wi : TI} {tg : TG} {tt : TT} {te : TE} {di : DI} {dg : DG} {dt : DT} {de : DE} {ks sets vs : List Nat} (hi : ISm K g c W ks wi di) (hg : GSm K g (· ∉ g.cs) sets tg dg) (ht : TSm K g c W0 tt dt) (he : ES K g c W0 te de) (hv : ∀ i, i ∈ vs → i ∈ g.cs) (hsub : ∀ i, i ∈ sets → i ∈ vs) :
    ES K g c W (tLc wi tg tt te vs) (dLCs di dg dt de vs) := fun s H r B z Y Q Qv lw S h k => by
  refine hi s H r B z Y _ _ lw S h fun J H1 B1 r1 ds st v t S1 _ q1 jok D hD => ?_
  obtain ⟨I, i0, hst, hf, hlen, hq⟩ := q1
  have lw0 : ∀ z, LW K g c W0 (fun _ _ => False) z := fun _ _ _ _ _ _ _ _ _ _ _ _ y => y.elim
  have S2 := (S1.own hD (RepAll.nil (K := K) (B := B1))).wiped (s' := wipe s vs) hv (wipe_length s vs) fun i hi => wipe_ne hi
  refine ⟨fun i m H' => ∃ B' r' acc, SR K g B' (wipe s vs) r' ((.ref D, .ol acc) :: (v, t) :: z) H' ∧ I i acc r' ∧ i ≤ ds.length ∧ m = ds.length - i, ⟨ds.length, B1, _, [], S2, i0, Nat.zero_le _, rfl⟩, fun i m H' hW => ?_⟩
  obtain ⟨B', r', acc, S', hI, hle, rfl⟩ := hW
  obtain ⟨hs1, hs2, hs3⟩ := hst i acc r' hI
  obtain ⟨jgo, jstop⟩ := jok i (wipe s vs) H' B' _ _ S' (List.mem_cons_of_mem _ List.mem_cons_self) hs1
  by_cases hlt : i < ds.length
  · obtain ⟨go, yl⟩ := jgo hlt
    refine Or.inr ⟨go, fun H2 => ∃ B2 r2 acc2, SR K g B2 (wipe s vs) r2 ((.ref D, .ol acc2) :: (v, t) :: z) H2 ∧ I (i + 1) acc2 r2, fun H2 ⟨B2, r2, acc2, S2, hI2⟩ => ⟨ds.length - (i + 1), by omega, B2, r2, acc2, S2, hI2, hlt, rfl⟩, fun x H2 hy => ?_⟩
    obtain ⟨B2, d, ed, S3⟩ := yl x H2 hy
    refine hg (wipe s vs) H2 _ B2 _ x d _ _ S3 (fun i w hw => S3.al i w (List.mem_cons_of_mem _ hw)) (hf i d acc r' ed hI) fun s4 H4 B4 r4 S4 l4 n4 q4 => ?_
    have ws : wipe s4 vs = wipe s vs := by
      rw [← wipe_wipe s vs]
      exact wipe_ext l4 fun i hi => n4 i fun h => hi (hsub i h)
    refine ⟨ws, ?_⟩
    have back : ∀ {B5 : Hp} {H5 : Hp} {r5 : Env} {z5 : Stk}, SR K g B5 s4 r5 z5 H5 → SR K g B5 (wipe s vs) (wipeE r5 vs) z5 H5 := fun {B5 H5 r5 z5} S5 => by
      rw [← ws]
      exact S5.wiped hv (wipe_length s4 vs) fun i hi => wipe_ne hi
    refine ht s4 H4 r4 B4 _ _ _ _ (lw0 _) S4 q4 fun b H5 B5 r5 S5 q5 => ?_
    cases b with
    | true =>
      refine he s4 H5 r5 B5 _ _ _ _ (lw0 _) S5 q5 fun y H6 B6 r6 t6 S6 q6 => ?_
      obtain ⟨d6, rfl, hI6⟩ := q6
      obtain ⟨ws', g1, g2, S7⟩ := S6.grown
      exact ⟨ws', g1, by rw [g2, ← size_is]; omega, B6, _, _, back S7, hI6⟩
    | false => exact ⟨B5, _, _, back S5, q5⟩
  · have e : i = ds.length := by omega
    subst e
    refine Or.inl ⟨jstop (Nat.le_refl _), ?_⟩
    have S8 := S'.wiped (s' := s) hv (wipe_length s vs).symm fun i hi => (wipe_ne hi).symm
    rw [hs3] at S8
    exact k _ _ B' _ _ S8.pop2 (hq acc r' hI)
theorem j_lcs {elt tg iter : Expr} {ifs : List Expr} {scope : Scope} {own : List (Str × Nat)} {pos : Pos} {di : DI} {dg : DG} {dt : DT} {de : DE} {ks sets vs : List Nat} (hc : X.calm = true) (hN : X.N.Nodup) (hi : JI X g c W ks tg iter di) (ok : BlkOk X.N X.env.scope scope own) (hvs : own.map (·.2) = vs) (hv : ∀ i, i ∈ vs → i ∈ g.cs) (hsub : ∀ i, i ∈ sets → i ∈ vs)
    (hg : ∀ (s : Shared) (H : Hp) (C : Addr) (cl : List (Str × Addr)) (fp : List Addr), JG (X.blk s H scope (compEnvC scope cl C X.env) fp) g (· ∉ g.cs) sets tg dg)
    (ht : ∀ (s : Shared) (H : Hp) (C : Addr) (cl : List (Str × Addr)) (fp : List Addr), JTs (X.blk s H scope (compEnvC scope cl C X.env) fp) g c W0 ifs dt)
    (he : ∀ (s : Shared) (H : Hp) (C : Addr) (cl : List (Str × Addr)) (fp : List Addr), JE (X.blk s H scope (compEnvC scope cl C X.env) fp) g c W0 elt de) (hs : ∀ x, foldedSetIterable iter X.env x = pure x := by intro _; rfl) :
    JE X g c W (.ListComp elt [⟨tg, iter, ifs, 0⟩] scope pos) (dLCs di dg dt de vs) := by
  obtain ⟨wi, pi, si⟩ := hi.ex
  subst hvs
  exact ⟨_, pe_lc hc hN pi ok (fun s H C cl fp => (hg s H C cl fp).canon) (fun s H C cl fp => (ht s H C cl fp).canon) (fun s H C cl fp => (he s H C cl fp).canon) hs, es_lcs si (canonG_ok (P := (· ∉ g.cs))) canonT_ok canonE_ok hv hsub⟩
theorem js_setLcs {i : Nat} {y : Str} {py : Pos} {elt tg iter : Expr} {ifs : List Expr} {scope : Scope} {own : List (Str × Nat)} {pos spos : Pos} {di : DI} {dg : DG} {dt : DT} {de : DE} {ks sets vs : List Nat} (hiL : i ∉ L) (hn : i < g.n) (hc : X.calm = true) (hN : X.N.Nodup) (hy : X.N[i]? = some y) (hyl : X.env.scope.names.lookup y = some .local)
    (hsw : swapsWith (.ListComp elt [⟨tg, iter, ifs, 0⟩] scope pos) (some (.Name y py)) spos.line X.env = pure true) (hi : JI X g c W ks tg iter di) (ok : BlkOk X.N X.env.scope scope own) (hvs : own.map (·.2) = vs) (hv : ∀ i, i ∈ vs → i ∈ g.cs) (hsub : ∀ i, i ∈ sets → i ∈ vs)
    (hg : ∀ (s : Shared) (H : Hp) (C : Addr) (cl : List (Str × Addr)) (fp : List Addr), JG (X.blk s H scope (compEnvC scope cl C X.env) fp) g (· ∉ g.cs) sets tg dg)
    (ht : ∀ (s : Shared) (H : Hp) (C : Addr) (cl : List (Str × Addr)) (fp : List Addr), JTs (X.blk s H scope (compEnvC scope cl C X.env) fp) g c W0 ifs dt)
    (he : ∀ (s : Shared) (H : Hp) (C : Addr) (cl : List (Str × Addr)) (fp : List Addr), JE (X.blk s H scope (compEnvC scope cl C X.env) fp) g c W0 elt de) (hs : ∀ x, foldedSetIterable iter X.env x = pure x := by intro _; rfl) :
    JS X g c W L (.Assign [.Name y py] (.ListComp elt [⟨tg, iter, ifs, 0⟩] scope pos) spos) (dSet i (dF (dLCs di dg dt de vs))) := by
  obtain ⟨wi, pi, si⟩ := hi.ex
  subst hvs
  exact ⟨_, ps_setLc hc hN hy hyl hsw pi ok (fun s H C cl fp => (hg s H C cl fp).canon) (fun s H C cl fp => (ht s H C cl fp).canon) (fun s H C cl fp => (he s H C cl fp).canon) hs, ss_set hiL hn (es_f (es_lcs si (canonG_ok (P := (· ∉ g.cs))) canonT_ok canonE_ok hv hsub))⟩
/-! ### two for in one comprehension -/
def canonI (K : PySem.W.Frag) (g : G) (c : Cl) (W : WX) (ks : List Nat) (di : DI) : TI := fun s H R => ∃ r B z Y Q, LW K g c W Y z ∧ SR K g B s r z H ∧ di Y Q r ∧ ∀ (J : It) H' B' r' (ds : List D) st v t, SR K g B' s r' ((v, t) :: z) H' → (∀ i, t = T.al i → i ∈ ks) → Q ds st r' → JOk K g J ds st v t → R J H'
theorem canonI_ok {ks : List Nat} {di : DI} : ISm K g c W ks (canonI K g c W ks di) di := fun s H r B z Y Q R lw S h k => ⟨r, B, z, Y, Q, lw, S, h, k⟩
theorem JI.canon {ks : List Nat} {tg it : Expr} {di : DI} (h : JI X g c W ks tg it di) : PI X tg it (canonI X.K g c W ks di) := by
  obtain ⟨wi, pi, si⟩ := h.ex
  exact ⟨fun pins s σ H R I ⟨r, B, z, Y, Q, lw, S, h, k⟩ => pi.run pins s σ H R I (si σ H r B z Y Q R lw S h k)⟩
theorem SR.swap {B H : Hp} {s : St} {r : Env} {z : Stk} {a b : V × T} (S : SR K g B s r (a :: b :: z) H) : SR K g B s r (b :: a :: z) H := by
  have d := S.d3
  obtain ⟨h1, h2⟩ := List.pairwise_cons.mp d
  obtain ⟨h3, h4⟩ := List.pairwise_cons.mp h2
  refine ⟨S.b0, S.bh, S.fr, S.h0, S.hm, S.len, S.ln, S.env, fun x hx => S.stk x ((List.Perm.swap a b z).mem_iff.mp hx), fun i v hx => S.al i v ((List.Perm.swap a b z).mem_iff.mp hx), S.d1, fun i t v x e1 e2 hx => S.d2 i t v x e1 e2 ((List.Perm.swap a b z).mem_iff.mp hx), ?_, S.ea⟩
  refine List.pairwise_cons.mpr ⟨fun y hy => ?_, List.pairwise_cons.mpr ⟨fun y hy => h1 y (List.mem_cons_of_mem _ hy), h4⟩⟩
  rcases List.mem_cons.mp hy with e | hy
  · subst e
    exact fun p e1 e2 => h1 b List.mem_cons_self p e2 e1
  · exact h3 y hy
theorem es_lc2 {wi wi1 : TI} {tg tg1 : TG} {tt tt1 : TT} {te : TE} {di di1 : DI} {dg dg1 : DG} {dt dt1 : DT} {de : DE} {ks ks1 sets sets1 vs vs1 : List Nat} (hi : ISm K g c W ks wi di) (hg : GSm K g (· ∉ g.cs) sets tg dg) (ht : TSm K g c W0 tt dt)
    (hi1 : ISm K g c W0 ks1 wi1 di1) (hg1 : GSm K g (· ∉ g.cs) sets1 tg1 dg1) (ht1 : TSm K g c W0 tt1 dt1) (he : ES K g c W0 te de) (hv : ∀ i, i ∈ vs → i ∈ g.cs) (hsub : ∀ i, i ∈ sets → i ∈ vs) (hv1 : ∀ i, i ∈ vs1 → i ∈ vs) (hsub1 : ∀ i, i ∈ sets1 → i ∈ vs1) :
    ES K g c W (tLc2 wi tg tt wi1 tg1 tt1 te vs vs1) (dLC2 di dg dt di1 dg1 dt1 de vs vs1) := fun s H r B z Y Q Qv lw S h k => by
  refine hi s H r B z Y _ _ lw S h fun J H1 B1 r1 ds st v t S1 _ q1 jok D hD => ?_
  obtain ⟨I, i0, hst, hf, hq⟩ := q1
  have lw0 : ∀ z, LW K g c W0 (fun _ _ => False) z := fun _ _ _ _ _ _ _ _ _ _ _ _ y => y.elim
  have S2 := (S1.own hD (RepAll.nil (K := K) (B := B1))).wiped (s' := wipe s vs) hv (wipe_length s vs) fun i hi => wipe_ne hi
  refine ⟨fun i m H' => ∃ B' r' acc, SR K g B' (wipe s vs) r' ((.ref D, .ol acc) :: (v, t) :: z) H' ∧ I i acc r' ∧ i ≤ ds.length ∧ m = ds.length - i, ⟨ds.length, B1, _, [], S2, i0, Nat.zero_le _, rfl⟩, fun i m H' hW => ?_⟩
  obtain ⟨B', r', acc, S', hI, hle, rfl⟩ := hW
  obtain ⟨hs1, hs3⟩ := hst i acc r' hI
  obtain ⟨jgo, jstop⟩ := jok i (wipe s vs) H' B' _ _ S' (List.mem_cons_of_mem _ List.mem_cons_self) hs1
  by_cases hlt : i < ds.length
  · obtain ⟨go, yl⟩ := jgo hlt
    refine Or.inr ⟨go, fun H2 => ∃ B2 r2 acc2, SR K g B2 (wipe s vs) r2 ((.ref D, .ol acc2) :: (v, t) :: z) H2 ∧ I (i + 1) acc2 r2, fun H2 ⟨B2, r2, acc2, S2, hI2⟩ => ⟨ds.length - (i + 1), by omega, B2, r2, acc2, S2, hI2, hlt, rfl⟩, fun x H2 hy => ?_⟩
    obtain ⟨B2, d, ed, S3⟩ := yl x H2 hy
    refine hg (wipe s vs) H2 _ B2 _ x d _ _ S3 (fun i w hw => S3.al i w (List.mem_cons_of_mem _ hw)) (hf i d acc r' ed hI) fun s4 H4 B4 r4 S4 l4 n4 q4 => ?_
    have ws : wipe s4 vs = wipe s vs := by
      rw [← wipe_wipe s vs]
      exact wipe_ext l4 fun i hi => n4 i fun h => hi (hsub i h)
    refine ⟨ws, ?_⟩
    refine ht s4 H4 r4 B4 _ _ _ _ (lw0 _) S4 q4 fun b H5 B5 r5 S5 q5 => ?_
    cases b with
    | false =>
      refine ⟨B5, _, _, ?_, q5⟩
      rw [← ws]
      exact S5.wiped hv (wipe_length s4 vs) fun i hi => wipe_ne hi
    | true =>
      refine hi1 s4 H5 r5 B5 _ _ _ _ (lw0 _) S5 q5 fun J1 H6 B6 r6 ds1 st1 v1 t1 S6 _ q6 jok1 => ?_
      obtain ⟨I1, j0, hst1, hf1, hq1⟩ := q6
      have S7 := S6.swap.wiped (s' := wipe s4 vs1) (fun i h => hv i (hv1 i h)) (wipe_length s4 vs1) fun i hi => wipe_ne hi
      refine ⟨fun j m H' => ∃ B' r' acc', SR K g B' (wipe s4 vs1) r' ((.ref D, .ol acc') :: (v1, t1) :: (v, t) :: z) H' ∧ I1 j acc' r' ∧ j ≤ ds1.length ∧ m = ds1.length - j, ⟨ds1.length, B6, _, acc, S7, j0, Nat.zero_le _, rfl⟩, fun j m H' hW => ?_⟩
      obtain ⟨B', r', acc', S', hI1, hle1, rfl⟩ := hW
      obtain ⟨ht1', ht2', ht3'⟩ := hst1 j acc' r' hI1
      obtain ⟨jgo1, jstop1⟩ := jok1 j (wipe s4 vs1) H' B' _ _ S' (List.mem_cons_of_mem _ List.mem_cons_self) ht1'
      by_cases hlt1 : j < ds1.length
      · obtain ⟨go1, yl1⟩ := jgo1 hlt1
        refine Or.inr ⟨go1, fun H7 => ∃ B7 r7 acc7, SR K g B7 (wipe s4 vs1) r7 ((.ref D, .ol acc7) :: (v1, t1) :: (v, t) :: z) H7 ∧ I1 (j + 1) acc7 r7, fun H7 ⟨B7, r7, acc7, S7, hI7⟩ => ⟨ds1.length - (j + 1), by omega, B7, r7, acc7, S7, hI7, hlt1, rfl⟩, fun x1 H7 hy1 => ?_⟩
        obtain ⟨B7, d1, ed1, S8⟩ := yl1 x1 H7 hy1
        refine hg1 (wipe s4 vs1) H7 _ B7 _ x1 d1 _ _ S8 (fun i w hw => S8.al i w (List.mem_cons_of_mem _ hw)) (hf1 j d1 acc' r' ed1 hI1) fun s9 H9 B9 r9 S9 l9 n9 q9 => ?_
        have ws1 : wipe s9 vs1 = wipe s4 vs1 := by
          rw [← wipe_wipe s4 vs1]
          exact wipe_ext l9 fun i hi => n9 i fun h => hi (hsub1 i h)
        refine ⟨ws1, ?_⟩
        have back : ∀ {B5 : Hp} {H5 : Hp} {r5 : Env} {z5 : Stk}, SR K g B5 s9 r5 z5 H5 → SR K g B5 (wipe s4 vs1) (wipeE r5 vs1) z5 H5 := fun {B5 H5 r5 z5} S5 => by
          rw [← ws1]
          exact S5.wiped (fun i h => hv i (hv1 i h)) (wipe_length s9 vs1) fun i hi => wipe_ne hi
        refine ht1 s9 H9 r9 B9 _ _ _ _ (lw0 _) S9 q9 fun b H10 B10 r10 S10 q10 => ?_
        cases b with
        | true =>
          refine he s9 H10 r10 B10 _ _ _ _ (lw0 _) S10 q10 fun y H11 B11 r11 t11 S11 q11 => ?_
          obtain ⟨d11, rfl, hI11⟩ := q11
          obtain ⟨ws', g1, g2, S12⟩ := S11.grown
          exact ⟨ws', g1, by rw [g2, ← size_is]; omega, B11, _, _, back S12, hI11⟩
        | false => exact ⟨B10, _, _, back S10, q10⟩
      · have e : j = ds1.length := by omega
        subst e
        refine Or.inl ⟨jstop1 (Nat.le_refl _), B', _, acc', ?_, hq1 acc' r' hI1⟩
        refine S'.pop2.wiped (s' := wipe s vs) hv ?_ fun i hi => ?_
        · rw [← ws, wipe_length, wipe_length]
        · rw [← ws, wipe_ne hi, wipe_ne fun h => hi (hv1 i h)]
  · have e : i = ds.length := by omega
    subst e
    refine Or.inl ⟨jstop (Nat.le_refl _), ?_⟩
    have S8 := S'.wiped (s' := s) hv (wipe_length s vs).symm fun i hi => (wipe_ne hi).symm
    rw [hs3] at S8
    exact k _ _ B' _ _ S8.pop2 (hq acc r' hI)
theorem j_lc2 {elt tg iter tg1 iter1 : Expr} {ifs ifs1 : List Expr} {scope : Scope} {own : List (Str × Nat)} {pos : Pos} {di di1 : DI} {dg dg1 : DG} {dt dt1 : DT} {de : DE} {ks ks1 sets sets1 vs vs1 : List Nat} (hc : X.calm = true) (hN : X.N.Nodup) (hi : JI X g c W ks tg iter di) (ok : BlkOk X.N X.env.scope scope own) (hvs : own.map (·.2) = vs) (hv : ∀ i, i ∈ vs → i ∈ g.cs) (hsub : ∀ i, i ∈ sets → i ∈ vs) (hv1 : ∀ i, i ∈ vs1 → i ∈ vs) (hsub1 : ∀ i, i ∈ sets1 → i ∈ vs1)
    (hg : ∀ (s : Shared) (H : Hp) (C : Addr) (cl : List (Str × Addr)) (fp : List Addr), JG (X.blk s H scope (compEnvC scope cl C X.env) fp) g (· ∉ g.cs) sets tg dg)
    (ht : ∀ (s : Shared) (H : Hp) (C : Addr) (cl : List (Str × Addr)) (fp : List Addr), JTs (X.blk s H scope (compEnvC scope cl C X.env) fp) g c W0 ifs dt)
    (hi1 : ∀ (s : Shared) (H : Hp) (C : Addr) (cl : List (Str × Addr)) (fp : List Addr), JI (X.blk s H scope (compEnvC scope cl C X.env) fp) g c W0 ks1 tg1 iter1 di1)
    (hg1 : ∀ (s : Shared) (H : Hp) (C : Addr) (cl : List (Str × Addr)) (fp : List Addr), JG (X.blk s H scope (compEnvC scope cl C X.env) fp) g (· ∉ g.cs) sets1 tg1 dg1)
    (ht1 : ∀ (s : Shared) (H : Hp) (C : Addr) (cl : List (Str × Addr)) (fp : List Addr), JTs (X.blk s H scope (compEnvC scope cl C X.env) fp) g c W0 ifs1 dt1)
    (he : ∀ (s : Shared) (H : Hp) (C : Addr) (cl : List (Str × Addr)) (fp : List Addr), JE (X.blk s H scope (compEnvC scope cl C X.env) fp) g c W0 elt de) (hs : ∀ x, foldedSetIterable iter X.env x = pure x := by intro _; rfl) (hs1 : ∀ env x, foldedSetIterable iter1 env x = pure x := by intro _ _; rfl) :
    JE X g c W (.ListComp elt [⟨tg, iter, ifs, 0⟩, ⟨tg1, iter1, ifs1, 0⟩] scope pos) (dLC2 di dg dt di1 dg1 dt1 de vs vs1) := by
  obtain ⟨wi, pi, si⟩ := hi.ex
  subst hvs
  exact ⟨_, pe_lc2 hc hN pi ok hv1 (fun s H C cl fp => (hg s H C cl fp).canon) (fun s H C cl fp => (ht s H C cl fp).canon) (fun s H C cl fp => (hi1 s H C cl fp).canon) (fun s H C cl fp => (hg1 s H C cl fp).canon) (fun s H C cl fp => (ht1 s H C cl fp).canon) (fun s H C cl fp => (he s H C cl fp).canon) hs hs1,
    es_lc2 si (canonG_ok (P := (· ∉ g.cs))) canonT_ok canonI_ok (canonG_ok (P := (· ∉ g.cs))) canonT_ok canonE_ok hv hsub hv1 hsub1⟩
theorem js_setLc2 {i : Nat} {y : Str} {py : Pos} {elt tg iter tg1 iter1 : Expr} {ifs ifs1 : List Expr} {scope : Scope} {own : List (Str × Nat)} {pos spos : Pos} {di di1 : DI} {dg dg1 : DG} {dt dt1 : DT} {de : DE} {ks ks1 sets sets1 vs vs1 : List Nat} (hiL : i ∉ L) (hn : i < g.n) (hc : X.calm = true) (hN : X.N.Nodup) (hy : X.N[i]? = some y) (hyl : X.env.scope.names.lookup y = some .local)
    (hsw : swapsWith (.ListComp elt [⟨tg, iter, ifs, 0⟩, ⟨tg1, iter1, ifs1, 0⟩] scope pos) (some (.Name y py)) spos.line X.env = pure true) (hi : JI X g c W ks tg iter di) (ok : BlkOk X.N X.env.scope scope own) (hvs : own.map (·.2) = vs) (hv : ∀ i, i ∈ vs → i ∈ g.cs) (hsub : ∀ i, i ∈ sets → i ∈ vs) (hv1 : ∀ i, i ∈ vs1 → i ∈ vs) (hsub1 : ∀ i, i ∈ sets1 → i ∈ vs1)
    (hg : ∀ (s : Shared) (H : Hp) (C : Addr) (cl : List (Str × Addr)) (fp : List Addr), JG (X.blk s H scope (compEnvC scope cl C X.env) fp) g (· ∉ g.cs) sets tg dg)
    (ht : ∀ (s : Shared) (H : Hp) (C : Addr) (cl : List (Str × Addr)) (fp : List Addr), JTs (X.blk s H scope (compEnvC scope cl C X.env) fp) g c W0 ifs dt)
    (hi1 : ∀ (s : Shared) (H : Hp) (C : Addr) (cl : List (Str × Addr)) (fp : List Addr), JI (X.blk s H scope (compEnvC scope cl C X.env) fp) g c W0 ks1 tg1 iter1 di1)
    (hg1 : ∀ (s : Shared) (H : Hp) (C : Addr) (cl : List (Str × Addr)) (fp : List Addr), JG (X.blk s H scope (compEnvC scope cl C X.env) fp) g (· ∉ g.cs) sets1 tg1 dg1)
    (ht1 : ∀ (s : Shared) (H : Hp) (C : Addr) (cl : List (Str × Addr)) (fp : List Addr), JTs (X.blk s H scope (compEnvC scope cl C X.env) fp) g c W0 ifs1 dt1)
    (he : ∀ (s : Shared) (H : Hp) (C : Addr) (cl : List (Str × Addr)) (fp : List Addr), JE (X.blk s H scope (compEnvC scope cl C X.env) fp) g c W0 elt de) (hs : ∀ x, foldedSetIterable iter X.env x = pure x := by intro _; rfl) (hs1 : ∀ env x, foldedSetIterable iter1 env x = pure x := by intro _ _; rfl) :
    JS X g c W L (.Assign [.Name y py] (.ListComp elt [⟨tg, iter, ifs, 0⟩, ⟨tg1, iter1, ifs1, 0⟩] scope pos) spos) (dSet i (dLC2 di dg dt di1 dg1 dt1 de vs vs1)) := by
  obtain ⟨wi, pi, si⟩ := hi.ex
  subst hvs
  exact ⟨_, ps_setLc2 hc hN hy hyl hsw pi ok hv1 (fun s H C cl fp => (hg s H C cl fp).canon) (fun s H C cl fp => (ht s H C cl fp).canon) (fun s H C cl fp => (hi1 s H C cl fp).canon) (fun s H C cl fp => (hg1 s H C cl fp).canon) (fun s H C cl fp => (ht1 s H C cl fp).canon) (fun s H C cl fp => (he s H C cl fp).canon) hs hs1,
    ss_set hiL hn (es_lc2 si (canonG_ok (P := (· ∉ g.cs))) canonT_ok canonI_ok (canonG_ok (P := (· ∉ g.cs))) canonT_ok canonE_ok hv hsub hv1 hsub1)⟩
theorem js_setLc2F {i : Nat} {y : Str} {py : Pos} {elt tg iter tg1 iter1 : Expr} {ifs ifs1 : List Expr} {scope : Scope} {own : List (Str × Nat)} {pos spos : Pos} {di di1 : DI} {dg dg1 : DG} {dt dt1 : DT} {de : DE} {ks ks1 sets sets1 vs vs1 : List Nat} (hiL : i ∉ L) (hn : i < g.n) (hc : X.calm = true) (hN : X.N.Nodup) (hy : X.N[i]? = some y) (hyl : X.env.scope.names.lookup y = some .local)
    (hsw : swapsWith (.ListComp elt [⟨tg, iter, ifs, 0⟩, ⟨tg1, iter1, ifs1, 0⟩] scope pos) (some (.Name y py)) spos.line X.env = pure true) (hi : JI X g c W ks tg iter di) (ok : BlkOk X.N X.env.scope scope own) (hvs : own.map (·.2) = vs) (hv : ∀ i, i ∈ vs → i ∈ g.cs) (hsub : ∀ i, i ∈ sets → i ∈ vs) (hv1 : ∀ i, i ∈ vs1 → i ∈ vs) (hsub1 : ∀ i, i ∈ sets1 → i ∈ vs1)
    (hg : ∀ (s : Shared) (H : Hp) (C : Addr) (cl : List (Str × Addr)) (fp : List Addr), JG (X.blk s H scope (compEnvC scope cl C X.env) fp) g (· ∉ g.cs) sets tg dg)
    (ht : ∀ (s : Shared) (H : Hp) (C : Addr) (cl : List (Str × Addr)) (fp : List Addr), JTs (X.blk s H scope (compEnvC scope cl C X.env) fp) g c W0 ifs dt)
    (hi1 : ∀ (s : Shared) (H : Hp) (C : Addr) (cl : List (Str × Addr)) (fp : List Addr), JI (X.blk s H scope (compEnvC scope cl C X.env) fp) g c W0 ks1 tg1 iter1 di1)
    (hg1 : ∀ (s : Shared) (H : Hp) (C : Addr) (cl : List (Str × Addr)) (fp : List Addr), JG (X.blk s H scope (compEnvC scope cl C X.env) fp) g (· ∉ g.cs) sets1 tg1 dg1)
    (ht1 : ∀ (s : Shared) (H : Hp) (C : Addr) (cl : List (Str × Addr)) (fp : List Addr), JTs (X.blk s H scope (compEnvC scope cl C X.env) fp) g c W0 ifs1 dt1)
    (he : ∀ (s : Shared) (H : Hp) (C : Addr) (cl : List (Str × Addr)) (fp : List Addr), JE (X.blk s H scope (compEnvC scope cl C X.env) fp) g c W0 elt de) (hs : ∀ x, foldedSetIterable iter X.env x = pure x := by intro _; rfl) (hs1 : ∀ env x, foldedSetIterable iter1 env x = pure x := by intro _ _; rfl) :
    JS X g c W L (.Assign [.Name y py] (.ListComp elt [⟨tg, iter, ifs, 0⟩, ⟨tg1, iter1, ifs1, 0⟩] scope pos) spos) (dSet i (dF (dLC2 di dg dt di1 dg1 dt1 de vs vs1))) := by
  obtain ⟨wi, pi, si⟩ := hi.ex
  subst hvs
  exact ⟨_, ps_setLc2 hc hN hy hyl hsw pi ok hv1 (fun s H C cl fp => (hg s H C cl fp).canon) (fun s H C cl fp => (ht s H C cl fp).canon) (fun s H C cl fp => (hi1 s H C cl fp).canon) (fun s H C cl fp => (hg1 s H C cl fp).canon) (fun s H C cl fp => (ht1 s H C cl fp).canon) (fun s H C cl fp => (he s H C cl fp).canon) hs hs1,
    ss_set hiL hn (es_f (es_lc2 si (canonG_ok (P := (· ∉ g.cs))) canonT_ok canonI_ok (canonG_ok (P := (· ∉ g.cs))) canonT_ok canonE_ok hv hsub hv1 hsub1))⟩
end
end J

/-! JL16: enumerate over a tuple. -/
namespace J
open PySem L2
theorem ends_newT (l : Addr) (items : Array Value) (n : Nat) (dct : Option Addr) (sl : Array (Option Value)) :
    Meets (Builtin.«enumerate.__new__» ⟨[.type "enumerate", .ref l], []⟩) (fun _ R s => s.heap.get? l = some { cls := .type "tuple", dict := dct, data := .seq items n, slots := sl } ∧
      R (.ok (.ret (.ref (s.heap.push { cls := .type "tuple_iterator", data := .fields #[.ref l, .int 0 0] }).objs.size)))
        { s with heap := (s.heap.push { cls := .type "tuple_iterator", data := .fields #[.ref l, .int 0 0] }).push { cls := .type "enumerate", data := .fields #[.none, .bool false, .ref s.heap.objs.size, rawInt 0, .none, .none] } }) := by
  refine .of_wp fun prog w A R s h => ?_
  obtain ⟨hp, gg, dd, tk, os⟩ := s
  obtain ⟨hl, h⟩ := h
  have subE := sub_enumerate
  have hT : Heap.IsTuple (Shared.heap ⟨hp, gg, dd, tk, os⟩) l items := ⟨_, hl, rfl, n, rfl⟩
  wp_walk using AutoSeq1.wpAny_loadPart' hl
  refine wpAny_stack_any fun st => wpAny_pure ?_
  split
  · rename_i cc _ _ _ _ _
    cases (cc == Value.type "enumerate") <;>
    · wp_walk using AutoSeq1.wpAny_loadPart' hl, wpAny_pyIter_tuple hT
      exact ⟨_, rfl, h⟩
  · wp_walk using AutoSeq1.wpAny_loadPart' hl, wpAny_pyIter_tuple hT
    exact ⟨_, rfl, h⟩
section
variable {prog : Program} {w : World} {A : Around} {E : Value → Shared → Prop} {s : Shared}
theorem call_enumT {l : Addr} {items : Array Value} {Q : Value → Shared → Prop} (hT : s.heap.IsTuple l items)
    (h : ∀ h', IsEnum h' (s.heap.objs.size + 1) s.heap.objs.size 0 .none → h'.IsTupleIter s.heap.objs.size l 0 → (∀ b o, s.heap.get? b = some o → h'.get? b = some o) → Q (.ref (s.heap.objs.size + 1)) { s with heap := h' }) :
    wpAny (model prog w) A (call (.type "enumerate") [.ref l]) Q E s := by
  obtain ⟨o0, hl, hc, n, hd⟩ := hT
  obtain ⟨cc, dct, dt, sl⟩ := o0
  have hc' : cc = .type "tuple" := hc
  have hd' : dt = .seq items n := hd
  subst hc' hd'
  refine callType_new F.called_enumerate (by decide) (F.typeCall_enumerate_1 _) (F.newCall_enumerate_1 _) (fun ob => F.args_object_init_2 ob _) F.entry_enumerate_new (ends_newT l items n dct sl) ⟨hl, ?_⟩
  generalize hp1 : s.heap.push { cls := .type "tuple_iterator", data := .fields #[.ref l, .int 0 0] } = h1
  have z1 : h1.objs.size = s.heap.objs.size + 1 := by rw [← hp1]; exact Heap.size_push ..
  show _ ∧ _
  rw [z1]
  have he : IsEnum (h1.push { cls := .type "enumerate", data := .fields #[.none, .bool false, .ref s.heap.objs.size, rawInt 0, .none, .none] }) (s.heap.objs.size + 1) s.heap.objs.size 0 .none := by
    have q := Heap.get?_push_size h1 (o := { cls := .type "enumerate", data := .fields #[.none, .bool false, .ref s.heap.objs.size, rawInt 0, .none, .none] }) rfl
    rw [z1] at q
    exact q
  have g1 : h1.get? s.heap.objs.size = some { cls := .type "tuple_iterator", data := .fields #[.ref l, .int 0 0] } := by rw [← hp1]; exact Heap.get?_push_size _ rfl
  refine ⟨⟨_, he, rfl⟩, h _ he ⟨_, Heap.get?_push_of_some _ g1, rfl, rfl⟩ fun b o x => Heap.get?_push_of_some _ ?_⟩
  rw [← hp1]
  exact Heap.get?_push_of_some _ x
theorem drawsT (hh : A.handled = none) (it l : Addr) (hne : l ≠ it) (items : Array Value) :
    Draws prog w A it [it, l] items.size (fun i v => items[i]? = some v) (fun i h => h.IsTupleIter it l i ∧ h.IsTuple l items) := by
  refine ⟨fun _ _ st => ?_, fun _ _ _ st hk => ?_, fun i s Q E hi st hQ => ?_, fun s Q E st hE => wpAny_nextOf_tuple_end hh st.1 st.2 (by simp) hE⟩
  · obtain ⟨⟨o, ho, _⟩, _⟩ := st
    exact ⟨o, ho⟩
  · obtain ⟨⟨o, ho, r⟩, o2, ho2, r2⟩ := st
    exact ⟨⟨o, hk it (by simp) o ho, r⟩, o2, hk l (by simp) o2 ho2, r2⟩
  · refine wpAny_nextOf_tuple_item st.1 st.2 (x := items[i]) (by simp [hi]) fun h1 a b => ?_
    obtain ⟨_, o2, ho2, r2⟩ := st
    exact hQ _ h1 s.toks (by simp [hi]) ⟨a, o2, b.extBut l o2 hne ho2, r2⟩ b
/-- a tuple's iterator that has come to its end -/
theorem drawsStop (hh : A.handled = none) (it l : Addr) (hne : l ≠ it) (items : Array Value) (n : Nat) (hn : items[n]? = none) :
    Draws prog w A it [it, l] n (fun _ _ => True) (fun i h => i = n ∧ h.IsTupleIter it l n ∧ h.IsTuple l items) := by
  refine ⟨fun _ _ st => ?_, fun _ _ _ st hk => ?_, fun i s Q E hi st hQ => ?_, fun s Q E st hE => wpAny_nextOf_tuple_end hh st.2.1 st.2.2 hn hE⟩
  · obtain ⟨_, ⟨o, ho, _⟩, _⟩ := st
    exact ⟨o, ho⟩
  · obtain ⟨e, ⟨o, ho, r⟩, o2, ho2, r2⟩ := st
    exact ⟨e, ⟨o, hk it (by simp) o ho, r⟩, o2, hk l (by simp) o2 ho2, r2⟩
  · exact absurd st.1 (Nat.ne_of_lt hi)
end
/-- the tuple at a, each item in a new pair -/
def IteT (K : PySem.W.Frag) (a : Addr) : It where
  go i H := ∃ (us : List V) (x : V), SqT K H a us ∧ us[i]? = some x
  yld i H v H' := ∃ q x, v = .ref q ∧ H q = none ∧ H' = L2.upd H q (.tup [.int (i : Nat), x]) ∧ ∀ us, SqT K H a us → us[i]? = some x
  stop i H := ∃ us : List V, SqT K H a us ∧ us.length ≤ i
theorem turn_enumT {P : Program} {w : World} {K : PySem.W.Frag} {elts : List Expr} {kk : Nat} {tpos : Pos} (a e it : Addr) :
    Turn P w K (.Tuple elts kk tpos) (IteT K a) [e, it] e (fun i h => (∃ old, IsEnum h e it ((i : Nat) : Int) old) ∧ h.IsTupleIter it a i ∧ e ≠ it ∧ a ≠ it) := by
  refine ⟨by simp, fun i h st b hb => ?_, fun i h h' st k => ?_, ?_, ?_, fun A i s Q E st h => ?_⟩
  · obtain ⟨⟨old, he⟩, ⟨o, ho, hc, hd⟩, _⟩ := st
    have hb' : b = e ∨ b = it := by simpa using hb
    rcases hb' with rfl | rfl
    · exact ⟨_, he, fun v q => nomatch q⟩
    · exact ⟨o, ho, fun v q => by rw [hd] at q; cases q⟩
  · obtain ⟨⟨old, he⟩, ⟨o, ho, r⟩, n1, n2⟩ := st
    exact ⟨⟨old, k e (by simp) _ he⟩, ⟨o, k it (by simp) _ ho, r⟩, n1, n2⟩
  · intro X hP hw hK hc i pins s σ H E I hf st hg
    subst hP hw hK
    obtain ⟨⟨old, he⟩, hit, n1, n2⟩ := st
    obtain ⟨us, x, hq, hx⟩ := hg
    obtain ⟨its, rv, pt, hz⟩ := I.tuple hq
    obtain ⟨u, hu, ru⟩ := rv.get hx
    have lit : i < its.toArray.size := by
      have := (List.getElem?_eq_some_iff.mp hu).1
      simpa using this
    have le : e < s.heap.objs.size := Heap.lt_size he
    have li : it < s.heap.objs.size := by
      obtain ⟨_, q, _⟩ := hit
      exact Heap.lt_size q
    have ha : e ≠ a := fun z => by
      obtain ⟨o, ho, hc', _⟩ := pt
      rw [← z, he] at ho
      cases ho
      exact absurd hc' (by simp)
    have pt' : s.heap.IsTuple a its.toArray := pt
    refine wpAny_pyNext_enum_itemD (drawsT (A := X.A.in1) (I.ok.hd hc) it a n2 its.toArray) he ⟨hit, pt'⟩ lit n1 (by simp [n1, ha]) fun v h' tk hv ho hst hT hsz hk => ?_
    have ev : v = u := by
      have hv' : its[i]? = some v := by simpa using hv
      rw [hu] at hv'
      exact (Option.some.inj hv').symm
    subst ev
    refine ⟨_, rfl, wpAny_letOwnedTupleGo_enum (s := { s with heap := h', toks := tk + 1 }) ho fun h2 he2 sb => ?_⟩
    have hT2 : h2.get? s.heap.objs.size = some { cls := .type "tuple", data := .seq #[.int i tk, v] } := (sb.2 _ (Nat.ne_of_gt le)).trans hT
    have nw : ObjOk X.prog X.w (L2.upd H s.heap.objs.size (.tup [.int (i : Nat), x])) h2 s.heap.objs.size (.tup [.int (i : Nat), x]) :=
      ⟨(by decide : 2 ≤ sizeLine), [.int i tk, v], .cons ⟨_, rfl⟩ (.cons ru .nil), ⟨_, hT2, rfl, _, rfl⟩⟩
    have I1 : Inv X pins σ (L2.upd H s.heap.objs.size (.tup [.int (i : Nat), x])) { s with heap := h2, toks := tk + 1 } :=
      I.turnedNew (ch := [e, it]) (fun b ob hb q => (sb.2 b (fun z => hb (by simp [z]))).trans (hk b ob (fun z => hb (by simp [z])) (fun z => hb (by simp [z])) q)) hf (Nat.le_refl _) nw
    refine ⟨.ref s.heap.objs.size, _, I1, rfl, ⟨_, x, rfl, I.hok.fresh (Nat.le_refl _), rfl, fun ys hy => by rw [I.tuple_inj hy hq]; exact hx⟩, ⟨⟨v, ?_⟩, ?_, n1, n2⟩, fun b hb => ?_⟩
    · have e1 : ((i + 1 : Nat) : Int) = (i : Int) + 1 := by omega
      rw [e1]
      exact he2
    · obtain ⟨o, ho', r⟩ := hst.1
      exact ⟨o, (sb.2 it (Ne.symm n1)).trans ho', r⟩
    · have hb' : b < s.heap.objs.size := by
        have q : b = e ∨ b = it := by simpa using hb
        rcases q with rfl | rfl
        · exact le
        · exact li
      rw [upd_ne (Nat.ne_of_lt hb')]
      exact (hf b hb).1
  · intro X hP hw hK hc i pins s σ H E I hf st hg
    subst hP hw hK
    obtain ⟨⟨old, he⟩, hit, n1, n2⟩ := st
    obtain ⟨us, hq, hx⟩ := hg
    obtain ⟨its, rv, pt, hz⟩ := I.tuple hq
    obtain ⟨f0, f1, f2, f3, f4, f5⟩ := hf it (by simp)
    have hl := rv.length
    have pt' : s.heap.IsTuple a its.toArray := pt
    have no : its.toArray[i]? = none := by simp; omega
    exact wpAny_pyNext_enum_endD (drawsStop (A := X.A.in1) (I.ok.hd hc) it a n2 its.toArray i no) he ⟨rfl, hit, pt'⟩ fun h' eb => ⟨rfl, I.turned (t' := s.toks) (fun b o hb q => eb b o hb q) f0 f1 f3 f4 f5⟩
  · obtain ⟨⟨_, he⟩, _⟩ := st
    exact wpAny_pyIter_enum he h
def rEnA (K : PySem.W.Frag) (ta : TA) : TI := fun s H R => ta s H fun vs H1 => (∃ a us, vs = [.ref a] ∧ SqL K H1 a us ∧ R (Ite K a) H1) ∨ ∃ a us, vs = [.ref a] ∧ SqT K H1 a us ∧ R (IteT K a) H1
section
variable {X : Cx} {g : G} {c : Cl} {W : WX} {L : List Nat} {K : PySem.W.Frag}
theorem pi_enA {e : Expr} {ta : TA} {p pos tpos : Pos} {elts : List Expr} {kk : Nat} (hg : Gl X "enumerate") (hm : X.mg "enumerate" = none) (ha : PA X [e] ta) (hs : starEach [e] X.env = [(false, eval e X.env)]) :
    PI X (.Tuple elts kk tpos) (.Call (.Name "enumerate" p) [e] [] pos) (rEnA X.K ta) := by
  constructor
  intro pins sh s H R I h
  refine PyProof.Rows.Call_ (ld_blt I hg hm PyProof.Rows.boot_enumerate (PyProof.Rows.callWith_type1 (thn (ha.run pos pins sh s H _ I h) ?_) hs rfl))
  have fin : ∀ {s1 : Shared} {H1 : Hp} {J : It} {a : Addr} {h' : Heap} {tn : Nat → Heap → Prop}, Inv X pins s H1 s1 → (∀ b o, s1.heap.get? b = some o → h'.get? b = some o) →
      Turn X.prog X.w X.K (.Tuple elts kk tpos) J [s1.heap.objs.size + 1, s1.heap.objs.size] (s1.heap.objs.size + 1) tn → tn 0 h' → R J H1 → PIE X pins s (.Tuple elts kk tpos) R (.ref (s1.heap.objs.size + 1)) { s1 with heap := h' } := fun {s1 H1 J a h' tn} J1 hk tu t0 q => by
    refine ⟨s1.heap.objs.size + 1, _, tn, J, H1, rfl, J1.kept (t' := s1.toks) hk, tu, t0, fun b hb => ?_, q⟩
    have hle : s1.heap.objs.size ≤ b := by
      rcases List.mem_cons.mp hb with rfl | hb
      · exact Nat.le_succ _
      · rw [List.mem_singleton.mp hb]
        exact Nat.le_refl _
    exact J1.fpOk hle (J1.hok.fresh hle)
  rintro us s1 ⟨vs, H1, J1, rv, ⟨a, xs, rfl, hq, q⟩ | ⟨a, xs, rfl, hq, q⟩⟩
  · cases rv with
    | cons r rr =>
      cases rr
      cases r
      obtain ⟨its, _, pl, _⟩ := J1.list hq
      exact call_enumerate_list pl.isList fun h' he hit hsz hk => wpAny_pyIter_enum he (fin (a := a) J1 hk (turn_enum a _ _) ⟨⟨.none, he⟩, hit, Nat.succ_ne_self _⟩ q)
  · cases rv with
    | cons r rr =>
      cases rr
      cases r
      obtain ⟨its, _, pl, _⟩ := J1.tuple hq
      have pl' : s1.heap.IsTuple a its.toArray := pl
      have la : a < s1.heap.objs.size := by
        obtain ⟨o, ho, _⟩ := pl
        exact Heap.lt_size ho
      exact call_enumT pl' fun h' he hit hk => wpAny_pyIter_enum he (fin (a := a) J1 hk (turn_enumT a _ _) ⟨⟨.none, he⟩, hit, Nat.succ_ne_self _, Nat.ne_of_lt la⟩ q)
theorem ji_enA {ks : List Nat} {e : Expr} {de : DE} {elts : List Expr} {kk : Nat} {p pos tpos : Pos} (hg : Gl X "enumerate") (hm : X.mg "enumerate" = none) (he : JE X g c W e de) (hs : starEach [e] X.env = [(false, eval e X.env)] := by rfl) :
    JI X g c W ks (.Tuple elts kk tpos) (.Call (.Name "enumerate" p) [e] [] pos) (iEnA ks de) := by
  obtain ⟨te, pe, se⟩ := he.ex
  refine ⟨_, pi_enA hg hm (pa_cons pe pa_nil hs) hs, fun s H r B z Y Q R lw S h k => ?_⟩
  refine se s H r B z Y _ _ lw S h fun v H1 B1 r1 t1 S1 q1 => ?_
  obtain ⟨ha, q1⟩ := q1
  have pair : ∀ {i : Nat} {x' : V} {d : D} {T' : Addr} {s2 : L2.St} {H2 B2 : Hp} {r2 : Env} {z2 : Stk} {ds : List D}, SR X.K g B2 s2 r2 z2 H2 → H2 T' = none → ds[i]? = some d → Rep X.K B2 x' d →
      ∃ B' d', (enumD 0 ds)[i]? = some d' ∧ SR X.K g B' s2 r2 ((.ref T', .sh d') :: z2) (L2.upd H2 T' (.tup [.int (i : Nat), x'])) := fun {i x' d T' s2 H2 B2 r2 z2 ds} S2 hT q rr => by
    refine ⟨_, _, by rw [enum_get, q]; rfl, (S2.alloc (o := .tup [.int (i : Nat), x']) hT).push (.tup (SqT.of upd_same) (.cons ?_ (.cons (rr.mono (sm_new (none_b S2.bh hT))) .nil)))⟩
    rw [Nat.zero_add]
    exact .int _
  split at q1
  · rename_i ds e1
    obtain ⟨a, vs, rfl, h1, h2⟩ := S1.view List.mem_cons_self e1
    refine Or.inl ⟨a, vs, rfl, SqL.of h1, k _ H1 B1 r1 _ _ _ t1 S1 (al_ok ha) q1 fun i s2 H2 B2 r2 z2 S2 hm hst => ?_⟩
    obtain ⟨a', ws, ea, g1, g2⟩ := S2.view hm hst
    cases ea
    rw [enum_len]
    refine ⟨fun hi => ⟨?_, fun x H3 hy => ?_⟩, fun hi => ⟨ws, SqL.of g1, by rw [g2.len]; exact hi⟩⟩
    · obtain ⟨v, q, _⟩ := g2.get (i := i) (List.getElem?_eq_getElem hi)
      exact ⟨ws, v, SqL.of g1, q⟩
    · obtain ⟨T', x', rfl, hT, rfl, hy⟩ := hy
      obtain ⟨d, q, rr⟩ := g2.getV (hy ws (SqL.of g1))
      exact pair S2 hT q rr
  · rename_i ds e1
    have v1 := S1.view List.mem_cons_self e1
    cases v1 with
    | @tup a us _ h1 h2 =>
      refine Or.inr ⟨a, us, rfl, same_t S1.bh h1, k _ H1 B1 r1 _ _ _ t1 S1 (al_ok ha) q1 fun i s2 H2 B2 r2 z2 S2 hm hst => ?_⟩
      have w2 := S2.view hm hst
      cases w2 with
      | tup g1 g2 =>
        have g1' := same_t S2.bh g1
        rw [enum_len]
        refine ⟨fun hi => ⟨?_, fun x H3 hy => ?_⟩, fun hi => ⟨_, g1', by rw [g2.len]; exact hi⟩⟩
        · obtain ⟨v, q, _⟩ := g2.get (i := i) (List.getElem?_eq_getElem hi)
          exact ⟨_, v, g1', q⟩
        · obtain ⟨T', x', rfl, hT, rfl, hy⟩ := hy
          obtain ⟨d, q, rr⟩ := g2.getV (hy _ g1')
          exact pair S2 hT q rr
  · exact q1.elim
end
end J

/-! JL17: one list of ints ahead of another one. -/
namespace J
open PySem L2
def lexB (ns ms : List Int) : Bool := SeqAt.firstLt (fun j => decide (ns.getD j 0 = ms.getD j 0)) (fun j => decide (ns.getD j 0 < ms.getD j 0)) (decide (ns.length < ms.length)) (List.range (min ns.length ms.length))
theorem first_map (e r : Nat → Bool) (f : Bool) : ∀ l : List Nat, SeqAt.firstLt e r f (l.map Nat.succ) = SeqAt.firstLt (fun j => e (j + 1)) (fun j => r (j + 1)) f l
  | [] => rfl
  | j :: t => by
    show (if e (j + 1) = true then SeqAt.firstLt e r f (t.map Nat.succ) else r (j + 1)) = if e (j + 1) = true then _ else _
    rw [first_map e r f t]
theorem lexB_ltI : ∀ ns ms : List Int, lexB ns ms = ltI ns ms
  | [], [] => rfl
  | [], _ :: _ => by simp [lexB, ltI, SeqAt.firstLt]
  | _ :: _, [] => by simp [lexB, ltI, SeqAt.firstLt]
  | x :: xs, y :: ys => by
    have ih := lexB_ltI xs ys
    unfold lexB at ih ⊢
    have e : min (x :: xs).length (y :: ys).length = min xs.length ys.length + 1 := by simp only [List.length_cons]; omega
    rw [e, List.range_succ_eq_map]
    show (if decide (x = y) = true then SeqAt.firstLt _ _ _ _ else decide (x < y)) = if x = y then ltI xs ys else decide (x < y)
    by_cases q : x = y
    · rw [if_pos (decide_eq_true q), if_pos q, first_map, ← ih]
      have l : decide ((x :: xs).length < (y :: ys).length) = decide (xs.length < ys.length) := by simp
      rw [l]
      simp
    · rw [if_neg (by simpa using q), if_neg q]
def rLtL (K : PySem.W.Frag) : R2 := fun x y H Q => ∃ a b ns ms, x = .ref a ∧ y = .ref b ∧ SqL K H a (ns.map V.int) ∧ SqL K H b (ms.map V.int) ∧ Q (.bl (lexB ns ms)) H
section
variable {X : Cx} {g : G} {K : PySem.W.Frag}
theorem op_ltL (hu : X.A.units < cLine) : OpR X (compareOp .Lt) (rLtL X.K) := by
  intro pins s σ H x y v u Q I rx ry h
  obtain ⟨a, b, ns, ms, rfl, rfl, ha, hb, q⟩ := h
  cases rx
  cases ry
  obtain ⟨its, r1, p1, _⟩ := I.list ha
  obtain ⟨jts, r2, p2, _⟩ := I.list hb
  have l1 := r1.length
  have l2 := r2.length
  rw [List.length_map] at l1 l2
  have at1 : ∀ {ks : List Int} {us : List Value}, Vals (ks.map V.int) us → ∀ (j : Nat) (hj : j < us.toArray.size), ∃ t, us.toArray[j] = .int (ks.getD j 0) t := fun {ks us} r j hj => by
    have hj' : j < us.length := by simpa using hj
    have hk : j < ks.length := by have := r.length; rw [List.length_map] at this; omega
    obtain ⟨w, e1, t, e2⟩ := r.get (i := j) (x := .int ks[j]) (by simp [List.getElem?_eq_getElem hk])
    refine ⟨t, ?_⟩
    rw [List.getElem?_eq_getElem hj'] at e1
    have e3 := Option.some.inj e1
    simp only [List.getElem_toArray, e3, e2, List.getD_eq_getElem?_getD, List.getElem?_eq_getElem hk, Option.getD_some]
  have main := SeqAt.RcLt.lists (A := X.A) (e := fun j => decide (ns.getD j 0 = ms.getD j 0)) (r := fun j => decide (ns.getD j 0 < ms.getD j 0)) p1.isList p2.isList hu (fun j h1 h2 => ?_) (fun j h1 h2 _ => ?_)
  · have e : lexB ns ms = SeqAt.firstLt (fun j => decide (ns.getD j 0 = ms.getD j 0)) (fun j => decide (ns.getD j 0 < ms.getD j 0)) (decide (its.toArray.size < jts.toArray.size)) (List.range (min its.toArray.size jts.toArray.size)) := by
      rw [List.size_toArray, List.size_toArray, ← l1, ← l2]
      rfl
    rw [e] at q
    exact main _ _ _ _ ⟨.bl _, H, I, rfl, q⟩
  · obtain ⟨t, e1⟩ := at1 r1 j h1
    obtain ⟨t', e2⟩ := at1 r2 j h2
    rw [e1, e2]
    have z : decide (ns.getD j 0 = ms.getD j 0) = (ns.getD j 0 == ms.getD j 0) := by rw [Bool.eq_iff_iff]; simp
    show SeqAt.EqAt _ _ _ _ (decide (ns.getD j 0 = ms.getD j 0))
    rw [z]
    exact SeqAt.EqAt.int_int _ _ _ _
  · obtain ⟨t, e1⟩ := at1 r1 j h1
    obtain ⟨t', e2⟩ := at1 r2 j h2
    rw [e1, e2]
    exact fun prog w E Q h => PyProof.Rows.lt_int h
abbrev rLtA (K : PySem.W.Frag) : R2 := fun x y H Q => (rI0 fun i j => .bl (decide (i < j))) x y H Q ∨ rLtL K x y H Q
theorem jo_ltA {k : Nat} (hr : Room k X.A) : OpR X (compareOp .Lt) (rLtA X.K) ∧ OpS X.K g (rLtA X.K) oLtA := by
  have hu := hr.units
  refine ⟨opR_or op_lt (op_ltL (by omega)), fun B s r z H v w x y Q Qv S h1 h2 q k => ?_⟩
  unfold oLtA at q
  split at q
  · cases h1
    cases h2
    exact Or.inl ⟨_, _, rfl, rfl, k _ H B _ (S.push (.bl _)) q⟩
  · split at q
    · rename_i ns ms e1 e2
      obtain ⟨a, vs, rfl, a1, a2⟩ := h1
      obtain ⟨b, ws, rfl, b1, b2⟩ := h2
      have f1 := a2.intsOf e1
      have f2 := b2.intsOf e2
      subst f1 f2
      refine Or.inr ⟨a, b, ns, ms, rfl, rfl, SqL.of a1, SqL.of b1, ?_⟩
      rw [lexB_ltI]
      exact k _ H B _ (S.push (.bl _)) q
    · exact q.elim
  · exact q.elim
end
end J

/-! JL18: objects: the account's moves. -/
namespace J
open PySem L2
section
variable {K : PySem.W.Frag} {g : G} {B B' H H' : Hp} {s : St} {r : Env} {z : Stk} {v : V} {t : T}
/-- slot i's own thing, with what stands on the stack's top zo, is given another content; zn comes onto the stack -/
theorem SR.tradeB {i : Nat} {zo zn : Stk} {t' : T} (S : SR K g B s r (zo ++ z) H) (h : look r i = some t) (hv : s[i]? = some (some v))
    (hb : Same B B') (hs : Same B' H') (hn : ∀ a, B' a ≠ none → B a ≠ none ∨ H a = none ∨ (fpT H v t a ∨ ∃ x ∈ zo, fpT H x.1 x.2 a))
    (hh : ∀ a o, H a = some o → ¬ fpT H v t a → (∀ x ∈ zo, ¬ fpT H x.1 x.2 a) → H' a = some o) (hm : ∀ a, H a ≠ none → H' a ≠ none)
    (ok : En K g B' H' s v t') (sub : ∀ a, fpT H' v t' a → fpT H v t a ∨ (∃ x ∈ zo, fpT H x.1 x.2 a) ∨ H a = none)
    (okn : ∀ x ∈ zn, En K g B' H' s x.1 x.2) (subn : ∀ x ∈ zn, ∀ a, fpT H' x.1 x.2 a → fpT H v t a ∨ (∃ x ∈ zo, fpT H x.1 x.2 a) ∨ H a = none)
    (al : ∀ x ∈ zn, ∀ j, x.2 ≠ .al j) (al' : ∀ j, t' ≠ .al j) (dis : ∀ x ∈ zn, ∀ a, fpT H' v t' a → fpT H' x.1 x.2 a → False) (disn : zn.Pairwise fun x y => ∀ a, fpT H' x.1 x.2 a → fpT H' y.1 y.2 a → False) :
    SR K g B' s (put r i (some t')) (zn ++ z) H' := by
  have lt := look_lt h
  obtain ⟨v0, e0, en0⟩ := S.env i t h
  rw [hv] at e0
  cases e0
  obtain ⟨pz1, pz2, pz3⟩ := List.pairwise_append.mp S.d3
  -- traded addresses
  have old : ∀ a, (fpT H v t a ∨ ∃ x ∈ zo, fpT H x.1 x.2 a) → B a = none ∧ (g.H0 a = none ∨ a ∈ g.M) := fun a q => by
    rcases q with q | ⟨x, hx, q⟩
    · exact ⟨(en0.live q).2.1, (en0.live q).2.2⟩
    · have := (S.stk x (List.mem_append_left _ hx)).live q
      exact ⟨this.2.1, this.2.2⟩
  have out : ∀ {w : V} {u : T}, En K g B H s w u → (∀ a, fpT H w u a → ¬ fpT H v t a ∧ ∀ x ∈ zo, ¬ fpT H x.1 x.2 a) → En K g B' H' s w u ∧ ∀ a, fpT H' w u a ↔ fpT H w u a := fun {w u} e n =>
    e.frame hb (fun a q => by
      cases eo : H a with
      | none => exact absurd eo (e.live q).1
      | some o => exact hh a o eo (n a q).1 (n a q).2) fun a q => by
      cases eo : B' a with
      | none => rfl
      | some o =>
        rcases hn a (by rw [eo]; simp) with z | z | z
        · exact absurd (e.live q).2.1 z
        · exact absurd z (e.live q).1
        · rcases z with z | ⟨x, hx, z⟩
          · exact absurd z (n a q).1
          · exact absurd z ((n a q).2 x hx)
  have oe : ∀ j w u, i ≠ j → look r j = some u → s[j]? = some (some w) → En K g B H s w u → ∀ a, fpT H w u a → ¬ fpT H v t a ∧ ∀ x ∈ zo, ¬ fpT H x.1 x.2 a := fun j w u ij l e _ a q =>
    ⟨fun q' => S.d1 i j t u v w ij h l hv e a q' q, fun x hx q' => S.d2 j u w x l e (List.mem_append_left _ hx) a q q'⟩
  have oz : ∀ y ∈ z, ∀ a, fpT H y.1 y.2 a → ¬ fpT H v t a ∧ ∀ x ∈ zo, ¬ fpT H x.1 x.2 a := fun y hy a q =>
    ⟨fun q' => S.d2 i t v y h hv (List.mem_append_right _ hy) a q' q, fun x hx q' => pz3 x hx y hy a q' q⟩
  have nold : ∀ {a : Addr}, (fpT H v t a ∨ (∃ x ∈ zo, fpT H x.1 x.2 a) ∨ H a = none) → (H a ≠ none → ¬ fpT H v t a → (∀ x ∈ zo, ¬ fpT H x.1 x.2 a) → False) := fun {a} q n1 n2 n3 => by
    rcases q with q | ⟨x, hx, q⟩ | q
    · exact n2 q
    · exact n3 x hx q
    · exact n1 q
  have one : ∀ {j : Nat} {u : T}, look (put r i (some t')) j = some u → (j = i ∧ u = t') ∨ (i ≠ j ∧ look r j = some u) := fun {j u} e => by
    by_cases q : i = j
    · subst q
      rw [look_put_self lt] at e
      cases e
      exact Or.inl ⟨rfl, rfl⟩
    · rw [look_put_ne q] at e
      exact Or.inr ⟨q, e⟩
  refine ⟨fun a o e => hb a o (S.b0 a o e), hs, fun a e => ?_, fun a o e m => ?_, fun a e => hm a (S.hm a e), by rw [put_len]; exact S.len, by rw [put_len]; exact S.ln, fun j u e => ?_, fun x hx => ?_, fun j w hx => ?_, fun j k t1 t2 v1 v2 hjk a b c d y q1 q2 => ?_, fun j t1 v1 x a b hx y q1 q2 => ?_, ?_, fun j k e => ?_⟩
  · rcases hn a e with q | q | q
    · exact S.fr a q
    · exact Or.inr (Or.inl (Classical.byContradiction fun e => S.hm a e q))
    · exact Or.inr (old a q).2
  · refine hh a o (S.h0 a o e m) (fun q => ?_) fun x hx q => ?_
    · rcases (old a (Or.inl q)).2 with q | q
      · rw [e] at q; cases q
      · exact m q
    · rcases (old a (Or.inr ⟨x, hx, q⟩)).2 with q | q
      · rw [e] at q; cases q
      · exact m q
  · rcases one e with ⟨rfl, rfl⟩ | ⟨q, e⟩
    · exact ⟨v, hv, ok⟩
    · obtain ⟨w, a, b⟩ := S.env j u e
      exact ⟨w, a, (out b (oe j w u q e a b)).1⟩
  · rcases List.mem_append.mp hx with hx | hx
    · exact okn x hx
    · exact (out (S.stk x (List.mem_append_right _ hx)) (oz x hx)).1
  · rcases List.mem_append.mp hx with hx | hx
    · exact absurd rfl (al _ hx j)
    · exact S.al j w (List.mem_append_right _ hx)
  · rcases one a with ⟨e1, e2⟩ | ⟨p1, a'⟩
    · rcases one b with ⟨e, _⟩ | ⟨p2, b'⟩
      · exact hjk (e1.trans e.symm)
      · subst e1 e2
        rw [hv] at c
        cases c
        obtain ⟨w, f1, f2⟩ := S.env k t2 b'
        rw [d] at f1
        cases f1
        have o2 := oe k v2 t2 p2 b' d f2
        have q3 := ((out f2 o2).2 y).mp q2
        exact nold (sub y q1) (f2.live q3).1 (o2 y q3).1 (o2 y q3).2
    · rcases one b with ⟨e1, e2⟩ | ⟨p2, b'⟩
      · subst e1 e2
        rw [hv] at d
        cases d
        obtain ⟨w, f1, f2⟩ := S.env j t1 a'
        rw [c] at f1
        cases f1
        have o2 := oe j v1 t1 p1 a' c f2
        have q3 := ((out f2 o2).2 y).mp q1
        exact nold (sub y q2) (f2.live q3).1 (o2 y q3).1 (o2 y q3).2
      · obtain ⟨w1, f1, f2⟩ := S.env j t1 a'
        obtain ⟨w2, g1, g2⟩ := S.env k t2 b'
        rw [c] at f1
        rw [d] at g1
        cases f1
        cases g1
        exact S.d1 j k t1 t2 v1 v2 hjk a' b' c d y (((out f2 (oe j v1 t1 p1 a' c f2)).2 y).mp q1) (((out g2 (oe k v2 t2 p2 b' d g2)).2 y).mp q2)
  · rcases one a with ⟨e1, e2⟩ | ⟨p1, a'⟩
    · subst e1 e2
      rw [hv] at b
      cases b
      rcases List.mem_append.mp hx with hx | hx
      · exact dis x hx y q1 q2
      · have f2 := S.stk x (List.mem_append_right _ hx)
        have q3 := ((out f2 (oz x hx)).2 y).mp q2
        exact nold (sub y q1) (f2.live q3).1 (oz x hx y q3).1 (oz x hx y q3).2
    · obtain ⟨w, f1, f2⟩ := S.env j t1 a'
      rw [b] at f1
      cases f1
      have o2 := oe j v1 t1 p1 a' b f2
      have q3 := ((out f2 o2).2 y).mp q1
      rcases List.mem_append.mp hx with hx | hx
      · exact nold (subn x hx y q2) (f2.live q3).1 (o2 y q3).1 (o2 y q3).2
      · have g2 := S.stk x (List.mem_append_right _ hx)
        exact S.d2 j t1 v1 x a' b (List.mem_append_right _ hx) y q3 (((out g2 (oz x hx)).2 y).mp q2)
  · refine List.pairwise_append.mpr ⟨disn, ?_, fun x hx y hy a q1 q2 => ?_⟩
    · exact List.Pairwise.imp_of_mem (fun {x y} hx hy hq a q1 q2 => hq a (((out (S.stk x (List.mem_append_right _ hx)) (oz x hx)).2 a).mp q1) (((out (S.stk y (List.mem_append_right _ hy)) (oz y hy)).2 a).mp q2)) pz2
    · have f2 := S.stk y (List.mem_append_right _ hy)
      have q3 := ((out f2 (oz y hy)).2 a).mp q2
      exact nold (subn x hx a q1) (f2.live q3).1 (oz y hy a q3).1 (oz y hy a q3).2
  · rcases one e with ⟨_, e'⟩ | ⟨_, e'⟩
    · exact al' k e'.symm
    · exact S.ea j k e'
/-- the stack's top zo is given another content zn -/
theorem SR.tradeZB {zo zn : Stk} (S : SR K g B s r (zo ++ z) H)
    (hb : Same B B') (hs : Same B' H') (hn : ∀ a, B' a ≠ none → B a ≠ none ∨ H a = none ∨ (∃ x ∈ zo, fpT H x.1 x.2 a))
    (hh : ∀ a o, H a = some o → (∀ x ∈ zo, ¬ fpT H x.1 x.2 a) → H' a = some o) (hm : ∀ a, H a ≠ none → H' a ≠ none)
    (okn : ∀ x ∈ zn, En K g B' H' s x.1 x.2) (subn : ∀ x ∈ zn, ∀ a, fpT H' x.1 x.2 a → (∃ x ∈ zo, fpT H x.1 x.2 a) ∨ H a = none)
    (al : ∀ x ∈ zn, ∀ j, x.2 ≠ .al j) (disn : zn.Pairwise fun x y => ∀ a, fpT H' x.1 x.2 a → fpT H' y.1 y.2 a → False) :
    SR K g B' s r (zn ++ z) H' := by
  obtain ⟨pz1, pz2, pz3⟩ := List.pairwise_append.mp S.d3
  have old : ∀ a, (∃ x ∈ zo, fpT H x.1 x.2 a) → B a = none ∧ (g.H0 a = none ∨ a ∈ g.M) := fun a ⟨x, hx, q⟩ => by
    have := (S.stk x (List.mem_append_left _ hx)).live q
    exact ⟨this.2.1, this.2.2⟩
  have out : ∀ {w : V} {u : T}, En K g B H s w u → (∀ a, fpT H w u a → ∀ x ∈ zo, ¬ fpT H x.1 x.2 a) → En K g B' H' s w u ∧ ∀ a, fpT H' w u a ↔ fpT H w u a := fun {w u} e n =>
    e.frame hb (fun a q => by
      cases eo : H a with
      | none => exact absurd eo (e.live q).1
      | some o => exact hh a o eo (n a q)) fun a q => by
      cases eo : B' a with
      | none => rfl
      | some o =>
        rcases hn a (by rw [eo]; simp) with z | z | z
        · exact absurd (e.live q).2.1 z
        · exact absurd z (e.live q).1
        · obtain ⟨x, hx, z⟩ := z
          exact absurd z (n a q x hx)
  have oe : ∀ j w u, look r j = some u → s[j]? = some (some w) → ∀ a, fpT H w u a → ∀ x ∈ zo, ¬ fpT H x.1 x.2 a := fun j w u l e a q x hx q' =>
    S.d2 j u w x l e (List.mem_append_left _ hx) a q q'
  have oz : ∀ y ∈ z, ∀ a, fpT H y.1 y.2 a → ∀ x ∈ zo, ¬ fpT H x.1 x.2 a := fun y hy a q x hx q' => pz3 x hx y hy a q' q
  have nold : ∀ {a : Addr}, ((∃ x ∈ zo, fpT H x.1 x.2 a) ∨ H a = none) → (H a ≠ none → (∀ x ∈ zo, ¬ fpT H x.1 x.2 a) → False) := fun {a} q n1 n3 => by
    rcases q with ⟨x, hx, q⟩ | q
    · exact n3 x hx q
    · exact n1 q
  refine ⟨fun a o e => hb a o (S.b0 a o e), hs, fun a e => ?_, fun a o e m => ?_, fun a e => hm a (S.hm a e), S.len, S.ln, fun j u e => ?_, fun x hx => ?_, fun j w hx => ?_, fun j k t1 t2 v1 v2 hjk a b c d y q1 q2 => ?_, fun j t1 v1 x a b hx y q1 q2 => ?_, ?_, S.ea⟩
  · rcases hn a e with q | q | q
    · exact S.fr a q
    · exact Or.inr (Or.inl (Classical.byContradiction fun e => S.hm a e q))
    · exact Or.inr (old a q).2
  · refine hh a o (S.h0 a o e m) fun x hx q => ?_
    rcases (old a ⟨x, hx, q⟩).2 with q | q
    · rw [e] at q; cases q
    · exact m q
  · obtain ⟨w, a, b⟩ := S.env j u e
    exact ⟨w, a, (out b (oe j w u e a)).1⟩
  · rcases List.mem_append.mp hx with hx | hx
    · exact okn x hx
    · exact (out (S.stk x (List.mem_append_right _ hx)) (oz x hx)).1
  · rcases List.mem_append.mp hx with hx | hx
    · exact absurd rfl (al _ hx j)
    · exact S.al j w (List.mem_append_right _ hx)
  · obtain ⟨w1, f1, f2⟩ := S.env j t1 a
    obtain ⟨w2, g1, g2⟩ := S.env k t2 b
    rw [c] at f1
    rw [d] at g1
    cases f1
    cases g1
    exact S.d1 j k t1 t2 v1 v2 hjk a b c d y (((out f2 (oe j v1 t1 a c)).2 y).mp q1) (((out g2 (oe k v2 t2 b d)).2 y).mp q2)
  · obtain ⟨w, f1, f2⟩ := S.env j t1 a
    rw [b] at f1
    cases f1
    have o2 := oe j v1 t1 a b
    have q3 := ((out f2 o2).2 y).mp q1
    rcases List.mem_append.mp hx with hx | hx
    · exact nold (subn x hx y q2) (f2.live q3).1 (o2 y q3)
    · have g2 := S.stk x (List.mem_append_right _ hx)
      exact S.d2 j t1 v1 x a b (List.mem_append_right _ hx) y q3 (((out g2 (oz x hx)).2 y).mp q2)
  · refine List.pairwise_append.mpr ⟨disn, ?_, fun x hx y hy a q1 q2 => ?_⟩
    · exact List.Pairwise.imp_of_mem (fun {x y} hx hy hq a q1 q2 => hq a (((out (S.stk x (List.mem_append_right _ hx)) (oz x hx)).2 a).mp q1) (((out (S.stk y (List.mem_append_right _ hy)) (oz y hy)).2 a).mp q2)) pz2
    · have f2 := S.stk y (List.mem_append_right _ hy)
      have q3 := ((out f2 (oz y hy)).2 a).mp q2
      exact nold (subn x hx a q1) (f2.live q3).1 (oz y hy a q3)
end
/-! ### fields -/
theorem lookF {f : Str} : ∀ {names : List Str} {fl : List (Str × V)} {n k : Nat}, fl.map (·.1) = names.take n → names.findIdx? (· == f) = some k → ∀ hk : k < fl.length, fl.lookup f = some fl[k].2 ∧ fl[k].1 = f
  | [], fl, n, k, e, h, hk => by simp at h
  | g :: names, [], n, k, e, h, hk => by simp at hk
  | g :: names, (g', x) :: fl, 0, k, e, h, hk => by simp at e
  | g :: names, (g', x) :: fl, n + 1, k, e, h, hk => by
    simp only [List.map_cons, List.take_succ_cons, List.cons.injEq] at e
    obtain ⟨rfl, e⟩ := e
    rw [List.findIdx?_cons] at h
    by_cases q : g' = f
    · subst q
      simp at h
      subst h
      exact ⟨by simp, rfl⟩
    · have q' : (g' == f) = false := by simpa using q
      rw [q'] at h
      simp only [Bool.false_eq_true, if_false, Option.map_eq_some_iff] at h
      obtain ⟨k', h', rfl⟩ := h
      have := lookF e h' (by simpa using hk)
      have q2 : (f == g') = false := by simpa using fun z => q z.symm
      refine ⟨?_, by simpa using this.2⟩
      rw [List.lookup_cons, q2]
      simpa using this.1
theorem putF_set {f : Str} {y : V} : ∀ {names : List Str} {fl : List (Str × V)} {n k : Nat}, fl.map (·.1) = names.take n → names.findIdx? (· == f) = some k → k < fl.length → (putF f y fl).map (·.1) = names.take n ∧ (putF f y fl).map (·.2) = (fl.map (·.2)).set k y
  | [], fl, n, k, e, h, hk => by simp at h
  | g :: names, [], n, k, e, h, hk => by simp at hk
  | g :: names, (g', x) :: fl, 0, k, e, h, hk => by simp at e
  | g :: names, (g', x) :: fl, n + 1, k, e, h, hk => by
    simp only [List.map_cons, List.take_succ_cons, List.cons.injEq] at e
    obtain ⟨rfl, e⟩ := e
    rw [List.findIdx?_cons] at h
    by_cases q : g' = f
    · subst q
      simp at h
      subst h
      simp [putF, e]
    · have q' : (g' == f) = false := by simpa using q
      rw [q'] at h
      simp only [Bool.false_eq_true, if_false, Option.map_eq_some_iff] at h
      obtain ⟨k', h', rfl⟩ := h
      have := putF_set (y := y) e h' (by simpa using hk)
      simp [putF, q, this.1, this.2]
theorem putF_app {f : Str} {y : V} : ∀ {names : List Str} {fl : List (Str × V)} {n k : Nat}, fl.map (·.1) = names.take n → names.findIdx? (· == f) = some k → k = fl.length → (putF f y fl).map (·.1) = names.take (k + 1) ∧ (putF f y fl).map (·.2) = fl.map (·.2) ++ [y]
  | [], fl, n, k, e, h, hk => by simp at h
  | g :: names, [], n, k, e, h, hk => by
    simp at hk
    subst hk
    rw [List.findIdx?_cons] at h
    by_cases q : g = f
    · subst q
      simp [putF]
    · have q' : (g == f) = false := by simpa using q
      rw [q'] at h
      simp at h
  | g :: names, (g', x) :: fl, 0, k, e, h, hk => by simp at e
  | g :: names, (g', x) :: fl, n + 1, k, e, h, hk => by
    simp only [List.map_cons, List.take_succ_cons, List.cons.injEq] at e
    obtain ⟨rfl, e⟩ := e
    rw [List.findIdx?_cons] at h
    by_cases q : g' = f
    · subst q
      simp at h
      subst h
      simp at hk
    · have q' : (g' == f) = false := by simpa using q
      rw [q'] at h
      simp only [Bool.false_eq_true, if_false, Option.map_eq_some_iff] at h
      obtain ⟨k', h', rfl⟩ := h
      have := putF_app (y := y) e h' (by simpa using hk)
      simp [putF, q, this.1, this.2]
theorem clsT_len (c : Nat) : (clsT c).2.length ≤ 10 := by
  unfold clsT
  split <;> decide
section
variable {K : PySem.W.Frag} {g : G} {B B' H H' : Hp} {s : St} {r : Env} {z : Stk} {v w : V} {t : T}
/-- what is handed on becomes a part -/
theorem leaf_of {P : F → Prop} (h : leafA t P) (e : En K g B H s w t) : ∃ l, P l ∧ OwF K B H l w ∧ ∀ a, a ∈ idsF l ↔ fpT H w t a := by
  cases t with
  | sh d => exact ⟨_, h, e, fun a => by simp [idsF, fpT]⟩
  | ol ds =>
    obtain ⟨p, vs, rfl, h1, h2, _⟩ := e
    refine ⟨.ol p ds, h p, ⟨rfl, vs, h1, h2⟩, fun a => ?_⟩
    show a ∈ [p] ↔ V.ref p = V.ref a
    constructor
    · intro q
      rw [List.mem_singleton.mp q]
    · intro q
      cases q
      exact List.mem_singleton.mpr rfl
  | own f => exact ⟨f, h, e.1, fun _ => Iff.rfl⟩
  | bor _ => exact h.elim
  | al _ => exact h.elim
  | exc _ _ => exact h.elim
  | ptr _ _ _ => exact h.elim
theorem ids_cons {f : F} {fs : List F} {a : Nat} : a ∈ idsFs (f :: fs) ↔ a ∈ idsF f ∨ a ∈ idsFs fs := by simp [idsFs]
theorem ids_nd {q : Nat} {c : Option Nat} {fs : List F} {a : Nat} : a ∈ idsF (.nd q c fs) ↔ a = q ∨ a ∈ idsFs fs := by simp [idsF]
theorem ids_nil {a : Nat} : a ∈ idsFs [] ↔ False := by simp [idsFs]
theorem ids_app : ∀ {fs : List F} {l : F} {a : Nat}, a ∈ idsFs (fs ++ [l]) ↔ a ∈ idsFs fs ∨ a ∈ idsF l
  | [], l, a => by simp [idsFs]
  | f :: fs, l, a => by
    rw [List.cons_append, ids_cons, ids_cons, ids_app, or_assoc]
theorem ids_at : ∀ {fs : List F} {k : Nat} {f : F} {a : Nat}, fs[k]? = some f → a ∈ idsF f → a ∈ idsFs fs
  | [], _, _, _, h, _ => by simp at h
  | f :: fs, 0, _, a, h, q => by
    simp at h
    subst h
    exact ids_cons.mpr (Or.inl q)
  | f :: fs, k + 1, _, a, h, q => ids_cons.mpr (Or.inr (ids_at (k := k) (by simpa using h) q))
/-- the children, the k-th one given another value -/
theorem ows_set {l : F} : ∀ {fs : List F} {vs : List V} (k : Nat), OwFs K B H fs vs → OwF K B H l w → (∀ a, a ∈ idsF l → a ∉ idsFs fs) → k < fs.length → OwFs K B H (fs.set k l) (vs.set k w) ∧ ∀ a, a ∈ idsFs (fs.set k l) → a ∈ idsFs fs ∨ a ∈ idsF l
  | [], _, _, _, _, _, hk => by simp at hk
  | _ :: _, [], _, h, _, _, _ => h.elim
  | f :: fs, v :: vs, 0, ⟨h1, h2, h3⟩, hl, hd, _ => ⟨⟨hl, h2, fun a q1 q2 => hd a q1 (ids_cons.mpr (Or.inr q2))⟩, fun a q => by
    rcases ids_cons.mp q with q | q
    · exact Or.inr q
    · exact Or.inl (ids_cons.mpr (Or.inr q))⟩
  | f :: fs, v :: vs, k + 1, ⟨h1, h2, h3⟩, hl, hd, hk => by
    obtain ⟨i1, i2⟩ := ows_set k h2 hl (fun a q1 q2 => hd a q1 (ids_cons.mpr (Or.inr q2))) (by simpa using hk)
    refine ⟨⟨h1, i1, fun a q1 q2 => ?_⟩, fun a q => ?_⟩
    · rcases i2 a q2 with q | q
      · exact h3 a q1 q
      · exact hd a q (ids_cons.mpr (Or.inl q1))
    · rcases ids_cons.mp q with q | q
      · exact Or.inl (ids_cons.mpr (Or.inl q))
      · exact (i2 a q).imp (fun q => ids_cons.mpr (Or.inr q)) id
theorem ows_app {l : F} : ∀ {fs : List F} {vs : List V}, OwFs K B H fs vs → OwF K B H l w → (∀ a, a ∈ idsF l → a ∉ idsFs fs) → OwFs K B H (fs ++ [l]) (vs ++ [w]) ∧ ∀ a, a ∈ idsFs (fs ++ [l]) → a ∈ idsFs fs ∨ a ∈ idsF l
  | [], vs, h, hl, _ => by
    have h : vs = [] := h
    subst h
    exact ⟨⟨hl, rfl, fun a _ q => ids_nil.mp q⟩, fun a q => ids_app.mp q⟩
  | _ :: _, [], h, _, _ => h.elim
  | f :: fs, v :: vs, ⟨h1, h2, h3⟩, hl, hd => by
    obtain ⟨i1, i2⟩ := ows_app h2 hl (fun a q1 q2 => hd a q1 (ids_cons.mpr (Or.inr q2)))
    refine ⟨⟨h1, i1, fun a q1 q2 => ?_⟩, fun a q => ids_app.mp q⟩
    rcases i2 a q2 with q | q
    · exact h3 a q1 q
    · exact hd a q (ids_cons.mpr (Or.inl q1))
/-- one child is given another content at the same value -/
theorem ows_put {N : Addr → Prop} {f' new : F} (hb : Same B B') : ∀ {fs : List F} {vs : List V} {k : Nat}, OwFs K B H fs vs → fs[k]? = some f' → (∀ w, OwF K B H f' w → OwF K B' H' new w) → (∀ a, a ∈ idsFs fs → a ∉ idsF f' → H' a = H a) →
    (∀ a, a ∈ idsF new → a ∈ idsF f' ∨ N a) → (∀ a, N a → a ∉ idsFs fs) → OwFs K B' H' (fs.set k new) vs ∧ ∀ a, a ∈ idsFs (fs.set k new) → a ∈ idsFs fs ∨ N a
  | [], _, _, _, h, _, _, _, _ => by simp at h
  | _ :: _, [], _, h, _, _, _, _, _ => h.elim
  | f :: fs, v :: vs, 0, ⟨h1, h2, h3⟩, e, ok, hh, sub, nn => by
    simp at e
    subst e
    refine ⟨⟨ok v h1, ow_frames h2 hb fun a q => hh a (ids_cons.mpr (Or.inr q)) fun q' => h3 a q' q, fun a q1 q2 => ?_⟩, fun a q => ?_⟩
    · rcases sub a q1 with q | q
      · exact h3 a q q2
      · exact nn a q (ids_cons.mpr (Or.inr q2))
    · rcases ids_cons.mp q with q | q
      · exact (sub a q).imp (fun q => ids_cons.mpr (Or.inl q)) id
      · exact Or.inl (ids_cons.mpr (Or.inr q))
  | f :: fs, v :: vs, k + 1, ⟨h1, h2, h3⟩, e, ok, hh, sub, nn => by
    have e : fs[k]? = some f' := by simpa using e
    obtain ⟨i1, i2⟩ := ows_put (N := N) hb h2 e ok (fun a q => hh a (ids_cons.mpr (Or.inr q))) sub fun a q q' => nn a q (ids_cons.mpr (Or.inr q'))
    refine ⟨⟨ow_frame h1 hb fun a q => hh a (ids_cons.mpr (Or.inl q)) fun q' => h3 a q (ids_at e q'), i1, fun a q1 q2 => ?_⟩, fun a q => ?_⟩
    · rcases i2 a q2 with q | q
      · exact h3 a q1 q
      · exact nn a q (ids_cons.mpr (Or.inl q1))
    · rcases ids_cons.mp q with q | q
      · exact Or.inl (ids_cons.mpr (Or.inl q))
      · exact (i2 a q).imp (fun q => ids_cons.mpr (Or.inr q)) id
/-- a part is given another content -/
theorem ow_setAt {N : Addr → Prop} {g1 g2 : F} (hb : Same B B') : ∀ {p : List Nat} {f : F} {v : V}, OwF K B H f v → atF p f = some g1 → (∀ w, OwF K B H g1 w → OwF K B' H' g2 w) → (∀ a, a ∈ idsF f → a ∉ idsF g1 → H' a = H a) →
    (∀ a, a ∈ idsF g2 → a ∈ idsF g1 ∨ N a) → (∀ a, N a → a ∉ idsF f) → OwF K B' H' (setAt g2 p f) v ∧ ∀ a, a ∈ idsF (setAt g2 p f) → a ∈ idsF f ∨ N a
  | [], f, v, h, e, ok, hh, sub, nn => by
    cases e
    exact ⟨ok v h, sub⟩
  | k :: p, .nd q c fs, v, h, e, ok, hh, sub, nn => by
    simp only [atF] at e
    split at e
    · rename_i f' e1
      simp only [setAt, e1]
      obtain ⟨ev, o, h1, h2, h3, h4⟩ := h
      have inn : ∀ a, a ∈ idsF f' → a ∈ idsFs fs := fun a q => ids_at e1 q
      have gin : ∀ {p : List Nat} {f : F}, atF p f = some g1 → ∀ a, a ∈ idsF g1 → a ∈ idsF f := by
        intro p
        induction p with
        | nil => intro f e a q; cases e; exact q
        | cons k p ih =>
          intro f e a q
          cases f with
          | nd q' c' fs' =>
            simp only [atF] at e
            split at e
            · rename_i f2 e2
              exact ids_nd.mpr (Or.inr (ids_at e2 (ih e a q)))
            · cases e
          | _ => simp at e
      have step := fun w hw => ow_setAt (N := N) hb (p := p) (f := f') (v := w) hw e ok (fun a q => hh a (ids_nd.mpr (Or.inr (inn a q)))) sub fun a q q' => nn a q (ids_nd.mpr (Or.inr (inn a q')))
      have sub' : ∀ a, a ∈ idsF (setAt g2 p f') → a ∈ idsF f' ∨ N a := by
        obtain ⟨w, _, hw, _⟩ := ows_get h3 e1
        exact (step w hw).2
      obtain ⟨i1, i2⟩ := ows_put (N := N) hb h3 e1 (fun w hw => (step w hw).1) (fun a q1 q2 => hh a (ids_nd.mpr (Or.inr q1)) fun q => q2 (gin e a q)) sub' fun a q q' => nn a q (ids_nd.mpr (Or.inr q'))
      refine ⟨⟨ev, o, ?_, by rw [List.length_set]; exact h2, i1, fun q' => ?_⟩, fun a q' => ?_⟩
      · rw [hh q (ids_nd.mpr (Or.inl rfl)) fun z => h4 (inn q (gin e q z))]
        exact h1
      · rcases i2 q q' with z | z
        · exact h4 z
        · exact nn q z (ids_nd.mpr (Or.inl rfl))
      · rcases ids_nd.mp q' with z | z
        · exact Or.inl (ids_nd.mpr (Or.inl z))
        · exact (i2 a z).imp (fun z => ids_nd.mpr (Or.inr z)) id
    · cases e
  | _ :: _, .sh _, _, _, e, _, _, _, _ => by simp at e
  | _ :: _, .ol _ _, _, _, e, _, _, _, _ => by simp at e
  | _ :: _, .od _ _, _, _, e, _, _, _, _ => by simp at e
theorem ids_atF : ∀ {p : List Nat} {f g1 : F}, atF p f = some g1 → ∀ a, a ∈ idsF g1 → a ∈ idsF f
  | [], _, _, e, a, q => by cases e; exact q
  | k :: p, .nd q' c' fs', g1, e, a, q => by
    simp only [atF] at e
    split at e
    · rename_i f2 e2
      exact ids_nd.mpr (Or.inr (ids_at e2 (ids_atF e a q)))
    · cases e
  | _ :: _, .sh _, _, e, _, _ => by simp at e
  | _ :: _, .ol _ _, _, e, _, _ => by simp at e
  | _ :: _, .od _ _, _, e, _, _ => by simp at e
/-- a part of the slot i's thing, with what stands on the stack's top zo, is given another content; zn comes onto the stack -/
theorem SR.tradeP {i : Nat} {p : List Nat} {f g1 g2 : F} {zo zn : Stk} (S : SR K g B s r (zo ++ z) H) (h : look r i = some (.own f)) (hp : atF p f = some g1)
    (hh : ∀ a o, H a = some o → a ∉ idsF g1 → (∀ x ∈ zo, ¬ fpT H x.1 x.2 a) → H' a = some o) (hm : ∀ a, H a ≠ none → H' a ≠ none)
    (ok : ∀ w, OwF K B H g1 w → OwF K B H' g2 w) (sub : ∀ a, a ∈ idsF g2 → a ∈ idsF g1 ∨ (∃ x ∈ zo, fpT H x.1 x.2 a) ∨ H a = none)
    (okn : ∀ x ∈ zn, En K g B H' s x.1 x.2) (subn : ∀ x ∈ zn, ∀ a, fpT H' x.1 x.2 a → a ∈ idsF g1 ∨ (∃ x ∈ zo, fpT H x.1 x.2 a) ∨ H a = none)
    (al : ∀ x ∈ zn, ∀ j, x.2 ≠ .al j) (dis : ∀ x ∈ zn, ∀ a, a ∈ idsF (setAt g2 p f) → fpT H' x.1 x.2 a → False) (disn : zn.Pairwise fun x y => ∀ a, fpT H' x.1 x.2 a → fpT H' y.1 y.2 a → False) :
    SR K g B s (put r i (some (.own (setAt g2 p f)))) (zn ++ z) H' := by
  obtain ⟨v, hv, en⟩ := S.env i _ h
  let N : Addr → Prop := fun a => (∃ x ∈ zo, fpT H x.1 x.2 a) ∨ H a = none
  have nn : ∀ a, N a → a ∉ idsF f := fun a q q' => by
    rcases q with ⟨x, hx, q⟩ | q
    · exact S.d2 i _ v x h hv (List.mem_append_left _ hx) a q' q
    · exact ow_live en.1 q' q
  have gin := ids_atF hp
  obtain ⟨k1, k2⟩ := ow_setAt (N := N) (Same.refl B) en.1 hp ok (fun a q1 q2 => by
    cases e : H a with
    | none => exact absurd e (ow_live en.1 q1)
    | some o => exact hh a o e q2 fun x hx q => S.d2 i _ v x h hv (List.mem_append_left _ hx) a q1 q) sub nn
  refine SR.trade S h hv (fun a o e q1 q2 => hh a o e (fun q => q1 (gin a q)) q2) hm ⟨k1, fun a q => ?_⟩ (fun a q => ?_) okn (fun x hx a q => ?_) al (fun j e => by cases e) dis disn
  · rcases k2 a q with q | ⟨x, hx, q⟩ | q
    · exact en.2 a q
    · have := (S.stk x (List.mem_append_left _ hx)).live q
      exact ⟨this.2.1, this.2.2⟩
    · exact ⟨S.bnone q, Or.inl (S.h0none q)⟩
  · rcases k2 a q with q | q | q
    · exact Or.inl q
    · exact Or.inr (Or.inl q)
    · exact Or.inr (Or.inr q)
  · rcases subn x hx a q with q | q | q
    · exact Or.inl (gin a q)
    · exact Or.inr (Or.inl q)
    · exact Or.inr (Or.inr q)
/-- a field of one's own object is set -/
theorem SR.fsetP {i c k n : Nat} {p : List Nat} {f0 : F} {fs fs' : List F} {l : F} {f : Str} (S : SR K g B s r ((w, t) :: z) H) (h : look r i = some (.own f0)) (hp : atF p f0 = some (.nd n (some c) fs)) (lo : OwF K B H l w) (lf : ∀ a, a ∈ idsF l ↔ fpT H w t a) (hk : fX c f = some k) (hs : setF fs k l = some fs') :
    ∃ C dx fl, H n = some (.ins C dx fl) ∧ ClsIs K C c ∧ fl.length ≤ 10 ∧ f ∈ (clsT c).2 ∧ SR K g B s (put r i (some (.own (setAt (.nd n (some c) fs') p f0)))) z (L2.upd H n (.ins C dx (putF f w fl))) := by
  obtain ⟨v, hv, en⟩ := S.env i _ h
  obtain ⟨w0, hw0, gin⟩ := ow_at en.1 hp
  obtain ⟨_, o, hpn, ⟨C, dx, fl, rfl, c1, c2⟩, hkids, nf⟩ := hw0
  have hkids : OwFs K B H fs (fl.map (·.2)) := hkids
  have ll : fl.length = fs.length := by
    have := hkids.len
    simpa using this
  have st := S.stk (w, t) List.mem_cons_self
  have disj : ∀ a, a ∈ idsF l → a ∉ idsF f0 := fun a q q' => S.d2 i _ _ _ h hv List.mem_cons_self a q' ((lf a).mp q)
  have nin : n ∈ idsF f0 := gin n (ids_nd.mpr (Or.inl rfl))
  have lp : n ∉ idsF l := fun q => disj n q nin
  have fl10 : fl.length ≤ 10 := by
    have := clsT_len c
    have e := congrArg List.length c2
    rw [List.length_map, List.length_take] at e
    omega
  have fm : f ∈ (clsT c).2 := by
    unfold fX at hk
    obtain ⟨hk1, hk2, _⟩ := List.findIdx?_eq_some_iff_getElem.mp hk
    have : (clsT c).2[k] = f := by simpa using hk2
    rw [← this]
    exact List.getElem_mem _
  refine ⟨C, dx, fl, hpn, c1, fl10, fm, ?_⟩
  have off : ∀ {o : HO} a, a ≠ n → (L2.upd H n o) a = H a := fun a q => upd_ne q
  have new : (putF f w fl).map (·.1) = (clsT c).2.take fs'.length ∧ (∀ H2 : Hp, OwFs K B H2 fs (fl.map (·.2)) → OwF K B H2 l w → OwFs K B H2 fs' ((putF f w fl).map (·.2))) ∧ ∀ a, a ∈ idsFs fs' → a ∈ idsFs fs ∨ a ∈ idsF l := by
    have dd : ∀ a, a ∈ idsF l → a ∉ idsFs fs := fun a q q' => disj a q (gin a (ids_nd.mpr (Or.inr q')))
    unfold setF at hs
    split at hs
    · rename_i hlt
      cases hs
      obtain ⟨a1, a2⟩ := putF_set (y := w) c2 hk (by omega)
      rw [a1, a2, List.length_set]
      exact ⟨rfl, fun H2 k1 l1 => (ows_set (K := K) (B := B) k k1 l1 dd hlt).1, (ows_set (K := K) (B := B) k hkids lo dd hlt).2⟩
    · split at hs
      · rename_i _ he
        cases hs
        obtain ⟨a1, a2⟩ := putF_app (y := w) c2 hk (by omega)
        rw [a1, a2, List.length_append]
        exact ⟨by rw [he]; rfl, fun H2 k1 l1 => (ows_app (K := K) (B := B) k1 l1 dd).1, (ows_app (K := K) (B := B) hkids lo dd).2⟩
      · cases hs
  obtain ⟨n1, n2, n3⟩ := new
  refine SR.tradeP (zo := [(w, t)]) (zn := []) S h hp (fun a o e q _ => ?_) (fun a e => ?_) (fun w1 hw1 => ?_) (fun a q => ?_) (fun x hx => by cases hx) (fun x hx => by cases hx) (fun x hx => by cases hx) (fun x hx => by cases hx) List.Pairwise.nil
  · rw [upd_ne fun e' => q (ids_nd.mpr (Or.inl e'))]
    exact e
  · by_cases q : a = n
    · subst q
      rw [upd_same]; simp
    · rw [upd_ne q]; exact e
  · obtain ⟨e1, _⟩ := hw1
    refine ⟨e1, _, upd_same, ⟨C, dx, _, rfl, c1, n1⟩, n2 _ ?_ ?_, fun q => ?_⟩
    · exact ow_frames hkids (Same.refl _) fun a q => off a fun e => nf (by rw [← e]; exact q)
    · exact ow_frame lo (Same.refl _) fun a q => off a fun e => lp (by rw [← e]; exact q)
    · rcases n3 n q with q | q
      · exact nf q
      · exact lp q
  · rcases ids_nd.mp q with q | q
    · exact Or.inl (ids_nd.mpr (Or.inl q))
    · rcases n3 a q with q | q
      · exact Or.inl (ids_nd.mpr (Or.inr q))
      · exact Or.inr (Or.inl ⟨_, List.mem_cons_self, (lf a).mp q⟩)
end
end J

/-! JL19: objects: the rules. -/
namespace J
open PySem L2
section
variable {X : Cx} {CX : CXT} {k : Nat} {f C : Addr} {fd : FuncData} {ps : List Str} {sp : Sp} {E : St → XK} {x m : Str} {p pos apos : Pos} {e o : Expr} {es : List Expr} {ta : TE} {t : TA}
def tMethA (C : Addr) (m : Str) (sp : Sp) (E : St → XK) (ta : TE) (t : TA) : TE := fun σ H Q => ta σ H fun x H1 => ∃ a dx fs, x = .ref a ∧ H1 a = some (.ins C dx fs) ∧ fs.lookup m = none ∧
  t σ H1 fun vs H2 => sp (x :: vs) H2 Q (E σ)
theorem pe_methA {pl : Sem Bool} (he : PE X o ta) (c : Cls X.K C) (hm : Meth X.K C m f) (F : FnOk X.prog X.w X.K X.mg X.base CX k f fd ps sp) (hr : Room k X.A) (hb : Binds X.K fd ps []) (hx : ∀ σ, PassesAt CX X σ (E σ)) (ha : PA X (e :: es) t)
    (hst : starEach (e :: es) X.env = (false, eval e X.env) :: starEach es X.env := by rfl) (hpl : (backTo pos (starEach es X.env)).any (·.1) = false := by rfl)
    (ht : eval (.Call (.Attribute o m apos) (e :: es) [] pos) X.env = (do
      let ov ← eval o X.env
      standAt apos.atName
      let (f, first) ← holding [ov] (getMethod ov m pl)
      callWith pos f first (backTo pos (starEach (e :: es) X.env)) (backToKw pos (keywordEach [] X.env))) := by rfl) :
    PE X (.Call (.Attribute o m apos) (e :: es) [] pos) (tMethA C m sp E ta t) := by
  refine ⟨fun pins s σ H Q I h => ?_⟩
  refine PySem.W.methodCall_KW (pl := pl) (thn (he.run pins s σ H _ I h) fun u s1 ⟨x, H1, I1, rx, a, dx, fs, ex, ea, l, q⟩ => ?_) ht
  subst ex
  obtain rfl : u = Value.ref a := rx
  refine getmeth_ok I1 ea c hm l ?_
  refine PySem.W.callWith_K (first := [.ref a]) (h₀ := X.base) I.ok.mod.kin hm.kp (thn (ha.run pos pins s1 σ H1 _ I1 q) fun us s2 ⟨vs, H2, I2, r, q2⟩ => ⟨I2.kIn, ?_⟩) hst hpl
  exact run_fnS (us := .ref a :: us) (vs := .ref a :: vs) F hr hb (hx σ) I2 (.cons rfl r) q2
theorem pe_methA0 {pl : Sem Bool} (he : PE X o ta) (c : Cls X.K C) (hm : Meth X.K C m f) (F : FnOk X.prog X.w X.K X.mg X.base CX k f fd ps sp) (hr : Room k X.A) (hb : Binds X.K fd ps []) (hx : ∀ σ, PassesAt CX X σ (E σ))
    (ht : eval (.Call (.Attribute o m apos) [] [] pos) X.env = (do
      let ov ← eval o X.env
      standAt apos.atName
      let (f, first) ← holding [ov] (getMethod ov m pl)
      callWith pos f first (backTo pos (starEach [] X.env)) (backToKw pos (keywordEach [] X.env))) := by rfl) :
    PE X (.Call (.Attribute o m apos) [] [] pos) (tMethA C m sp E ta tNil) := by
  refine ⟨fun pins s σ H Q I h => ?_⟩
  refine PySem.W.methodCall_KW (pl := pl) (thn (he.run pins s σ H _ I h) fun u s1 ⟨x, H1, I1, rx, a, dx, fs, ex, ea, l, q⟩ => ?_) ht
  subst ex
  obtain rfl : u = Value.ref a := rx
  refine getmeth_ok I1 ea c hm l ?_
  exact PySem.W.callWith_K0 (first := [.ref a]) I1.kIn hm.kp (run_fnS (us := [.ref a]) (vs := [.ref a]) F hr hb (hx σ) I1 (.cons rfl .nil) q)
def tMakeA (C : Addr) (sp : Sp) (E : St → XK) (t : TA) : TE := fun σ H Q => t σ H fun vs H1 => ∀ x dx, H1 x = none → H1 dx = none → dx ≠ x →
  sp (.ref x :: vs) (L2.upd (L2.upd H1 dx (.own x)) x (.ins C dx [])) (fun v H2 => v = .non ∧ Q (.ref x) H2) (E σ)
theorem run_makeA {pins : List (Addr × Obj)} {σ : L2.St} {H : Hp} {s : Shared} {Q : VK} {us : List Value} {vs : List V} (M : Mk X.K C f) (F : FnOk X.prog X.w X.K X.mg X.base CX k f fd ps sp) (hr : Room (k + 1) X.A) (hb : Binds X.K fd ps [])
    (hx : PassesAt CX X σ (E σ)) (I : Inv X pins σ H s) (r : Vals vs us)
    (h : ∀ x dx, H x = none → H dx = none → dx ≠ x → sp (.ref x :: vs) (L2.upd (L2.upd H dx (.own x)) x (.ins C dx [])) (fun v H2 => v = .non ∧ Q (.ref x) H2) (E σ)) :
    wpAny (model X.prog X.w) X.A (call (.ref C) us) (EP X pins σ Q) X.xe s := by
  have hq := h (s.heap.objs.size + 1) s.heap.objs.size (I.hok.fresh (Nat.le_succ _)) (I.hok.fresh (Nat.le_refl _)) (Nat.ne_of_lt (Nat.lt_succ_self _))
  have I2 := Inv.made (C := C) I
  have r2 : Vals (V.ref (s.heap.objs.size + 1) :: vs) (Value.ref (s.heap.objs.size + 1) :: us) := .cons rfl r
  have hl : (Value.ref (s.heap.objs.size + 1) :: us).length = ps.length := by
    have e := r2.length
    rw [F.len _ _ _ _ hq] at e
    exact e.symm
  have b := hb { s with heap := (s.heap.push PySem.W.emptyDict).push (PySem.W.instObj C s.heap.objs.size) } (Value.ref (s.heap.objs.size + 1) :: us) I2.kIn (by rw [List.append_nil]; exact hl)
  rw [List.append_nil] at b
  refine wpAny_call (make_map (f := f) I.kIn M.makes M.init (beq_iff_eq.mp M.fn) (codeAny_mono (F.run _ X.stack _ _ ⟨Value.ref (s.heap.objs.size + 1) :: us, []⟩ (Value.ref (s.heap.objs.size + 1) :: us) _ _ (E σ) (hr.make C us [])
    (I2.env0.make C us []) b r2 hq) fun r s' hq' => ?_))
  cases r with
  | error e => exact hx pins _ _ e s' I2 hq'
  | ok fl =>
    cases fl with
    | ret u =>
      obtain ⟨v, H', I3, rv, ev, q3⟩ := I2.after hq'
      subst ev
      exact ⟨rv, ⟨V.ref (s.heap.objs.size + 1), H', I3, rfl, q3⟩⟩
    | next => exact False.elim hq'
    | brk => exact False.elim hq'
    | cont => exact False.elim hq'
theorem pe_makeA (M : Mk X.K C f) (F : FnOk X.prog X.w X.K X.mg X.base CX k f fd ps sp) (hr : Room (k + 1) X.A) (hg : Gl X x) (hm : X.mg x = some (.ref C)) (hb : Binds X.K fd ps []) (hx : ∀ σ, PassesAt CX X σ (E σ))
    (ha : PA X (e :: es) t) (hdb : (x == ("__debug__" : Str)) = false := by decide) (he : starEach (e :: es) X.env = (false, eval e X.env) :: starEach es X.env := by rfl) (hpl : (backTo pos (starEach es X.env)).any (·.1) = false := by rfl) :
    PE X (.Call (.Name x p) (e :: es) [] pos) (tMakeA C sp E t) := by
  refine ⟨fun pins s σ H Q I h => ?_⟩
  refine wpAny_Call_Name_kw (ld_glob I hg hm ?_ hdb)
  refine PySem.W.callWith_K (h₀ := X.base) I.ok.mod.kin M.kp (thn (ha.run pos pins s σ H _ I h) fun us s1 ⟨vs, H1, I1, r, q⟩ => ⟨I1.kIn, ?_⟩) he hpl
  exact run_makeA M F hr hb (hx σ) I1 r q
end
/-! ### the account of a method -/
structure OutO (P : Addr → Prop) (B H B' H' : Hp) : Prop where
  hh : ∀ a o, H a = some o → ¬ P a → H' a = some o
  lv : ∀ a, H a ≠ none → H' a ≠ none
  hb : Same B B'
  hs : Same B' H'
  hn : ∀ a, B' a ≠ none → B a ≠ none ∨ H a = none ∨ P a
def ResO (K : PySem.W.Frag) (B' H' H : Hp) (P P' : Addr → Prop) (w : V) : T → Prop
  | .sh d => Rep K B' w d
  | .ol ds => ∃ (p : Addr) (vs : List V), w = .ref p ∧ H' p = some (.lst vs) ∧ RepAll K B' vs ds ∧ B' p = none ∧ (H p = none ∨ P p) ∧ ¬ P' p
  | .own f => OwF K B' H' f w ∧ ∀ a, fpF H' f w a → B' a = none ∧ (H a = none ∨ P a) ∧ ¬ P' a
  | _ => False
/-- no lent list stands in P -/
def ApartO (P : Addr → Prop) (ms : List Bool) (vs : List V) (ds : List D) : Prop := ∀ (i : Nat) (a : Addr) (d : D), ms[i]? = some false → vs[i]? = some (.ref a) → ds[i]? = some d → isLD d = true → ¬ P a
def SpO (K : PySem.W.Frag) (c : Cl) (ms : List Bool) (S : SpecO) : Sp := fun vs0 H Q E => ∃ (v : V) (vs : List V) (B : Hp) (ds : List D) (f : F), vs0 = v :: vs ∧ Same B H ∧ ArgsR K B H ms vs ds ∧ OwF K B H f v ∧ (∀ a, fpF H f v a → B a = none) ∧ ApartO (fpF H f v) ms vs ds ∧
  ∃ (E0 : Err → F → Prop) (Q0 : T → F → Prop), S f ds E0 Q0 ∧ (∀ e f', E0 e f' → ∀ cls d H' B', OutO (fpF H f v) B H B' H' → OwF K B' H' f' v → (∀ a, fpF H' f' v a → B' a = none ∧ (H a = none ∨ fpF H f v a)) → ErrR c B' e cls d → E cls d H') ∧
  ∀ t f', Q0 t f' → ∀ w H' B', OutO (fpF H f v) B H B' H' → OwF K B' H' f' v → (∀ a, fpF H' f' v a → B' a = none ∧ (H a = none ∨ fpF H f v a)) → ResO K B' H' H (fpF H f v) (fpF H' f' v) w t → Q w H'
section
variable {K : PySem.W.Frag} {g : G} {B B' H H' : Hp} {s : L2.St} {r : Env} {z : Stk} {v w : V} {t : T}
theorem SR.gotO {i : Nat} {f f' : F} (S : SR K g B s r z H) (h : look r i = some (.own f)) (hv : s[i]? = some (some v)) (o : OutO (fpF H f v) B H B' H') (ho : OwF K B' H' f' v) (hf : ∀ a, fpF H' f' v a → B' a = none ∧ (H a = none ∨ fpF H f v a))
    (rr : ResO K B' H' H (fpF H f v) (fpF H' f' v) w t) : SR K g B' s (put r i (some (.own f'))) ((w, t) :: z) H' := by
  obtain ⟨v0, e0, en⟩ := S.env i _ h
  rw [hv] at e0
  cases e0
  have g0 : ∀ a, (H a = none ∨ fpF H f v a) → g.H0 a = none ∨ a ∈ g.M := fun a q => by
    rcases q with q | q
    · exact Or.inl (S.h0none q)
    · exact (en.2 a q).2
  refine SR.tradeB (zo := []) (zn := [(w, t)]) S h hv o.hb o.hs (fun a q => ?_) (fun a u e q _ => o.hh a u e q) o.lv ⟨ho, fun a q => ⟨(hf a q).1, g0 a (hf a q).2⟩⟩ (fun a q => ?_) (fun x hx => ?_) (fun x hx a q => ?_) (fun x hx j e => ?_) (fun j e => by cases e) (fun x hx a q1 q2 => ?_) (List.pairwise_singleton _ _)
  · rcases o.hn a q with q | q | q
    · exact Or.inl q
    · exact Or.inr (Or.inl q)
    · exact Or.inr (Or.inr (Or.inl q))
  · rcases (hf a q).2 with q | q
    · exact Or.inr (Or.inr q)
    · exact Or.inl q
  · rw [List.mem_singleton] at hx
    subst hx
    cases t with
    | sh d => exact rr
    | ol ds =>
      obtain ⟨p, vs, e, a1, a2, a3, a4, _⟩ := rr
      exact ⟨p, vs, e, a1, a2, a3, g0 p a4⟩
    | own f2 => exact ⟨rr.1, fun a q => ⟨(rr.2 a q).1, g0 a (rr.2 a q).2.1⟩⟩
    | _ => exact rr.elim
  · rw [List.mem_singleton] at hx
    subst hx
    have z : H a = none ∨ fpF H f v a := by
      cases t with
      | ol ds =>
        obtain ⟨p, vs, e, a1, a2, a3, a4, _⟩ := rr
        rw [e] at q
        cases (show V.ref p = V.ref a from q)
        exact a4
      | own f2 => exact (rr.2 a q).2.1
      | _ => exact q.elim
    rcases z with z | z
    · exact Or.inr (Or.inr z)
    · exact Or.inl z
  · rw [List.mem_singleton] at hx
    subst hx
    have e : t = .al j := e
    subst e
    exact rr.elim
  · rw [List.mem_singleton] at hx
    subst hx
    cases t with
    | ol ds =>
      obtain ⟨p, vs, e, a1, a2, a3, a4, a5⟩ := rr
      rw [e] at q2
      cases (show V.ref p = V.ref a from q2)
      exact a5 q1
    | own f2 => exact (rr.2 a q2).2.2 q1
    | _ => exact q2.elim
/-- a method's object is lost with an error -/
theorem SR.lostO {i : Nat} {f : F} (S : SR K g B s r z H) (h : look r i = some (.own f)) (hv : s[i]? = some (some v)) (hh : ∀ a o, H a = some o → ¬ fpF H f v a → H' a = some o) (lv : ∀ a, H a ≠ none → H' a ≠ none) : SR K g B s (put r i none) z H' := by
  obtain ⟨v0, e0, S1⟩ := S.takeT h fun j e => by cases e
  rw [hv] at e0
  cases e0
  exact SR.tradeZ (zo := [(v, .own f)]) (zn := []) S1 (fun a o e q => hh a o e (q _ List.mem_cons_self)) lv (fun x hx => by cases hx) (fun x hx => by cases hx) (fun x hx => by cases hx) List.Pairwise.nil
theorem apartO_of {i : Nat} {f : F} (S : SR K g B s r z H) (hi : look r i = some (.own f)) (hv : s[i]? = some (some v)) : ∀ {ms : List Bool} {vs : List V} {ts : List T} {ds : List D}, vs.length = ts.length → (∀ (j : Nat) w t, vs[j]? = some w → ts[j]? = some t → (w, t) ∈ z) → noAl i ts → reads r ts = some ds → ApartO (fpF H f v) ms vs ds := by
  intro ms vs ts
  induction ts generalizing ms vs with
  | nil =>
    intro ds hl _ _ e j a d _ hj
    have : vs = [] := List.length_eq_zero_iff.mp (by simpa using hl)
    subst this
    simp at hj
  | cons t ts ih =>
    intro ds hl hm na e
    cases vs with
    | nil => simp at hl
    | cons u vs =>
      simp only [reads] at e
      split at e
      · rename_i d ds' e1 e2
        cases e
        have nt : noAl i [t] ∧ noAl i ts := by
          cases t with
          | al j => exact ⟨⟨na.1, trivial⟩, na.2⟩
          | ptr j _ _ => exact ⟨⟨na.1, trivial⟩, na.2⟩
          | _ => exact ⟨trivial, na⟩
        intro j a d2 hms hj hd ld
        cases j with
        | zero =>
          simp at hj hd
          subst hj
          subst hd
          intro q
          exact S.apart hi hv q (hm 0 _ t rfl rfl) nt.1 e1 ld
        | succ j =>
          cases ms with
          | nil => simp at hms
          | cons m ms =>
            exact ih (ms := ms) (by simpa using hl) (fun k w u h1 h2 => hm (k + 1) w u (by simpa using h1) (by simpa using h2)) nt.2 e2 j a d2 (by simpa using hms) (by simpa using hj) (by simpa using hd) ld
      · cases e
theorem lookup_out {m : Str} : ∀ {names : List Str} {fl : List (Str × V)} {n : Nat}, fl.map (·.1) = names.take n → m ∉ names → fl.lookup m = none
  | _, [], _, _, _ => rfl
  | [], (g', x) :: fl, n, e, _ => by simp at e
  | _ :: _, (g', x) :: fl, 0, e, _ => by simp at e
  | g :: names, (g', x) :: fl, n + 1, e, h => by
    simp only [List.map_cons, List.take_succ_cons, List.cons.injEq] at e
    obtain ⟨rfl, e⟩ := e
    have q : (m == g') = false := by
      simp only [beq_eq_false_iff_ne, ne_eq]
      exact fun z => h (by rw [z]; exact List.mem_cons_self)
    rw [List.lookup_cons, q]
    exact lookup_out e fun z => h (List.mem_cons_of_mem _ z)
end
/-! ### the rules -/
section
variable {X : Cx} {g : G} {cl : Cl} {W : WX} {L : List Nat}
/-- x.f -/
theorem j_fo (i : Nat) {x f : Str} {pos pos2 : Pos} (hN : X.N[i]? = some x := by rfl) (hv : Vis X.env.scope x := by first | exact Or.inl rfl | exact Or.inr (Or.inl rfl) | exact Or.inr (Or.inr rfl)) (hd : (x == ("__debug__" : Str)) = false := by decide)
    (hcd : (x == ("__classdict__" : Str)) = false := by decide) (hb : attributeBase (.Name x pos) f X.env (eval (.Name x pos) X.env) = eval (.Name x pos) X.env := by rfl) : JE X g cl W (.Attribute (.Name x pos) f pos2) (dFo i f) := by
  refine ⟨_, pe_fld (pe_var hN hv hd hcd) hb, fun s H r B z Y Q Qv _ S h k => ?_⟩
  unfold dFo at h
  cases l : look r i with
  | none => rw [l] at h; exact h.elim
  | some t =>
    obtain ⟨v, e1, en⟩ := S.env i _ l
    refine ⟨v, e1, ?_⟩
    rw [l] at h
    simp only [Option.bind_some] at h
    have fin : ∀ {c : Nat} {k1 : Nat} {C dx a : Addr} {fl : List (Str × V)} {n : Nat} {d : D}, v = .ref a → H a = some (.ins C dx fl) → ClsIs X.K C c → fl.map (·.1) = (clsT c).2.take n → fX c f = some k1 → ∀ hk : k1 < fl.length, Rep X.K B fl[k1].2 d → Q (.sh d) r →
        ∃ a C dx fs v', v = .ref a ∧ H a = some (.ins C dx fs) ∧ Cls X.K C ∧ NoAttr X.K C f ∧ fs.lookup f = some v' ∧ Qv v' H := fun {c k1 C dx a fl n d} e1 e2 e3 e4 e5 hk e6 q => by
      have fm : f ∈ (clsT c).2 := by
        unfold fX at e5
        obtain ⟨hk1, hk2, _⟩ := List.findIdx?_eq_some_iff_getElem.mp e5
        have : (clsT c).2[k1] = f := by simpa using hk2
        rw [← this]
        exact List.getElem_mem _
      exact ⟨a, C, dx, fl, _, e1, e2, e3.cl, e3.na f fm, (lookF e4 e5 hk).1, k _ H B r _ (S.push e6) q⟩
    split at h
    · rename_i d hd
      have leaf : ∀ {f' : F} {w : V} {d : D} {Lh : Hp}, OwF X.K B Lh f' w → shF (some f') = some d → Rep X.K B w d := fun {f' w d Lh} o e => by
        cases f' with
        | sh d' => cases e; exact o
        | _ => cases e
      cases t with
      | sh d0 =>
        cases d0 with
        | obj c ds =>
          have en : Rep X.K B v (.obj c ds) := en
          cases en with
          | obj h1 c1 n1 rr =>
            rename_i a C dx fl
            simp only [fldT_sh] at hd
            cases e5 : fX c f with
            | none => rw [e5] at hd; cases hd
            | some k1 =>
              rw [e5] at hd
              simp only [Option.bind_some] at hd
              obtain ⟨w, w1, w2⟩ := rr.get hd
              have kl : k1 < fl.length := by
                have := (List.getElem?_eq_some_iff.mp w1).1
                simpa using this
              have : (fl.map (·.2))[k1]? = some fl[k1].2 := by
                rw [List.getElem?_map, List.getElem?_eq_getElem kl]; rfl
              rw [this] at w1
              cases w1
              exact fin rfl (S.bh _ _ h1) c1 n1 e5 kl w2 h
        | _ => cases hd
      | own f0 =>
        cases f0 with
        | nd q kk fs =>
          cases kk with
          | none => cases hd
          | some c =>
            obtain ⟨rfl, o', hp, ⟨C, dx, fl, rfl, c1, c2⟩, hk, _⟩ := en.1
            simp only [fldT_own] at hd
            cases e5 : fX c f with
            | none => rw [e5] at hd; cases hd
            | some k1 =>
              rw [e5] at hd
              simp only [Option.bind_some] at hd
              have hk : OwFs X.K B H fs (fl.map (·.2)) := hk
              have ll : fl.length = fs.length := by simpa using hk.len
              cases e7 : fs[k1]? with
              | none => rw [e7] at hd; cases hd
              | some f' =>
                rw [e7] at hd
                have k1l : k1 < fs.length := (List.getElem?_eq_some_iff.mp e7).1
                obtain ⟨w, w1, w2, _⟩ := ows_get hk e7
                have : (fl.map (·.2))[k1]? = some fl[k1].2 := by
                  rw [List.getElem?_map, List.getElem?_eq_getElem (by omega)]; rfl
                rw [this] at w1
                cases w1
                exact fin rfl hp c1 c2 e5 (by omega) (leaf w2 hd) h
        | _ => cases hd
      | _ => cases hd
    · exact h.elim
/-- e.f, e shared -/
theorem j_fs {e : Expr} {de : DE} {f : Str} {pos2 : Pos} (he : JE X g cl W e de) (hb : attributeBase e f X.env (eval e X.env) = eval e X.env := by rfl) : JE X g cl W (.Attribute e f pos2) (dFs f de) := by
  obtain ⟨te, pe, se⟩ := he.ex
  refine ⟨_, pe_fld pe hb, fun s H r B z Y Q Qv lw S h k => ?_⟩
  refine se s H r B z Y _ _ lw S h fun v H1 B1 r1 t1 S1 q1 => ?_
  split at q1
  · rename_i c ds
    have en : Rep X.K B1 v (.obj c ds) := S1.top
    cases en with
    | obj h1 c1 n1 rr =>
      rename_i a C dx fl
      split at q1
      · rename_i d hd
        cases e5 : fX c f with
        | none => rw [e5] at hd; cases hd
        | some k1 =>
          rw [e5] at hd
          simp only [Option.bind_some] at hd
          obtain ⟨w, w1, w2⟩ := rr.get hd
          have kl : k1 < fl.length := by
            have := (List.getElem?_eq_some_iff.mp w1).1
            simpa using this
          have : (fl.map (·.2))[k1]? = some fl[k1].2 := by
            rw [List.getElem?_map, List.getElem?_eq_getElem kl]; rfl
          rw [this] at w1
          cases w1
          have fm : f ∈ (clsT c).2 := by
            unfold fX at e5
            obtain ⟨hk1, hk2, _⟩ := List.findIdx?_eq_some_iff_getElem.mp e5
            have : (clsT c).2[k1] = f := by simpa using hk2
            rw [← this]
            exact List.getElem_mem _
          exact ⟨a, C, dx, fl, _, rfl, S1.bh _ _ h1, c1.cl, c1.na f fm, (lookF n1 e5 kl).1, k _ H1 B1 r1 _ (S1.pop.push w2) q1⟩
      · exact q1.elim
  · exact q1.elim
/-- x.f = e -/
theorem js_fset (i : Nat) {x f : Str} {e : Expr} {de : DE} {px pf pos : Pos} (he : JE X g cl W e de) (hN : X.N[i]? = some x := by rfl) (hv : Vis X.env.scope x := by first | exact Or.inl rfl | exact Or.inr (Or.inl rfl) | exact Or.inr (Or.inr rfl)) (hd : (x == ("__debug__" : Str)) = false := by decide)
    (hcd : (x == ("__classdict__" : Str)) = false := by decide) (hs : swapsWith e (some (.Attribute (.Name x px) f pf)) pos.line X.env = pure false := by rfl) : JS X g cl W L (.Assign [.Attribute (.Name x px) f pf] e pos) (dFSet i f de) := by
  obtain ⟨te, pe, se⟩ := he.ex
  refine ⟨_, ps_fld (pe_var hN hv hd hcd) pe hs, fun s H r B z Y E D lw S hl h k => ?_⟩
  refine se s H r B z Y _ _ lw S h fun w H1 B1 r1 t1 S1 q1 => ?_
  obtain ⟨l, q1, lo, lf⟩ := leaf_of q1 S1.top
  split at q1
  · rename_i n c fs e1
    obtain ⟨v, v1, en⟩ := S1.env i _ e1
    split at q1
    · rename_i fs' e3
      cases e5 : fX c f with
      | none => rw [e5] at e3; cases e3
      | some k1 =>
        rw [e5] at e3
        simp only [Option.bind_some] at e3
        obtain ⟨C, dx, fl, h1, c1, l10, fm, S2⟩ := S1.fsetP (p := []) e1 rfl lo lf e5 e3
        exact ⟨_, v1, n, C, dx, fl, en.1.1, h1, c1.cl, c1.na f fm, by omega, k.nx s _ B1 _ S2 q1⟩
    · exact q1.elim
  · exact q1.elim
end
end J

/-! JL20: objects: calls of methods, making, a method keeps its promise. -/
namespace J
open PySem L2
section
variable {X : Cx} {g : G} {cl : Cl} {W : WX} {L : List Nat}
theorem cls_same {C C' : Addr} {c : Nat} (h : ClsIs X.K C c) (h' : ClsIs X.K C' c) : C' = C := by
  have e := h.ns
  rw [h'.ns] at e
  simpa using e
/-- what stands behind the arguments of a method's call -/
theorem es_meth {i c : Nat} {ms : List Bool} {Sf : SpecO} {C : Addr} {m : Str} {ta : TA} {da : DA} (hC : ClsIs X.K C c) (hn : m ∉ (clsT c).2) (hc : i ∉ g.cs) (sa : AS X.K g cl W ta da) : ES X.K g cl W (tMethA C m (SpO X.K cl ms Sf) (WE W) (tVar i) ta) (dMeth i c ms Sf da) := by
  intro s H r B z Y Q Qv lw S h kq
  obtain ⟨h0, h⟩ := h
  split at h0
  · rename_i c' fs0 l0
    subst h0
    obtain ⟨v0, e1, S0⟩ := S.pushAl l0 hc
    obtain ⟨v1, e1', en⟩ := S.env i _ l0
    rw [e1] at e1'
    cases e1'
    obtain ⟨⟨rfl, o, hp, ⟨C', dx, fl, rfl, c1, c2⟩, hk, nf⟩, hfp⟩ := id en
    have := cls_same hC c1
    subst this
    refine ⟨_, e1, _, dx, fl, rfl, hp, lookup_out c2 hn, ?_⟩
    refine sa s H r B _ Y _ _ lw.ext S0 h fun vs H1 B1 r1 ts hl S1 q1 => ?_
    obtain ⟨cp, na, q1⟩ := q1
    split at q1
    · rename_i f0 ds l1 e2
      have S2 := S1.unstk
      have hvi : s[i]? = some (some _) := S2.top
      obtain ⟨w, f1, en1⟩ := S2.env i _ l1
      rw [hvi] at f1
      cases f1
      refine ⟨_, vs, B1, ds, f0, rfl, S1.bh, args_of S1 hl (fun _ _ _ h1 h2 => stk_at h1 h2) cp e2, en1.1, fun a q => (en1.2 a q).1, apartO_of S1 l1 hvi hl (fun _ _ _ h1 h2 => stk_at h1 h2) na e2, _, _, q1, fun e f' ye cls d H2 B2 o ho hf er => ?_, fun t f' qt w H2 B2 o ho hf rr => ?_⟩
      · exact lw cls d H2 s _ B2 z e (List.suffix_refl _) (S2.pop.gotO (w := .non) (t := .sh .non) l1 hvi o ho hf .non).pop er ye
      · exact kq w H2 B2 _ t (S2.pop.gotO l1 hvi o ho hf rr) qt
    · exact q1.elim
  · exact h0.elim
/-- x.m(e, ..), x the slot i -/
theorem j_meth (i c : Nat) {ms : List Bool} {Sf : SpecO} {k : Nat} {C f : Addr} {fd : FuncData} {ps : List Str} {y m : Str} {py apos pos : Pos} {e : Expr} {es : List Expr} {da : DA} (F : FnOk X.prog X.w X.K X.mg X.base (L2.CX X.prog X.w) k f fd ps (SpO X.K cl ms Sf)) (hr : Room k X.A)
    (hC : ClsIs X.K C c) (hm : Meth X.K C m f) (hn : m ∉ (clsT c).2) (hb : Binds X.K fd ps []) (tk : Takes X W) (hc : i ∉ g.cs) (ha : JA X g cl W (e :: es) da) (hN : X.N[i]? = some y := by rfl) (hv : Vis X.env.scope y := by first | exact Or.inl rfl | exact Or.inr (Or.inl rfl) | exact Or.inr (Or.inr rfl))
    (hd1 : (y == ("__debug__" : Str)) = false := by decide) (hcd : (y == ("__classdict__" : Str)) = false := by decide) {pl : Sem Bool}
    (hst : starEach (e :: es) X.env = (false, eval e X.env) :: starEach es X.env := by rfl) (hpl : (backTo pos (starEach es X.env)).any (·.1) = false := by rfl)
    (ht : eval (.Call (.Attribute (.Name y py) m apos) (e :: es) [] pos) X.env = (do
      let ov ← eval (.Name y py) X.env
      standAt apos.atName
      let (f, first) ← holding [ov] (getMethod ov m pl)
      callWith pos f first (backTo pos (starEach (e :: es) X.env)) (backToKw pos (keywordEach [] X.env))) := by rfl) : JE X g cl W (.Call (.Attribute (.Name y py) m apos) (e :: es) [] pos) (dMeth i c ms Sf da) := by
  obtain ⟨ta, pa, sa⟩ := ha.ex
  exact ⟨_, pe_methA (pe_var hN hv hd1 hcd) hC.cl hm F hr hb (fun σ => passAt tk σ) pa hst hpl ht, es_meth hC hn hc sa⟩
theorem j_meth0 (i c : Nat) {Sf : SpecO} {k : Nat} {C f : Addr} {fd : FuncData} {ps : List Str} {y m : Str} {py apos pos : Pos} (F : FnOk X.prog X.w X.K X.mg X.base (L2.CX X.prog X.w) k f fd ps (SpO X.K cl [] Sf)) (hr : Room k X.A)
    (hC : ClsIs X.K C c) (hm : Meth X.K C m f) (hn : m ∉ (clsT c).2) (hb : Binds X.K fd ps []) (tk : Takes X W) (hc : i ∉ g.cs) (hN : X.N[i]? = some y := by rfl) (hv : Vis X.env.scope y := by first | exact Or.inl rfl | exact Or.inr (Or.inl rfl) | exact Or.inr (Or.inr rfl))
    (hd1 : (y == ("__debug__" : Str)) = false := by decide) (hcd : (y == ("__classdict__" : Str)) = false := by decide) {pl : Sem Bool}
    (ht : eval (.Call (.Attribute (.Name y py) m apos) [] [] pos) X.env = (do
      let ov ← eval (.Name y py) X.env
      standAt apos.atName
      let (f, first) ← holding [ov] (getMethod ov m pl)
      callWith pos f first (backTo pos (starEach [] X.env)) (backToKw pos (keywordEach [] X.env))) := by rfl) : JE X g cl W (.Call (.Attribute (.Name y py) m apos) [] [] pos) (dMeth i c [] Sf dNil) := by
  obtain ⟨ta, pa, sa⟩ := (ja_nil : JA X g cl W [] dNil).ex
  exact ⟨_, pe_methA0 (pe_var hN hv hd1 hcd) hC.cl hm F hr hb (fun σ => passAt tk σ) ht, es_meth hC hn hc (fun s H r B z Y Q Qv lw S h k => k [] H B r [] rfl S h)⟩
/-- f(x, ..), x the slot i, one's own -/
theorem j_callOw (i : Nat) {ms : List Bool} {Sf : SpecO} {k : Nat} {f : Addr} {fd : FuncData} {ps : List Str} {x y : Str} {p py pos : Pos} {es : List Expr} {da : DA} (F : FnOk X.prog X.w X.K X.mg X.base (L2.CX X.prog X.w) k f fd ps (SpO X.K cl ms Sf)) (hr : Room k X.A) (hg : Gl X x) (hm : X.mg x = some (.ref f))
    (hk : PySem.W.keepIn X.K (.ref f) = true) (hb : Binds X.K fd ps []) (tk : Takes X W) (hc : i ∉ g.cs) (ha : JA X g cl W es da) (hN : X.N[i]? = some y := by rfl) (hv : Vis X.env.scope y := by first | exact Or.inl rfl | exact Or.inr (Or.inl rfl) | exact Or.inr (Or.inr rfl)) (hd1 : (y == ("__debug__" : Str)) = false := by decide)
    (hcd : (y == ("__classdict__" : Str)) = false := by decide) (hdb : (x == ("__debug__" : Str)) = false := by decide)
    (he : starEach (.Name y py :: es) X.env = (false, eval (.Name y py) X.env) :: starEach es X.env := by rfl) (hpl : (backTo pos (starEach es X.env)).any (·.1) = false := by rfl) : JE X g cl W (.Call (.Name x p) (.Name y py :: es) [] pos) (dCallOw i ms Sf da) := by
  obtain ⟨ta, pa, sa⟩ := ha.ex
  refine ⟨_, pe_callS F hr hg hm hk hb (fun σ => passAt tk σ) (pa_cons (pe_var hN hv hd1 hcd) pa he) hdb he hpl, fun s H r B z Y Q Qv lw S h kq => ?_⟩
  obtain ⟨h0, h⟩ := h
  cases l0 : look r i with
  | none => rw [l0] at h0; exact h0.elim
  | some t0 =>
    obtain ⟨v0, e1, S0⟩ := S.pushAl l0 hc
    refine ⟨v0, e1, ?_⟩
    refine sa s H r B _ Y _ _ lw.ext S0 h fun vs H1 B1 r1 ts hl S1 q1 => ?_
    obtain ⟨cp, na, q1⟩ := q1
    split at q1
    · rename_i f0 ds l1 e2
      have S2 := S1.unstk
      have hvi : s[i]? = some (some v0) := S2.top
      obtain ⟨w, f1, en1⟩ := S2.env i _ l1
      rw [hvi] at f1
      cases f1
      refine ⟨_, vs, B1, ds, f0, rfl, S1.bh, args_of S1 hl (fun _ _ _ h1 h2 => stk_at h1 h2) cp e2, en1.1, fun a q => (en1.2 a q).1, apartO_of S1 l1 hvi hl (fun _ _ _ h1 h2 => stk_at h1 h2) na e2, _, _, q1, fun e f' ye cls d H2 B2 o ho hf er => ?_, fun t f' qt w H2 B2 o ho hf rr => ?_⟩
      · exact lw cls d H2 s _ B2 z e (List.suffix_refl _) (S2.pop.gotO (w := .non) (t := .sh .non) l1 hvi o ho hf .non).pop er ye
      · exact kq w H2 B2 _ t (S2.pop.gotO l1 hvi o ho hf rr) qt
    · exact q1.elim
/-- a method of shared data -/
theorem es_callO {c : Nat} {ms : List Bool} {Sf : Spec} {C : Addr} {m : Str} {te : TE} {ta : TA} {de : DE} {da : DA} (hC : ClsIs X.K C c) (hn : m ∉ (clsT c).2) (se : ES X.K g cl W te de) (sa : AS X.K g cl W ta da) : ES X.K g cl W (tMethA C m (SpJ X.K cl (false :: ms) Sf) (WE W) te ta) (dCallO c ms Sf de da) := by
  intro s H r B z Y Q Qv lw S h kq
  refine se s H r B z Y _ _ lw S h fun v H1 B1 r1 t1 S1 q1 => ?_
  split at q1
  · rename_i c' fs
    obtain ⟨rfl, q1⟩ := q1
    have en : Rep X.K B1 v (.obj c' fs) := S1.top
    cases id en with
    | obj h1 c1 n1 rr =>
      rename_i a C' dx fl
      have := cls_same hC c1
      subst this
      refine ⟨a, dx, fl, rfl, S1.bh _ _ h1, lookup_out n1 hn, ?_⟩
      refine sa s H1 r1 B1 _ Y _ _ lw.ext S1 q1 fun vs H2 B2 r2 ts hl S2 q2 => ?_
      obtain ⟨cp, q2⟩ := q2
      split at q2
      · rename_i ds e1
        have S3 := S2.unstk
        have en2 : Rep X.K B2 (.ref a) (.obj c' fs) := S3.top
        exact ⟨B2, .obj c' fs :: ds, S2.bh, .bor en2 (args_of S2 hl (fun _ _ _ h1 h2 => stk_at h1 h2) cp e1), _, _, q2, fun e ye cls d H2 BE oE er => lw cls d H2 s r2 BE z e (List.suffix_refl _) (S3.pop.grow oE.hb oE.hh oE.hs oE.hn) er ye, fun t qt w H3 B3 o rr => kq w H3 B3 r2 t (S3.pop.got o rr) qt⟩
      · exact q2.elim
  · exact q1.elim
theorem j_callO (c : Nat) {ms : List Bool} {Sf : Spec} {k : Nat} {C f : Addr} {fd : FuncData} {ps : List Str} {m : Str} {apos pos : Pos} {o e : Expr} {es : List Expr} {de : DE} {da : DA} (F : FnOk X.prog X.w X.K X.mg X.base (L2.CX X.prog X.w) k f fd ps (SpJ X.K cl (false :: ms) Sf)) (hr : Room k X.A)
    (hC : ClsIs X.K C c) (hm : Meth X.K C m f) (hn : m ∉ (clsT c).2) (hb : Binds X.K fd ps []) (tk : Takes X W) (ho : JE X g cl W o de) (ha : JA X g cl W (e :: es) da) {pl : Sem Bool}
    (hst : starEach (e :: es) X.env = (false, eval e X.env) :: starEach es X.env := by rfl) (hpl : (backTo pos (starEach es X.env)).any (·.1) = false := by rfl)
    (ht : eval (.Call (.Attribute o m apos) (e :: es) [] pos) X.env = (do
      let ov ← eval o X.env
      standAt apos.atName
      let (f, first) ← holding [ov] (getMethod ov m pl)
      callWith pos f first (backTo pos (starEach (e :: es) X.env)) (backToKw pos (keywordEach [] X.env))) := by rfl) : JE X g cl W (.Call (.Attribute o m apos) (e :: es) [] pos) (dCallO c ms Sf de da) := by
  obtain ⟨te, pe, se⟩ := ho.ex
  obtain ⟨ta, pa, sa⟩ := ha.ex
  exact ⟨_, pe_methA pe hC.cl hm F hr hb (fun σ => passAt tk σ) pa hst hpl ht, es_callO hC hn se sa⟩
theorem j_callO0 (c : Nat) {Sf : Spec} {k : Nat} {C f : Addr} {fd : FuncData} {ps : List Str} {m : Str} {apos pos : Pos} {o : Expr} {de : DE} (F : FnOk X.prog X.w X.K X.mg X.base (L2.CX X.prog X.w) k f fd ps (SpJ X.K cl [false] Sf)) (hr : Room k X.A)
    (hC : ClsIs X.K C c) (hm : Meth X.K C m f) (hn : m ∉ (clsT c).2) (hb : Binds X.K fd ps []) (tk : Takes X W) (ho : JE X g cl W o de) {pl : Sem Bool}
    (ht : eval (.Call (.Attribute o m apos) [] [] pos) X.env = (do
      let ov ← eval o X.env
      standAt apos.atName
      let (f, first) ← holding [ov] (getMethod ov m pl)
      callWith pos f first (backTo pos (starEach [] X.env)) (backToKw pos (keywordEach [] X.env))) := by rfl) : JE X g cl W (.Call (.Attribute o m apos) [] [] pos) (dCallO c [] Sf de dNil) := by
  obtain ⟨te, pe, se⟩ := ho.ex
  exact ⟨_, pe_methA0 pe hC.cl hm F hr hb (fun σ => passAt tk σ) ht, es_callO hC hn se (fun s H r B z Y Q Qv lw S h k => k [] H B r [] rfl S h)⟩
/-- C(e, ..) -/
theorem es_make {c : Nat} {ms : List Bool} {Sf : SpecO} {C : Addr} {ta : TA} {da : DA} (hC : ClsIs X.K C c) (sa : AS X.K g cl W ta da) : ES X.K g cl W (tMakeA C (SpO X.K cl ms Sf) (WE W) ta) (dMake c ms Sf da) := by
  intro s H r B z Y Q Qv lw S h kq
  refine sa s H r B z Y _ _ lw S h fun vs H1 B1 r1 ts hl S1 q1 => ?_
  obtain ⟨cp, q1⟩ := q1
  split at q1
  · rename_i ds e1
    intro x dx hx hdx ne
    have S2 := S1.alloc (o := .own x) hdx
    have hx2 : (L2.upd H1 dx (.own x)) x = none := by rw [upd_ne (Ne.symm ne)]; exact hx
    have bx : (L2.upd B1 dx (.own x)) x = none := S2.bnone hx2
    have fp1 : ∀ a, fpF (L2.upd (L2.upd H1 dx (.own x)) x (.ins C dx [])) (.nd x (some c) []) (.ref x) a → a = x := fun a q => by
      rcases ids_nd.mp q with q | q
      · exact q
      · exact (ids_nil.mp q).elim
    have ow : OwF X.K (L2.upd B1 dx (.own x)) (L2.upd (L2.upd H1 dx (.own x)) x (.ins C dx [])) (.nd x (some c) []) (.ref x) := ⟨rfl, _, upd_same, ⟨C, dx, [], rfl, hC, rfl⟩, rfl, fun q => ids_nil.mp q⟩
    have S3 : SR X.K g (L2.upd B1 dx (.own x)) s r1 ((.ref x, .own (.nd x (some c) [])) :: stkL vs ts z) (L2.upd (L2.upd H1 dx (.own x)) x (.ins C dx [])) :=
      S2.ownG (fun a o e => by
        by_cases q : a = x
        · subst q; rw [hx2] at e; cases e
        · rw [upd_ne q]; exact e) ⟨ow, fun a q => by rw [fp1 a q]; exact ⟨bx, Or.inl (S2.h0none hx2)⟩⟩ (fun a q => by rw [fp1 a q]; exact hx2) fun i e => by cases e
    have args := args_of S3 hl (fun i w t h1 h2 => List.mem_cons_of_mem _ (stk_at h1 h2)) cp e1
    have ap : ApartO (fpF (L2.upd (L2.upd H1 dx (.own x)) x (.ins C dx [])) (.nd x (some c) []) (.ref x)) ms vs ds := fun i a es m1 m2 m3 ld q => by
      have := fp1 a q
      subst this
      have args1 := args_of S1 hl (fun i w t h1 h2 => stk_at h1 h2) cp e1
      have live : ∀ {ms : List Bool} {vs : List V} {ds : List D}, ArgsR X.K B1 H1 ms vs ds → ∀ (i : Nat) (es : D), ms[i]? = some false → vs[i]? = some (V.ref a) → ds[i]? = some es → isLD es = true → H1 a ≠ none := by
        intro ms vs ds ar
        induction ar with
        | nil => intro i es h; simp at h
        | cap _ _ ih =>
          intro i es h1 h2 h3 ld
          cases i with
          | zero => simp at h1
          | succ i => exact ih i es (by simpa using h1) (by simpa using h2) (by simpa using h3) ld
        | bor hv _ ih =>
          intro i es h1 h2 h3 ld
          cases i with
          | zero =>
            have h2 := Option.some.inj (by simpa using h2 : some _ = some (V.ref a))
            have h3 := Option.some.inj (by simpa using h3 : some _ = some es)
            subst h2 h3
            rename_i d0 _ _ _ _
            cases d0 with
            | lst _ =>
              obtain ⟨a', vs', e, h4, _⟩ := hv
              cases e
              rw [h4]; simp
            | dic _ =>
              obtain ⟨a', e, h4⟩ := hv
              cases e
              exact h4.live
            | _ => cases ld
          | succ i => exact ih i es (by simpa using h1) (by simpa using h2) (by simpa using h3) ld
      exact live args1 i es m1 m2 m3 ld hx
    have drop : SR X.K g (L2.upd B1 dx (.own x)) s r1 ((.ref x, .own (.nd x (some c) [])) :: z) (L2.upd (L2.upd H1 dx (.own x)) x (.ins C dx [])) := by
      have S1z := S1.unstk
      have S2z := S1z.alloc (o := .own x) hdx
      exact S2z.ownG (fun a o e => by
        by_cases q : a = x
        · subst q; rw [hx2] at e; cases e
        · rw [upd_ne q]; exact e) ⟨ow, fun a q => by rw [fp1 a q]; exact ⟨bx, Or.inl (S2z.h0none hx2)⟩⟩ (fun a q => by rw [fp1 a q]; exact hx2) fun i e => by cases e
    refine ⟨_, vs, _, ds, _, rfl, S3.bh, args, ow, fun a q => by rw [fp1 a q]; exact bx, ap, _, _, q1 x, fun e f' ye cls d H2 B2 o ho hf er => ?_, fun t f' qt w H2 B2 o ho hf rr => ?_⟩
    · refine lw cls d H2 s r1 B2 z e (List.suffix_refl _) ?_ er ye
      exact SR.tradeZB (zo := [(.ref x, .own (.nd x (some c) []))]) (zn := []) drop o.hb o.hs (fun a q => (o.hn a q).imp id fun q => q.imp id fun q => ⟨_, List.mem_cons_self, q⟩) (fun a u e q => o.hh a u e (q _ List.mem_cons_self)) o.lv (fun x hx => by cases hx) (fun x hx => by cases hx) (fun x hx => by cases hx) List.Pairwise.nil
    · obtain ⟨rfl, qt⟩ := qt
      have rr : Rep X.K B2 w .non := rr
      cases rr
      refine ⟨rfl, kq _ H2 B2 r1 _ ?_ qt⟩
      have g0 : ∀ a, (a = x → g.H0 a = none ∨ a ∈ g.M) := fun a q => by rw [q]; exact Or.inl (S2.h0none hx2)
      refine SR.tradeZB (zo := [(.ref x, .own (.nd x (some c) []))]) (zn := [(.ref x, .own f')]) drop o.hb o.hs (fun a q => ?_) (fun a u e q => o.hh a u e (q _ List.mem_cons_self)) o.lv (fun y hy => ?_) (fun y hy a q => ?_) (fun y hy j e => ?_) (List.pairwise_singleton _ _)
      · rcases o.hn a q with q | q | q
        · exact Or.inl q
        · exact Or.inr (Or.inl q)
        · exact Or.inr (Or.inr ⟨_, List.mem_cons_self, q⟩)
      · rw [List.mem_singleton] at hy
        subst hy
        refine ⟨ho, fun a q => ⟨(hf a q).1, ?_⟩⟩
        rcases (hf a q).2 with q | q
        · exact Or.inl (drop.h0none q)
        · exact g0 a (fp1 a q)
      · rw [List.mem_singleton] at hy
        subst hy
        rcases (hf a q).2 with q | q
        · exact Or.inr q
        · exact Or.inl ⟨_, List.mem_cons_self, q⟩
      · rw [List.mem_singleton] at hy
        subst hy
        cases e
  · exact q1.elim
theorem j_make (c : Nat) {ms : List Bool} {Sf : SpecO} {k : Nat} {C f : Addr} {fd : FuncData} {ps : List Str} {x : Str} {p pos : Pos} {e : Expr} {es : List Expr} {da : DA} (F : FnOk X.prog X.w X.K X.mg X.base (L2.CX X.prog X.w) k f fd ps (SpO X.K cl ms Sf)) (hr : Room (k + 1) X.A)
    (hC : ClsIs X.K C c) (M : Mk X.K C f) (hg : Gl X x) (hm : X.mg x = some (.ref C)) (hb : Binds X.K fd ps []) (tk : Takes X W) (ha : JA X g cl W (e :: es) da) (hdb : (x == ("__debug__" : Str)) = false := by decide)
    (he : starEach (e :: es) X.env = (false, eval e X.env) :: starEach es X.env := by rfl) (hpl : (backTo pos (starEach es X.env)).any (·.1) = false := by rfl) : JE X g cl W (.Call (.Name x p) (e :: es) [] pos) (dMake c ms Sf da) := by
  obtain ⟨ta, pa, sa⟩ := ha.ex
  exact ⟨_, pe_makeA M F hr hg hm hb (fun σ => passAt tk σ) pa hdb he hpl, es_make hC sa⟩
theorem noPass {P : Program} {w : World} : Passes (L2.CX P w) X.nox (fun _ _ _ => False) := fun _ _ _ _ _ _ _ ⟨_, _, _, _, _, _, _, _, _, _, _, _, e⟩ => e.elim
/-- x.p, a property -/
theorem j_prop (i c : Nat) {Sf : SpecO} {k : Nat} {C pr f : Addr} {fd : FuncData} {ps : List Str} {y m : Str} {py pos : Pos} (F : FnOk X.prog X.w X.K X.mg X.base (L2.CX X.prog X.w) k f fd ps (SpO X.K cl [] Sf)) (hr : Room (k + 1) X.A)
    (hC : ClsIs X.K C c) (hp : PropOf X.K C m pr f) (hb : Binds X.K fd ps []) (hN : X.N[i]? = some y := by rfl) (hv : Vis X.env.scope y := by first | exact Or.inl rfl | exact Or.inr (Or.inl rfl) | exact Or.inr (Or.inr rfl))
    (hd1 : (y == ("__debug__" : Str)) = false := by decide) (hcd : (y == ("__classdict__" : Str)) = false := by decide)
    (hab : attributeBase (.Name y py) m X.env (eval (.Name y py) X.env) = eval (.Name y py) X.env := by rfl) : JE X g cl W (.Attribute (.Name y py) m pos) (dProp i c Sf) := by
  refine ⟨_, pe_prop (pe_var hN hv hd1 hcd) hC.cl hp F hr hb (dvs := []) .nil noPass hab, fun s H r B z Y Q Qv lw S h kq => ?_⟩
  unfold dProp at h
  split at h
  · rename_i c' fs0 l0
    obtain ⟨rfl, h⟩ := h
    obtain ⟨v0, e1, en⟩ := S.env i _ l0
    obtain ⟨⟨rfl, o, hp', ⟨C', dx, fl, rfl, c1, c2⟩, hk, nf⟩, hfp⟩ := id en
    have := cls_same hC c1
    subst this
    exact ⟨_, e1, _, dx, fl, rfl, hp', _, [], B, [], _, rfl, S.bh, .nil, en.1, fun a q => (en.2 a q).1, fun i a es h => by simp at h, _, _, h, fun e f' ye => ye.elim, fun t f' qt w H2 B2 o ho hf rr => kq w H2 B2 _ t (S.gotO l0 e1 o ho hf rr) qt⟩
  · exact h.elim
theorem j_propS (c : Nat) {Sf : Spec} {k : Nat} {C pr f : Addr} {fd : FuncData} {ps : List Str} {m : Str} {pos : Pos} {o : Expr} {de : DE} (F : FnOk X.prog X.w X.K X.mg X.base (L2.CX X.prog X.w) k f fd ps (SpJ X.K cl [false] Sf)) (hr : Room (k + 1) X.A)
    (hC : ClsIs X.K C c) (hp : PropOf X.K C m pr f) (hb : Binds X.K fd ps []) (ho : JE X g cl W o de) (hab : attributeBase o m X.env (eval o X.env) = eval o X.env := by rfl) : JE X g cl W (.Attribute o m pos) (dPropS c Sf de) := by
  obtain ⟨te, pe, se⟩ := ho.ex
  refine ⟨_, pe_prop pe hC.cl hp F hr hb (dvs := []) .nil noPass hab, fun s H r B z Y Q Qv lw S h kq => ?_⟩
  refine se s H r B z Y _ _ lw S h fun v H1 B1 r1 t1 S1 q1 => ?_
  split at q1
  · rename_i c' fs
    obtain ⟨rfl, q1⟩ := q1
    have en : Rep X.K B1 v (.obj c' fs) := S1.top
    cases id en with
    | obj h1 c1 n1 rr =>
      rename_i a C' dx fl
      have := cls_same hC c1
      subst this
      exact ⟨a, dx, fl, rfl, S1.bh _ _ h1, B1, [.obj c' fs], S1.bh, .bor en .nil, _, _, q1, fun e ye => ye.elim, fun t qt w H3 B3 o rr => kq w H3 B3 r1 t (S1.pop.got o rr) qt⟩
  · exact q1.elim
end
/-! ### a method keeps its promise -/
section
variable {K : PySem.W.Frag} {c : Cl}
theorem fp_fin {B H : Hp} {f : F} {v : V} (_ : OwF K B H f v) : ∃ M : List Addr, ∀ a, a ∈ M ↔ fpF H f v a := ⟨idsF f, fun _ => Iff.rfl⟩
theorem start_envO {g : G} {B H : Hp} {P : Addr → Prop} (hg : g.H0 = H) (hM : ∀ a, a ∈ g.M → P a) : ∀ {ms : List Bool} {vs : List V} {ds : List D} {n : Nat} {tl : L2.St}, ArgsR K B H ms vs ds → ApartO P ms vs ds → ∀ (i : Nat) t, look (startE ms ds n) i = some t →
    (∃ v, (vs.map some ++ tl)[i]? = some (some v) ∧ ∀ s, En K g B H s v t) ∧ (∀ (H : Hp) (v : V) a, ¬ fpT H v t a) ∧ ∀ j, t ≠ .al j
  | _, _, _, n, tl, .nil, _, i, t, h => (look_none h).elim
  | _, _, _, n, tl, .cap (v := v) (d := d) hr r, _, 0, t, h => by
    have e : some (argT true d) = some t := h
    cases e
    have e2 : argT true d = .sh d := by cases d <;> rfl
    rw [e2]
    exact ⟨⟨v, rfl, fun _ => hr⟩, fun _ _ _ q => q, fun _ q => (by cases q)⟩
  | _, _, _, n, tl, .cap hr r, ap, i + 1, t, h => by
    obtain ⟨⟨v, h1, h2⟩, h3⟩ := start_envO hg hM (tl := tl) r (fun j w es a b c => ap (j + 1) w es (by simpa using a) (by simpa using b) (by simpa using c)) i t h
    exact ⟨⟨v, by simpa using h1, h2⟩, h3⟩
  | _, _, _, n, tl, .bor (v := v) (d := d) hr r, ap, 0, t, h => by
    have e : some (argT false d) = some t := h
    cases e
    cases d with
    | lst ds =>
      obtain ⟨a, vs, rfl, h1, h2⟩ := hr
      exact ⟨⟨_, rfl, fun _ => ⟨a, rfl, fun q => ap 0 a (.lst ds) rfl rfl rfl rfl (hM a q), vs, by rw [hg]; exact h1, h2⟩⟩, fun _ _ _ q => q, fun _ q => (by cases q)⟩
    | dic kvs =>
      obtain ⟨a, rfl, h1⟩ := hr
      exact ⟨⟨_, rfl, fun _ => ⟨a, rfl, fun q => ap 0 a (.dic kvs) rfl rfl rfl rfl (hM a q), by rw [hg]; exact h1⟩⟩, fun _ _ _ q => q, fun _ q => (by cases q)⟩
    | _ => exact ⟨⟨v, rfl, fun _ => hr⟩, fun _ _ _ q => q, fun _ q => (by cases q)⟩
  | _, _, _, n, tl, .bor hr r, ap, i + 1, t, h => by
    obtain ⟨⟨v, h1, h2⟩, h3⟩ := start_envO hg hM (tl := tl) r (fun j w es a b c => ap (j + 1) w es (by simpa using a) (by simpa using b) (by simpa using c)) i t h
    exact ⟨⟨v, by simpa using h1, h2⟩, h3⟩
theorem sr_startO {B H : Hp} {f : F} {v : V} {M : List Addr} {ms : List Bool} {vs : List V} {ds : List D} {N : List Str} {cs : List Nat} (hB : Same B H) (ha : ArgsR K B H ms vs ds) (ap : ApartO (fpF H f v) ms vs ds) (ho : OwF K B H f v) (hf : ∀ a, fpF H f v a → B a = none) (hM : ∀ a, a ∈ M ↔ fpF H f v a) (hN : ms.length + 1 ≤ N.length) (hcs : 0 ∉ cs) :
    SR K ⟨H, B, M, cs, N.length, noX⟩ B (L2.start N (v :: vs)) (some (.own f) :: startE ms ds (N.length - (ms.length + 1))) [(v, .al 0)] H := by
  obtain ⟨l1, l2⟩ := ha.len
  have ev := start_envO (K := K) (g := ⟨H, B, M, cs, N.length, noX⟩) (B := B) (H := H) rfl (fun a q => (hM a).mp q) (n := N.length - (ms.length + 1)) (tl := List.replicate (N.length - (vs.length + 1)) none) ha ap
  have le : (some (T.own f) :: startE ms ds (N.length - (ms.length + 1))).length = N.length := by
    rw [List.length_cons, startE_len l2]; omega
  have no : ∀ (j : Nat) t H w a, look (startE ms ds (N.length - (ms.length + 1))) j = some t → fpT H w t a → False := fun j t H w a e => (ev j _ e).2.1 H w a
  refine ⟨Same.refl _, hB, fun a h => Or.inl h, fun a o h _ => h, fun a h => h, ?_, le, fun i t h => ?_, fun x hx => ?_, fun i v hx => ?_, fun i j t u v w hij h h' _ _ a q1 q2 => ?_, fun i t v x h _ hx a q1 q2 => ?_, ?_, fun i j h => ?_⟩
  · rw [le]
    unfold L2.start
    rw [List.length_append, List.length_map, List.length_replicate, List.length_cons, l1]
    omega
  · cases i with
    | zero =>
      have e : some (T.own f) = some t := h
      cases e
      exact ⟨_, rfl, ho, fun a q => ⟨hf a q, Or.inr ((hM a).mpr q)⟩⟩
    | succ i =>
      obtain ⟨⟨v, a, b⟩, _⟩ := ev i t h
      exact ⟨v, a, b _⟩
  · rw [List.mem_singleton] at hx
    subst hx
    rfl
  · rw [List.mem_singleton] at hx
    cases hx
    exact hcs
  · cases i with
    | zero =>
      cases j with
      | zero => exact hij rfl
      | succ j => exact no j _ _ _ _ h' q2
    | succ i => exact no i _ _ _ _ h q1
  · rw [List.mem_singleton] at hx
    cases hx
    exact q2
  · exact List.pairwise_singleton _ _
  · cases i with
    | zero =>
      have e : some (T.own f) = some (T.al j) := h
      cases e
    | succ i => exact (ev i _ h).2.2 _ rfl
theorem enterO {ms : List Bool} {S : SpecO} {db : DS} {N : List Str} {cs : List Nat} {t : TS} {f : F} {v : V} {M : List Addr} {vs : List V} {H : Hp} {Q : VK} {E : XK} (hN : ms.length + 1 ≤ N.length) (hcs : 0 ∉ cs) (hk : KeepsO ms (N.length - (ms.length + 1)) S db)
    {B : Hp} {ds : List D} {E0 : Err → F → Prop} {Q0 : T → F → Prop} (st : SSm K ⟨H, B, M, cs, N.length, noX⟩ c (fun cls d _ H => E cls d H) [0] t db) (hB : Same B H) (ha : ArgsR K B H ms vs ds) (ap : ApartO (fpF H f v) ms vs ds) (ho : OwF K B H f v) (hf : ∀ a, fpF H f v a → B a = none) (hM : ∀ a, a ∈ M ↔ fpF H f v a) (hS : S f ds E0 Q0)
    (hE : ∀ e f', E0 e f' → ∀ cls d H' B', OutO (fpF H f v) B H B' H' → OwF K B' H' f' v → (∀ a, fpF H' f' v a → B' a = none ∧ (H a = none ∨ fpF H f v a)) → ErrR c B' e cls d → E cls d H')
    (hQ : ∀ t f', Q0 t f' → ∀ w H' B', OutO (fpF H f v) B H B' H' → OwF K B' H' f' v → (∀ a, fpF H' f' v a → B' a = none ∧ (H a = none ∨ fpF H f v a)) → ResO K B' H' H (fpF H f v) (fpF H' f' v) w t → Q w H') : t { nx := fun _ H' => Q .non H', rt := Q } (L2.start N (v :: vs)) H := by
  obtain ⟨_, hb⟩ := hk f ds E0 Q0 hS
  have S0 := sr_startO (K := K) (N := N) (cs := cs) hB ha ap ho hf hM hN hcs
  have same : ∀ {B' H' : Hp} {s : L2.St} {r : Env} {z : Stk}, SR K ⟨H, B, M, cs, N.length, noX⟩ B' s r z H' → ∀ a o, H a = some o → ¬ fpF H f v a → H' a = some o := fun S a o e q => S.h0 a o e fun m => q ((hM a).mp m)
  have out : ∀ {B' H' : Hp} {s : L2.St} {r : Env} {z : Stk}, SR K ⟨H, B, M, cs, N.length, noX⟩ B' s r z H' → OutO (fpF H f v) B H B' H' := fun S => ⟨same S, S.hm, S.b0, S.bh, fun a q => by
    rcases S.fr a q with q1 | q1 | q1
    · exact Or.inl q1
    · exact Or.inr (Or.inl q1)
    · exact Or.inr (Or.inr ((hM a).mp q1))⟩
  have m0 : ∀ a, (H a = none ∨ a ∈ M) → H a = none ∨ fpF H f v a := fun a q => q.imp id (hM a).mp
  have slot : ∀ {B' H' : Hp} {s : L2.St} {r : Env} {z : Stk} {f' : F}, SR K ⟨H, B, M, cs, N.length, noX⟩ B' s r z H' → (v, T.al 0) ∈ z → look r 0 = some (.own f') → s[0]? = some (some v) ∧ OwF K B' H' f' v ∧ ∀ a, fpF H' f' v a → B' a = none ∧ (H a = none ∨ fpF H f v a) := fun {B' H' s r z f'} S hz l => by
    have e0 : s[0]? = some (some v) := S.stk _ hz
    obtain ⟨v, e1, a1, a2⟩ := S.env 0 _ l
    rw [e0] at e1
    cases e1
    exact ⟨e0, a1, fun a q => ⟨(a2 a q).1, m0 a (a2 a q).2⟩⟩
  refine st (L2.start N (v :: vs)) H _ B [(v, .al 0)] _ _ _ (fun cls d H2 s2 r2 B2 z2 e hsuf S2 er hY => by
    have hY : finX E0 e r2 := hY
    unfold finX at hY
    split at hY
    · rename_i f' l
      obtain ⟨_, a1, a2⟩ := slot S2 (hsuf.subset List.mem_cons_self) l
      exact hE e f' hY cls d H2 B2 (out S2) a1 a2 er
    · exact hY.elim) S0 (fun i w hw => ?_) hb ⟨fun s H' B' r S q => ?_, fun w s H' B' r tt S q => ?_, fun _ _ _ _ _ q => q.elim, fun _ _ _ _ _ q => q.elim⟩
  · rw [List.mem_singleton] at hw
    cases hw
    exact List.mem_cons_self
  · have q : finO Q0 (.sh .non) r := q
    unfold finO at q
    split at q
    · rename_i f' l
      obtain ⟨_, a1, a2⟩ := slot S List.mem_cons_self l
      exact hQ _ f' q .non H' B' (out S) a1 a2 .non
    · exact q.elim
  · have q : finO Q0 tt r := q
    unfold finO at q
    split at q
    · rename_i f' l
      obtain ⟨e0, a1, a2⟩ := slot S (List.mem_cons_of_mem _ List.mem_cons_self) l
      cases tt with
      | sh d => exact hQ _ f' q w H' B' (out S) a1 a2 S.top
      | ol fs =>
        obtain ⟨p1, ws1, e, b1, b2, b3, b4⟩ := S.top
        exact hQ _ f' q w H' B' (out S) a1 a2 ⟨p1, ws1, e, b1, b2, b3, m0 p1 b4, fun qq => S.d2 0 _ _ _ l e0 List.mem_cons_self p1 qq e⟩
      | own f2 => exact hQ _ f' q w H' B' (out S) a1 a2 ⟨S.top.1, fun a qa => ⟨(S.top.2 a qa).1, m0 a (S.top.2 a qa).2, fun qq => S.d2 0 _ _ _ l e0 List.mem_cons_self a qq qa⟩⟩
      | _ => exact q.elim
    · exact q.elim
variable {P : Program} {w : World} {mg : Str → Option Value} {base : Heap}
theorem fnJO {x qual : Str} {st : Stmt} {f : Addr} {fd : FuncData} {N ps : List Str} {k : Nat} {ms : List Bool} {S : SpecO} {db : DS} (cs : List Nat) (F : Fun K x qual st f fd) (Sc : FnScope N ps (defScope st)) (hms : ms.length + 1 = ps.length) (hN : ms.length + 1 ≤ N.length) (hcs : 0 ∉ cs)
    (hk : KeepsO ms (N.length - (ms.length + 1)) S db)
    (body : ∀ (cdv : Value) (A : Around) (outer : List PySem.Env) (s : Shared) (H : Hp) (E : XK) (B : Hp) (M : List Addr), Room k (cxOf (L2.CX P w) P w K mg base N qual (defScope st) f cdv A outer s H E).A →
      JSs (cxOf (L2.CX P w) P w K mg base N qual (defScope st) f cdv A outer s H E) ⟨H, B, M, cs, N.length, noX⟩ c (fun cls d _ H => E cls d H) [0] (defBody st) db) :
    FnOk P w K mg base (L2.CX P w) (k + 1) f fd ps (SpO K c ms S) := by
  refine F.okX Sc (fun vs H Q E h => ?_) (fun cdv A outer s H vs Q E hr h => ?_)
  · obtain ⟨v, vs', B, ds, _, rfl, _, ha, _⟩ := h
    rw [List.length_cons, ha.len.1, hms]
  · obtain ⟨v, vs', B, ds, f0, rfl, hB, ha, ho, hf, ap, E0, Q0, hS, hE, hQ⟩ := h
    obtain ⟨M, hM⟩ := fp_fin ho
    obtain ⟨t, pt, stt⟩ := (body cdv A outer s H E B M hr).ex
    exact ⟨t, pt, enterO (E := E) hN hcs hk stt hB ha ap ho hf hM hS hE hQ⟩
end
end J

/-! JL21: defs that change a list that is not their first argument. -/
namespace J
open PySem L2
section
variable {X : Cx} {g : G} {cl : Cl} {W : WX} {L : List Nat} {K : PySem.W.Frag}
def SpP (K : PySem.W.Frag) (j : Nat) (ms : List Bool) (S : SpecM) : Sp := fun vs0 H Q E => ∃ (p : Addr) (B : Hp) (ds : List D) (ws : List V) (es : List D), vs0[j]? = some (.ref p) ∧ Same B H ∧ ArgsR K B H ms (vs0.eraseIdx j) ds ∧ Apart p ms (vs0.eraseIdx j) ds ∧
  H p = some (.lst ws) ∧ RepAll K B ws es ∧ B p = none ∧
  ∃ Q0 : T → List D → Prop, S es ds Q0 ∧ ∀ t es', Q0 t es' → ∀ v H' B' ws', OutM p B H B' H' → H' p = some (.lst ws') → RepAll K B' ws' es' → B' p = none → ResR K B B' H' H v t → Q v H'
theorem erase_at {A : Type} (xs : List A) (j k : Nat) {a : A} (h : (xs.eraseIdx j)[k]? = some a) : ∃ k', xs[k']? = some a ∧ k' = if k < j then k else k + 1 := by
  rw [List.getElem?_eraseIdx] at h
  by_cases q : k < j
  · rw [if_pos q] at h
    exact ⟨k, h, by rw [if_pos q]⟩
  · rw [if_neg q] at h
    exact ⟨k + 1, h, by rw [if_neg q]⟩
/-- f(.., xs, ..), f changes xs, the slot i, its j-th argument -/
theorem j_callP (i j : Nat) {ms : List Bool} {Sf : SpecM} {k : Nat} {f : Addr} {fd : FuncData} {ps : List Str} {x : Str} {p pos : Pos} {e : Expr} {es : List Expr} {da : DA} (F : FnOk X.prog X.w X.K X.mg X.base (L2.CX X.prog X.w) k f fd ps (SpP X.K j ms Sf)) (hr : Room k X.A) (hg : Gl X x) (hm : X.mg x = some (.ref f))
    (hk : PySem.W.keepIn X.K (.ref f) = true) (hb : Binds X.K fd ps []) (tk : Takes X W) (ha : JA X g cl W (e :: es) da) (hdb : (x == ("__debug__" : Str)) = false := by decide)
    (he : starEach (e :: es) X.env = (false, eval e X.env) :: starEach es X.env := by rfl) (hpl : (backTo pos (starEach es X.env)).any (·.1) = false := by rfl) : JE X g cl W (.Call (.Name x p) (e :: es) [] pos) (dCallP i j ms Sf da) := by
  obtain ⟨ta, pa, sa⟩ := ha.ex
  refine ⟨_, pe_callS F hr hg hm hk hb (fun σ => passAt tk σ) pa hdb he hpl, fun s H r B z Y Q Qv lw S h kq => ?_⟩
  refine sa s H r B z Y _ _ lw S h fun vs H1 B1 r1 ts hl S1 q1 => ?_
  obtain ⟨tj, cp, na, q1⟩ := q1
  split at q1
  · rename_i es0 ds l1 e2
    have S2 := S1.unstk
    have hj : j < vs.length := by rw [hl]; exact (List.getElem?_eq_some_iff.mp tj).1
    have hin : (vs[j], T.al i) ∈ stkL vs ts z := stk_at (List.getElem?_eq_getElem hj) tj
    have hvi : s[i]? = some (some vs[j]) := S1.stk _ hin
    obtain ⟨w, f1, q, ws, f2, g1, g2, g3, g4⟩ := S2.env i _ l1
    rw [hvi] at f1
    cases f1
    have hle : (vs.eraseIdx j).length = (ts.eraseIdx j).length := by rw [List.length_eraseIdx, List.length_eraseIdx, hl]
    have mem : ∀ (k : Nat) w t, (vs.eraseIdx j)[k]? = some w → (ts.eraseIdx j)[k]? = some t → (w, t) ∈ stkL vs ts z := fun k w t h1 h2 => by
      obtain ⟨k1, a1, b1⟩ := erase_at vs j k h1
      obtain ⟨k2, a2, b2⟩ := erase_at ts j k h2
      have : k1 = k2 := by rw [b1, b2]
      subst this
      exact stk_at a1 a2
    refine ⟨q, B1, ds, ws, es0, by rw [List.getElem?_eq_getElem hj, f2], S1.bh, args_of S1 hle mem cp e2, apart_of S1 l1 (by rw [← f2]; exact hvi) hle mem na e2, g1, g2, g3, _, q1, fun t es' qt v H2 B2 ws' o hp hr' hb' rr => ?_⟩
    exact kq v H2 B2 _ t (S2.gotM l1 (by rw [← f2]; exact hvi) o hp hr' hb' rr) qt
  · exact q1.elim
/-! ### such a def keeps its promise -/
theorem insE_len : ∀ {j : Nat} {t : Option T} {r : Env}, (insE j t r).length = r.length + 1
  | 0, _, _ => rfl
  | _ + 1, _, [] => rfl
  | j + 1, t, x :: r => congrArg (· + 1) (insE_len (j := j) (t := t) (r := r))
theorem look_insE : ∀ {j : Nat} {t : Option T} {r : Env} {i : Nat}, j ≤ r.length → look (insE j t r) i = if i < j then look r i else if i = j then t else look r (i - 1)
  | 0, t, r, 0, _ => rfl
  | 0, t, r, i + 1, _ => by
    show look r i = _
    simp
  | j + 1, t, [], i, h => by simp at h
  | j + 1, t, x :: r, 0, _ => rfl
  | j + 1, t, x :: r, i + 1, h => by
    have ih := look_insE (j := j) (t := t) (r := r) (i := i) (by simpa using h)
    show look (insE j t r) i = _
    rw [ih]
    by_cases q : i < j
    · have q' : i + 1 < j + 1 := by omega
      rw [if_pos q, if_pos q']
      rfl
    · have q' : ¬ i + 1 < j + 1 := by omega
      rw [if_neg q, if_neg q']
      by_cases q2 : i = j
      · have q3 : i + 1 = j + 1 := by omega
        rw [if_pos q2, if_pos q3]
      · have q3 : ¬ i + 1 = j + 1 := by omega
        rw [if_neg q2, if_neg q3]
        have e : i + 1 - 1 = (i - 1) + 1 := by omega
        rw [e]
        rfl
theorem sr_startP {B H : Hp} {p : Addr} {j : Nat} {ws : List V} {es : List D} {ms : List Bool} {vs0 : List V} {ds : List D} {N : List Str} {cs : List Nat} (hj : vs0[j]? = some (.ref p)) (hB : Same B H) (ha : ArgsR K B H ms (vs0.eraseIdx j) ds) (ap : Apart p ms (vs0.eraseIdx j) ds) (h1 : H p = some (.lst ws)) (h2 : RepAll K B ws es) (h3 : B p = none) (hN : ms.length + 1 ≤ N.length) (hcs : j ∉ cs) :
    SR K ⟨H, B, [p], cs, N.length, noX⟩ B (L2.start N vs0) (insE j (some (.ol es)) (startE ms ds (N.length - (ms.length + 1)))) [(.ref p, .al j)] H := by
  obtain ⟨l1, l2⟩ := ha.len
  have jl : j < vs0.length := (List.getElem?_eq_some_iff.mp hj).1
  have vl : vs0.length = ms.length + 1 := by
    rw [List.length_eraseIdx, if_pos jl] at l1
    omega
  have ev := start_envM (K := K) (g := ⟨H, B, [p], cs, N.length, noX⟩) (B := B) (H := H) rfl (p := p) rfl (n := N.length - (ms.length + 1)) (tl := []) ha ap
  have le0 : (startE ms ds (N.length - (ms.length + 1))).length = N.length - 1 := by rw [startE_len l2]; omega
  have le : (insE j (some (T.ol es)) (startE ms ds (N.length - (ms.length + 1)))).length = N.length := by rw [insE_len, le0]; omega
  have jle : j ≤ (startE ms ds (N.length - (ms.length + 1))).length := by rw [le0]; omega
  have lk := fun i => look_insE (t := some (T.ol es)) (i := i) jle
  have no : ∀ (i : Nat) t H w a, look (startE ms ds (N.length - (ms.length + 1))) i = some t → fpT H w t a → False := fun i t H w a e => (ev i _ e).2.1 H w a
  have cs' : ∀ {i : Nat} {t : T}, look (insE j (some (T.ol es)) (startE ms ds (N.length - (ms.length + 1)))) i = some t → (i = j ∧ t = .ol es) ∨ (i ≠ j ∧ ∃ k, look (startE ms ds (N.length - (ms.length + 1))) k = some t ∧ i = if k < j then k else k + 1) := fun {i t} h => by
    rw [lk] at h
    by_cases q : i < j
    · rw [if_pos q] at h
      exact Or.inr ⟨by omega, i, h, by rw [if_pos q]⟩
    · rw [if_neg q] at h
      by_cases q2 : i = j
      · rw [if_pos q2] at h
        cases h
        exact Or.inl ⟨q2, rfl⟩
      · rw [if_neg q2] at h
        exact Or.inr ⟨q2, i - 1, h, by rw [if_neg (by omega)]; omega⟩
  have st : ∀ {k : Nat} {v : V}, vs0[k]? = some v → (L2.start N vs0)[k]? = some (some v) := fun {k v} e => by
    unfold L2.start
    rw [List.getElem?_append_left (by rw [List.length_map]; exact (List.getElem?_eq_some_iff.mp e).1), List.getElem?_map, e]
    rfl
  refine ⟨Same.refl _, hB, fun a h => Or.inl h, fun a o h _ => h, fun a h => h, ?_, le, fun i t h => ?_, fun x hx => ?_, fun i v hx => ?_, fun i k t u v w hij h h' _ _ a q1 q2 => ?_, fun i t v x h _ hx a q1 q2 => ?_, ?_, fun i k h => ?_⟩
  · rw [le]
    unfold L2.start
    rw [List.length_append, List.length_map, List.length_replicate]
    omega
  · rcases cs' h with ⟨rfl, rfl⟩ | ⟨ne, k, h, e⟩
    · exact ⟨_, st hj, p, ws, rfl, h1, h2, h3, Or.inr List.mem_cons_self⟩
    · obtain ⟨⟨v, a, b⟩, _⟩ := ev k t h
      rw [List.append_nil, List.getElem?_map] at a
      cases e2 : (vs0.eraseIdx j)[k]? with
      | none => rw [e2] at a; cases a
      | some u =>
        rw [e2] at a
        cases a
        obtain ⟨k1, a1, b1⟩ := erase_at vs0 j k e2
        rw [← e] at b1
        subst b1
        exact ⟨_, st a1, b _⟩
  · rw [List.mem_singleton] at hx
    subst hx
    exact st hj
  · rw [List.mem_singleton] at hx
    cases hx
    exact hcs
  · rcases cs' h with ⟨e1, rfl⟩ | ⟨ne, k1, h, e⟩
    · rcases cs' h' with ⟨e2, rfl⟩ | ⟨ne, k2, h', e⟩
      · exact hij (e1.trans e2.symm)
      · exact no k2 _ _ _ _ h' q2
    · exact no k1 _ _ _ _ h q1
  · rw [List.mem_singleton] at hx
    cases hx
    exact q2
  · exact List.pairwise_singleton _ _
  · rcases cs' h with ⟨_, e⟩ | ⟨ne, k1, h, e⟩
    · cases e
    · exact (ev k1 _ h).2.2 _ rfl
theorem enterP {c : Cl} {j : Nat} {ms : List Bool} {S : SpecM} {db : DS} {N : List Str} {cs : List Nat} {t : TS} {p : Addr} {vs0 : List V} {H : Hp} {Q : VK} {E : XK} (hN : ms.length + 1 ≤ N.length) (hcs : j ∉ cs) (hk : KeepsP j ms (N.length - (ms.length + 1)) S db) (hj : vs0[j]? = some (.ref p))
    {B : Hp} {ds : List D} {ws : List V} {es : List D} {Q0 : T → List D → Prop} (st : SSm K ⟨H, B, [p], cs, N.length, noX⟩ c (fun cls d _ H => E cls d H) [j] t db) (hB : Same B H) (ha : ArgsR K B H ms (vs0.eraseIdx j) ds) (ap : Apart p ms (vs0.eraseIdx j) ds) (h1 : H p = some (.lst ws)) (h2 : RepAll K B ws es) (h3 : B p = none) (hS : S es ds Q0)
    (hQ : ∀ t es', Q0 t es' → ∀ v H' B' ws', OutM p B H B' H' → H' p = some (.lst ws') → RepAll K B' ws' es' → B' p = none → ResR K B B' H' H v t → Q v H') : t { nx := fun _ H' => Q .non H', rt := Q } (L2.start N vs0) H := by
  obtain ⟨_, hb⟩ := hk es ds Q0 hS
  have S0 := sr_startP (K := K) (N := N) (cs := cs) hj hB ha ap h1 h2 h3 hN hcs
  have out : ∀ {B' H' : Hp} {s : L2.St} {r : Env} {z : Stk}, SR K ⟨H, B, [p], cs, N.length, noX⟩ B' s r z H' → B' p = none → OutM p B H B' H' := fun S hp => ⟨fun a o e q => S.h0 a o e (by simpa using q), S.b0, S.bh, fun a q => by
    rcases S.fr a q with q1 | q1 | q1
    · exact Or.inl q1
    · exact Or.inr q1
    · rw [List.mem_singleton] at q1
      subst q1
      exact absurd hp q⟩
  have slot : ∀ {B' H' : Hp} {s : L2.St} {r : Env} {z : Stk} {es' : List D}, SR K ⟨H, B, [p], cs, N.length, noX⟩ B' s r z H' → (V.ref p, T.al j) ∈ z → look r j = some (.ol es') → s[j]? = some (some (V.ref p)) ∧ ∃ ws', H' p = some (.lst ws') ∧ RepAll K B' ws' es' ∧ B' p = none := fun {B' H' s r z es'} S hz l => by
    have e0 : s[j]? = some (some (V.ref p)) := S.stk _ hz
    obtain ⟨v, e1, q, ws', e2, a1, a2, a3, _⟩ := S.env j _ l
    rw [e0] at e1
    cases e1
    cases e2
    exact ⟨e0, ws', a1, a2, a3⟩
  refine st (L2.start N vs0) H _ B [(.ref p, .al j)] _ _ _ (fun _ _ _ _ _ _ _ _ _ _ _ y => y.elim) S0 (fun i w hw => ?_) hb ⟨fun s H' B' r S q => ?_, fun v s H' B' r tt S q => ?_, fun _ _ _ _ _ q => q.elim, fun _ _ _ _ _ q => q.elim⟩
  · rw [List.mem_singleton] at hw
    cases hw
    exact List.mem_cons_self
  · have q : finP j Q0 (.sh .non) r := q
    unfold finP at q
    split at q
    · rename_i es' l
      obtain ⟨_, ws', a1, a2, a3⟩ := slot S List.mem_cons_self l
      exact hQ _ es' q .non H' B' ws' (out S a3) a1 a2 a3 .non
    · exact q.elim
  · have q : finP j Q0 tt r := q
    unfold finP at q
    split at q
    · rename_i es' l
      obtain ⟨e0, ws', a1, a2, a3⟩ := slot S (List.mem_cons_of_mem _ List.mem_cons_self) l
      cases tt with
      | sh d => exact hQ _ es' q v H' B' ws' (out S a3) a1 a2 a3 S.top
      | ol fs =>
        obtain ⟨p1, ws1, e, b1, b2, b3, b4⟩ := S.top
        refine hQ _ es' q v H' B' ws' (out S a3) a1 a2 a3 ⟨p1, ws1, e, b1, b2, b3, ?_⟩
        rcases b4 with b4 | b4
        · exact b4
        · exfalso
          have b4 : p1 ∈ [p] := b4
          rw [List.mem_singleton] at b4
          subst b4 e
          exact S.d2 j _ _ _ l e0 List.mem_cons_self p1 rfl rfl
      | own f =>
        refine hQ _ es' q v H' B' ws' (out S a3) a1 a2 a3 ⟨S.top.1, fun a qa => ⟨(S.top.2 a qa).1, ?_⟩⟩
        rcases (S.top.2 a qa).2 with b4 | b4
        · exact b4
        · exfalso
          have b4 : a ∈ [p] := b4
          rw [List.mem_singleton] at b4
          exact S.d2 j _ _ _ l e0 List.mem_cons_self p rfl (by rw [← b4]; exact qa)
      | _ => exact q.elim
    · exact q.elim
variable {P : Program} {w : World} {mg : Str → Option Value} {base : Heap}
theorem fnJP2 {c : Cl} {x qual : Str} {st : Stmt} {f : Addr} {fd : FuncData} {N ps : List Str} {k : Nat} {ms : List Bool} {S : SpecM} {db : DS} (j : Nat) (cs : List Nat) (F : Fun K x qual st f fd) (Sc : FnScope N ps (defScope st)) (hms : ms.length + 1 = ps.length) (hN : ms.length + 1 ≤ N.length) (hcs : j ∉ cs)
    (hk : KeepsP j ms (N.length - (ms.length + 1)) S db)
    (body : ∀ (cdv : Value) (A : Around) (outer : List PySem.Env) (s : Shared) (H : Hp) (E : XK) (B : Hp) (p : Addr), Room k (cxOf (L2.CX P w) P w K mg base N qual (defScope st) f cdv A outer s H E).A →
      JSs (cxOf (L2.CX P w) P w K mg base N qual (defScope st) f cdv A outer s H E) ⟨H, B, [p], cs, N.length, noX⟩ c (fun cls d _ H => E cls d H) [j] (defBody st) db) :
    FnOk P w K mg base (L2.CX P w) (k + 1) f fd ps (SpP K j ms S) := by
  refine F.okX Sc (fun vs H Q E h => ?_) (fun cdv A outer s H vs Q E hr h => ?_)
  · obtain ⟨p, B, ds, _, _, hj, _, ha, _⟩ := h
    have l := ha.len.1
    have jl : j < vs.length := (List.getElem?_eq_some_iff.mp hj).1
    rw [List.length_eraseIdx, if_pos jl] at l
    omega
  · obtain ⟨p, B, ds, ws, es, hj, hB, ha, ap, h1, h2, h3, Q0, hS, hQ⟩ := h
    obtain ⟨t, pt, stt⟩ := (body cdv A outer s H E B p hr).ex
    exact ⟨t, pt, enterP (E := E) hN hcs hk hj stt hB ha ap h1 h2 h3 hS hQ⟩
end
end J

/-! JL22: parts of own things: the rules. -/
namespace J
open PySem L2
section
variable {K : PySem.W.Frag} {g : G} {B B' H H' : Hp} {s : L2.St} {r : Env} {z : Stk} {v w : V} {t : T}
theorem SR.pushPart {i : Nat} {p : List Nat} {f : F} (S : SR K g B s r z H) (h : OwF K B H f w) : SR K g B s r ((w, partT i p f) :: z) H := by
  cases f with
  | sh d => exact S.push h
  | ol q ds => exact S.pushN (show w = V.ref q from h.1) (fun _ q => q) fun j e => by cases e
  | nd q c fs => exact S.pushN (show w = V.ref q from h.1) (fun _ q => q) fun j e => by cases e
  | od q kvs => exact S.pushN (show w = V.ref q from h.1) (fun _ q => q) fun j e => by cases e
theorem setP_of {i : Nat} {p : List Nat} {f g : F} (h : look r i = some (.own f)) : setP r i p g = put r i (some (.own (setAt g p f))) := by
  unfold setP
  rw [h]
/-- a part that is a list is given another content -/
theorem SR.changeP {i n q : Nat} {p : List Nat} {ds es : List D} {ws : List V} (S : SR K g B s r z H) (h : getP r i p q = some (.ol n ds)) (hw : RepAll K B ws es) :
    n = q ∧ ∃ vs, H q = some (.lst vs) ∧ RepAll K B vs ds ∧ SR K g B s (setP r i p (.ol n es)) z (L2.upd H q (.lst ws)) := by
  obtain ⟨f, l, e1, e2, _⟩ := getP_eq h
  have e2 : n = q := e2
  subst e2
  obtain ⟨v, hv, en⟩ := S.env i _ l
  obtain ⟨w0, ⟨_, vs, h1, h2⟩, _⟩ := ow_at en.1 e1
  refine ⟨rfl, vs, h1, h2, ?_⟩
  rw [setP_of l]
  refine SR.tradeP (zo := []) (zn := []) S l e1 (fun a o e q _ => ?_) (fun a e => ?_) (fun w1 hw1 => ?_) (fun a q => Or.inl q) (fun x hx => by cases hx) (fun x hx => by cases hx) (fun x hx => by cases hx) (fun x hx => by cases hx) List.Pairwise.nil
  · rw [upd_ne fun e' => q (by rw [e']; simp [idsF])]
    exact e
  · by_cases q : a = n
    · subst q
      rw [upd_same]; simp
    · rw [upd_ne q]; exact e
  · exact ⟨hw1.1, ws, upd_same, hw⟩
theorem ows_last : ∀ {fs : List F} {vs : List V} {l : F}, OwFs K B H fs vs → fs.getLast? = some l → ∃ w, vs.getLast? = some w ∧ OwF K B H l w ∧ OwFs K B H fs.dropLast vs.dropLast ∧ (∀ a, a ∈ idsF l → a ∉ idsFs fs.dropLast) ∧ (∀ a, a ∈ idsFs fs.dropLast → a ∈ idsFs fs) ∧ ∀ a, a ∈ idsF l → a ∈ idsFs fs
  | [], _, _, _, h => by simp at h
  | _ :: _, [], _, h, _ => h.elim
  | [f], v :: vs, l, ⟨h1, h2, h3⟩, e => by
    have h2 : vs = [] := h2
    subst h2
    simp at e
    subst e
    exact ⟨v, rfl, h1, rfl, fun a _ q => ids_nil.mp q, fun a q => (ids_nil.mp q).elim, fun a q => ids_cons.mpr (Or.inl q)⟩
  | f :: f2 :: fs, v :: [], l, ⟨h1, h2, h3⟩, e => h2.elim
  | f :: f2 :: fs, v :: v2 :: vs, l, ⟨h1, h2, h3⟩, e => by
    rw [List.getLast?_cons_cons] at e
    obtain ⟨w, a1, a2, a3, a4, a5, a6⟩ := ows_last h2 e
    refine ⟨w, by rw [List.getLast?_cons_cons]; exact a1, a2, ⟨h1, a3, fun a q1 q2 => h3 a q1 (a5 a q2)⟩, fun a q1 q2 => ?_, fun a q => ?_, fun a q => ids_cons.mpr (Or.inr (a6 a q))⟩
    · rcases ids_cons.mp q2 with q | q
      · exact h3 a q (a6 a q1)
      · exact a4 a q1 q
    · rcases ids_cons.mp q with q | q
      · exact ids_cons.mpr (Or.inl q)
      · exact ids_cons.mpr (Or.inr (a5 a q))
theorem ids_set {f' new : F} : ∀ {fs : List F} {vs : List V} {k : Nat}, OwFs K B H fs vs → fs[k]? = some f' → ∀ a, a ∈ idsFs (fs.set k new) → a ∈ idsF new ∨ a ∉ idsF f'
  | [], _, _, _, h, _, _ => by simp at h
  | _ :: _, [], _, h, _, _, _ => h.elim
  | f :: fs, v :: vs, 0, ⟨h1, h2, h3⟩, e, a, q => by
    simp at e
    subst e
    rcases ids_cons.mp q with q | q
    · exact Or.inl q
    · exact Or.inr fun q' => h3 a q' q
  | f :: fs, v :: vs, k + 1, ⟨h1, h2, h3⟩, e, a, q => by
    have e : fs[k]? = some f' := by simpa using e
    rcases ids_cons.mp q with q | q
    · exact Or.inr fun q' => h3 a q (ids_at e q')
    · exact ids_set h2 e a q
theorem ids_setAt {L : Nat → Prop} {g1 g2 : F} (hL : ∀ a, L a → a ∈ idsF g1) (h2 : ∀ a, a ∈ idsF g2 → ¬ L a) : ∀ {p : List Nat} {f : F} {v : V}, OwF K B H f v → atF p f = some g1 → ∀ a, a ∈ idsF (setAt g2 p f) → ¬ L a
  | [], f, v, h, e, a, q => h2 a q
  | k :: p, .nd q' c fs, v, ⟨_, o, _, _, hk, nf⟩, e, a, q => by
    simp only [atF] at e
    split at e
    · rename_i f' e1
      simp only [setAt, e1] at q
      intro la
      have inn : ∀ b, L b → b ∈ idsF f' := fun b lb => ids_atF e b (hL b lb)
      rcases ids_nd.mp q with z | z
      · subst z
        exact nf (ids_at e1 (inn _ la))
      · rcases ids_set hk e1 a z with z | z
        · obtain ⟨w, _, hw, _⟩ := ows_get hk e1
          exact ids_setAt hL h2 hw e a z la
        · exact z (inn a la)
    · cases e
  | _ :: _, .sh _, _, _, e, _, _ => by simp at e
  | _ :: _, .ol _ _, _, _, e, _, _ => by simp at e
  | _ :: _, .od _ _, _, _, e, _, _ => by simp at e
/-- one thing more in a part that is an own list -/
theorem SR.appP {i n q : Nat} {p : List Nat} {fs : List F} {l : F} (S : SR K g B s r ((w, t) :: z) H) (h : getP r i p q = some (.nd n none fs)) (lo : OwF K B H l w) (lf : ∀ a, a ∈ idsF l ↔ fpT H w t a) :
    n = q ∧ ∃ vs, H q = some (.lst vs) ∧ vs.length = fs.length ∧ SR K g B s (setP r i p (.nd n none (fs ++ [l]))) z (L2.upd H q (.lst (vs ++ [w]))) := by
  obtain ⟨f, k1, e1, e2, _⟩ := getP_eq h
  have e2 : n = q := e2
  subst e2
  obtain ⟨v, hv, en⟩ := S.env i _ k1
  obtain ⟨w0, ⟨_, o, h1, ⟨vs, rfl⟩, h2, nf⟩, gin⟩ := ow_at en.1 e1
  have h2 : OwFs K B H fs vs := h2
  refine ⟨rfl, vs, h1, h2.len, ?_⟩
  rw [setP_of k1]
  have nin : n ∈ idsF f := gin n (ids_nd.mpr (Or.inl rfl))
  have disj : ∀ a, a ∈ idsF l → a ∉ idsF f := fun a q q' => S.d2 i _ _ _ k1 hv List.mem_cons_self a q' ((lf a).mp q)
  have off : ∀ {o : HO} a, a ≠ n → (L2.upd H n o) a = H a := fun a q => upd_ne q
  refine SR.tradeP (zo := [(w, t)]) (zn := []) S k1 e1 (fun a o e q _ => ?_) (fun a e => ?_) (fun w1 hw1 => ?_) (fun a q => ?_) (fun x hx => by cases hx) (fun x hx => by cases hx) (fun x hx => by cases hx) (fun x hx => by cases hx) List.Pairwise.nil
  · rw [upd_ne fun e' => q (ids_nd.mpr (Or.inl e'))]
    exact e
  · by_cases q : a = n
    · subst q
      rw [upd_same]; simp
    · rw [upd_ne q]; exact e
  · refine ⟨hw1.1, _, upd_same, ⟨_, rfl⟩, ?_, fun q => ?_⟩
    · refine (ows_app (K := K) (B := B) ?_ ?_ fun a q q' => disj a q (gin a (ids_nd.mpr (Or.inr q')))).1
      · exact ow_frames h2 (Same.refl _) fun a q => off a fun e => nf (by rw [← e]; exact q)
      · exact ow_frame lo (Same.refl _) fun a q => off a fun e => disj a q (by rw [e]; exact nin)
    · rcases ids_app.mp q with q | q
      · exact nf q
      · exact disj n q nin
  · rcases ids_nd.mp q with q | q
    · exact Or.inl (ids_nd.mpr (Or.inl q))
    · rcases ids_app.mp q with q | q
      · exact Or.inl (ids_nd.mpr (Or.inr q))
      · exact Or.inr (Or.inl ⟨_, List.mem_cons_self, (lf a).mp q⟩)
/-- the last of a part that is an own list is taken out -/
theorem SR.popP {i n q : Nat} {p : List Nat} {fs : List F} {l : F} {t' : T} (S : SR K g B s r z H) (h : getP r i p q = some (.nd n none fs)) (hl : fs.getLast? = some l) (ht : (∃ d, l = .sh d ∧ t' = .sh d) ∨ t' = .own l) :
    n = q ∧ ∃ vs w, H q = some (.lst vs) ∧ vs.length = fs.length ∧ vs.getLast? = some w ∧ SR K g B s (setP r i p (.nd n none fs.dropLast)) ((w, t') :: z) (L2.upd H q (.lst vs.dropLast)) := by
  obtain ⟨f, k1, e1, e2, _⟩ := getP_eq h
  have e2 : n = q := e2
  subst e2
  obtain ⟨v, hv, en⟩ := S.env i _ k1
  obtain ⟨w0, ⟨_, o, h1, ⟨vs, rfl⟩, h2, nf⟩, gin⟩ := ow_at en.1 e1
  have h2 : OwFs K B H fs vs := h2
  obtain ⟨w, a1, a2, a3, a4, a5, a6⟩ := ows_last h2 hl
  refine ⟨rfl, vs, w, h1, h2.len, a1, ?_⟩
  rw [setP_of k1]
  have off : ∀ {o : HO} a, a ≠ n → (L2.upd H n o) a = H a := fun a q => upd_ne q
  have lout : n ∉ idsF l := fun q => nf (a6 n q)
  have fpt : ∀ {H2 : Hp} a, fpT H2 w t' a → a ∈ idsF l := fun {H2} a q => by
    rcases ht with ⟨d, rfl, rfl⟩ | rfl
    · exact q.elim
    · exact q
  refine SR.tradeP (zo := []) (zn := [(w, t')]) S k1 e1 (fun a o e q _ => ?_) (fun a e => ?_) (fun w1 hw1 => ?_) (fun a q => ?_) (fun x hx => ?_) (fun x hx a q => ?_) (fun x hx j e => ?_) (fun x hx a q1 q2 => ?_) (List.pairwise_singleton _ _)
  · rw [upd_ne fun e' => q (ids_nd.mpr (Or.inl e'))]
    exact e
  · by_cases q : a = n
    · subst q
      rw [upd_same]; simp
    · rw [upd_ne q]; exact e
  · exact ⟨hw1.1, _, upd_same, ⟨_, rfl⟩, ow_frames a3 (Same.refl _) fun a q => off a fun e => nf (by rw [← e]; exact a5 a q), fun q => nf (a5 n q)⟩
  · rcases ids_nd.mp q with q | q
    · exact Or.inl (ids_nd.mpr (Or.inl q))
    · exact Or.inl (ids_nd.mpr (Or.inr (a5 a q)))
  · rw [List.mem_singleton] at hx
    subst hx
    have lo : OwF K B (L2.upd H n (.lst vs.dropLast)) l w := ow_frame a2 (Same.refl _) fun a q => off a fun e => lout (by rw [← e]; exact q)
    rcases ht with ⟨d, rfl, rfl⟩ | rfl
    · exact lo
    · exact ⟨lo, fun a q => en.2 a (gin a (ids_nd.mpr (Or.inr (a6 a q))))⟩
  · rw [List.mem_singleton] at hx
    subst hx
    exact Or.inl (ids_nd.mpr (Or.inr (a6 a (fpt a q))))
  · rw [List.mem_singleton] at hx
    subst hx
    rcases ht with ⟨d, rfl, rfl⟩ | rfl <;> cases e
  · rw [List.mem_singleton] at hx
    subst hx
    refine ids_setAt (L := fun a => a ∈ idsF l) (fun a q => ids_nd.mpr (Or.inr (a6 a q))) (fun a q la => ?_) en.1 e1 a q1 (fpt a q2)
    rcases ids_nd.mp q with z | z
    · subst z
      exact lout la
    · exact a4 a la z
end
/-- what stands below the top is dropped -/
theorem SR.under {K : PySem.W.Frag} {g : G} {B H : Hp} {s : L2.St} {r : Env} {z : Stk} {x y : V × T} (S : SR K g B s r (x :: y :: z) H) : SR K g B s r (x :: z) H := by
  have mem : ∀ u, u ∈ x :: z → u ∈ x :: y :: z := fun u hu => by
    rcases List.mem_cons.mp hu with e | hu
    · exact List.mem_cons.mpr (Or.inl e)
    · exact List.mem_cons.mpr (Or.inr (List.mem_cons.mpr (Or.inr hu)))
  have d := List.pairwise_cons.mp S.d3
  have d' := List.pairwise_cons.mp d.2
  exact ⟨S.b0, S.bh, S.fr, S.h0, S.hm, S.len, S.ln, S.env, fun u hu => S.stk u (mem u hu), fun i v hu => S.al i v (mem _ hu), S.d1, fun i t v u a b hu => S.d2 i t v u a b (mem u hu), List.pairwise_cons.mpr ⟨fun u hu => d.1 u (List.mem_cons.mpr (Or.inr hu)), d'.2⟩, S.ea⟩
/-! ### the rules -/
section
variable {X : Cx} {g : G} {c : Cl} {W : WX} {L : List Nat}
theorem j_pn (i : Nat) {x : Str} {pos : Pos} (hN : X.N[i]? = some x := by rfl) (hv : Vis X.env.scope x := by first | exact Or.inl rfl | exact Or.inr (Or.inl rfl) | exact Or.inr (Or.inr rfl)) (hd : (x == ("__debug__" : Str)) = false := by decide)
    (hcd : (x == ("__classdict__" : Str)) = false := by decide) : JE X g c W (.Name x pos) (dPn i) := by
  refine ⟨_, pe_var hN hv hd hcd, fun s H r B z Y Q Qv _ S h k => ?_⟩
  unfold dPn at h
  split at h
  · rename_i f l
    obtain ⟨v, e1, e2⟩ := S.env i _ l
    exact ⟨v, e1, k v H B r _ (S.pushPart e2.1) h⟩
  · rename_i j p q l
    obtain ⟨v, e1, e2⟩ := S.env i _ l
    exact ⟨v, e1, k v H B r _ (S.pushN e2 (fun _ q => q) fun j e => by cases e) h⟩
  · rename_i d l
    obtain ⟨v, e1, e2⟩ := S.env i _ l
    exact ⟨v, e1, k v H B r _ (S.push e2) h⟩
  · exact h.elim
/-- e.f -/
theorem j_pf {e : Expr} {de : DE} {f : Str} {pos2 : Pos} (he : JE X g c W e de) (hb : attributeBase e f X.env (eval e X.env) = eval e X.env := by rfl) : JE X g c W (.Attribute e f pos2) (dPf f de) := by
  obtain ⟨te, pe, se⟩ := he.ex
  refine ⟨_, pe_fld pe hb, fun s H r B z Y Q Qv lw S h k => ?_⟩
  refine se s H r B z Y _ _ lw S h fun v H1 B1 r1 t1 S1 q1 => ?_
  have fin : ∀ {cc k1 n : Nat} {C dx a : Addr} {fl : List (Str × V)} {t : T}, v = .ref a → H1 a = some (.ins C dx fl) → ClsIs X.K C cc → fl.map (·.1) = (clsT cc).2.take n → fX cc f = some k1 → ∀ hk : k1 < fl.length, SR X.K g B1 s r1 ((fl[k1].2, t) :: z) H1 → Q t r1 →
      ∃ a C dx fs v', v = .ref a ∧ H1 a = some (.ins C dx fs) ∧ Cls X.K C ∧ NoAttr X.K C f ∧ fs.lookup f = some v' ∧ Qv v' H1 := fun {cc k1 n C dx a fl t} e1 e2 e3 e4 e5 hk e6 q => by
    have fm : f ∈ (clsT cc).2 := by
      unfold fX at e5
      obtain ⟨hk1, hk2, _⟩ := List.findIdx?_eq_some_iff_getElem.mp e5
      have : (clsT cc).2[k1] = f := by simpa using hk2
      rw [← this]
      exact List.getElem_mem _
    exact ⟨a, C, dx, fl, _, e1, e2, e3.cl, e3.na f fm, (lookF e4 e5 hk).1, k _ H1 B1 r1 _ e6 q⟩
  split at q1
  · rename_i cc ds
    have en : Rep X.K B1 v (.obj cc ds) := S1.top
    cases en with
    | obj h1 c1 n1 rr =>
      rename_i a C dx fl
      split at q1
      · rename_i d hd
        cases e5 : fX cc f with
        | none => rw [e5] at hd; cases hd
        | some k1 =>
          rw [e5] at hd
          simp only [Option.bind_some] at hd
          obtain ⟨w, w1, w2⟩ := rr.get hd
          have kl : k1 < fl.length := by
            have := (List.getElem?_eq_some_iff.mp w1).1
            simpa using this
          have : (fl.map (·.2))[k1]? = some fl[k1].2 := by
            rw [List.getElem?_map, List.getElem?_eq_getElem kl]; rfl
          rw [this] at w1
          cases w1
          exact fin rfl (S1.bh _ _ h1) c1 n1 e5 kl (S1.pop.push w2) q1
      · exact q1.elim
  · rename_i i p q
    have ev : v = V.ref q := S1.top
    subst ev
    cases l : getP r1 i p q with
    | none => simp only [l] at q1
    | some f0 =>
      have ow := S1.part l
      simp only [l] at q1
      split at q1
      · rename_i n cc fs heq
        cases heq
        split at q1
        · rename_i k1 e5
          split at q1
          · rename_i gg e7
            obtain ⟨en, o', hp, ⟨C, dx, fl, rfl, c1, c2⟩, hk, _⟩ := ow
            have hk : OwFs X.K B1 H1 fs (fl.map (·.2)) := hk
            have ll : fl.length = fs.length := by simpa using hk.len
            have k1l : k1 < fs.length := (List.getElem?_eq_some_iff.mp e7).1
            obtain ⟨w, w1, w2, _⟩ := ows_get hk e7
            have : (fl.map (·.2))[k1]? = some fl[k1].2 := by
              rw [List.getElem?_map, List.getElem?_eq_getElem (by omega)]; rfl
            rw [this] at w1
            cases w1
            exact fin en hp c1 c2 e5 (by omega) (S1.pop.pushPart w2) q1
          · exact q1.elim
        · exact q1.elim
      · exact q1.elim
  · exact q1.elim
theorem es_ixP {ta : TE} {tb : TE} {da db : DE} (sa : ES X.K g c W ta da) (sb : ES X.K g c W tb db) : ES X.K g c W (tOp (rIx X.K) ta tb) (dPx da db) := fun s H r B z Y Q Qv lw S h k => by
  refine sa s H r B z Y _ _ lw S h fun v H1 B1 r1 t1 S1 q1 => ?_
  refine sb s H1 r1 B1 _ Y _ _ lw.ext S1 q1 fun w H2 B2 r2 t2 S2 q2 => ?_
  split at q2
  · rename_i y ey
    have gen : (match rdT r2 t1 with
      | some x => oIx x y fun t => Q t r2
      | none => False) → rIx X.K v w H2 Qv := fun q => by
      split at q
      · rename_i x ex
        exact ops_ix B2 s r2 z H2 v w x y _ _ S2.pop.pop (S2.view (List.mem_cons_of_mem _ List.mem_cons_self) ex) (S2.view List.mem_cons_self ey) q fun u H' B' t S' q => k u H' B' r2 t S' q
      · exact q.elim
    unfold ixP at q2
    split at q2
    · rename_i i p q
      split at q2
      · rename_i n fs zi eg
        have ev : v = V.ref q := S2.pop.top
        subst ev
        have ow := S2.part eg
        obtain ⟨en, o, h1, ⟨vs, rfl⟩, hk, _⟩ := ow
        cases en
        have hk : OwFs X.K B2 H2 fs vs := hk
        split at q2
        · rename_i j ej
          split at q2
          · rename_i gg e7
            obtain ⟨u, w1, w2, _⟩ := ows_get hk e7
            have vi := S2.view List.mem_cons_self ey
            cases vi
            refine Or.inl ⟨q, vs, zi, u, rfl, rfl, SqL.of h1, ?_, k u H2 B2 r2 _ (S2.pop.pop.pushPart w2) q2⟩
            rw [← atD_is]
            unfold atD
            rw [hk.len, ej]
            exact w1
          · exact q2.elim
        · exact q2.elim
      · exact gen q2
    · exact gen q2
  · exact q2.elim
/-- x[y], x a path -/
theorem j_px {a b : Expr} {da db : DE} {pos : Pos} (ha : JE X g c W a da) (hb : JE X g c W b db) (hs : PlainIx b := by exact fun _ _ => rfl) : JE X g c W (.Subscript a b pos) (dPx da db) := by
  obtain ⟨ta, pa, sa⟩ := ha.ex
  obtain ⟨tb, pb, sb⟩ := hb.ex
  exact ⟨_, pe_ix ix_seq pa pb hs, es_ixP sa sb⟩
/-- o.append(e), o a part -/
theorem j_papp {o e : Expr} {apos pos : Pos} {dOe de : DE} (ho : JE X g c W o dOe) (he : JE X g c W e de)
    (hs1 : starEach [e] X.env = (false, eval e X.env) :: starEach [] X.env := by rfl)
    (hbase : attributeBase o "append" X.env (eval o X.env) = eval o X.env := by rfl)
    (hfew : ((backTo pos (starEach [e] X.env)).all (fun x => !x.1) && (backToKw pos (keywordEach [] X.env)).all (fun x => x.1.isSome) && decide (([e] : List Expr).length + ([] : List Keyword).length + (if ([] : List Keyword).isEmpty then 0 else 1) < 30)) = true := by rfl)
    (hline : (apos.endLine == pos.line) = true := by rfl) (hplain : (backTo pos (starEach [] X.env)).any (·.1) = false := by rfl) :
    JE X g c W (.Call (.Attribute o "append" apos) [e] [] pos) (dPapp dOe de) := by
  obtain ⟨to, po, so⟩ := ho.ex
  obtain ⟨te, pe, se⟩ := he.ex
  refine ⟨_, pe_bm PySem.F.plainAttrs_list PySem.F.slot_list_append PySem.F.type_list_append mt_append po (pa_cons pe pa_nil hs1) hbase hfew hline hs1 hplain, fun s H r B z Y Q Qv lw S h k => ?_⟩
  refine so s H r B z Y _ _ lw S h fun v0 H0 B0 r0 t0 S0 q0 => ?_
  split at q0
  · rename_i i p q
    obtain ⟨⟨f0, l0, isl⟩, q0⟩ := q0
    have ev : v0 = V.ref q := S0.top
    subst ev
    have ow := S0.part l0
    have tl : tyV X.K "list" (.ref q) H0 := by
      cases f0 with
      | ol n ds =>
        obtain ⟨en, vs, h1, _⟩ := ow
        exact ty_list (by cases en; exact h1)
      | nd n k0 fs =>
        cases k0 with
        | none =>
          obtain ⟨en, o1, h1, ⟨vs, rfl⟩, _⟩ := ow
          exact ty_list (by cases en; exact h1)
        | some _ => exact isl.elim
      | _ => exact isl.elim
    refine ⟨tl, ?_⟩
    refine se s H0 r0 B0 _ Y _ _ lw.ext S0 q0 fun v H1 B1 r1 t1 S1 q1 => ?_
    obtain ⟨l, q2, lo, lf⟩ := leaf_of q1 S1.top
    clear q1
    cases l1 : getP r1 i p q with
    | none => simp only [l1] at q2
    | some f1 =>
      simp only [l1] at q2
      cases f1 with
      | ol n ds =>
        cases l with
        | sh d =>
          rw [appF_ol] at q2
          have rv : Rep X.K B1 v d := lo
          have S2 : SR X.K g B1 s r1 z H1 := S1.pop.pop
          by_cases hlen : ds.length < 16777216
          · rw [if_pos hlen] at q2
            obtain ⟨rfl, vs, f2, f3, _⟩ := S2.changeP l1 (RepAll.nil (K := X.K) (B := B1))
            obtain ⟨_, vs', f2', f3', S3⟩ := S2.changeP l1 (f3.append (.cons rv .nil))
            rw [f2] at f2'
            cases f2'
            exact ⟨n, vs, v, rfl, rfl, f2, by rw [f3.len, ← size_is]; exact hlen, k _ _ B1 _ _ (S3.push .non) q2⟩
          · rw [if_neg hlen] at q2
            exact q2.elim
        | _ => exact q2.elim
      | nd n k0 fs =>
        cases k0 with
        | none =>
          rw [appF_nd] at q2
          by_cases hlen : fs.length < 16777216
          · rw [if_pos hlen] at q2
            have S2 : SR X.K g B1 s r1 ((v, t1) :: z) H1 := S1.under
            obtain ⟨rfl, vs, f2, f3, S3⟩ := S2.appP l1 lo lf
            exact ⟨n, vs, v, rfl, rfl, f2, by rw [f3, ← size_is]; exact hlen, k _ _ B1 _ _ (S3.push .non) q2⟩
          · rw [if_neg hlen] at q2
            exact q2.elim
        | some _ => cases l <;> exact q2.elim
      | _ => cases l <;> exact q2.elim
  · exact q0.elim
end
end J

/-! JL23: fields as targets, targets in targets, parts changed by place. -/
namespace J
open PySem L2
section
variable {X : Cx} {g : G} {c : Cl} {W : WX} {L : List Nat} {K : PySem.W.Frag}
/-- a target that hands the shared heap on -/
def GSb (K : PySem.W.Frag) (g : G) (P : Nat → Prop) (sets : List Nat) (tg : TG) (dg : DG) : Prop := ∀ (s : St) (H : Hp) (r : Env) (B : Hp) (z : Stk) (v : V) (d : D) (Q : Env → Prop) (Qv : St → Hp → Prop), SR K g B s r ((v, .sh d) :: z) H → (∀ i w, (w, T.al i) ∈ z → P i) → dg d r Q →
  (∀ s' H' B' r', SR K g B' s' r' z H' → s'.length = s.length → (∀ i, i ∉ sets → s'[i]? = s[i]?) → Same B B' → Q r' → Qv s' H') → tg v s H Qv
structure JGb (X : Cx) (g : G) (P : Nat → Prop) (sets : List Nat) (tg : Expr) (dg : DG) : Prop where
  ex : ∃ t, PG X tg t ∧ GSb X.K g P sets t dg
  on : ∀ d r (Q : Env → Prop), dg d r Q → ∃ r1, Q r1
theorem JGb.jg {P : Nat → Prop} {sets : List Nat} {tg : Expr} {dg : DG} (h : JGb X g P sets tg dg) : JG X g P sets tg dg := by
  obtain ⟨t, pt, st⟩ := h.ex
  exact ⟨t, pt, fun s H r B z v d Q Qv S hl h k => st s H r B z v d Q Qv S hl h fun s' H' B' r' S' l n _ q => k s' H' B' r' S' l n q⟩
theorem jgb_name {P : Nat → Prop} {i : Nat} {x : Str} {pos : Pos} (hi : ¬ P i) (hn : i < g.n) (hN : X.N.Nodup) (hx : X.N[i]? = some x) (hv : Loc X.env.scope x) (hf : X.fn x = true ∨ X.env.scope.names.lookup x = some .local := by first | exact .inl rfl | exact .inr rfl | assumption) : JGb X g P [i] (.Name x pos) (gN i) :=
  ⟨⟨_, pg_name hN hx hv hf, fun s H r B z v d Q Qv S hl h k =>
    k _ H B _ (S.store (by rw [S.ln]; exact hn) (Or.inl ⟨_, rfl⟩) (fun w hw => hi (hl i w hw))) (by rw [List.length_set]) (fun j hj => List.getElem?_set_ne fun e => hj (by simp [e])) (Same.refl _) h⟩, fun d r Q h => ⟨_, h⟩⟩
theorem jgs_cons {P : Nat → Prop} {s1 sets : List Nat} {n : Nat} {e : Expr} {es : List Expr} {dg1 : DG} {dg : DGs} (h1 : JGb X g P s1 e dg1) (hr : JGs X g P sets es dg n)
    (hs : (assignEach (e :: es) X.env).map (·.2) = assign e X.env :: (assignEach es X.env).map (·.2) := by rfl) : JGs X g P (s1 ++ sets) (e :: es) (gCn dg1 dg) (n + 1) := by
  obtain ⟨t1, pt1, st1⟩ := h1.ex
  obtain ⟨t, pt, st, hl⟩ := hr.ex
  refine ⟨_, pgs_cons pt1 pt hs, fun s H r B z vs ds Q Qv S hz rr h k => ?_, fun ds r K h => ?_⟩
  · unfold gCn at h
    split at h
    · rename_i d rest
      cases rr with
      | cons r1 r2 =>
        refine ⟨_, _, rfl, ?_⟩
        refine st1 s H r B z _ d _ _ (S.push r1) hz h fun s1' H1 B1 r1' S1 l1 ne1 hb1 q1 => ?_
        refine st s1' H1 r1' B1 z _ rest Q Qv S1 hz (r2.mono hb1) q1 fun s' H' B' r' S' l' ne' hb q => ?_
        refine k s' H' B' r' S' (by rw [l', l1]) (fun j hj => ?_) (fun a o e => hb a o (hb1 a o e)) q
        rw [List.mem_append, not_or] at hj
        rw [ne' j hj.2, ne1 j hj.1]
    · exact h.elim
  · unfold gCn at h
    split at h
    · obtain ⟨r1, h⟩ := h1.on _ _ _ h
      exact congrArg (· + 1) (hl _ _ _ h)
    · exact h.elim
theorem jgb_tup {P : Nat → Prop} {sets : List Nat} {n : Nat} {es : List Expr} {k : Nat} {pos : Pos} {dg : DGs} (hc : X.calm = true) (h : JGs X g P sets es dg n) (ho : ∀ ds r (Q : Env → Prop), dg ds r Q → ∃ r1, Q r1) (hn : (assignEach es X.env).length = n := by rfl) (hst : (assignEach es X.env).findIdx? (·.1) = none := by rfl) :
    JGb X g P sets (.Tuple es k pos) (gTp dg) := by
  obtain ⟨t, pt, st, hl⟩ := h.ex
  refine ⟨⟨_, pg_tup hc pt hn hst, fun s H r B z v d Q Qv S hz h kq => ?_⟩, fun d r Q h => ?_⟩
  · unfold gTp at h
    split at h
    · rename_i ds
      have v1 : Rep X.K B v (.tup ds) := S.top
      cases v1 with
      | tup h1 h2 =>
        refine ⟨_, _, rfl, same_t S.bh h1, by rw [h2.len]; exact hl _ _ _ h, ?_⟩
        exact st s H r B z _ ds Q Qv S.pop hz h2 h fun s' H' B' r' S' l' ne' hb q => kq s' H' B' r' S' l' ne' hb q
    · exact h.elim
  · unfold gTp at h
    split at h
    · exact ho _ _ _ h
    · exact h.elim
theorem on_nl : ∀ ds r (Q : Env → Prop), gNl ds r Q → ∃ r1, Q r1 := fun _ r _ h => ⟨r, h.2⟩
theorem on_cn {dg1 : DG} {dg : DGs} (h1 : ∀ d r (Q : Env → Prop), dg1 d r Q → ∃ r1, Q r1) (h2 : ∀ ds r (Q : Env → Prop), dg ds r Q → ∃ r1, Q r1) : ∀ ds r (Q : Env → Prop), gCn dg1 dg ds r Q → ∃ r1, Q r1 := fun ds r Q h => by
  unfold gCn at h
  split at h
  · obtain ⟨r1, h⟩ := h1 _ _ _ h
    exact h2 _ _ _ h
  · exact h.elim
theorem on_gN (i : Nat) : ∀ d r (Q : Env → Prop), gN i d r Q → ∃ r1, Q r1 := fun d r Q h => ⟨_, h⟩
theorem on_gF (i : Nat) (f : Str) : ∀ d r (Q : Env → Prop), gF i f d r Q → ∃ r1, Q r1 := fun d r Q h => by
  unfold gF at h
  split at h
  · split at h
    · exact ⟨_, h⟩
    · exact h.elim
  · exact h.elim
theorem on_gTp {dg : DGs} (ho : ∀ ds r (Q : Env → Prop), dg ds r Q → ∃ r1, Q r1) : ∀ d r (Q : Env → Prop), gTp dg d r Q → ∃ r1, Q r1 := fun d r Q h => by
  unfold gTp at h
  split at h
  · exact ho _ _ _ h
  · exact h.elim
/-- o.f as a target -/
def gAttr (K : PySem.W.Frag) (ta : TE) (f : Str) : TG := fun v σ H Q => ta σ H fun x H1 => ∃ a C dx fs, x = .ref a ∧ H1 a = some (.ins C dx fs) ∧ Cls K C ∧ NoAttr K C f ∧ fs.length < 1000 ∧ Q σ (L2.upd H1 a (.ins C dx (putF f v fs)))
theorem pg_attr {o : Expr} {f : Str} {pos : Pos} {ta : TE} (ho : PE X o ta) : PG X (.Attribute o f pos) (gAttr X.K ta f) := by
  refine ⟨fun pins s σ H v u Q I r h => ?_⟩
  unfold assign
  refine PySem.wpAny_bind (PySem.wpAny_holding (thn (ho.run pins s σ H _ I h) fun ov s1 ⟨x, H1, I1, rx, a, C, dx, fs, ex, ea, c, n, l, q⟩ => ?_))
  subst ex
  obtain rfl : ov = Value.ref a := rx
  refine PySem.wpAny_bind (PySem.wpAny_standAt (PySem.wpAny_bind (PySem.wpAny_holding (setattr_ok I1 ea c n l r fun s2 I2 => ?_))))
  exact PySem.wpAny_release ⟨σ, _, I2, q⟩
/-- x.f as a target, x the slot i -/
theorem jgb_attr {P : Nat → Prop} (i : Nat) {x f : Str} {px pf : Pos} (hN : X.N[i]? = some x := by rfl) (hv : Vis X.env.scope x := by first | exact Or.inl rfl | exact Or.inr (Or.inl rfl) | exact Or.inr (Or.inr rfl)) (hd : (x == ("__debug__" : Str)) = false := by decide)
    (hcd : (x == ("__classdict__" : Str)) = false := by decide) : JGb X g P [] (.Attribute (.Name x px) f pf) (gF i f) := by
  refine ⟨⟨_, pg_attr (pe_var hN hv hd hcd), fun s H r B z w d Q Qv S hl h k => ?_⟩, fun d r Q h => ?_⟩
  · unfold gF at h
    split at h
    · rename_i n cc fs e1
      obtain ⟨v, v1, en⟩ := S.env i _ e1
      split at h
      · rename_i fs' e3
        cases e5 : fX cc f with
        | none => rw [e5] at e3; cases e3
        | some k1 =>
          rw [e5] at e3
          simp only [Option.bind_some] at e3
          obtain ⟨C, dx, fl, h1, c1, l10, fm, S2⟩ := S.fsetP (p := []) e1 rfl (l := .sh d) S.top (fun a => by simp [idsF, fpT]) e5 e3
          exact ⟨v, v1, n, C, dx, fl, en.1.1, h1, c1.cl, c1.na f fm, by omega, k s _ B _ S2 rfl (fun _ _ => rfl) (Same.refl _) h⟩
      · exact h.elim
    · exact h.elim
  · unfold gF at h
    split at h
    · split at h
      · exact ⟨_, h⟩
      · exact h.elim
    · exact h.elim
/-- x.f op= e -/
theorem js_faug (i : Nat) {x f : Str} {e : Expr} {de : DE} {op : Operator} {o : R2} {od : R2D} {px pf pos : Pos} (ho : InOp X op o ∧ OpS X.K g o od) (he : JE X g c W e de) (hN : X.N[i]? = some x := by rfl) (hv : Vis X.env.scope x := by first | exact Or.inl rfl | exact Or.inr (Or.inl rfl) | exact Or.inr (Or.inr rfl))
    (hd : (x == ("__debug__" : Str)) = false := by decide) (hcd : (x == ("__classdict__" : Str)) = false := by decide) : JS X g c W L (.AugAssign (.Attribute (.Name x px) f pf) op e pos) (dFAug i f od de) := by
  obtain ⟨te, pe, se⟩ := he.ex
  refine ⟨_, ps_fldaug (pe_var hN hv hd hcd) pe ho.1, fun s H r B z Y E D lw S hl h k => ?_⟩
  unfold dFAug at h
  split at h
  · rename_i n cc fs l
    obtain ⟨v0, v1, en⟩ := S.env i _ l
    refine ⟨v0, v1, ?_⟩
    split at h
    · rename_i x0 hx0
      cases e5 : fX cc f with
      | none => rw [e5] at hx0; cases hx0
      | some k1 =>
        rw [e5] at hx0
        simp only [Option.bind_some] at hx0
        cases e7 : fs[k1]? with
        | none => rw [e7] at hx0; cases hx0
        | some g0 =>
          rw [e7] at hx0
          cases g0 with
          | sh d0 =>
            cases hx0
            obtain ⟨ev, o', hp, ⟨C, dx, fl, rfl, c1, c2⟩, hk, _⟩ := en.1
            have hk : OwFs X.K B H fs (fl.map (·.2)) := hk
            have ll : fl.length = fs.length := by simpa using hk.len
            have k1l : k1 < fs.length := (List.getElem?_eq_some_iff.mp e7).1
            obtain ⟨u, w1, w2, _⟩ := ows_get hk e7
            have hu : (fl.map (·.2))[k1]? = some fl[k1].2 := by
              rw [List.getElem?_map, List.getElem?_eq_getElem (by omega)]; rfl
            rw [hu] at w1
            cases w1
            have fm : f ∈ (clsT cc).2 := by
              unfold fX at e5
              obtain ⟨hk1, hk2, _⟩ := List.findIdx?_eq_some_iff_getElem.mp e5
              have : (clsT cc).2[k1] = f := by simpa using hk2
              rw [← this]
              exact List.getElem_mem _
            refine ⟨n, C, dx, fl, _, ev, hp, c1.cl, c1.na f fm, (lookF c2 e5 (by omega)).1, ?_⟩
            refine se s H r B _ Y _ _ lw.ext (S.push w2) h fun v H1 B1 r1 t1 S1 q1 => ?_
            split at q1
            · rename_i y e3
              have vy := S1.view List.mem_cons_self e3
              have vx : View X.K B1 H1 fl[k1].2 x0 := S1.view (List.mem_cons_of_mem _ List.mem_cons_self) rfl
              refine ho.2 B1 s r1 z H1 _ v x0 y _ _ S1.pop.pop vx vy q1 fun w H2 B2 t2 S2 q2 => ?_
              split at q2
              · rename_i d2 n2 c2' fs2 l2
                obtain ⟨rfl, q2⟩ := q2
                split at q2
                · rename_i fs' e9
                  rw [e5] at e9
                  simp only [Option.bind_some] at e9
                  obtain ⟨v0', v1', en2⟩ := S2.env i _ l2
                  rw [v1] at v1'
                  cases v1'
                  have en3 : V.ref n = V.ref n2 := ev ▸ en2.1.1
                  cases en3
                  obtain ⟨C2, dx2, fl2, h1, c3, l10, fm2, S3⟩ := S2.fsetP (p := []) l2 rfl (l := .sh d2) S2.top (fun a => by simp [idsF, fpT]) e5 e9
                  have := cls_same c1 c3
                  subst this
                  exact ⟨dx2, fl2, h1, by omega, k.nx s _ B2 _ S3 q2⟩
                · exact q2.elim
              · exact q2.elim
            · exact q1.elim
          | _ => cases hx0
    · exact h.elim
  · exact h.elim
theorem jin_add : InOp X .Add rAdd ∧ OpS X.K g rAdd oAddI := ⟨in_add, fun B s r z H v w x y Q Qv S h1 h2 q k => by
  unfold oAddI oI0 at q
  split at q
  · cases h1
    cases h2
    exact ⟨_, _, rfl, rfl, k _ H B _ (S.push (.int _)) q⟩
  · exact q.elim⟩
theorem jin_sub : InOp X .Sub rSub ∧ OpS X.K g rSub oSub := ⟨in_sub, fun B s r z H v w x y Q Qv S h1 h2 q k => by
  unfold oSub oI0 at q
  split at q
  · cases h1
    cases h2
    exact ⟨_, _, rfl, rfl, k _ H B _ (S.push (.int _)) q⟩
  · exact q.elim⟩
end
end J

/-! JL24: starred items, all, any. -/
namespace J
open PySem L2
theorem RepAll.blsOf {K : PySem.W.Frag} {B : Hp} : ∀ {vs : List V} {ds : List D} {bs : List Bool}, RepAll K B vs ds → J.blsOf ds = some bs → vs = bs.map V.bl
  | _, _, ns, .nil, h => by
    have e : ns = [] := by simpa [J.blsOf] using h.symm
    subst e
    rfl
  | _, _, ns, .cons h r, e => by
    cases h with
    | bl i =>
      simp only [J.blsOf, Option.map_eq_some_iff] at e
      obtain ⟨ms, e1, rfl⟩ := e
      rw [RepAll.blsOf r e1]
      rfl
    | _ => simp [J.blsOf] at e
section
variable {X : Cx} {g : G} {c : Cl} {W : WX} {L : List Nat} {K : PySem.W.Frag}
theorem jc_all (hc : X.calm = true) : CallR X (.builtin "all") (rAll X.K) ∧ CbS X.K g (rAll X.K) cAll := by
  refine ⟨cr_all hc, fun B s r z H vs ds Q Qv S h q k => ?_⟩
  unfold cAll at q
  split at q
  · split at q
    · rename_i ns e
      cases h with
      | cons h1 h2 =>
        cases h2
        obtain ⟨a, ws, rfl, e1, e2⟩ := h1
        have e3 := e2.blsOf e
        subst e3
        exact ⟨a, ns, rfl, SqL.of e1, k _ H B _ (S.push (.bl _)) q⟩
    · exact q.elim
  · exact q.elim
theorem jc_any (hc : X.calm = true) : CallR X (.builtin "any") (rAny X.K) ∧ CbS X.K g (rAny X.K) cAny := by
  refine ⟨cr_any hc, fun B s r z H vs ds Q Qv S h q k => ?_⟩
  unfold cAny at q
  split at q
  · split at q
    · rename_i ns e
      cases h with
      | cons h1 h2 =>
        cases h2
        obtain ⟨a, ws, rfl, e1, e2⟩ := h1
        have e3 := e2.blsOf e
        subst e3
        exact ⟨a, ns, rfl, SqL.of e1, k _ H B _ (S.push (.bl _)) q⟩
    · exact q.elim
  · exact q.elim
theorem SR.pushAll {B H : Hp} {s : St} {r : Env} : ∀ (vs : List V) (ds : List D) (z : Stk), SR K g B s r z H → RepAll K B vs ds → SR K g B s r (stkL vs (ds.map T.sh) z) H
  | _, _, _, S, .nil => S
  | v :: vs, d :: ds, z, S, .cons h r => SR.pushAll vs ds ((v, .sh d) :: z) (S.push h) r
theorem stkL_app : ∀ (vs : List V) (ts : List T) (vs2 : List V) (ts2 : List T) (z : Stk), vs.length = ts.length → stkL (vs ++ vs2) (ts ++ ts2) z = stkL vs2 ts2 (stkL vs ts z)
  | [], [], _, _, _, _ => rfl
  | [], _ :: _, _, _, _, h => by simp at h
  | _ :: _, [], _, _, _, h => by simp at h
  | v :: vs, t :: ts, vs2, ts2, z, h => stkL_app vs ts vs2 ts2 ((v, t) :: z) (by simpa using h)
theorem LW.extL {Y : XD} : ∀ (vs : List V) (ts : List T) (z : Stk), LW K g c W Y z → LW K g c W Y (stkL vs ts z)
  | [], _, _, h => h
  | _ :: _, [], _, h => h
  | v :: vs, t :: ts, z, h => LW.extL vs ts ((v, t) :: z) h.ext
theorem ja_star {e : Expr} {es : List Expr} {de : DE} {da : DA} {p : Pos} (he : JE X g c W e de) (ha : JA X g c W es da) (hs : starEach (.Starred e p :: es) X.env = (true, eval e X.env) :: starEach es X.env := by rfl) : JA X g c W (.Starred e p :: es) (dStar de da) := by
  obtain ⟨te, pe, se⟩ := he.ex
  obtain ⟨ta, pa, sa⟩ := ha.ex
  refine ⟨_, StX.pa_star pe pa hs, fun s H r B z Y Q Qv lw S h k => ?_⟩
  refine se s H r B z Y _ _ lw S h fun v H1 B1 r1 t1 S1 q1 => ?_
  have go : ∀ (a : Addr) (us : List V) (ds : List D), v = .ref a → (SqT X.K H1 a us ∨ SqL X.K H1 a us) → RepAll X.K B1 us ds → da Y (fun ts r2 => Q (ds.map T.sh ++ ts) r2) r1 → ∃ p xs, v = V.ref p ∧ (SqT X.K H1 p xs ∨ SqL X.K H1 p xs) ∧ ta s H1 fun ys H2 => Qv (xs ++ ys) H2 := by
    intro a us ds ev hq hr q
    refine ⟨a, us, ev, hq, ?_⟩
    have hl : us.length = (ds.map T.sh).length := by simp [hr.len]
    refine sa s H1 r1 B1 _ Y _ _ (lw.extL _ _ _) (SR.pushAll _ _ _ S1.pop hr) q fun vs H2 B2 r2 ts hl2 S2 q2 => ?_
    exact k (us ++ vs) H2 B2 r2 (ds.map T.sh ++ ts) (by simp [hl2, hr.len]) (by rw [stkL_app _ _ _ _ _ hl]; exact S2) q2
  split at q1
  · rename_i ds e
    obtain ⟨d, e1, e2⟩ := Option.bind_eq_some_iff.mp e
    have vw := S1.view List.mem_cons_self e1
    cases d <;> try (cases e2; done)
    · cases e2
      obtain ⟨a, us, ev, e3, e4⟩ := vw
      exact go a us _ ev (.inr (SqL.of e3)) e4 q1
    · cases e2
      have vw : Rep X.K B1 v (.tup ds) := vw
      cases vw with
      | tup h1 h2 => exact go _ _ _ rfl (.inl (same_t S1.bh h1)) h2 q1
  · exact q1.elim
theorem pys_get : ∀ (ds : List D) (i : Nat), (pys ds)[i]? = (ds[i]?).map py
  | [], _ => by simp [pys]
  | d :: ds, 0 => by simp [pys]
  | d :: ds, i + 1 => by simpa [pys] using pys_get ds i
theorem lays_mem : ∀ {ds : List D}, lays ds = true → ∀ d ∈ ds, lay d = true
  | [], _, _, h => by cases h
  | x :: xs, h, d, hd => by
    rw [lays, Bool.and_eq_true] at h
    rcases List.mem_cons.mp hd with e | hd
    · rw [e]; exact h.1
    · exact lays_mem h.2 d hd
theorem any_py {y : D} (hy : lay y = true) : ∀ ds : List D, lays ds = true → ((pys ds).any fun z => PyData.eqv z (py y)) = ds.any fun z => eqD z y
  | [], _ => rfl
  | x :: xs, h => by
    rw [lays, Bool.and_eq_true] at h
    rw [pys, List.any_cons, List.any_cons, any_py hy xs h.2, eqv_py x y h.1 hy]
theorem jo_inD {k : Nat} (hr : Room k X.A) : OpR X (compareOp .In) (rInD X.K) ∧ OpS X.K g (rInD X.K) (oInD false) := by
  refine ⟨op_inD (by have := hr.un; omega), fun B s r z H v w x y Q Qv S h1 h2 q k => ?_⟩
  unfold oInD at q
  split at q
  · rename_i ys
    obtain ⟨⟨k1, k2⟩, q⟩ := q
    refine ⟨py x, pys ys, dp_view S.bh h1 k1.1, dp_view S.bh h2 k2.1, shaped_of k1, shaped_of k2, ?_⟩
    rw [any_py k1.1 ys k2.1]
    exact k _ H B _ (S.push (.bl _)) q
  · exact q.elim
theorem jo_niD {k : Nat} (hr : Room k X.A) : OpR X (compareOp .NotIn) (rNotInD X.K) ∧ OpS X.K g (rNotInD X.K) (oInD true) := by
  refine ⟨op_notInD (by have := hr.un; omega), fun B s r z H v w x y Q Qv S h1 h2 q k => ?_⟩
  unfold oInD at q
  split at q
  · rename_i ys
    obtain ⟨⟨k1, k2⟩, q⟩ := q
    refine ⟨py x, pys ys, dp_view S.bh h1 k1.1, dp_view S.bh h2 k2.1, shaped_of k1, shaped_of k2, ?_⟩
    rw [any_py k1.1 ys k2.1]
    exact k _ H B _ (S.push (.bl _)) q
  · exact q.elim
theorem j_indexD {k : Nat} (hr : Room k X.A) {o e : Expr} {do_ de : DE} {apos pos : Pos} (ho : JE X g c W o do_) (he : JE X g c W e de)
    (hs1 : starEach [e] X.env = (false, eval e X.env) :: starEach [] X.env := by rfl)
    (hbase : attributeBase o "index" X.env (eval o X.env) = eval o X.env := by rfl)
    (hfew : ((backTo pos (starEach [e] X.env)).all (fun x => !x.1) && (backToKw pos (keywordEach [] X.env)).all (fun x => x.1.isSome) && decide (([e] : List Expr).length + ([] : List Keyword).length + (if ([] : List Keyword).isEmpty then 0 else 1) < 30)) = true := by rfl)
    (hline : (apos.endLine == pos.line) = true := by rfl) (hplain : (backTo pos (starEach [] X.env)).any (·.1) = false := by rfl) :
    JE X g c W (.Call (.Attribute o "index" apos) [e] [] pos) (dMl mIndexD do_ de) := by
  obtain ⟨to, po, so⟩ := ho.ex
  obtain ⟨te, pe, se⟩ := he.ex
  refine ⟨_, pe_bm PySem.F.plainAttrs_list PySem.F.slot_list_index PySem.F.type_list_index (mt_indexD (by have := hr.un; omega)) po (pa_cons pe pa_nil hs1) hbase hfew hline hs1 hplain, es_ml so se ?_⟩
  intro B s r z H v w x y Q Qv S h1 h2 q k
  unfold mIndexD at q
  split at q
  · rename_i ds
    obtain ⟨⟨k1, k2⟩, q⟩ := q
    split at q
    · rename_i j e
      rw [List.findIdx?_eq_some_iff_getElem] at e
      obtain ⟨hj, e1, e2⟩ := e
      have ly : ∀ (m : Nat) (hm : m < ds.length), lay ds[m] = true := fun m hm => lays_mem k2.1 _ (List.getElem_mem hm)
      have dl := dp_view S.bh h1 k2.1
      obtain ⟨a, vs, rfl, g1, g2⟩ := id h1
      refine ⟨a, w, py y, pys ds, j, py ds[j], rfl, rfl, dl, dp_view S.bh h2 k1.1, shaped_of k2, shaped_of k1, by rw [pys_get, List.getElem?_eq_getElem hj]; rfl, by rw [eqv_py _ _ (ly j hj) k1.1]; exact e1, fun m z hm hz => ?_, k _ H B _ (S.push (.int _)) q⟩
      rw [pys_get, List.getElem?_eq_getElem (show m < ds.length by omega)] at hz
      cases hz
      rw [eqv_py _ _ (ly m (by omega)) k1.1]
      simpa using e2 m hm
    · exact q.elim
  · exact q.elim
def rGtL (K : PySem.W.Frag) : R2 := fun x y H Q => ∃ a b ns ms, x = .ref a ∧ y = .ref b ∧ SqL K H a (ns.map V.int) ∧ SqL K H b (ms.map V.int) ∧ Q (.bl (lexB ms ns)) H
theorem op_gtL (hu : X.A.units < cLine) : OpR X (compareOp .Gt) (rGtL X.K) := by
  intro pins s σ H x y v u Q I rx ry h
  obtain ⟨a, b, ns, ms, rfl, rfl, ha, hb, q⟩ := h
  cases rx
  cases ry
  obtain ⟨its, r1, p1, _⟩ := I.list ha
  obtain ⟨jts, r2, p2, _⟩ := I.list hb
  have l1 := r1.length
  have l2 := r2.length
  rw [List.length_map] at l1 l2
  have at1 : ∀ {ks : List Int} {us : List Value}, Vals (ks.map V.int) us → ∀ (j : Nat) (hj : j < us.toArray.size), ∃ t, us.toArray[j] = .int (ks.getD j 0) t := fun {ks us} r j hj => by
    have hj' : j < us.length := by simpa using hj
    have hk : j < ks.length := by have := r.length; rw [List.length_map] at this; omega
    obtain ⟨w, e1, t, e2⟩ := r.get (i := j) (x := .int ks[j]) (by simp [List.getElem?_eq_getElem hk])
    refine ⟨t, ?_⟩
    rw [List.getElem?_eq_getElem hj'] at e1
    have e3 := Option.some.inj e1
    simp only [List.getElem_toArray, e3, e2, List.getD_eq_getElem?_getD, List.getElem?_eq_getElem hk, Option.getD_some]
  have main := SeqAt.RcOp.lists_gt (A := X.A) (e := fun j => decide (ms.getD j 0 = ns.getD j 0)) (r := fun j => decide (ms.getD j 0 < ns.getD j 0)) p1.isList p2.isList hu (fun j h1 h2 => ?_) (fun j h1 h2 _ => ?_)
  · have e : lexB ms ns = SeqAt.firstLt (fun j => decide (ms.getD j 0 = ns.getD j 0)) (fun j => decide (ms.getD j 0 < ns.getD j 0)) (decide (its.toArray.size > jts.toArray.size)) (List.range (min its.toArray.size jts.toArray.size)) := by
      rw [List.size_toArray, List.size_toArray, ← l1, ← l2, Nat.min_comm]
      rfl
    rw [e] at q
    exact main _ _ _ _ ⟨.bl _, H, I, rfl, q⟩
  · obtain ⟨t, e1⟩ := at1 r1 j h1
    obtain ⟨t', e2⟩ := at1 r2 j h2
    rw [e1, e2]
    have z : decide (ms.getD j 0 = ns.getD j 0) = (ns.getD j 0 == ms.getD j 0) := by rw [Bool.eq_iff_iff]; simp only [decide_eq_true_eq, beq_iff_eq]; exact eq_comm
    show SeqAt.EqAt _ _ _ _ (decide (ms.getD j 0 = ns.getD j 0))
    rw [z]
    exact SeqAt.EqAt.int_int _ _ _ _
  · obtain ⟨t, e1⟩ := at1 r1 j h1
    obtain ⟨t', e2⟩ := at1 r2 j h2
    rw [e1, e2]
    exact fun prog w E Q h => PyProof.Rows.gt_int h
abbrev rGtA (K : PySem.W.Frag) : R2 := fun x y H Q => (rI0 fun i j => .bl (decide (j < i))) x y H Q ∨ rGtL K x y H Q
theorem jo_gtA {k : Nat} (hr : Room k X.A) : OpR X (compareOp .Gt) (rGtA X.K) ∧ OpS X.K g (rGtA X.K) oGtA := by
  have hu := hr.units
  refine ⟨opR_or op_gt (op_gtL (by omega)), fun B s r z H v w x y Q Qv S h1 h2 q k => ?_⟩
  unfold oGtA at q
  split at q
  · cases h1
    cases h2
    exact Or.inl ⟨_, _, rfl, rfl, k _ H B _ (S.push (.bl _)) q⟩
  · split at q
    · rename_i ns ms e1 e2
      obtain ⟨a, vs, rfl, a1, a2⟩ := h1
      obtain ⟨b, ws, rfl, b1, b2⟩ := h2
      have f1 := a2.intsOf e1
      have f2 := b2.intsOf e2
      subst f1 f2
      refine Or.inr ⟨a, b, ns, ms, rfl, rfl, SqL.of a1, SqL.of b1, ?_⟩
      rw [lexB_ltI]
      exact k _ H B _ (S.push (.bl _)) q
    · exact q.elim
  · exact q.elim
theorem jo_isB : OpR X (compareOp .Is) rIsB ∧ OpS X.K g rIsB (oIsB false) := by
  refine ⟨op_isBl, fun B s r z H v w x y Q Qv S h1 h2 q k => ?_⟩
  unfold oIsB at q
  split at q
  · cases h1
    cases h2
    exact ⟨_, _, rfl, rfl, k _ H B _ (S.push (.bl _)) q⟩
  · exact q.elim
theorem jo_niB : OpR X (compareOp .IsNot) rNotB ∧ OpS X.K g rNotB (oIsB true) := by
  refine ⟨op_notBl, fun B s r z H v w x y Q Qv S h1 h2 q k => ?_⟩
  unfold oIsB at q
  split at q
  · cases h1
    cases h2
    exact ⟨_, _, rfl, rfl, k _ H B _ (S.push (.bl _)) q⟩
  · exact q.elim
end
end J

/-! JL25: methods of texts, str(i), int(text). -/
namespace J
open PySem L2
theorem spl_one (c : Nat) : ∀ (a acc : List Nat), TL.spl [c] 0 acc a = (match splitD c a with | p :: ps => (acc ++ p) :: ps | [] => [])
  | [], acc => by simp [TL.spl, splitD]
  | x :: xs, acc => by
    by_cases h : x = c
    · subst h
      have ih := spl_one x xs []
      rw [TL.spl_hit (by simp [TL.pre])]
      show acc :: TL.spl [x] 0 [] xs = _
      have es : splitD x (x :: xs) = [] :: splitD x xs := by
        show (if x = x then _ else _) = _
        rw [if_pos rfl]
      rw [ih, es]
      cases e : splitD x xs with
      | nil => exact absurd e (splitD_ne x xs)
      | cons p ps => simp
    · have ih := spl_one c xs (acc ++ [x])
      have es : splitD c (x :: xs) = (match splitD c xs with | p :: ps => (x :: p) :: ps | [] => [[x]]) := by
        rw [splitD, if_neg h]
        all_goals (cases splitD c xs <;> rfl)
      rw [TL.spl_miss (by simp [TL.pre, h]), ih, es]
      cases e : splitD c xs with
      | nil => exact absurd e (splitD_ne c xs)
      | cons p ps => simp
theorem split_codes (a : List Nat) {c : Nat} (hc : c < 256) : Txt.split (codes a) (codes [c]) = (splitD c a).map codes := by
  have h := SX.split_S (a := a) (b := [c]) (by simp) (by simp [hc])
  have e := spl_one c a []
  have e2 : TL.spl [c] 0 [] a = splitD c a := by
    rw [e]
    cases q : splitD c a with
    | nil => rfl
    | cons p ps => simp
  rw [e2] at h
  exact h
theorem joinD_eq (s : List Nat) : ∀ ys : List (List Nat), TL.joinL s ys = joinD s ys
  | [] => rfl
  | [x] => rfl
  | x :: y :: r => by
    have ih := joinD_eq s (y :: r)
    show x ++ (s ++ TL.joinL s (y :: r)) = x ++ (s ++ joinD s (y :: r))
    rw [ih]
theorem join_codes (a : List Nat) (ys : List (List Nat)) : Txt.join (codes a) (ys.map codes) = codes (joinD a ys) := by
  rw [← joinD_eq]
  exact SX.join_S a ys
theorem par_one (c : Nat) : ∀ (a acc : List Nat), TL.par [c] acc a = if c ∈ a then some (acc ++ a.takeWhile (· != c), (a.dropWhile (· != c)).drop 1) else none
  | [], acc => by simp [TL.par]
  | x :: xs, acc => by
    by_cases h : x = c
    · subst h
      rw [TL.par_hit (by simp [TL.pre])]
      simp
    · have ih := par_one c xs (acc ++ [x])
      rw [TL.par_miss (by simp [TL.pre, h]), ih]
      have h' : ¬ c = x := fun e => h e.symm
      by_cases q : c ∈ xs
      · rw [if_pos q, if_pos (List.mem_cons_of_mem _ q)]
        simp [h]
      · rw [if_neg q, if_neg (by simp [h', q])]
theorem part_codes (a : List Nat) (c : Nat) : Txt.partition (codes a) (codes [c]) = (codes (partD c a).1, codes (partD c a).2.1, codes (partD c a).2.2) := by
  have e := par_one c a []
  unfold partD
  by_cases h : c ∈ a
  · rw [if_pos h] at e
    rw [if_pos h]
    exact SX.partition_some (by simp) e
  · rw [if_neg h] at e
    rw [if_neg h]
    exact SX.partition_none (by simp) e
theorem starts_codes (a b : List Nat) : Txt.startswith (codes a) (codes b) = decide (a.take b.length = b) := by
  have la : (codes a).length = a.length := by simp [codes, Str.length]
  have lb : (codes b).length = b.length := by simp [codes, Str.length]
  unfold Txt.startswith
  rw [StrLaws.subAt_eq, la, lb]
  show (decide (0 + b.length ≤ a.length) && ((a.drop 0).take b.length == b)) = _
  rw [Bool.eq_iff_iff]
  simp only [List.drop_zero, Bool.and_eq_true, decide_eq_true_eq, beq_iff_eq]
  refine ⟨fun h => h.2, fun h => ⟨?_, h⟩⟩
  have := congrArg List.length h
  rw [List.length_take] at this
  omega
theorem find_codes (a : List Nat) (c : Nat) : Txt.find (codes a) (codes [c]) = if c ∈ a then (a.idxOf c : Int) else -1 := by
  have at1 : ∀ i, StrLaws.At (codes a) (codes [c]) (codes a).length i ↔ a[i]? = some c := fun i => by
    rw [TL.at_iff (by simp [codes]) i]
    show ((a.drop i).take 1 == [c]) = true ↔ _
    rw [beq_iff_eq]
    cases e : a[i]? with
    | none =>
      have : a.drop i = [] := List.drop_of_length_le (List.getElem?_eq_none_iff.mp e)
      simp [this]
    | some d =>
      obtain ⟨h, rfl⟩ := List.getElem?_eq_some_iff.mp e
      rw [List.drop_eq_getElem_cons h, List.take_succ_cons, List.take_zero]
      simp only [List.cons.injEq, and_true, Option.some.injEq]
  rcases PyProof.Rows.find_whole (codes a) (codes [c]) with ⟨h1, h2⟩ | ⟨i, h1, h2, h3⟩
  · rw [h1, if_neg]
    intro hm
    obtain ⟨i, hi⟩ := List.mem_iff_getElem?.mp hm
    exact h2 i ((at1 i).mpr hi)
  · have hi := (at1 i).mp h2
    have hm := List.mem_of_getElem? hi
    rw [h1, if_pos hm]
    have lt := List.idxOf_lt_length_of_mem hm
    have g : a[a.idxOf c]? = some c := by rw [List.getElem?_eq_getElem lt, List.getElem_idxOf]
    obtain ⟨li, gi⟩ := List.getElem?_eq_some_iff.mp hi
    have le1 : ¬ a.idxOf c < i := fun q => h3 _ q ((at1 _).mpr g)
    have le2 : ¬ i < a.idxOf c := fun q => by
      have := List.not_of_lt_findIdx (p := (· == c)) (xs := a) (i := i) q
      simp [gi] at this
    congr 1
    omega
theorem RepAll.strs {K : PySem.W.Frag} {B : Hp} : ∀ ss : List (List Nat), RepAll K B ((ss.map codes).map V.str) (ss.map D.str)
  | [] => .nil
  | s :: ss => .cons (.str s) (RepAll.strs ss)
theorem RepAll.strsOf {K : PySem.W.Frag} {B : Hp} : ∀ {vs : List V} {ds : List D} {ss : List (List Nat)}, RepAll K B vs ds → J.strsOf ds = some ss → vs = (ss.map codes).map V.str
  | _, _, ns, .nil, h => by
    have e : ns = [] := by simpa [J.strsOf] using h.symm
    subst e
    rfl
  | _, _, ns, .cons h r, e => by
    cases h with
    | str i =>
      simp only [J.strsOf, Option.map_eq_some_iff] at e
      obtain ⟨ms, e1, rfl⟩ := e
      rw [RepAll.strsOf r e1]
      rfl
    | _ => simp [J.strsOf] at e
section
variable {X : Cx} {g : G} {c : Cl} {W : WX} {L : List Nat} {K : PySem.W.Frag}
theorem es_ms {r0 : V → List V → Hp → VK → Prop} {m : R2D} {to te : TE} {da db : DE} (h1 : ES K g c W to da) (h2 : ES K g c W te db) (hm : OpS K g (fun x y H Q => r0 x [y] H Q) m) : ES K g c W (tM1 r0 to te) (dMs m da db) := fun s H r B z Y Q Qv lw S h k => by
  refine h1 s H r B z Y _ _ lw S h fun v H1 B1 r1 t1 S1 q1 => ?_
  obtain ⟨⟨ds, e0⟩, q1⟩ := q1
  have v0 := S1.view List.mem_cons_self e0
  refine ⟨by cases v0; exact ⟨_, rfl⟩, ?_⟩
  refine h2 s H1 r1 B1 _ Y _ _ lw.ext S1 q1 fun w H2 B2 r2 t2 S2 q2 => ?_
  split at q2
  · rename_i x y e1 e2
    have vx := S2.view (List.mem_cons_of_mem _ List.mem_cons_self) e1
    have vy := S2.view List.mem_cons_self e2
    exact hm B2 s r2 z H2 _ _ _ _ _ _ S2.pop.pop vx vy q2 fun w' H' B' t' S' q' => k w' H' B' r2 t' S' q'
  · exact q2.elim
theorem j_split {o e : Expr} {do_ de : DE} {apos pos : Pos} (ho : JE X g c W o do_) (he : JE X g c W e de) (hs : starEach [e] X.env = [(false, eval e X.env)] := by rfl) (hbase : attributeBase o "split" X.env (eval o X.env) = eval o X.env := by rfl) (hline : (apos.endLine == pos.line) = true := by rfl) :
    JE X g c W (.Call (.Attribute o "split" apos) [e] [] pos) (dMs mSplit do_ de) := by
  obtain ⟨to, po, so⟩ := ho.ex
  obtain ⟨te, pe, se⟩ := he.ex
  refine ⟨_, pe_split po pe hs hbase hline, es_ms so se fun B s r z H v w x y Q Qv S h1 h2 q k => ?_⟩
  unfold mSplit at q
  split at q
  · rename_i a cc
    cases h1
    cases h2
    refine ⟨codes a, codes [cc], rfl, rfl, by simp [codes, Str.length], by rw [← size_is]; simpa [codes, Str.length] using q.1.2, fun p hp => ?_⟩
    rw [split_codes a q.1.1]
    exact k _ _ B _ (S.own hp (RepAll.strs _)) q.2
  · exact q.elim
theorem j_join {o e : Expr} {do_ de : DE} {apos pos : Pos} (ho : JE X g c W o do_) (he : JE X g c W e de) (hs : starEach [e] X.env = [(false, eval e X.env)] := by rfl) (hbase : attributeBase o "join" X.env (eval o X.env) = eval o X.env := by rfl) (hline : (apos.endLine == pos.line) = true := by rfl) :
    JE X g c W (.Call (.Attribute o "join" apos) [e] [] pos) (dMs mJoin do_ de) := by
  obtain ⟨to, po, so⟩ := ho.ex
  obtain ⟨te, pe, se⟩ := he.ex
  refine ⟨_, pe_join po pe hs hbase hline, es_ms so se fun B s r z H v w x y Q Qv S h1 h2 q k => ?_⟩
  unfold mJoin at q
  split at q
  · rename_i a xs
    split at q
    · rename_i ys e1
      cases h1
      obtain ⟨p, vs, rfl, g1, g2⟩ := h2
      have f := g2.strsOf e1
      subst f
      have e3 : (ys.map codes).map (·.length) = ys.map List.length := by
        rw [List.map_map]
        refine List.map_congr_left fun y _ => ?_
        simp [codes, Str.length]
      refine ⟨codes a, p, ys.map codes, rfl, rfl, .inl (SqL.of g1), ?_, ?_⟩
      · rw [e3, List.length_map]
        simpa [codes, Str.length] using q.1
      · rw [join_codes]
        exact k _ H B _ (S.push (.str _)) q.2
    · exact q.elim
  · exact q.elim
theorem j_part {o e : Expr} {do_ de : DE} {apos pos : Pos} (ho : JE X g c W o do_) (he : JE X g c W e de) (hs : starEach [e] X.env = [(false, eval e X.env)] := by rfl) (hbase : attributeBase o "partition" X.env (eval o X.env) = eval o X.env := by rfl) (hline : (apos.endLine == pos.line) = true := by rfl) :
    JE X g c W (.Call (.Attribute o "partition" apos) [e] [] pos) (dMs mPart do_ de) := by
  obtain ⟨to, po, so⟩ := ho.ex
  obtain ⟨te, pe, se⟩ := he.ex
  refine ⟨_, pe_partition po pe hs hbase hline, es_ms so se fun B s r z H v w x y Q Qv S h1 h2 q k => ?_⟩
  unfold mPart at q
  split at q
  · rename_i a cc
    cases h1
    cases h2
    refine ⟨codes a, codes [cc], rfl, rfl, by simp [codes, Str.length], by rw [← size_is]; simpa [codes, Str.length] using q.1, fun p hp => ?_⟩
    rw [part_codes]
    have S2 := S.alloc (o := .tup [.str (codes (partD cc a).1), .str (codes (partD cc a).2.1), .str (codes (partD cc a).2.2)]) hp
    exact k _ _ _ _ (S2.push (.tup (SqT.of upd_same) (.cons (.str _) (.cons (.str _) (.cons (.str _) .nil))))) q.2
  · exact q.elim
theorem j_starts {o e : Expr} {do_ de : DE} {apos pos : Pos} (ho : JE X g c W o do_) (he : JE X g c W e de) (hs : starEach [e] X.env = [(false, eval e X.env)] := by rfl) (hbase : attributeBase o "startswith" X.env (eval o X.env) = eval o X.env := by rfl) (hline : (apos.endLine == pos.line) = true := by rfl) :
    JE X g c W (.Call (.Attribute o "startswith" apos) [e] [] pos) (dMs mStarts do_ de) := by
  obtain ⟨to, po, so⟩ := ho.ex
  obtain ⟨te, pe, se⟩ := he.ex
  refine ⟨_, pe_m1 F.slot_str_startswith F.type_str_startswith mt_startswith po pe hs hbase hline, es_ms so se fun B s r z H v w x y Q Qv S h1 h2 q k => ?_⟩
  unfold mStarts at q
  split at q
  · rename_i a b
    cases h1
    cases h2
    refine ⟨codes a, codes b, rfl, rfl, ?_⟩
    rw [starts_codes]
    exact k _ H B _ (S.push (.bl _)) q
  · exact q.elim
theorem j_find {o e : Expr} {do_ de : DE} {apos pos : Pos} (ho : JE X g c W o do_) (he : JE X g c W e de) (hs : starEach [e] X.env = [(false, eval e X.env)] := by rfl) (hbase : attributeBase o "find" X.env (eval o X.env) = eval o X.env := by rfl) (hline : (apos.endLine == pos.line) = true := by rfl) :
    JE X g c W (.Call (.Attribute o "find" apos) [e] [] pos) (dMs mFind do_ de) := by
  obtain ⟨to, po, so⟩ := ho.ex
  obtain ⟨te, pe, se⟩ := he.ex
  refine ⟨_, pe_m1 F.slot_str_find F.type_str_find mt_find po pe hs hbase hline, es_ms so se fun B s r z H v w x y Q Qv S h1 h2 q k => ?_⟩
  unfold mFind at q
  split at q
  · rename_i a b
    cases h1
    cases h2
    refine ⟨codes a, codes [b], rfl, rfl, ?_⟩
    rw [find_codes]
    exact k _ H B _ (S.push (.int _)) q
  · exact q.elim
theorem jc_strI : CallR X (.type "str") (fun xs H Q => ∃ i, xs = [.int i] ∧ i.natAbs.log2 < 1920 ∧ Q (.str (toString i)) H) ∧ CbS X.K g (fun xs H Q => ∃ i, xs = [.int i] ∧ i.natAbs.log2 < 1920 ∧ Q (.str (toString i)) H) cStrI := by
  refine ⟨call_str_int, fun B s r z H vs ds Q Qv S h q k => ?_⟩
  unfold cStrI at q
  split at q
  · rename_i i
    cases h with
    | cons h1 h2 =>
      cases h2
      cases h1
      obtain ⟨n, rfl⟩ : ∃ n : Nat, i = (n : Int) := ⟨i.toNat, by omega⟩
      refine ⟨(n : Int), rfl, ?_, ?_⟩
      · have e : ((n : Int)).natAbs = n := rfl
        rw [e]
        by_cases z : n = 0
        · subst z
          decide
        · have := (Nat.log2_lt (k := 40) z).mpr (by omega)
          omega
      · have e := SX.num_S n
        have e2 : (Str.ofString (toString ((n : Nat) : Int))) = codes (showN n) := e
        rw [e2]
        exact k _ H B _ (S.push (.str _)) q.2
  · exact q.elim
theorem jc_intS : CallR X (.type "int") (fun xs H Q => ∃ a n, xs = [.str a] ∧ PySem.intText? a = some n ∧ a.length ≤ 640 ∧ Q (.int n) H) ∧ CbS X.K g (fun xs H Q => ∃ a n, xs = [.str a] ∧ PySem.intText? a = some n ∧ a.length ≤ 640 ∧ Q (.int n) H) cIntS := by
  refine ⟨call_int_str, fun B s r z H vs ds Q Qv S h q k => ?_⟩
  unfold cIntS at q
  split at q
  · rename_i a
    cases h with
    | cons h1 h2 =>
      cases h2
      cases h1
      obtain ⟨⟨q1, q2, q3⟩, q⟩ := q
      exact ⟨codes a, _, rfl, SX.int_S q1 q2 (by omega), by simpa [codes, Str.length] using q3, k _ H B _ (S.push (.int _)) q⟩
  · exact q.elim
theorem j_call0 {Sf : Spec} {k : Nat} {f : Addr} {fd : FuncData} {x : Str} {p pos : Pos} (F : FnOk X.prog X.w X.K X.mg X.base (L2.CX X.prog X.w) k f fd [] (SpJ X.K c [] Sf)) (hr : Room k X.A) (hg : Gl X x) (hm : X.mg x = some (.ref f))
    (hk : PySem.W.keepIn X.K (.ref f) = true) (hb : Binds X.K fd [] []) (tk : Takes X W) (hdb : (x == ("__debug__" : Str)) = false := by decide) : JE X g c W (.Call (.Name x p) [] [] pos) (dCall0 Sf) := by
  have pe : ∀ (E : St → XK), (∀ σ, PassesAt (L2.CX X.prog X.w) X σ (E σ)) → PE X (.Call (.Name x p) [] [] pos) (tCallS (SpJ X.K c [] Sf) E tNil) := fun E hx => by
    refine ⟨fun pins s σ H Q I h => ?_⟩
    refine wpAny_Call_Name_kw (ld_glob I hg hm ?_ hdb)
    exact PySem.W.callWith_K0 I.kIn hk (run_fnS (us := []) F hr hb (hx σ) I .nil h)
  refine ⟨_, pe _ (fun σ => passAt tk σ), fun s H r B z Y Q Qv lw S h kq => ?_⟩
  exact ⟨B, [], S.bh, .nil, _, _, h, fun e ye cls d H2 BE oE er => lw cls d H2 s r BE z e (List.suffix_refl _) (S.grow oE.hb oE.hh oE.hs oE.hn) er ye, fun t qt v H2 B2 o rr => kq v H2 B2 r t (S.got o rr) qt⟩
end
end J

/-! JL26: errors with a field: made, raised, their field read. -/
namespace J
open PySem L2
/-- what the written part says of the class of errors at C, whose __init__ stands at fI, its field f -/
structure XCls (K : PySem.W.Frag) (C fI : Addr) (f : Str) : Prop where
  ox : OexC K C
  iC : PySem.W.findIn K (.ref C) "__init__" = some (some (.ref fI))
  tI : PySem.W.typeIn K (.ref fI) = some (.type "function")
  no : PySem.W.findIn K (.ref C) f = some none
/-- an own class of errors without an __init__ of its own, whose name stands in the text -/
structure YCls (K : PySem.W.Frag) (C : Addr) : Prop where
  ga : PySem.W.specialIn K (.ref C) "__getattribute__" = some (some (.builtin "type.__getattribute__"))
  rd : PySem.W.readsIn K C (.type "type") = true
  fc : PySem.W.findCls K (.ref C) (.type "type") "__init__" = some (.val (.builtin "ValueError.__init__"))
section
variable {X : Cx} {e : Expr} {es : List Expr} {ta : TA} {x0 : Str} {C0 : Addr} {p1 p2 pos : Pos}
/-- C0.__init__(self, ..) -/
theorem pe_yinit {pl : Sem Bool} (hg : Gl X x0) (hm : X.mg x0 = some (.ref C0)) (Y : YCls X.K C0) (ha : PA X (e :: es) ta)
    (hc : eval (.Call (.Attribute (.Name x0 p1) "__init__" p2) (e :: es) [] pos) X.env = (do
      let ov ← eval (.Name x0 p1) X.env
      standAt p2.atName
      let (f, first) ← holding [ov] (getMethod ov "__init__" pl)
      callWith pos f first (backTo pos (starEach (e :: es) X.env)) (backToKw pos (keywordEach [] X.env))) := by rfl)
    (hdb : (x0 == ("__debug__" : Str)) = false := by decide)
    (he : starEach (e :: es) X.env = (false, eval e X.env) :: starEach es X.env := by rfl) (hpl : (backTo pos (starEach es X.env)).any (·.1) = false := by rfl) :
    PE X (.Call (.Attribute (.Name x0 p1) "__init__" p2) (e :: es) [] pos) (tVeI X.K ta) := by
  refine ⟨fun pins s σ H Q I h => ?_⟩
  refine PySem.W.methodCall_KW (ld_glob I hg hm ?_ hdb) hc
  refine PySem.W.method_cls I.kIn Y.ga (PySem.W.cls_value I.kIn Y.rd Y.fc (by decide +kernel) ?_)
  show wpAny _ _ (callWith pos (Value.builtin "ValueError.__init__") [] (backTo pos (starEach (e :: es) X.env)) []) _ _ _
  refine PyProof.Rows.callWith_method1 (thn (ha.run pos pins _ σ H _ (I.tok _) h) fun us s1 ⟨vs, H1, I1, r1, a, C, ws, ev, hl, T, ea, q⟩ => ?_) he hpl
  subst ev
  cases r1 with
  | @cons _ u0 _ ur ra rw' =>
    obtain rfl : u0 = Value.ref a := ra
    have hlen : ur.length ≤ sizeLine := by
      rw [← Paired.length rw', sizeLine_eq]
      omega
    exact oinit_ok T I1 ea hlen fun s' J => ⟨.non, H1, J, rfl, q⟩
end
/-- what an error's __init__ does -/
def SpI (K : PySem.W.Frag) (C : Addr) (f : Str) : Sp := fun vs H Q _ => ∃ (a : Addr) (y : V), vs = [.ref a, y] ∧ OexC K C ∧ PySem.W.findIn K (.ref C) f = some none ∧ H a = some (exo a C none) ∧
  ∀ dx, H dx = none → dx ≠ a → Q .non (upd (upd H dx (exd dx [(f, y)])) a (exo a C (some dx)))
theorem fnI {K : PySem.W.Frag} {P : Program} {w : World} {mg : Str → Option Value} {base : Heap} {qual : Str} {st : Stmt} {C C0 fI : Addr} {fd : FuncData} {f y x0 t0 : Str} {p1 p2 p3 p4 p5 p6 p7 p8 p9 p10 : Pos} {j0 : Nat} (F : Fun K "__init__" qual st fI fd)
    (Sc : FnScope ["self", y] ["self", y] (defScope st)) (hb : defBody st = [.Expr (.Call (.Attribute (.Name x0 p1) "__init__" p2) [.Name "self" p3, .Constant (.str t0) j0 p4] [] p5) p6, .Assign [.Attribute (.Name "self" p7) f p8] (.Name y p9) p10])
    (Y : YCls K C0) (hg : ∀ (cdv : Value) (A : Around) (outer : List PySem.Env) (s : Shared) (H : Hp) (E : XK), Gl (cxOf (L2.CX P w) P w K mg base ["self", y] qual (defScope st) fI cdv A outer s H E) x0) (hm : mg x0 = some (.ref C0)) (hdb : (x0 == ("__debug__" : Str)) = false) (hy : (y == ("__debug__" : Str)) = false) (hy2 : (y == ("__classdict__" : Str)) = false)
    (hc : ∀ (cdv : Value) (A : Around) (outer : List PySem.Env) (s : Shared) (H : Hp) (E : XK), ∃ pl : Sem Bool, eval (.Call (.Attribute (.Name x0 p1) "__init__" p2) [.Name "self" p3, .Constant (.str t0) j0 p4] [] p5) (cxOf (L2.CX P w) P w K mg base ["self", y] qual (defScope st) fI cdv A outer s H E).env = (do
      let ov ← eval (.Name x0 p1) (cxOf (L2.CX P w) P w K mg base ["self", y] qual (defScope st) fI cdv A outer s H E).env
      standAt p2.atName
      let (f, first) ← holding [ov] (getMethod ov "__init__" pl)
      callWith p5 f first (backTo p5 (starEach [.Name "self" p3, .Constant (.str t0) j0 p4] (cxOf (L2.CX P w) P w K mg base ["self", y] qual (defScope st) fI cdv A outer s H E).env)) (backToKw p5 (keywordEach [] (cxOf (L2.CX P w) P w K mg base ["self", y] qual (defScope st) fI cdv A outer s H E).env))))
    (hv1 : Vis (defScope st) "self") (hv2 : Vis (defScope st) y) : FnOk P w K mg base (L2.CX P w) 1 fI fd ["self", y] (SpI K C f) := by
  refine F.okX Sc (fun vs H Q E h => ?_) (fun cdv A outer s H vs Q E hr h => ?_)
  · obtain ⟨a, y', rfl, _⟩ := h
    rfl
  · obtain ⟨a, y', rfl, T, no, ha, h⟩ := h
    rw [hb]
    obtain ⟨pl, hc⟩ := hc cdv A outer s H E
    refine ⟨_, pss_cons (ps_expr (pe_yinit (hg cdv A outer s H E) hm Y (pa_cons (pe_var (i := 0) rfl hv1 (by decide) (by decide)) (pa_cons pe_str pa_nil)) hc (hdb := hdb))) (pss_cons (ps_ost (pe_var (i := 0) rfl hv1 (by decide) (by decide)) (pe_var (i := 1) rfl hv2 hy hy2)) pss_nil), ?_⟩
    refine ⟨.ref a, rfl, ⟨a, C, _, rfl, by simp, T, ha, ?_⟩⟩
    refine ⟨y', rfl, .ref a, rfl, a, C, rfl, T, no, Or.inl ⟨ha, fun dx h1 h2 => h dx h1 h2⟩⟩
section
variable {X : Cx} {g : G} {c : Cl} {W : WX} {L : List Nat}
theorem del_upd {H : Hp} {a d : Addr} {o1 o2 o3 o : HO} (ha : H a = none) (hd : d ≠ a) : upd (del (upd (upd (upd H a o1) d o2) a o3) a) d o = upd H d o := by
  funext b
  by_cases e : b = d
  · subst e
    rw [upd_same, upd_same]
  · rw [upd_ne e, upd_ne e]
    by_cases q : b = a
    · subst q
      rw [del_same, ha]
    · rw [del_ne q, upd_ne q, upd_ne e, upd_ne q]
/-- raise C(e), C with one field -/
theorem js_raiseF {n : Nat} {x f : Str} {C fI : Addr} {k : Nat} {fd : FuncData} {ps : List Str} {e : Expr} {de : DE} {p pos pos2 : Pos} (T : XCls X.K C fI f) (F1 : FnOk X.prog X.w X.K X.mg X.base (L2.CX X.prog X.w) k fI fd ps (SpI X.K C f)) (hr : Room (k + 1) X.A) (hb : Binds X.K fd ps [])
    (hC : C = c.cm n) (hf : c.fn n = f) (hok : c.ok n = true) (hc : X.calm = true) (tk : Takes X W) (gC : X.mg x = some (.ref C)) (hg : Gl X x) (he : JE X g c W e de) (hdb : (x == ("__debug__" : Str)) = false := by decide)
    (hs : starEach [e] X.env = (false, eval e X.env) :: starEach [] X.env := by rfl) (hpl : (backTo pos (starEach [] X.env)).any (·.1) = false := by rfl) : JS X g c W L (.Raise (some (.Call (.Name x p) [e] [] pos)) none pos2) (dRaiseF n de) := by
  obtain ⟨te, pe, se⟩ := he.ex
  refine ⟨_, ps_raise hc tk (pmk_oex T.ox T.iC T.tI F1 hr hb .nil (passes_call tk fun _ _ _ _ h => h.elim) hg gC (pa_cons pe pa_nil hs) hdb hs hpl), fun s H r B z Y E D lw S hl h k => ?_⟩
  refine se s H r B z Y _ _ lw S h fun v H1 B1 r1 t S1 q => ?_
  refine ⟨by simp, fun a ha => ?_⟩
  split at q
  · rename_i d e1
    have vw := S1.view List.mem_cons_self e1
    have rp := flat_rep vw q.1
    refine ⟨a, v, rfl, T.ox, T.no, upd_same, fun dx h1 h2 => ⟨rfl, dx, [(f, v)], upd_same, ?_, ?_, ?_⟩⟩
    · rw [upd_ne h2, upd_same]
    · have : upd H1 a (exo a C none) dx = H1 dx := upd_ne h2
      rw [← this]; exact h1
    · have hd : H1 dx = none := by
        have : upd H1 a (exo a C none) dx = H1 dx := upd_ne h2
        rw [← this]; exact h1
      rw [del_upd ha h2]
      refine lw _ _ _ s r1 (upd B1 dx (.xd [(f, v)])) z ⟨n, [d]⟩ (List.suffix_refl _) (S1.pop.alloc hd) ⟨by rw [hC], hok, Or.inr ⟨dx, v, d, rfl, rfl, by rw [upd_same, hf], fun K => ?_⟩⟩ q.2
      have := q.1
      cases rp <;> first | (simp [flatD] at this; done) | constructor
  · exact q.elim
/-- e.f, e the held error -/
theorem j_xf {i n0 : Nat} {x f : Str} {a : Addr} {oe : Obj} {cls : Value} {d : Option Addr} {pn : List (Addr × Obj)} {p1 pos : Pos} {g0 : G} (hz : Zc cls d oe) (hfs : ∃ vs, oe.data = .fields vs)
    (T : XfC X.K (c.cm n0)) (no : PySem.W.findIn X.K (.ref (c.cm n0)) f = some none) (hf : c.fn n0 = f) (hN : X.N[i]? = some x) (hv : Vis X.env.scope x) (hd1 : (x == ("__debug__" : Str)) = false := by decide) (hcd : (x == ("__classdict__" : Str)) = false := by decide)
    (hb : attributeBase (.Name x p1) f X.env (eval (.Name x p1) X.env) = eval (.Name x p1) X.env := by rfl) :
    JE (X.suite a ((a, oe) :: pn)) (g0.hold (heldX c a cls d)) c W (.Attribute (.Name x p1) f pos) (dXf i n0) := by
  refine ⟨_, pe_xf T no hz hfs (pe_var hN hv hd1 hcd) hb, fun s H r B z Y Q Qv _ S h k => ?_⟩
  unfold dXf at h
  split at h
  · rename_i n x0 l
    obtain ⟨rfl, h⟩ := h
    obtain ⟨v, e1, a', B1, rfl, sb, rfl, hcls, hok, hdn⟩ := S.env i _ l
    rcases hdn with hdn | ⟨dd, v', x', hd, e2, hb', rp⟩
    · exact absurd hdn.1 (by simp)
    · cases e2
      refine ⟨_, e1, rfl, hcls, dd, _, v', hd, S.bh _ _ (sb _ _ hb'), ?_, ?_⟩
      · rw [hf, List.lookup_cons]
        simp
      · exact k v' H B r _ (S.push ((rp X.K).mono fun _ _ e => by cases e)) h
  · exact h.elim
end
end J

/-! JN2: dicts in the heap: made, displayed, asked with a default, walked. -/
namespace J
open PySem PySem.Spec PyProof.Rows L2
theorem raw_new {P : Program} {w : World} {H' : Hp} (h : Heap) : ObjOk P w H' (h.push { cls := .type "dict", data := .dict #[] }) h.objs.size (rawO h.objs.size #[] 0) := raw_ok (Heap.get?_push_size _ rfl) ⟨rfl, rfl, rfl⟩ rfl
def tNNew : TE := fun _ H Q => ∀ p, H p = none → (p == sysModules) = false → Q (.ref p) (upd H p (rawO p #[] 0))
theorem sys_ne {X : Cx} {pins : List (Addr × Obj)} {σ : L2.St} {H : Hp} {s : Shared} (I : Inv X pins σ H s) : (s.heap.objs.size == sysModules) = false := beq_eq_false_iff_ne.mpr (Ne.symm (Nat.ne_of_lt I.big))
theorem pe_nnew {X : Cx} {pos : Pos} : PE X (.Dict [] [] pos) tNNew := ⟨fun pins s σ H Q I h =>
  wpAny_Dict_empty ⟨.ref s.heap.objs.size, _, I.laid (a := s.heap.objs.size) (o := rawO s.heap.objs.size #[] 0) (t' := s.toks) (fun _ _ q => Heap.get?_push_of_some _ q) (Nat.le_refl _) (raw_new s.heap), rfl, h _ (I.hok.fresh (Nat.le_refl _)) (sys_ne I)⟩⟩
/-! ### get -/
def tNGet (td ty : TE) (K : PySem.W.Frag) : TE := fun σ H Q => td σ H fun x H1 => ty σ H1 fun y H2 => ∃ a v, x = .ref a ∧ NGet K H2 a y (some v) ∧ Q v H2
def rNIn (K : PySem.W.Frag) (neg : Bool) : R2 := fun y x H Q => ∃ a o, x = .ref a ∧ NGet K H a y o ∧ Q (.bl (if neg then !o.isSome else o.isSome)) H
section
variable {X : Cx} {pins : List (Addr × Obj)} {σ : L2.St} {H : Hp} {s : Shared} {a : Addr} {y v d : V} {u r : Value} {o : Option V} {A : Around} {E : Value → Shared → Prop}
theorem NGet.at (I : Inv X pins σ H s) (g : NGet X.K H a y o) : s.TypeIs (.ref a) "dict" ∧ (∀ b, Value.ref a = .ref b → ∃ ob, s.heap.get? b = some ob ∧ ob.dict = none) ∧ (a == sysModules) = false := by
  obtain ⟨ks, ws, ns, es, ep, n, D, _, _⟩ := g
  refine ⟨D.typeIs I, fun b q => ?_, D.sys⟩
  cases q
  obtain ⟨ob, h1, h2, _⟩ := D.raw I
  exact ⟨ob, h1, h2.2.1⟩
theorem pe_nget {o i : Expr} {td ty : TE} {pos : Pos} (hu : X.A.units + 16 < cLine) (ho : PE X o td) (hi : PE X i ty) (hs : NoSl i) : PE X (.Subscript o i pos) (tNGet td ty X.K) := by
  refine ⟨fun pins s σ H Q I h => ?_⟩
  refine subD_of PySem.F.slot_dict_getitem.lookup hs (thn (ho.run pins s σ H _ I h) fun u s1 ⟨x, H1, I1, rx, q1⟩ => thn (hi.run pins s1 σ H1 _ I1 q1) fun iv s2 ⟨y, H2, I2, ry, a, v, ex, g, q2⟩ => ?_)
  subst ex
  obtain rfl : u = Value.ref a := rx
  exact ⟨(g.at I2).1, n_getItem hu I2 g ry fun w' s3 I3 rw' => ⟨v, H2, I3, rw', q2⟩⟩
theorem op_nin (hu : X.A.units + 16 < cLine) : OpR X (compareOp .In) (rNIn X.K false) := fun pins s σ H y x iv u Q I ry rx h => by
  obtain ⟨a, ov, ex, g, q⟩ := h
  subst ex
  obtain rfl : u = Value.ref a := rx
  exact n_in hu I g ry fun s3 I3 => ⟨.bl ov.isSome, H, I3, rfl, q⟩
theorem op_nni (hu : X.A.units + 16 < cLine) : OpR X (compareOp .NotIn) (rNIn X.K true) := fun pins s σ H y x iv u Q I ry rx h => by
  obtain ⟨a, ov, ex, g, q⟩ := h
  subst ex
  obtain rfl : u = Value.ref a := rx
  exact n_notIn hu I g ry fun s3 I3 => ⟨.bl (!ov.isSome), H, I3, rfl, q⟩
/-- d.get(y, x) -/
theorem n_get2 {Q : Value → Shared → Prop} (hu : A.units + 16 < cLine) (I : Inv X pins σ H s) (g : NGet X.K H a y o) (ry : RelV y u) (rd : RelV d r) (h : ∀ w' s', Inv X pins σ H s' → RelV (o.getD d) w' → Q w' s') :
    wpAny (model X.prog X.w) A (call (.builtin "dict.get") [.ref a, u, r]) Q E s := by
  obtain ⟨ks, ws, ns, es, ep, n, D, dk, l⟩ := g
  cases dk with
  | int i is e1 e2 e3 e4 =>
    subst e1 e2 e3 e4
    obtain ⟨t, rfl⟩ := (show ∃ t, u = Value.int i t from ry)
    obtain ⟨vs, dd, rel, _⟩ := D.intOf I
    rw [zipNum] at l
    refine call_meetsIn PySem.F.slot_dict_get dd.typeIs PySem.F.entry_dict_get (PySem.F.args_dict_get_3 _ _ _) (meets_dict_get_default (intKind X.prog X.w) a (show (intKind X.prog X.w).is i (.int i t) = true from isIntS i t) D.sys r) ⟨_, dd.mapOf, h _ _ (I.tok _) ?_⟩
    rw [l]
    exact (rel.val i).getD rd
  | tup b ms e1 e2 e3 e4 e5 e6 =>
    subst e3 e4
    cases (show u = Value.ref b from ry)
    obtain ⟨xs, dd, rel, _, _⟩ := D.tupOf I e1 e2
    refine call_meetsIn PySem.F.slot_dict_get dd.typeIs PySem.F.entry_dict_get (PySem.F.args_dict_get_3 _ _ _) (meetsH_dict_get_default (nestedKind X.prog X.w) a b D.sys r) ⟨?_, _, xs, ⟨KeyR.is I e5 rfl, e6⟩, dd, h _ _ (I.tok _) ?_⟩
    · show A.in1.units + 8 < cLine
      rw [Around.in1_units]; omega
    · rw [l]
      have := (rel.val (NestedKey.tup ms)).getD rd
      rw [valueAt_pairsH] at this
      exact this
def tNGet2 (td ty tx : TE) (K : PySem.W.Frag) : TE := fun σ H Q => td σ H fun x H1 => ∃ a, x = .ref a ∧ (∃ es ep, H1 a = some (rawO a es ep)) ∧ (a == sysModules) = false ∧ ty σ H1 fun y H2 => tx σ H2 fun z H3 => ∃ o, NGet K H3 a y o ∧ Q (o.getD z) H3
theorem raw_at (I : Inv X pins σ H s) {es : Array DictEntry} {ep : Nat} (h : H a = some (rawO a es ep)) : s.heap.DictRaw a es ep := (I.hok a _ h).1
theorem pe_nget2 {o e f : Expr} {td ty tx : TE} {apos cpos : Pos} (hu : X.A.units + 16 < cLine) (ho : PE X o td) (he : PE X e ty) (hf : PE X f tx) (m : M2 X o "get" apos e f cpos) : PE X (.Call (.Attribute o "get" apos) [e, f] [] cpos) (tNGet2 td ty tx X.K) := by
  refine ⟨fun pins s σ H Q I h => ?_⟩
  refine wpAny_Call_method m.base m.few m.line PySem.F.plainAttrs_dict PySem.F.slot_dict_get PySem.F.type_dict_get (thn (ho.run pins s σ H _ I h) fun u s1 ⟨x, H1, I1, rx, a, ex, ⟨es, ep, d⟩, _, q1⟩ => ?_)
  subst ex
  obtain rfl : u = Value.ref a := rx
  have R := raw_at I1 d
  refine ⟨R.typeIs, fun b q => ?_, ?_⟩
  · cases q
    obtain ⟨ob, h1, h2, _⟩ := R
    exact ⟨ob, h1, h2.2.1⟩
  rw [m.trees]
  refine Calls.callWith_builtin rfl (Calls.evalArgs_plain (Calls.spliced_cons (thn (he.run pins s1 σ H1 _ I1 q1) fun iv s2 ⟨y, H2, I2, ry, q2⟩ =>
    Calls.spliced_cons (thn (hf.run pins s2 σ H2 _ I2 q2) fun fv s3 ⟨z, H3, I3, rz, ov, g, q3⟩ => Calls.spliced_nil ?_))))
  exact n_get2 hu I3 g ry rz fun w' s4 I4 rw' => ⟨_, H3, I4, rw', q3⟩
end
end J
namespace J
open PySem PySem.Spec PyProof.Rows L2
section
variable {X : Cx} {pins : List (Addr × Obj)} {σ : L2.St} {H : Hp} {s : Shared} {a : Addr} {y v : V} {u r : Value} {o : Option V} {A : Around} {E : Value → Shared → Prop}
/-- an entry of a display -/
theorem n_dictSet {R : Hp → Prop} {Q : Unit → Shared → Prop} (hu : A.units + 16 < cLine) (I : Inv X pins σ H s) (g : NPut X.K H a y v R) (ry : RelV y u) (rv : RelV v r) (h : ∀ H' s', R H' → Inv X pins σ H' s' → Q () s') :
    wpAny (model X.prog X.w) A (dictSet a u r) Q E s := by
  obtain ⟨ks, ws, ns, es, ep, n, D, dk, hl, fin⟩ := g
  obtain ⟨l1, l2, l3⟩ := ents_len D.each
  have mu : Mut (H a) := by rw [D.at_]; exact True.intro
  cases dk with
  | int i is e1 e2 e3 e4 =>
    subst e1 e2 e3 e4
    obtain ⟨t, rfl⟩ := (show ∃ t, u = Value.int i t from ry)
    obtain ⟨vs, dd, rel, hvs⟩ := D.intOf I
    have lw : ws.length = is.length := by simpa using l2
    have hz : vs.length ≤ sizeLine := by rw [← Paired.length rel, List.length_zip, lw]; simp at hl; omega
    refine wpAny_dictSet_pairs (hsz := hz) (isIntS i t) dd fun h' dd' hs => ?_
    obtain ⟨o', es', ep', q1, q2, q3, q4, q5, q6⟩ := dd'
    refine h _ _ (fin es' ep' ⟨upd_same, D.sys, ?_, ?_⟩) (d_write I mu hs ⟨o', q1⟩ (raw_ok q1 q2 q3))
    · have en := ints_ents q5 (fun e he => q4 e (by simpa using he)) (rel.put i rv)
      obtain ⟨p1, p2⟩ := putNum is ws i v lw
      rw [p1, p2]
      have e : keysPut (is.map V.int) (is.map NestedKey.num) (.int i) (.num i) = (putK (is.zip ws) i v).map fun p => V.int p.1 := by
        have : ((putK (is.zip ws) i v).map fun p => V.int p.1) = ((putK (is.zip ws) i v).map (·.1)).map V.int := by rw [List.map_map]; rfl
        rw [this, put_fst, zip_fst is ws lw]
        unfold keysPut
        by_cases e : i ∈ is
        · rw [if_pos e, if_pos (List.mem_map_of_mem e)]
        · rw [if_neg e, if_neg (by simpa using e)]
          simp
      rw [e]
      exact en
    · obtain ⟨_, p2⟩ := putNum is ws i v lw
      rw [p2]
      have : ((putK (is.zip ws) i v).map fun p => NestedKey.num p.1) = ((putK (is.zip ws) i v).map (·.1)).map NestedKey.num := by rw [List.map_map]; rfl
      rw [this, put_fst, zip_fst is ws lw]
      have nd : is.Nodup := nodup_of_map _ D.nodup
      split
      · exact D.nodup
      · rename_i e
        rw [List.map_append]
        refine List.nodup_append.mpr ⟨D.nodup, by simp, fun x hx z hz => ?_⟩
        rw [List.map_cons, List.map_nil, List.mem_singleton] at hz
        subst hz
        intro q
        subst q
        exact e (by simpa using hx)
  | tup b ms e1 e2 e3 e4 e5 e6 =>
    subst e3 e4
    cases (show u = Value.ref b from ry)
    obtain ⟨xs, dd, rel, hxs, hks⟩ := D.tupOf I e1 e2
    have hz : xs.length ≤ sizeLine := by
      have := congrArg List.length hxs
      rw [List.length_map] at this
      omega
    refine wpAny_dictSet_heap (knd := nestedKind X.prog X.w) (k := .tup ms) (hsz := hz) (by show A.units + 8 < cLine; omega) ⟨KeyR.is I e5 rfl, e6⟩ dd fun h' dd' hs => ?_
    obtain ⟨o', es', ep', q1, q2, q3, q4, q5, q6⟩ := dd'
    have keys : (storedH xs (.tup ms) b r).map (·.1) = (putK (ns.zip ws) (.tup ms) v).map (·.1) := by
      have r2 := rel.put (.tup ms) rv
      rw [← pairsH_storedH xs (.tup ms) b r] at r2
      rw [r2.keys]
      unfold pairsH
      rw [List.map_map]
      rfl
    refine h _ _ (fin es' ep' ⟨upd_same, D.sys, ?_, ?_⟩) (d_write I mu hs ⟨o', q1⟩ (raw_ok q1 q2 q3))
    · rw [q4]
      have r2 := rel.put (.tup ms) rv
      rw [← pairsH_storedH xs (.tup ms) b r] at r2
      have en := tups_ents (P := X.prog) (w := X.w) (fun x hx w' => ?_) r2
      have e : keysPut ks ns (.ref b) (.tup ms) = (storedH xs (.tup ms) b r).map fun x => V.ref x.2.1 := by
        unfold keysPut
        have hin : (atKey xs (.tup ms)).isSome = decide (NestedKey.tup ms ∈ ns) := by
          rw [← any_pairsH]
          rw [Bool.eq_iff_iff]
          simp only [List.any_eq_true, decide_eq_true_eq, ← hxs, List.mem_map, pairsH]
          constructor
          · rintro ⟨_, ⟨x, hx, rfl⟩, e⟩
            exact ⟨x, hx, e⟩
          · rintro ⟨x, hx, e⟩
            exact ⟨_, ⟨x, hx, rfl⟩, e⟩
        unfold storedH
        rw [hin]
        by_cases c : NestedKey.tup ms ∈ ns
        · rw [if_pos c, if_pos (decide_eq_true c), hks, List.map_map]
          refine List.map_congr_left fun x _ => ?_
          unfold putAt
          simp only [Function.comp]
          split <;> rfl
        · rw [if_neg c, if_neg (by simpa using c), hks]
          simp
      rw [e]
      exact en
      have mem : x.1 ∈ (putK (ns.zip ws) (.tup ms) v).map (·.1) := by
        rw [← keys]
        exact List.mem_map_of_mem hx
      rw [put_fst, zip_fst ns ws l2] at mem
      split at mem
      · exact KeyRs.hashA e1 _ mem _ _
      · rcases List.mem_append.mp mem with q | q
        · exact KeyRs.hashA e1 _ q _ _
        · rw [List.mem_singleton] at q
          rw [q]
          exact e5.hash _ _
    · rw [← keys]
      exact q6
end
/-! ### a display of one entry -/
theorem wpAny_subDict1 {prog : Program} {w : World} {A : Around} {E : Value → Shared → Prop} {s : Shared} {p : Sem Value × Sem Value} {Q : Addr → Shared → Prop}
    (h : wpAny (model prog w) A (evalPairs [p]) (fun vs s₁ => ∃ k v, vs = [(k, v)] ∧ wpAny (model prog w) A (dictSet s.heap.objs.size k v) (fun _ s₂ => Q s.heap.objs.size s₂) E s₁) E { s with heap := s.heap.push { cls := .type "dict", data := .dict #[] } }) :
    wpAny (model prog w) A (subDict [p]) Q E s := by
  unfold subDict
  refine wpAny_bind (wpAny_alloc ?_)
  refine wpAny_bind (wpAny_holding ?_)
  rw [if_pos (show [p].length ≤ 15 by simp)]
  refine wpAny_bind (wpAny_mono h (fun vs s₁ h₁ => ?_) fun _ _ e => e)
  obtain ⟨k, v, rfl, h₁⟩ := h₁
  refine wpAny_holding ?_
  refine wpAny_bind ?_
  rw [List.forIn_cons]
  refine wpAny_bind (wpAny_bind (wpAny_mono h₁ (fun _ s₂ q => wpAny_pure ?_) fun _ _ e => e))
  show wpAny _ _ (forIn [] PUnit.unit _) _ _ _
  rw [List.forIn_nil]
  exact wpAny_pure (wpAny_pure (wpAny_pure q))
end J
namespace J
open PySem PySem.Spec PyProof.Rows L2
def tNDisp1 (K : PySem.W.Frag) (tk tv : TE) : TE := fun σ H Q => ∀ p, H p = none → (p == sysModules) = false → tk σ (upd H p (rawO p #[] 0)) fun y H1 => tv σ H1 fun w H2 => NPut K H2 p y w fun H3 => Q (.ref p) H3
theorem pe_ndisp1 {X : Cx} {k v : Expr} {tk tv : TE} {pos : Pos} (hu : X.A.units + 16 < cLine) (hk : PE X k tk) (hv : PE X v tv) : PE X (.Dict [some k] [v] pos) (tNDisp1 X.K tk tv) := by
  refine ⟨fun pins s σ H Q I h => ?_⟩
  have hn := I.hok.fresh (Nat.le_refl s.heap.objs.size)
  have I1 := I.laid (a := s.heap.objs.size) (o := rawO s.heap.objs.size #[] 0) (h' := s.heap.push { cls := .type "dict", data := .dict #[] }) (t' := s.toks) (fun _ _ q => Heap.get?_push_of_some _ q) (Nat.le_refl _) (raw_new s.heap)
  have h := h _ hn (sys_ne I)
  rw [arm_eval_Dict, zip_pairTrees [some k] [v] X.env pos rfl rfl, dictDisplay_pairs (pairTrees [some k] [v] X.env pos) (by intro e; cases e) (by show 1 < 17; omega)]
  refine wpAny_bind (wpAny_standAt (wpAny_bind (wpAny_subDict1 (Q := fun d s' => wpAny (model X.prog X.w) X.A (pure (Value.ref d)) (EP X pins σ Q) X.xe s') ?_)))
  show wpAny _ _ (evalPairs (pairTrees [some k] [v] X.env pos)) _ _ _
  refine pairTrees_cons_walk (thn (hk.run pins _ σ _ _ I1 h) fun u s1 ⟨y, H1, I2, ry, q1⟩ => thn (hv.run pins s1 σ H1 _ I2 q1) fun w2 s2 ⟨w, H2, I3, rw', q2⟩ => ?_)
  refine pairTrees_nil_walk ⟨u, w2, rfl, ?_⟩
  exact n_dictSet hu I3 q2 ry rw' fun H' s' r' I4 => wpAny_pure ⟨.ref s.heap.objs.size, H', I4, rfl, r'⟩
/-! ### d[y] = v -/
def sNPut (K : PySem.W.Frag) (td ty tv : TE) : TS := fun D σ H => tv σ H fun v H1 => td σ H1 fun x H2 => ty σ H2 fun y H3 => ∃ a, x = .ref a ∧ NPut K H3 a y v fun H4 => D.nx σ H4
theorem ps_nput {X : Cx} {o i value : Expr} {td ty tv : TE} {pos pos' : Pos} (hu : X.A.units + 16 < cLine) (ho : PE X o td) (hi : PE X i ty) (hv : PE X value tv) (hs : swapsWith value (some (.Subscript o i pos')) pos.line X.env = pure false) :
    PS X (.Assign [.Subscript o i pos'] value pos) (sNPut X.K td ty tv) := by
  refine ⟨fun pins s σ H D I h => ?_⟩
  refine wpAny_Assign_Subscript (thn (hv.run pins s σ H _ I h) fun r s1 ⟨v, H1, I1, rv, q1⟩ => thn (ho.run pins s1 σ H1 _ I1 q1) fun u s2 ⟨x, H2, I2, rx, q2⟩ => thn (hi.run pins s2 σ H2 _ I2 q2) fun iv s3 ⟨y, H3, I3, ry, a, ex, g⟩ => ?_) hs
  subst ex
  obtain rfl : u = Value.ref a := rx
  exact n_setItem hu I3 g ry rv fun H4 s4 r4 I4 => ⟨σ, H4, I4, r4⟩
/-- d[y] op= v -/
def sNAug (K : PySem.W.Frag) (td ty tv : TE) (rd : V → V → Hp → VK → Prop) : TS := fun D σ H => td σ H fun x H1 => ty σ H1 fun y H2 => ∃ a v, x = .ref a ∧ NGet K H2 a y (some v) ∧
  tv σ H2 fun y2 H3 => rd v y2 H3 fun z H4 => NPut K H4 a y z fun H5 => D.nx σ H5
/-! ### walks -/
def Itn (d : Addr) (es : Array DictEntry) (ep : Nat) (xs : List V) : It :=
  ⟨fun i H => H d = some (rawO d es ep) ∧ i < xs.length, fun i H x H' => H' = H ∧ xs[i]? = some x, fun i H => H d = some (rawO d es ep) ∧ xs.length ≤ i⟩
/-- the pairs, each a new tuple -/
def Itni (d : Addr) (es : Array DictEntry) (ep : Nat) (ks ws : List V) : It :=
  ⟨fun i H => H d = some (rawO d es ep) ∧ i < ks.length, fun i H x H' => ∃ T k v, ks[i]? = some k ∧ ws[i]? = some v ∧ x = .ref T ∧ H T = none ∧ H' = upd H T (.tup [k, v]), fun i H => H d = some (rawO d es ep) ∧ ks.length ≤ i⟩
section
variable {P : Program} {w : World} {K : PySem.W.Frag} {tg : Expr} {d : Addr} {es : Array DictEntry} {ep : Nat}
theorem raw_hook {X : Cx} {pins : List (Addr × Obj)} {σ : L2.St} {H : Hp} {s : Shared} (I : Inv X pins σ H s) (h : H d = some (rawO d es ep)) : s.heap.DictRaw d es ep := (I.hok d _ h).1
theorem turn_nkeys {ks : List V} (it : Addr) (hl : ks.length = es.size) (hk : ∀ i (hi : i < es.size) x, ks[i]? = some x → RelV x es[i].key) : Turn P w K tg (Itn d es ep ks) [it] it (fun i h => h.IsKeyIter it d i es.size ep) where
  mem := by simp
  obj := fun i h st b hb => by
    have e : b = it := by simpa using hb
    subst e
    obtain ⟨oi, e, c, dd⟩ := st
    exact ⟨oi, e, fun v z => by rw [dd] at z; cases z⟩
  keep := fun i h h' st k => st.at fun oi e => k it (by simp) oi e
  item := by
    intro X hP hw hK hc i pins s σ H E I hf st hg
    subst hP hw hK
    obtain ⟨hd, hi⟩ := hg
    obtain ⟨f0, f1, f2, f3, f4, f5⟩ := hf it (by simp)
    have hi' : i < es.size := by omega
    refine wpAny_pyNext_keys_item_raw st (raw_hook I hd) hi' fun h' st' sb => ?_
    have I1 : Inv X pins σ H { s with heap := h' } := I.turned (t' := s.toks) (fun b ob hb e => (sb.2 b hb).trans e) f0 f1 f3 f4 f5
    obtain ⟨oi, e, c, dd⟩ := id st'
    exact ⟨es[i].key, rfl, go_of (s := { s with heap := h' }) e c dd (by decide) ⟨ks[i], H, I1, hk i hi' _ (List.getElem?_eq_getElem hi), ⟨rfl, List.getElem?_eq_getElem hi⟩, st', fun b hb => (hf b hb).1⟩⟩
  done := by
    intro X hP hw hK hc i pins s σ H E I hf st hg
    subst hP hw hK
    obtain ⟨hd, hi⟩ := hg
    obtain ⟨f0, f1, f2, f3, f4, f5⟩ := hf it (by simp)
    exact wpAny_pyNext_keys_end_raw (I.ok.hd hc) st (raw_hook I hd) (by omega) fun h' eb => ⟨rfl, I.turned (t' := s.toks) (fun b ob hb e => eb b ob hb e) f0 f1 f3 f4 f5⟩
  self := fun A i s Q E st h => by
    refine wpAny_pyIter_slot st.typeIs F.slot_dict_keyiterator_iter (wpAny_call_entry F.slot_dict_keyiterator_iter st.typeIs F.entry_dict_keyiterator_iter ?_ (F.args_dict_keyiterator_iter_1 _))
    show wpAny _ _ (ret (.ref it)) _ _ s
    exact wpAny_pure ⟨_, rfl, "dict_keyiterator", _, st.typeIs, F.slot_dict_keyiterator_next.lookup, h⟩
theorem turn_nvals {ks : List V} (it : Addr) (hl : ks.length = es.size) (hk : ∀ i (hi : i < es.size) x, ks[i]? = some x → RelV x es[i].val) : Turn P w K tg (Itn d es ep ks) [it] it (fun i h => h.IsValIter it d i es.size ep) where
  mem := by simp
  obj := fun i h st b hb => by
    have e : b = it := by simpa using hb
    subst e
    obtain ⟨oi, e, c, dd⟩ := st
    exact ⟨oi, e, fun v z => by rw [dd] at z; cases z⟩
  keep := fun i h h' st k => st.at fun oi e => k it (by simp) oi e
  item := by
    intro X hP hw hK hc i pins s σ H E I hf st hg
    subst hP hw hK
    obtain ⟨hd, hi⟩ := hg
    obtain ⟨f0, f1, f2, f3, f4, f5⟩ := hf it (by simp)
    have hi' : i < es.size := by omega
    refine wpAny_pyNext_values_item_raw st (raw_hook I hd) hi' fun h' st' sb => ?_
    have I1 : Inv X pins σ H { s with heap := h' } := I.turned (t' := s.toks) (fun b ob hb e => (sb.2 b hb).trans e) f0 f1 f3 f4 f5
    obtain ⟨oi, e, c, dd⟩ := id st'
    exact ⟨es[i].val, rfl, go_of (s := { s with heap := h' }) e c dd (by decide) ⟨ks[i], H, I1, hk i hi' _ (List.getElem?_eq_getElem hi), ⟨rfl, List.getElem?_eq_getElem hi⟩, st', fun b hb => (hf b hb).1⟩⟩
  done := by
    intro X hP hw hK hc i pins s σ H E I hf st hg
    subst hP hw hK
    obtain ⟨hd, hi⟩ := hg
    obtain ⟨f0, f1, f2, f3, f4, f5⟩ := hf it (by simp)
    exact wpAny_pyNext_values_end_raw (I.ok.hd hc) st (raw_hook I hd) (by omega) fun h' eb => ⟨rfl, I.turned (t' := s.toks) (fun b ob hb e => eb b ob hb e) f0 f1 f3 f4 f5⟩
  self := fun A i s Q E st h => wpAny_pyIter_valiter st h
theorem turn_nitems {ks ws : List V} {elts : List Expr} {kk : Nat} {tpos : Pos} (it : Addr) (hl : ks.length = es.size) (hl2 : ws.length = es.size) (hk : ∀ i (hi : i < es.size) x, ks[i]? = some x → RelV x es[i].key) (hv : ∀ i (hi : i < es.size) x, ws[i]? = some x → RelV x es[i].val) :
    Turn P w K (.Tuple elts kk tpos) (Itni d es ep ks ws) [it] it (fun i h => ∃ ok ov, IsItemIter h it d i es.size ep ok ov) where
  mem := by simp
  obj := fun i h st b hb => by
    have e : b = it := by simpa using hb
    subst e
    obtain ⟨ok, ov, e⟩ := st
    exact ⟨_, e, fun v z => nomatch z⟩
  keep := fun i h h' st k => let ⟨ok, ov, e⟩ := st; ⟨ok, ov, k it (by simp) _ e⟩
  item := by
    intro X hP hw hK hc i pins s σ H E I hf st hg
    subst hP hw hK
    obtain ⟨hd, hi⟩ := hg
    have hi' : i < es.size := by omega
    have hi2 : i < ws.length := by omega
    obtain ⟨ok, ov, he⟩ := st
    have hlt : it < s.heap.objs.size := Heap.lt_size he
    refine wpAny_pyNext_items_item_raw he (raw_hook I hd) hi' fun h' ho hT hz hkp => ?_
    refine ⟨_, rfl, wpAny_letOwnedTupleGo_items (s := { s with heap := h' }) ho fun h'' he' sb => ?_⟩
    have hT2 : h''.get? s.heap.objs.size = some { cls := .type "tuple", data := .seq #[es[i].key, es[i].val] } := (sb.2 _ (Nat.ne_of_gt hlt)).trans hT
    have new : ObjOk X.prog X.w (upd H s.heap.objs.size (.tup [ks[i], ws[i]])) h'' s.heap.objs.size (.tup [ks[i], ws[i]]) :=
      ⟨by show 2 ≤ sizeLine; decide, [es[i].key, es[i].val], .cons (hk i hi' _ (List.getElem?_eq_getElem hi)) (.cons (hv i hi' _ (List.getElem?_eq_getElem hi2)) .nil), ⟨_, hT2, rfl, _, rfl⟩⟩
    have I1 : Inv X pins σ (upd H s.heap.objs.size (.tup [ks[i], ws[i]])) { s with heap := h'' } :=
      I.turnedNew (t' := s.toks) (ch := [it]) (fun b ob hb e => (sb.2 b (by simpa using hb)).trans (hkp b ob (by simpa using hb) e)) hf (Nat.le_refl _) new
    refine ⟨.ref s.heap.objs.size, _, I1, rfl, ⟨_, ks[i], ws[i], List.getElem?_eq_getElem hi, List.getElem?_eq_getElem hi2, rfl, I.hok.fresh (Nat.le_refl _), rfl⟩, ⟨es[i].key, es[i].val, he'⟩, fun b hb => ?_⟩
    have e : b = it := by simpa using hb
    rw [e, upd_ne (Nat.ne_of_lt hlt)]
    exact (hf it (by simp)).1
  done := by
    intro X hP hw hK hc i pins s σ H E I hf st hg
    subst hP hw hK
    obtain ⟨hd, hi⟩ := hg
    obtain ⟨f0, f1, f2, f3, f4, f5⟩ := hf it (by simp)
    obtain ⟨ok, ov, he⟩ := st
    exact wpAny_pyNext_items_end_raw (I.ok.hd hc) he (raw_hook I hd) (by omega) fun h' eb => ⟨rfl, I.turned (t' := s.toks) (fun b ob hb e => eb b ob hb e) f0 f1 f3 f4 f5⟩
  self := fun A i s Q E st h => let ⟨_, _, e⟩ := st; PySem.W.kcp_self e h
end
theorem Ents.keyAt : ∀ {ks ws : List V} {ns : List NestedKey} {es : List DictEntry} {i : Nat} (hi : i < es.length) {x : V}, Ents ks ws ns es → ks[i]? = some x → RelV x es[i].key
  | _, _, _, _, 0, _, _, .cons h _, e => by
    simp at e
    subst e
    exact h.key
  | _, _, _, _, i + 1, hi, _, .cons _ r, e => Ents.keyAt (i := i) (by simpa using hi) r (by simpa using e)
theorem Ents.valAt : ∀ {ks ws : List V} {ns : List NestedKey} {es : List DictEntry} {i : Nat} (hi : i < es.length) {x : V}, Ents ks ws ns es → ws[i]? = some x → RelV x es[i].val
  | _, _, _, _, 0, _, _, .cons h _, e => by
    simp at e
    subst e
    exact h.val
  | _, _, _, _, i + 1, hi, _, .cons _ r, e => Ents.valAt (i := i) (by simpa using hi) r (by simpa using e)
/-! ### for k in d, d.values(), d.items() -/
def iNKeys (td : TE) : TI := fun σ H R => td σ H fun x H1 => ∃ d es ep ks ws ns, x = .ref d ∧ H1 d = some (rawO d es ep) ∧ (d == sysModules) = false ∧ Ents ks ws ns es.toList ∧ R (Itn d es ep ks) H1
def iNVals (td : TE) : TI := fun σ H R => td σ H fun x H1 => ∃ d es ep ks ws ns, x = .ref d ∧ H1 d = some (rawO d es ep) ∧ (d == sysModules) = false ∧ Ents ks ws ns es.toList ∧ R (Itn d es ep ws) H1
def iNItems (td : TE) : TI := fun σ H R => td σ H fun x H1 => ∃ d es ep ks ws ns, x = .ref d ∧ H1 d = some (rawO d es ep) ∧ (d == sysModules) = false ∧ Ents ks ws ns es.toList ∧ R (Itni d es ep ks ws) H1
section
variable {X : Cx} {tg e : Expr} {td : TE} {apos cpos : Pos}
theorem pi_nkeys (he : PE X e td) : PI X tg e (iNKeys td) := by
  refine ⟨fun pins s σ H R I h => ?_⟩
  refine thn (he.run pins s σ H _ I h) fun u s1 ⟨x, H1, I1, rx, d, es, ep, ks, ws, ns, ex, hd, sy, en, q⟩ => ?_
  subst ex
  obtain rfl : u = Value.ref d := rx
  obtain ⟨l1, l2, l3⟩ := ents_len en
  refine wpAny_pyIter_dict_raw sy (raw_hook I1 hd) (pi_one (tk := s1.toks) I1 _ (turn_nkeys _ (by simp at l3; omega) fun i hi x hx => ?_) ⟨_, Heap.get?_push_size _ rfl, rfl, rfl⟩ q)
  have := Ents.keyAt (i := i) (by simpa using hi) en hx
  simpa using this
theorem noD_raw {s1 : Shared} {d : Addr} {es : Array DictEntry} {ep : Nat} (R : s1.heap.DictRaw d es ep) : ∀ b, Value.ref d = .ref b → ∃ ob, s1.heap.get? b = some ob ∧ ob.dict = none := fun b q => by
  cases q
  obtain ⟨ob, h1, h2, _⟩ := R
  exact ⟨ob, h1, h2.2.1⟩
theorem pi_nvals (he : PE X e td) (hbase : attributeBase e "values" X.env (eval e X.env) = eval e X.env := by rfl) (hline : (apos.endLine == cpos.line) = true := by rfl) : PI X tg (.Call (.Attribute e "values" apos) [] [] cpos) (iNVals td) := by
  refine ⟨fun pins s σ H R I h => ?_⟩
  refine wpAny_Call_method (T := "dict") (id := "dict.values") hbase rfl hline F.plainAttrs_dict F.slot_dict_values F.type_dict_values (thn (he.run pins s σ H _ I h) fun u s1 ⟨x, H1, I1, rx, d, es, ep, ks, ws, ns, ex, hd, sy, en, q⟩ => ?_)
  subst ex
  obtain rfl : u = Value.ref d := rx
  have Rw := raw_hook I1 hd
  obtain ⟨l1, l2, l3⟩ := ents_len en
  refine ⟨Rw.typeIs, noD_raw Rw, ?_⟩
  have I2 : Inv X pins σ H1 { s1 with heap := s1.heap.push { cls := .type "dict_values", data := .fields #[.ref d] } } := I1.kept (t' := s1.toks) fun b ob q => Heap.get?_push_of_some _ q
  have fin : wpAny (model X.prog X.w) X.A (pyIter (.ref s1.heap.objs.size)) (PIE X pins σ tg R) X.xe { s1 with heap := s1.heap.push { cls := .type "dict_values", data := .fields #[.ref d] } } := by
    refine wpAny_pyIter_values_raw (d := d) ⟨_, Heap.get?_push_size _ rfl, rfl, rfl⟩ (raw_hook I2 hd) (pi_one (tk := s1.toks) I2 _ (turn_nvals _ (by simp at l3; omega) fun i hi x hx => ?_) ⟨_, Heap.get?_push_size _ rfl, rfl, rfl⟩ q)
    have := Ents.valAt (i := i) (by simpa using hi) en hx
    simpa using this
  show wpAny _ _ (callWith cpos (.builtin "dict.values") [.ref d] [] []) _ X.xe s1
  exact method_meetsIn F.slot_dict_values F.entry_dict_values rfl (PySem.evalArgs_none ⟨rfl, Rw.typeIs, F.args_dict_values_1 _, _, meets_dict_values_raw d sy, ⟨es, ep, Rw⟩, fin⟩)
theorem pi_nitems {elts : List Expr} {kk : Nat} {tpos : Pos} (he : PE X e td) (hbase : attributeBase e "items" X.env (eval e X.env) = eval e X.env := by rfl) (hline : (apos.endLine == cpos.line) = true := by rfl) :
    PI X (.Tuple elts kk tpos) (.Call (.Attribute e "items" apos) [] [] cpos) (iNItems td) := by
  refine ⟨fun pins s σ H R I h => ?_⟩
  refine wpAny_Call_method (T := "dict") (id := "dict.items") hbase rfl hline F.plainAttrs_dict F.slot_dict_items F.type_dict_items (thn (he.run pins s σ H _ I h) fun u s1 ⟨x, H1, I1, rx, d, es, ep, ks, ws, ns, ex, hd, sy, en, q⟩ => ?_)
  subst ex
  obtain rfl : u = Value.ref d := rx
  have Rw := raw_hook I1 hd
  obtain ⟨l1, l2, l3⟩ := ents_len en
  refine ⟨Rw.typeIs, noD_raw Rw, ?_⟩
  have I2 : Inv X pins σ H1 { s1 with heap := s1.heap.push { cls := .type "dict_items", data := .fields #[.ref d] } } := I1.kept (t' := s1.toks) fun b ob q => Heap.get?_push_of_some _ q
  have fin : wpAny (model X.prog X.w) X.A (pyIter (.ref s1.heap.objs.size)) (PIE X pins σ (.Tuple elts kk tpos) R) X.xe { s1 with heap := s1.heap.push { cls := .type "dict_items", data := .fields #[.ref d] } } := by
    refine wpAny_pyIter_items_raw (d := d) ⟨_, Heap.get?_push_size _ rfl, rfl, rfl⟩ (raw_hook I2 hd) (pi_one (tk := s1.toks) I2 _ (turn_nitems _ (by simp at l3; omega) (by simp at l3; omega) (fun i hi x hx => ?_) fun i hi x hx => ?_) ⟨.none, .none, Heap.get?_push_size _ rfl⟩ q)
    · have := Ents.keyAt (i := i) (by simpa using hi) en hx
      simpa using this
    · have := Ents.valAt (i := i) (by simpa using hi) en hx
      simpa using this
  show wpAny _ _ (callWith cpos (.builtin "dict.items") [.ref d] [] []) _ X.xe s1
  exact method_meetsIn F.slot_dict_items F.entry_dict_items rfl (PySem.evalArgs_none ⟨rfl, Rw.typeIs, F.args_dict_items_1 _, _, meets_dict_items_raw d sy, ⟨es, ep, Rw⟩, fin⟩)
end
end J

/-! JN3: dict comprehensions whose keys are ints or tuples. -/
namespace J
open PySem PySem.Spec PyProof.Rows L2
/-- the turns: D the new dict, n a measure -/
def tNDc (K : PySem.W.Frag) (wi : TI) (g : TG) (tt : TT) (tk tv : TE) (vs : List Nat) : TE := fun σ H Q => wi σ H fun J H1 => ∀ D, H1 D = none → (D == sysModules) = false → ∃ Z : Nat → Nat → Hp → Prop, (∃ n, Z 0 n (upd H1 D (rawO D #[] 0))) ∧
  ∀ i n G, Z i n G → (J.stop i G ∧ Q (.ref D) G) ∨ (J.go i G ∧ ∃ F : Hp → Prop, (∀ G', F G' → ∃ n', n' < n ∧ Z (i + 1) n' G') ∧
    ∀ x G1, J.yld i G x G1 → g x (wipe σ vs) G1 fun τ G2 => wipe τ vs = wipe σ vs ∧ tt τ G2 fun b G3 => if b = true then tk τ G3 fun y G4 => tv τ G4 fun z G5 => NPut K G5 D y z F else F G3)
section
variable {X : Cx} {kx vx tg iter : Expr} {ifs : List Expr} {scope : Scope} {own : List (Str × Nat)} {pos : Pos} {wi : TI} {g : TG} {tt : TT} {tk tv : TE}
/-- the names that the block takes from outside stand there -/
theorem free_has {pins : List (Addr × Obj)} {σ : L2.St} {H : Hp} {s : Shared} (I : Inv X pins σ H s) (ok : BlkOk X.N X.env.scope scope own) (y : Str × NameKind) (hy : y ∈ scope.names) (e : y.2 = .free) : ∃ c, X.env.cells.lookup y.1 = some c :=
  (ok.free y hy e).elim (fun k => I.ok.has _ (.inl k)) fun k => I.ok.has _ (.inr k)
theorem ndc_core {pins : List (Addr × Obj)} {s : Shared} {σ : L2.St} {H : Hp} {Q : VK} {pos' : Pos} {use : Option (Value → Sem Unit)} {Qf : Value → Shared → Prop} (hu : X.A.units + 16 < cLine) (hc : X.calm = true) (hN : X.N.Nodup) (I : Inv X pins σ H s) (hi : PI X tg iter wi) (ok : BlkOk X.N X.env.scope scope own)
    (hg : ∀ (s : Shared) (H : Hp) (C : Addr) (cl : List (Str × Addr)) (fp : List Addr), PG (X.blk s H scope (compEnvC scope cl C X.env) fp) tg g)
    (ht : ∀ (s : Shared) (H : Hp) (C : Addr) (cl : List (Str × Addr)) (fp : List Addr), PTs (X.blk s H scope (compEnvC scope cl C X.env) fp) ifs tt)
    (hk : ∀ (s : Shared) (H : Hp) (C : Addr) (cl : List (Str × Addr)) (fp : List Addr), PE (X.blk s H scope (compEnvC scope cl C X.env) fp) kx tk)
    (he : ∀ (s : Shared) (H : Hp) (C : Addr) (cl : List (Str × Addr)) (fp : List Addr), PE (X.blk s H scope (compEnvC scope cl C X.env) fp) vx tv)
    (hs : ∀ x, foldedSetIterable iter X.env x = pure x) (h : tNDc X.K wi g tt tk tv (own.map (·.2)) σ H Q)
    (fin : ∀ D C u m G, Inv X pins σ G u → Q (.ref D) G → u.heap.Ns C m → FpOk X pins G C → compPost (model X.prog X.w) X.A X.xe use Qf (.ref D) C (.ok .next) u) :
    wpAny (model X.prog X.w) X.A (comprehension (.DictComp kx vx [⟨tg, iter, ifs, 0⟩] scope pos) scope X.env pos' newDict false (eval iter X.env) use) Qf X.xe s := by
  refine wpAny_comprehension_free (use := use) rfl hs (closure_ok (free_has I ok)) ok.kind (fun y hy e => (ok.uniq y hy).trans (by rw [e])) (thn (hi.run pins s σ H _ I h) fun _ _ q1 => thn q1 fun itv s2 q2 => ?_)
  obtain ⟨it, fp, tn, J, H2, rfl, I2, T, st2, f2, q⟩ := q2
  refine wpAny_newObj_type (newEnv_comp ?_)
  -- the new dict
  obtain ⟨D, hD⟩ : ∃ D, D = s2.heap.objs.size := ⟨_, rfl⟩
  rw [← hD]
  obtain ⟨Z, ⟨n0, z0⟩, step⟩ := q D (I2.hok.fresh (Nat.le_of_eq hD.symm)) (by rw [hD]; exact sys_ne I2)
  obtain ⟨s3, hs3⟩ : ∃ s3 : Shared, s3 = { s2 with heap := s2.heap.push { cls := .type "dict", data := .dict #[] } } := ⟨_, rfl⟩
  have I3 : Inv X pins σ (upd H2 D (rawO D #[] 0)) s3 := by
    subst hs3 hD
    exact I2.laid (t' := s2.toks) (fun b o e => Heap.get?_push_of_some _ e) (Nat.le_refl _) (raw_new s2.heap)
  have up : ∀ b o, s2.heap.get? b = some o → s3.heap.get? b = some o := by subst hs3; exact fun b o e => Heap.get?_push_of_some _ e
  have old : ∀ b ∈ fp, b < s2.heap.objs.size := fun b hb => let ⟨o, e, _⟩ := T.obj _ _ st2 b hb; Heap.lt_size e
  have sz3 : s3.heap.objs.size = s2.heap.objs.size + 1 := by subst hs3; exact Heap.size_push ..
  have f3 : ∀ b ∈ fp, FpOk X pins (upd H2 D (rawO D #[] 0)) b ∧ b < s3.heap.objs.size := fun b hb =>
    ⟨⟨by rw [upd_ne (by rw [hD]; exact Nat.ne_of_lt (old b hb))]; exact (f2 b hb).1, (f2 b hb).2⟩, by rw [sz3]; exact Nat.lt_succ_of_lt (old b hb)⟩
  have st3 : tn 0 s3.heap := T.keep _ _ _ st2 fun b _ o e => up b o e
  obtain ⟨H3, hH3⟩ : ∃ H3, H3 = upd H2 D (rawO D #[] 0) := ⟨_, rfl⟩
  rw [← hH3] at I3 f3 z0
  -- the block
  have I4 := block_start I3 ok hN f3
  rw [hs3] at I4
  show codeAny _ _ (.compStart (.DictComp kx vx [⟨tg, iter, ifs, 0⟩] scope pos) 0 (.ref it) (.ref D) (compEnvC scope (cellsFrom (({ s2 with heap := s2.heap.push { cls := .type "dict", data := .dict #[] } } : Shared).heap.objs.size + 1) scope.names (cloFrom X.env.cells scope.names [])) ({ s2 with heap := s2.heap.push { cls := .type "dict", data := .dict #[] } } : Shared).heap.objs.size X.env)) _ _
  rw [← hs3] at I4 ⊢
  obtain ⟨pg, pt, pk, pe⟩ := And.intro (hg s3 H3 s3.heap.objs.size (cellsFrom (s3.heap.objs.size + 1) scope.names (cloFrom X.env.cells scope.names [])) fp) (And.intro (ht s3 H3 s3.heap.objs.size (cellsFrom (s3.heap.objs.size + 1) scope.names (cloFrom X.env.cells scope.names [])) fp)
    (And.intro (hk s3 H3 s3.heap.objs.size (cellsFrom (s3.heap.objs.size + 1) scope.names (cloFrom X.env.cells scope.names [])) fp) (he s3 H3 s3.heap.objs.size (cellsFrom (s3.heap.objs.size + 1) scope.names (cloFrom X.env.cells scope.names [])) fp)))
  obtain ⟨ce, hce⟩ : ∃ ce, ce = compEnvC scope (cellsFrom (s3.heap.objs.size + 1) scope.names (cloFrom X.env.cells scope.names [])) s3.heap.objs.size X.env := ⟨_, rfl⟩
  have cl : ce.locals = s3.heap.objs.size := by rw [hce]; rfl
  obtain ⟨s4, hs4⟩ : ∃ s4 : Shared, s4 = { s3 with heap := pushCells (s3.heap.push { cls := .type "dict", data := .dict #[] }) scope.names } := ⟨_, rfl⟩
  rw [← hce, ← hs4] at I4
  rw [← hce] at pg pt pk pe ⊢
  show codeAny _ _ _ (compPost (model X.prog X.w) X.A X.xe use Qf (.ref D) s3.heap.objs.size) { s3 with heap := pushCells (s3.heap.push { cls := .type "dict", data := .dict #[] }) scope.names }
  rw [← cl, ← hs4]
  have st4 : tn 0 s4.heap := T.keep _ _ _ st3 fun b _ o e => by rw [hs4]; exact pushCells_keeps _ _ _ _ (Heap.get?_push_of_some _ e)
  have here : ∀ {τ : L2.St} {G : Hp} {u : Shared}, Inv (X.blk s3 H3 scope ce fp) [] τ G u → (∀ b ∈ fp, G b = none) → ∀ b ∈ fp, FpOk (X.blk s3 H3 scope ce fp) [] G b := fun {τ G u} I' nf b hb =>
    ⟨nf b hb, (I'.ok.exf b hb).1, I'.ok.exfs b hb, .inl hb, fun x c e => (I'.ok.exf b hb).2 x c e, fun p hp => by cases (show p ∈ ([] : List (Addr × Obj)) from hp)⟩
  have loop : codeAny (model X.prog X.w) X.A (.compLoop (.DictComp kx vx [⟨tg, iter, ifs, 0⟩] scope pos) 0 (.ref it) (.ref D) ce) (compPost (model X.prog X.w) X.A X.xe use Qf (.ref D) ce.locals) s4 := by
    refine compLoop_anyD (fun n u => ∃ i G, Inv (X.blk s3 H3 scope ce fp) [] (wipe σ (own.map (·.2))) G u ∧ tn i u.heap ∧ (∀ b ∈ fp, G b = none) ∧ Z i n G) ?_ n0 ⟨0, H3, I4, st4, fun b hb => (f3 b hb).1.1, z0⟩
    rintro n u5 ⟨i, G5, I5, t5, nf5, z5⟩
    rcases step i n G5 z5 with ⟨stop, qq⟩ | ⟨go, F, hF, turn⟩
    · refine thnF (T.done (X.blk s3 H3 scope ce fp) rfl rfl rfl hc i [] u5 _ G5 (fun _ _ => False) I5 (here I5 nf5) t5 stop) fun r u6 ⟨hr, I6⟩ => ?_
      subst hr
      have I7 : Inv X pins σ G5 u6 := I3.call' (ch := fp) I6.os I6.base I6.hok I6.bare fun b hb => let f := (f3 b hb).1; ⟨f.2.2.2.1, f.2.1, f.2.2.2.2.1, f.2.2.2.2.2⟩
      obtain ⟨m, hn, _⟩ := I6.loc
      have fr : G5 ce.locals = none := I6.free
      exact fin D ce.locals u6 m G5 I7 qq hn (I3.fpOk (Nat.le_of_eq cl.symm) fr)
    · refine thnF (T.item (X.blk s3 H3 scope ce fp) rfl rfl rfl hc i [] u5 _ G5 (fun _ _ => False) I5 (here I5 nf5) t5 go) fun r u6 ⟨v, hr, q6⟩ => ?_
      subst hr
      refine thnF q6 fun _ u7 ⟨x, G7, I7, r7, y7, t7, nf7⟩ => ?_
      refine thnF (pg.run _ u7 _ G7 x v _ (I7.pinned (here I7 nf7) (T.obj _ _ t7)) r7 (turn x G7 y7)) fun _ u8 ⟨τ, G8, I8, w8, q8⟩ => ?_
      refine thnF (pt.run _ u8 τ G8 _ I8 q8) fun b u9 ⟨G9, I9, q9⟩ => ?_
      have back : ∀ {u : Shared} {G : Hp}, Inv (X.blk s3 H3 scope ce fp) ([] ++ pinsAt fp u7.heap) τ G u → F G → ∃ m, m < n ∧ ∃ i G, Inv (X.blk s3 H3 scope ce fp) [] (wipe σ (own.map (·.2))) G u ∧ tn i u.heap ∧ (∀ b ∈ fp, G b = none) ∧ Z i m G := fun {u G} I' hG => by
        obtain ⟨n', lt, z'⟩ := hF G hG
        have pn : ∀ b ∈ fp, ∀ o, u7.heap.get? b = some o → u.heap.get? b = some o ∧ G b = none := fun b hb o e =>
          have p := I'.pin (b, o) (List.mem_append_right _ (List.mem_append_right _ (mem_pinsAt hb e))); ⟨p.1, p.2.1⟩
        exact ⟨n', lt, i + 1, G, (I'.unpinned (pins := [])).weak (by rw [← w8, wipe_length]) (fun j v e => (wipe_some (by rw [w8]; exact e)).1), T.keep _ _ _ t7 fun b hb o e => (pn b hb o e).1,
          fun b hb => let ⟨o, e, _⟩ := T.obj _ _ t7 b hb; (pn b hb o e).2, z'⟩
      cases b with
      | false => exact back I9 q9
      | true => exact thnF (pk.run _ u9 τ G9 _ I9 q9) fun ky u10 ⟨y, G10, I10, r10, q10⟩ => thnF (pe.run _ u10 τ G10 _ I10 q10) fun vz u11 ⟨z, G11, I11, r11, q11⟩ => n_dictSet (X := X.blk s3 H3 scope ce fp) hu I11 q11 r10 r11 fun G' u12 hG I12 => back I12 hG
  exact codeAny_compStart_dict loop (T.self X.A 0 _ _ _ st4 loop)
theorem pe_ndc (hu : X.A.units + 16 < cLine) (hc : X.calm = true) (hN : X.N.Nodup) (hi : PI X tg iter wi) (ok : BlkOk X.N X.env.scope scope own)
    (hg : ∀ (s : Shared) (H : Hp) (C : Addr) (cl : List (Str × Addr)) (fp : List Addr), PG (X.blk s H scope (compEnvC scope cl C X.env) fp) tg g)
    (ht : ∀ (s : Shared) (H : Hp) (C : Addr) (cl : List (Str × Addr)) (fp : List Addr), PTs (X.blk s H scope (compEnvC scope cl C X.env) fp) ifs tt)
    (hk : ∀ (s : Shared) (H : Hp) (C : Addr) (cl : List (Str × Addr)) (fp : List Addr), PE (X.blk s H scope (compEnvC scope cl C X.env) fp) kx tk)
    (he : ∀ (s : Shared) (H : Hp) (C : Addr) (cl : List (Str × Addr)) (fp : List Addr), PE (X.blk s H scope (compEnvC scope cl C X.env) fp) vx tv)
    (hs : ∀ x, foldedSetIterable iter X.env x = pure x := by intro _; rfl) :
    PE X (.DictComp kx vx [⟨tg, iter, ifs, 0⟩] scope pos) (tNDc X.K wi g tt tk tv (own.map (·.2))) := ⟨fun pins s σ H Q I h => by
  rw [arm_eval_DictComp]
  refine ndc_core (use := none) hu hc hN I hi ok hg ht hk he hs h fun D C u m G I' q hn f => ⟨m, hn, fun h'' sb => ?_⟩
  exact ⟨.ref D, G, I'.turned (t' := u.toks) (fun b o hb e => (sb.2 b hb).trans e) f.1 f.2.1 f.2.2.2.1 f.2.2.2.2.1 f.2.2.2.2.2, rfl, q⟩⟩
/-- name = {..} on one line, the name a plain local -/
theorem sw_trueD {gs : List Comprehension} {py : Pos} {y : Str} {l : Nat} {env : PySem.Env} (hk : env.scope.kind = .function) (hy : env.scope.names.lookup y = some .local) (hl : (py.line == pos.line) = true)
    (ha : (scope.names.any fun (n, k) => n == y && (k == .local || k == .cell)) = false) : swapsWith (.DictComp kx vx gs scope pos) (some (.Name y py)) l env = pure true := by
  unfold swapsWith
  simp only [show env.blockKind = .function by unfold PySem.Env.blockKind; rw [hk]; rfl, show env.kindOf y = some .local from hy, ha, Expr.pos, hl]
  rfl
theorem ps_setNdc {i : Nat} {y : Str} {py spos : Pos} (hu : X.A.units + 16 < cLine) (hc : X.calm = true) (hN : X.N.Nodup) (hy : X.N[i]? = some y) (hyl : X.env.scope.names.lookup y = some .local)
    (hsw : swapsWith (.DictComp kx vx [⟨tg, iter, ifs, 0⟩] scope pos) (some (.Name y py)) spos.line X.env = pure true) (hi : PI X tg iter wi) (ok : BlkOk X.N X.env.scope scope own)
    (hg : ∀ (s : Shared) (H : Hp) (C : Addr) (cl : List (Str × Addr)) (fp : List Addr), PG (X.blk s H scope (compEnvC scope cl C X.env) fp) tg g)
    (ht : ∀ (s : Shared) (H : Hp) (C : Addr) (cl : List (Str × Addr)) (fp : List Addr), PTs (X.blk s H scope (compEnvC scope cl C X.env) fp) ifs tt)
    (hk : ∀ (s : Shared) (H : Hp) (C : Addr) (cl : List (Str × Addr)) (fp : List Addr), PE (X.blk s H scope (compEnvC scope cl C X.env) fp) kx tk)
    (he : ∀ (s : Shared) (H : Hp) (C : Addr) (cl : List (Str × Addr)) (fp : List Addr), PE (X.blk s H scope (compEnvC scope cl C X.env) fp) vx tv)
    (hs : ∀ x, foldedSetIterable iter X.env x = pure x := by intro _; rfl) :
    PS X (.Assign [.Name y py] (.DictComp kx vx [⟨tg, iter, ifs, 0⟩] scope pos) spos) (tAsg (tNDc X.K wi g tt tk tv (own.map (·.2))) (gName i)) := ⟨fun pins s σ H D I h => by
  rw [exec_Assign_Name_used _ _ _ _ hsw]
  refine wpAny_bind (wpAny_standAt (wpAny_bind ?_))
  show wpAny _ X.A (do let _ ← comprehension (.DictComp kx vx [⟨tg, iter, ifs, 0⟩] scope pos) scope X.env (firstIterPos [⟨tg, iter, ifs, 0⟩] pos) newDict false (eval iter X.env) (some (assign (.Name y py) X.env))) _ _ s
  have h : tNDc X.K wi g tt tk tv (own.map (·.2)) σ H (fun x H1 => gName i x σ H1 D.nx) := h
  refine wpAny_bind (thn (ndc_core (use := some (assign (.Name y py) X.env)) (Qf := fun _ s' => SP X pins D .next s') hu hc hN I hi ok hg ht hk he hs h fun L C u m G I' q hn f => ?_) fun _ s' hq => wpAny_pure (wpAny_pure hq))
  show wpAny _ _ (assign (.Name y py) X.env (.ref L)) _ _ _
  refine wpAny_assign_Name (store_ok2 (v := V.ref L) I' hN hy (.inl hyl) rfl (fun u2 I2 ⟨a, sb, ha⟩ => ?_) (.inr hyl))
  have ne : C ≠ a := ha.elim (fun z => by rw [z]; exact f.2.1) fun z e => f.2.2.2.2.1 y a z e.symm
  exact ⟨m, hn.sameBut sb ne, fun h3 sb3 => ⟨_, G, I2.turned (t' := u2.toks) (fun b o hb e => (sb3.2 b hb).trans e) f.1 f.2.1 f.2.2.2.1 f.2.2.2.2.1 f.2.2.2.2.2, q⟩⟩⟩
end
end J

/-! JN4: the values of a dict as a thing, their greatest; len of a dict; xs[i] op= e. -/
namespace J
open PySem PySem.Spec PyProof.Rows L2
/-- the values of the dict at d, as a thing that stands at v -/
def viewO (v d : Addr) : HO := .ext fun h => h.IsValuesView v d
theorem view_ok {P : Program} {w : World} {H' : Hp} {h' : Heap} {v d : Addr} (h : h'.IsValuesView v d) : ObjOk P w H' h' v (viewO v d) := by
  obtain ⟨o, h1, h2⟩ := id h
  exact ⟨h, ⟨o, h1⟩, fun g1 g2 ⟨o', q1, q2⟩ hk => ⟨o', hk _ q1, q2⟩⟩
def tVals (td : TE) : TE := fun σ H Q => td σ H fun x H1 => ∃ d es ep, x = .ref d ∧ H1 d = some (rawO d es ep) ∧ (d == sysModules) = false ∧ ∀ v, H1 v = none → Q (.ref v) (upd H1 v (viewO v d))
theorem pe_vals {X : Cx} {e : Expr} {td : TE} {apos cpos : Pos} (he : PE X e td) (hbase : attributeBase e "values" X.env (eval e X.env) = eval e X.env := by rfl) (hline : (apos.endLine == cpos.line) = true := by rfl) : PE X (.Call (.Attribute e "values" apos) [] [] cpos) (tVals td) := ⟨fun pins s σ H Q I h => by
  refine wpAny_Call_method (T := "dict") (id := "dict.values") hbase rfl hline F.plainAttrs_dict F.slot_dict_values F.type_dict_values (thn (he.run pins s σ H _ I h) fun u s1 ⟨x, H1, I1, rx, d, es, ep, ex, hd, sy, q⟩ => ?_)
  subst ex
  obtain rfl : u = Value.ref d := rx
  have Rw := raw_hook I1 hd
  refine ⟨Rw.typeIs, noD_raw Rw, ?_⟩
  have new : (s1.heap.push { cls := .type "dict_values", data := .fields #[.ref d] }).IsValuesView s1.heap.objs.size d := ⟨_, Heap.get?_push_size _ rfl, rfl, rfl⟩
  have I2 := I1.laid (a := s1.heap.objs.size) (o := viewO s1.heap.objs.size d) (t' := s1.toks) (fun b ob q => Heap.get?_push_of_some _ q) (Nat.le_refl _) (view_ok new)
  have hq := q _ (I1.hok.fresh (Nat.le_refl s1.heap.objs.size))
  show wpAny _ _ (callWith cpos (.builtin "dict.values") [.ref d] [] []) _ X.xe s1
  exact method_meetsIn F.slot_dict_values F.entry_dict_values rfl (PySem.evalArgs_none ⟨rfl, Rw.typeIs, F.args_dict_values_1 _, _, meets_dict_values_raw d sy, ⟨es, ep, Rw⟩, ⟨.ref _, _, I2, rfl, hq⟩⟩)⟩
def rMaxV : List V → Hp → VK → Prop := fun xs H Q => ∃ (v d : Addr) (es : Array DictEntry) (ep : Nat) (ks ws : List V) (nk : List NestedKey) (ns : List Int), xs = [.ref v] ∧ H v = some (viewO v d) ∧ H d = some (rawO d es ep) ∧ Ents ks ws nk es.toList ∧ ws = ns.map V.int ∧ ns ≠ [] ∧ ∀ m, m ∈ ns → (∀ y ∈ ns, y ≤ m) → Q (.int m) H
theorem call_maxV {X : Cx} (hc : X.calm = true) : CallR X (.builtin "max") rMaxV := fun pins s σ H xs us Q I r h => by
  obtain ⟨v, d, es, ep, ks, ws, nk, ns, rfl, hv, hd, en, ew, ne, q⟩ := h
  rw [Vals.ref1 r]
  have Rw := raw_hook I hd
  have Vw : s.heap.IsValuesView v d := (I.hok v _ hv).1
  obtain ⟨l1, l2, l3⟩ := ents_len en
  have sz : ns.length = es.size := by
    have := congrArg List.length ew
    simp at this l3
    omega
  have pos : 0 < ns.length := List.length_pos_iff.mpr ne
  have at_ : ∀ i (hi : i < es.size), ∃ t, es[i].val = .int (ns.getD i 0) t := fun i hi => by
    have hx : ws[i]? = some (.int (ns.getD i 0)) := by
      rw [ew, List.getElem?_map, List.getElem?_eq_getElem (by omega), List.getD_eq_getElem?_getD, List.getElem?_eq_getElem (by omega)]
      rfl
    have := Ents.valAt (i := i) (by simpa using hi) en hx
    have : RelV (.int (ns.getD i 0)) es[i].val := by simpa using this
    exact this
  have keep : ∀ b o, s.heap.get? b = some o → b ≠ s.heap.objs.size := fun b o e => Nat.ne_of_lt (Heap.lt_size e)
  refine call_max_walk (wpAny_pyIter_values_raw Vw Rw ?_)
  have dn : d ≠ s.heap.objs.size := let ⟨o, ho, _⟩ := Rw; keep d o ho
  refine ⟨_, _, _, _, _, _, _, rfl, Walks.rawValues (A := X.A.in1) (I.ok.hd hc) _ d dn es ep, ⟨⟨_, Heap.get?_push_size _ rfl, rfl, rfl⟩, Rw.at fun o e => Heap.get?_push_of_some _ e⟩, fun b hb => ?_, by omega, CmpOf.ints_gt (fun i => ns.getD i 0) (fun i w hw => by obtain ⟨hi, rfl⟩ := hw; exact at_ i hi), fun w h' tk hw hk => ?_⟩
  · have sz2 : (s.heap.push { cls := .type "dict_valueiterator", data := .fields #[.ref d, .int 0 0, .int es.size 0, .int ep 0] }).objs.size = s.heap.objs.size + 1 := Heap.size_push ..
    show b < (s.heap.push _).objs.size
    rw [sz2]
    simp at hb
    rcases hb with rfl | rfl
    · exact Nat.lt_succ_self _
    · obtain ⟨o, ho, _⟩ := Rw
      exact Nat.lt_succ_of_lt (Heap.lt_size ho)
  · obtain ⟨hi, rfl⟩ := hw
    obtain ⟨t, e⟩ := at_ _ hi
    obtain ⟨b1, b2⟩ := argBest_gt (fun i => ns.getD i 0) (es.size - 1)
    have hk2 : ∀ b o, s.heap.get? b = some o → h'.get? b = some o := fun b o eo => hk b o (fun hm => keep b o eo (by simpa using hm)) (Heap.get?_push_of_some _ eo)
    rw [e]
    refine ⟨.int _, H, I.kept (t' := tk) hk2, ⟨t, rfl⟩, q _ ?_ fun y hy => ?_⟩
    · rw [List.getD_eq_getElem?_getD, List.getElem?_eq_getElem (by omega)]
      exact List.getElem_mem _
    · obtain ⟨j, hj, rfl⟩ := List.getElem_of_mem hy
      have := b2 j (by omega)
      rw [List.getD_eq_getElem?_getD, List.getElem?_eq_getElem hj] at this
      exact this
/-! ### len -/
def rLenN : List V → Hp → VK → Prop := fun xs H Q => ∃ (d : Addr) (es : Array DictEntry) (ep : Nat), xs = [.ref d] ∧ H d = some (rawO d es ep) ∧ (d == sysModules) = false ∧ es.size ≤ sizeLine ∧ Q (.int ((es.size : Nat) : Int)) H
theorem meets_len_raw {prog : Program} {w : World} (d : Addr) (hd : (d == sysModules) = false) : MeetsIn prog w (Builtin.«dict.__len__» ⟨[.ref d], []⟩) (fun _ R s => ∃ es ep, s.heap.DictRaw d es ep ∧ R (.ok (.ret (.int ((es.size : Nat) : Int) s.toks))) { s with toks := s.toks + 1 }) := .of_wp fun A R s hh => by
  obtain ⟨es, ep, ⟨o, ho, hx, hdat⟩, h⟩ := hh
  show wpAny _ _ (dictSize d >>= _) _ _ s
  unfold dictSize
  refine wpAny_bind (wpAny_bind (wpAny_dictEntries ho hdat (wpAny_pure ?_)))
  show wpAny _ _ (Builtin.Dict.pendingCount d >>= _) _ _ s
  exact wpAny_bind (wpAny_pendingCount_other hd (wpAny_ret_mkInt (by rw [Nat.add_zero]; exact h)))
theorem call_lenN {X : Cx} : CallR X (.builtin "len") rLenN := fun pins s σ H xs us Q I r h => by
  obtain ⟨d, es, ep, rfl, hd, sy, hz, q⟩ := h
  rw [Vals.ref1 r]
  have Rw := raw_hook I hd
  rw [sizeLine_eq] at hz
  refine Calls.call_function_entry kind_len plain_len entry_len (args_len1 _) ?_
  unfold Builtin.«len»
  refine wpAny_bind (m := oneArg "len" _) (wpAny_pure (wpAny_bind (m := callSpecial? (.ref d) (Str.ofString "__len__")) (wpAny_callSpecial?_slot (name := Str.ofString "__len__") Rw.typeIs F.slot_dict_len
    (call_meetsIn F.slot_dict_len Rw.typeIs F.entry_dict_len (F.args_dict_len_1 _) (meets_len_raw d sy) ⟨es, ep, Rw, ?_⟩))))
  show wpAny _ _ _ _ _ { s with toks := s.toks + 1 }
  refine wpAny_bind (wpAny_holding (wpAny_pure (wpAny_bind (wpAny_letGo ?_))))
  show wpAny _ _ (if ((es.size : Nat) : Int) < 0 then _ else _) _ _ _
  rw [if_neg (by omega)]
  show wpAny _ _ (if ((es.size : Nat) : Int) ≥ 2 ^ 63 then _ else _) _ _ _
  rw [if_neg (by omega)]
  exact wpAny_bind (wpAny_mkInt (wpAny_pure ⟨_, rfl, .int _, H, (I.tok _).tok _, ⟨_, rfl⟩, q⟩))
/-! ### o[i] op= e -/
def rPutN (K : PySem.W.Frag) : V → V → V → Hp → (Hp → Prop) → Prop := fun x y z H Q => ∃ a, x = .ref a ∧ NPut K H a y z Q
theorem set_N {X : Cx} (hu : X.A.units + 16 < cLine) : PSet X (rPutN X.K) := fun pins s σ H x y z v u t Q I rx ry rz h => by
  obtain ⟨a, ex, g⟩ := h
  subst ex
  obtain rfl : v = Value.ref a := rx
  exact n_setItem hu I g ry rz fun H' s' q I' => ⟨H', I', q⟩
theorem get_N {X : Cx} (hu : X.A.units + 16 < cLine) : PGet X (fun x y H Q => ∃ a v, x = .ref a ∧ NGet X.K H a y (some v) ∧ Q v H) := fun pins s σ H x y v u Q I rx ry h => by
  obtain ⟨a, w, ex, g, q⟩ := h
  subst ex
  obtain rfl : v = Value.ref a := rx
  exact n_getItem hu I g ry fun w' s' I' rw' => ⟨w, H, I', rw', q⟩
end J

/-! JL27: dicts: the rules. -/
namespace J
open PySem L2
section
variable {K : PySem.W.Frag} {g : G} {B B' H H' : Hp} {s : L2.St} {r : Env} {z : Stk} {v w y : V} {t : T} {kvs : List (D × D)} {kd vd : D} {a : Addr}
theorem isI_of : ∀ {kvs : List (D × D)} {ks : List V}, RepAll K B ks (kvs.map (·.1)) → (kvs.all fun kv => isIK kv.1) = true → ∃ is : List Int, ks = is.map V.int ∧ (kvs.map fun kv => nkD kv.1) = is.map NestedKey.num
  | [], _, .nil, _ => ⟨[], rfl, rfl⟩
  | kv :: kvs, _, .cons h r, q => by
    rw [List.all_cons, Bool.and_eq_true] at q
    obtain ⟨is, e1, e2⟩ := isI_of r q.2
    obtain ⟨k, v⟩ := kv
    have q1 := q.1
    cases k with
    | int i =>
      cases h with
      | int _ => exact ⟨i :: is, by simp [e1], by simp [e2, nkD]⟩
    | _ => simp [isIK] at q1
theorem isT_ok {d : D} (h : isTK d = true) : okK d = true ∧ deep d ≤ 8 ∧ ∃ ds, d = .tup ds := by
  cases d with
  | tup ds =>
    simp only [isTK, Bool.and_eq_true, decide_eq_true_eq] at h
    exact ⟨by rw [okK]; exact h.1, h.2, ds, rfl⟩
  | _ => simp [isTK] at h
theorem isT_all : ∀ {kvs : List (D × D)}, (kvs.all fun kv => isTK kv.1) = true → okKs (kvs.map (·.1)) = true ∧ ∀ m ∈ (kvs.map fun kv => nkD kv.1), m.depth ≤ 8 ∧ ∃ l, m = .tup l
  | [], _ => ⟨rfl, fun m h => by simp at h⟩
  | kv :: kvs, q => by
    rw [List.all_cons, Bool.and_eq_true] at q
    obtain ⟨h1, h2⟩ := isT_all q.2
    obtain ⟨o1, o2, ds, e⟩ := isT_ok q.1
    refine ⟨?_, fun m hm => ?_⟩
    · rw [List.map_cons, okKs, o1, h1]; rfl
    · rw [List.map_cons] at hm
      rcases List.mem_cons.mp hm with rfl | hm
      · refine ⟨Nat.le_trans (nk_depth _ o1) o2, ?_⟩
        rw [e, nkD]
        exact ⟨_, rfl⟩
      · exact h2 m hm
theorem nkDs_map (kvs : List (D × D)) : nkDs (kvs.map (·.1)) = kvs.map fun kv => nkD kv.1 := by
  induction kvs with
  | nil => rfl
  | cons kv kvs ih => rw [List.map_cons, nkDs, ih]; rfl
/-- the key of a look-up -/
theorem dkind_of (hb : Same B H) {ks : List V} (hk : RepAll K B ks (kvs.map (·.1))) (hy : View K B H y kd) (ok : keyOk kvs kd = true) : DKind K H ks (kvs.map fun kv => nkD kv.1) y (nkD kd) := by
  simp only [keyOk, Bool.or_eq_true, Bool.and_eq_true] at ok
  rcases ok with ⟨h1, h2⟩ | ⟨h1, h2⟩
  · obtain ⟨is, e1, e2⟩ := isI_of hk h2
    cases kd with
    | int i =>
      cases hy with
      | int _ => exact .int i is e1 e2 rfl (by rw [nkD])
    | _ => simp [isIK] at h1
  · obtain ⟨o1, o2, ds, e⟩ := isT_ok h1
    subst e
    obtain ⟨g1, g2⟩ := isT_all h2
    have hy : Rep K B y (.tup ds) := hy
    cases id hy with
    | tup q1 q2 =>
      have kr := Rep.keyR hb hy o1
      rw [nkD] at kr ⊢
      have kk := RepAll.keyR hb hk g1
      rw [nkDs_map] at kk
      refine .tup _ (nkDs ds) kk g2 rfl rfl kr ?_
      have := nk_depth (.tup ds) o1
      rw [nkD] at this
      omega
theorem keyOk_okK {kv : D × D} (ok : keyOk kvs kd = true) : okK kd = true ∧ ∀ kv ∈ kvs, okK kv.1 = true := by
  simp only [keyOk, Bool.or_eq_true, Bool.and_eq_true] at ok
  have hi : ∀ d, isIK d = true → okK d = true := fun d h => by
    cases d with
    | int i => rw [okK]
    | _ => simp [isIK] at h
  rcases ok with ⟨h1, h2⟩ | ⟨h1, h2⟩
  · exact ⟨hi _ h1, fun kv hm => hi _ (List.all_eq_true.mp h2 kv hm)⟩
  · exact ⟨(isT_ok h1).1, fun kv hm => (isT_ok (List.all_eq_true.mp h2 kv hm)).1⟩
theorem val_get (o1 : okK kd = true) : ∀ {kvs : List (D × D)} {ws : List V}, RepAll K B ws (kvs.map (·.2)) → (∀ kv ∈ kvs, okK kv.1 = true) →
    (∀ d, dGetK kvs kd = some d → ∃ w, valV ((kvs.map fun kv => nkD kv.1).zip ws) (nkD kd) = some w ∧ Rep K B w d) ∧ (dGetK kvs kd = none → valV ((kvs.map fun kv => nkD kv.1).zip ws) (nkD kd) = none)
  | [], _, .nil, _ => ⟨fun d h => by simp [dGetK] at h, fun _ => rfl⟩
  | kv :: kvs, _, .cons (v := w) h r, ok => by
    have e := nk_inj (ok kv List.mem_cons_self) o1
    have ih := val_get o1 r fun x hx => ok x (List.mem_cons_of_mem _ hx)
    simp only [List.map_cons, List.zip_cons_cons]
    unfold dGetK at ih ⊢
    by_cases c : nkD kv.1 = nkD kd
    · rw [decide_eq_true c] at e
      rw [List.find?_cons, e, valV_pos c]
      exact ⟨fun d hd => by cases hd; exact ⟨w, rfl, h⟩, fun hd => by cases hd⟩
    · rw [decide_eq_false c] at e
      rw [List.find?_cons, e, valV_neg c]
      exact ih
/-- what a store leaves -/
theorem put_reps {ks ws : List V} (hk : RepAll K B ks (kvs.map (·.1))) (hw : RepAll K B ws (kvs.map (·.2))) (ok : keyOk kvs kd = true) (hy : Rep K B y kd) (hv : Rep K B v vd) :
    ((dPutK kvs kd vd).map fun kv => nkD kv.1) = (putK ((kvs.map fun kv => nkD kv.1).zip ws) (nkD kd) v).map (·.1) ∧ RepAll K B (keysPut ks (kvs.map fun kv => nkD kv.1) y (nkD kd)) ((dPutK kvs kd vd).map (·.1)) ∧
    RepAll K B ((putK ((kvs.map fun kv => nkD kv.1).zip ws) (nkD kd) v).map (·.2)) ((dPutK kvs kd vd).map (·.2)) := by
  obtain ⟨o1, o2⟩ := keyOk_okK (kv := (kd, kd)) ok
  have an : (kvs.any fun kv => eqD kv.1 kd) = decide (nkD kd ∈ kvs.map fun kv => nkD kv.1) := by
    rw [Bool.eq_iff_iff]
    simp only [List.any_eq_true, decide_eq_true_eq, List.mem_map]
    constructor
    · rintro ⟨kv, hm, e⟩
      rw [nk_inj (o2 kv hm) o1, decide_eq_true_eq] at e
      exact ⟨kv, hm, e⟩
    · rintro ⟨kv, hm, e⟩
      exact ⟨kv, hm, by rw [nk_inj (o2 kv hm) o1, decide_eq_true_eq]; exact e⟩
  have lw : ws.length = kvs.length := by
    have := hw.len
    simpa using this
  have an2 : (((kvs.map fun kv => nkD kv.1).zip ws).any fun kv => decide (kv.1 = nkD kd)) = decide (nkD kd ∈ kvs.map fun kv => nkD kv.1) := by
    have := zip_fst (kvs.map fun kv => nkD kv.1) ws (by simpa using lw)
    rw [Bool.eq_iff_iff]
    simp only [List.any_eq_true, decide_eq_true_eq]
    constructor
    · rintro ⟨kv, hm, e⟩
      rw [← this, List.mem_map]
      exact ⟨kv, hm, e⟩
    · intro hm
      rw [← this, List.mem_map] at hm
      exact hm
  refine ⟨?_, ?_, ?_⟩
  · rw [put_fst, zip_fst _ _ (by simpa using lw)]
    unfold dPutK
    rw [an]
    by_cases c : nkD kd ∈ kvs.map fun kv => nkD kv.1
    · rw [if_pos (decide_eq_true c), if_pos c, List.map_map]
      refine List.map_congr_left fun kv _ => ?_
      simp only [Function.comp]
      split <;> rfl
    · rw [if_neg (by simpa using c), if_neg c]
      simp
  · unfold keysPut dPutK
    rw [an]
    by_cases c : nkD kd ∈ kvs.map fun kv => nkD kv.1
    · rw [if_pos c, if_pos (decide_eq_true c), List.map_map]
      have : (kvs.map ((fun x : D × D => x.1) ∘ fun kv => if eqD kv.1 kd = true then (kv.1, vd) else kv)) = kvs.map (·.1) := by
        refine List.map_congr_left fun kv _ => ?_
        simp only [Function.comp]
        split <;> rfl
      rw [this]
      exact hk
    · rw [if_neg c, if_neg (by simpa using c), List.map_append]
      exact hk.append (.cons hy .nil)
  · unfold putK dPutK
    rw [an, an2]
    by_cases c : nkD kd ∈ kvs.map fun kv => nkD kv.1
    · rw [if_pos (decide_eq_true c), if_pos (decide_eq_true c)]
      clear an an2 ok hk c lw
      induction kvs generalizing ws with
      | nil =>
        cases hw
        exact .nil
      | cons kv kvs ih =>
        cases hw with
        | cons h r =>
          simp only [List.map_cons, List.zip_cons_cons]
          have e := nk_inj (o2 kv List.mem_cons_self) o1
          have ih := ih r fun x hx => o2 x (List.mem_cons_of_mem _ hx)
          by_cases c : nkD kv.1 = nkD kd
          · rw [decide_eq_true c] at e
            rw [if_pos c, if_pos e]
            exact .cons hv ih
          · rw [decide_eq_false c] at e
            rw [if_neg c, if_neg (by rw [e]; decide)]
            exact .cons h ih
    · rw [if_neg (by simpa using c), if_neg (by simpa using c), List.map_append, List.map_append]
      refine RepAll.append ?_ (.cons hv .nil)
      have : ∀ {κ : Type} (ns : List κ) (ws : List V), ws.length = ns.length → (ns.zip ws).map (·.2) = ws := by
        intro κ ns
        induction ns with
        | nil => intro ws h; cases ws with
          | nil => rfl
          | cons _ _ => simp at h
        | cons n ns ih => intro ws h; cases ws with
          | nil => simp at h
          | cons w ws => rw [List.zip_cons_cons, List.map_cons, ih ws (by simpa using h)]
      rw [this _ _ (by simpa using lw)]
      exact hw
/-- a look-up in the heap -/
theorem nget_of (hb : Same B H) (h : DicOk K B H a kvs) (hy : View K B H y kd) (ok : keyOk kvs kd = true) :
    (∀ d, dGetK kvs kd = some d → ∃ w, NGet K H a y (some w) ∧ Rep K B w d) ∧ (dGetK kvs kd = none → NGet K H a y none) := by
  obtain ⟨es, ep, ks, ws, h1, sy, en, rk, rw'⟩ := h
  obtain ⟨o1, o2⟩ := keyOk_okK (kv := (kd, kd)) ok
  have dk := dkind_of hb rk hy ok
  obtain ⟨v1, v2⟩ := val_get o1 rw' o2
  refine ⟨fun d e => ?_, fun e => ?_⟩
  · obtain ⟨w, e1, e2⟩ := v1 d e
    exact ⟨w, ⟨ks, ws, _, es, ep, nkD kd, ⟨h1, sy, en.each, en.nodup⟩, dk, e1.symm⟩, e2⟩
  · exact ⟨ks, ws, _, es, ep, nkD kd, ⟨h1, sy, en.each, en.nodup⟩, dk, (v2 e).symm⟩
theorem nput_of (hb : Same B H) (h : DicOk K B H a kvs) (hy : Rep K B y kd) (hv : Rep K B v vd) (ok : keyOk kvs kd = true) (hl : kvs.length < 16777216) {R : Hp → Prop}
    (fin : ∀ es ep, DicOk K B (L2.upd H a (rawO a es ep)) a (dPutK kvs kd vd) → R (L2.upd H a (rawO a es ep))) : NPut K H a y v R := by
  obtain ⟨es, ep, ks, ws, h1, sy, en, rk, rw'⟩ := h
  have dk := dkind_of hb rk (view_rep hy hb) ok
  obtain ⟨p1, p2, p3⟩ := put_reps rk rw' ok hy hv
  refine ⟨ks, ws, _, es, ep, nkD kd, ⟨h1, sy, en.each, en.nodup⟩, dk, by rw [List.length_map, ← size_is]; exact hl, fun es' ep' nd => fin es' ep' ⟨es', ep', _, _, nd.at_, sy, ⟨?_, ?_⟩, p2, p3⟩⟩
  · rw [p1]; exact nd.each
  · rw [p1]; exact nd.nodup
/-- a part that is a dict is given another content -/
theorem SR.changeD {i n q : Nat} {p : List Nat} {kvs kvs' : List (D × D)} (S : SR K g B s r z H) (h : getP r i p q = some (.od n kvs)) :
    n = q ∧ DicOk K B H q kvs ∧ ∀ o, DicOk K B (L2.upd H q o) q kvs' → SR K g B s (setP r i p (.od n kvs')) z (L2.upd H q o) := by
  obtain ⟨f, l, e1, e2, _⟩ := getP_eq h
  have e2 : n = q := e2
  subst e2
  obtain ⟨v, hv, en⟩ := S.env i _ l
  obtain ⟨w0, ⟨_, h1⟩, _⟩ := ow_at en.1 e1
  refine ⟨rfl, h1, fun o ho => ?_⟩
  rw [setP_of l]
  refine SR.tradeP (zo := []) (zn := []) S l e1 (fun a o' e q _ => ?_) (fun a e => ?_) (fun w1 hw1 => ?_) (fun a q => Or.inl q) (fun x hx => by cases hx) (fun x hx => by cases hx) (fun x hx => by cases hx) (fun x hx => by cases hx) List.Pairwise.nil
  · rw [upd_ne fun e' => q (by rw [e']; simp [idsF])]
    exact e
  · by_cases q : a = n
    · subst q
      rw [upd_same]; simp
    · rw [upd_ne q]; exact e
  · exact ⟨hw1.1, ho⟩
end
end J
namespace J
open PySem L2
section
variable {X : Cx} {g : G} {c : Cl} {W : WX} {L : List Nat}
theorem un_of {k : Nat} {A : Around} (hr : Room k A) : A.units + 16 < cLine := by
  have := hr.un
  omega
abbrev rNGet (K : PySem.W.Frag) : R2 := fun x y H Q => ∃ a v, x = .ref a ∧ NGet K H a y (some v) ∧ Q v H
theorem ops_getK : OpS X.K g (rNGet X.K) oGetK := fun B s r z H v w x y Q Qv S h1 h2 q k => by
  unfold oGetK at q
  split at q
  · rename_i kvs
    obtain ⟨a, rfl, dd⟩ := h1
    obtain ⟨ok, q⟩ := q
    split at q
    · rename_i d e
      obtain ⟨u, g1, g2⟩ := (nget_of S.bh dd h2 ok).1 d e
      exact ⟨a, u, rfl, g1, k u H B _ (S.push g2) q⟩
    · exact q.elim
  · exact q.elim
theorem j_getK {k : Nat} (hr : Room k X.A) {a b : Expr} {da db : DE} {pos : Pos} (ha : JE X g c W a da) (hb : JE X g c W b db) (hs : NoSl b := by exact fun _ _ => rfl) : JE X g c W (.Subscript a b pos) (dOp oGetK da db) := by
  obtain ⟨ta, pa, sa⟩ := ha.ex
  obtain ⟨tb, pb, sb⟩ := hb.ex
  exact ⟨_, pe_nget (un_of hr) pa pb hs, es_op sa sb ops_getK⟩
theorem jo_inK {k : Nat} (hr : Room k X.A) : OpR X (compareOp .In) (rNIn X.K false) ∧ OpS X.K g (rNIn X.K false) (oInK false) := by
  refine ⟨op_nin (un_of hr), fun B s r z H v w x y Q Qv S h1 h2 q k => ?_⟩
  unfold oInK at q
  split at q
  · rename_i kvs
    obtain ⟨a, rfl, dd⟩ := h2
    obtain ⟨ok, q⟩ := q
    have nn := nget_of S.bh dd h1 ok
    cases e : dGetK kvs x with
    | none =>
      rw [e] at q
      exact ⟨a, none, rfl, nn.2 e, k _ H B _ (S.push (.bl _)) q⟩
    | some d =>
      rw [e] at q
      obtain ⟨u, g1, _⟩ := nn.1 d e
      exact ⟨a, some u, rfl, g1, k _ H B _ (S.push (.bl _)) q⟩
  · exact q.elim
theorem jo_niK {k : Nat} (hr : Room k X.A) : OpR X (compareOp .NotIn) (rNIn X.K true) ∧ OpS X.K g (rNIn X.K true) (oInK true) := by
  refine ⟨op_nni (un_of hr), fun B s r z H v w x y Q Qv S h1 h2 q k => ?_⟩
  unfold oInK at q
  split at q
  · rename_i kvs
    obtain ⟨a, rfl, dd⟩ := h2
    obtain ⟨ok, q⟩ := q
    have nn := nget_of S.bh dd h1 ok
    cases e : dGetK kvs x with
    | none =>
      rw [e] at q
      exact ⟨a, none, rfl, nn.2 e, k _ H B _ (S.push (.bl _)) q⟩
    | some d =>
      rw [e] at q
      obtain ⟨u, g1, _⟩ := nn.1 d e
      exact ⟨a, some u, rfl, g1, k _ H B _ (S.push (.bl _)) q⟩
  · exact q.elim
/-- a new dict of one's own -/
theorem SR.newD {K : PySem.W.Frag} {B H : Hp} {s : L2.St} {r : Env} {z : Stk} {p : Addr} {es : Array DictEntry} {ep : Nat} {kvs : List (D × D)} (S : SR K g B s r z H) (hp : H p = none) (h : DicOk K B (L2.upd H p (rawO p es ep)) p kvs) :
    SR K g B s r ((.ref p, .own (.od p kvs)) :: z) (L2.upd H p (rawO p es ep)) :=
  S.ownG (sm_new hp) ⟨⟨rfl, h⟩, fun a q => by
    have : a = p := by simpa [fpF, idsF] using q
    subst this
    exact ⟨S.bnone hp, Or.inl (S.h0none hp)⟩⟩ (fun a q => by
    have : a = p := by
      have q : a ∈ idsF (F.od p kvs) := q
      simpa [idsF] using q
    subst this
    exact hp) fun i e => by cases e
theorem dicOk_nil {K : PySem.W.Frag} {B H : Hp} {p : Addr} (hs : (p == sysModules) = false) : DicOk K B (L2.upd H p (rawO p #[] 0)) p [] := ⟨#[], 0, [], [], upd_same, hs, ⟨.nil, List.nodup_nil⟩, .nil, .nil⟩
theorem j_dic0 {pos : Pos} : JE X g c W (.Dict [] [] pos) dDic0 :=
  ⟨_, pe_nnew, fun s H r B z Y Q Qv _ S h k p hp hs => k _ _ B r _ (S.newD hp (dicOk_nil hs)) (h p)⟩
theorem j_dic1 {k0 : Nat} (hr : Room k0 X.A) {k v : Expr} {dk dv : DE} {pos : Pos} (hk : JE X g c W k dk) (hv : JE X g c W v dv) : JE X g c W (.Dict [some k] [v] pos) (dDic1 dk dv) := by
  obtain ⟨tk, pk, sk⟩ := hk.ex
  obtain ⟨tv, pv, sv⟩ := hv.ex
  refine ⟨_, pe_ndisp1 (un_of hr) pk pv, fun s H r B z Y Q Qv lw S h kq p hp hs => ?_⟩
  have S0 := S.newD hp (dicOk_nil (K := X.K) (B := B) hs)
  refine sk s _ r B _ Y _ _ lw.ext S0 h fun y H1 B1 r1 t1 S1 q1 => ?_
  refine sv s H1 r1 B1 _ Y _ _ lw.ext.ext S1 q1 fun w H2 B2 r2 t2 S2 q2 => ?_
  split at q2
  · rename_i kd vd
    have en := S2.pop.pop.top
    obtain ⟨⟨_, dd⟩, _⟩ := id en
    refine nput_of S2.bh dd S2.pop.top S2.top q2.1 (by simp) fun es ep dd2 => ?_
    refine kq _ _ B2 r2 _ ?_ (q2.2 p)
    have e : dPutK [] kd vd = [(kd, vd)] := rfl
    rw [e] at dd2
    refine SR.tradeZ (zo := [(.ref p, .own (.od p []))]) (zn := [(.ref p, .own (.od p [(kd, vd)]))]) S2.pop.pop (fun a o e q => ?_) (fun a e => ?_) (fun x hx => ?_) (fun x hx a q => ?_) (fun x hx j e => ?_) (List.pairwise_singleton _ _)
    · rw [upd_ne fun e' => q _ (List.mem_singleton.mpr rfl) (by
        have : a ∈ idsF (F.od p []) := by simp [idsF, e']
        exact this)]
      exact e
    · by_cases q : a = p
      · subst q; rw [upd_same]; simp
      · rw [upd_ne q]; exact e
    · rw [List.mem_singleton] at hx
      subst hx
      exact ⟨⟨rfl, dd2⟩, fun a q => en.2 a q⟩
    · rw [List.mem_singleton] at hx
      subst hx
      exact Or.inl ⟨_, List.mem_singleton.mpr rfl, q⟩
    · rw [List.mem_singleton] at hx
      subst hx
      cases e
  · exact q2.elim
theorem SR.raw {K : PySem.W.Frag} {B H : Hp} {a : Addr} {kvs : List (D × D)} (h : DicOk K B H a kvs) : (∃ es ep, H a = some (rawO a es ep)) ∧ (a == sysModules) = false := by
  obtain ⟨es, ep, _, _, h1, h2, _⟩ := h
  exact ⟨⟨es, ep, h1⟩, h2⟩
theorem j_get2 {k0 : Nat} (hr : Room k0 X.A) {o e f : Expr} {dob de df : DE} {apos cpos : Pos} (ho : JE X g c W o dob) (he : JE X g c W e de) (hf : JE X g c W f df) (m : M2 X o "get" apos e f cpos := by exact ⟨rfl, rfl, rfl, rfl⟩) :
    JE X g c W (.Call (.Attribute o "get" apos) [e, f] [] cpos) (dGet2 dob de df) := by
  obtain ⟨to, po, so⟩ := ho.ex
  obtain ⟨te, pe, se⟩ := he.ex
  obtain ⟨tf, pf, sf⟩ := hf.ex
  refine ⟨_, pe_nget2 (un_of hr) po pe pf m, fun s H r B z Y Q Qv lw S h k => ?_⟩
  refine so s H r B z Y _ _ lw S h fun x H1 B1 r1 t1 S1 q1 => ?_
  obtain ⟨⟨kvs, e1⟩, q1⟩ := q1
  have vw := S1.view List.mem_cons_self e1
  obtain ⟨a, rfl, dd⟩ := vw
  obtain ⟨rw1, sy⟩ := SR.raw dd
  refine ⟨a, rfl, rw1, sy, ?_⟩
  refine se s H1 r1 B1 _ Y _ _ lw.ext S1 q1 fun y H2 B2 r2 t2 S2 q2 => ?_
  refine sf s H2 r2 B2 _ Y _ _ lw.ext.ext S2 q2 fun w H3 B3 r3 t3 S3 q3 => ?_
  split at q3
  · rename_i kvs' kd xd e2 e3
    obtain ⟨a', ea, dd3⟩ := S3.view (List.mem_cons_of_mem _ (List.mem_cons_of_mem _ List.mem_cons_self)) e2
    cases ea
    have vy := S3.view (List.mem_cons_of_mem _ List.mem_cons_self) e3
    obtain ⟨n1, n2⟩ := nget_of S3.bh dd3 vy q3.1
    cases e : dGetK kvs' kd with
    | none =>
      rw [e] at q3
      exact ⟨none, n2 e, k _ H3 B3 r3 _ (S3.pop.pop.pop.push S3.top) q3.2⟩
    | some d =>
      rw [e] at q3
      obtain ⟨u, g1, g2⟩ := n1 d e
      exact ⟨some u, g1, k _ H3 B3 r3 _ (S3.pop.pop.pop.push g2) q3.2⟩
  · exact q3.elim
theorem getP_own {r : Env} {i q : Nat} {kvs : List (D × D)} (h : look r i = some (.own (.od q kvs))) : getP r i [] q = some (.od q kvs) := by
  unfold getP
  rw [h]
  simp
theorem setP_own {r : Env} {i q : Nat} {kvs : List (D × D)} {g : F} (h : look r i = some (.own (.od q kvs))) : setP r i [] g = put r i (some (.own g)) := by
  unfold setP
  rw [h]
  rfl
theorem js_setK {k0 : Nat} (hr : Room k0 X.A) {i : Nat} {x : Str} {e ke : Expr} {de dk : DE} {px ps pos : Pos} (he : JE X g c W e de) (hk : JE X g c W ke dk) (hN : X.N[i]? = some x := by rfl) (hv : Vis X.env.scope x := by first | exact Or.inl rfl | exact Or.inr (Or.inl rfl) | exact Or.inr (Or.inr rfl))
    (hd : (x == ("__debug__" : Str)) = false := by decide) (hcd : (x == ("__classdict__" : Str)) = false := by decide) (hs : swapsWith e (some (.Subscript (.Name x px) ke ps)) pos.line X.env = pure false := by rfl) :
    JS X g c W L (.Assign [.Subscript (.Name x px) ke ps] e pos) (dSetK i dk de) := by
  obtain ⟨te, pe, se⟩ := he.ex
  obtain ⟨tk, pk, sk⟩ := hk.ex
  refine ⟨_, ps_nput (un_of hr) (pe_var hN hv hd hcd) pk pe hs, fun s H r B z Y E D lw S hl h k => ?_⟩
  refine se s H r B z Y _ _ lw S h fun v H1 B1 r1 t1 S1 q1 => ?_
  obtain ⟨h0, q1⟩ := q1
  cases l0 : look r1 i with
  | none => rw [l0] at h0; exact h0.elim
  | some t0 =>
    obtain ⟨v0, e1, e2⟩ := S1.env i _ l0
    refine ⟨v0, e1, ?_⟩
    refine sk s H1 r1 B1 _ Y _ _ lw.ext S1 q1 fun y H2 B2 r2 t2 S2 q2 => ?_
    split at q2
    · rename_i vd kd q kvs l2
      obtain ⟨v1, f1, en⟩ := S2.env i _ l2
      rw [e1] at f1
      cases f1
      obtain ⟨rfl, dd⟩ := id en.1
      refine ⟨q, rfl, ?_⟩
      refine nput_of S2.bh dd S2.top S2.pop.top q2.1 q2.2.1 fun es ep dd2 => ?_
      have S3 := S2.pop.pop
      obtain ⟨_, _, ch⟩ := S3.changeD (kvs' := dPutK kvs kd vd) (getP_own l2)
      have S4 := ch _ dd2
      rw [setP_own l2] at S4
      exact k.nx s _ B2 _ S4 q2.2.2
    · exact q2.elim
theorem js_psetK {k0 : Nat} (hr : Room k0 X.A) {o e ke : Expr} {dob de dk : DE} {ps pos : Pos} (ho : JE X g c W o dob) (he : JE X g c W e de) (hk : JE X g c W ke dk) (hs : swapsWith e (some (.Subscript o ke ps)) pos.line X.env = pure false := by rfl) :
    JS X g c W L (.Assign [.Subscript o ke ps] e pos) (dPsetK dob dk de) := by
  obtain ⟨to, po, so⟩ := ho.ex
  obtain ⟨te, pe, se⟩ := he.ex
  obtain ⟨tk, pk, sk⟩ := hk.ex
  refine ⟨_, ps_nput (un_of hr) po pk pe hs, fun s H r B z Y E D lw S hl h k => ?_⟩
  refine se s H r B z Y _ _ lw S h fun v H1 B1 r1 t1 S1 q1 => ?_
  refine so s H1 r1 B1 _ Y _ _ lw.ext S1 q1 fun x H2 B2 r2 t2 S2 q2 => ?_
  split at q2
  · rename_i i p q
    have ev : x = V.ref q := S2.top
    subst ev
    refine sk s H2 r2 B2 _ Y _ _ lw.ext.ext S2 q2 fun y H3 B3 r3 t3 S3 q3 => ?_
    split at q3
    · rename_i vd kd n kvs l3
      have S4 := S3.pop.pop.pop
      obtain ⟨rfl, dd, ch⟩ := S4.changeD (kvs' := dPutK kvs kd vd) l3
      refine ⟨n, rfl, ?_⟩
      refine nput_of S3.bh dd S3.top S3.pop.pop.top q3.1 q3.2.1 fun es ep dd2 => ?_
      exact k.nx s _ B3 _ (ch _ dd2) q3.2.2
    · exact q3.elim
  · exact q2.elim
end
end J

/-! JL28: walks over dicts, dict comprehensions. -/
namespace J
open PySem L2
/-- the same account, from here on: what is shared now stays -/
def rb (g : G) (B1 : Hp) : G := ⟨g.H0, B1, g.M, g.cs, g.n, g.xs⟩
/-- what an iterator does while z1 stands on the stack -/
def Jok1 (K : PySem.W.Frag) (g : G) (J : It) (ds : List D) (st : Env → Prop) (z1 : Stk) : Prop := ∀ (i : Nat) (s : L2.St) (H B : Hp) (r : Env) (z : Stk), SR K g B s r z H → z1 <:+ z → st r →
  (i < ds.length → J.go i H ∧ ∀ x H2, J.yld i H x H2 → ∃ B2 d, ds[i]? = some d ∧ SR K g B2 s r ((x, .sh d) :: z) H2) ∧ (ds.length ≤ i → J.stop i H)
section
variable {K : PySem.W.Frag} {g : G} {B B1 B' H H1 H' : Hp} {s s1 : L2.St} {r r1 : Env} {z z1 : Stk} {v w y : V} {t : T} {c : Cl} {W : WX}
theorem Jok1.of {J : It} {ds : List D} {st : Env → Prop} (h : JOk K g J ds st v t) : Jok1 K g J ds st ((v, t) :: z) := fun i s H B r z2 S hz hs => h i s H B r z2 S (hz.subset List.mem_cons_self) hs
theorem SR.rb (S : SR K g B s r z H) : SR K (J.rb g B) B s r z H := ⟨Same.refl _, S.bh, fun a q => Or.inl q, S.h0, S.hm, S.len, S.ln, S.env, S.stk, S.al, S.d1, S.d2, S.d3, S.ea⟩
theorem SR.unrb (S1 : SR K g B1 s1 r1 z1 H1) (S : SR K (J.rb g B1) B s r z H) : SR K g B s r z H :=
  ⟨S1.b0.trans S.b0, S.bh, fun a q => by
    rcases S.fr a q with h | h | h
    · exact S1.fr a h
    · exact Or.inr (Or.inl h)
    · exact Or.inr (Or.inr h), S.h0, S.hm, S.len, S.ln, S.env, S.stk, S.al, S.d1, S.d2, S.d3, S.ea⟩
theorem LW.rb {Y : XD} {z2 : Stk} (S1 : SR K g B1 s1 r1 z1 H1) (h : LW K g c W Y z2) : LW K (J.rb g B1) c W Y z2 := fun cls d H s r B z e hs S er hy => h cls d H s r B z e hs (S1.unrb S) er hy
/-- an own dict on the stack with another content -/
theorem SR.putZ {p : Addr} {kvs kvs' : List (D × D)} {es : Array DictEntry} {ep : Nat} (S : SR K g B s r ((.ref p, .own (.od p kvs)) :: z) H) (h : DicOk K B (L2.upd H p (rawO p es ep)) p kvs') :
    SR K g B s r ((.ref p, .own (.od p kvs')) :: z) (L2.upd H p (rawO p es ep)) := by
  have en := S.top
  have one : ∀ {a : Addr} {l : List (D × D)}, fpT H (V.ref p) (.own (.od p l)) a ↔ a = p := fun {a l} => by
    show a ∈ idsF (F.od p l) ↔ _
    simp [idsF]
  refine SR.tradeZ (zo := [(.ref p, .own (.od p kvs))]) (zn := [(.ref p, .own (.od p kvs'))]) S (fun a o e q => ?_) (fun a e => ?_) (fun x hx => ?_) (fun x hx a q => ?_) (fun x hx j e => ?_) (List.pairwise_singleton _ _)
  · rw [upd_ne fun e' => q _ (List.mem_singleton.mpr rfl) (one.mpr e')]
    exact e
  · by_cases q : a = p
    · subst q; rw [upd_same]; simp
    · rw [upd_ne q]; exact e
  · rw [List.mem_singleton] at hx
    subst hx
    exact ⟨⟨rfl, h⟩, fun a q => en.2 a (one.mpr (one.mp q))⟩
  · rw [List.mem_singleton] at hx
    subst hx
    exact Or.inl ⟨_, List.mem_singleton.mpr rfl, one.mpr (one.mp q)⟩
  · rw [List.mem_singleton] at hx
    subst hx
    cases e
theorem dPut_len (kvs : List (D × D)) (k v : D) : (dPutK kvs k v).length ≤ kvs.length + 1 := by
  unfold dPutK
  split <;> simp
/-- the turns of a dict comprehension -/
theorem dc_loop {J : It} {tg : TG} {tt : TT} {tk te : TE} {ds : List D} {st : Env → Prop} {dg : DG} {dt : DT} {dk de : DE} {sets vs : List Nat} {Q : QE} {Qv : VK} (hg : GSm K g (· ∉ g.cs) sets tg dg) (ht : TSm K g c W0 tt dt) (hk : ES K g c W0 tk dk) (he : ES K g c W0 te de) (hv : ∀ i, i ∈ vs → i ∈ g.cs) (hsub : ∀ i, i ∈ sets → i ∈ vs)
    (S1 : SR K g B1 s r1 z1 H1) (jok : Jok1 K g J ds st z1) (q1 : dcOk ds st dg dt dk de vs Q r1) (k : ∀ v H' B' r' t, SR K g B' s r' ((v, t) :: z1) H' → Q t r' → Qv v H') :
    ∀ D, H1 D = none → (D == sysModules) = false → ∃ Z : Nat → Nat → Hp → Prop, (∃ n, Z 0 n (L2.upd H1 D (rawO D #[] 0))) ∧
      ∀ i n G, Z i n G → (J.stop i G ∧ Qv (.ref D) G) ∨ (J.go i G ∧ ∃ F : Hp → Prop, (∀ G', F G' → ∃ n', n' < n ∧ Z (i + 1) n' G') ∧
        ∀ x G1, J.yld i G x G1 → tg x (wipe s vs) G1 fun τ G2 => wipe τ vs = wipe s vs ∧ tt τ G2 fun b G3 => if b = true then tk τ G3 fun y G4 => te τ G4 fun z G5 => NPut K G5 D y z F else F G3) := by
  intro D hD hs
  obtain ⟨I, i0, hst, hf, hlen, hq⟩ := q1
  have lw0 : ∀ z, LW K g c W0 (fun _ _ => False) z := fun _ _ _ _ _ _ _ _ _ _ _ _ y => y.elim
  have S2 := (S1.newD hD (dicOk_nil (K := K) (B := B1) hs)).wiped (s' := wipe s vs) hv (wipe_length s vs) fun i hi => wipe_ne hi
  refine ⟨fun i m G => ∃ B' r' acc, SR K g B' (wipe s vs) r' ((.ref D, .own (.od D acc)) :: z1) G ∧ I i acc r' ∧ i ≤ ds.length ∧ m = ds.length - i, ⟨ds.length, B1, _, [], S2, i0, Nat.zero_le _, rfl⟩, fun i m G hW => ?_⟩
  obtain ⟨B', r', acc, S', hI, hle, rfl⟩ := hW
  obtain ⟨hs1, hs2, hs3⟩ := hst i acc r' hI
  obtain ⟨jgo, jstop⟩ := jok i (wipe s vs) G B' _ _ S' (List.suffix_cons _ _) hs1
  by_cases hlt : i < ds.length
  · obtain ⟨go, yl⟩ := jgo hlt
    refine Or.inr ⟨go, fun G2 => ∃ B2 r2 acc2, SR K g B2 (wipe s vs) r2 ((.ref D, .own (.od D acc2)) :: z1) G2 ∧ I (i + 1) acc2 r2, fun G2 ⟨B2, r2, acc2, S2, hI2⟩ => ⟨ds.length - (i + 1), by omega, B2, r2, acc2, S2, hI2, hlt, rfl⟩, fun x G2 hy => ?_⟩
    obtain ⟨B2, d, ed, S3⟩ := yl x G2 hy
    refine hg (wipe s vs) G2 _ B2 _ x d _ _ S3 (fun i w hw => S3.al i w (List.mem_cons_of_mem _ hw)) (hf i d acc r' ed hI) fun s4 G4 B4 r4 S4 l4 n4 q4 => ?_
    have ws : wipe s4 vs = wipe s vs := by
      rw [← wipe_wipe s vs]
      exact wipe_ext l4 fun i hi => n4 i fun h => hi (hsub i h)
    refine ⟨ws, ?_⟩
    have back : ∀ {B5 H5 : Hp} {r5 : Env} {z5 : Stk}, SR K g B5 s4 r5 z5 H5 → SR K g B5 (wipe s vs) (wipeE r5 vs) z5 H5 := fun {B5 H5 r5 z5} S5 => by
      rw [← ws]
      exact S5.wiped hv (wipe_length s4 vs) fun i hi => wipe_ne hi
    refine ht s4 G4 r4 B4 _ _ _ _ (lw0 _) S4 q4 fun b H5 B5 r5 S5 q5 => ?_
    cases b with
    | true =>
      refine hk s4 H5 r5 B5 _ _ _ _ (lw0 _) S5 q5 fun y H6 B6 r6 t6 S6 q6 => ?_
      refine he s4 H6 r6 B6 _ _ _ _ (lw0 _) S6 q6 fun u H7 B7 r7 t7 S7 q7 => ?_
      split at q7
      · rename_i kd vd
        have S8 := S7.pop.pop
        obtain ⟨⟨_, dd⟩, _⟩ := id S8.top
        refine nput_of S7.bh dd S7.pop.top S7.top q7.1 (by omega) fun es ep dd2 => ?_
        exact ⟨B7, _, _, back (S8.putZ dd2), q7.2⟩
      · exact q7.elim
    | false => exact ⟨B5, _, _, back S5, q5⟩
  · have e : i = ds.length := by omega
    subst e
    refine Or.inl ⟨jstop (Nat.le_refl _), ?_⟩
    have S8 := S'.wiped (s' := s) hv (wipe_length s vs).symm fun i hi => (wipe_ne hi).symm
    rw [hs3] at S8
    exact k _ _ B' _ _ S8 (hq acc r' hI D)
end
section
variable {X : Cx} {g : G} {c : Cl} {W : WX} {L : List Nat}
theorem SR.under1 {K : PySem.W.Frag} {B H : Hp} {s : L2.St} {r : Env} {z : Stk} {x y : V × T} (S : SR K g B s r (x :: y :: z) H) : SR K g B s r (x :: z) H := S.under
theorem j_dc {k0 : Nat} (hr : Room k0 X.A) {kx vx tg iter : Expr} {ifs : List Expr} {scope : Scope} {own : List (Str × Nat)} {pos : Pos} {di : DI} {dg : DG} {dt : DT} {dk de : DE} {ks sets vs : List Nat} (hc : X.calm = true) (hN : X.N.Nodup) (hi : JI X g c W ks tg iter di) (ok : BlkOk X.N X.env.scope scope own) (hvs : own.map (·.2) = vs) (hv : ∀ i, i ∈ vs → i ∈ g.cs) (hsub : ∀ i, i ∈ sets → i ∈ vs)
    (hg : ∀ (s : Shared) (H : Hp) (C : Addr) (cl : List (Str × Addr)) (fp : List Addr), JG (X.blk s H scope (compEnvC scope cl C X.env) fp) g (· ∉ g.cs) sets tg dg)
    (ht : ∀ (s : Shared) (H : Hp) (C : Addr) (cl : List (Str × Addr)) (fp : List Addr), JTs (X.blk s H scope (compEnvC scope cl C X.env) fp) g c W0 ifs dt)
    (hk : ∀ (s : Shared) (H : Hp) (C : Addr) (cl : List (Str × Addr)) (fp : List Addr), JE (X.blk s H scope (compEnvC scope cl C X.env) fp) g c W0 kx dk)
    (he : ∀ (s : Shared) (H : Hp) (C : Addr) (cl : List (Str × Addr)) (fp : List Addr), JE (X.blk s H scope (compEnvC scope cl C X.env) fp) g c W0 vx de) (hs : ∀ x, foldedSetIterable iter X.env x = pure x := by intro _; rfl) :
    JE X g c W (.DictComp kx vx [⟨tg, iter, ifs, 0⟩] scope pos) (dDC di dg dt dk de vs) := by
  obtain ⟨wi, pi, si⟩ := hi.ex
  subst hvs
  refine ⟨_, pe_ndc (g := canonG X.K g (· ∉ g.cs) sets dg) (tt := canonT X.K g c W0 dt) (tk := canonE X.K g c W0 dk) (tv := canonE X.K g c W0 de) (un_of hr) hc hN pi ok (fun s H C cl fp => (hg s H C cl fp).canon) (fun s H C cl fp => (ht s H C cl fp).canon) (fun s H C cl fp => (hk s H C cl fp).canon) (fun s H C cl fp => (he s H C cl fp).canon) hs, fun s H r B z Y Q Qv lw S h k => ?_⟩
  refine si s H r B z Y _ _ lw S h fun J H1 B1 r1 ds st v t S1 _ q1 jok => ?_
  exact dc_loop (canonG_ok (P := (· ∉ g.cs))) canonT_ok canonE_ok canonE_ok hv hsub S1 (.of jok) q1 fun v' H' B' r' t' S' q => k v' H' B' r' t' S'.under q
/-! ### over a dict -/
/-- what walks the keys (0), the values (1), the items (2) of e -/
inductive WalkK (X : Cx) (tg : Expr) : Nat → Expr → Expr → Prop
  | keys (e : Expr) : WalkK X tg 0 e e
  | vals {e : Expr} {apos cpos : Pos} (hbase : attributeBase e "values" X.env (eval e X.env) = eval e X.env) (hline : (apos.endLine == cpos.line) = true) : WalkK X tg 1 e (.Call (.Attribute e "values" apos) [] [] cpos)
  | items {e : Expr} {apos cpos tpos : Pos} {elts : List Expr} {kk : Nat} (ht : tg = .Tuple elts kk tpos) (hbase : attributeBase e "items" X.env (eval e X.env) = eval e X.env) (hline : (apos.endLine == cpos.line) = true) : WalkK X tg 2 e (.Call (.Attribute e "items" apos) [] [] cpos)
def JK : Nat → Addr → Array DictEntry → Nat → List V → List V → It
  | 0, d, es, ep, ks, _ => Itn d es ep ks
  | 1, d, es, ep, _, ws => Itn d es ep ws
  | _, d, es, ep, ks, ws => Itni d es ep ks ws
def iNW (w : Nat) (td : TE) : TI := fun σ H R => td σ H fun x H1 => ∃ d es ep ks ws ns, x = .ref d ∧ H1 d = some (rawO d es ep) ∧ (d == sysModules) = false ∧ Ents ks ws ns es.toList ∧ R (JK w d es ep ks ws) H1
theorem pi_w {tg e iter : Expr} {w : Nat} {td : TE} (h : WalkK X tg w e iter) (he : PE X e td) : PI X tg iter (iNW w td) := by
  cases h with
  | keys => exact pi_nkeys he
  | vals h1 h2 => exact pi_nvals he h1 h2
  | items ht h1 h2 => subst ht; exact pi_nitems he h1 h2
/-- what stays as it is from here on -/
theorem pinned {K : PySem.W.Frag} {B B1 H : Hp} {s : L2.St} {r : Env} {z : Stk} {a : Addr} {o : HO} (S : SR K (rb g B1) B s r z H) (h : B1 a = some o ∨ (g.H0 a = some o ∧ a ∉ g.M)) : H a = some o := by
  rcases h with h | ⟨h, m⟩
  · exact S.bh _ _ (S.b0 _ _ h)
  · exact S.h0 _ _ h m
theorem jok_w {K : PySem.W.Frag} {B1 : Hp} {w : Nat} {a : Addr} {es : Array DictEntry} {ep : Nat} {ks ws : List V} {kvs : List (D × D)} {z1 : Stk} (h : B1 a = some (rawO a es ep) ∨ (g.H0 a = some (rawO a es ep) ∧ a ∉ g.M)) (rk : RepAll K B1 ks (kvs.map (·.1))) (rw' : RepAll K B1 ws (kvs.map (·.2))) :
    Jok1 K (rb g B1) (JK w a es ep ks ws) (kvs.map (pickK w)) (fun _ => True) z1 := fun i s H B r z S _ _ => by
  have lk := rk.len
  have lw := rw'.len
  rw [List.length_map] at lk lw
  have hp := pinned S h
  have sub : ∀ {v d}, Rep K B1 v d → Rep K B v d := fun h => h.mono S.b0
  rw [List.length_map]
  have at_ : ∀ {i : Nat}, i < kvs.length → ∃ kv, kvs[i]? = some kv := fun hi => ⟨_, List.getElem?_eq_getElem hi⟩
  match w with
  | 0 =>
    refine ⟨fun hi => ⟨⟨hp, by omega⟩, fun x H2 hy => ?_⟩, fun hi => ⟨hp, by omega⟩⟩
    obtain ⟨rfl, hx⟩ := hy
    obtain ⟨kv, hkv⟩ := at_ hi
    obtain ⟨v, e1, e2⟩ := rk.get (i := i) (d := kv.1) (by rw [List.getElem?_map, hkv]; rfl)
    rw [hx] at e1
    cases e1
    exact ⟨B, kv.1, by rw [List.getElem?_map, hkv]; rfl, S.push (sub e2)⟩
  | 1 =>
    refine ⟨fun hi => ⟨⟨hp, by omega⟩, fun x H2 hy => ?_⟩, fun hi => ⟨hp, by omega⟩⟩
    obtain ⟨rfl, hx⟩ := hy
    obtain ⟨kv, hkv⟩ := at_ hi
    obtain ⟨v, e1, e2⟩ := rw'.get (i := i) (d := kv.2) (by rw [List.getElem?_map, hkv]; rfl)
    rw [hx] at e1
    cases e1
    exact ⟨B, kv.2, by rw [List.getElem?_map, hkv]; rfl, S.push (sub e2)⟩
  | n + 2 =>
    refine ⟨fun hi => ⟨⟨hp, by omega⟩, fun x H2 hy => ?_⟩, fun hi => ⟨hp, by omega⟩⟩
    obtain ⟨T, k1, v1, h1, h2, rfl, hT, rfl⟩ := hy
    obtain ⟨kv, hkv⟩ := at_ hi
    obtain ⟨k2, e1, e2⟩ := rk.get (i := i) (d := kv.1) (by rw [List.getElem?_map, hkv]; rfl)
    obtain ⟨v2, e3, e4⟩ := rw'.get (i := i) (d := kv.2) (by rw [List.getElem?_map, hkv]; rfl)
    rw [h1] at e1
    rw [h2] at e3
    cases e1
    cases e3
    have gr := sm_new (o := .tup [k1, v1]) (S.bnone hT)
    exact ⟨_, .tup [kv.1, kv.2], by rw [List.getElem?_map, hkv]; rfl, (S.alloc hT).push (.tup (Or.inl (Or.inl upd_same)) (.cons ((sub e2).mono gr) (.cons ((sub e4).mono gr) .nil)))⟩
/-- the operand -/
theorem es_dic {K : PySem.W.Frag} {te : TE} {de : DE} {w : Nat} (he : ES K g c W te de) {s : L2.St} {H : Hp} {r : Env} {B : Hp} {z : Stk} {Y : XD} {Q : List (D × D) → Env → Prop} {R : It → Hp → Prop} (lw : LW K g c W Y z) (S : SR K g B s r z H) (h : iDic de Y Q r)
    (k : ∀ J H1 B1 r1 kvs, SR K g B1 s r1 z H1 → Q kvs r1 → (∀ z1, Jok1 K (rb g B1) J (kvs.map (pickK w)) (fun _ => True) z1) → R J H1) : iNW w te s H R := by
  refine he s H r B z Y _ _ lw S h fun x H1 B1 r1 t S1 q => ?_
  have lent : ∀ {a : Addr} {kvs : List (D × D)}, DicOk K B1 g.H0 a kvs → a ∉ g.M → Q kvs r1 → ∃ d es ep ks ws ns, V.ref a = .ref d ∧ H1 d = some (rawO d es ep) ∧ (d == sysModules) = false ∧ Ents ks ws ns es.toList ∧ R (JK w d es ep ks ws) H1 := fun {a kvs} h m q => by
    obtain ⟨es, ep, ks, ws, h1, sy, en, rk, rw'⟩ := h
    exact ⟨a, es, ep, ks, ws, _, rfl, S1.h0 _ _ h1 m, sy, en.each, k _ H1 B1 r1 kvs S1.pop q fun z1 => jok_w (Or.inr ⟨h1, m⟩) rk rw'⟩
  have shr : ∀ {kvs : List (D × D)}, Rep K B1 x (.dic kvs) → Q kvs r1 → ∃ d es ep ks ws ns, x = .ref d ∧ H1 d = some (rawO d es ep) ∧ (d == sysModules) = false ∧ Ents ks ws ns es.toList ∧ R (JK w d es ep ks ws) H1 := fun {kvs} h q => by
    cases h with
    | dic h1 sy en e1 e2 rk rw' =>
      subst e1 e2
      exact ⟨_, _, _, _, _, _, rfl, S1.bh _ _ h1, sy, en.each, k _ H1 B1 r1 kvs S1.pop q fun z1 => jok_w (Or.inl h1) rk rw'⟩
  split at q
  · rename_i kvs
    exact shr S1.top q
  · rename_i i
    have es : s[i]? = some (some x) := S1.top
    split at q
    · rename_i kvs l
      obtain ⟨v0, e1, en⟩ := S1.env i _ l
      rw [es] at e1
      cases e1
      exact shr en q
    · rename_i kvs l
      obtain ⟨v0, e1, en⟩ := S1.env i _ l
      rw [es] at e1
      cases e1
      obtain ⟨a, rfl, m, bo⟩ := en
      exact lent bo m q
    · exact q.elim
  · exact q.elim
/-- many readings of one text as one -/
theorem js_forK {w : Nat} {tg e iter : Expr} {body : List Stmt} {de : DE} {dg : DG} {db : DS} {sets : List Nat} {pos : Pos} (hp : PassesOwn (model X.prog X.w) X.A X.env X.xe) (hc : X.calm = true) (he : JE X g c W e de) (hw : WalkK X tg w e iter) (hg : ∀ B1, JG X (rb g B1) (· ∈ L) sets tg dg) (hb : ∀ B1, JSs X (rb g B1) c W L body db)
    (hs : ∀ x, foldedSetIterable iter X.env x = pure x := by intro _; rfl) : JS X g c W L (.For tg iter body [] pos) (dForK w (iDic de) dg db) := by
  obtain ⟨te, pe, se⟩ := he.ex
  have pg : PG X tg fun v s H Q => ∃ B1, canonG X.K (rb g B1) (· ∈ L) sets dg v s H Q := ⟨fun pins s σ H x v Q I rv h => by
    obtain ⟨B1, h⟩ := h
    exact (hg B1).canon.run pins s σ H x v Q I rv h⟩
  have pb : PSs X body fun D s H => ∃ B1, canonS X.K (rb g B1) c W L db D s H := ⟨fun pins s σ H D I h => by
    obtain ⟨B1, h⟩ := h
    exact (hb B1).canon.run pins s σ H D I h⟩
  refine ⟨_, ps_for hp hc (pi_w hw pe) pg pb hs, fun s H r B z Y E D lw S hl h k => ?_⟩
  refine es_dic se lw S h fun J H1 B1 r1 kvs S1 q1 jok => ?_
  obtain ⟨I, i0, stay, turn, done⟩ := q1
  have lw1 := LW.rb S1 lw
  refine ⟨fun i m s' H' => ∃ B' r', SR X.K (rb g B1) B' s' r' z H' ∧ I i r' ∧ i ≤ (kvs.map (pickK w)).length ∧ m = (kvs.map (pickK w)).length - i, ⟨_, B1, r1, S1.rb, i0, Nat.zero_le _, rfl⟩, fun i m s2 H2 hW => ?_⟩
  obtain ⟨B2, r2, S2, i2, hle, rfl⟩ := hW
  obtain ⟨jgo, jstop⟩ := jok [] i s2 H2 B2 r2 z S2 (List.nil_suffix) trivial
  by_cases hlt : i < (kvs.map (pickK w)).length
  · obtain ⟨go, yl⟩ := jgo hlt
    refine Or.inr ⟨go, fun s' H' => ∃ B' r', SR X.K (rb g B1) B' s' r' z H' ∧ I (i + 1) r', fun s' H' ⟨B', r', S', i'⟩ => ⟨_, by omega, B', r', S', i', hlt, rfl⟩, fun x H3 hy => ?_⟩
    obtain ⟨B3, d, ed, S3⟩ := yl x H3 hy
    refine ⟨B1, r2, B3, z, d, _, S3, hl, turn i d r2 ed i2, fun s4 H4 B4 r4 S4 _ _ q4 => ?_⟩
    exact ⟨B1, canonS_ok s4 H4 r4 B4 z Y _ _ lw1 S4 hl q4 ⟨fun s' H' B' r' S' q => ⟨B', r', S', q⟩, fun v' s' H' B' r' t' S' q => k.rt v' s' H' B' r' t' (S1.unrb S') q, fun s' H' B' r' S' q => k.nx s' H' B' r' (S1.unrb S') q, fun s' H' B' r' S' q => ⟨B', r', S', q⟩⟩⟩
  · have e : i = (kvs.map (pickK w)).length := by omega
    subst e
    exact Or.inl ⟨jstop (Nat.le_refl _), k.nx s2 H2 B2 r2 (S1.unrb S2) (done r2 i2)⟩
theorem j_dcK {k0 w : Nat} (hr : Room k0 X.A) {kx vx tg e iter : Expr} {ifs : List Expr} {scope : Scope} {own : List (Str × Nat)} {pos : Pos} {de : DE} {dg : DG} {dt : DT} {dk dv : DE} {sets vs : List Nat} (hc : X.calm = true) (hN : X.N.Nodup) (he : JE X g c W e de) (hw : WalkK X tg w e iter) (ok : BlkOk X.N X.env.scope scope own) (hvs : own.map (·.2) = vs) (hv : ∀ i, i ∈ vs → i ∈ g.cs) (hsub : ∀ i, i ∈ sets → i ∈ vs)
    (hg : ∀ (B1 : Hp) (s : Shared) (H : Hp) (C : Addr) (cl : List (Str × Addr)) (fp : List Addr), JG (X.blk s H scope (compEnvC scope cl C X.env) fp) (rb g B1) (· ∉ g.cs) sets tg dg)
    (ht : ∀ (B1 : Hp) (s : Shared) (H : Hp) (C : Addr) (cl : List (Str × Addr)) (fp : List Addr), JTs (X.blk s H scope (compEnvC scope cl C X.env) fp) (rb g B1) c W0 ifs dt)
    (hk : ∀ (B1 : Hp) (s : Shared) (H : Hp) (C : Addr) (cl : List (Str × Addr)) (fp : List Addr), JE (X.blk s H scope (compEnvC scope cl C X.env) fp) (rb g B1) c W0 kx dk)
    (hx : ∀ (B1 : Hp) (s : Shared) (H : Hp) (C : Addr) (cl : List (Str × Addr)) (fp : List Addr), JE (X.blk s H scope (compEnvC scope cl C X.env) fp) (rb g B1) c W0 vx dv) (hs : ∀ x, foldedSetIterable iter X.env x = pure x := by intro _; rfl) :
    JE X g c W (.DictComp kx vx [⟨tg, iter, ifs, 0⟩] scope pos) (dDCK w (iDic de) dg dt dk dv vs) := by
  obtain ⟨te, pe, se⟩ := he.ex
  subst hvs
  refine ⟨_, pe_ndc (g := fun v s H Q => ∃ B1, canonG X.K (rb g B1) (· ∉ g.cs) sets dg v s H Q) (tt := fun s H Q => ∃ B1, canonT X.K (rb g B1) c W0 dt s H Q) (tk := fun s H Q => ∃ B1, canonE X.K (rb g B1) c W0 dk s H Q) (tv := fun s H Q => ∃ B1, canonE X.K (rb g B1) c W0 dv s H Q) (un_of hr) hc hN (pi_w hw pe) ok
    (fun s H C cl fp => ⟨fun pins s2 σ G x v Q I rv h => by obtain ⟨B1, h⟩ := h; exact (hg B1 s H C cl fp).canon.run pins s2 σ G x v Q I rv h⟩) (fun s H C cl fp => ⟨fun pins s2 σ G Q I h => by obtain ⟨B1, h⟩ := h; exact (ht B1 s H C cl fp).canon.run pins s2 σ G Q I h⟩)
    (fun s H C cl fp => ⟨fun pins s2 σ G Q I h => by obtain ⟨B1, h⟩ := h; exact (hk B1 s H C cl fp).canon.run pins s2 σ G Q I h⟩) (fun s H C cl fp => ⟨fun pins s2 σ G Q I h => by obtain ⟨B1, h⟩ := h; exact (hx B1 s H C cl fp).canon.run pins s2 σ G Q I h⟩) hs, fun s H r B z Y Q Qv lw S h k => ?_⟩
  refine es_dic se lw S h fun J H1 B1 r1 kvs S1 q1 jok => ?_
  refine dc_loop (tg := fun v s H Q => ∃ B1, canonG X.K (rb g B1) (· ∉ g.cs) sets dg v s H Q) (tt := fun s H Q => ∃ B1, canonT X.K (rb g B1) c W0 dt s H Q) (tk := fun s H Q => ∃ B1, canonE X.K (rb g B1) c W0 dk s H Q) (te := fun s H Q => ∃ B1, canonE X.K (rb g B1) c W0 dv s H Q) (K := X.K) (g := rb g B1) (c := c) (dg := dg) (dt := dt) (dk := dk) (de := dv) (sets := sets) (Q := Q) (fun s H r B z v d Q Qv S hl h k => ⟨B1, canonG_ok (P := (· ∉ g.cs)) s H r B z v d Q Qv S hl h k⟩) (fun s H r B z Y Q Qv lw S h k => ⟨B1, canonT_ok s H r B z Y Q Qv lw S h k⟩)
    (fun s H r B z Y Q Qv lw S h k => ⟨B1, canonE_ok s H r B z Y Q Qv lw S h k⟩) (fun s H r B z Y Q Qv lw S h k => ⟨B1, canonE_ok s H r B z Y Q Qv lw S h k⟩) hv hsub S1.rb (jok z) q1 fun v' H' B' r' t' S' q => k v' H' B' r' t' (S1.unrb S') q
theorem js_setDc {i : Nat} {y : Str} {py spos : Pos} {k0 : Nat} (hr : Room k0 X.A) {kx vx tg iter : Expr} {ifs : List Expr} {scope : Scope} {own : List (Str × Nat)} {pos : Pos} {di : DI} {dg : DG} {dt : DT} {dk de : DE} {ks sets vs : List Nat} (hiL : i ∉ L) (hn : i < g.n) (hc : X.calm = true) (hN : X.N.Nodup) (hy : X.N[i]? = some y) (hyl : X.env.scope.names.lookup y = some .local) (hsw : swapsWith (.DictComp kx vx [⟨tg, iter, ifs, 0⟩] scope pos) (some (.Name y py)) spos.line X.env = pure true) (hi : JI X g c W ks tg iter di) (ok : BlkOk X.N X.env.scope scope own) (hvs : own.map (·.2) = vs) (hv : ∀ i, i ∈ vs → i ∈ g.cs) (hsub : ∀ i, i ∈ sets → i ∈ vs)
    (hg : ∀ (s : Shared) (H : Hp) (C : Addr) (cl : List (Str × Addr)) (fp : List Addr), JG (X.blk s H scope (compEnvC scope cl C X.env) fp) g (· ∉ g.cs) sets tg dg)
    (ht : ∀ (s : Shared) (H : Hp) (C : Addr) (cl : List (Str × Addr)) (fp : List Addr), JTs (X.blk s H scope (compEnvC scope cl C X.env) fp) g c W0 ifs dt)
    (hk : ∀ (s : Shared) (H : Hp) (C : Addr) (cl : List (Str × Addr)) (fp : List Addr), JE (X.blk s H scope (compEnvC scope cl C X.env) fp) g c W0 kx dk)
    (he : ∀ (s : Shared) (H : Hp) (C : Addr) (cl : List (Str × Addr)) (fp : List Addr), JE (X.blk s H scope (compEnvC scope cl C X.env) fp) g c W0 vx de) (hs : ∀ x, foldedSetIterable iter X.env x = pure x := by intro _; rfl) :
    JS X g c W L (.Assign [.Name y py] (.DictComp kx vx [⟨tg, iter, ifs, 0⟩] scope pos) spos) (dSet i (dDC di dg dt dk de vs)) := by
  obtain ⟨wi, pi, si⟩ := hi.ex
  subst hvs
  refine ⟨_, ps_setNdc (g := canonG X.K g (· ∉ g.cs) sets dg) (tt := canonT X.K g c W0 dt) (tk := canonE X.K g c W0 dk) (tv := canonE X.K g c W0 de) (un_of hr) hc hN hy hyl hsw pi ok (fun s H C cl fp => (hg s H C cl fp).canon) (fun s H C cl fp => (ht s H C cl fp).canon) (fun s H C cl fp => (hk s H C cl fp).canon) (fun s H C cl fp => (he s H C cl fp).canon) hs, ss_set hiL hn fun s H r B z Y Q Qv lw S h k => ?_⟩
  refine si s H r B z Y _ _ lw S h fun J H1 B1 r1 ds st v t S1 _ q1 jok => ?_
  exact dc_loop (canonG_ok (P := (· ∉ g.cs))) canonT_ok canonE_ok canonE_ok hv hsub S1 (.of jok) q1 fun v' H' B' r' t' S' q => k v' H' B' r' t' S'.under q
theorem js_setDcK {i : Nat} {y : Str} {py spos : Pos} {k0 w : Nat} (hr : Room k0 X.A) {kx vx tg e iter : Expr} {ifs : List Expr} {scope : Scope} {own : List (Str × Nat)} {pos : Pos} {de : DE} {dg : DG} {dt : DT} {dk dv : DE} {sets vs : List Nat} (hiL : i ∉ L) (hn : i < g.n) (hc : X.calm = true) (hN : X.N.Nodup) (hy : X.N[i]? = some y) (hyl : X.env.scope.names.lookup y = some .local) (hsw : swapsWith (.DictComp kx vx [⟨tg, iter, ifs, 0⟩] scope pos) (some (.Name y py)) spos.line X.env = pure true) (he : JE X g c W e de) (hw : WalkK X tg w e iter) (ok : BlkOk X.N X.env.scope scope own) (hvs : own.map (·.2) = vs) (hv : ∀ i, i ∈ vs → i ∈ g.cs) (hsub : ∀ i, i ∈ sets → i ∈ vs)
    (hg : ∀ (B1 : Hp) (s : Shared) (H : Hp) (C : Addr) (cl : List (Str × Addr)) (fp : List Addr), JG (X.blk s H scope (compEnvC scope cl C X.env) fp) (rb g B1) (· ∉ g.cs) sets tg dg)
    (ht : ∀ (B1 : Hp) (s : Shared) (H : Hp) (C : Addr) (cl : List (Str × Addr)) (fp : List Addr), JTs (X.blk s H scope (compEnvC scope cl C X.env) fp) (rb g B1) c W0 ifs dt)
    (hk : ∀ (B1 : Hp) (s : Shared) (H : Hp) (C : Addr) (cl : List (Str × Addr)) (fp : List Addr), JE (X.blk s H scope (compEnvC scope cl C X.env) fp) (rb g B1) c W0 kx dk)
    (hx : ∀ (B1 : Hp) (s : Shared) (H : Hp) (C : Addr) (cl : List (Str × Addr)) (fp : List Addr), JE (X.blk s H scope (compEnvC scope cl C X.env) fp) (rb g B1) c W0 vx dv) (hs : ∀ x, foldedSetIterable iter X.env x = pure x := by intro _; rfl) :
    JS X g c W L (.Assign [.Name y py] (.DictComp kx vx [⟨tg, iter, ifs, 0⟩] scope pos) spos) (dSet i (dDCK w (iDic de) dg dt dk dv vs)) := by
  obtain ⟨te, pe, se⟩ := he.ex
  subst hvs
  refine ⟨_, ps_setNdc (g := fun v s H Q => ∃ B1, canonG X.K (rb g B1) (· ∉ g.cs) sets dg v s H Q) (tt := fun s H Q => ∃ B1, canonT X.K (rb g B1) c W0 dt s H Q) (tk := fun s H Q => ∃ B1, canonE X.K (rb g B1) c W0 dk s H Q) (tv := fun s H Q => ∃ B1, canonE X.K (rb g B1) c W0 dv s H Q) (un_of hr) hc hN hy hyl hsw (pi_w hw pe) ok
    (fun s H C cl fp => ⟨fun pins s2 σ G x v Q I rv h => by obtain ⟨B1, h⟩ := h; exact (hg B1 s H C cl fp).canon.run pins s2 σ G x v Q I rv h⟩) (fun s H C cl fp => ⟨fun pins s2 σ G Q I h => by obtain ⟨B1, h⟩ := h; exact (ht B1 s H C cl fp).canon.run pins s2 σ G Q I h⟩)
    (fun s H C cl fp => ⟨fun pins s2 σ G Q I h => by obtain ⟨B1, h⟩ := h; exact (hk B1 s H C cl fp).canon.run pins s2 σ G Q I h⟩) (fun s H C cl fp => ⟨fun pins s2 σ G Q I h => by obtain ⟨B1, h⟩ := h; exact (hx B1 s H C cl fp).canon.run pins s2 σ G Q I h⟩) hs, ss_set hiL hn fun s H r B z Y Q Qv lw S h k => ?_⟩
  refine es_dic se lw S h fun J H1 B1 r1 kvs S1 q1 jok => ?_
  refine dc_loop (tg := fun v s H Q => ∃ B1, canonG X.K (rb g B1) (· ∉ g.cs) sets dg v s H Q) (tt := fun s H Q => ∃ B1, canonT X.K (rb g B1) c W0 dt s H Q) (tk := fun s H Q => ∃ B1, canonE X.K (rb g B1) c W0 dk s H Q) (te := fun s H Q => ∃ B1, canonE X.K (rb g B1) c W0 dv s H Q) (K := X.K) (g := rb g B1) (c := c) (dg := dg) (dt := dt) (dk := dk) (de := dv) (sets := sets) (Q := Q) (fun s H r B z v d Q Qv S hl h k => ⟨B1, canonG_ok (P := (· ∉ g.cs)) s H r B z v d Q Qv S hl h k⟩) (fun s H r B z Y Q Qv lw S h k => ⟨B1, canonT_ok s H r B z Y Q Qv lw S h k⟩)
    (fun s H r B z Y Q Qv lw S h k => ⟨B1, canonE_ok s H r B z Y Q Qv lw S h k⟩) (fun s H r B z Y Q Qv lw S h k => ⟨B1, canonE_ok s H r B z Y Q Qv lw S h k⟩) hv hsub S1.rb (jok z) q1 fun v' H' B' r' t' S' q => k v' H' B' r' t' (S1.unrb S') q
end
end J

/-! JL29: places with op=, two targets at once, max(d.values()), len(d). -/
namespace J
open PySem L2 PyProof.Rows
section
variable {X : Cx} {g : G} {c : Cl} {W : WX} {L : List Nat}
theorem get_L : PGet X (rIxL X.K) := fun pins s σ H o i ov iv Q I ro ri h => by
  obtain ⟨p, xs, k, w, rfl, rfl, hq, he, q⟩ := h
  obtain ⟨t, rfl⟩ := ri
  obtain rfl : ov = Value.ref p := ro
  obtain ⟨its, r, pl, hz⟩ := I.list hq
  obtain ⟨j, h1, h2, h3, h4, h5⟩ := atI_get he
  obtain ⟨u, eu, ru⟩ := r.get h2
  have hl := r.length
  have hn := line63
  have e1 : ((j : Int) = k ∧ 0 ≤ k) ∨ ((j : Int) = k + xs.length ∧ k < 0) := by
    by_cases h0 : 0 ≤ k
    · rw [seqIndex_of h0 h5] at h1
      have := Option.some.inj h1
      exact Or.inl ⟨by omega, h0⟩
    · rw [seqIndex_neg (by omega) h4] at h1
      have := Option.some.inj h1
      exact Or.inr ⟨by omega, by omega⟩
  rcases e1 with ⟨e1, h0⟩ | ⟨e1, h0⟩
  · exact wpAny_getItem_list pl.isList h0 (by omega) (x := u) (by rw [show k.toNat = j by omega]; simpa using eu) ⟨w, H, I, ru, q⟩
  · refine wpAny_getItem_list_neg pl.isList h0 (by rw [List.size_toArray]; omega) (by omega) (x := u) ?_ ⟨w, H, I, ru, q⟩
    rw [List.size_toArray, ← hl, show (k + (xs.length : Int)).toNat = j by omega]
    simpa using eu
theorem js_augIx {i : Nat} {x : Str} {ke e : Expr} {dk de : DE} {op : Operator} {o : R2} {od : R2D} {px tpos pos : Pos} (ho : PIp X op o ∧ OpS X.K g o od) (hk : JE X g c W ke dk) (he : JE X g c W e de) (hN : X.N[i]? = some x := by rfl) (hv : Vis X.env.scope x := by first | exact Or.inl rfl | exact Or.inr (Or.inl rfl) | exact Or.inr (Or.inr rfl))
    (hd : (x == ("__debug__" : Str)) = false := by decide) (hcd : (x == ("__classdict__" : Str)) = false := by decide)
    (ha : ∀ ov iv new, augStore ke ov iv new = (do holding [new, ov, iv] (setItem ov iv new); release [new, ov, iv] []; pure .next) := by intros; rfl) : JS X g c W L (.AugAssign (.Subscript (.Name x px) ke tpos) op e pos) (dAugIx i dk od de) := by
  obtain ⟨tk, pk, sk⟩ := hk.ex
  obtain ⟨te, pe, se⟩ := he.ex
  refine ⟨_, ps_augS (pe_var hN hv hd hcd) pk get_L pe ho.1 set_list ha, fun s H r B z Y E D lw S hl h k => ?_⟩
  obtain ⟨h0, h⟩ := h
  cases l0 : look r i with
  | none => rw [l0] at h0; exact h0.elim
  | some t0 =>
    rw [l0] at h0
    cases t0 with
    | ol ds0 =>
      obtain ⟨v0, e1, e2⟩ := S.env i _ l0
      obtain ⟨p, vs0, rfl, _⟩ := id e2
      refine ⟨_, e1, ?_⟩
      refine sk s H r B z Y _ _ lw S h fun u H1 B1 r1 t1 S1 q1 => ?_
      split at q1
      · rename_i zi ds e3 l1
        split at q1
        · rename_i j ej
          split at q1
          · rename_i d0 ed
            have vi := S1.view List.mem_cons_self e3
            cases vi
            obtain ⟨p1, vs1, f1, f2, f3, _⟩ := S1.change l1 (RepAll.nil (K := X.K) (B := B1))
            rw [e1] at f1
            cases f1
            obtain ⟨w, g1, g2⟩ := f3.get ed
            refine ⟨p, vs1, zi, w, rfl, rfl, SqL.of f2, ?_, ?_⟩
            · have : atI vs1 zi = atD vs1 zi := rfl
              rw [this]
              unfold atD
              rw [f3.len, ej]
              exact g1
            · refine se s H1 r1 B1 _ Y _ _ lw.ext (S1.pop.push g2) q1 fun y H2 B2 r2 t2 S2 q2 => ?_
              split at q2
              · rename_i yd ds2 e4 l2
                obtain ⟨hlen, q2⟩ := q2
                have vy := S2.view List.mem_cons_self e4
                have vw : View X.K B2 H2 w d0 := S2.view (List.mem_cons_of_mem _ List.mem_cons_self) rfl
                refine ho.2 B2 s r2 z H2 w y d0 yd _ _ S2.pop.pop vw vy q2 fun u3 H3 B3 t3 S3 q3 => ?_
                split at q3
                · rename_i d3
                  have rv : Rep X.K B3 u3 d3 := S3.top
                  obtain ⟨p2, vs2, a1, a2, a3, _⟩ := S3.pop.change l2 (RepAll.nil (K := X.K) (B := B3))
                  obtain ⟨p3, vs3, b1, b2, b3, S4⟩ := S3.pop.change l2 (a3.set rv j)
                  rw [e1] at a1 b1
                  cases a1
                  cases b1
                  rw [a2] at b2
                  cases b2
                  exact ⟨p, vs2, zi, j, rfl, rfl, a2, by rw [a3.len, hlen]; exact ej, k.nx s _ B3 _ S4 q3⟩
                · exact q3.elim
              · exact q2.elim
          · exact q1.elim
        · exact q1.elim
      · exact q1.elim
    | _ => exact h0.elim
theorem js_paugIx {b ke e : Expr} {db dk de : DE} {op : Operator} {o : R2} {od : R2D} {tpos pos : Pos} (ho : PIp X op o ∧ OpS X.K g o od) (hb : JE X g c W b db) (hk : JE X g c W ke dk) (he : JE X g c W e de)
    (ha : ∀ ov iv new, augStore ke ov iv new = (do holding [new, ov, iv] (setItem ov iv new); release [new, ov, iv] []; pure .next) := by intros; rfl) : JS X g c W L (.AugAssign (.Subscript b ke tpos) op e pos) (dPAugIx db dk od de) := by
  obtain ⟨tb, pb, sb⟩ := hb.ex
  obtain ⟨tk, pk, sk⟩ := hk.ex
  obtain ⟨te, pe, se⟩ := he.ex
  refine ⟨_, ps_augS pb pk get_L pe ho.1 set_list ha, fun s H r B z Y E D lw S hl h k => ?_⟩
  refine sb s H r B z Y _ _ lw S h fun x0 H0 B0 r0 t0 S0 q0 => ?_
  split at q0
  · rename_i i p q
    have ev : x0 = V.ref q := S0.top
    subst ev
    refine sk s H0 r0 B0 _ Y _ _ lw.ext S0 q0 fun u H1 B1 r1 t1 S1 q1 => ?_
    split at q1
    · rename_i zi n1 ds e3 l1
      split at q1
      · rename_i j ej
        split at q1
        · rename_i d0 ed
          have vi := S1.view List.mem_cons_self e3
          cases vi
          obtain ⟨e0, vs1, f2, f3, _⟩ := S1.pop.pop.changeP l1 (RepAll.nil (K := X.K) (B := B1))
          obtain ⟨w, g1, g2⟩ := f3.get ed
          refine ⟨q, vs1, zi, w, rfl, rfl, SqL.of f2, ?_, ?_⟩
          · have : atI vs1 zi = atD vs1 zi := rfl
            rw [this]
            unfold atD
            rw [f3.len, ej]
            exact g1
          · refine se s H1 r1 B1 _ Y _ _ lw.ext (S1.pop.pop.push g2) q1 fun y H2 B2 r2 t2 S2 q2 => ?_
            split at q2
            · rename_i yd n2 ds2 e4 l2
              obtain ⟨hlen, q2⟩ := q2
              have vy := S2.view List.mem_cons_self e4
              have vw : View X.K B2 H2 w d0 := S2.view (List.mem_cons_of_mem _ List.mem_cons_self) rfl
              refine ho.2 B2 s r2 z H2 w y d0 yd _ _ S2.pop.pop vw vy q2 fun u3 H3 B3 t3 S3 q3 => ?_
              split at q3
              · rename_i d3
                have rv : Rep X.K B3 u3 d3 := S3.top
                obtain ⟨_, vs2, a2, a3, _⟩ := S3.pop.changeP l2 (RepAll.nil (K := X.K) (B := B3))
                obtain ⟨_, vs3, b2, b3, S4⟩ := S3.pop.changeP l2 (a3.set rv j)
                rw [a2] at b2
                cases b2
                exact ⟨q, vs2, zi, j, rfl, rfl, a2, by rw [a3.len, hlen]; exact ej, k.nx s _ B3 _ S4 q3⟩
              · exact q3.elim
            · exact q2.elim
        · exact q1.elim
      · exact q1.elim
    · exact q1.elim
  · exact q0.elim
theorem js_augK {k0 : Nat} (hr : Room k0 X.A) {i : Nat} {x : Str} {ke e : Expr} {dk de : DE} {op : Operator} {o : R2} {od : R2D} {px tpos pos : Pos} (ho : PIp X op o ∧ OpS X.K g o od) (hk : JE X g c W ke dk) (he : JE X g c W e de) (hN : X.N[i]? = some x := by rfl) (hv : Vis X.env.scope x := by first | exact Or.inl rfl | exact Or.inr (Or.inl rfl) | exact Or.inr (Or.inr rfl))
    (hd : (x == ("__debug__" : Str)) = false := by decide) (hcd : (x == ("__classdict__" : Str)) = false := by decide)
    (ha : ∀ ov iv new, augStore ke ov iv new = (do holding [new, ov, iv] (setItem ov iv new); release [new, ov, iv] []; pure .next) := by intros; rfl) : JS X g c W L (.AugAssign (.Subscript (.Name x px) ke tpos) op e pos) (dAugK i dk od de) := by
  obtain ⟨tk, pk, sk⟩ := hk.ex
  obtain ⟨te, pe, se⟩ := he.ex
  refine ⟨_, ps_augS (pe_var hN hv hd hcd) pk (get_N (un_of hr)) pe ho.1 (set_N (un_of hr)) ha, fun s H r B z Y E D lw S hl h k => ?_⟩
  obtain ⟨h0, h⟩ := h
  cases l0 : look r i with
  | none => rw [l0] at h0; exact h0.elim
  | some t0 =>
    obtain ⟨v0, e1, e2⟩ := S.env i _ l0
    refine ⟨_, e1, ?_⟩
    refine sk s H r B z Y _ _ lw S h fun u H1 B1 r1 t1 S1 q1 => ?_
    split at q1
    · rename_i kd q kvs l1
      obtain ⟨ok, q1⟩ := q1
      split at q1
      · rename_i xd ex
        obtain ⟨v1, f1, en⟩ := S1.env i _ l1
        rw [e1] at f1
        cases f1
        obtain ⟨rfl, dd⟩ := id en.1
        have ry : Rep X.K B1 u kd := S1.top
        obtain ⟨w, n1, n2⟩ := (nget_of S1.bh dd (view_rep ry S1.bh) ok).1 xd ex
        refine ⟨q, w, rfl, n1, ?_⟩
        refine se s H1 r1 B1 _ Y _ _ lw.ext.ext (S1.push n2) q1 fun y H2 B2 r2 t2 S2 q2 => ?_
        split at q2
        · rename_i yd q' kvs2 e4 l2
          have vy := S2.view List.mem_cons_self e4
          have vw : View X.K B2 H2 w xd := S2.view (List.mem_cons_of_mem _ List.mem_cons_self) rfl
          refine ho.2 B2 s r2 _ H2 w y xd yd _ _ S2.pop.pop vw vy q2 fun u3 H3 B3 t3 S3 q3 => ?_
          split at q3
          · rename_i d3
            obtain ⟨v3, f3, en3⟩ := S3.env i _ l2
            rw [e1] at f3
            cases f3
            obtain ⟨eq, dd3⟩ := id en3.1
            cases eq
            refine ⟨q, rfl, ?_⟩
            refine nput_of S3.bh dd3 S3.pop.top S3.top q3.1 q3.2.1 fun es ep dd4 => ?_
            have S4 := S3.pop.pop
            obtain ⟨_, _, ch⟩ := S4.changeD (kvs' := dPutK kvs2 kd d3) (getP_own l2)
            have S5 := ch _ dd4
            rw [setP_own l2] at S5
            exact k.nx s _ B3 _ S5 q3.2.2
          · exact q3.elim
        · exact q2.elim
      · exact q1.elim
    · exact q1.elim
theorem js_par {i j : Nat} {x y : Str} {a b : Expr} {da : DA} {px py pt pos : Pos} {kt k2 pt2} (hi : i ∉ L) (hj : j ∉ L) (hin : i < g.n) (hjn : j < g.n) (hij : i ≠ j) (hc : X.calm = true) (hN : X.N.Nodup) (hxN : X.N[i]? = some x) (hyN : X.N[j]? = some y)
    (hx : X.env.scope.names.lookup x = some .local) (hy : X.env.scope.names.lookup y = some .local) (ha : JA X g c W [a, b] da)
    (hw : swappedStores [.Tuple [.Name x px, .Name y py] kt pt] (.Tuple [a, b] k2 pt2) X.env = pure (some [x, y]))
    (hs : swapsWithSole [.Tuple [.Name x px, .Name y py] kt pt] (.Tuple [a, b] k2 pt2) pos.line X.env = pure false := by rfl) :
    JS X g c W L (.Assign [.Tuple [.Name x px, .Name y py] kt pt] (.Tuple [a, b] k2 pt2) pos) (dPar i j da) := by
  obtain ⟨ta, pa, sa⟩ := ha.ex
  refine ⟨_, ps_par hc hN hxN hyN hij hx hy pa hw hs, fun s H r B z Y E D lw S hl h k => ?_⟩
  refine sa s H r B z Y _ _ lw S h fun vs H1 B1 r1 ts hlen S1 q1 => ?_
  split at q1
  · rename_i d1 d2
    match vs, hlen with
    | [v, w], _ =>
      refine ⟨v, w, rfl, ?_⟩
      have S2 : SR X.K g B1 s r1 ((w, .sh d2) :: (v, .sh d1) :: z) H1 := S1
      have n1 := nol hj hl
      have n2 := nol hi hl
      have S3 := S2.store (i := j) (by rw [S2.ln]; exact hjn) (Or.inl ⟨_, rfl⟩) (fun u hu => by
        rcases List.mem_cons.mp hu with e | hu
        · cases e
        · exact n1 u hu)
      have S4 := S3.store (i := i) (by rw [S3.ln]; exact hin) (Or.inl ⟨_, rfl⟩) n2
      rw [List.set_comm _ _ (Ne.symm hij)] at S4
      exact k.nx _ H1 B1 _ S4 q1
  · exact q1.elim
theorem j_maxV {e : Expr} {de : DE} {p apos cpos pos : Pos} (hc : X.calm = true) (hg : Gl X "max") (hm : X.mg "max" = none) (he : JE X g c W e de) (hbase : attributeBase e "values" X.env (eval e X.env) = eval e X.env := by rfl) (hline : (apos.endLine == cpos.line) = true := by rfl)
    (hs : starEach [.Call (.Attribute e "values" apos) [] [] cpos] X.env = [(false, eval (.Call (.Attribute e "values" apos) [] [] cpos) X.env)] := by rfl) :
    JE X g c W (.Call (.Name "max" p) [.Call (.Attribute e "values" apos) [] [] cpos] [] pos) (dB1 cMaxV (dCons de dNil)) := by
  obtain ⟨te, pe, se⟩ := he.ex
  refine ⟨_, pe_callB (call_maxV hc) hg hm (by decide +kernel) (pa_cons (pe_vals pe hbase hline) pa_nil hs) (by decide) (by decide) hs rfl, fun s H r B z Y Q Qv lw S h k => ?_⟩
  refine se s H r B z Y _ _ lw S h fun x H1 B1 r1 t1 S1 q1 => ?_
  simp only [dNil, reads] at q1
  split at q1
  · rename_i ds e1
    split at e1
    · rename_i d ds' e2 e3
      cases e3
      cases e1
      unfold cMaxV at q1
      split at q1
      · rename_i kvs ek
        cases ek
        split at q1
        · rename_i n ns en
          obtain ⟨a, rfl, dd⟩ := S1.view List.mem_cons_self e2
          obtain ⟨es, ep, ks, ws, h1, sy, er, rk, rw'⟩ := dd
          refine ⟨a, es, ep, rfl, h1, sy, fun v hv => ?_⟩
          have av : a ≠ v := fun q => by rw [q, hv] at h1; cases h1
          refine ⟨v, a, es, ep, ks, ws, _, n :: ns, rfl, upd_same, by rw [upd_ne av]; exact h1, er.each, rw'.intsOf en, by simp, fun m hm hy => ?_⟩
          have : m = maxI n ns := by
            have a1 := le_maxI ns n m (List.mem_cons.mp hm)
            have a2 : maxI n ns ∈ n :: ns := List.mem_cons.mpr (maxI_mem ns n)
            have a3 := hy _ a2
            omega
          subst this
          exact k _ _ _ r1 _ ((S1.pop.alloc hv).push (.int _)) q1
        · exact q1.elim
      · exact q1.elim
    · cases e1
  · exact q1.elim
theorem jc_lenK : CallR X (.builtin "len") rLenN ∧ CbS X.K g rLenN cLenK := by
  refine ⟨call_lenN, fun B s r z H vs ds Q Qv S h q k => ?_⟩
  unfold cLenK at q
  split at q
  · rename_i kvs
    cases h with
    | cons h1 h2 =>
      cases h2
      obtain ⟨a, rfl, es, ep, ks, ws, hh, sy, en, rk, rw'⟩ := h1
      obtain ⟨l1, l2, l3⟩ := ents_len en.each
      have e : es.size = kvs.length := by simpa using l3
      refine ⟨a, es, ep, rfl, hh, sy, by rw [e, ← size_is]; exact q.1, ?_⟩
      rw [e]
      exact k _ H B _ (S.push (.int _)) q.2
  · exact q.elim
end
end J

/-! JZ: zip of a list and a tuple, either way round. -/
namespace J
open PySem PySem.Spec PyProof.Rows L2
/-- a sequence that is walked: a list (true) or a tuple -/
def SqK (k : Bool) (h : Heap) (l : Addr) (xs : Array Value) : Prop := if k = true then h.IsList l xs else h.IsTuple l xs
def ItK (k : Bool) (h : Heap) (c l : Addr) (n : Nat) : Prop := if k = true then h.IsListIter c l n else h.IsTupleIter c l n
theorem SqK.at {k : Bool} {h h' : Heap} {l : Addr} {xs : Array Value} (q : SqK k h l xs) (e : ∀ o, h.get? l = some o → h'.get? l = some o) : SqK k h' l xs := by
  cases k with
  | true => exact Heap.IsList.at (show h.IsList l xs from q) e
  | false => exact Heap.IsTuple.at (show h.IsTuple l xs from q) e
theorem ItK.at {k : Bool} {h h' : Heap} {c l : Addr} {n : Nat} (q : ItK k h c l n) (e : ∀ o, h.get? c = some o → h'.get? c = some o) : ItK k h' c l n := by
  cases k with
  | true => exact Heap.IsListIter.at (show h.IsListIter c l n from q) e
  | false => exact Heap.IsTupleIter.at (show h.IsTupleIter c l n from q) e
theorem ItK.ob {k : Bool} {h : Heap} {c l : Addr} {n : Nat} (q : ItK k h c l n) : ∃ o vs, h.get? c = some o ∧ o.data = .fields vs := by
  cases k with
  | true => obtain ⟨o, e, _, d⟩ := (show h.IsListIter c l n from q); exact ⟨o, _, e, d⟩
  | false => obtain ⟨o, e, _, d⟩ := (show h.IsTupleIter c l n from q); exact ⟨o, _, e, d⟩
theorem SqK.lt {k : Bool} {h : Heap} {l : Addr} {xs : Array Value} (q : SqK k h l xs) : l < h.objs.size := by
  cases k with
  | true => obtain ⟨o, e, _⟩ := (show h.IsList l xs from q); exact Heap.lt_size e
  | false => obtain ⟨o, e, _⟩ := (show h.IsTuple l xs from q); exact Heap.lt_size e
section
variable {prog : Program} {w : World} {A : Around} {E : Value → Shared → Prop} {s : Shared} {k m : Bool}
theorem nx_item {c l : Addr} {n : Nat} {xs : Array Value} {x : Value} {Q : Value → Shared → Prop} (q : ItK k s.heap c l n) (ql : SqK k s.heap l xs) (hx : xs[n]? = some x)
    (hk : ∀ g, ItK k g c l (n + 1) → Heap.SameBut c s.heap g → Q x { s with heap := g }) : wpAny (model prog w) A (Builtin.SmallTypes.nextOf (.ref c)) Q E s := by
  cases k with
  | true => exact wpAny_nextOf_list_item q ql hx hk
  | false => exact RZ.nextOf_tuple_item q ql hx hk
theorem nx_end {c l : Addr} {n : Nat} {xs : Array Value} {Q : Value → Shared → Prop} (hh : A.handled = none) (q : ItK k s.heap c l n) (ql : SqK k s.heap l xs) (hx : xs[n]? = none)
    (hk : ∀ g e, Heap.ExtBut c s.heap g → (∃ o, g.get? e = some o ∧ o.cls = .type "StopIteration") → E (.ref e) { s with heap := g }) : wpAny (model prog w) A (Builtin.SmallTypes.nextOf (.ref c)) Q E s := by
  cases k with
  | true => exact wpAny_nextOf_list_end hh q ql hx hk
  | false => exact RZ.nextOf_tuple_end hh q ql hx hk
/-- a zip over two sequences stands at n -/
structure Zst (k m : Bool) (Z P O a b la lb : Addr) (f0 : Value) (n : Nat) (h : Heap) : Prop where
  z : IsZip h Z P O f0
  p : IsPair h P (.ref a) (.ref b)
  o : ∃ u v, IsPair h O u v
  a : ItK k h a la n
  b : ItK m h b lb n
/-- all but these stay -/
def Fr (cs : List Addr) (h g : Heap) : Prop := ∀ c o, c ∉ cs → h.get? c = some o → g.get? c = some o
theorem Fr.tr {cs : List Addr} {h g f : Heap} (x : Fr cs h g) (y : Fr cs g f) : Fr cs h f := fun c o n e => y c o n (x c o n e)
theorem Fr.sb {cs : List Addr} {h g : Heap} {c : Addr} (x : Heap.SameBut c h g) (i : c ∈ cs) : Fr cs h g := fun d o n e => x.extBut d o (fun z => n (z ▸ i)) e
theorem Fr.xb {cs : List Addr} {h g : Heap} {c : Addr} (x : Heap.ExtBut c h g) (i : c ∈ cs) : Fr cs h g := fun d o n e => x d o (fun z => n (z ▸ i)) e
theorem zx_item {Z P O a b la lb : Addr} {n : Nat} {xs ys : Array Value} {x y : Value} {Q : Value → Shared → Prop} (D : ZipApart Z P O a b la lb) (S : Zst k m Z P O a b la lb .none n s.heap)
    (qa : SqK k s.heap la xs) (qb : SqK m s.heap lb ys) (hx : xs[n]? = some x) (hy : ys[n]? = some y)
    (hk : ∀ g, Zst k m Z P O a b la lb (rawInt s.heap.objs.size) (n + 1) g → IsPair g s.heap.objs.size x y → g.objs.size = s.heap.objs.size + 1 → Fr [Z, O, a, b] s.heap g → Q (.ref s.heap.objs.size) { s with heap := g }) :
    wpAny (model prog w) A (Builtin.«zip.__next__» ⟨[.ref Z], []⟩) (fun fin s' => ∃ v, fin = .done (.ret v) ∧ Q v s') E s := by
  obtain ⟨z0, p0, ⟨u, v, o0⟩, ia, ib⟩ := S
  refine wpAny_bind (m := field (.ref Z) 2) (wpAny_field z0 rfl (x := .bool false) rfl (wpAny_bind (m := field (.ref Z) 3) (wpAny_field z0 rfl (x := .ref P) rfl (wpAny_bind (wpAny_seqItems p0 rfl ?_)))))
  refine wpAny_bind (m := Builtin.SmallTypes.ownedTupleIsFree (.ref Z)) ?_
  unfold Builtin.SmallTypes.ownedTupleIsFree
  refine wpAny_bind (wpAny_field z0 rfl (x := .none) rfl (wpAny_pure ?_))
  simp only [if_true]
  refine wpAny_bind (wpAny_rule (wpAny_bind (wpAny_field z0 rfl (x := .ref O) rfl (wpAny_bind (wpAny_setField_rec z0 (by simp) fun g1 z1 s1 => wpAny_bind ?_)))))
  have z1 : IsZip g1 Z P O .ellipsis := z1
  simp only [List.zipIdx_cons, List.zipIdx_nil, List.forIn_cons, List.forIn_nil]
  have f1 : Fr [Z, O, a, b] s.heap g1 := Fr.sb s1 (by simp)
  -- the first one
  refine wpAny_bind (wpAny_bind (wpAny_onRaise (wpAny_bind (m := Builtin.SmallTypes.nextOf (.ref a)) (nx_item (k := k) (ia.at fun o e => s1.extBut _ o D.i1z e) (qa.at fun o e => s1.extBut _ o D.l1z e) hx fun g2 ia2 s2 => wpAny_pure ?_))))
  have o2 : IsPair g2 O u v := s2.extBut _ _ D.TOi1 (s1.extBut _ _ D.TOz o0)
  have f2 : Fr [Z, O, a, b] g1 g2 := Fr.sb s2 (by simp)
  refine wpAny_bind (wpAny_seqItems o2 rfl (wpAny_bind (wpAny_updateSeq_pair o2 fun g3 o3 s3 => wpAny_bind (wpAny_letGo (wpAny_pure ?_)))))
  have o3 : IsPair g3 O x v := o3
  have f3 : Fr [Z, O, a, b] g2 g3 := Fr.sb s3 (by simp)
  -- the second one
  have ib3 : ItK m g3 b lb n := ((ib.at fun o e => s1.extBut _ o D.i2z e).at fun o e => s2.extBut _ o D.i12.symm e).at fun o e => s3.extBut _ o D.TOi2.symm e
  have qb3 : SqK m g3 lb ys := ((qb.at fun o e => s1.extBut _ o D.l2z e).at fun o e => s2.extBut _ o D.l2i1 e).at fun o e => s3.extBut _ o D.l2TO e
  refine wpAny_bind (wpAny_bind (wpAny_onRaise (wpAny_bind (m := Builtin.SmallTypes.nextOf (.ref b)) (nx_item (k := m) ib3 qb3 hy fun g4 ib4 s4 => wpAny_pure ?_))))
  have o4 : IsPair g4 O x v := s4.extBut _ _ D.TOi2 o3
  have f4 : Fr [Z, O, a, b] g3 g4 := Fr.sb s4 (by simp)
  refine wpAny_bind (wpAny_seqItems o4 rfl (wpAny_bind (wpAny_updateSeq_pair o4 fun g5 o5 s5 => wpAny_bind (wpAny_letGo (wpAny_pure (wpAny_pure ?_))))))
  have o5 : IsPair g5 O x y := o5
  have f5 : Fr [Z, O, a, b] s.heap g5 := (((f1.tr f2).tr f3).tr f4).tr (Fr.sb s5 (by simp))
  -- the pair is made and handed out
  refine wpAny_bind (wpAny_seqItems o5 rfl (wpAny_bind (wpAny_newTuple ?_)))
  have sz : g5.objs.size = s.heap.objs.size := by rw [s5.1, s4.1, s3.1, s2.1, s1.1]
  have z5 : IsZip g5 Z P O .ellipsis := s5.extBut _ _ D.TOz.symm (s4.extBut _ _ D.i2z.symm (s3.extBut _ _ D.TOz.symm (s2.extBut _ _ D.i1z.symm z1)))
  have ia5 : ItK k g5 a la (n + 1) := ((ia2.at fun o e => s3.extBut _ o D.TOi1.symm e).at fun o e => s4.extBut _ o D.i12 e).at fun o e => s5.extBut _ o D.TOi1.symm e
  have ib5 : ItK m g5 b lb (n + 1) := ib4.at fun o e => s5.extBut _ o D.TOi2.symm e
  have zl : Z < g5.objs.size := Heap.lt_size z5
  refine wpAny_bind (m := Builtin.SmallTypes.ownedTupleHandOut (.ref Z) (.ref g5.objs.size)) ?_
  unfold Builtin.SmallTypes.ownedTupleHandOut
  have z6 : IsZip (g5.push { cls := .type "tuple", data := .seq #[x, y] }) Z P O .ellipsis := Heap.get?_push_of_some _ z5
  refine wpAny_bind (wpAny_setField_rec z6 (by simp) fun g7 z7 s7 => ?_)
  have z7 : IsZip g7 Z P O (rawInt g5.objs.size) := z7
  refine wpAny_setField_rec z7 (by simp) fun g8 z8 s8 => ?_
  have z8 : IsZip g8 Z P O (rawInt g5.objs.size) := z8
  have up : ∀ c o, c ≠ Z → g5.get? c = some o → g8.get? c = some o := fun c o i e => s8.extBut _ _ i (s7.extBut _ _ i (Heap.get?_push_of_some _ e))
  have t8 : IsPair g8 g5.objs.size x y := s8.extBut _ _ (Nat.ne_of_gt zl) (s7.extBut _ _ (Nat.ne_of_gt zl) (Heap.get?_push_size _ rfl))
  have n8 : g8.objs.size = g5.objs.size + 1 := by rw [s8.1, s7.1, Heap.size_push]
  rw [sz] at z8 t8 n8
  refine wpAny_pure ⟨_, rfl, ?_⟩
  show Q (.ref g5.objs.size) _
  rw [sz]
  have f8 : Fr [Z, O, a, b] s.heap g8 := fun c o i e => up c o (fun q => i (by simp [q])) (f5 c o i e)
  exact hk g8 ⟨z8, f8 _ _ (by simp [D.TIz, D.TITO, D.TIi1, D.TIi2]) p0, ⟨x, y, up _ _ D.TOz o5⟩, ia5.at fun o e => up _ o D.i1z e, ib5.at fun o e => up _ o D.i2z e⟩ t8 n8 f8
theorem zx_end {Z P O a b la lb : Addr} {n : Nat} {xs ys : Array Value} {Q : Fin → Shared → Prop} (hh : A.handled = none) (D : ZipApart Z P O a b la lb) (S : Zst k m Z P O a b la lb .none n s.heap)
    (qa : SqK k s.heap la xs) (qb : SqK m s.heap lb ys) (hd : xs[n]? = none ∨ ys[n]? = none)
    (hk : ∀ g e, Fr [Z, O, a, b] s.heap g → (∃ o, g.get? e = some o ∧ o.cls = .type "StopIteration") → E (.ref e) { s with heap := g }) :
    wpAny (model prog w) A (Builtin.«zip.__next__» ⟨[.ref Z], []⟩) Q E s := by
  obtain ⟨z0, p0, ⟨u, v, o0⟩, ia, ib⟩ := S
  refine wpAny_bind (m := field (.ref Z) 2) (wpAny_field z0 rfl (x := .bool false) rfl (wpAny_bind (m := field (.ref Z) 3) (wpAny_field z0 rfl (x := .ref P) rfl (wpAny_bind (wpAny_seqItems p0 rfl ?_)))))
  refine wpAny_bind (m := Builtin.SmallTypes.ownedTupleIsFree (.ref Z)) ?_
  unfold Builtin.SmallTypes.ownedTupleIsFree
  refine wpAny_bind (wpAny_field z0 rfl (x := .none) rfl (wpAny_pure ?_))
  simp only [if_true]
  refine wpAny_bind (wpAny_rule (wpAny_bind (wpAny_field z0 rfl (x := .ref O) rfl (wpAny_bind (wpAny_setField_rec z0 (by simp) fun g1 z1 s1 => wpAny_bind ?_)))))
  have z1 : IsZip g1 Z P O .ellipsis := z1
  simp only [List.zipIdx_cons, List.zipIdx_nil, List.forIn_cons, List.forIn_nil]
  have f1 : Fr [Z, O, a, b] s.heap g1 := Fr.sb s1 (by simp)
  refine wpAny_bind (wpAny_bind (wpAny_onRaise ?_))
  refine wpAny_bind (m := Builtin.SmallTypes.nextOf (.ref a)) ?_
  cases hx : xs[n]? with
  | none =>
    refine nx_end (k := k) hh (ia.at fun o e => s1.extBut _ o D.i1z e) (qa.at fun o e => s1.extBut _ o D.l1z e) hx fun g2 e s2 he => ?_
    obtain ⟨oe, he, ce⟩ := he
    have z2 : IsZip g2 Z P O .ellipsis := s2 _ _ D.i1z.symm z1
    have ne : e ≠ Z := fun q => by subst q; rw [z2] at he; cases he; simp at ce
    exact wpAny_setField_rec z2 (by simp) fun g3 _ s3 => hk g3 e ((f1.tr (Fr.xb s2 (by simp))).tr (Fr.sb s3 (by simp))) ⟨oe, s3.extBut _ _ ne he, ce⟩
  | some x =>
    have hy : ys[n]? = none := by
      rcases hd with q | q
      · rw [hx] at q; cases q
      · exact q
    refine nx_item (k := k) (ia.at fun o e => s1.extBut _ o D.i1z e) (qa.at fun o e => s1.extBut _ o D.l1z e) hx fun g2 ia2 s2 => wpAny_pure ?_
    have o2 : IsPair g2 O u v := s2.extBut _ _ D.TOi1 (s1.extBut _ _ D.TOz o0)
    have f2 : Fr [Z, O, a, b] g1 g2 := Fr.sb s2 (by simp)
    refine wpAny_bind (wpAny_seqItems o2 rfl (wpAny_bind (wpAny_updateSeq_pair o2 fun g3 o3 s3 => wpAny_bind (wpAny_letGo (wpAny_pure ?_)))))
    have f3 : Fr [Z, O, a, b] g2 g3 := Fr.sb s3 (by simp)
    have ib3 : ItK m g3 b lb n := ((ib.at fun o e => s1.extBut _ o D.i2z e).at fun o e => s2.extBut _ o D.i12.symm e).at fun o e => s3.extBut _ o D.TOi2.symm e
    have qb3 : SqK m g3 lb ys := ((qb.at fun o e => s1.extBut _ o D.l2z e).at fun o e => s2.extBut _ o D.l2i1 e).at fun o e => s3.extBut _ o D.l2TO e
    refine wpAny_bind (wpAny_bind (wpAny_onRaise ?_))
    refine wpAny_bind (m := Builtin.SmallTypes.nextOf (.ref b)) (nx_end (k := m) hh ib3 qb3 hy fun g4 e s4 he => ?_)
    obtain ⟨oe, he, ce⟩ := he
    have z4 : IsZip g4 Z P O .ellipsis := s4 _ _ D.i2z.symm (s3.extBut _ _ D.TOz.symm (s2.extBut _ _ D.i1z.symm z1))
    have ne : e ≠ Z := fun q => by subst q; rw [z4] at he; cases he; simp at ce
    exact wpAny_setField_rec z4 (by simp) fun g5 _ s5 => hk g5 e ((((f1.tr f2).tr f3).tr (Fr.xb s4 (by simp))).tr (Fr.sb s5 (by simp))) ⟨oe, s5.extBut _ _ ne he, ce⟩
theorem nz_item {Z P O a b la lb : Addr} {n : Nat} {xs ys : Array Value} {x y : Value} {Q : Option Value → Shared → Prop} (D : ZipApart Z P O a b la lb) (S : Zst k m Z P O a b la lb .none n s.heap)
    (qa : SqK k s.heap la xs) (qb : SqK m s.heap lb ys) (hx : xs[n]? = some x) (hy : ys[n]? = some y)
    (hk : ∀ g, Zst k m Z P O a b la lb (rawInt s.heap.objs.size) (n + 1) g → IsPair g s.heap.objs.size x y → g.objs.size = s.heap.objs.size + 1 → Fr [Z, O, a, b] s.heap g → Q (some (.ref s.heap.objs.size)) { s with heap := g }) :
    wpAny (model prog w) A (pyNext (.ref Z)) Q E s := by
  have ty : s.TypeIs (.ref Z) "zip" := ⟨_, S.z, rfl⟩
  unfold pyNext
  exact wpAny_bind (wpAny_attempt (wpAny_callSpecial?_slot (name := Str.ofString "__next__") ty F.slot_zip_next (wpAny_call_entry F.slot_zip_next ty F.entry_zip_next (zx_item D S qa qb hx hy fun g a1 a2 a3 a4 => wpAny_pure (hk g a1 a2 a3 a4)) (F.args_zip_next_1 _))))
theorem nz_end {Z P O a b la lb : Addr} {n : Nat} {xs ys : Array Value} {Q : Option Value → Shared → Prop} (hh : A.handled = none) (D : ZipApart Z P O a b la lb) (S : Zst k m Z P O a b la lb .none n s.heap)
    (qa : SqK k s.heap la xs) (qb : SqK m s.heap lb ys) (hd : xs[n]? = none ∨ ys[n]? = none) (hk : ∀ g, Fr [Z, O, a, b] s.heap g → Q none { s with heap := g }) : wpAny (model prog w) A (pyNext (.ref Z)) Q E s := by
  have ty : s.TypeIs (.ref Z) "zip" := ⟨_, S.z, rfl⟩
  unfold pyNext
  refine wpAny_bind (wpAny_attempt (wpAny_callSpecial?_slot (name := Str.ofString "__next__") ty F.slot_zip_next (wpAny_call_entry F.slot_zip_next ty F.entry_zip_next (zx_end hh D S qa qb hd fun g e fr he => ?_) (F.args_zip_next_1 _))))
  obtain ⟨o, ho, hc⟩ := he
  exact wpAny_bind (wpAny_isInstance (T := "StopIteration") (b := true) ⟨o, ho, hc⟩ isSubtype_stop (wpAny_pure (hk _ fr)))
end
/-! ### a new zip -/
def tyI (k : Bool) : String := if k = true then "list_iterator" else "tuple_iterator"
abbrev zxA (k : Bool) (h : Heap) (l : Addr) : Heap := h.push { cls := .type (tyI k), data := .fields #[.ref l, .int 0 0] }
abbrev zxB (k m : Bool) (h : Heap) (la lb : Addr) : Heap := zxA m (zxA k h la) lb
abbrev zxC (k m : Bool) (h : Heap) (la lb : Addr) : Heap := (zxB k m h la lb).push { cls := .type "tuple", data := .seq #[.ref h.objs.size, .ref (zxA k h la).objs.size] }
abbrev zxD (k m : Bool) (h : Heap) (la lb : Addr) : Heap := (zxC k m h la lb).push { cls := .type "tuple", data := .seq #[.none, .none] }
abbrev zxE (k m : Bool) (h : Heap) (la lb : Addr) : Heap := (zxD k m h la lb).push { cls := .type "zip", data := .fields #[.none, .bool false, .bool false, .ref (zxB k m h la lb).objs.size, .ref (zxC k m h la lb).objs.size] }
theorem mz_lt (la lb : Addr) (xs ys : Array Value) :
    Meets (Builtin.«zip.__new__» ⟨[.type "zip", .ref la, .ref lb], []⟩) (fun _ R s => s.heap.IsList la xs ∧ s.heap.IsTuple lb ys ∧ R (.ok (.ret (.ref (zxD true false s.heap la lb).objs.size))) { s with heap := zxE true false s.heap la lb }) :=
  .of_wp fun prog w A R s q => by
    obtain ⟨hp, g, d, tk, os⟩ := s
    obtain ⟨qa, qb, q⟩ := q
    have sub := sub_zip
    have pa : Heap.IsList (Shared.heap ⟨hp, g, d, tk, os⟩) la xs := qa
    have pb : Heap.IsTuple (Shared.heap ⟨hp.push { cls := .type "list_iterator", data := .fields #[.ref la, .int 0 0] }, g, d, tk, os⟩) lb ys := Heap.IsTuple.push qb _
    wp_walk using wpAny_pyIter_list pa, wpAny_pyIter_tuple pb
    exact ⟨_, rfl, q⟩
theorem mz_tl (la lb : Addr) (xs ys : Array Value) :
    Meets (Builtin.«zip.__new__» ⟨[.type "zip", .ref la, .ref lb], []⟩) (fun _ R s => s.heap.IsTuple la xs ∧ s.heap.IsList lb ys ∧ R (.ok (.ret (.ref (zxD false true s.heap la lb).objs.size))) { s with heap := zxE false true s.heap la lb }) :=
  .of_wp fun prog w A R s q => by
    obtain ⟨hp, g, d, tk, os⟩ := s
    obtain ⟨qa, qb, q⟩ := q
    have sub := sub_zip
    have pa : Heap.IsTuple (Shared.heap ⟨hp, g, d, tk, os⟩) la xs := qa
    have pb : Heap.IsList (Shared.heap ⟨hp.push { cls := .type "tuple_iterator", data := .fields #[.ref la, .int 0 0] }, g, d, tk, os⟩) lb ys := Heap.IsList.push qb _
    wp_walk using wpAny_pyIter_tuple pa, wpAny_pyIter_list pb
    exact ⟨_, rfl, q⟩
section
variable {prog : Program} {w : World} {A : Around} {E : Value → Shared → Prop} {s : Shared} {k m : Bool}
theorem call_zx (ne : k ≠ m) {la lb : Addr} {xs ys : Array Value} {Q : Value → Shared → Prop} (qa : SqK k s.heap la xs) (qb : SqK m s.heap lb ys)
    (hk : ∀ g, Zst k m (s.heap.objs.size + 4) (s.heap.objs.size + 2) (s.heap.objs.size + 3) s.heap.objs.size (s.heap.objs.size + 1) la lb .none 0 g → g.objs.size = s.heap.objs.size + 5 → (∀ c o, s.heap.get? c = some o → g.get? c = some o) → Q (.ref (s.heap.objs.size + 4)) { s with heap := g }) :
    wpAny (model prog w) A (call (.type "zip") [.ref la, .ref lb]) Q E s := by
  have n1 : (zxA k s.heap la).objs.size = s.heap.objs.size + 1 := Heap.size_push ..
  have n2 : (zxB k m s.heap la lb).objs.size = s.heap.objs.size + 2 := by rw [Heap.size_push, n1]
  have n3 : (zxC k m s.heap la lb).objs.size = s.heap.objs.size + 3 := by rw [Heap.size_push, n2]
  have n4 : (zxD k m s.heap la lb).objs.size = s.heap.objs.size + 4 := by rw [Heap.size_push, n3]
  have n5 : (zxE k m s.heap la lb).objs.size = s.heap.objs.size + 5 := by rw [Heap.size_push, n4]
  have g5 : (zxE k m s.heap la lb).get? (zxD k m s.heap la lb).objs.size = some _ := Heap.get?_push_size _ rfl
  have g4 : (zxE k m s.heap la lb).get? (zxC k m s.heap la lb).objs.size = some _ := Heap.get?_push_of_some _ (Heap.get?_push_size _ rfl)
  have g3 : (zxE k m s.heap la lb).get? (zxB k m s.heap la lb).objs.size = some _ := Heap.get?_push_of_some _ (Heap.get?_push_of_some _ (Heap.get?_push_size _ rfl))
  have g2 : (zxE k m s.heap la lb).get? (zxA k s.heap la).objs.size = some _ := Heap.get?_push_of_some _ (Heap.get?_push_of_some _ (Heap.get?_push_of_some _ (Heap.get?_push_size _ rfl)))
  have g1 : (zxE k m s.heap la lb).get? s.heap.objs.size = some _ := Heap.get?_push_of_some _ (Heap.get?_push_of_some _ (Heap.get?_push_of_some _ (Heap.get?_push_of_some _ (Heap.get?_push_size _ rfl))))
  rw [n2, n3, n4] at g5
  rw [n1, n2] at g3
  rw [n3] at g4
  rw [n1] at g2
  have st : Zst k m (s.heap.objs.size + 4) (s.heap.objs.size + 2) (s.heap.objs.size + 3) s.heap.objs.size (s.heap.objs.size + 1) la lb .none 0 (zxE k m s.heap la lb) := by
    refine ⟨g5, g3, ⟨_, _, g4⟩, ?_, ?_⟩
    · cases k with
      | true => exact ⟨_, g1, rfl, rfl⟩
      | false => exact ⟨_, g1, rfl, rfl⟩
    · cases m with
      | true => exact ⟨_, g2, rfl, rfl⟩
      | false => exact ⟨_, g2, rfl, rfl⟩
  have kept : ∀ c o, s.heap.get? c = some o → (zxE k m s.heap la lb).get? c = some o := fun c o x => Heap.get?_push_of_some _ (Heap.get?_push_of_some _ (Heap.get?_push_of_some _ (Heap.get?_push_of_some _ (Heap.get?_push_of_some _ x))))
  have fin := hk _ st n5 kept
  have obj : ∃ o, (zxE k m s.heap la lb).get? (s.heap.objs.size + 4) = some o ∧ o.cls = .type "zip" := ⟨_, g5, rfl⟩
  cases k with
  | true =>
    cases m with
    | true => exact (ne rfl).elim
    | false =>
      refine callType_new F.called_zip (by decide) (F.typeCall_zip_2 _ _) (F.newCall_zip_2 _ _) (fun obj => F.args_object_init_3 obj _ _) F.entry_zip_new (mz_lt la lb xs ys) ⟨qa, qb, ?_⟩
      show _ ∧ _
      rw [n4]
      exact ⟨obj, fin⟩
  | false =>
    cases m with
    | false => exact (ne rfl).elim
    | true =>
      refine callType_new F.called_zip (by decide) (F.typeCall_zip_2 _ _) (F.newCall_zip_2 _ _) (fun obj => F.args_object_init_3 obj _ _) F.entry_zip_new (mz_tl la lb xs ys) ⟨qa, qb, ?_⟩
      show _ ∧ _
      rw [n4]
      exact ⟨obj, fin⟩
end
/-! ### the walk -/
def SqH (K : PySem.W.Frag) (k : Bool) (H : Hp) (a : Addr) (xs : List V) : Prop := if k = true then SqL K H a xs else SqT K H a xs
def Itzx (K : PySem.W.Frag) (k m : Bool) (a b : Addr) : It :=
  ⟨fun i H => ∃ (xs ys : List V) (x y : V), SqH K k H a xs ∧ SqH K m H b ys ∧ xs[i]? = some x ∧ ys[i]? = some y,
    fun i H v H' => ∃ T x y, v = .ref T ∧ H T = none ∧ H' = upd H T (.tup [x, y]) ∧ (∀ xs, SqH K k H a xs → xs[i]? = some x) ∧ ∀ ys, SqH K m H b ys → ys[i]? = some y,
    fun i H => ∃ xs ys : List V, SqH K k H a xs ∧ SqH K m H b ys ∧ (xs.length ≤ i ∨ ys.length ≤ i)⟩
theorem sq_real {X : Cx} {pins : List (Addr × Obj)} {σ : L2.St} {H : Hp} {s : Shared} {k : Bool} {a : Addr} {xs : List V} (I : Inv X pins σ H s) (q : SqH X.K k H a xs) : ∃ us : List Value, Vals xs us ∧ SqK k s.heap a us.toArray := by
  cases k with
  | true => obtain ⟨us, rv, p, _⟩ := I.list (show SqL X.K H a xs from q); exact ⟨us, rv, p.isList⟩
  | false => obtain ⟨us, rv, p, _⟩ := I.tuple (show SqT X.K H a xs from q); exact ⟨us, rv, p⟩
theorem sq_inj {X : Cx} {pins : List (Addr × Obj)} {σ : L2.St} {H : Hp} {s : Shared} {k : Bool} {a : Addr} {xs ys : List V} (I : Inv X pins σ H s) (q : SqH X.K k H a xs) (q' : SqH X.K k H a ys) : xs = ys := by
  cases k with
  | true => exact I.list_inj q q'
  | false => exact I.tuple_inj q q'
theorem five {c p1 p2 p3 p4 p5 : Addr} {p : Addr → Prop} (h : c ∈ [p1, p2, p3, p4, p5]) (h1 : p p1) (h2 : p p2) (h3 : p p3) (h4 : p p4) (h5 : p p5) : p c := by
  simp only [List.mem_cons, List.not_mem_nil, or_false] at h
  rcases h with h | h | h | h | h <;> subst h <;> assumption
theorem turn_zx {P : Program} {w : World} {K : PySem.W.Frag} {elts : List Expr} {kk : Nat} {tpos : Pos} {k m : Bool} {la lb Z T O a b : Addr} (D : ZipApart Z T O a b la lb) :
    Turn P w K (.Tuple elts kk tpos) (Itzx K k m la lb) [Z, T, O, a, b] Z (fun i h => Zst k m Z T O a b la lb .none i h) where
  mem := by simp
  obj := fun i h st c hc => by
    obtain ⟨z0, p0, ⟨x, y, o0⟩, ia, ib⟩ := st
    refine five (p := fun c => ∃ o, h.get? c = some o ∧ ∀ v, o.data ≠ .cell v) hc ⟨_, z0, fun v q => nomatch q⟩ ⟨_, p0, fun v q => nomatch q⟩ ⟨_, o0, fun v q => nomatch q⟩ ?_ ?_
    · obtain ⟨o, vs, e, d⟩ := ia.ob
      exact ⟨o, e, fun v q => by rw [d] at q; cases q⟩
    · obtain ⟨o, vs, e, d⟩ := ib.ob
      exact ⟨o, e, fun v q => by rw [d] at q; cases q⟩
  keep := fun i h h' st kp => by
    obtain ⟨z0, p0, ⟨x, y, o0⟩, ia, ib⟩ := st
    exact ⟨kp Z (by simp) _ z0, kp T (by simp) _ p0, ⟨x, y, kp O (by simp) _ o0⟩, ia.at fun o e => kp a (by simp) o e, ib.at fun o e => kp b (by simp) o e⟩
  item := by
    intro X hP hw hK hc i pins s σ H E I hf st hg
    subst hP hw hK
    obtain ⟨xs, ys, x, y, qx, qy, hx, hy⟩ := hg
    obtain ⟨us, rv, p⟩ := sq_real I qx
    obtain ⟨ws, rw', p'⟩ := sq_real I qy
    obtain ⟨u, hu, ru⟩ := rv.get hx
    obtain ⟨v, hv, rv'⟩ := rw'.get hy
    have zl : Z < s.heap.objs.size := Heap.lt_size st.z
    have pl : T < s.heap.objs.size := Heap.lt_size st.p
    have ol : O < s.heap.objs.size := let ⟨_, _, o0⟩ := st.o; Heap.lt_size o0
    have al : a < s.heap.objs.size := let ⟨_, _, e, _⟩ := st.a.ob; Heap.lt_size e
    have bl : b < s.heap.objs.size := let ⟨_, _, e, _⟩ := st.b.ob; Heap.lt_size e
    refine nz_item (k := k) (m := m) D st p p' (x := u) (y := v) (by simpa using hu) (by simpa using hv) fun g st' t0 sz fr => ?_
    refine ⟨_, rfl, wpAny_letOwnedTupleGo_zip (s := { s with heap := g }) st'.z fun g' z' sb => ?_⟩
    have t1 : g'.get? s.heap.objs.size = some { cls := .type "tuple", data := .seq #[u, v] } := (sb.2 _ (Nat.ne_of_gt zl)).trans t0
    have ob : ObjOk X.prog X.w (upd H s.heap.objs.size (.tup [x, y])) g' s.heap.objs.size (.tup [x, y]) := ⟨by show 2 ≤ sizeLine; decide, [u, v], .cons ru (.cons rv' .nil), ⟨_, t1, rfl, _, rfl⟩⟩
    have J0 : Inv X pins σ (upd H s.heap.objs.size (.tup [x, y])) { s with heap := g' } := I.turnedNew (t' := s.toks) (ch := [Z, T, O, a, b]) (fun c o nb q => (sb.2 c (fun q' => nb (by simp [q']))).trans (fr c o (fun i => nb (by simp at i ⊢; rcases i with i | i | i | i <;> simp [i])) q)) hf (Nat.le_refl _) ob
    refine ⟨.ref s.heap.objs.size, _, J0, rfl, ⟨_, x, y, rfl, I.hok.fresh (Nat.le_refl _), rfl, fun l hl => by rw [sq_inj I hl qx]; exact hx, fun l hl => by rw [sq_inj I hl qy]; exact hy⟩, ?_, fun c hcm => ?_⟩
    · obtain ⟨_, p1, ⟨x1, y1, o1⟩, ia, ib⟩ := st'
      exact ⟨z', (sb.2 _ D.TIz).trans p1, ⟨x1, y1, (sb.2 _ D.TOz).trans o1⟩, ia.at fun o e => (sb.2 _ D.i1z).trans e, ib.at fun o e => (sb.2 _ D.i2z).trans e⟩
    · have lt : c < s.heap.objs.size := five (p := fun c => c < s.heap.objs.size) hcm zl pl ol al bl
      rw [upd_ne (Nat.ne_of_lt lt)]
      exact (hf c hcm).1
  done := by
    intro X hP hw hK hc i pins s σ H E I hf st hg
    subst hP hw hK
    obtain ⟨xs, ys, qx, qy, hd⟩ := hg
    obtain ⟨us, rv, p⟩ := sq_real I qx
    obtain ⟨ws, rw', p'⟩ := sq_real I qy
    have l1 := rv.length
    have l2 := rw'.length
    have hd' : us.toArray[i]? = none ∨ ws.toArray[i]? = none := by
      rcases hd with q | q
      · exact .inl (by simp; omega)
      · exact .inr (by simp; omega)
    exact nz_end (k := k) (m := m) (I.ok.hd hc) D st p p' hd' fun g fr => ⟨rfl, I.turnedL (t' := s.toks) (ch := [Z, T, O, a, b]) (fun c o nb q => fr c o (fun i => nb (by simp at i ⊢; rcases i with i | i | i | i <;> simp [i])) q) hf⟩
  self := fun A i s Q E st h => wpAny_pyIter_zip st.z h
def iZipX (K : PySem.W.Frag) (ta : TA) : TI := fun σ H R => ta σ H fun vs H1 => ∃ (a b : Addr) (xs ys : List V) (k m : Bool), vs = [.ref a, .ref b] ∧ SqH K k H1 a xs ∧ SqH K m H1 b ys ∧ (k = m → if k = true then R (L2.Itz K a b) H1 else R (RZ.ItzT K a b) H1) ∧ (k ≠ m → R (Itzx K k m a b) H1)
theorem pi_zx {X : Cx} {e e2 : Expr} {ta : TA} {p pos tpos : Pos} {elts : List Expr} {kk : Nat} (hg : Gl X "zip") (hm : X.mg "zip" = none) (ha : PA X [e, e2] ta)
    (hs : starEach [e, e2] X.env = (false, eval e X.env) :: starEach [e2] X.env := by rfl) (hpl : (backTo pos (starEach [e2] X.env)).any (·.1) = false := by rfl) :
    PI X (.Tuple elts kk tpos) (.Call (.Name "zip" p) [e, e2] [] pos) (iZipX X.K ta) := by
  refine ⟨fun pins s σ H R I h => ?_⟩
  refine Call_ (ld_blt I hg hm PyProof.Rows.boot_zip (PyProof.Rows.callWith_type1 (thn (ha.run pos pins s σ H _ I h) fun us s1 ⟨vs, H1, I1, r1, q1⟩ => ?_) hs hpl))
  obtain ⟨a, b, xs, ys, k, m, ex, qx, qy, q, q'⟩ := q1
  subst ex
  cases r1 with
  | cons r rr =>
    cases rr with
    | cons r' rr =>
      cases rr
      cases r
      cases r'
      have fresh : ∀ c, c ∈ [s1.heap.objs.size + 4, s1.heap.objs.size + 2, s1.heap.objs.size + 3, s1.heap.objs.size, s1.heap.objs.size + 1] → FpOk X pins H1 c := fun c hcm => by
        have le : s1.heap.objs.size ≤ c := five (p := fun c => s1.heap.objs.size ≤ c) hcm (by omega) (by omega) (by omega) (by omega) (by omega)
        exact I1.fpOk le (I1.hok.fresh le)
      by_cases ne : k = m
      · subst ne
        have q := q rfl
        cases k with
        | true =>
          obtain ⟨us, rv, p1, _⟩ := I1.list (show SqL X.K H1 a xs from qx)
          obtain ⟨ws, rv2, p2, _⟩ := I1.list (show SqL X.K H1 b ys from qy)
          refine call_zip_2 p1.isList p2.isList fun g z0 p0 o0 ia ib sz kp => wpAny_pyIter_zip z0 ?_
          have I2 : Inv X pins σ H1 { s1 with heap := g } := I1.kept (t' := s1.toks) kp
          exact ⟨s1.heap.objs.size + 4, _, _, _, H1, rfl, I2, turn_zip (PySem.W.ktu_apart s1.heap.objs.size a b p1.lt p2.lt), ⟨z0, p0, ⟨_, _, o0⟩, ia, ib⟩, fresh, q⟩
        | false =>
          obtain ⟨us, rv, p1, _⟩ := I1.tuple (show SqT X.K H1 a xs from qx)
          obtain ⟨ws, rv2, p2, _⟩ := I1.tuple (show SqT X.K H1 b ys from qy)
          obtain ⟨o1, ho1, _⟩ := id p1
          obtain ⟨o2, ho2, _⟩ := id p2
          refine RZ.call_zipT (show s1.heap.IsTuple a us.toArray from p1) (show s1.heap.IsTuple b ws.toArray from p2) fun g z0 p0 o0 ia ib sz kp => wpAny_pyIter_zip z0 ?_
          have I2 : Inv X pins σ H1 { s1 with heap := g } := I1.kept (t' := s1.toks) kp
          exact ⟨s1.heap.objs.size + 4, _, _, _, H1, rfl, I2, RZ.turn_zipT (PySem.W.ktu_apart s1.heap.objs.size a b (Heap.lt_size ho1) (Heap.lt_size ho2)), ⟨z0, p0, ⟨_, _, o0⟩, ia, ib⟩, fresh, q⟩
      · obtain ⟨us, rv, p1⟩ := sq_real I1 qx
        obtain ⟨ws, rv2, p2⟩ := sq_real I1 qy
        refine call_zx ne p1 p2 fun g st sz kp => wpAny_pyIter_zip st.z ?_
        have I2 : Inv X pins σ H1 { s1 with heap := g } := I1.kept (t' := s1.toks) kp
        exact ⟨s1.heap.objs.size + 4, _, _, _, H1, rfl, I2, turn_zx (PySem.W.ktu_apart s1.heap.objs.size a b p1.lt p2.lt), st, fresh, q' ne⟩
end J

/-! JL30: lists of one's own lists by a comprehension; walks over what stays; zip; gcd; places of parts. -/
namespace J
open PySem L2 PyProof.Rows
section
variable {K : PySem.W.Frag} {g : G} {B B1 B' H H1 H' : Hp} {s s1 : L2.St} {r r1 : Env} {z z1 : Stk} {v w y : V} {t : T} {c : Cl} {W : WX}
/-- one thing more in an own list on the stack -/
theorem SR.grownN {p : Addr} {fs : List F} {l : F} (S : SR K g B s r ((v, t) :: (.ref p, .own (.nd p none fs)) :: z) H) (lo : OwF K B H l v) (lf : ∀ a, a ∈ idsF l ↔ fpT H v t a) :
    ∃ vs, H p = some (.lst vs) ∧ vs.length = fs.length ∧ SR K g B s r ((.ref p, .own (.nd p none (fs ++ [l]))) :: z) (L2.upd H p (.lst (vs ++ [v]))) := by
  obtain ⟨⟨_, o, h1, ⟨vs, rfl⟩, h2, nf⟩, hb⟩ := id S.pop.top
  have h2 : OwFs K B H fs vs := h2
  have dis := (List.pairwise_cons.mp S.d3).1 _ List.mem_cons_self
  have own : ∀ {a : Addr} {fs : List F}, fpT H (V.ref p) (.own (.nd p none fs)) a ↔ a = p ∨ a ∈ idsFs fs := fun {a fs} => by
    show a ∈ idsF (F.nd p none fs) ↔ _
    simp [idsF]
  have lout : p ∉ idsF l := fun q => dis p ((lf p).mp q) (own.mpr (Or.inl rfl))
  have ldis : ∀ a, a ∈ idsF l → a ∉ idsFs fs := fun a q q' => dis a ((lf a).mp q) (own.mpr (Or.inr q'))
  have off : ∀ a, a ≠ p → (L2.upd H p (.lst (vs ++ [v]))) a = H a := fun a q => upd_ne q
  refine ⟨vs, h1, h2.len, SR.tradeZ (zo := [(v, t), (.ref p, .own (.nd p none fs))]) (zn := [(.ref p, .own (.nd p none (fs ++ [l])))]) S (fun a o e q => ?_) (fun a e => ?_) (fun x hx => ?_) (fun x hx a q => ?_) (fun x hx j e => ?_) (List.pairwise_singleton _ _)⟩
  · rw [upd_ne fun e' => q _ (List.mem_cons_of_mem _ List.mem_cons_self) (own.mpr (Or.inl e'))]
    exact e
  · by_cases q : a = p
    · subst q; rw [upd_same]; simp
    · rw [upd_ne q]; exact e
  · rw [List.mem_singleton] at hx
    subst hx
    refine ⟨⟨rfl, _, upd_same, ⟨_, rfl⟩, (ows_app (ow_frames h2 (Same.refl _) fun a q => off a fun e => nf (e ▸ q)) (ow_frame lo (Same.refl _) fun a q => off a fun e => lout (e ▸ q)) ldis).1, fun q => ?_⟩, fun a q => ?_⟩
    · rcases ids_app.mp q with q | q
      · exact nf q
      · exact lout q
    · rcases own.mp q with q | q
      · exact hb a (own.mpr (Or.inl q))
      · rcases ids_app.mp q with q | q
        · exact hb a (own.mpr (Or.inr q))
        · have := S.top.live ((lf a).mp q)
          exact ⟨this.2.1, this.2.2⟩
  · rw [List.mem_singleton] at hx
    subst hx
    rcases own.mp q with q | q
    · exact Or.inl ⟨_, List.mem_cons_of_mem _ List.mem_cons_self, own.mpr (Or.inl q)⟩
    · rcases ids_app.mp q with q | q
      · exact Or.inl ⟨_, List.mem_cons_of_mem _ List.mem_cons_self, own.mpr (Or.inr q)⟩
      · exact Or.inl ⟨_, List.mem_cons_self, (lf a).mp q⟩
  · rw [List.mem_singleton] at hx
    subst hx
    cases e
theorem es_lcN {wi : TI} {tg : TG} {tt : TT} {te : TE} {di : DI} {dg : DG} {dt : DT} {de : DE} {ks sets vs : List Nat} (hi : ISm K g c W ks wi di) (hg : GSm K g (· ∉ g.cs) sets tg dg) (ht : TSm K g c W0 tt dt) (he : ES K g c W0 te de) (hv : ∀ i, i ∈ vs → i ∈ g.cs) (hsub : ∀ i, i ∈ sets → i ∈ vs) :
    ES K g c W (tLc wi tg tt te vs) (dLCN di dg dt de vs) := fun s H r B z Y Q Qv lw S h k => by
  refine hi s H r B z Y _ _ lw S h fun J H1 B1 r1 ds st v t S1 _ q1 jok D hD => ?_
  obtain ⟨I, i0, hst, hf, hlen, hq⟩ := q1
  have lw0 : ∀ z, LW K g c W0 (fun _ _ => False) z := fun _ _ _ _ _ _ _ _ _ _ _ _ y => y.elim
  have S0 : SR K g B1 s r1 ((.ref D, .own (.nd D none [])) :: (v, t) :: z) (L2.upd H1 D (.lst [])) := S1.ownG (sm_new hD) ⟨⟨rfl, _, upd_same, ⟨_, rfl⟩, rfl, by simp [idsFs]⟩, fun a q => by
    have : a = D := by simpa [fpF, idsF, idsFs] using q
    subst this
    exact ⟨S1.bnone hD, Or.inl (S1.h0none hD)⟩⟩ (fun a q => by
    have : a ∈ idsF (F.nd D none []) := q
    have : a = D := by simpa [idsF, idsFs] using this
    subst this
    exact hD) fun i e => by cases e
  have S2 := S0.wiped (s' := wipe s vs) hv (wipe_length s vs) fun i hi => wipe_ne hi
  refine ⟨fun i m H' => ∃ B' r' acc, SR K g B' (wipe s vs) r' ((.ref D, .own (.nd D none acc)) :: (v, t) :: z) H' ∧ I i acc r' ∧ i ≤ ds.length ∧ m = ds.length - i, ⟨ds.length, B1, _, [], S2, i0, Nat.zero_le _, rfl⟩, fun i m H' hW => ?_⟩
  obtain ⟨B', r', acc, S', hI, hle, rfl⟩ := hW
  obtain ⟨hs1, hs2, hs3⟩ := hst i acc r' hI
  obtain ⟨jgo, jstop⟩ := jok i (wipe s vs) H' B' _ _ S' (List.mem_cons_of_mem _ List.mem_cons_self) hs1
  by_cases hlt : i < ds.length
  · obtain ⟨go, yl⟩ := jgo hlt
    refine Or.inr ⟨go, fun H2 => ∃ B2 r2 acc2, SR K g B2 (wipe s vs) r2 ((.ref D, .own (.nd D none acc2)) :: (v, t) :: z) H2 ∧ I (i + 1) acc2 r2, fun H2 ⟨B2, r2, acc2, S2, hI2⟩ => ⟨_, by omega, B2, r2, acc2, S2, hI2, hlt, rfl⟩, fun x H2 hy => ?_⟩
    obtain ⟨B2, d, ed, S3⟩ := yl x H2 hy
    refine hg (wipe s vs) H2 _ B2 _ x d _ _ S3 (fun i w hw => S3.al i w (List.mem_cons_of_mem _ hw)) (hf i d acc r' ed hI) fun s4 H4 B4 r4 S4 l4 n4 q4 => ?_
    have ws : wipe s4 vs = wipe s vs := (wipe_ext l4 fun i hi => n4 i fun h => hi (hsub i h)).trans (wipe_wipe s vs)
    refine ⟨ws, ht s4 H4 r4 B4 _ _ _ _ (lw0 _) S4 q4 fun b H5 B5 r5 S5 q5 => ?_⟩
    have back : ∀ {B5 H5 : Hp} {r5 : Env} {z5 : Stk}, SR K g B5 s4 r5 z5 H5 → SR K g B5 (wipe s vs) (wipeE r5 vs) z5 H5 := fun {B5 H5 r5 z5} S5 => ws ▸ S5.wiped hv (wipe_length s4 vs) fun i hi => wipe_ne hi
    cases b with
    | true =>
      refine he s4 H5 r5 B5 _ _ _ _ (lw0 _) S5 q5 fun y H6 B6 r6 t6 S6 q6 => ?_
      obtain ⟨l, q7, lo, lf⟩ := leaf_of q6 S6.top
      obtain ⟨us, g1, g2, S7⟩ := S6.grownN lo lf
      exact ⟨us, g1, by rw [g2, ← size_is]; omega, B6, _, _, back S7, q7⟩
    | false => exact ⟨B5, _, _, back S5, q5⟩
  · obtain rfl : i = ds.length := by omega
    refine Or.inl ⟨jstop (Nat.le_refl _), ?_⟩
    have S8 := S'.wiped (s' := s) hv (wipe_length s vs).symm fun i hi => (wipe_ne hi).symm
    rw [hs3] at S8
    exact k _ _ B' _ _ S8.under (hq acc r' hI D)
end
section
variable {X : Cx} {g : G} {c : Cl} {W : WX} {L : List Nat}
theorem j_lcN {elt tg iter : Expr} {ifs : List Expr} {scope : Scope} {own : List (Str × Nat)} {pos : Pos} {di : DI} {dg : DG} {dt : DT} {de : DE} {ks sets vs : List Nat} (hc : X.calm = true) (hN : X.N.Nodup) (hi : JI X g c W ks tg iter di) (ok : BlkOk X.N X.env.scope scope own) (hvs : own.map (·.2) = vs) (hv : ∀ i, i ∈ vs → i ∈ g.cs) (hsub : ∀ i, i ∈ sets → i ∈ vs)
    (hg : ∀ (s : Shared) (H : Hp) (C : Addr) (cl : List (Str × Addr)) (fp : List Addr), JG (X.blk s H scope (compEnvC scope cl C X.env) fp) g (· ∉ g.cs) sets tg dg)
    (ht : ∀ (s : Shared) (H : Hp) (C : Addr) (cl : List (Str × Addr)) (fp : List Addr), JTs (X.blk s H scope (compEnvC scope cl C X.env) fp) g c W0 ifs dt)
    (he : ∀ (s : Shared) (H : Hp) (C : Addr) (cl : List (Str × Addr)) (fp : List Addr), JE (X.blk s H scope (compEnvC scope cl C X.env) fp) g c W0 elt de) (hs : ∀ x, foldedSetIterable iter X.env x = pure x := by intro _; rfl) :
    JE X g c W (.ListComp elt [⟨tg, iter, ifs, 0⟩] scope pos) (dLCN di dg dt de vs) := by
  obtain ⟨wi, pi, si⟩ := hi.ex
  subst hvs
  exact ⟨_, pe_lc hc hN pi ok (fun s H C cl fp => (hg s H C cl fp).canon) (fun s H C cl fp => (ht s H C cl fp).canon) (fun s H C cl fp => (he s H C cl fp).canon) hs, es_lcN si (canonG_ok (P := (· ∉ g.cs))) canonT_ok canonE_ok hv hsub⟩
theorem js_setLcN {i : Nat} {y : Str} {py : Pos} {elt tg iter : Expr} {ifs : List Expr} {scope : Scope} {own : List (Str × Nat)} {pos spos : Pos} {di : DI} {dg : DG} {dt : DT} {de : DE} {ks sets vs : List Nat} (hiL : i ∉ L) (hn : i < g.n) (hc : X.calm = true) (hN : X.N.Nodup) (hy : X.N[i]? = some y) (hyl : X.env.scope.names.lookup y = some .local)
    (hsw : swapsWith (.ListComp elt [⟨tg, iter, ifs, 0⟩] scope pos) (some (.Name y py)) spos.line X.env = pure true) (hi : JI X g c W ks tg iter di) (ok : BlkOk X.N X.env.scope scope own) (hvs : own.map (·.2) = vs) (hv : ∀ i, i ∈ vs → i ∈ g.cs) (hsub : ∀ i, i ∈ sets → i ∈ vs)
    (hg : ∀ (s : Shared) (H : Hp) (C : Addr) (cl : List (Str × Addr)) (fp : List Addr), JG (X.blk s H scope (compEnvC scope cl C X.env) fp) g (· ∉ g.cs) sets tg dg)
    (ht : ∀ (s : Shared) (H : Hp) (C : Addr) (cl : List (Str × Addr)) (fp : List Addr), JTs (X.blk s H scope (compEnvC scope cl C X.env) fp) g c W0 ifs dt)
    (he : ∀ (s : Shared) (H : Hp) (C : Addr) (cl : List (Str × Addr)) (fp : List Addr), JE (X.blk s H scope (compEnvC scope cl C X.env) fp) g c W0 elt de) (hs : ∀ x, foldedSetIterable iter X.env x = pure x := by intro _; rfl) :
    JS X g c W L (.Assign [.Name y py] (.ListComp elt [⟨tg, iter, ifs, 0⟩] scope pos) spos) (dSet i (dLCN di dg dt de vs)) := by
  obtain ⟨wi, pi, si⟩ := hi.ex
  subst hvs
  exact ⟨_, ps_setLc hc hN hy hyl hsw pi ok (fun s H C cl fp => (hg s H C cl fp).canon) (fun s H C cl fp => (ht s H C cl fp).canon) (fun s H C cl fp => (he s H C cl fp).canon) hs, ss_set hiL hn (es_lcN si (canonG_ok (P := (· ∉ g.cs))) canonT_ok canonE_ok hv hsub)⟩
/-! ### o[k] = e, o a part -/
theorem js_psetIx {o e ke : Expr} {dob de dk : DE} {ps pos : Pos} (ho : JE X g c W o dob) (he : JE X g c W e de) (hk : JE X g c W ke dk)
    (hs : swapsWithSole [.Subscript o ke ps] e pos.line X.env = pure false := by rfl) (hw : swappedStores [.Subscript o ke ps] e X.env = pure none := by rfl)
    (h1 : (assignEach [.Subscript o ke ps] X.env).map (·.2) = [assign (.Subscript o ke ps) X.env] := by rfl)
    (hsub : ∀ v, assign (.Subscript o ke ps) X.env v = (do
      let ov ← holding [v] (eval o X.env)
      let iv ← holding [v, ov] (eval ke X.env)
      standAt ps
      holding [v, ov, iv] (setItem ov iv v)
      release [v, ov, iv] []) := by intro _; rfl) : JS X g c W L (.Assign [.Subscript o ke ps] e pos) (dPsetIx dob dk de) := by
  obtain ⟨to, po, so⟩ := ho.ex
  obtain ⟨te, pe, se⟩ := he.ex
  obtain ⟨tk, pk, sk⟩ := hk.ex
  refine ⟨_, ps_asg pe (pg_sub po pk set_list hsub) hs hw h1, fun s H r B z Y E D lw S hl h k => ?_⟩
  refine se s H r B z Y _ _ lw S h fun v H1 B1 r1 t1 S1 q1 => ?_
  refine so s H1 r1 B1 _ Y _ _ lw.ext S1 q1 fun x H2 B2 r2 t2 S2 q2 => ?_
  split at q2
  · rename_i i p q
    obtain rfl : x = V.ref q := S2.top
    refine sk s H2 r2 B2 _ Y _ _ lw.ext.ext S2 q2 fun w H3 B3 r3 t3 S3 q3 => ?_
    split at q3
    · rename_i d zi n ds e3 l3
      split at q3
      · rename_i j ej
        have vi := S3.view List.mem_cons_self e3
        cases vi
        have rv : Rep X.K B3 v d := S3.pop.pop.top
        obtain ⟨_, vs2, a2, a3, _⟩ := S3.pop.pop.pop.changeP l3 (RepAll.nil (K := X.K) (B := B3))
        obtain ⟨_, vs3, b2, _, S4⟩ := S3.pop.pop.pop.changeP l3 (a3.set rv j)
        rw [a2] at b2
        cases b2
        exact ⟨q, vs2, zi, j, rfl, rfl, a2, by rw [a3.len]; exact ej, k.nx s _ B3 _ S4 q3⟩
      · exact q3.elim
    · exact q3.elim
  · exact q2.elim
/-! ### walks over what stays -/
structure JP (X : Cx) (g : G) (c : Cl) (W : WX) (tg iter : Expr) (di : DIP) : Prop where
  ex : ∃ wi, PI X tg iter wi ∧ ∀ (s : L2.St) (H : Hp) (r : Env) (B : Hp) (z : Stk) (Y : XD) (Q : List D → Env → Prop) (R : It → Hp → Prop), LW X.K g c W Y z → SR X.K g B s r z H → di Y Q r →
    (∀ J H1 B1 r1 ds, SR X.K g B1 s r1 z H1 → Q ds r1 → (∀ z1, Jok1 X.K (rb g B1) J ds (fun _ => True) z1) → R J H1) → wi s H R
theorem jp_dic {w : Nat} {tg e iter : Expr} {de : DE} (he : JE X g c W e de) (hw : WalkK X tg w e iter) : JP X g c W tg iter (ipDic w (iDic de)) := by
  obtain ⟨te, pe, se⟩ := he.ex
  exact ⟨_, pi_w hw pe, fun s H r B z Y Q R lw S h k => es_dic se lw S h fun J H1 B1 r1 kvs S1 q1 jok => k J H1 B1 r1 _ S1 q1 jok⟩
/-- a list or a tuple that stays -/
theorem SR.stay {K : PySem.W.Frag} {B H : Hp} {s : L2.St} {r : Env} {z : Stk} {v : V} {t : T} {k : Bool} {ds : List D} (S : SR K g B s r z H) (h : (v, t) ∈ z) (e : stayD r t = some (k, ds)) :
    ∃ a vs, v = .ref a ∧ RepAll K B vs ds ∧ ∀ {B2 H2 : Hp} {s2 : L2.St} {r2 : Env} {z2 : Stk}, SR K (J.rb g B) B2 s2 r2 z2 H2 → if k = true then SqL K H2 a vs else SqT K H2 a vs := by
  have shr : ∀ {d : D}, Rep K B v d → seqD d = some (k, ds) → ∃ a vs, v = .ref a ∧ RepAll K B vs ds ∧ ∀ {B2 H2 : Hp} {s2 : L2.St} {r2 : Env} {z2 : Stk}, SR K (J.rb g B) B2 s2 r2 z2 H2 → if k = true then SqL K H2 a vs else SqT K H2 a vs := fun {d} h e => by
    cases h with
    | lst h1 rr =>
      simp only [seqD, Option.some.injEq, Prod.mk.injEq] at e
      obtain ⟨rfl, rfl⟩ := e
      exact ⟨_, _, rfl, rr, fun S2 => SqL.of (pinned S2 (Or.inl h1))⟩
    | tup h1 rr =>
      simp only [seqD, Option.some.injEq, Prod.mk.injEq] at e
      obtain ⟨rfl, rfl⟩ := e
      exact ⟨_, _, rfl, rr, fun S2 => same_t (Same.trans S2.b0 S2.bh) h1⟩
    | _ => cases e
  have lent : ∀ {d : D} {a : Addr}, BorOk K B g.H0 a d → a ∉ g.M → v = .ref a → seqD d = some (k, ds) → ∃ a vs, v = .ref a ∧ RepAll K B vs ds ∧ ∀ {B2 H2 : Hp} {s2 : L2.St} {r2 : Env} {z2 : Stk}, SR K (J.rb g B) B2 s2 r2 z2 H2 → if k = true then SqL K H2 a vs else SqT K H2 a vs := fun {d a} h m ev e => by
    cases d with
    | lst ds' =>
      simp only [seqD, Option.some.injEq, Prod.mk.injEq] at e
      obtain ⟨rfl, rfl⟩ := e
      obtain ⟨vs, h1, h2⟩ := h
      exact ⟨a, vs, ev, h2, fun S2 => SqL.of (pinned S2 (Or.inr ⟨h1, m⟩))⟩
    | _ => first | exact h.elim | cases e
  have en := S.stk _ h
  cases t with
  | sh d => exact shr en e
  | al i =>
    have es : s[i]? = some (some v) := en
    simp only [stayD] at e
    split at e
    · rename_i d l
      obtain ⟨v0, e1, en⟩ := S.env i _ l
      rw [es] at e1
      cases e1
      exact shr en e
    · rename_i d l
      obtain ⟨v0, e1, en⟩ := S.env i _ l
      rw [es] at e1
      cases e1
      obtain ⟨a, rfl, m, bo⟩ := en
      exact lent bo m rfl e
    · cases e
  | _ => cases e
theorem zipD_get (ds es : List D) (i : Nat) : (zipD ds es)[i]? = match ds[i]?, es[i]? with
    | some a, some b => some (.tup [a, b])
    | _, _ => none := by
  unfold zipD
  rw [List.getElem?_zipWith]
  cases ds[i]? <;> cases es[i]? <;> rfl
theorem jp_zip {e e2 : Expr} {da db : DE} {p pos tpos : Pos} {elts : List Expr} {kk : Nat} (hg : Gl X "zip") (hm : X.mg "zip" = none) (ha : JE X g c W e da) (hb : JE X g c W e2 db)
    (hs : starEach [e, e2] X.env = (false, eval e X.env) :: starEach [e2] X.env := by rfl) (hs2 : starEach [e2] X.env = (false, eval e2 X.env) :: starEach [] X.env := by rfl) (hpl : (backTo pos (starEach [e2] X.env)).any (·.1) = false := by rfl) :
    JP X g c W (.Tuple elts kk tpos) (.Call (.Name "zip" p) [e, e2] [] pos) (ipZip da db) := by
  obtain ⟨ta, pa, sa⟩ := ha.ex
  obtain ⟨tb, pb, sb⟩ := hb.ex
  refine ⟨_, pi_zx hg hm (pa_cons pa (pa_cons pb pa_nil hs2) hs) hs hpl, fun s H r B z Y Q R lw S h k => ?_⟩
  refine sa s H r B z Y _ _ lw S h fun v H1 B1 r1 t1 S1 q1 => ?_
  refine sb s H1 r1 B1 _ Y _ _ lw.ext S1 q1 fun w H2 B2 r2 t2 S2 q2 => ?_
  split at q2
  · rename_i k1 ds k2 es e1 e2
    obtain ⟨a, vs, rfl, ra, pa⟩ := S2.stay (List.mem_cons_of_mem _ List.mem_cons_self) e1
    obtain ⟨b, ws, rfl, rb', pb⟩ := S2.stay List.mem_cons_self e2
    have S3 := S2.pop.pop
    -- one turn, whatever is walked
    have one : ∀ (Sa Sb : Hp → Addr → List V → Prop) (J : It)
        (hJ : J = ⟨fun i H => ∃ (xs ys : List V) (x y : V), Sa H a xs ∧ Sb H b ys ∧ xs[i]? = some x ∧ ys[i]? = some y, fun i H v H' => ∃ T x y, v = .ref T ∧ H T = none ∧ H' = upd H T (.tup [x, y]) ∧ (∀ xs, Sa H a xs → xs[i]? = some x) ∧ ∀ ys, Sb H b ys → ys[i]? = some y, fun i H => ∃ xs ys : List V, Sa H a xs ∧ Sb H b ys ∧ (xs.length ≤ i ∨ ys.length ≤ i)⟩)
        (sq : ∀ {B4 H4 : Hp} {s4 : L2.St} {r4 : Env} {z4 : Stk}, SR X.K (rb g B2) B4 s4 r4 z4 H4 → Sa H4 a vs ∧ Sb H4 b ws), ∀ z1, Jok1 X.K (rb g B2) J (zipD ds es) (fun _ => True) z1 := fun Sa Sb J hJ sq z1 i s4 H4 B4 r4 z4 S4 _ _ => by
      subst hJ
      obtain ⟨qa, qb⟩ := sq S4
      have la := ra.len
      have lb := rb'.len
      have hl : (zipD ds es).length = min ds.length es.length := by simp [zipD]
      refine ⟨fun hi => ?_, fun hi => ⟨vs, ws, qa, qb, by omega⟩⟩
      obtain ⟨x, hx⟩ : ∃ x, ds[i]? = some x := ⟨ds[i]'(by omega), List.getElem?_eq_getElem _⟩
      obtain ⟨y, hy⟩ : ∃ y, es[i]? = some y := ⟨es[i]'(by omega), List.getElem?_eq_getElem _⟩
      obtain ⟨u, hu, ru⟩ := ra.get hx
      obtain ⟨o, ho, ro⟩ := rb'.get hy
      refine ⟨⟨vs, ws, u, o, qa, qb, hu, ho⟩, fun x' H5 hy' => ?_⟩
      obtain ⟨T, u2, o2, rfl, hT, rfl, f1, f2⟩ := hy'
      have e1 := f1 vs qa
      have e2 := f2 ws qb
      rw [hu] at e1
      rw [ho] at e2
      cases e1
      cases e2
      have gr := sm_new (o := .tup [u, o]) (S4.bnone hT)
      exact ⟨_, .tup [x, y], by rw [zipD_get, hx, hy], (S4.alloc hT).push (.tup (Or.inl (Or.inl upd_same)) (.cons ((ru.mono S4.b0).mono gr) (.cons ((ro.mono S4.b0).mono gr) .nil)))⟩
    have now := S3.rb
    have sqh : ∀ {k : Bool} {H4 : Hp} {c : Addr} {us : List V}, (if k = true then SqL X.K H4 c us else SqT X.K H4 c us) → SqH X.K k H4 c us := fun h => h
    refine ⟨a, b, vs, ws, k1, k2, rfl, sqh (pa now), sqh (pb now), fun e => ?_, fun _ => ?_⟩
    · subst e
      cases k1 with
      | true => exact k _ H2 B2 r2 _ S3 q2 (one (SqL X.K) (SqL X.K) _ rfl fun S4 => ⟨by simpa using pa S4, by simpa using pb S4⟩)
      | false => exact k _ H2 B2 r2 _ S3 q2 (one (SqT X.K) (SqT X.K) _ rfl fun S4 => ⟨by simpa using pa S4, by simpa using pb S4⟩)
    · exact k _ H2 B2 r2 _ S3 q2 (one (SqH X.K k1) (SqH X.K k2) _ rfl fun S4 => ⟨sqh (pa S4), sqh (pb S4)⟩)
  · exact q2.elim
theorem js_forP {tg iter : Expr} {body : List Stmt} {di : DIP} {dg : DG} {db : DS} {sets : List Nat} {pos : Pos} (hp : PassesOwn (model X.prog X.w) X.A X.env X.xe) (hc : X.calm = true) (hi : JP X g c W tg iter di) (hg : ∀ B1, JG X (rb g B1) (· ∈ L) sets tg dg) (hb : ∀ B1, JSs X (rb g B1) c W L body db)
    (hs : ∀ x, foldedSetIterable iter X.env x = pure x := by intro _; rfl) : JS X g c W L (.For tg iter body [] pos) (dForP di dg db) := by
  obtain ⟨wi, pi, si⟩ := hi.ex
  have pg : PG X tg fun v s H Q => ∃ B1, canonG X.K (rb g B1) (· ∈ L) sets dg v s H Q := ⟨fun pins s σ H x v Q I rv h => let ⟨B1, h⟩ := h; (hg B1).canon.run pins s σ H x v Q I rv h⟩
  have pb : PSs X body fun D s H => ∃ B1, canonS X.K (rb g B1) c W L db D s H := ⟨fun pins s σ H D I h => let ⟨B1, h⟩ := h; (hb B1).canon.run pins s σ H D I h⟩
  refine ⟨_, ps_for hp hc pi pg pb hs, fun s H r B z Y E D lw S hl h k => ?_⟩
  refine si s H r B z Y _ _ lw S h fun J H1 B1 r1 ds S1 q1 jok => ?_
  obtain ⟨I, i0, stay, turn, done⟩ := q1
  refine ⟨fun i m s' H' => ∃ B' r', SR X.K (rb g B1) B' s' r' z H' ∧ I i r' ∧ i ≤ ds.length ∧ m = ds.length - i, ⟨_, B1, r1, S1.rb, i0, Nat.zero_le _, rfl⟩, fun i m s2 H2 hW => ?_⟩
  obtain ⟨B2, r2, S2, i2, hle, rfl⟩ := hW
  obtain ⟨jgo, jstop⟩ := jok [] i s2 H2 B2 r2 z S2 List.nil_suffix trivial
  by_cases hlt : i < ds.length
  · obtain ⟨go, yl⟩ := jgo hlt
    refine Or.inr ⟨go, fun s' H' => ∃ B' r', SR X.K (rb g B1) B' s' r' z H' ∧ I (i + 1) r', fun s' H' ⟨B', r', S', i'⟩ => ⟨_, by omega, B', r', S', i', hlt, rfl⟩, fun x H3 hy => ?_⟩
    obtain ⟨B3, d, ed, S3⟩ := yl x H3 hy
    exact ⟨B1, r2, B3, z, d, _, S3, hl, turn i d r2 ed i2, fun s4 H4 B4 r4 S4 _ _ q4 => ⟨B1, canonS_ok s4 H4 r4 B4 z Y _ _ (LW.rb S1 lw) S4 hl q4
      ⟨fun s' H' B' r' S' q => ⟨B', r', S', q⟩, fun v' s' H' B' r' t' S' q => k.rt v' s' H' B' r' t' (S1.unrb S') q, fun s' H' B' r' S' q => k.nx s' H' B' r' (S1.unrb S') q, fun s' H' B' r' S' q => ⟨B', r', S', q⟩⟩⟩⟩
  · obtain rfl : i = ds.length := by omega
    exact Or.inl ⟨jstop (Nat.le_refl _), k.nx s2 H2 B2 r2 (S1.unrb S2) (done r2 i2)⟩
theorem es_lcP {tg iter : Expr} {wi : TI} {tg' : TG} {tt : TT} {te : TE} {di : DIP} {dg : DG} {dt : DT} {de : DE} {sets vs : List Nat} (si : ∀ (s : L2.St) (H : Hp) (r : Env) (B : Hp) (z : Stk) (Y : XD) (Q : List D → Env → Prop) (R : It → Hp → Prop), LW X.K g c W Y z → SR X.K g B s r z H → di Y Q r →
    (∀ J H1 B1 r1 ds, SR X.K g B1 s r1 z H1 → Q ds r1 → (∀ z1, Jok1 X.K (rb g B1) J ds (fun _ => True) z1) → R J H1) → wi s H R)
    (hg : ∀ B1, GSm X.K (rb g B1) (· ∉ g.cs) sets tg' dg) (ht : ∀ B1, TSm X.K (rb g B1) c W0 tt dt) (he : ∀ B1, ES X.K (rb g B1) c W0 te de) (hv : ∀ i, i ∈ vs → i ∈ g.cs) (hsub : ∀ i, i ∈ sets → i ∈ vs) : ES X.K g c W (tLc wi tg' tt te vs) (dLCP di dg dt de vs) := fun s H r B z Y Q Qv lw S h k => by
  refine si s H r B z Y _ _ lw S h fun J H1 B1 r1 ds S1 q1 jok D hD => ?_
  obtain ⟨I, i0, hst, hf, hlen, hq⟩ := q1
  have lw0 : ∀ z, LW X.K (rb g B1) c W0 (fun _ _ => False) z := fun _ _ _ _ _ _ _ _ _ _ _ _ y => y.elim
  have S2 := (S1.rb.own hD (RepAll.nil (K := X.K) (B := B1))).wiped (s' := wipe s vs) hv (wipe_length s vs) fun i hi => wipe_ne hi
  refine ⟨fun i m H' => ∃ B' r' acc, SR X.K (rb g B1) B' (wipe s vs) r' ((.ref D, .ol acc) :: z) H' ∧ I i acc r' ∧ i ≤ ds.length ∧ m = ds.length - i, ⟨_, B1, _, [], S2, i0, Nat.zero_le _, rfl⟩, fun i m H' hW => ?_⟩
  obtain ⟨B', r', acc, S', hI, hle, rfl⟩ := hW
  obtain ⟨_, hs2, hs3⟩ := hst i acc r' hI
  obtain ⟨jgo, jstop⟩ := jok [] i (wipe s vs) H' B' _ _ S' List.nil_suffix trivial
  by_cases hlt : i < ds.length
  · obtain ⟨go, yl⟩ := jgo hlt
    refine Or.inr ⟨go, fun H2 => ∃ B2 r2 acc2, SR X.K (rb g B1) B2 (wipe s vs) r2 ((.ref D, .ol acc2) :: z) H2 ∧ I (i + 1) acc2 r2, fun H2 ⟨B2, r2, acc2, S2, hI2⟩ => ⟨_, by omega, B2, r2, acc2, S2, hI2, hlt, rfl⟩, fun x H2 hy => ?_⟩
    obtain ⟨B2, d, ed, S3⟩ := yl x H2 hy
    refine hg B1 (wipe s vs) H2 _ B2 _ x d _ _ S3 (fun i w hw => S3.al i w (List.mem_cons_of_mem _ hw)) (hf i d acc r' ed hI) fun s4 H4 B4 r4 S4 l4 n4 q4 => ?_
    have ws : wipe s4 vs = wipe s vs := (wipe_ext l4 fun i hi => n4 i fun h => hi (hsub i h)).trans (wipe_wipe s vs)
    refine ⟨ws, ht B1 s4 H4 r4 B4 _ _ _ _ (lw0 _) S4 q4 fun b H5 B5 r5 S5 q5 => ?_⟩
    have back : ∀ {B5 H5 : Hp} {r5 : Env} {z5 : Stk}, SR X.K (rb g B1) B5 s4 r5 z5 H5 → SR X.K (rb g B1) B5 (wipe s vs) (wipeE r5 vs) z5 H5 := fun {B5 H5 r5 z5} S5 => ws ▸ S5.wiped hv (wipe_length s4 vs) fun i hi => wipe_ne hi
    cases b with
    | true =>
      refine he B1 s4 H5 r5 B5 _ _ _ _ (lw0 _) S5 q5 fun y H6 B6 r6 t6 S6 q6 => ?_
      obtain ⟨d6, rfl, hI6⟩ := q6
      obtain ⟨us, g1, g2, S7⟩ := S6.grown
      exact ⟨us, g1, by rw [g2, ← size_is]; omega, B6, _, _, back S7, hI6⟩
    | false => exact ⟨B5, _, _, back S5, q5⟩
  · obtain rfl : i = ds.length := by omega
    refine Or.inl ⟨jstop (Nat.le_refl _), ?_⟩
    have S8 := S'.wiped (s' := s) hv (wipe_length s vs).symm fun i hi => (wipe_ne hi).symm
    rw [hs3] at S8
    exact k _ _ B' _ _ (S1.unrb S8) (hq acc r' hI)
theorem j_lcP {elt tg iter : Expr} {ifs : List Expr} {scope : Scope} {own : List (Str × Nat)} {pos : Pos} {di : DIP} {dg : DG} {dt : DT} {de : DE} {sets vs : List Nat} (hc : X.calm = true) (hN : X.N.Nodup) (hi : JP X g c W tg iter di) (ok : BlkOk X.N X.env.scope scope own) (hvs : own.map (·.2) = vs) (hv : ∀ i, i ∈ vs → i ∈ g.cs) (hsub : ∀ i, i ∈ sets → i ∈ vs)
    (hg : ∀ (B1 : Hp) (s : Shared) (H : Hp) (C : Addr) (cl : List (Str × Addr)) (fp : List Addr), JG (X.blk s H scope (compEnvC scope cl C X.env) fp) (rb g B1) (· ∉ g.cs) sets tg dg)
    (ht : ∀ (B1 : Hp) (s : Shared) (H : Hp) (C : Addr) (cl : List (Str × Addr)) (fp : List Addr), JTs (X.blk s H scope (compEnvC scope cl C X.env) fp) (rb g B1) c W0 ifs dt)
    (he : ∀ (B1 : Hp) (s : Shared) (H : Hp) (C : Addr) (cl : List (Str × Addr)) (fp : List Addr), JE (X.blk s H scope (compEnvC scope cl C X.env) fp) (rb g B1) c W0 elt de) (hs : ∀ x, foldedSetIterable iter X.env x = pure x := by intro _; rfl) :
    JE X g c W (.ListComp elt [⟨tg, iter, ifs, 0⟩] scope pos) (dLCP di dg dt de vs) := by
  obtain ⟨wi, pi, si⟩ := hi.ex
  subst hvs
  exact ⟨_, pe_lc (g := fun v s H Q => ∃ B1, canonG X.K (rb g B1) (· ∉ g.cs) sets dg v s H Q) (tt := fun s H Q => ∃ B1, canonT X.K (rb g B1) c W0 dt s H Q) (te := fun s H Q => ∃ B1, canonE X.K (rb g B1) c W0 de s H Q) hc hN pi ok
    (fun s H C cl fp => ⟨fun pins s2 σ G x v Q I rv h => let ⟨B1, h⟩ := h; (hg B1 s H C cl fp).canon.run pins s2 σ G x v Q I rv h⟩) (fun s H C cl fp => ⟨fun pins s2 σ G Q I h => let ⟨B1, h⟩ := h; (ht B1 s H C cl fp).canon.run pins s2 σ G Q I h⟩) (fun s H C cl fp => ⟨fun pins s2 σ G Q I h => let ⟨B1, h⟩ := h; (he B1 s H C cl fp).canon.run pins s2 σ G Q I h⟩) hs,
    es_lcP (tg := tg) (iter := iter) si (fun B1 s H r B z v d Q Qv S hl h k => ⟨B1, canonG_ok (P := (· ∉ g.cs)) s H r B z v d Q Qv S hl h k⟩) (fun B1 s H r B z Y Q Qv lw S h k => ⟨B1, canonT_ok s H r B z Y Q Qv lw S h k⟩) (fun B1 s H r B z Y Q Qv lw S h k => ⟨B1, canonE_ok s H r B z Y Q Qv lw S h k⟩) hv hsub⟩
theorem js_setLcP {i : Nat} {y : Str} {py : Pos} {elt tg iter : Expr} {ifs : List Expr} {scope : Scope} {own : List (Str × Nat)} {pos spos : Pos} {di : DIP} {dg : DG} {dt : DT} {de : DE} {sets vs : List Nat} (hiL : i ∉ L) (hn : i < g.n) (hc : X.calm = true) (hN : X.N.Nodup) (hy : X.N[i]? = some y) (hyl : X.env.scope.names.lookup y = some .local)
    (hsw : swapsWith (.ListComp elt [⟨tg, iter, ifs, 0⟩] scope pos) (some (.Name y py)) spos.line X.env = pure true) (hi : JP X g c W tg iter di) (ok : BlkOk X.N X.env.scope scope own) (hvs : own.map (·.2) = vs) (hv : ∀ i, i ∈ vs → i ∈ g.cs) (hsub : ∀ i, i ∈ sets → i ∈ vs)
    (hg : ∀ (B1 : Hp) (s : Shared) (H : Hp) (C : Addr) (cl : List (Str × Addr)) (fp : List Addr), JG (X.blk s H scope (compEnvC scope cl C X.env) fp) (rb g B1) (· ∉ g.cs) sets tg dg)
    (ht : ∀ (B1 : Hp) (s : Shared) (H : Hp) (C : Addr) (cl : List (Str × Addr)) (fp : List Addr), JTs (X.blk s H scope (compEnvC scope cl C X.env) fp) (rb g B1) c W0 ifs dt)
    (he : ∀ (B1 : Hp) (s : Shared) (H : Hp) (C : Addr) (cl : List (Str × Addr)) (fp : List Addr), JE (X.blk s H scope (compEnvC scope cl C X.env) fp) (rb g B1) c W0 elt de) (hs : ∀ x, foldedSetIterable iter X.env x = pure x := by intro _; rfl) :
    JS X g c W L (.Assign [.Name y py] (.ListComp elt [⟨tg, iter, ifs, 0⟩] scope pos) spos) (dSet i (dLCP di dg dt de vs)) := by
  obtain ⟨wi, pi, si⟩ := hi.ex
  subst hvs
  exact ⟨_, ps_setLc (g := fun v s H Q => ∃ B1, canonG X.K (rb g B1) (· ∉ g.cs) sets dg v s H Q) (tt := fun s H Q => ∃ B1, canonT X.K (rb g B1) c W0 dt s H Q) (te := fun s H Q => ∃ B1, canonE X.K (rb g B1) c W0 de s H Q) hc hN hy hyl hsw pi ok
    (fun s H C cl fp => ⟨fun pins s2 σ G x v Q I rv h => let ⟨B1, h⟩ := h; (hg B1 s H C cl fp).canon.run pins s2 σ G x v Q I rv h⟩) (fun s H C cl fp => ⟨fun pins s2 σ G Q I h => let ⟨B1, h⟩ := h; (ht B1 s H C cl fp).canon.run pins s2 σ G Q I h⟩) (fun s H C cl fp => ⟨fun pins s2 σ G Q I h => let ⟨B1, h⟩ := h; (he B1 s H C cl fp).canon.run pins s2 σ G Q I h⟩) hs,
    ss_set hiL hn (es_lcP (tg := tg) (iter := iter) si (fun B1 s H r B z v d Q Qv S hl h k => ⟨B1, canonG_ok (P := (· ∉ g.cs)) s H r B z v d Q Qv S hl h k⟩) (fun B1 s H r B z Y Q Qv lw S h k => ⟨B1, canonT_ok s H r B z Y Q Qv lw S h k⟩) (fun B1 s H r B z Y Q Qv lw S h k => ⟨B1, canonE_ok s H r B z Y Q Qv lw S h k⟩) hv hsub)⟩
/-! ### gcd -/
theorem j_gcd {x : Str} {p pos : Pos} {e : Expr} {es : List Expr} {da : DA} (hg : Gl X x) (hm : X.mg x = some (.builtin "math.gcd")) (ha : JA X g c W (e :: es) da) (hdb : (x == ("__debug__" : Str)) = false := by decide)
    (he : starEach (e :: es) X.env = (false, eval e X.env) :: starEach es X.env := by rfl) (hpl : (backTo pos (starEach es X.env)).any (·.1) = false := by rfl) : JE X g c W (.Call (.Name x p) (e :: es) [] pos) (dB1 cGcd da) := by
  obtain ⟨ta, pa, sa⟩ := ha.ex
  refine ⟨_, pe_callBfun cr_gcd hg hm pa hdb he hpl, es_cb sa fun B s r z H vs ds Q Qv S h q k => ?_⟩
  unfold cGcd at q
  split at q
  · cases h with
    | cons h1 h2 =>
      cases h2 with
      | cons h2 h3 =>
        cases h3
        cases h1
        cases h2
        exact ⟨_, _, rfl, k _ H B _ (S.push (.int _)) q⟩
  · exact q.elim
end
end J

/-! JL31: reversed ranges. -/
namespace J
open PySem L2 PyProof.Rows
section
variable {X : Cx} {g : G} {c : Cl} {W : WX}
theorem jok_revR {K : PySem.W.Frag} {g : G} {m n : Int} {k : Nat} {v : V} {t : T} (hk : k = (n - m).toNat) : JOk K g (Itc (m + ((k : Nat) : Int) - 1) (-1) k) (li (downI (n - 1) k)) (fun _ => True) v t := fun i s2 H2 B2 r2 z2 S2 _ _ => by
  have ln : (li (downI (n - 1) k)).length = k := by simp [downI]
  rw [ln]
  refine ⟨fun hi => ⟨hi, fun x H3 hy => ?_⟩, fun hi => hi⟩
  obtain ⟨rfl, rfl⟩ := hy
  refine ⟨B2, .int (m + ((k : Nat) : Int) - 1 + i * -1), ?_, S2.push (.int _)⟩
  simp [downI, hi]
  omega
theorem ji_revR1 {tg a : Expr} {da : DE} {p pos p2 pos2 : Pos} (hgl : Gl X "reversed") (hml : X.mg "reversed" = none) (hg : Gl X "range") (hm : X.mg "range" = none) (ha : JE X g c W a da) (hs : starEach [a] X.env = (false, eval a X.env) :: starEach [] X.env := by rfl)
    (hs2 : starEach [Expr.Call (.Name "range" p) [a] [] pos] X.env = (false, eval (.Call (.Name "range" p) [a] [] pos) X.env) :: starEach [] X.env := by rfl) :
    JI X g c W [] tg (.Call (.Name "reversed" p2) [.Call (.Name "range" p) [a] [] pos] [] pos2) (iRangeV (dCons da dNil)) := by
  obtain ⟨te, pe, se⟩ := ha.ex
  refine ⟨_, pi_revR hgl hml (prg_1 hg hm pe hs) hs2, fun s H r B z Y Q R lw S h k => ?_⟩
  refine se s H r B z Y _ _ lw S h fun v H1 B1 r1 t1 S1 q1 => ?_
  simp only [dNil, reads] at q1
  cases e1 : rdT r1 t1 with
  | none => simp only [e1] at q1
  | some d =>
    simp only [e1] at q1
    cases d with
    | int n =>
      have v1 := S1.view List.mem_cons_self e1
      cases v1
      refine ⟨n, rfl, by decide, by decide, q1.1.1, q1.1.2, ?_⟩
      have e : (n - 0).toNat = n.toNat := by omega
      rw [e]
      exact k _ H1 B1 r1 _ _ .non _ (S1.pop.push .non) (fun _ e => by cases e) q1.2 (jok_revR (by omega))
    | _ => exact q1.elim
theorem ji_revR2 {tg a b : Expr} {da db : DE} {p pos p2 pos2 : Pos} (hgl : Gl X "reversed") (hml : X.mg "reversed" = none) (hg : Gl X "range") (hm : X.mg "range" = none) (ha : JE X g c W a da) (hb : JE X g c W b db)
    (hs : starEach [a, b] X.env = (false, eval a X.env) :: starEach [b] X.env := by rfl) (hs3 : starEach [b] X.env = (false, eval b X.env) :: starEach [] X.env := by rfl) (hpl : (backTo pos (starEach [b] X.env)).any (·.1) = false := by rfl)
    (hs2 : starEach [Expr.Call (.Name "range" p) [a, b] [] pos] X.env = (false, eval (.Call (.Name "range" p) [a, b] [] pos) X.env) :: starEach [] X.env := by rfl) :
    JI X g c W [] tg (.Call (.Name "reversed" p2) [.Call (.Name "range" p) [a, b] [] pos] [] pos2) (iRangeV (dCons da (dCons db dNil))) := by
  obtain ⟨ta, pa, sa⟩ := ha.ex
  obtain ⟨tb, pb, sb⟩ := hb.ex
  refine ⟨_, pi_revR hgl hml (prg_2 hg hm pa pb hs hs3 hpl) hs2, fun s H r B z Y Q R lw S h k => ?_⟩
  refine sa s H r B z Y _ _ lw S h fun v H1 B1 r1 t1 S1 q1 => ?_
  refine sb s H1 r1 B1 _ Y _ _ lw.ext S1 q1 fun w H2 B2 r2 t2 S2 q2 => ?_
  simp only [dNil, reads] at q2
  cases e2 : rdT r2 t2 with
  | none => cases e1 : rdT r2 t1 <;> simp only [e1, e2] at q2
  | some d2 =>
    cases e1 : rdT r2 t1 with
    | none => simp only [e1, e2] at q2
    | some d1 =>
      simp only [e1, e2] at q2
      cases d1 with
      | int m =>
        cases d2 with
        | int n =>
          have v1 := S2.view (List.mem_cons_of_mem _ List.mem_cons_self) e1
          have v2 := S2.view List.mem_cons_self e2
          cases v1
          cases v2
          refine ⟨m, n, rfl, rfl, q2.1.1, q2.1.2.1, q2.1.2.2.1, q2.1.2.2.2, ?_⟩
          exact k _ H2 B2 r2 _ _ .non _ (S2.pop.pop.push .non) (fun _ e => by cases e) q2.2 (jok_revR rfl)
        | _ => exact q2.elim
      | _ => cases d2 <;> exact q2.elim
theorem op_fdivNW : OpR X (binaryOp .FloorDiv) (rI CDivNW fun i j => .int (i.fdiv j)) := opI fun _ _ _ _ _ _ _ hc q => floordiv_int hc.1 q (.inl (PyProof.noPylong_of_log2 hc.2))
theorem jo_divN : OpR X (binaryOp .FloorDiv) (rI CDivNW fun i j => .int (i.fdiv j)) ∧ OpS X.K g (rI CDivNW fun i j => .int (i.fdiv j)) oDivN := ⟨op_fdivNW, ops_I (fun _ _ h => h) fun _ _ _ => .int _⟩
theorem jo_mulW : OpR X (binaryOp .Mult) (rI CMulW fun i j => .int (i * j)) ∧ OpS X.K g (rI CMulW fun i j => .int (i * j)) oMulW := ⟨op_mulW, ops_I (fun _ _ h => h) fun _ _ _ => .int _⟩
theorem jo_modN : OpR X (binaryOp .Mod) (rI (fun _ j => j ≠ 0) fun i j => .int (i.fmod j)) ∧ OpS X.K g (rI (fun _ j => j ≠ 0) fun i j => .int (i.fmod j)) oModN := ⟨op_modN, ops_I (fun _ _ h => h) fun _ _ _ => .int _⟩
end
end J

/-! JL32: a walk over one's own list of own things; slots that hold parts. -/
namespace J
open PySem L2
section
variable {X : Cx} {g : G} {c : Cl} {W : WX} {L : List Nat} {K : PySem.W.Frag}
theorem part_al (i : Nat) (p : List Nat) (f : F) (j : Nat) : partT i p f ≠ .al j := by
  cases f <;> intro e <;> cases e
theorem js_forO {i j : Nat} {x y : Str} {px py pos : Pos} {body : List Stmt} {db : DS} (hp : PassesOwn (model X.prog X.w) X.A X.env X.xe) (hc : X.calm = true) (hiL : i ∉ L) (hn : i < g.n) (hN : X.N.Nodup) (hx : X.N[i]? = some x) (hvx : Loc X.env.scope x)
    (hy : X.N[j]? = some y) (hvy : Vis X.env.scope y) (hb : JSs X g c W L body db) (hd : (y == ("__debug__" : Str)) = false := by decide) (hcd : (y == ("__classdict__" : Str)) = false := by decide)
    (hf : X.fn x = true ∨ X.env.scope.names.lookup x = some .local := by first | exact .inl rfl | exact .inr rfl | assumption) (hs : ∀ x, foldedSetIterable (.Name y py) X.env x = pure x := by intro _; rfl) :
    JS X g c W L (.For (.Name x px) (.Name y py) body [] pos) (dForO j i db) := by
  obtain ⟨tb, pb, sb⟩ := hb.ex
  refine ⟨_, ps_for hp hc (pi_any (pe_var hy hvy hd hcd)) (pg_name hN hx hvx hf) pb hs, fun s H r B z Y E D lw S hl h kE => ?_⟩
  obtain ⟨q, n, I, i0, hI⟩ := h
  have at_ : ∀ {B2 : Hp} {s2 : L2.St} {r2 : Env} {z2 : Stk} {H2 : Hp} {fs : List F}, SR X.K g B2 s2 r2 z2 H2 → look r2 j = some (.own (.nd q none fs)) → ∃ vs, s2[j]? = some (some (.ref q)) ∧ H2 q = some (.lst vs) ∧ OwFs X.K B2 H2 fs vs := fun S2 l => by
    obtain ⟨v, e1, e2⟩ := S2.env j _ l
    obtain ⟨e3, o, h1, ⟨vs, rfl⟩, h2, _⟩ := e2.1
    exact ⟨vs, by rw [e1, e3], h1, h2⟩
  obtain ⟨_, fs, l, ln, _, _⟩ := hI 0 r i0
  obtain ⟨vs, e1, h1, h2⟩ := at_ S l
  refine ⟨.ref q, e1, Or.inl ⟨q, rfl, ⟨vs, SqL.of h1⟩, ?_⟩⟩
  refine ⟨fun k m s' H' => ∃ B' r', SR X.K g B' s' r' z H' ∧ I k r' ∧ m = n - k, ⟨n, B, r, S, i0, rfl⟩, fun k m s2 H2 hW => ?_⟩
  obtain ⟨B2, r2, S2, i2, rfl⟩ := hW
  obtain ⟨hle, fs2, l2, ln2, step, fin⟩ := hI k r2 i2
  obtain ⟨vs2, a1, a2, a3⟩ := at_ S2 l2
  by_cases hlt : k < n
  · obtain ⟨f, hf'⟩ : ∃ f, fs2[k]? = some f := ⟨fs2[k]'(by omega), List.getElem?_eq_getElem _⟩
    obtain ⟨w, w1, w2, _⟩ := ows_get a3 hf'
    refine Or.inr ⟨⟨vs2, w, SqL.of a2, w1⟩, fun s' H' => ∃ B' r', SR X.K g B' s' r' z H' ∧ I (k + 1) r', fun s' H' ⟨B', r', S', i'⟩ => ⟨n - (k + 1), by omega, B', r', S', i', rfl⟩, fun x' H3 hy' => ?_⟩
    obtain ⟨rfl, hy'⟩ := hy'
    have ex := hy' vs2 (SqL.of a2)
    rw [w1] at ex
    cases ex
    have S3 := (S2.pushPart (i := j) (p := [k]) w2).storeT (i := i) (by rw [S2.ln]; exact hn) (part_al j [k] f) (nol hiL hl)
    exact sb _ _ _ B2 _ Y _ _ lw S3 hl (step f hf') ⟨fun s' H' B' r' S' q => ⟨B', r', S', q⟩, fun v' s' H' B' r' t' S' q => kE.rt v' s' H' B' r' t' S' q, fun s' H' B' r' S' q => kE.nx s' H' B' r' S' q, fun s' H' B' r' S' q => ⟨B', r', S', q⟩⟩
  · obtain rfl : k = n := by omega
    exact Or.inl ⟨⟨vs2, SqL.of a2, by rw [a3.len]; omega⟩, kE.nx s2 H2 B2 r2 S2 (fin rfl)⟩
theorem j_nst {pos : Pos} : JE X g c W (.List [] pos) dNst := by
  refine ⟨_, pe_lst pa_nil, fun s H r B z Y Q Qv _ S h k => ⟨Nat.zero_le _, fun p hp => ?_⟩⟩
  have bn : B p = none := S.bnone hp
  refine k _ _ B r (.own (.nd p none [])) (S.ownG (sm_new hp) ⟨⟨rfl, _, upd_same, ⟨_, rfl⟩, rfl, by simp [idsFs]⟩, fun a q => by
    have : a = p := by simpa [fpF, idsF, idsFs] using q
    subst this
    exact ⟨bn, Or.inl (S.h0none hp)⟩⟩ (fun a q => by
    have : a ∈ idsF (F.nd p none []) := q
    have : a = p := by simpa [idsF, idsFs] using this
    subst this
    exact hp) fun i e => by cases e) (h p)
theorem js_setP {i : Nat} {x : Str} {e : Expr} {de : DE} {pos pos' : Pos} (hi : i ∉ L) (hn : i < g.n) (hN : X.N.Nodup) (hx : X.N[i]? = some x) (hv : Loc X.env.scope x) (he : JE X g c W e de) (hs : swapsWith e (some (.Name x pos')) pos.line X.env = pure false := by rfl)
    (hf : X.fn x = true ∨ X.env.scope.names.lookup x = some .local := by first | exact .inl rfl | exact .inr rfl | assumption) : JS X g c W L (.Assign [.Name x pos'] e pos) (dSetP i de) := by
  obtain ⟨te, pe, se⟩ := he.ex
  refine ⟨_, ps_set hN hx hv pe hs hf, fun s H r B z Y E D lw S hl h k => ?_⟩
  refine se s H r B z Y _ _ lw S h fun v H1 B1 r1 t1 S1 q1 => ?_
  split at q1
  · exact k.nx _ H1 B1 _ (S1.storeT (by rw [S1.ln]; exact hn) (fun _ e => by cases e) (nol hi hl)) q1
  · exact k.nx _ H1 B1 _ (S1.storeT (by rw [S1.ln]; exact hn) (fun _ e => by cases e) (nol hi hl)) q1
  · exact q1.elim
end
end J

/-! JL33: in an except suite: a property is read, == is asked. -/
namespace J
open PySem PySem.Spec PyProof.Rows L2
/-- what a def promises where an error is held: nothing is raised, one pinned object is known -/
structure FnQ (P : Program) (w : World) (K : PySem.W.Frag) (mg : Str → Option Value) (base : Heap) (CX : CXT) (k : Nat) (f : Addr) (fd : FuncData) (ps : List Str) (sp : Sp) : Prop where
  len : ∀ vs H Q E, sp vs H Q E → vs.length = ps.length
  run : ∀ (A : Around) (outer : List PySem.Env) (s : Shared) (H : Hp) (args : Args) (us : List Value) (vs : List V) (Q : VK) (E : XK) (p : Addr × Obj), L2H.RoomH k A → L2H.PinOk outer H s p → Env0 P w K mg base A outer s H → BindsTo s fd args (ps.zip us) → Vals vs us → sp vs H Q E →
    codeAny (model P w) A (.call (.ref f) args) (CR CX outer P w H s Q E) s
section
variable {P : Program} {w : World} {K : PySem.W.Frag} {mg : Str → Option Value} {base : Heap}
theorem fnQ_of {x qual : Str} {st : Stmt} {f : Addr} {fd : FuncData} {N ps : List Str} {k : Nat} {sp : Sp} (F : Fun K x qual st f fd) (Sc : FnScope N ps (defScope st)) (hlen : ∀ vs H Q E, sp vs H Q E → vs.length = ps.length)
    (hb : ∀ (cdv : Value) (A : Around) (outer : List PySem.Env) (s : Shared) (H : Hp) (vs : List V) (Q : VK) (E : XK) (p : Addr × Obj), L2H.RoomH k (A.deeper (envOfC qual (defScope st) s.heap.objs.size f cdv)) → sp vs H Q E →
      ∃ t, PSs (L2H.cxH (L2.CX P w) P w K mg base N qual (defScope st) f cdv A outer s H E p) (defBody st) t ∧ t { nx := fun _ H' => Q .non H', rt := Q } (L2.start N vs) H) : FnQ P w K mg base (L2.CX P w) (k + 1) f fd ps sp := by
  obtain ⟨oc, od, kV, doc, pm, an, cdv, ct, osl, rfl, lk, code⟩ := F.ex
  refine ⟨hlen, fun A outer s H args us vs Q E p room pin env bnd rel prom => ?_⟩
  have inK : K.In s.heap := env.mod.kin.keeps fun b o e => (env.bs b o e).1
  have noLim : s.heap.NoLimit := env.mod.nolimit.keeps fun b o e => (env.bs b o e).1
  have kinds : ∀ y ∈ ps.zip us, (defScope st).names.lookup y.1 = some .local ∨ ((defScope st).names.lookup y.1 = some .cell ∧ ((cellsFrom (s.heap.objs.size + 1) (defScope st).names []).lookup y.1).isSome = true) := fun ⟨n, v⟩ hy =>
    (Sc.par n (List.of_mem_zip hy).1).elim Or.inl fun q => Or.inr ⟨q, PySem.W.cellsFrom_some _ _ _ (.inl q)⟩
  refine codeAny_call_function room.depth (inK _ _ lk) rfl Sc.co Sc.gen rfl (PySem.W.codeRec_of inK code) (bnd _ _ _ _ (wpAny_newFunctionEnv_cells Sc.kind kinds fun en en_eq s1 came => ?_))
  subst en_eq
  refine ⟨noLim.keeps came.toInCall.keep, codeAny_func ?_⟩
  obtain ⟨t, pt, ht⟩ := hb cdv A outer s H vs Q E p (room.deeper _) prom
  have I := L2H.inv_startH (CX := L2.CX P w) (E := E) Sc pin env (hlen _ _ _ _ prom) rel came
  refine wpAny_mono (pt.run [] s1 (L2.start N vs) H _ I ht) (fun fl s' hs => ?_) fun e s' hs => hs
  cases fl with
  | ret u => exact let ⟨v, σ', H', J, rv, q⟩ := hs; ⟨v, H', J.os, J.bare, J.base, J.hok, rv, q⟩
  | next => exact let ⟨σ', H', J, q⟩ := hs; ⟨V.non, H', J.os, J.bare, J.base, J.hok, rfl, q⟩
  | brk => exact let ⟨_, _, _, q⟩ := hs; False.elim q
  | cont => exact let ⟨_, _, _, q⟩ := hs; False.elim q
end
section
variable {X : Cx} {CX : CXT} {k : Nat} {C pr f : Addr} {fd : FuncData} {ps : List Str} {sp : Sp} {E : XK} {e : Expr} {pos : Pos} {ta : TE} {m : Str}
/-- somewhere a pinned object is known -/
def PinsC (X : Cx) : Prop := ∃ p : Addr × Obj, p ∈ X.pn
theorem RoomH.in1 {A : Around} (r : L2H.RoomH (k + 1) A) : L2H.RoomH k A.in1 :=
  ⟨by have := r.dp; show A.depth + 3 * k + 5 < _; omega, by have := r.un; show A.units + 1 + 16 * k + 200 < _; omega⟩
theorem getprop_p {pins : List (Addr × Obj)} {σ : L2.St} {H : Hp} {s : Shared} {Q : VK} {b : Bool} {E' : Value → Shared → Prop} {a dx : Addr} {fs : List (Str × V)} (I : Inv X pins σ H s) (ea : H a = some (.ins C dx fs)) (c : Cls X.K C) (hp : PropOf X.K C m pr f)
    (F : FnQ X.prog X.w X.K X.mg X.base CX k f fd ps sp) (hr : L2H.RoomH (k + 1) X.A) (hpn : PinsC X) (hb : Binds X.K fd ps []) (hx : Passes CX X.nox E) (prom : sp [.ref a] H Q E) :
    wpAny (model X.prog X.w) X.A (getAttr (.ref a) m b) (EP X pins σ Q) E' s := by
  obtain ⟨p, hpn⟩ := hpn
  obtain ⟨_, O, _⟩ := ins_get I.hok ea
  obtain ⟨od, look, _⟩ := O.look
  obtain ⟨rest, prec⟩ := hp.rec_
  have J0 := I.tok (s.toks + 1)
  have isC : (PySem.W.clsIn X.K C).isSome = true := by
    obtain ⟨cd, e1, _⟩ := PySem.W.any_some c.hd
    rw [e1]
    rfl
  have at_ := J0.pin p (List.mem_append_left _ hpn)
  have pin : L2H.PinOk X.stack H { s with toks := s.toks + 1 } p := ⟨at_.1, at_.2.1, fun z => (List.mem_cons.mp (J0.stkSub p.1 z)).elim at_.2.2.1 at_.2.2.2.1, at_.2.2.2.2⟩
  refine PySem.W.get_bind I.kIn look (PySem.W.plainGet_of (c.get m)).1 (PySem.W.findObj_data isC hp.at_ hp.get hp.tak) (PySem.W.plainGet_of (c.get m)).2 (wpAny_call (PySem.W.prop_get (s := { s with toks := s.toks + 1 }) I.kIn prec ?_))
  have bd := hb { s with toks := s.toks + 1 } [.ref a] J0.kIn (by rw [List.append_nil, ← F.len _ _ _ _ prom]; rfl)
  rw [List.append_nil] at bd
  refine codeAny_mono (F.run X.A.in1 X.stack { s with toks := s.toks + 1 } H ⟨[.ref a], []⟩ [.ref a] [.ref a] Q E p (RoomH.in1 hr) pin J0.env0.in1 bd (.cons rfl .nil) prom) fun r s' hq => ?_
  cases r with
  | error er => exact (hx pins σ H { s with toks := s.toks + 1 } er s' (J0.wish _) hq).elim
  | ok fl =>
    cases fl with
    | ret u =>
      obtain ⟨v, H', J1, rv, q⟩ := J0.after hq
      show wpAny _ _ (handedOut u) _ _ _
      rw [PySem.W.handedOut_of (handed_of rv)]
      exact wpAny_pure ⟨v, H', J1, rv, q⟩
    | next => exact (show False from hq).elim
    | brk => exact (show False from hq).elim
    | cont => exact (show False from hq).elim
theorem pe_propP (he : PE X e ta) (c : Cls X.K C) (hp : PropOf X.K C m pr f) (F : FnQ X.prog X.w X.K X.mg X.base CX k f fd ps sp) (hr : L2H.RoomH (k + 1) X.A) (hpn : PinsC X) (hb : Binds X.K fd ps []) (hx : Passes CX X.nox E)
    (hab : attributeBase e m X.env (eval e X.env) = eval e X.env) : PE X (.Attribute e m pos) (tProp C sp [] E ta) := by
  refine ⟨fun pins s σ H Q I h => attr_of hab (thn (he.run pins s σ H _ I h) fun u s1 ⟨x, H1, I1, rx, a, dx, fs, ex, ea, q⟩ => ?_)⟩
  subst ex
  cases rx
  exact getprop_p I1 ea c hp F hr hpn hb hx q
end
section
variable {X : Cx} {g : G} {cl : Cl} {W : WX} {L : List Nat}
theorem roomP {k : Nat} {A : Around} {h : Option Value} (r : Room k A) : L2H.RoomH k (A.mark h) := ⟨r.dp, r.un⟩
/-- x.p, a property, where an error is held -/
theorem j_propP (i c : Nat) {Sf : SpecO} {k : Nat} {C pr f : Addr} {fd : FuncData} {ps : List Str} {y m : Str} {py pos : Pos} (F : FnQ X.prog X.w X.K X.mg X.base (L2.CX X.prog X.w) k f fd ps (SpO X.K cl [] Sf)) (hr : L2H.RoomH (k + 1) X.A) (hpn : PinsC X)
    (hC : ClsIs X.K C c) (hp : PropOf X.K C m pr f) (hb : Binds X.K fd ps []) (hN : X.N[i]? = some y := by rfl) (hv : Vis X.env.scope y := by first | exact Or.inl rfl | exact Or.inr (Or.inl rfl) | exact Or.inr (Or.inr rfl))
    (hd1 : (y == ("__debug__" : Str)) = false := by decide) (hcd : (y == ("__classdict__" : Str)) = false := by decide)
    (hab : attributeBase (.Name y py) m X.env (eval (.Name y py) X.env) = eval (.Name y py) X.env := by rfl) : JE X g cl W (.Attribute (.Name y py) m pos) (dProp i c Sf) := by
  refine ⟨_, pe_propP (pe_var hN hv hd1 hcd) hC.cl hp F hr hpn hb noPass hab, fun s H r B z Y Q Qv lw S h kq => ?_⟩
  unfold dProp at h
  split at h
  · rename_i c' fs0 l0
    obtain ⟨rfl, h⟩ := h
    obtain ⟨v0, e1, en⟩ := S.env i _ l0
    obtain ⟨⟨rfl, o, hp', ⟨C', dx, fl, rfl, c1, c2⟩, hk, nf⟩, hfp⟩ := id en
    have := cls_same hC c1
    subst this
    exact ⟨_, e1, _, dx, fl, rfl, hp', _, [], B, [], _, rfl, S.bh, .nil, en.1, fun a q => (en.2 a q).1, fun i a es h => by simp at h, _, _, h, fun e f' ye => ye.elim, fun t f' qt w H2 B2 o ho hf rr => kq w H2 B2 _ t (S.gotO l0 e1 o ho hf rr) qt⟩
  · exact h.elim
theorem jo_eqP (hu : X.A.units + 64 < cLine) : OpR X (compareOp .Eq) (rEqA X.K) ∧ OpS X.K g (rEqA X.K) oEq := by
  refine ⟨opR_or op_eq (op_eqD hu), fun B s r z H v w x y Q Qv S h1 h2 q k => ?_⟩
  obtain ⟨h | h, q⟩ := q
  · obtain ⟨e1, e2⟩ := scal_of h1 h2 h
    refine Or.inl ⟨e1, ?_⟩
    rw [e2]
    exact k _ H B _ (S.push (.bl _)) q
  · refine Or.inr ⟨py x, py y, dp_view S.bh h1 h.1.1, dp_view S.bh h2 h.2.1, shaped_of h.1, shaped_of h.2, ?_⟩
    rw [eqv_py x y h.1.1 h.2.1]
    exact k _ H B _ (S.push (.bl _)) q
end
section
variable {c : Cl} {K : PySem.W.Frag} {P : Program} {w : World} {mg : Str → Option Value} {base : Heap}
/-- as fnJO, where an error is held -/
theorem fnJQ {x qual : Str} {st : Stmt} {f : Addr} {fd : FuncData} {N ps : List Str} {k : Nat} {ms : List Bool} {S : SpecO} {db : DS} (cs : List Nat) (F : Fun K x qual st f fd) (Sc : FnScope N ps (defScope st)) (hms : ms.length + 1 = ps.length) (hN : ms.length + 1 ≤ N.length) (hcs : 0 ∉ cs)
    (hk : KeepsO ms (N.length - (ms.length + 1)) S db)
    (body : ∀ (cdv : Value) (A : Around) (outer : List PySem.Env) (s : Shared) (H : Hp) (E : XK) (p : Addr × Obj) (B : Hp) (M : List Addr), L2H.RoomH k (L2H.cxH (L2.CX P w) P w K mg base N qual (defScope st) f cdv A outer s H E p).A →
      JSs (L2H.cxH (L2.CX P w) P w K mg base N qual (defScope st) f cdv A outer s H E p) ⟨H, B, M, cs, N.length, noX⟩ c (fun cls d _ H => E cls d H) [0] (defBody st) db) :
    FnQ P w K mg base (L2.CX P w) (k + 1) f fd ps (SpO K c ms S) := by
  refine fnQ_of F Sc (fun vs H Q E h => ?_) (fun cdv A outer s H vs Q E p hr h => ?_)
  · obtain ⟨v, vs', B, ds, _, rfl, _, ha, _⟩ := h
    rw [List.length_cons, ha.len.1, hms]
  · obtain ⟨v, vs', B, ds, f0, rfl, hB, ha, ho, hf, ap, E0, Q0, hS, hE, hQ⟩ := h
    obtain ⟨M, hM⟩ := fp_fin ho
    obtain ⟨t, pt, stt⟩ := (body cdv A outer s H E p B M hr).ex
    exact ⟨t, pt, enterO (E := E) hN hcs hk stt hB ha ap ho hf hM hS hE hQ⟩
end
end J

/-! JP: plain laws of the readings: lists of ints, equality, texts shown. -/
namespace J
@[simp] theorem intsOf_ints : ∀ ns : List Int, intsOf (List.map D.int ns) = some ns
  | [] => rfl
  | n :: ns => by simp [intsOf, intsOf_ints ns]
@[simp] theorem cSort_li (ns : List Int) (Q : T → Prop) : cSort [.lst (List.map D.int ns)] Q = Q (.ol (li (sortI ns))) := by simp [cSort]
@[simp] theorem cSum_li (ns : List Int) (Q : T → Prop) : cSum [.lst (List.map D.int ns)] Q = Q (.sh (.int ns.sum)) := by simp [cSum]
@[simp] theorem lays_li : ∀ ns : List Int, lays (List.map D.int ns) = true
  | [] => rfl
  | n :: ns => by simp [lays, lay, lays_li ns]
@[simp] theorem deeps_li : ∀ ns : List Int, deeps (List.map D.int ns) = 0
  | [] => rfl
  | n :: ns => by simp [deeps, deep, deeps_li ns]
@[simp] theorem okE_li (ns : List Int) : okE (.lst (List.map D.int ns)) := ⟨by simp [lay], by simp [deep]⟩
@[simp] theorem okE_int (i : Int) : okE (.int i) := ⟨rfl, by simp [deep]⟩
@[simp] theorem okE_non : okE .non := ⟨rfl, by simp [deep]⟩
@[simp] theorem okE_bl (b : Bool) : okE (.bl b) := ⟨rfl, by simp [deep]⟩
theorem eqDs_li : ∀ xs ys : List Int, eqDs (List.map D.int xs) (List.map D.int ys) = decide (xs = ys)
  | [], [] => rfl
  | [], _ :: _ => rfl
  | _ :: _, [] => rfl
  | x :: xs, y :: ys => by
    show (x == y && eqDs (List.map D.int xs) (List.map D.int ys)) = _
    rw [eqDs_li xs ys, Bool.eq_iff_iff]
    simp
@[simp] theorem eqD_li (xs ys : List Int) : eqD (.lst (List.map D.int xs)) (.lst (List.map D.int ys)) = decide (xs = ys) := eqDs_li xs ys
@[simp] theorem eqD_int (i j : Int) : eqD (.int i) (.int j) = decide (i = j) := by
  show (i == j) = _
  rw [Bool.eq_iff_iff]; simp
@[simp] theorem eqD_str (x y : List Nat) : eqD (.str x) (.str y) = decide (x = y) := by
  show (x == y) = _
  rw [Bool.eq_iff_iff]; simp
@[simp] theorem upI_length (a : Int) (n : Nat) : (upI a n).length = n := by simp [upI]
theorem smallRs_li : ∀ ns : List Int, (∀ n ∈ ns, n.natAbs < 1000000000000) → smallRs (List.map D.int ns) = true
  | [], _ => rfl
  | n :: ns, h => by
    show (decide (n.natAbs < bigN) && smallRs (List.map D.int ns)) = true
    rw [smallRs_li ns fun m hm => h m (List.mem_cons_of_mem _ hm)]
    simp [lt_big (h n List.mem_cons_self)]
theorem bulkRs_li : ∀ ns : List Int, bulkRs (List.map D.int ns) = ns.length
  | [] => rfl
  | n :: ns => by
    show 0 + 1 + bulkRs (List.map D.int ns) = ns.length + 1
    rw [bulkRs_li ns]; omega
theorem okR_li {ns : List Int} (h : ∀ n ∈ ns, n.natAbs < 1000000000000) (hl : ns.length ≤ 1000) : okR (.lst (List.map D.int ns)) :=
  ⟨by simp [lay], by simp [deep], smallRs_li ns h, by
    show bulkRs (List.map D.int ns) ≤ 100000
    rw [bulkRs_li]; omega⟩
end J
namespace J
theorem enumD_get : ∀ (ds : List D) (k i : Nat), (enumD k ds)[i]? = (ds[i]?).map fun d => .tup [.int ((k + i : Nat) : Int), d]
  | [], k, i => by simp [enumD]
  | d :: ds, k, 0 => by simp [enumD]
  | d :: ds, k, i + 1 => by
    simp only [enumD, List.getElem?_cons_succ]
    rw [enumD_get ds (k + 1) i]
    have : k + 1 + i = k + (i + 1) := by omega
    rw [this]
@[simp] theorem enumD_length : ∀ (ds : List D) (k : Nat), (enumD k ds).length = ds.length
  | [], _ => rfl
  | _ :: ds, k => by simp [enumD, enumD_length ds]
/-- the i-th of a list of ints -/
theorem lip_get {ns : List Int} {i : Nat} {d : D} : (List.map D.int ns)[i]? = some d ↔ ∃ h : i < ns.length, d = .int ns[i] := by
  rw [List.getElem?_map]
  by_cases h : i < ns.length
  · rw [List.getElem?_eq_getElem h]; simp [h, eq_comm]
  · rw [List.getElem?_eq_none (by omega)]; simp [h]
theorem upD_get {a : Int} {n i : Nat} {d : D} : (List.map D.int (upI a n))[i]? = some d ↔ i < n ∧ d = .int (a + i) := by
  rw [lip_get]
  simp [upI]
/-- a place in a list -/
theorem ixD_of {n : Nat} {i : Int} (h0 : 0 ≤ i) (h1 : i < n) : ixD n i = some i.toNat := by
  unfold ixD; rw [if_pos h0, if_pos h1]
theorem atD_of {A : Type} {xs : List A} {i : Int} (h0 : 0 ≤ i) (h1 : i < xs.length) : atD xs i = some (xs[i.toNat]'(by omega)) := by
  unfold atD
  rw [ixD_of h0 h1]
  simp
theorem atD_li {ns : List Int} {i : Int} (h0 : 0 ≤ i) (h1 : i < ns.length) : atD (List.map D.int ns) i = some (.int (ns[i.toNat]'(by omega))) := by
  rw [atD_of h0 (by simpa using h1)]
  simp
theorem fm_cp {f : D → Option D} {g : Int → Int} (ns : List Int) (h : ∀ i, f (.int i) = some (.int (g i))) : ns.filterMap (f ∘ D.int) = List.map D.int (ns.map g) := by
  induction ns with
  | nil => rfl
  | cons n ns ih => simp [h, ih]
theorem fm_li {f : D → Option D} {g : Int → Int} (ns : List Int) (h : ∀ i, f (.int i) = some (.int (g i))) : (List.map D.int ns).filterMap f = List.map D.int (ns.map g) := by
  induction ns with
  | nil => rfl
  | cons n ns ih => simp [h, ih]
end J
namespace J
theorem li_set (ns : List Int) (i : Nat) (v : Int) : (List.map D.int ns).set i (.int v) = List.map D.int (ns.set i v) := by rw [List.map_set]
theorem li_rep (n : Nat) (v : Int) : List.replicate n (D.int v) = List.map D.int (List.replicate n v) := by simp
theorem li_app (ns : List Int) (v : Int) : List.map D.int ns ++ [.int v] = List.map D.int (ns ++ [v]) := by simp
theorem rep_range {A : Type} (n : Nat) (v : A) : List.replicate n v = (List.range n).map fun _ => v := by
  apply List.ext_getElem <;> simp
end J
namespace J
theorem cut_from {A : Type} (xs : List A) {i : Int} (h : 0 ≤ i) : cutD xs (some i) none = xs.drop i.toNat := by
  unfold cutD sIxD
  simp only [if_neg (show ¬ i < 0 by omega)]
  by_cases q : i.toNat ≤ xs.length
  · rw [Nat.min_eq_left q, List.take_of_length_le (by simp)]
  · rw [Nat.min_eq_right (by omega), List.drop_of_length_le (Nat.le_refl _), List.drop_of_length_le (by omega)]; simp
theorem cut_to {A : Type} (xs : List A) {i : Int} (h : 0 ≤ i) : cutD xs none (some i) = xs.take i.toNat := by
  unfold cutD sIxD
  simp only [if_neg (show ¬ i < 0 by omega), List.drop_zero, Nat.sub_zero]
  by_cases q : i.toNat ≤ xs.length
  · rw [Nat.min_eq_left q]
  · rw [Nat.min_eq_right (by omega), List.take_of_length_le (Nat.le_refl _), List.take_of_length_le (by omega)]
theorem cut_all {A : Type} (xs : List A) : cutD xs none none = xs := by
  simp [cutD, sIxD]
theorem cut_both {A : Type} (xs : List A) {i j : Int} (h : 0 ≤ i) (hj : 0 ≤ j) : cutD xs (some i) (some j) = (xs.drop i.toNat).take (j.toNat - i.toNat) := by
  unfold cutD sIxD
  simp only [if_neg (show ¬ i < 0 by omega), if_neg (show ¬ j < 0 by omega)]
  by_cases q : i.toNat ≤ xs.length
  · rw [Nat.min_eq_left q]
    by_cases q2 : j.toNat ≤ xs.length
    · rw [Nat.min_eq_left q2]
    · rw [Nat.min_eq_right (by omega), List.take_of_length_le (by simp), List.take_of_length_le (by simp; omega)]
  · have e : min i.toNat xs.length = xs.length := Nat.min_eq_right (by omega)
    rw [e, List.drop_of_length_le (Nat.le_refl _), List.drop_of_length_le (show xs.length ≤ i.toNat by omega)]; simp
theorem cut_li (ns : List Int) (a b : Option Int) : cutD (List.map D.int ns) a b = List.map D.int (cutD ns a b) := by
  simp [cutD, List.map_take, List.map_drop]
end J
namespace J
theorem lk_put_ne : ∀ {r : Env} {i j : Nat} {t : Option T}, i ≠ j → look (put r i t) j = look r j
  | [], _, _, _, _ => rfl
  | _ :: _, 0, 0, _, h => absurd rfl h
  | _ :: _, 0, _ + 1, _, _ => rfl
  | _ :: _, _ + 1, 0, _, _ => rfl
  | _ :: r, i + 1, j + 1, t, h => lk_put_ne (r := r) (i := i) (j := j) (fun e => h (by rw [e]))
theorem lk_wipe {i : Nat} {r : Env} : ∀ {vs : List Nat}, i ∉ vs → look (wipeE r vs) i = look r i
  | [], _ => rfl
  | v :: vs, h => by
    rw [List.mem_cons, not_or] at h
    show look (put (wipeE r vs) v none) i = _
    rw [lk_put_ne (Ne.symm h.1), lk_wipe h.2]
theorem lk_wiped {i : Nat} {r r2 : Env} {vs : List Nat} (e : wipeE r2 vs = wipeE r vs) (h : i ∉ vs) : look r2 i = look r i := by
  rw [← lk_wipe h, e, lk_wipe h]
end J
namespace J
section
variable {st : Env → Prop} {g : DG} {c : DT} {e : DE} {vs : List Nat} {P : QE} {r : Env}
/-- of ints to ints, those that pass -/
theorem lc_lif {ns : List Int} (p : Int → Bool) (f : Int → Int) (hst : ∀ r2, wipeE r2 vs = wipeE r vs → st r2) (hl : ns.length ≤ 16777216)
    (step : ∀ d ∈ ns, g (.int d) (wipeE r vs) fun r2 => c (fun _ _ => False) (fun k r3 => if k = true then e (fun _ _ => False) (fun t r4 => wipeE r4 vs = wipeE r vs ∧ ∃ v, t = .sh v ∧ (if p d = true then some (D.int (f d)) else none) = some v) r3
      else wipeE r3 vs = wipeE r vs ∧ (if p d = true then some (D.int (f d)) else none) = none) r2)
    (h : P (.ol (((ns.filter p).map f).map D.int)) (wipeE r vs)) : lcOk (ns.map D.int) st g c e vs P r := by
  refine ⟨fun d => match d with
    | .int i => if p i = true then some (.int (f i)) else none
    | _ => none, hst, fun d hd => ?_, by simpa using hl, ?_⟩
  · obtain ⟨i, hi, rfl⟩ := List.mem_map.mp hd
    exact step i hi
  · have q : ∀ ns : List Int, (ns.map D.int).filterMap (fun d => match d with
        | .int i => if p i = true then some (.int (f i)) else none
        | _ => none) = ((ns.filter p).map f).map D.int := by
      intro ns
      induction ns with
      | nil => rfl
      | cons n ns ih =>
        rw [List.map_cons, List.filterMap_cons]
        cases hp : p n
        · simp only [hp, Bool.false_eq_true, if_false]
          rw [ih, List.filter_cons_of_neg (by simp [hp])]
        · simp only [hp, if_true]
          rw [ih, List.filter_cons_of_pos hp, List.map_cons, List.map_cons]
    rw [q]
    exact h
end
end J
namespace J
theorem flats_li : ∀ ns : List Int, (List.map D.int ns).all flatD = true
  | [] => rfl
  | _ :: ns => by simp [flatD, flats_li ns]
theorem find_li {v : Int} : ∀ {ns : List Int}, v ∈ ns → (List.map D.int ns).findIdx? (fun z => eqD z (.int v)) = some (ns.idxOf v)
  | [], h => by simp at h
  | n :: ns, h => by
    rw [List.map_cons, List.findIdx?_cons]
    by_cases e : n = v
    · subst e; simp
    · have h' : v ∈ ns := by simpa [Ne.symm e] using h
      rw [find_li h', List.idxOf_cons, beq_false_of_ne e, cond_false]
      simp [e]
theorem mIndex_li {ns : List Int} {v : Int} (h : v ∈ ns) (Q : T → Prop) : mIndex (.lst (List.map D.int ns)) (.int v) Q = Q (.sh (.int (ns.idxOf v : Nat))) := by
  unfold mIndex
  simp only [flats_li, find_li h]
  simp [flatD]
end J
namespace J
theorem fo_down {g : DG} {b : DS} {X : XD} {E : DEnds} {r : Env} {a : Int} {n : Nat} (I : Nat → Env → Prop) (h0 : I 0 r) (step : ∀ i r2, i < n → I i r2 → g (.int (a - i)) r2 fun r3 => b X { E with nx := I (i + 1), ct := I (i + 1), bk := E.nx } r3) (fin : ∀ r2, I n r2 → E.nx r2) :
    forOk ((downI a n).map D.int) (fun _ => True) g b X E r := fo_li I h0 (fun _ _ _ => trivial) (fun i r2 hi h => by
    have e : (downI a n)[i] = a - i := by simp [downI]
    rw [e]
    exact step i r2 (by simpa [downI] using hi) h) (by simpa [downI] using fin)
end J

/-! JR: rows: lists of the ints from 1 on, each once. -/
namespace J
theorem srt_perm (xs : List Int) : (sortI xs).Perm xs := List.mergeSort_perm xs leI
theorem srt_pw (xs : List Int) : (sortI xs).Pairwise (· ≤ ·) := by
  have h := List.pairwise_mergeSort (le := leI) (fun a b c h1 h2 => by simp [leI] at *; omega) (fun a b => by simp [leI]; omega) xs
  exact h.imp fun h => by simpa [leI] using h
theorem srt_uniq {xs ys : List Int} (hp : ys.Perm xs) (hs : ys.Pairwise (· ≤ ·)) : sortI xs = ys :=
  ((srt_perm xs).trans hp.symm).eq_of_pairwise (fun a b _ _ h1 h2 => Int.le_antisymm h1 h2) (srt_pw xs) hs
theorem mem_upI {a x : Int} {n : Nat} : x ∈ upI a n ↔ a ≤ x ∧ x < a + n := by
  simp only [upI, List.mem_map, List.mem_range]
  constructor
  · rintro ⟨k, h, rfl⟩; omega
  · rintro ⟨h1, h2⟩; exact ⟨(x - a).toNat, by omega, by omega⟩
theorem upI_get {a : Int} {n i : Nat} (h : i < n) : (upI a n)[i]? = some (a + i) := by simp [upI, h]
theorem upI_getE {a : Int} {n i : Nat} (h : i < (upI a n).length) : (upI a n)[i] = a + i := by simp [upI]
theorem upI_pw {a : Int} {n : Nat} : (upI a n).Pairwise (· < ·) := by
  rw [List.pairwise_iff_getElem]
  intro i j hi hj h
  rw [upI_getE, upI_getE]; omega
theorem upI_nodup {a : Int} {n : Nat} : (upI a n).Nodup := upI_pw.imp fun h => by omega
theorem perm_of {A : Type} [DecidableEq A] : ∀ {l m : List A}, l.Nodup → (∀ x ∈ l, x ∈ m) → m.length ≤ l.length → l.Perm m
  | [], m, _, _, h => by
    have : m = [] := List.length_eq_zero_iff.mp (by simpa using h)
    subst this; exact .refl _
  | x :: l, m, hn, hm, hl => by
    have hx : x ∈ m := hm x List.mem_cons_self
    have p := List.perm_cons_erase hx
    rw [List.nodup_cons] at hn
    refine .trans (.cons x (perm_of hn.2 (fun y hy => ?_) ?_)) p.symm
    · rw [List.mem_erase_of_ne fun e => hn.1 (by rw [← e]; exact hy)]
      exact hm y (List.mem_cons_of_mem _ hy)
    · rw [List.length_erase_of_mem hx]
      have : (x :: l).length = l.length + 1 := rfl
      omega
/-- a row: at most 60 ints, the ints from 1 on, each once -/
def isRowB (ns : List Int) : Bool := decide (ns.length ≤ 60) && decide (sortI ns = upI 1 ns.length)
theorem isRow_iff {ns : List Int} : isRowB ns = true ↔ ns.length ≤ 60 ∧ ns.Perm (upI 1 ns.length) := by
  simp only [isRowB, Bool.and_eq_true, decide_eq_true_eq]
  refine and_congr_right fun _ => ⟨fun h => ?_, fun h => ?_⟩
  · rw [← h]; exact (srt_perm ns).symm
  · exact srt_uniq h.symm (upI_pw.imp fun h => by omega)
theorem isRow_of {ns : List Int} (h1 : ns.length ≤ 60) (h2 : ns.Nodup) (h3 : ∀ x ∈ ns, 1 ≤ x ∧ x ≤ ns.length) : isRowB ns = true :=
  isRow_iff.mpr ⟨h1, perm_of h2 (fun x hx => by rw [mem_upI]; have := h3 x hx; omega) (by simp)⟩
section
variable {ns : List Int}
theorem row_le (h : isRowB ns = true) : ns.length ≤ 60 := (isRow_iff.mp h).1
theorem row_nodup (h : isRowB ns = true) : ns.Nodup := (isRow_iff.mp h).2.nodup_iff.mpr upI_nodup
theorem row_mem (h : isRowB ns = true) {x : Int} : x ∈ ns ↔ 1 ≤ x ∧ x ≤ ns.length := by
  rw [(isRow_iff.mp h).2.mem_iff, mem_upI]; omega
theorem row_small (h : isRowB ns = true) : ∀ x ∈ ns, x.natAbs < 1000000000000 := fun x hx => by
  have := (row_mem h).mp hx
  have := row_le h
  omega
theorem idx_lt (h : isRowB ns = true) {k : Nat} (hk : k < ns.length) : ns.idxOf ((k : Int) + 1) < ns.length := List.idxOf_lt_length_of_mem ((row_mem h).mpr (by omega))
theorem nodup_idx {A : Type} [DecidableEq A] : ∀ {l : List A} {i : Nat} (hi : i < l.length), l.Nodup → l.idxOf l[i] = i
  | [], i, hi, _ => absurd hi (by simp)
  | x :: l, 0, _, _ => by simp
  | x :: l, i + 1, hi, hn => by
    rw [List.nodup_cons] at hn
    have hi' : i < l.length := by simpa using hi
    have hne : x ≠ l[i] := fun e => hn.1 (e ▸ List.getElem_mem hi')
    simp only [List.getElem_cons_succ]
    rw [List.idxOf_cons, beq_false_of_ne hne, cond_false, nodup_idx hi' hn.2]
theorem idx_get (h : isRowB ns = true) {i : Nat} (hi : i < ns.length) : ns.idxOf ns[i] = i := nodup_idx hi (row_nodup h)
theorem get_idx {A : Type} [DecidableEq A] {l : List A} {x : A} (hx : x ∈ l) : l[l.idxOf x]'(List.idxOf_lt_length_of_mem hx) = x := List.getElem_idxOf _
end
theorem set_range {A : Type} (f : Nat → A) (n i : Nat) (v : A) : ((List.range n).map f).set i v = (List.range n).map fun k => if k = i then v else f k := by
  apply List.ext_getElem
  · simp
  · intro j h1 h2
    simp only [List.getElem_set, List.getElem_map, List.getElem_range]
    by_cases e : i = j
    · subst e; simp
    · rw [if_neg e, if_neg (fun q => e q.symm)]
theorem map_get {A B : Type} (f : A → B) (l : List A) (g : Nat → B) (n : Nat) (hl : l.length = n) (h : ∀ (i : Nat) (hi : i < l.length), f l[i] = g i) : l.map f = (List.range n).map g := by
  subst hl
  apply List.ext_getElem
  · simp
  · intro j h1 h2
    simp [h j (by simpa using h1)]
/-- the inverse -/
def invI (ns : List Int) : List Int := (List.range ns.length).map fun (k : Nat) => (ns.idxOf ((k : Int) + 1) : Int) + 1
@[simp] theorem invI_length (ns : List Int) : (invI ns).length = ns.length := by simp [invI]
def compI (ns : List Int) : List Int := ns.map fun w => (ns.length : Int) + 1 - w
@[simp] theorem compI_length (ns : List Int) : (compI ns).length = ns.length := by simp [compI]
section
variable {ns : List Int}
theorem inv_row (h : isRowB ns = true) : isRowB (invI ns) = true := by
  refine isRow_of (by simpa using row_le h) ?_ fun x hx => ?_
  · rw [invI, List.nodup_iff_pairwise_ne, List.pairwise_map]
    rw [List.pairwise_iff_getElem]
    intro i j hi hj hij e
    simp only [List.getElem_range] at e
    simp only [List.length_range] at hi hj
    have e' : ns.idxOf ((i : Int) + 1) = ns.idxOf ((j : Int) + 1) := by omega
    have a := get_idx ((row_mem h).mpr (show 1 ≤ (i : Int) + 1 ∧ (i : Int) + 1 ≤ ns.length by omega))
    have b := get_idx ((row_mem h).mpr (show 1 ≤ (j : Int) + 1 ∧ (j : Int) + 1 ≤ ns.length by omega))
    have c : (i : Int) + 1 = (j : Int) + 1 := by
      rw [← a, ← b]
      simp only [e']
    omega
  · simp only [invI, List.mem_map, List.mem_range] at hx
    obtain ⟨k, hk, rfl⟩ := hx
    have := idx_lt h hk
    simp only [invI_length]
    omega
theorem inv_inv (h : isRowB ns = true) : invI (invI ns) = ns := by
  have hi := inv_row h
  apply List.ext_getElem
  · simp
  · intro i h1 h2
    -- ns[i] = v; invI ns at v - 1 is i + 1
    have hv := (row_mem h).mp (List.getElem_mem h2)
    have hk : (ns[i] - 1).toNat < (invI ns).length := by rw [invI_length]; omega
    have e : (invI ns)[(ns[i] - 1).toNat] = (i : Int) + 1 := by
      simp only [invI, List.getElem_map, List.getElem_range]
      have : (((ns[i] - 1).toNat : Nat) : Int) + 1 = ns[i] := by omega
      rw [this, idx_get h h2]
    have e2 := idx_get hi hk
    rw [e] at e2
    simp only [invI, List.getElem_map, List.getElem_range] at e2 ⊢
    rw [e2]
    omega
theorem rev_row (h : isRowB ns = true) : isRowB ns.reverse = true := by
  rw [isRow_iff] at h ⊢
  exact ⟨by simpa using h.1, by rw [List.length_reverse]; exact (List.reverse_perm _).trans h.2⟩
theorem comp_row (h : isRowB ns = true) : isRowB (compI ns) = true := by
  refine isRow_of (by simpa using row_le h) ?_ fun x hx => ?_
  · rw [compI, List.nodup_iff_pairwise_ne, List.pairwise_map]
    refine (row_nodup h).imp fun {a b} hab e => hab (by omega)
  · simp only [compI, List.mem_map] at hx
    obtain ⟨k, hk, rfl⟩ := hx
    have := (row_mem h).mp hk
    rw [compI_length]
    omega
theorem comp_comp (ns : List Int) : compI (compI ns) = ns := by
  unfold compI
  rw [List.map_map, List.length_map]
  conv => rhs; rw [← List.map_id ns]
  apply List.map_congr_left
  intro a _
  simp only [Function.comp, id]
  omega
theorem comp_rev (ns : List Int) : compI ns.reverse = (compI ns).reverse := by simp [compI]
theorem idx_rev (h : isRowB ns = true) {k : Nat} (hk : k < ns.length) : ns.reverse.idxOf ((k : Int) + 1) = ns.length - 1 - ns.idxOf ((k : Int) + 1) := by
  have hi := idx_lt h hk
  have e : ns.reverse[ns.length - 1 - ns.idxOf ((k : Int) + 1)]'(by rw [List.length_reverse]; omega) = (k : Int) + 1 := by
    rw [List.getElem_reverse]
    have : ns.length - 1 - (ns.length - 1 - ns.idxOf ((k : Int) + 1)) = ns.idxOf ((k : Int) + 1) := by omega
    simp only [this]
    exact List.getElem_idxOf _
  have := idx_get (rev_row h) (i := ns.length - 1 - ns.idxOf ((k : Int) + 1)) (by rw [List.length_reverse]; omega)
  rw [e] at this
  exact this
theorem inv_rev (h : isRowB ns = true) : invI ns.reverse = compI (invI ns) := by
  unfold compI
  rw [invI_length]
  unfold invI
  rw [List.length_reverse, List.map_map]
  apply List.map_congr_left
  intro k hk
  rw [List.mem_range] at hk
  have := idx_rev h hk
  have := idx_lt h hk
  simp only [Function.comp]
  omega
end
end J

/-! JB: blocks of a row; rows put into a row; data equal to itself. -/
namespace J
mutual
theorem eqD_self : ∀ d : D, lay d = true → eqD d d = true
  | .non, _ => rfl
  | .bl b, _ => by simp [eqD]
  | .int i, _ => by simp [eqD]
  | .str s, _ => by simp [eqD]
  | .lst ds, h => eqDs_self ds h
  | .tup ds, h => eqDs_self ds h
  | .scr _, h => by cases h
  | .dic _, h => by cases h
  | .sett _, h => by cases h
  | .obj _ _, h => by cases h
  | .fn _, h => by cases h
theorem eqDs_self : ∀ ds : List D, lays ds = true → eqDs ds ds = true
  | [], _ => rfl
  | d :: ds, h => by
    have h' : (lay d && lays ds) = true := h
    rw [Bool.and_eq_true] at h'
    show (eqD d d && eqDs ds ds) = true
    rw [eqD_self d h'.1, eqDs_self ds h'.2]
    rfl
end
/-- pairs of numbers, as tuples -/
def prD (p : Nat × Nat) : D := .tup [.int p.1, .int p.2]
theorem pr_lays : ∀ ps : List (Nat × Nat), lays (ps.map prD) = true
  | [] => rfl
  | p :: ps => by simp [lays, lay, prD, pr_lays ps]
theorem pr_deeps : ∀ ps : List (Nat × Nat), deeps (ps.map prD) ≤ 1
  | [] => by simp [deeps]
  | p :: ps => by
    have := pr_deeps ps
    simp [deeps, deep, prD] at this ⊢
    omega
theorem pr_small : ∀ ps : List (Nat × Nat), (∀ p ∈ ps, p.1 < 1000000000000 ∧ p.2 < 1000000000000) → smallRs (ps.map prD) = true
  | [], _ => rfl
  | p :: ps, h => by
    have a := h p List.mem_cons_self
    have b := pr_small ps fun q hq => h q (List.mem_cons_of_mem _ hq)
    simp [smallRs, smallR, prD, b]
    exact ⟨lt_big a.1, lt_big a.2⟩
theorem pr_bulk : ∀ ps : List (Nat × Nat), bulkRs (ps.map prD) = 3 * ps.length
  | [] => rfl
  | p :: ps => by
    have := pr_bulk ps
    simp [bulkRs, bulkR, prD] at this ⊢
    omega
theorem pr_okR {ps : List (Nat × Nat)} (h : ∀ p ∈ ps, p.1 < 1000000000000 ∧ p.2 < 1000000000000) (hl : ps.length ≤ 20000) : okR (.lst (ps.map prD)) :=
  ⟨pr_lays ps, by have := pr_deeps ps; simp [deep]; omega, pr_small ps h, by show bulkRs _ ≤ _; rw [pr_bulk]; omega⟩
theorem pr_okE (ps : List (Nat × Nat)) : okE (.lst (ps.map prD)) := ⟨pr_lays ps, by have := pr_deeps ps; simp [deep]; omega⟩
/-! ### blocks -/
def winH (ns : List Int) (a k : Nat) : Int := maxI (ns.getD a 0) ((ns.drop (a + 1)).take k)
def winL (ns : List Int) (a k : Nat) : Int := minI (ns.getD a 0) ((ns.drop (a + 1)).take k)
/-- from a, k + 1 further -/
def blkB (ns : List Int) (a k : Nat) : Bool := decide (winH ns a (k + 1) - winL ns a (k + 1) = (k : Int) + 1) && decide (k + 2 < ns.length)
def blkRow (ns : List Int) (a m : Nat) : List (Nat × Nat) := ((List.range m).filter fun k => blkB ns a k).map fun k => (a, a + 1 + k)
def blkAll (ns : List Int) (m : Nat) : List (Nat × Nat) := (List.range m).flatMap fun a => blkRow ns a (ns.length - (a + 1))
theorem winH_step {ns : List Int} {a k : Nat} (h : a + 1 + k < ns.length) : winH ns a (k + 1) = max (winH ns a k) ns[a + 1 + k] := by
  unfold winH maxI
  rw [List.take_add_one, List.getElem?_drop, List.getElem?_eq_getElem h, List.foldl_append]
  rfl
theorem winL_step {ns : List Int} {a k : Nat} (h : a + 1 + k < ns.length) : winL ns a (k + 1) = min (winL ns a k) ns[a + 1 + k] := by
  unfold winL minI
  rw [List.take_add_one, List.getElem?_drop, List.getElem?_eq_getElem h, List.foldl_append]
  rfl
theorem blkRow_succ (ns : List Int) (a m : Nat) : blkRow ns a (m + 1) = blkRow ns a m ++ if blkB ns a m = true then [(a, a + 1 + m)] else [] := by
  unfold blkRow
  rw [List.range_succ, List.filter_append, List.map_append]
  congr 1
  cases h : blkB ns a m
  · rw [List.filter_cons_of_neg (by simp [h])]; simp
  · rw [List.filter_cons_of_pos h]; simp
theorem blkAll_succ (ns : List Int) (m : Nat) : blkAll ns (m + 1) = blkAll ns m ++ blkRow ns m (ns.length - (m + 1)) := by
  unfold blkAll
  rw [List.range_succ, List.flatMap_append]
  simp
theorem blkRow_len (ns : List Int) (a m : Nat) : (blkRow ns a m).length ≤ m := by
  unfold blkRow
  rw [List.length_map]
  have := List.length_filter_le (fun k => blkB ns a k) (List.range m)
  rwa [List.length_range] at this
theorem blkAll_len (ns : List Int) : ∀ m, (blkAll ns m).length ≤ m * ns.length
  | 0 => by simp [blkAll]
  | m + 1 => by
    have h1 := blkAll_len ns m
    have h2 := blkRow_len ns m (ns.length - (m + 1))
    rw [blkAll_succ, List.length_append, Nat.add_mul, Nat.one_mul]
    omega
theorem blkAll_small {ns : List Int} (hl : ns.length ≤ 60) {m : Nat} (hm : m ≤ 60) : ∀ p ∈ blkAll ns m, p.1 < 1000000000000 ∧ p.2 < 1000000000000 := fun p hp => by
  simp only [blkAll, blkRow, List.mem_flatMap, List.mem_map, List.mem_filter, List.mem_range] at hp
  obtain ⟨a, ha, k, ⟨hk, _⟩, rfl⟩ := hp
  omega
theorem blk_len60 {ns : List Int} (hl : ns.length ≤ 60) {m : Nat} (hm : m ≤ 60) : (blkAll ns m).length ≤ 3600 := by
  have := blkAll_len ns m
  have : m * ns.length ≤ 60 * 60 := Nat.mul_le_mul hm hl
  omega
/-! ### rows put into a row -/
def sumlt (pl : List (Int × List Int)) (p : Int) : Nat := ((pl.filter fun x => decide (x.1 < p)).map fun x => x.2.length).sum
theorem sumlt_cons (x : Int × List Int) (pl : List (Int × List Int)) (p : Int) : sumlt (x :: pl) p = (if x.1 < p then x.2.length else 0) + sumlt pl p := by
  unfold sumlt
  by_cases h : x.1 < p
  · rw [List.filter_cons_of_pos (by simpa using h), if_pos h]; simp
  · rw [List.filter_cons_of_neg (by simpa using h), if_neg h]; simp
theorem sumlt_mono : ∀ (pl : List (Int × List Int)) {p q : Int}, p ≤ q → sumlt pl p ≤ sumlt pl q
  | [], _, _, _ => Nat.le_refl _
  | x :: pl, p, q, h => by
    have := sumlt_mono pl h
    rw [sumlt_cons, sumlt_cons]
    split
    · rw [if_pos (by omega)]; omega
    · split <;> omega
theorem sumlt_lt : ∀ (pl : List (Int × List Int)) {x : Int × List Int} {q : Int}, x ∈ pl → x.1 < q → sumlt pl x.1 + x.2.length ≤ sumlt pl q
  | [], _, _, h, _ => by simp at h
  | y :: pl, x, q, h, hq => by
    rw [sumlt_cons, sumlt_cons]
    rcases List.mem_cons.mp h with e | h
    · subst e
      rw [if_neg (by omega), if_pos hq]
      have := sumlt_mono pl (show x.1 ≤ q by omega)
      omega
    · have ih := sumlt_lt pl h hq
      by_cases c : y.1 < x.1
      · rw [if_pos c, if_pos (by omega)]; omega
      · rw [if_neg c]; split <;> omega
def totL (pl : List (Int × List Int)) : Nat := (pl.map fun x => x.2.length).sum
theorem sumlt_tot : ∀ (pl : List (Int × List Int)) (q : Int), sumlt pl q ≤ totL pl
  | [], _ => Nat.le_refl _
  | x :: pl, q => by
    have := sumlt_tot pl q
    rw [sumlt_cons]
    simp only [totL, List.map_cons, List.sum_cons] at this ⊢
    split <;> omega
def infl (pl : List (Int × List Int)) : List Int := pl.flatMap fun x => x.2.map fun v => (sumlt pl x.1 : Int) + v
theorem infl_len (pl : List (Int × List Int)) : (infl pl).length = totL pl := by
  unfold infl totL
  rw [List.length_flatMap]
  simp
theorem infl_row {pl : List (Int × List Int)} (h1 : (pl.map (·.1)).Nodup) (h2 : ∀ x ∈ pl, isRowB x.2 = true) (h3 : totL pl ≤ 60) : isRowB (infl pl) = true := by
  refine isRow_of (by rw [infl_len]; exact h3) ?_ fun v hv => ?_
  · unfold infl
    rw [List.nodup_iff_pairwise_ne, List.pairwise_flatMap]
    refine ⟨fun x hx => ?_, ?_⟩
    · rw [List.pairwise_map]
      exact (row_nodup (h2 x hx)).imp fun h e => h (by omega)
    · rw [List.nodup_iff_pairwise_ne, List.pairwise_map] at h1
      refine h1.imp_of_mem fun {x y} hx hy ne v a v' b e0 => ?_
      subst e0
      obtain ⟨u, hu, rfl⟩ := List.mem_map.mp a
      obtain ⟨w, hw, e⟩ := List.mem_map.mp b
      have mu := (row_mem (h2 x hx)).mp hu
      have mw := (row_mem (h2 y hy)).mp hw
      rcases Int.lt_or_gt_of_ne ne with l | l
      · have := sumlt_lt pl hx l
        omega
      · have := sumlt_lt pl hy l
        omega
  · rw [infl_len]
    simp only [infl, List.mem_flatMap, List.mem_map] at hv
    obtain ⟨x, hx, u, hu, rfl⟩ := hv
    have mu := (row_mem (h2 x hx)).mp hu
    have a := sumlt_lt pl hx (show x.1 < x.1 + 1 by omega)
    have b := sumlt_tot pl (x.1 + 1)
    omega
end J

/-! JM: machines: letters, which states accept, where each letter leads. -/
namespace J
structure Mach where
  letters : Int
  acc : List Bool
  table : List (List Int)
abbrev bls (bs : List Bool) : List D := bs.map D.bl
abbrev rws (t : List (List Int)) : List D := t.map fun r => D.tup (li r)
def mD (m : Mach) : D := .tup [.int m.letters, .tup (bls m.acc), .tup (rws m.table)]
def isMachB (m : Mach) : Bool := decide (1 ≤ m.letters) && decide (m.letters ≤ 6) && decide (m.acc.length ≤ 2000) && decide (m.table.length = m.acc.length) &&
  m.table.all fun r => decide ((r.length : Int) = m.letters) && r.all fun s => decide (-1 ≤ s) && decide (s < m.table.length)
theorem isMach_iff {m : Mach} : isMachB m = true ↔ (1 ≤ m.letters ∧ m.letters ≤ 6) ∧ m.acc.length ≤ 2000 ∧ m.table.length = m.acc.length ∧ ∀ r ∈ m.table, (r.length : Int) = m.letters ∧ ∀ s ∈ r, -1 ≤ s ∧ s < m.table.length := by
  simp only [isMachB, Bool.and_eq_true, decide_eq_true_eq, List.all_eq_true]
  constructor
  · rintro ⟨⟨⟨⟨a, b⟩, c⟩, d⟩, e⟩
    exact ⟨⟨a, b⟩, c, d, e⟩
  · rintro ⟨⟨a, b⟩, c, d, e⟩
    exact ⟨⟨⟨⟨a, b⟩, c⟩, d⟩, e⟩
theorem atD_0 {a b c : D} : atD [a, b, c] 0 = some a := rfl
theorem atD_1 {a b c : D} : atD [a, b, c] 1 = some b := rfl
theorem atD_2 {a b c : D} : atD [a, b, c] 2 = some c := rfl
theorem mD_inj {m n : Mach} : mD m = mD n ↔ m = n := by
  constructor
  · intro h
    have inj : ∀ xs ys : List Int, li xs = li ys → xs = ys := fun xs ys h => (List.map_inj_right (fun a b e => by simpa using e)).mp h
    simp only [mD, D.tup.injEq, List.cons.injEq, D.int.injEq, and_true] at h
    obtain ⟨h1, h2, h3⟩ := h
    have e2 := (List.map_inj_right (fun (a b : Bool) e => by simpa using e)).mp h2
    have e3 := (List.map_inj_right (fun (a b : List Int) e => inj a b (by simpa using e))).mp h3
    cases m
    cases n
    simp only at h1 e2 e3
    subst h1 e2 e3
    rfl
  · rintro rfl; rfl
def mStep (m : Mach) (s l : Int) : Int := if s < 0 ∨ l > m.letters then -1 else (m.table.getD s.toNat []).getD (l - 1).toNat (-1)
/-- where a machine begins -/
def mStart (m : Mach) : Int := if m.acc.length = 0 then -1 else 0
def mRun (m : Mach) (w : List Int) : Int := w.foldl (mStep m) (mStart m)
def mTakes (m : Mach) (w : List Int) : Bool := decide (0 ≤ mRun m w) && m.acc.getD (mRun m w).toNat false
theorem mStep_in {m : Mach} (hm : isMachB m = true) {s l : Int} (s1 : s < m.table.length) (l1 : 1 ≤ l) : -1 ≤ mStep m s l ∧ mStep m s l < m.table.length := by
  have mm := isMach_iff.mp hm
  unfold mStep
  split
  · omega
  · rename_i c
    have hs : s.toNat < m.table.length := by omega
    have row := mm.2.2.2 _ (List.getElem_mem hs)
    have hl : (l - 1).toNat < m.table[s.toNat].length := by omega
    simp only [List.getD_eq_getElem?_getD, List.getElem?_eq_getElem hs, Option.getD_some, List.getElem?_eq_getElem hl]
    exact row.2 _ (List.getElem_mem hl)
theorem mStart_in {m : Mach} (hm : isMachB m = true) : -1 ≤ mStart m ∧ mStart m < m.table.length := by
  have mm := isMach_iff.mp hm
  unfold mStart
  split <;> omega
theorem ix_mD0 (m : Mach) (Q : T → Prop) : oIx (mD m) (.int 0) Q = Q (.sh (.int m.letters)) := rfl
theorem ix_mD1 (m : Mach) (Q : T → Prop) : oIx (mD m) (.int 1) Q = Q (.sh (.tup (bls m.acc))) := rfl
theorem ix_mD2 (m : Mach) (Q : T → Prop) : oIx (mD m) (.int 2) Q = Q (.sh (.tup (rws m.table))) := rfl
theorem atD_nat {A : Type} {xs : List A} {i : Nat} (h : i < xs.length) : atD xs (i : Int) = some xs[i] := by
  rw [atD_of (by omega) (by omega)]
  simp
theorem mRun_snoc (m : Mach) (w : List Int) (a : Int) : mRun m (w ++ [a]) = mStep m (mRun m w) a := by
  unfold mRun
  rw [List.foldl_append]; rfl
theorem mRun_in {m : Mach} (hm : isMachB m = true) : ∀ (w : List Int), (∀ a ∈ w, 1 ≤ a) → ∀ s : Int, (-1 ≤ s ∧ s < m.table.length) → -1 ≤ w.foldl (mStep m) s ∧ w.foldl (mStep m) s < m.table.length
  | [], _, s, h => h
  | a :: w, hw, s, h => mRun_in hm w (fun b hb => hw b (List.mem_cons_of_mem _ hb)) _ (mStep_in hm h.2 (hw a List.mem_cons_self))
theorem tab_of {m : Mach} {s : Nat} (h : s < m.table.length) : m.table.getD s [] = m.table[s] := by
  rw [List.getD_eq_getElem?_getD, List.getElem?_eq_getElem h]; rfl
/-- a walker: its machine, its state -/
abbrev wkF (q : Nat) (m : Mach) (s : Int) : F := .nd q (some 0) [.sh (mD m), .sh (.int s)]
end J

/-! JC: codes of rows. -/
namespace J
/-- what stands ahead of w -/
abbrev pre (ns : List Int) (w : Int) : List Int := ns.takeWhile (· != w)
/-- how many from w on stand ahead of w, and w -/
def cnt (ns : List Int) (w : Int) : Nat := (pre ns w).countP (fun v => decide (w ≤ v)) + 1
def codeI (ns : List Int) : List Int := (List.range ns.length).map fun (k : Nat) => (cnt ns ((k : Int) + 1) : Int)
@[simp] theorem codeI_length (ns : List Int) : (codeI ns).length = ns.length := by simp [codeI]
theorem pre_length {w : Int} : ∀ {ns : List Int}, w ∈ ns → (pre ns w).length = ns.idxOf w
  | [], h => by simp at h
  | x :: ns, h => by
    by_cases e : x = w
    · subst e; simp [pre]
    · have h' : w ∈ ns := by simpa [Ne.symm e] using h
      have ih := pre_length h'
      have hb : (x != w) = true := by simpa using e
      rw [pre, List.takeWhile_cons, if_pos hb, List.length_cons, ih, List.idxOf_cons, beq_false_of_ne e, cond_false]
theorem pre_split {w : Int} : ∀ {ns : List Int}, w ∈ ns → ∃ post, ns = pre ns w ++ w :: post
  | [], h => by simp at h
  | x :: ns, h => by
    by_cases e : x = w
    · subst e; exact ⟨ns, by simp [pre]⟩
    · have h' : w ∈ ns := by simpa [Ne.symm e] using h
      obtain ⟨post, ih⟩ := pre_split h'
      have hb : (x != w) = true := by simpa using e
      exact ⟨post, by rw [pre, List.takeWhile_cons, if_pos hb, List.cons_append, ← ih]⟩
theorem pre_ne {w x : Int} : ∀ {ns : List Int}, x ∈ pre ns w → x ≠ w
  | [], h => by simp [pre] at h
  | y :: ns, h => by
    unfold pre at h
    rw [List.takeWhile_cons] at h
    split at h
    · rename_i hy
      rcases List.mem_cons.mp h with e | h
      · subst e; simpa using hy
      · exact pre_ne h
    · simp at h
theorem pre_sub {ns : List Int} {w x : Int} (h : x ∈ pre ns w) : x ∈ ns := List.takeWhile_subset _ h
theorem pre_append {ps post : List Int} {w : Int} (h : w ∉ ps) : pre (ps ++ w :: post) w = ps := by
  unfold pre
  rw [List.takeWhile_append_of_pos fun x hx => by
    have : x ≠ w := fun e => h (e ▸ hx)
    simpa using this]
  simp
theorem pre_take {ns : List Int} {w : Int} (h : w ∈ ns) : ns.take (ns.idxOf w + 1) = pre ns w ++ [w] := by
  obtain ⟨post, e⟩ := pre_split h
  have l := pre_length h
  have e' : ns = (pre ns w ++ [w]) ++ post := by simpa using e
  rw [← l]
  conv => lhs; arg 2; rw [e']
  rw [List.take_left' (by simp)]
/-- idx against pre -/
theorem mem_pre {ns : List Int} (hn : ns.Nodup) {v w : Int} (hv : v ∈ ns) (hw : w ∈ ns) : v ∈ pre ns w ↔ ns.idxOf v < ns.idxOf w := by
  obtain ⟨post, e⟩ := pre_split hw
  have l := pre_length hw
  constructor
  · intro h
    rw [← l]; conv => lhs; rw [e]
    rw [List.idxOf_append, if_pos h]
    exact List.idxOf_lt_length_of_mem h
  · intro h
    have : v ∈ pre ns w ++ w :: post := e ▸ hv
    rcases List.mem_append.mp this with h1 | h1
    · exact h1
    · exfalso
      have nv : v ∉ pre ns w := fun q => by
        have := e ▸ hn
        rw [List.nodup_append] at this
        exact this.2.2 v q v h1 rfl
      have a1 : ns.idxOf v = (post.insertIdx 0 w).idxOf v + (pre ns w).length := by
        conv => lhs; rw [e]
        rw [List.idxOf_append, if_neg nv]; simp
      omega
/-- the program's count is the law's -/
theorem cnt_prog {ns : List Int} (hr : isRowB ns = true) {w : Int} (hw : w ∈ ns) : (upI w (ns.length + 1 - w.toNat)).countP (fun v => decide (ns.idxOf v ≤ ns.idxOf w)) = cnt ns w := by
  have hw' := (row_mem hr).mp hw
  have hn := row_nodup hr
  let P : Int → Bool := fun v => decide (w ≤ v) && decide (ns.idxOf v ≤ ns.idxOf w)
  have h1 : ns.countP P = (upI 1 ns.length).countP P := (isRow_iff.mp hr).2.countP_eq P
  have h2 : upI 1 ns.length = upI 1 (w.toNat - 1) ++ upI w (ns.length + 1 - w.toNat) := by
    apply List.ext_getElem
    · simp; omega
    · intro i a b
      rw [upI_getE, List.getElem_append]
      split
      · rw [upI_getE]
      · rw [upI_getE]; simp at *; omega
  have h3 : (upI 1 (w.toNat - 1)).countP P = 0 := by
    rw [List.countP_eq_zero]
    intro v hv
    rw [mem_upI] at hv
    simp [P]; omega
  have h4 : (upI w (ns.length + 1 - w.toNat)).countP P = (upI w (ns.length + 1 - w.toNat)).countP (fun v => decide (ns.idxOf v ≤ ns.idxOf w)) := by
    apply List.countP_congr
    intro v hv
    rw [mem_upI] at hv
    simp [P]; omega
  have h5 : ns.countP P = cnt ns w := by
    obtain ⟨post, e⟩ := pre_split hw
    have hnd := hn
    rw [e, List.nodup_append] at hnd
    have c1 : (pre ns w).countP P = (pre ns w).countP (fun v => decide (w ≤ v)) := by
      apply List.countP_congr
      intro v hv
      have := (mem_pre hn (pre_sub hv) hw).mp hv
      simp [P]; omega
    have c2 : post.countP P = 0 := by
      rw [List.countP_eq_zero]
      intro v hv
      have hvn : v ∈ ns := by rw [e]; exact List.mem_append_right _ (List.mem_cons_of_mem _ hv)
      have nv : v ∉ pre ns w := fun q => hnd.2.2 v q v (List.mem_cons_of_mem _ hv) rfl
      have ne : v ≠ w := fun q => by
        subst q
        exact (List.nodup_cons.mp hnd.2.1).1 hv
      rw [mem_pre hn hvn hw] at nv
      have : ns.idxOf v ≠ ns.idxOf w := fun q => ne (by
        have a := get_idx hvn
        have b := get_idx hw
        simp only [q] at a
        exact a.symm.trans b)
      simp [P]; omega
    conv => lhs; rw [e]
    rw [List.countP_append, List.countP_cons, c1, c2]
    simp [P, cnt]
  rw [← h4, ← h5, h1, h2, List.countP_append, h3]; omega
theorem cnt_le {ns : List Int} {w : Int} (hw : w ∈ ns) : cnt ns w ≤ ns.length := by
  obtain ⟨post, e⟩ := pre_split hw
  have l : ns.length = (pre ns w).length + (post.length + 1) := by
    conv => lhs; rw [e]
    simp
  have := List.countP_le_length (p := fun v => decide (w ≤ v)) (l := pre ns w)
  unfold cnt
  omega
theorem codeI_small {ns : List Int} (hr : isRowB ns = true) : ∀ x ∈ codeI ns, x.natAbs < 1000000000000 := fun x hx => by
  simp only [codeI, List.mem_map, List.mem_range] at hx
  obtain ⟨k, hk, rfl⟩ := hx
  have := cnt_le ((row_mem hr).mpr (show 1 ≤ (k : Int) + 1 ∧ (k : Int) + 1 ≤ ns.length by omega))
  have := row_le hr
  omega
/-! ### a row without a wagon -/
def phi (w v : Int) : Int := if v > w then v - 1 else v
def woI (ns : List Int) (w : Int) : List Int := (ns.filter (· != w)).map (phi w)
theorem phi_lt {w u v : Int} (hu : u ≠ w) (hv : v ≠ w) : phi w u ≤ phi w v ↔ u ≤ v := by unfold phi; split <;> split <;> omega
theorem phi_inj {w u v : Int} (hu : u ≠ w) (hv : v ≠ w) : phi w u = phi w v ↔ u = v := by unfold phi; split <;> split <;> omega
theorem wo_length {ns : List Int} (hr : isRowB ns = true) {w : Int} (hw : w ∈ ns) : (woI ns w).length = ns.length - 1 := by
  rw [woI, List.length_map]
  have := (row_nodup hr).erase_eq_filter w
  rw [← this, List.length_erase_of_mem hw]
theorem wo_row {ns : List Int} (hr : isRowB ns = true) {w : Int} (hw : w ∈ ns) : isRowB (woI ns w) = true := by
  have hl := wo_length hr hw
  have := row_le hr
  have hw' := (row_mem hr).mp hw
  refine isRow_of (by omega) ?_ fun x hx => ?_
  · rw [woI, List.nodup_iff_pairwise_ne, List.pairwise_map]
    refine ((row_nodup hr).filter _).imp_of_mem fun {a b} ha hb hab e => hab ?_
    simp only [List.mem_filter, bne_iff_ne, ne_eq] at ha hb
    exact (phi_inj ha.2 hb.2).mp e
  · simp only [woI, List.mem_map, List.mem_filter, bne_iff_ne, ne_eq] at hx
    obtain ⟨v, ⟨h1, h2⟩, rfl⟩ := hx
    have := (row_mem hr).mp h1
    rw [hl]; unfold phi; split <;> omega
theorem pre_filter {w o : Int} (h : o ≠ w) : ∀ ns : List Int, pre (ns.filter (· != w)) o = (pre ns o).filter (· != w)
  | [] => rfl
  | x :: ns => by
    have ih := pre_filter h ns
    unfold pre at ih ⊢
    by_cases e : x = w
    · subst e
      rw [List.filter_cons_of_neg (by simp), List.takeWhile_cons_of_pos (by simpa using h.symm), List.filter_cons_of_neg (by simp), ih]
    · rw [List.filter_cons_of_pos (by simpa using e)]
      by_cases e2 : x = o
      · subst e2; simp
      · rw [List.takeWhile_cons_of_pos (by simpa using e2), List.takeWhile_cons_of_pos (by simpa using e2), List.filter_cons_of_pos (by simpa using e), ih]
theorem pre_map {w o : Int} (ho : o ≠ w) : ∀ {ns : List Int}, (∀ x ∈ ns, x ≠ w) → pre (ns.map (phi w)) (phi w o) = (pre ns o).map (phi w)
  | [], _ => rfl
  | x :: ns, h => by
    have ih := pre_map ho (ns := ns) fun y hy => h y (List.mem_cons_of_mem _ hy)
    unfold pre at ih ⊢
    have hx := h x List.mem_cons_self
    rw [List.map_cons]
    by_cases e : x = o
    · subst e; simp
    · rw [List.takeWhile_cons_of_pos (by simpa [phi_inj hx ho] using e), List.takeWhile_cons_of_pos (by simpa using e), List.map_cons, ih]
theorem cnt_wo {ns : List Int} (hn : ns.Nodup) {w o : Int} (hw : w ∈ ns) (hom : o ∈ ns) (ho : o ≠ w) : (cnt (woI ns w) (phi w o) : Int) = (cnt ns o : Int) - (if o < w ∧ ns.idxOf w < ns.idxOf o then 1 else 0) := by
  unfold cnt woI
  rw [pre_map ho (fun x hx => by simpa using (List.mem_filter.mp hx).2), pre_filter ho, List.countP_map]
  have c1 : ((pre ns o).filter (· != w)).countP ((fun v => decide (phi w o ≤ v)) ∘ phi w) = ((pre ns o).filter (· != w)).countP (fun v => decide (o ≤ v)) := by
    apply List.countP_congr
    intro v hv
    have : v ≠ w := by simpa using (List.mem_filter.mp hv).2
    simp [phi_lt ho this]
  rw [c1]
  have hp : (pre ns o).Nodup := hn.sublist (List.takeWhile_sublist _)
  have mp := mem_pre hn hw hom
  by_cases h : w ∈ pre ns o
  · have e := (List.perm_cons_erase h).countP_eq (fun v => decide (o ≤ v))
    rw [List.countP_cons, hp.erase_eq_filter] at e
    rw [e]
    have := mp.mp h
    by_cases hl : o < w
    · have d : decide (o ≤ w) = true := decide_eq_true (by omega)
      simp only [d, if_true, hl, this, and_self]; omega
    · have d : decide (o ≤ w) = false := decide_eq_false (by omega)
      simp [d, hl]
  · have e : (pre ns o).filter (· != w) = pre ns o := by
      rw [List.filter_eq_self]
      intro v hv
      have : v ≠ w := fun q => h (q ▸ hv)
      simpa using this
    rw [e, if_neg fun q => h (mp.mpr q.2)]; omega
end J

/-! JS: sums of rows. -/
namespace J
def sumI (k : Int) (a b : List Int) : List Int := if k = 0 then a ++ b.map (fun v => v + (a.length : Int)) else a.map (fun v => v + (b.length : Int)) ++ b
@[simp] theorem sumI_length (k : Int) (a b : List Int) : (sumI k a b).length = a.length + b.length := by unfold sumI; split <;> simp
theorem sum_row {a b : List Int} (ha : isRowB a = true) (hb : isRowB b = true) (hl : a.length + b.length ≤ 60) (k : Int) : isRowB (sumI k a b) = true := by
  have sh : ∀ {x y : List Int}, isRowB x = true → isRowB y = true → (x ++ y.map (fun v => v + (x.length : Int))).Nodup ∧ ∀ v ∈ x ++ y.map (fun v => v + (x.length : Int)), 1 ≤ v ∧ v ≤ x.length + y.length := fun {x y} hx hy => by
    refine ⟨List.nodup_append.mpr ⟨row_nodup hx, ?_, ?_⟩, ?_⟩
    · rw [List.nodup_iff_pairwise_ne, List.pairwise_map]
      exact (row_nodup hy).imp fun h e => h (by omega)
    · intro u hu v hv e
      obtain ⟨w, hw, rfl⟩ := List.mem_map.mp hv
      have := (row_mem hx).mp hu
      have := (row_mem hy).mp hw
      omega
    · intro v hv
      rcases List.mem_append.mp hv with h | h
      · have := (row_mem hx).mp h; omega
      · obtain ⟨w, hw, rfl⟩ := List.mem_map.mp h
        have := (row_mem hy).mp hw; omega
  unfold sumI
  split
  · obtain ⟨h1, h2⟩ := sh ha hb
    exact isRow_of (by simpa using hl) h1 fun v hv => by have := h2 v hv; simp; omega
  · obtain ⟨h1, h2⟩ := sh hb ha
    refine isRow_of (by simpa using hl) ?_ fun v hv => ?_
    · exact (List.perm_append_comm.nodup_iff).mp h1
    · have := h2 v (by rw [List.mem_append] at hv ⊢; exact hv.symm)
      simp; omega
theorem sum_assoc (k : Int) (a b c : List Int) : sumI k (sumI k a b) c = sumI k a (sumI k b c) := by
  unfold sumI
  by_cases h : k = 0
  · simp only [if_pos h, List.append_assoc, List.map_append, List.map_map, List.length_append, List.length_map]
    congr 2
    apply List.map_congr_left
    intro v _
    simp; omega
  · simp only [if_neg h, List.append_assoc, List.map_append, List.map_map, List.length_append, List.length_map]
    congr 1
    apply List.map_congr_left
    intro v _
    simp; omega
theorem not_row_of {ns : List Int} {v : Int} (h : v ∈ ns) (hv : v < 1) : isRowB ns = false := by
  cases e : isRowB ns with
  | false => rfl
  | true =>
    have := (row_mem e).mp h
    omega
theorem wo_small {ns : List Int} (hr : isRowB ns = true) {w : Int} (hw : w ∈ ns) : okR (.lst (List.map D.int (woI ns w))) := by
  have := wo_row hr hw
  exact okR_li (row_small this) (by have := row_le this; omega)
@[simp] theorem okE_str {s : List Nat} (h : s.all (· < 0x110000) = true) : okE (.str s) := ⟨by simpa [lay] using h, by simp [deep]⟩
theorem okR_str {s : List Nat} (h : s.all (· < 0x110000) = true) (hl : s.length ≤ 100000) : okR (.str s) := ⟨by simpa [lay] using h, by simp [deep], rfl, hl⟩
@[simp] theorem eqD_lst_str (ds : List D) (s : List Nat) : eqD (.lst ds) (.str s) = false := rfl
end J

namespace J

def D_law_number_70b1 : DS := (dSeq (dIf (dB (dOp oLtA (dV 0) (dC (.int 0)))) (dRet (dOp oSub (dC (.int 0)) (dV 0))) dNext)
  (dRet (dV 0)))
abbrev S_law_number_70b1 : Spec := fun ds _ Q => ∃ c : Int, ds = [.int c] ∧ ∀ n : Int, 0 ≤ n → Q (.sh (.int n))
theorem W_law_number_70b1 : Keeps [false] 0 S_law_number_70b1 D_law_number_70b1 := by
  rintro ds X Q ⟨c, rfl, h⟩
  refine ⟨rfl, ?_⟩
  simp [D_law_number_70b1]
  split
  · exact h _ (by omega)
  · exact h _ (by omega)


def D_law_draws_f01f : DS := (dSeq (dSet 1 (dLst dNil))
  (dSeq (dSet 2 (dC (.int 7)))
  (dSeq (dFor (iSeq [0] (dA 0)) (gN 3)
  (dSeq (dSet 4 (dF (dCall [false] S_law_number_70b1 (dCons (dV 3) dNil))))
  (dSeq (dSet 2 (dOp oMod (dB1 cInt (dCons (dOp oAdd (dOp oMul (dV 2) (dC (.int 48271))) (dV 4)) dNil)) (dC (.int 2147483647))))
  (dIf (dB (dOp oGe (dV 4) (dC (.int 1000000000000000000)))) (dFor (iRange (dCons (dC (.int 60)) dNil)) (gN 5)
  (dSeq (dIf (dB (dOp oEq (dV 4) (dC (.int 0)))) dBrk dNext)
  (dSeq (dEx (dApp 1 (dOp oMod (dB1 cInt (dCons (dV 4) dNil)) (dC (.int 1000)))))
  (dSet 4 (dOp oDiv (dV 4) (dC (.int 1000))))))) (dSeq (dSet 6 (dOp oMod (dB1 cInt (dCons (dOp oAdd (dOp oMul (dV 4) (dC (.int 48271))) (dC (.int 11))) dNil)) (dC (.int 2147483647))))
  (dSeq (dSet 7 (dOp oMod (dB1 cInt (dCons (dOp oAdd (dOp oMul (dV 6) (dC (.int 69621))) (dV 4)) dNil)) (dC (.int 2147483629))))
  (dEx (dExt 1 (dLst (dCons (dOp oMod (dB1 cInt (dCons (dV 4) dNil)) (dC (.int 1000))) (dCons (dOp oMod (dB1 cInt (dCons (dV 6) dNil)) (dC (.int 1000))) (dCons (dOp oMod (dB1 cInt (dCons (dV 7) dNil)) (dC (.int 1000))) dNil))))))))))))
  (dSeq (dFor (iRange (dCons (dC (.int 200)) dNil)) (gN 5)
  (dSeq (dSet 2 (dOp oMod (dB1 cInt (dCons (dOp oAdd (dOp oMul (dV 2) (dC (.int 48271))) (dC (.int 12345))) dNil)) (dC (.int 2147483647))))
  (dEx (dApp 1 (dOp oMod (dB1 cInt (dCons (dOp oDiv (dV 2) (dC (.int 7))) dNil)) (dC (.int 1000)))))))
  (dSeq (dEx (dRev 1))
  (dRet (dG 1)))))))
abbrev S_law_draws_f01f : Spec := fun ds _ Q => ∃ ns : List Int, ds = [.scr ns] ∧ ns.length ≤ 63 ∧ ∀ out : List Int, Q (.ol (li out))
theorem W_law_draws_f01f : Keeps [false] 7 S_law_draws_f01f D_law_draws_f01f := by
  rintro ds X Q ⟨ns, rfl, hl, h⟩
  refine ⟨rfl, ?_⟩
  simp [D_law_draws_f01f]
  refine fo_li (fun i r => ∃ (out : List Int) (sd : Int) (x3 x4 x5 x6 x7 : Option T), out.length ≤ 60 * i ∧ r = [some (.sh (.scr ns)), some (.ol (li out)), some (.sh (.int sd)), x3, x4, x5, x6, x7]) ⟨[], 7, none, none, none, none, none, by simp, rfl⟩ ?_ ?_ ?_
  · rintro i r ⟨out, sd, x3, x4, x5, x6, x7, ho, rfl⟩
    simp
  · rintro i r hi ⟨out, sd, x3, x4, x5, x6, x7, ho, rfl⟩
    simp [S_law_number_70b1]
    intro n hn
    split
    · refine fo_up (n := 60) (fun j r => ∃ (out2 : List Int) (q : Int) (x5 : Option T), out2.length ≤ 60 * i + j ∧ r = [some (.sh (.scr ns)), some (.ol (li out2)), some (.sh (.int ((sd * 48271 + n) % 2147483647))), some (.sh (.int ns[i])), some (.sh (.int q)), x5, x6, x7]) ⟨out, n, x5, by omega, rfl⟩ ?_ ?_
      · rintro j r hj ⟨out2, q, x5, ho2, rfl⟩
        simp
        split
        · exact ⟨out2, by omega, rfl⟩
        · exact ⟨by omega, out2 ++ [q % 1000], by simp; omega, by simp⟩
      · rintro r ⟨out2, q, x5, ho2, rfl⟩
        exact ⟨out2, by omega, _, _, _, _, _, _, rfl⟩
    · refine ⟨by omega, out ++ [n % 1000, (n * 48271 + 11) % 2147483647 % 1000, ((n * 48271 + 11) % 2147483647 * 69621 + n) % 2147483629 % 1000], by simp; omega, by simp⟩
  · rintro r ⟨out, sd, x3, x4, x5, x6, x7, ho, rfl⟩
    simp
    refine fo_up (n := 200) (fun i r => ∃ (out : List Int) (sd : Int) (x5 : Option T), out.length ≤ 60 * ns.length + i ∧ r = [some (.sh (.scr ns)), some (.ol (li out)), some (.sh (.int sd)), x3, x4, x5, x6, x7]) ⟨out, sd, x5, ho, rfl⟩ ?_ ?_
    · rintro i r hi ⟨out, sd, x5, ho, rfl⟩
      simp
      exact ⟨by omega, out ++ [(sd * 48271 + 12345) % 2147483647 / 7 % 1000], by simp; omega, by simp⟩
    · rintro r ⟨out, sd, x5, ho, rfl⟩
      simp [-List.map_map, -List.map_take, -List.map_reverse, -List.map_drop, -List.map_append, -List.map_tail, -List.map_dropLast, -List.map_set, -List.filterMap_map, -List.map_const, -List.map_replicate]
      rw [li, ← List.map_reverse]
      exact h _


def D_law_draw_2841 : DS := (dSeq (dIf (dTr (dA 0)) (dRet (dPop 0)) dNext)
  (dRet (dC (.int 0))))
abbrev S_law_draw_2841 : SpecM := fun es ds Q => ∃ ns : List Int, es = li ns ∧ ds = [] ∧ ∀ (v : Int) (ns' : List Int), Q (.sh (.int v)) (li ns')
theorem W_law_draw_2841 : KeepsM [] 0 S_law_draw_2841 D_law_draw_2841 := by
  rintro es ds Q ⟨ns, rfl, rfl, h⟩
  refine ⟨rfl, ?_⟩
  simp [-List.map_map, -List.map_take, -List.map_reverse, -List.map_drop, -List.map_append, -List.map_tail, -List.map_dropLast, -List.map_set, -List.filterMap_map, -List.map_const, -List.map_replicate, D_law_draw_2841]
  cases e : ns.reverse with
  | nil =>
    have : ns = [] := by simpa using e
    subst this
    simp [-List.map_map, -List.map_take, -List.map_reverse, -List.map_drop, -List.map_append, -List.map_tail, -List.map_dropLast, -List.map_set, -List.filterMap_map, -List.map_const, -List.map_replicate]
    exact h 0 []
  | cons v r =>
    have e2 : ns = r.reverse ++ [v] := by rw [← List.reverse_reverse ns, e, List.reverse_cons]
    subst e2
    simp [-List.map_map, -List.map_take, -List.map_reverse, -List.map_drop, -List.map_append, -List.map_tail, -List.map_dropLast, -List.map_set, -List.filterMap_map, -List.map_const, -List.map_replicate]
    have := h v r.reverse
    rw [li] at this ⊢
    simpa using this


def D_law_pick_b28a : DS := (dRet (dOp oMod (dB1 cInt (dCons (dCallM 0 [] S_law_draw_2841 dNil) dNil)) (dV 1)))
abbrev S_law_pick_b28a : SpecM := fun es ds Q => ∃ (ns : List Int) (n : Int), es = li ns ∧ ds = [.int n] ∧ 0 < n ∧ ∀ (v : Int) (ns' : List Int), 0 ≤ v → v < n → Q (.sh (.int v)) (li ns')
theorem W_law_pick_b28a : KeepsM [false] 0 S_law_pick_b28a D_law_pick_b28a := by
  rintro es ds Q ⟨ns, n, rfl, rfl, hn, h⟩
  refine ⟨rfl, ?_⟩
  simp [-List.map_map, -List.map_take, -List.map_reverse, -List.map_drop, -List.map_append, -List.map_tail, -List.map_dropLast, -List.map_set, -List.filterMap_map, -List.map_const, -List.map_replicate, D_law_pick_b28a, S_law_draw_2841, List.map_inj_right]
  intro v ns'
  exact ⟨hn, h _ ns' (Int.emod_nonneg _ (by omega)) (Int.emod_lt_of_pos _ hn)⟩


def D_law_machine_0257 : DS := (dSeq (dSet 3 (dF (dCallM 0 [false] S_law_pick_b28a (dCons (dOp oAdd (dV 2) (dC (.int 1))) dNil))))
  (dSeq (dSet 4 (dLst dNil))
  (dSeq (dSet 5 (dLst dNil))
  (dSeq (dFor (iRange (dCons (dV 3) dNil)) (gN 6)
  (dSeq (dEx (dApp 4 (dOp oEq (dCallM 0 [false] S_law_pick_b28a (dCons (dC (.int 3)) dNil)) (dC (.int 0)))))
  (dSeq (dSet 7 (dLst dNil))
  (dSeq (dFor (iRange (dCons (dV 1) dNil)) (gN 8)
  (dSeq (dSet 9 (dF (dCallM 0 [false] S_law_pick_b28a (dCons (dV 3) dNil))))
  (dSeq (dIf (dB (dOp oEq (dCallM 0 [false] S_law_pick_b28a (dCons (dC (.int 5)) dNil)) (dC (.int 0)))) (dSet 9 (dU uNeg (dC (.int 1)))) dNext)
  (dEx (dApp 7 (dV 9))))))
  (dEx (dApp 5 (dB1 cTup (dCons (dA 7) dNil))))))))
  (dRet (dTup (dCons (dV 1) (dCons (dB1 cTup (dCons (dA 4) dNil)) (dCons (dB1 cTup (dCons (dA 5) dNil)) dNil)))))))))
abbrev S_law_machine_0257 : SpecM := fun es ds Q => ∃ (ns : List Int) (le ma : Int), es = li ns ∧ ds = [.int le, .int ma] ∧ 1 ≤ le ∧ le ≤ 6 ∧ 0 ≤ ma ∧ ma ≤ 1000 ∧ ∀ (m : Mach) (ns' : List Int), isMachB m = true → m.letters = le → (m.acc.length : Int) ≤ ma → Q (.sh (mD m)) (li ns')
theorem W_law_machine_0257 : KeepsM [false, false] 7 S_law_machine_0257 D_law_machine_0257 := by
  rintro es ds Q ⟨ns, le, ma, rfl, rfl, l1, l6, m0, m1, h⟩
  refine ⟨rfl, ?_⟩
  simp [-List.map_map, -List.map_take, -List.map_reverse, -List.map_drop, -List.map_append, -List.map_tail, -List.map_dropLast, -List.map_set, -List.filterMap_map, -List.map_const, -List.map_replicate, D_law_machine_0257, S_law_pick_b28a, List.map_inj_right, and_assoc]
  refine ⟨by omega, fun n ns1 n0 n1 => ⟨by omega, ?_⟩⟩
  obtain ⟨k, rfl⟩ : ∃ k : Nat, n = (k : Int) := ⟨n.toNat, by omega⟩
  have ek : ((k : Int)).toNat = k := by omega
  rw [ek]
  refine ⟨by omega, ?_⟩
  refine fo_up (fun i r => ∃ (ns2 : List Int) (acc : List Bool) (tb : List (List Int)) (x6 x7 x8 x9 : Option T), acc.length = i ∧ tb.length = i ∧ (∀ r ∈ tb, (r.length : Int) = le ∧ ∀ s ∈ r, -1 ≤ s ∧ s < k) ∧
    r = [some (.ol (li ns2)), some (.sh (.int le)), some (.sh (.int ma)), some (.sh (.int k)), some (.ol (bls acc)), some (.ol (rws tb)), x6, x7, x8, x9]) ⟨ns1, [], [], none, none, none, none, rfl, rfl, by simp, rfl⟩ ?_ ?_
  · rintro i r hi ⟨ns2, acc, tb, x6, x7, x8, x9, ha, ht, hr, rfl⟩
    have hk : i < k := by omega
    simp [-List.map_map, -List.map_take, -List.map_reverse, -List.map_drop, -List.map_append, -List.map_tail, -List.map_dropLast, -List.map_set, -List.filterMap_map, -List.map_const, -List.map_replicate, S_law_pick_b28a, List.map_inj_right, and_assoc]
    intro v ns3 v0 v1
    refine ⟨by omega, by omega, by omega, ?_⟩
    refine fo_up (fun j r => ∃ (ns4 row : List Int) (x8 x9 : Option T), row.length = j ∧ (∀ s ∈ row, -1 ≤ s ∧ s < k) ∧
      r = [some (.ol (li ns4)), some (.sh (.int le)), some (.sh (.int ma)), some (.sh (.int k)), some (.ol (bls acc ++ [D.bl (decide (v = 0))])), some (.ol (rws tb)), some (.sh (.int i)), some (.ol (li row)), x8, x9]) ⟨ns3, [], x8, x9, rfl, by simp, rfl⟩ ?_ ?_
    · rintro j r hj ⟨ns4, row, x8, x9, hrl, hrow, rfl⟩
      have grow : ∀ x : Int, -1 ≤ x → x < k → ∀ s ∈ row ++ [x], -1 ≤ s ∧ s < (k : Int) := fun x x0 x1 s hs => by
        rcases List.mem_append.mp hs with e | e
        · exact hrow s e
        · rw [List.mem_singleton] at e
          subst e
          exact ⟨x0, x1⟩
      simp [-List.map_map, -List.map_take, -List.map_reverse, -List.map_drop, -List.map_append, -List.map_tail, -List.map_dropLast, -List.map_set, -List.filterMap_map, -List.map_const, -List.map_replicate, S_law_pick_b28a, List.map_inj_right, and_assoc]
      refine ⟨by omega, fun u u0 u1 w ns5 w0 w1 => ?_⟩
      split
      · exact ⟨by omega, ns5, row ++ [-1], by simp; omega, grow _ (by omega) (by omega), rfl, by simp⟩
      · exact ⟨by omega, ns5, row ++ [u], by simp; omega, grow _ (by omega) (by omega), rfl, by simp⟩
    · rintro r ⟨ns4, row, x8, x9, hrl, hrow, rfl⟩
      simp [-List.map_map, -List.map_take, -List.map_reverse, -List.map_drop, -List.map_append, -List.map_tail, -List.map_dropLast, -List.map_set, -List.filterMap_map, -List.map_const, -List.map_replicate]
      refine ⟨by omega, ns4, acc ++ [decide (v = 0)], by simp; omega, tb ++ [row], by simp; omega, fun r hr' => ?_, rfl, by simp, by simp⟩
      rcases List.mem_append.mp hr' with e | e
      · exact hr r e
      · rw [List.mem_singleton] at e
        subst e
        exact ⟨by omega, hrow⟩
  · rintro r ⟨ns2, acc, tb, x6, x7, x8, x9, ha, ht, hr, rfl⟩
    simp [-List.map_map, -List.map_take, -List.map_reverse, -List.map_drop, -List.map_append, -List.map_tail, -List.map_dropLast, -List.map_set, -List.filterMap_map, -List.map_const, -List.map_replicate]
    exact h ⟨le, acc, tb⟩ ns2 (isMach_iff.mpr ⟨⟨l1, l6⟩, by show acc.length ≤ 2000; omega, by show tb.length = acc.length; omega, fun r hr' => by
      have := hr r hr'
      show (r.length : Int) = le ∧ ∀ s ∈ r, -1 ≤ s ∧ s < (tb.length : Int)
      rw [ht]
      exact this⟩) rfl (by show (acc.length : Int) ≤ ma; omega)


def D_law_spoilt_a888 : DS := (dSeq (dSetG (gTp (gCn (gN 2) (gCn (gN 3) (gCn (gN 4) gNl)))) (dV 1))
  (dSeq (dSet 5 (dF (dCallM 0 [false] S_law_pick_b28a (dCons (dC (.int 12)) dNil))))
  (dSeq (dIf (dB (dOp oEq (dV 5) (dC (.int 0)))) (dRet (dTup (dCons (dOp oIx (dLst (dCons (dC (.int 0)) (dCons (dC (.int 7)) (dCons (dOp oAdd (dV 2) (dC (.int 1))) (dCons (dU uNeg (dC (.int 1))) dNil))))) (dCallM 0 [false] S_law_pick_b28a (dCons (dC (.int 4)) dNil))) (dCons (dV 3) (dCons (dV 4) dNil))))) dNext)
  (dSeq (dIf (dB (dOp oEq (dV 5) (dC (.int 1)))) (dRet (dTup (dCons (dV 2) (dCons (dOp oAdd (dV 3) (dTup (dCons (dC (.bl true)) dNil))) (dCons (dV 4) dNil))))) dNext)
  (dSeq (dIf (dAnd (dB (dOp oLtA (dV 5) (dC (.int 5)))) (dTr (dV 4))) (dSeq (dSet 6 (dF (dCallM 0 [false] S_law_pick_b28a (dCons (dB1 cLen (dCons (dV 4) dNil)) dNil))))
  (dSeq (dSet 7 (dOp oIx (dV 4) (dV 6)))
  (dSeq (dIf (dB (dOp oEq (dV 5) (dC (.int 2)))) (dSet 7 (dOp oAdd (dV 7) (dTup (dCons (dU uNeg (dC (.int 1))) dNil)))) (dIf (dB (dOp oEq (dV 5) (dC (.int 3)))) (dSet 7 (dF (dSl (dV 7) (dPt (dC (.int 1))) dNo))) (dSeq (dSet 8 (dF (dCallM 0 [false] S_law_pick_b28a (dCons (dV 2) dNil))))
  (dSet 7 (dF (dOp oAdd (dOp oAdd (dSl (dV 7) dNo (dPt (dV 8))) (dTup (dCons (dOp oIx (dLst (dCons (dU uNeg (dC (.int 2))) (dCons (dB1 cLen (dCons (dV 4) dNil)) (dCons (dOp oSub (dB1 cLen (dCons (dV 4) dNil)) (dC (.int 1))) (dCons (dC (.int 0)) dNil))))) (dCallM 0 [false] S_law_pick_b28a (dCons (dC (.int 4)) dNil))) dNil))) (dSl (dV 7) (dPt (dOp oAdd (dV 8) (dC (.int 1)))) dNo)))))))
  (dRet (dTup (dCons (dV 2) (dCons (dV 3) (dCons (dF (dOp oAdd (dOp oAdd (dSl (dV 4) dNo (dPt (dV 6))) (dTup (dCons (dV 7) dNil))) (dSl (dV 4) (dPt (dOp oAdd (dV 6) (dC (.int 1)))) dNo))) dNil)))))))) dNext)
  (dRet (dV 1)))))))
abbrev S_law_spoilt_a888 : SpecM := fun es ds Q => ∃ (ns : List Int) (m : Mach), es = li ns ∧ ds = [mD m] ∧ isMachB m = true ∧ m.acc.length ≤ 100 ∧ ∀ (m' : Mach) (ns' : List Int), m'.letters < 1000 → m'.acc.length ≤ 2000 → Q (.sh (mD m')) (li ns')
theorem W_law_spoilt_a888 : KeepsM [false] 7 S_law_spoilt_a888 D_law_spoilt_a888 := by
  rintro es ds Q ⟨ns, m, rfl, rfl, hm, ha, h⟩
  refine ⟨rfl, ?_⟩
  have mm := isMach_iff.mp hm
  simp [-List.map_map, -List.map_take, -List.map_reverse, -List.map_drop, -List.map_append, -List.map_tail, -List.map_dropLast, -List.map_set, -List.filterMap_map, -List.map_const, -List.map_replicate, D_law_spoilt_a888, S_law_pick_b28a, List.map_inj_right, and_assoc, mD]
  intro v ns1 v0 v1
  by_cases c0 : v = 0
  · rw [if_pos c0]
    intro u ns2 u0 u1
    have e : [D.int 0, D.int 7, D.int (m.letters + 1), D.int (-1)] = li [0, 7, m.letters + 1, -1] := rfl
    rw [e, atD_li u0 (by simpa using u1)]
    refine h ⟨_, m.acc, m.table⟩ ns2 ?_ (by show m.acc.length ≤ 2000; omega)
    have q : u.toNat = 0 ∨ u.toNat = 1 ∨ u.toNat = 2 ∨ u.toNat = 3 := by omega
    show [0, 7, m.letters + 1, -1][u.toNat]'_ < 1000
    rcases q with q | q | q | q <;> simp only [q, List.getElem_cons_zero, List.getElem_cons_succ] <;> omega
  rw [if_neg c0]
  by_cases c1 : v = 1
  · rw [if_pos c1]
    refine ⟨by omega, ?_⟩
    have := h ⟨m.letters, m.acc ++ [true], m.table⟩ ns1 (by show m.letters < 1000; omega) (by show (m.acc ++ [true]).length ≤ 2000; simp; omega)
    simpa [mD] using this
  rw [if_neg c1]
  have same : Q (.sh (.tup [.int m.letters, .tup (bls m.acc), .tup (rws m.table)])) (li ns1) := h m ns1 (by omega) (by omega)
  by_cases c2 : v < 5
  rotate_left
  · rw [if_neg c2]; exact same
  rw [if_pos c2]
  by_cases c3 : m.table = []
  · rw [if_pos c3]; exact same
  rw [if_neg c3]
  have tl : 0 < m.table.length := List.length_pos_iff.mpr c3
  refine ⟨tl, fun at_ ns2 a0 a1 => ?_⟩
  have ht : at_.toNat < m.table.length := by omega
  rw [atD_of a0 (by simpa using a1)]
  simp [-List.map_map, -List.map_take, -List.map_reverse, -List.map_drop, -List.map_append, -List.map_tail, -List.map_dropLast, -List.map_set, -List.filterMap_map, -List.map_const, -List.map_replicate]
  have row := mm.2.2.2 _ (List.getElem_mem ht)
  have fin : ∀ (rw' : List Int) (ns3 : List Int), rw'.length ≤ 100 → (dRet (dTup (dCons (dV 2) (dCons (dV 3) (dCons (dF (dOp oAdd (dOp oAdd (dSl (dV 4) dNo (dPt (dV 6))) (dTup (dCons (dV 7) dNil))) (dSl (dV 4) (dPt (dOp oAdd (dV 6) (dC (.int 1)))) dNo))) dNil)))) : DS) (fun _ _ => False) ⟨fun r => finM Q (.sh .non) r, fun t r => finM Q t r, fun _ => False, fun _ => False⟩
      [some (.ol (li ns3)), some (.sh (mD m)), some (.sh (.int m.letters)), some (.sh (.tup (bls m.acc))), some (.sh (.tup (rws m.table))), some (.sh (.int v)), some (.sh (.int at_)), some (.sh (.tup (li rw'))), none] := by
    intro rw' ns3 hl
    have e1 : cutD (rws m.table) none (some at_) = rws (m.table.take at_.toNat) := by rw [cut_to _ a0]; exact List.map_take.symm
    have e2 : cutD (rws m.table) (some (at_ + 1)) none = rws (m.table.drop (at_ + 1).toNat) := by rw [cut_from _ (by omega)]; exact List.map_drop.symm
    simp [-List.map_map, -List.map_take, -List.map_reverse, -List.map_drop, -List.map_append, -List.map_tail, -List.map_dropLast, -List.map_set, -List.filterMap_map, -List.map_const, -List.map_replicate, e1, e2]
    refine ⟨by omega, by omega, ?_⟩
    have := h ⟨m.letters, m.acc, m.table.take at_.toNat ++ rw' :: m.table.drop (at_ + 1).toNat⟩ ns3 (by show m.letters < 1000; omega) (by show m.acc.length ≤ 2000; omega)
    simpa [mD] using this
  by_cases c4 : v = 2
  · rw [if_pos c4]
    have e : li m.table[at_.toNat] ++ [D.int (-1)] = li (m.table[at_.toNat] ++ [-1]) := by simp
    rw [e]
    have := fin (m.table[at_.toNat] ++ [-1]) ns2 (by simp; omega)
    simp [-List.map_map, -List.map_take, -List.map_reverse, -List.map_drop, -List.map_append] at this
    refine ⟨by omega, ?_⟩
    simpa using this
  rw [if_neg c4]
  by_cases c5 : v = 3
  · rw [if_pos c5]
    have e : cutD (li m.table[at_.toNat]) (some 1) none = li (m.table[at_.toNat].drop 1) := by rw [cut_from _ (by omega)]; exact List.map_drop.symm
    rw [e]
    have := fin (m.table[at_.toNat].drop 1) ns2 (by simp; omega)
    simp [-List.map_map, -List.map_take, -List.map_reverse, -List.map_drop, -List.map_append] at this
    simpa using this
  rw [if_neg c5]
  refine ⟨by omega, fun u u0 u1 z ns3 z0 z1 => ?_⟩
  have e : [D.int (-2), D.int (m.table.length : Int), D.int ((m.table.length : Int) - 1), D.int 0] = li [-2, (m.table.length : Int), (m.table.length : Int) - 1, 0] := rfl
  rw [e, atD_li z0 (by simpa using z1)]
  have e1 : cutD (li m.table[at_.toNat]) none (some u) = li (m.table[at_.toNat].take u.toNat) := by rw [cut_to _ u0]; exact List.map_take.symm
  have e2 : cutD (li m.table[at_.toNat]) (some (u + 1)) none = li (m.table[at_.toNat].drop (u + 1).toNat) := by rw [cut_from _ (by omega)]; exact List.map_drop.symm
  rw [e1, e2]
  have := fin (m.table[at_.toNat].take u.toNat ++ [-2, (m.table.length : Int), (m.table.length : Int) - 1, 0][z.toNat]'(by simp; omega) :: m.table[at_.toNat].drop (u + 1).toNat) ns3 (by simp; omega)
  simp [-List.map_map, -List.map_take, -List.map_reverse, -List.map_drop] at this
  refine ⟨by simp; omega, by simp; omega, ?_⟩
  simpa [-List.map_map, -List.map_take, -List.map_reverse, -List.map_drop] using this


def D_law_word_5151 : DS := (dRet (dLCs (iRange (dCons (dCallM 0 [false] S_law_pick_b28a (dCons (dOp oAdd (dV 2) (dC (.int 1))) dNil)) dNil)) (gN 3) dYes (dF (dOp oAdd (dC (.int 1)) (dCallM 0 [false] S_law_pick_b28a (dCons (dV 1) dNil)))) [3]))
abbrev S_law_word_5151 : SpecM := fun es ds Q => ∃ (ns : List Int) (le ma : Int), es = li ns ∧ ds = [.int le, .int ma] ∧ 1 ≤ le ∧ 0 ≤ ma ∧ ma ≤ 1000 ∧ ∀ (wd ns' : List Int), (wd.length : Int) ≤ ma → (∀ l ∈ wd, 1 ≤ l ∧ l ≤ le) → Q (.ol (li wd)) (li ns')
theorem W_law_word_5151 : KeepsM [false, false] 1 S_law_word_5151 D_law_word_5151 := by
  rintro es ds Q ⟨ns, le, ma, rfl, rfl, l1, m0, m1, h⟩
  refine ⟨rfl, ?_⟩
  simp [-List.map_map, -List.map_take, -List.map_reverse, -List.map_drop, -List.map_append, -List.map_tail, -List.map_dropLast, -List.map_set, -List.filterMap_map, -List.map_const, -List.map_replicate, D_law_word_5151, S_law_pick_b28a, List.map_inj_right, and_assoc]
  refine ⟨by omega, fun v ns1 v0 v1 => ⟨by omega, by omega, ?_⟩⟩
  refine ⟨fun i acc r => ∃ (wd ns2 : List Int), acc = li wd ∧ wd.length = i ∧ i ≤ 2000 ∧ (∀ l ∈ wd, 1 ≤ l ∧ l ≤ le) ∧ r = [some (.ol (li ns2)), some (.sh (.int le)), some (.sh (.int ma)), none], ⟨[], ns1, rfl, rfl, by omega, by simp, rfl⟩, ?_, ?_, by simp; omega, ?_⟩
  · rintro i acc r ⟨wd, ns2, rfl, rfl, b, hw, rfl⟩
    exact ⟨trivial, by simp, rfl⟩
  · rintro i d acc r hd ⟨wd, ns2, rfl, rfl, b, hw, rfl⟩
    obtain ⟨hi, rfl⟩ := upD_get.mp hd
    simp [-List.map_map, -List.map_take, -List.map_reverse, -List.map_drop, -List.map_append, -List.map_tail, -List.map_dropLast, -List.map_set, -List.filterMap_map, -List.map_const, -List.map_replicate, S_law_pick_b28a, List.map_inj_right, and_assoc]
    have hi' : wd.length < (v).toNat := by first | exact hi | simpa using hi
    refine ⟨by omega, fun u u0 u1 => ?_⟩
    refine ⟨wd ++ [1 + u], by simp, by simp, by omega, fun l hl => ?_⟩
    rcases List.mem_append.mp hl with q | q
    · exact hw l q
    · rw [List.mem_singleton] at q
      omega
  · rintro acc r ⟨wd, ns2, rfl, hl, b, hw, rfl⟩
    rw [List.length_map, upI_length] at hl
    simp [-List.map_map, -List.map_take, -List.map_reverse, -List.map_drop, -List.map_append, -List.map_tail, -List.map_dropLast, -List.map_set, -List.filterMap_map, -List.map_const, -List.map_replicate]
    exact h wd ns2 (by omega) hw


def D_law_is_43e8 : DS := (dSeq (dSetG (gTp (gCn (gN 1) (gCn (gN 2) (gCn (gN 3) gNl)))) (dV 0))
  (dSeq (dIf (dOr (dB (dOp oLtA (dV 1) (dC (.int 1)))) (dOr (dB (dOp oGt (dV 1) (dC (.int 6)))) (dB (dOp oNe (dB1 cLen (dCons (dV 2) dNil)) (dB1 cLen (dCons (dV 3) dNil)))))) (dRet (dC (.bl false))) dNext)
  (dSeq (dFor (iSeq [] (dV 3)) (gN 4)
  (dSeq (dIf (dB (dOp oNe (dB1 cLen (dCons (dV 4) dNil)) (dV 1))) (dRet (dC (.bl false))) dNext)
  (dFor (iSeq [] (dV 4)) (gN 5)
  (dIf (dOr (dB (dOp oLtA (dV 5) (dU uNeg (dC (.int 1))))) (dB (dOp oGe (dV 5) (dB1 cLen (dCons (dV 3) dNil))))) (dRet (dC (.bl false))) dNext))))
  (dRet (dC (.bl true))))))
abbrev S_law_is_43e8 : Spec := fun ds X Q => ∃ m : Mach, ds = [mD m] ∧ m.acc.length ≤ 2000 ∧ Q (.sh (.bl (isMachB m)))
theorem W_law_is_43e8 : Keeps [false] 5 S_law_is_43e8 D_law_is_43e8 := by
  rintro ds X Q ⟨m, rfl, ha, h⟩
  refine ⟨rfl, ?_⟩
  simp [-List.map_map, -List.map_take, -List.map_reverse, -List.map_drop, -List.map_append, -List.map_tail, -List.map_dropLast, -List.map_set, -List.filterMap_map, -List.map_const, -List.map_replicate, D_law_is_43e8, mD]
  have bad : (¬ ((1 ≤ m.letters ∧ m.letters ≤ 6) ∧ m.table.length = m.acc.length ∧ ∀ r ∈ m.table, (r.length : Int) = m.letters ∧ ∀ s ∈ r, -1 ≤ s ∧ s < m.table.length)) → isMachB m = false := fun q => by
    cases e : isMachB m with
    | false => rfl
    | true =>
      have := isMach_iff.mp e
      exact absurd ⟨this.1, this.2.2⟩ q
  by_cases c1 : m.letters < 1
  · rw [bad (by omega)] at h
    rw [if_pos c1]; exact h
  by_cases c2 : 6 < m.letters
  · rw [bad (by omega)] at h
    rw [if_neg c1, if_pos c2]; exact h
  by_cases c3 : (m.acc.length : Int) = m.table.length
  rotate_left
  · rw [bad (by omega)] at h
    rw [if_neg c1, if_neg c2, if_neg c3]; exact h
  rw [if_neg c1, if_neg c2, if_pos c3]
  refine fo_lst (fun i r => ∃ x4 x5 : Option T, (∀ r ∈ m.table.take i, (r.length : Int) = m.letters ∧ ∀ s ∈ r, -1 ≤ s ∧ s < m.table.length) ∧ r = [some (.sh (.tup [.int m.letters, .tup (bls m.acc), .tup (rws m.table)])), some (.sh (.int m.letters)), some (.sh (.tup (bls m.acc))), some (.sh (.tup (rws m.table))), x4, x5]) ⟨_, _, by simp, rfl⟩ ?_ ?_ ?_
  · intro _ _ _; trivial
  · rintro i r hi ⟨x4, x5, ht, rfl⟩
    have hi' : i < m.table.length := by simpa using hi
    rw [List.getElem_map]
    simp [-List.map_map, -List.map_take, -List.map_reverse, -List.map_drop, -List.map_append, -List.map_tail, -List.map_dropLast, -List.map_set, -List.filterMap_map, -List.map_const, -List.map_replicate]
    by_cases c4 : (m.table[i].length : Int) = m.letters
    rotate_left
    · rw [if_neg c4]
      rw [bad fun q => c4 (q.2.2 _ (List.getElem_mem hi')).1] at h
      exact h
    rw [if_pos c4]
    refine fo_li (fun j r => ∃ x5 : Option T, (∀ s ∈ m.table[i].take j, -1 ≤ s ∧ s < m.table.length) ∧ r = [some (.sh (.tup [.int m.letters, .tup (bls m.acc), .tup (rws m.table)])), some (.sh (.int m.letters)), some (.sh (.tup (bls m.acc))), some (.sh (.tup (rws m.table))), some (.sh (.tup (li m.table[i]))), x5]) ⟨x5, by simp, rfl⟩ ?_ ?_ ?_
    · intro _ _ _; trivial
    · rintro j r hj ⟨x5, hs, rfl⟩
      simp [-List.map_map, -List.map_take, -List.map_reverse, -List.map_drop, -List.map_append, -List.map_tail, -List.map_dropLast, -List.map_set, -List.filterMap_map, -List.map_const, -List.map_replicate]
      by_cases c5 : m.table[i][j] < -1
      · rw [if_pos c5]
        rw [bad fun q => by have := ((q.2.2 _ (List.getElem_mem hi')).2 _ (List.getElem_mem hj)).1; omega] at h
        exact h
      by_cases c6 : (m.table.length : Int) ≤ m.table[i][j]
      · rw [if_neg c5, if_pos c6]
        rw [bad fun q => by have := ((q.2.2 _ (List.getElem_mem hi')).2 _ (List.getElem_mem hj)).2; omega] at h
        exact h
      rw [if_neg c5, if_neg c6]
      intro s hs'
      rw [List.take_add_one, List.getElem?_eq_getElem hj] at hs'
      rcases List.mem_append.mp hs' with q | q
      · exact hs s q
      · simp at q
        omega
    · rintro r ⟨x5, hs, rfl⟩
      rw [List.take_length] at hs
      refine ⟨fun r hr => ?_, _, _, rfl⟩
      rw [List.take_add_one, List.getElem?_eq_getElem hi'] at hr
      rcases List.mem_append.mp hr with q | q
      · exact ht r q
      · simp at q
        rw [q]
        exact ⟨c4, hs⟩
  · rintro r ⟨x4, x5, ht, rfl⟩
    rw [List.length_map, List.take_length] at ht
    have : isMachB m = true := isMach_iff.mpr ⟨by omega, ha, by omega, ht⟩
    rw [this] at h
    exact h


def D_is_machine_5e1e_c2 : DS := (dSeq (dFor (iSeq [] (dV 3)) (gN 4)
  (dSeq (dIf (dB (dOp oNe (dB1 cLen (dCons (dV 4) dNil)) (dV 1))) (dRet (dC (.bl false))) dNext)
  (dFor (iSeq [] (dV 4)) (gN 5)
  (dIf (dNot (dB (dChain oLe oLtA (dU uNeg (dC (.int 1))) (dV 5) (dB1 cLen (dCons (dV 3) dNil))))) (dRet (dC (.bl false))) dNext))))
  (dRet (dC (.bl true))))
def D_is_machine_5e1e : DS := (dSeq (dSetG (gTp (gCn (gN 1) (gCn (gN 2) (gCn (gN 3) gNl)))) (dV 0))
  (dSeq (dIf (dOr (dNot (dB (dChain oLe oLe (dC (.int 1)) (dV 1) (dC (.int 6))))) (dOr (dB (dOp oGt (dB1 cLen (dCons (dV 2) dNil)) (dC (.int 2000)))) (dB (dOp oNe (dB1 cLen (dCons (dV 3) dNil)) (dB1 cLen (dCons (dV 2) dNil)))))) (dRet (dC (.bl false))) dNext)
  D_is_machine_5e1e_c2))
abbrev S_is_machine_5e1e : Spec := fun ds _ Q => ∃ m : Mach, ds = [mD m] ∧ m.letters < 1000 ∧ Q (.sh (.bl (isMachB m)))
theorem W_is_machine_5e1e : Keeps [false] 5 S_is_machine_5e1e D_is_machine_5e1e := by
  rintro ds X Q ⟨m, rfl, hl, h⟩
  refine ⟨rfl, ?_⟩
  have no : ¬ ((1 ≤ m.letters ∧ m.letters ≤ 6) ∧ m.acc.length ≤ 2000 ∧ m.table.length = m.acc.length ∧ ∀ r ∈ m.table, (r.length : Int) = m.letters ∧ ∀ s ∈ r, -1 ≤ s ∧ s < m.table.length) → Q (.sh (.bl false)) := fun q => by
    have e : isMachB m = false := by
      cases e : isMachB m with
      | false => rfl
      | true => exact absurd (isMach_iff.mp e) q
    rw [e] at h
    exact h
  have tail : ((1 ≤ m.letters ∧ m.letters ≤ 6) ∧ m.acc.length ≤ 2000 ∧ m.table.length = m.acc.length) → D_is_machine_5e1e_c2 (fun e _ => X e) ⟨fun _ => Q (.sh .non), fun t _ => rtOf Q t, fun _ => False, fun _ => False⟩ [some (.sh (mD m)), some (.sh (.int m.letters)), some (.sh (.tup (bls m.acc))), some (.sh (.tup (rws m.table))), none, none] := by
    intro ok
    simp [-List.map_map, -List.map_take, -List.map_reverse, -List.map_drop, -List.map_append, -List.map_tail, -List.map_dropLast, -List.map_set, -List.filterMap_map, -List.map_const, -List.map_replicate, D_is_machine_5e1e_c2]
    refine fo_lst (fun i r => (∀ (j : Nat) (hj : j < m.table.length), j < i → ((m.table[j].length : Int) = m.letters ∧ ∀ s ∈ m.table[j], -1 ≤ s ∧ s < m.table.length)) ∧ ∃ (x4 x5 : Option T), r = [some (.sh (mD m)), some (.sh (.int m.letters)), some (.sh (.tup (bls m.acc))), some (.sh (.tup (rws m.table))), x4, x5]) ⟨fun j _ q => absurd q (by omega), none, none, rfl⟩ (fun _ _ _ => trivial) ?_ ?_
    · rintro i r hi ⟨ih, x4, x5, rfl⟩
      have hi' : i < m.table.length := by simpa using hi
      simp [-List.map_map, -List.map_take, -List.map_reverse, -List.map_drop, -List.map_append, -List.map_tail, -List.map_dropLast, -List.map_set, -List.filterMap_map, -List.map_const, -List.map_replicate]
      by_cases c : (m.table[i].length : Int) = m.letters
      · simp only [c, if_true]
        refine fo_li (fun j r => (∀ (k : Nat) (hk : k < m.table[i].length), k < j → -1 ≤ m.table[i][k] ∧ m.table[i][k] < m.table.length) ∧ ∃ (x5 : Option T), r = [some (.sh (mD m)), some (.sh (.int m.letters)), some (.sh (.tup (bls m.acc))), some (.sh (.tup (rws m.table))), some (.sh (.tup (li m.table[i]))), x5]) ⟨fun k _ q => absurd q (by omega), x5, rfl⟩ ?_ ?_ ?_
        · rintro j r ⟨_, x5, rfl⟩; simp
        · rintro j r hj ⟨jh, x5, rfl⟩
          have bad : ¬ (-1 ≤ m.table[i][j] ∧ m.table[i][j] < m.table.length) → Q (.sh (.bl false)) := fun q => no fun z => q ((z.2.2.2 _ (List.getElem_mem hi')).2 _ (List.getElem_mem hj))
          simp [-List.map_map, -List.map_take, -List.map_reverse, -List.map_drop, -List.map_append, -List.map_tail, -List.map_dropLast, -List.map_set, -List.filterMap_map, -List.map_const, -List.map_replicate]
          by_cases c1 : -1 ≤ m.table[i][j]
          · by_cases c2 : m.table[i][j] < (m.table.length : Int)
            · simp [c1, c2]
              intro k hk q
              by_cases e : k = j
              · subst e; exact ⟨c1, c2⟩
              · exact jh k hk (by omega)
            · simp [c1, c2]
              exact bad fun z => c2 z.2
          · simp [c1]
            exact bad fun z => c1 z.1
        · rintro r ⟨jh, x5, rfl⟩
          refine ⟨fun j hj q => ?_, _, _, rfl⟩
          by_cases e : j = i
          · subst e
            exact ⟨c, fun s hs => by
              obtain ⟨k, hk, rfl⟩ := List.getElem_of_mem hs
              exact jh k hk hk⟩
          · exact ih j hj (by omega)
      · simp only [c, if_false]
        exact no fun z => c (z.2.2.2 _ (List.getElem_mem hi')).1
    · rintro r ⟨ih, x4, x5, rfl⟩
      have e : isMachB m = true := isMach_iff.mpr ⟨ok.1, ok.2.1, ok.2.2, fun r hr => by
        obtain ⟨j, hj, rfl⟩ := List.getElem_of_mem hr
        exact ih j hj (by simpa using hj)⟩
      rw [e] at h
      simp [-List.map_map, -List.map_take, -List.map_reverse, -List.map_drop, -List.map_append, -List.map_tail, -List.map_dropLast, -List.map_set, -List.filterMap_map, -List.map_const, -List.map_replicate]
      exact h
  simp [-List.map_map, -List.map_take, -List.map_reverse, -List.map_drop, -List.map_append, -List.map_tail, -List.map_dropLast, -List.map_set, -List.filterMap_map, -List.map_const, -List.map_replicate, D_is_machine_5e1e, mD]
  by_cases c1 : 1 ≤ m.letters
  · by_cases c2 : m.letters ≤ 6
    · by_cases c3 : 2000 < (m.acc.length : Int)
      · rw [if_pos c1, if_pos c2, if_pos c3]
        exact no fun z => by have := z.2.1; omega
      · by_cases c4 : (m.table.length : Int) = m.acc.length
        · rw [if_pos c1, if_pos c2, if_neg c3, if_pos c4]
          exact tail ⟨⟨c1, c2⟩, by omega, by omega⟩
        · rw [if_pos c1, if_pos c2, if_neg c3, if_neg c4]
          exact no fun z => c4 (by have := z.2.2.1; omega)
    · rw [if_pos c1, if_neg c2]
      exact no fun z => c2 z.1.2
  · rw [if_neg c1]
    exact no fun z => c1 z.1.1


def D_check_machine_6f43 : DS := (dIf (dNot (dTr (dCall [false] S_is_machine_5e1e (dCons (dV 0) dNil)))) (dRaise 9) dNext)
abbrev S_check_machine_6f43 : Spec := fun ds X Q => ∃ m : Mach, ds = [mD m] ∧ m.letters < 1000 ∧ if isMachB m = true then Q (.sh .non) else X ⟨9, []⟩
theorem W_check_machine_6f43 : Keeps [false] 0 S_check_machine_6f43 D_check_machine_6f43 := by
  rintro ds X Q ⟨m, rfl, hl, h⟩
  refine ⟨rfl, ?_⟩
  have st : startE [false] [mD m] 0 = [some (.sh (mD m))] := rfl
  rw [st]
  simp [D_check_machine_6f43, S_is_machine_5e1e, mD_inj, hl]
  revert h; cases isMachB m <;> simp


def D_begin_e699 : DS := (dSeq (dIf (dB (dOp oEq (dB1 cLen (dCons (dOp oIx (dV 0) (dC (.int 1))) dNil)) (dC (.int 0)))) (dRet (dU uNeg (dC (.int 1)))) dNext)
  (dRet (dC (.int 0))))
abbrev S_begin_e699 : Spec := fun ds _ Q => ∃ m : Mach, ds = [mD m] ∧ Q (.sh (.int (mStart m)))
theorem W_begin_e699 : Keeps [false] 0 S_begin_e699 D_begin_e699 := by
  rintro ds X Q ⟨m, rfl, h⟩
  refine ⟨rfl, ?_⟩
  unfold mStart at h
  simp [-List.map_map, -List.map_take, -List.map_reverse, -List.map_drop, -List.map_append, -List.map_tail, -List.map_dropLast, -List.map_set, -List.filterMap_map, -List.map_const, -List.map_replicate, D_begin_e699, mD, atD_1]
  by_cases c : m.acc = []
  · simp [c] at h ⊢; exact h
  · have : ¬ m.acc.length = 0 := fun q => c (List.length_eq_zero_iff.mp q)
    simp [c] at h ⊢; exact h


def D_Walker_init_4623 : DS := (dSeq (dEx (dCall [false] S_check_machine_6f43 (dCons (dV 1) dNil)))
  (dSeq (dFSet 0 "machine" (dV 1))
  (dFSet 0 "state" (dF (dCall [false] S_begin_e699 (dCons (dV 1) dNil))))))
abbrev S_Walker_init_4623 : SpecO := fun f ds X Q => ∃ (q : Nat) (m : Mach), f = .nd q (some 0) [] ∧ ds = [mD m] ∧ m.letters < 1000 ∧ if isMachB m = true then Q (.sh .non) (wkF q m (mStart m)) else X ⟨9, []⟩ (.nd q (some 0) [])
theorem W_Walker_init_4623 : KeepsO [false] 0 S_Walker_init_4623 D_Walker_init_4623 := by
  rintro f ds X Q ⟨q, m, rfl, rfl, hl, h⟩
  refine ⟨rfl, ?_⟩
  have st : startE [false] [mD m] 0 = [some (.sh (mD m))] := rfl
  rw [st]
  simp [-List.map_map, -List.map_take, -List.map_reverse, -List.map_drop, -List.map_append, -List.map_tail, -List.map_dropLast, -List.map_set, -List.filterMap_map, -List.map_const, -List.map_replicate, D_Walker_init_4623]
  refine ⟨m, rfl, hl, ?_⟩
  by_cases hm : isMachB m = true
  · rw [if_pos hm] at h ⊢
    simp [-List.map_map, -List.map_take, -List.map_reverse, -List.map_drop, -List.map_append, -List.map_tail, -List.map_dropLast, -List.map_set, -List.filterMap_map, -List.map_const, -List.map_replicate]
    refine ⟨m, rfl, ?_⟩
    simp [-List.map_map, -List.map_take, -List.map_reverse, -List.map_drop, -List.map_append, -List.map_tail, -List.map_dropLast, -List.map_set, -List.filterMap_map, -List.map_const, -List.map_replicate]
    exact h
  · rw [if_neg hm] at h ⊢
    exact h


def D_law_checked_e65a : DS := (dSeq (dTry (subErr 9) (dSeq (dIf (dB (dOp oEq (dV 1) (dC (.int 0)))) (dRet (dU (uIsN false) (dCall [false] S_check_machine_6f43 (dCons (dV 0) dNil)))) dNext)
  (dEx (dMake 0 [false] S_Walker_init_4623 (dCons (dV 0) dNil))))
  (dRet (dC (.bl false))))
  (dRet (dC (.bl true))))
abbrev S_law_checked_e65a : Spec := fun ds X Q => ∃ (m : Mach) (k : Int), ds = [mD m, .int k] ∧ m.letters < 1000 ∧ Q (.sh (.bl (isMachB m)))
theorem W_law_checked_e65a : Keeps [false, false] 0 S_law_checked_e65a D_law_checked_e65a := by
  rintro ds X Q ⟨m, k, rfl, hl, h⟩
  refine ⟨rfl, ?_⟩
  have st : startE [false, false] [mD m, .int k] 0 = [some (.sh (mD m)), some (.sh (.int k))] := rfl
  rw [st]
  simp [-List.map_map, -List.map_take, -List.map_reverse, -List.map_drop, -List.map_append, -List.map_tail, -List.map_dropLast, -List.map_set, -List.filterMap_map, -List.map_const, -List.map_replicate, D_law_checked_e65a, S_check_machine_6f43, S_Walker_init_4623, mD_inj]
  refine ⟨hl, ?_⟩
  cases hm : isMachB m <;> simp [hm] at h ⊢ <;> exact h


def D_law_start_413b : DS := (dSeq (dIf (dB (dOp oEq (dB1 cLen (dCons (dOp oIx (dV 0) (dC (.int 1))) dNil)) (dC (.int 0)))) (dRet (dU uNeg (dC (.int 1)))) dNext)
  (dRet (dC (.int 0))))
abbrev S_law_start_413b : Spec := fun ds _ Q => ∃ m : Mach, ds = [mD m] ∧ Q (.sh (.int (mStart m)))
theorem W_law_start_413b : Keeps [false] 0 S_law_start_413b D_law_start_413b := by
  rintro ds X Q ⟨m, rfl, h⟩
  refine ⟨rfl, ?_⟩
  unfold mStart at h
  simp [-List.map_map, -List.map_take, -List.map_reverse, -List.map_drop, -List.map_append, -List.map_tail, -List.map_dropLast, -List.map_set, -List.filterMap_map, -List.map_const, -List.map_replicate, D_law_start_413b, mD, atD_1]
  by_cases c : m.acc = []
  · simp [c] at h ⊢; exact h
  · have : ¬ m.acc.length = 0 := fun q => c (List.length_eq_zero_iff.mp q)
    simp [c] at h ⊢; exact h


def D_law_step_8131 : DS := (dSeq (dIf (dOr (dB (dOp oLtA (dV 1) (dC (.int 0)))) (dB (dOp oGt (dV 2) (dOp oIx (dV 0) (dC (.int 0)))))) (dRet (dU uNeg (dC (.int 1)))) dNext)
  (dRet (dOp oIx (dOp oIx (dOp oIx (dV 0) (dC (.int 2))) (dV 1)) (dOp oSub (dV 2) (dC (.int 1))))))
abbrev S_law_step_8131 : Spec := fun ds _ Q => ∃ (m : Mach) (s l : Int), ds = [mD m, .int s, .int l] ∧ isMachB m = true ∧ -1 ≤ s ∧ s < m.table.length ∧ 1 ≤ l ∧ Q (.sh (.int (mStep m s l)))
theorem W_law_step_8131 : Keeps [false, false, false] 0 S_law_step_8131 D_law_step_8131 := by
  rintro ds X Q ⟨m, s, l, rfl, hm, s0, s1, l1, h⟩
  refine ⟨rfl, ?_⟩
  have mm := isMach_iff.mp hm
  unfold mStep at h
  simp [-List.map_map, -List.map_take, -List.map_reverse, -List.map_drop, -List.map_append, -List.map_tail, -List.map_dropLast, -List.map_set, -List.filterMap_map, -List.map_const, -List.map_replicate, D_law_step_8131, mD, atD_0, atD_2]
  by_cases c1 : s < 0
  · rw [if_pos c1]; rw [if_pos (Or.inl c1)] at h; exact h
  · rw [if_neg c1]
    by_cases c2 : m.letters < l
    · rw [if_pos c2]; rw [if_pos (Or.inr c2)] at h; exact h
    · rw [if_neg c2]
      rw [if_neg fun q => q.elim c1 c2] at h
      have hs : s.toNat < m.table.length := by omega
      rw [atD_of (by omega) (by simpa using s1)]
      have len := (mm.2.2.2 _ (List.getElem_mem hs)).1
      simp [-List.map_map, -List.map_take, -List.map_reverse, -List.map_drop, -List.map_append, -List.map_tail, -List.map_dropLast, -List.map_set, -List.filterMap_map, -List.map_const, -List.map_replicate]
      rw [atD_li (by omega) (by omega)]
      simp only [List.getD_eq_getElem?_getD, List.getElem?_eq_getElem hs, Option.getD_some, List.getElem?_eq_getElem (show (l - 1).toNat < m.table[s.toNat].length by omega)] at h
      exact h


def D_law_takes_9fa7 : DS := (dSeq (dSet 2 (dF (dCall [false] S_law_start_413b (dCons (dV 0) dNil))))
  (dSeq (dFor (iSeq [1] (dA 1)) (gN 3)
  (dSet 2 (dF (dCall [false, false, false] S_law_step_8131 (dCons (dV 0) (dCons (dV 2) (dCons (dV 3) dNil)))))))
  (dRet (dAndV (dOp oGe (dV 2) (dC (.int 0))) (dOp oIx (dOp oIx (dV 0) (dC (.int 1))) (dV 2))))))
abbrev S_law_takes_9fa7 : Spec := fun ds _ Q => ∃ (m : Mach) (w : List Int), ds = [mD m, .lst (li w)] ∧ isMachB m = true ∧ (∀ l ∈ w, 1 ≤ l) ∧ Q (.sh (.bl (mTakes m w)))
theorem W_law_takes_9fa7 : Keeps [false, false] 2 S_law_takes_9fa7 D_law_takes_9fa7 := by
  rintro ds X Q ⟨m, w, rfl, hm, hw, h⟩
  refine ⟨rfl, ?_⟩
  have mm := isMach_iff.mp hm
  have st : startE [false, false] [mD m, .lst (li w)] 2 = [some (.sh (mD m)), some (.bor (.lst (li w))), none, none] := rfl
  rw [st]
  simp [-List.map_map, -List.map_take, -List.map_reverse, -List.map_drop, -List.map_append, -List.map_tail, -List.map_dropLast, -List.map_set, -List.filterMap_map, -List.map_const, -List.map_replicate, D_law_takes_9fa7, S_law_start_413b, mD_inj]
  refine fo_li (fun i r => ∃ x3, (-1 ≤ mRun m (w.take i) ∧ mRun m (w.take i) < m.table.length) ∧ r = [some (.sh (mD m)), some (.bor (.lst (li w))), some (.sh (.int (mRun m (w.take i)))), x3]) ⟨none, by simpa [mRun] using mStart_in hm, by simp [mRun]⟩ ?_ ?_ ?_
  · rintro i r ⟨x3, _, rfl⟩; simp
  · rintro i r hi ⟨x3, ⟨b0, b1⟩, rfl⟩
    have l1 := hw _ (List.getElem_mem hi)
    have nx : mRun m (w.take (i + 1)) = mStep m (mRun m (w.take i)) w[i] := by
      unfold mRun
      rw [List.take_add_one, List.getElem?_eq_getElem hi, List.foldl_append]
      rfl
    have inn := mStep_in hm b1 l1
    simp [-List.map_map, -List.map_take, -List.map_reverse, -List.map_drop, -List.map_append, -List.map_tail, -List.map_dropLast, -List.map_set, -List.filterMap_map, -List.map_const, -List.map_replicate, S_law_step_8131, mD_inj, and_assoc]
    rw [nx]
    exact ⟨hm, b0, b1, l1, inn.1, inn.2, rfl⟩
  · rintro r ⟨x3, ⟨b0, b1⟩, rfl⟩
    rw [List.take_length] at b0 b1 ⊢
    unfold mTakes at h
    simp [-List.map_map, -List.map_take, -List.map_reverse, -List.map_drop, -List.map_append, -List.map_tail, -List.map_dropLast, -List.map_set, -List.filterMap_map, -List.map_const, -List.map_replicate, mD, atD_1]
    by_cases c : 0 ≤ mRun m w
    · have ha : (mRun m w).toNat < m.acc.length := by omega
      rw [if_pos c, atD_of c (by simp; omega)]
      simp only [List.getD_eq_getElem?_getD, List.getElem?_eq_getElem ha, Option.getD_some, c, decide_true, Bool.true_and] at h
      simp [-List.map_map, -List.map_take, -List.map_reverse, -List.map_drop, -List.map_append, -List.map_tail, -List.map_dropLast, -List.map_set, -List.filterMap_map, -List.map_const, -List.map_replicate]
      exact h
    · rw [if_neg c]
      rw [decide_eq_false c, Bool.false_and] at h
      exact h


def D_step_d2c1 : DS := (dSeq (dIf (dOr (dB (dOp oLtA (dV 1) (dC (.int 0)))) (dB (dOp oGt (dV 2) (dOp oIx (dV 0) (dC (.int 0)))))) (dRet (dU uNeg (dC (.int 1)))) dNext)
  (dRet (dOp oIx (dOp oIx (dOp oIx (dV 0) (dC (.int 2))) (dV 1)) (dOp oSub (dV 2) (dC (.int 1))))))
abbrev S_step_d2c1 : Spec := fun ds _ Q => ∃ (m : Mach) (s l : Int), ds = [mD m, .int s, .int l] ∧ isMachB m = true ∧ -1 ≤ s ∧ s < m.table.length ∧ 1 ≤ l ∧ Q (.sh (.int (mStep m s l)))
theorem W_step_d2c1 : Keeps [false, false, false] 0 S_step_d2c1 D_step_d2c1 := by
  rintro ds X Q ⟨m, s, l, rfl, hm, s0, s1, l1, h⟩
  refine ⟨rfl, ?_⟩
  have mm := isMach_iff.mp hm
  unfold mStep at h
  simp [-List.map_map, -List.map_take, -List.map_reverse, -List.map_drop, -List.map_append, -List.map_tail, -List.map_dropLast, -List.map_set, -List.filterMap_map, -List.map_const, -List.map_replicate, D_step_d2c1, mD, atD_0, atD_2]
  by_cases c1 : s < 0
  · rw [if_pos c1]; rw [if_pos (Or.inl c1)] at h; exact h
  · rw [if_neg c1]
    by_cases c2 : m.letters < l
    · rw [if_pos c2]; rw [if_pos (Or.inr c2)] at h; exact h
    · rw [if_neg c2]
      rw [if_neg fun q => q.elim c1 c2] at h
      have hs : s.toNat < m.table.length := by omega
      rw [atD_of (by omega) (by simpa using s1)]
      have len := (mm.2.2.2 _ (List.getElem_mem hs)).1
      simp [-List.map_map, -List.map_take, -List.map_reverse, -List.map_drop, -List.map_append, -List.map_tail, -List.map_dropLast, -List.map_set, -List.filterMap_map, -List.map_const, -List.map_replicate]
      rw [atD_li (by omega) (by omega)]
      simp only [List.getD_eq_getElem?_getD, List.getElem?_eq_getElem hs, Option.getD_some, List.getElem?_eq_getElem (show (l - 1).toNat < m.table[s.toNat].length by omega)] at h
      exact h


def D_Walker_read_4d54 : DS := (dSeq (dIf (dB (dOp oLtA (dV 1) (dC (.int 1)))) (dRaise 10) dNext)
  (dFSet 0 "state" (dF (dCall [false, false, false] S_step_d2c1 (dCons (dFo 0 "machine") (dCons (dFo 0 "state") (dCons (dV 1) dNil)))))))
abbrev S_Walker_read_4d54 : SpecO := fun f ds X Q => ∃ (q : Nat) (m : Mach) (s l : Int), f = wkF q m s ∧ ds = [.int l] ∧ isMachB m = true ∧ -1 ≤ s ∧ s < m.table.length ∧ if l < 1 then X ⟨10, []⟩ (wkF q m s) else Q (.sh .non) (wkF q m (mStep m s l))
theorem W_Walker_read_4d54 : KeepsO [false] 0 S_Walker_read_4d54 D_Walker_read_4d54 := by
  rintro f ds X Q ⟨q, m, s, l, rfl, rfl, hm, s0, s1, h⟩
  refine ⟨rfl, ?_⟩
  simp [-List.map_map, -List.map_take, -List.map_reverse, -List.map_drop, -List.map_append, -List.map_tail, -List.map_dropLast, -List.map_set, -List.filterMap_map, -List.map_const, -List.map_replicate, D_Walker_read_4d54]
  by_cases c : l < 1
  · rw [if_pos c] at h ⊢
    exact h
  · rw [if_neg c] at h ⊢
    refine ⟨m, s, l, rfl, hm, s0, s1, by omega, ?_⟩
    simp [-List.map_map, -List.map_take, -List.map_reverse, -List.map_drop, -List.map_append, -List.map_tail, -List.map_dropLast, -List.map_set, -List.filterMap_map, -List.map_const, -List.map_replicate]
    exact h


def D_Walker_is_accepted_721b : DS := (dRet (dAndV (dOp oGe (dFo 0 "state") (dC (.int 0))) (dOp oIx (dOp oIx (dFo 0 "machine") (dC (.int 1))) (dFo 0 "state"))))
abbrev S_Walker_is_accepted_721b : SpecO := fun f ds X Q => ∃ (q : Nat) (m : Mach) (s : Int), f = wkF q m s ∧ ds = [] ∧ isMachB m = true ∧ -1 ≤ s ∧ s < m.table.length ∧ Q (.sh (.bl (decide (0 ≤ s) && m.acc.getD s.toNat false))) (wkF q m s)
theorem W_Walker_is_accepted_721b : KeepsO [] 0 S_Walker_is_accepted_721b D_Walker_is_accepted_721b := by
  rintro f ds X Q ⟨q, m, s, rfl, rfl, hm, s0, s1, h⟩
  refine ⟨rfl, ?_⟩
  have mm := isMach_iff.mp hm
  simp [-List.map_map, -List.map_take, -List.map_reverse, -List.map_drop, -List.map_append, -List.map_tail, -List.map_dropLast, -List.map_set, -List.filterMap_map, -List.map_const, -List.map_replicate, D_Walker_is_accepted_721b, ix_mD1]
  by_cases c : 0 ≤ s
  · have ha : s.toNat < m.acc.length := by omega
    rw [if_pos c, atD_of c (by simp; omega)]
    simp only [List.getD_eq_getElem?_getD, List.getElem?_eq_getElem ha, Option.getD_some, c, decide_true, Bool.true_and] at h
    simp [-List.map_map, -List.map_take, -List.map_reverse, -List.map_drop, -List.map_append, -List.map_tail, -List.map_dropLast, -List.map_set, -List.filterMap_map, -List.map_const, -List.map_replicate]
    exact h
  · rw [if_neg c]
    rw [decide_eq_false c, Bool.false_and] at h
    exact h


def D_accepts_c635 : DS := (dSeq (dEx (dCall [false] S_check_machine_6f43 (dCons (dV 0) dNil)))
  (dSeq (dFor (iSeq [1] (dA 1)) (gN 2)
  (dIf (dB (dOp oLtA (dV 2) (dC (.int 1)))) (dRaise 10) dNext))
  (dSeq (dSet 3 (dMake 0 [false] S_Walker_init_4623 (dCons (dV 0) dNil)))
  (dSeq (dFor (iSeq [1] (dA 1)) (gN 2)
  (dEx (dMeth 3 0 [false] S_Walker_read_4d54 (dCons (dV 2) dNil))))
  (dRet (dProp 3 0 S_Walker_is_accepted_721b))))))
abbrev S_accepts_c635 : Spec := fun ds X Q => ∃ (m : Mach) (w : List Int), ds = [mD m, .lst (li w)] ∧ m.letters < 1000 ∧ if isMachB m = true then (if ∀ l ∈ w, 1 ≤ l then Q (.sh (.bl (mTakes m w))) else X ⟨10, []⟩) else X ⟨9, []⟩
theorem W_accepts_c635 : Keeps [false, false] 2 S_accepts_c635 D_accepts_c635 := by
  rintro ds X Q ⟨m, w, rfl, hl, h⟩
  refine ⟨rfl, ?_⟩
  have st : startE [false, false] [mD m, .lst (li w)] 2 = [some (.sh (mD m)), some (.bor (.lst (li w))), none, none] := rfl
  rw [st]
  simp [-List.map_map, -List.map_take, -List.map_reverse, -List.map_drop, -List.map_append, -List.map_tail, -List.map_dropLast, -List.map_set, -List.filterMap_map, -List.map_const, -List.map_replicate, D_accepts_c635]
  refine ⟨m, rfl, hl, ?_⟩
  by_cases hm : isMachB m = true
  rotate_left
  · rw [if_neg hm] at h ⊢
    exact h
  rw [if_pos hm] at h ⊢
  refine fo_li (fun i r => ∃ x2 : Option T, (∀ l ∈ w.take i, 1 ≤ l) ∧ r = [some (.sh (mD m)), some (.bor (.lst (li w))), x2, none]) ⟨none, by simp, rfl⟩ ?_ ?_ ?_
  · rintro i r ⟨x2, _, rfl⟩; simp
  · rintro i r hi ⟨x2, hw, rfl⟩
    simp [-List.map_map, -List.map_take, -List.map_reverse, -List.map_drop, -List.map_append, -List.map_tail, -List.map_dropLast, -List.map_set, -List.filterMap_map, -List.map_const, -List.map_replicate]
    by_cases c : w[i] < 1
    · rw [if_pos c]
      rw [if_neg fun q => by have := q _ (List.getElem_mem hi); omega] at h
      exact h
    · rw [if_neg c]
      intro l hl'
      rw [List.take_add_one, List.getElem?_eq_getElem hi] at hl'
      rcases List.mem_append.mp hl' with q | q
      · exact hw l q
      · simp at q
        omega
  · rintro r ⟨x2, hw, rfl⟩
    rw [List.take_length] at hw
    rw [if_pos hw] at h
    try simp [-List.map_map, -List.map_take, -List.map_reverse, -List.map_drop, -List.map_append, -List.map_tail, -List.map_dropLast, -List.map_set, -List.filterMap_map, -List.map_const, -List.map_replicate]
    intro q
    refine ⟨q, m, rfl, rfl, hl, ?_⟩
    rw [if_pos hm]
    refine ⟨rfl, ?_⟩
    try simp [-List.map_map, -List.map_take, -List.map_reverse, -List.map_drop, -List.map_append, -List.map_tail, -List.map_dropLast, -List.map_set, -List.filterMap_map, -List.map_const, -List.map_replicate]
    refine fo_li (fun i r => ∃ x2 : Option T, (-1 ≤ mRun m (w.take i) ∧ mRun m (w.take i) < m.table.length) ∧ r = [some (.sh (mD m)), some (.bor (.lst (li w))), x2, some (.own (wkF q m (mRun m (w.take i))))]) ⟨x2, by simpa [mRun] using mStart_in hm, by simp [mRun]⟩ ?_ ?_ ?_
    · rintro i r ⟨x2, _, rfl⟩; simp
    · rintro i r hi ⟨x2, ⟨b0, b1⟩, rfl⟩
      have l1 := hw _ (List.getElem_mem hi)
      have nx : mRun m (w.take (i + 1)) = mStep m (mRun m (w.take i)) w[i] := by
        rw [List.take_add_one, List.getElem?_eq_getElem hi, Option.toList_some, mRun_snoc]
      have inn := mStep_in hm b1 l1
      simp [-List.map_map, -List.map_take, -List.map_reverse, -List.map_drop, -List.map_append, -List.map_tail, -List.map_dropLast, -List.map_set, -List.filterMap_map, -List.map_const, -List.map_replicate]
      refine ⟨q, m, mRun m (w.take i), w[i], rfl, rfl, hm, b0, b1, ?_⟩
      rw [if_neg (by omega), nx]
      simp [-List.map_map, -List.map_take, -List.map_reverse, -List.map_drop, -List.map_append, -List.map_tail, -List.map_dropLast, -List.map_set, -List.filterMap_map, -List.map_const, -List.map_replicate]
      exact inn
    · rintro r ⟨x2, ⟨b0, b1⟩, rfl⟩
      rw [List.take_length] at b0 b1 ⊢
      simp [-List.map_map, -List.map_take, -List.map_reverse, -List.map_drop, -List.map_append, -List.map_tail, -List.map_dropLast, -List.map_set, -List.filterMap_map, -List.map_const, -List.map_replicate]
      refine ⟨q, m, mRun m w, rfl, rfl, hm, b0, b1, ?_⟩
      exact h


def D_law_told_1fff : DS := (dTryAs 0 2 (dRet (dTup (dCons (dC (.str [116, 111, 108, 100])) (dCons (dF (dCall [false, false] S_accepts_c635 (dCons (dV 0) (dCons (dA 1) dNil)))) dNil))))
  (dSeq (dIf (dAnd (dTr (dIsX 9 2)) (dNot (dTr (dIsX 10 2)))) (dRet (dTup (dCons (dC (.str [109, 97, 99, 104, 105, 110, 101])) (dCons (dC (.bl false)) dNil)))) dNext)
  (dSeq (dIf (dAnd (dTr (dIsX 10 2)) (dNot (dTr (dIsX 9 2)))) (dRet (dTup (dCons (dC (.str [119, 111, 114, 100])) (dCons (dC (.bl false)) dNil)))) dNext)
  (dRet (dTup (dCons (dC (.str [111, 116, 104, 101, 114])) (dCons (dC (.bl false)) dNil)))))))
/-- what the law is told of a word -/
def tolW (m : Mach) (wd : List Int) : D := if isMachB m = true then (if ∀ l ∈ wd, 1 ≤ l then .tup [.str [116, 111, 108, 100], .bl (mTakes m wd)] else .tup [.str [119, 111, 114, 100], .bl false]) else .tup [.str [109, 97, 99, 104, 105, 110, 101], .bl false]
abbrev S_law_told_1fff : Spec := fun ds X Q => ∃ (m : Mach) (wd : List Int), ds = [mD m, .lst (li wd)] ∧ m.letters < 1000 ∧ Q (.sh (tolW m wd))
theorem W_law_told_1fff : Keeps [false, false] 1 S_law_told_1fff D_law_told_1fff := by
  rintro ds X Q ⟨m, wd, rfl, hl, h⟩
  refine ⟨rfl, ?_⟩
  have st : startE [false, false] [mD m, .lst (li wd)] 1 = [some (.sh (mD m)), some (.bor (.lst (li wd))), none] := rfl
  rw [st]
  unfold tolW at h
  simp [-List.map_map, -List.map_take, -List.map_reverse, -List.map_drop, -List.map_append, -List.map_tail, -List.map_dropLast, -List.map_set, -List.filterMap_map, -List.map_const, -List.map_replicate, D_law_told_1fff, S_accepts_c635, mD_inj, List.map_inj_right]
  refine ⟨m, wd, ⟨rfl, rfl⟩, hl, ?_⟩
  by_cases hm : isMachB m = true
  · by_cases hw : ∀ l ∈ wd, 1 ≤ l
    · rw [if_pos hm, if_pos hw] at h ⊢
      simpa using h
    · rw [if_pos hm, if_neg hw] at h ⊢
      simpa using h
  · rw [if_neg hm] at h ⊢
    simpa using h


def D_law_refuses_b4a8 : DS := (dSeq (dSet 2 (dTup (dCons (dFo 0 "state") (dCons (dProp 0 0 S_Walker_is_accepted_721b) dNil))))
  (dSeq (dTryAs 10 3 (dEx (dMeth 0 0 [false] S_Walker_read_4d54 (dCons (dV 1) dNil)))
  (dRet (dAndV (dIsX 0 3) (dOp oEq (dTup (dCons (dFo 0 "state") (dCons (dProp 0 0 S_Walker_is_accepted_721b) dNil))) (dV 2)))))
  (dRet (dC (.bl false)))))
abbrev S_law_refuses_b4a8 : SpecO := fun f ds X Q => ∃ (q : Nat) (m : Mach) (s l : Int), f = wkF q m s ∧ ds = [.int l] ∧ isMachB m = true ∧ -1 ≤ s ∧ s < m.table.length ∧ l < 1 ∧ Q (.sh (.bl true)) (wkF q m s)
theorem W_law_refuses_b4a8 : KeepsO [false] 2 S_law_refuses_b4a8 D_law_refuses_b4a8 := by
  rintro f ds X Q ⟨q, m, s, l, rfl, rfl, hm, s0, s1, hl, h⟩
  refine ⟨rfl, ?_⟩
  simp [-List.map_map, -List.map_take, -List.map_reverse, -List.map_drop, -List.map_append, -List.map_tail, -List.map_dropLast, -List.map_set, -List.filterMap_map, -List.map_const, -List.map_replicate, D_law_refuses_b4a8, S_Walker_is_accepted_721b, mD_inj]
  refine ⟨q, m, s, ⟨rfl, rfl, rfl⟩, hm, s0, s1, ?_⟩
  simp [-List.map_map, -List.map_take, -List.map_reverse, -List.map_drop, -List.map_append, -List.map_tail, -List.map_dropLast, -List.map_set, -List.filterMap_map, -List.map_const, -List.map_replicate, S_Walker_read_4d54, mD_inj]
  refine ⟨q, m, s, ⟨rfl, rfl, rfl⟩, hm, s0, s1, ?_⟩
  rw [if_pos hl]
  refine ⟨q, m, s, ⟨rfl, rfl, rfl⟩, hm, s0, s1, ?_⟩
  have k : ∀ b : Bool, okE (.tup [.int s, .bl b]) := fun b => by simp [okE, lay, lays, deep, deeps]
  refine ⟨⟨k _, k _⟩, ?_⟩
  have e : ∀ b : Bool, eqD (.tup [.int s, .bl b]) (.tup [.int s, .bl b]) = true := fun b => by
    cases b <;> simp [eqD, eqDs]
  rw [e]
  exact h


def D_law_walks_6e37 : DS := (dSeq (dSet 3 (dMake 0 [false] S_Walker_init_4623 (dCons (dV 0) dNil)))
  (dSeq (dSet 4 (dMake 0 [false] S_Walker_init_4623 (dCons (dV 0) dNil)))
  (dSeq (dSet 5 (dF (dCall [false] S_law_start_413b (dCons (dV 0) dNil))))
  (dSeq (dFor (iRange (dCons (dB1 cLen (dCons (dA 1) dNil)) dNil)) (gN 6)
  (dSeq (dIf (dOr (dB (dOp oNe (dFo 3 "state") (dV 5))) (dB (dOp oNe (dProp 3 0 S_Walker_is_accepted_721b) (dCall [false, false] S_law_takes_9fa7 (dCons (dV 0) (dCons (dSl (dA 1) dNo (dPt (dV 6))) dNil)))))) (dRet (dC (.bl false))) dNext)
  (dSeq (dIf (dOr (dB (dOp oNe (dFo 4 "state") (dCall [false] S_law_start_413b (dCons (dV 0) dNil)))) (dNot (dTr (dCallOw 3 [false] S_law_refuses_b4a8 (dCons (dOp oSub (dC (.int 0)) (dCallM 2 [false] S_law_pick_b28a (dCons (dC (.int 3)) dNil))) dNil))))) (dRet (dC (.bl false))) dNext)
  (dSeq (dIf (dB (dU (uIsN true) (dMeth 3 0 [false] S_Walker_read_4d54 (dCons (dOp oIx (dA 1) (dV 6)) dNil)))) (dRet (dC (.bl false))) dNext)
  (dSet 5 (dF (dCall [false, false, false] S_law_step_8131 (dCons (dV 0) (dCons (dV 5) (dCons (dOp oIx (dA 1) (dV 6)) dNil))))))))))
  (dRet (dAndV (dOp oEq (dFo 3 "state") (dV 5)) (dAndV (dOp oEq (dProp 3 0 S_Walker_is_accepted_721b) (dCall [false, false] S_law_takes_9fa7 (dCons (dV 0) (dCons (dA 1) dNil)))) (dU (uIsTy .bl) (dProp 3 0 S_Walker_is_accepted_721b)))))))))
theorem tk_eq (m : Mach) (w : List Int) : (decide (0 ≤ mRun m w) && m.acc[(mRun m w).toNat]?.getD false) = mTakes m w := rfl
theorem eqD_bl (b : Bool) : eqD (.bl b) (.bl b) = true := by cases b <;> rfl
abbrev S_law_walks_6e37 : SpecM := fun es ds Q => ∃ (ns : List Int) (m : Mach) (wd : List Int), es = li ns ∧ ds = [mD m, .lst (li wd)] ∧ isMachB m = true ∧ (∀ l ∈ wd, 1 ≤ l) ∧ wd.length ≤ 1000 ∧ ∀ ns' : List Int, Q (.sh (.bl true)) (li ns')
theorem W_law_walks_6e37 : KeepsP 2 [false, false] 4 S_law_walks_6e37 D_law_walks_6e37 := by
  rintro es ds Q ⟨ns, m, wd, rfl, rfl, hm, hw, hl, h⟩
  refine ⟨rfl, ?_⟩
  have mm := isMach_iff.mp hm
  have st : insE 2 (some (.ol (li ns))) (startE [false, false] [mD m, .lst (li wd)] 4) = [some (.sh (mD m)), some (.bor (.lst (li wd))), some (.ol (li ns)), none, none, none, none] := rfl
  rw [st]
  simp [-List.map_map, -List.map_take, -List.map_reverse, -List.map_drop, -List.map_append, -List.map_tail, -List.map_dropLast, -List.map_set, -List.filterMap_map, -List.map_const, -List.map_replicate, D_law_walks_6e37, S_Walker_init_4623, S_law_start_413b, mD_inj]
  have ml : m.letters < 1000 := by omega
  refine fun q1 => ⟨ml, hm, fun q2 => ⟨ml, hm, by omega, ?_⟩⟩
  have s0 := mStart_in hm
  refine fo_up (fun i r => ∃ (ns1 : List Int) (x6 : Option T), (-1 ≤ mRun m (wd.take i) ∧ mRun m (wd.take i) < m.table.length) ∧ r = [some (.sh (mD m)), some (.bor (.lst (li wd))), some (.ol (li ns1)), some (.own (wkF q1 m (mRun m (wd.take i)))), some (.own (wkF q2 m (mStart m))), some (.sh (.int (mRun m (wd.take i)))), x6]) ⟨ns, none, by simpa [mRun] using s0, by simp [mRun]⟩ ?_ ?_
  · rintro i r hi ⟨ns1, x6, ⟨b0, b1⟩, rfl⟩
    have l1 := hw _ (List.getElem_mem hi)
    have nx : mRun m (wd.take (i + 1)) = mStep m (mRun m (wd.take i)) wd[i] := by
      rw [List.take_add_one, List.getElem?_eq_getElem hi, Option.toList_some, mRun_snoc]
    have inn := mStep_in hm b1 l1
    have cut : cutD (li wd) none (some (i : Int)) = li (wd.take i) := by
      rw [cut_to _ (by omega)]; exact List.map_take.symm
    have ai : atD (li wd) (i : Int) = some (.int wd[i]) := by rw [atD_nat (by simpa using hi)]; simp
    simp [-List.map_map, -List.map_take, -List.map_reverse, -List.map_drop, -List.map_append, -List.map_tail, -List.map_dropLast, -List.map_set, -List.filterMap_map, -List.map_const, -List.map_replicate, S_Walker_is_accepted_721b, S_law_takes_9fa7, S_law_start_413b, S_law_refuses_b4a8, S_law_pick_b28a, S_Walker_read_4d54, S_law_step_8131, mD_inj, List.map_inj_right, and_assoc, cut, ai]
    refine ⟨hm, b0, b1, hm, fun l hl' => hw l (List.mem_of_mem_take hl'), ?_⟩
    rw [tk_eq, eqD_bl, if_pos rfl]
    intro v v0 v1
    refine ⟨hm, b0, b1, by omega, hm, b0, b1, l1, hm, b0, b1, l1, ?_⟩
    rw [nx]
    exact ⟨inn.1, inn.2, rfl⟩
  · rintro r ⟨ns1, x6, ⟨b0, b1⟩, rfl⟩
    rw [List.take_length] at b0 b1 ⊢
    simp [-List.map_map, -List.map_take, -List.map_reverse, -List.map_drop, -List.map_append, -List.map_tail, -List.map_dropLast, -List.map_set, -List.filterMap_map, -List.map_const, -List.map_replicate, S_Walker_is_accepted_721b, S_law_takes_9fa7, mD_inj, List.map_inj_right]
    refine ⟨q1, m, _, ⟨rfl, rfl, rfl⟩, hm, b0, b1, m, wd, ⟨rfl, rfl⟩, hm, hw, ?_⟩
    rw [tk_eq, eqD_bl, if_pos rfl]
    exact ⟨q1, m, _, ⟨rfl, rfl, rfl⟩, hm, b0, b1, h ns1⟩


def D_law_1e40_c11 : DS := (dSeq (dSet 7 (dF (dCall [false, false] S_law_told_1fff (dCons (dV 2) (dCons (dV 4) dNil)))))
  (dSeq (dIf (dOr (dB (dOp oNe (dV 7) (dV 6))) (dOr (dNot (dTr (dU (uIsTy .bl) (dOp oIx (dV 7) (dC (.int 1)))))) (dB (dOp oNe (dV 4) (dA 3))))) (dRet (dC (.bl false))) dNext)
  (dRet (dOrV (dOp oNe (dOp oIx (dV 6) (dC (.int 0))) (dC (.str [116, 111, 108, 100]))) (dCallP 1 2 [false, false] S_law_walks_6e37 (dCons (dV 2) (dCons (dA 3) (dCons (dA 1) dNil))))))))
def D_law_1e40_c9 : DS := (dSeq (dSet 6 (dTup (dCons (dC (.str [109, 97, 99, 104, 105, 110, 101])) (dCons (dC (.bl false)) dNil))))
  (dSeq (dIf (dAnd (dTr (dV 5)) (dTr (dLC (iSeq [3] (dA 3)) (gN 8) (dB (dOp oLtA (dV 8) (dC (.int 1)))) (dV 8) [8]))) (dSet 6 (dTup (dCons (dC (.str [119, 111, 114, 100])) (dCons (dC (.bl false)) dNil)))) (dIf (dTr (dV 5)) (dSet 6 (dTup (dCons (dC (.str [116, 111, 108, 100])) (dCons (dF (dCall [false, false] S_law_takes_9fa7 (dCons (dV 2) (dCons (dA 3) dNil)))) dNil)))) dNext))
  D_law_1e40_c11))
def D_law_1e40_c5 : DS := (dSeq (dSet 4 (dF (dB1 cList (dCons (dA 3) dNil))))
  (dSeq (dSet 5 (dF (dCall [false] S_law_is_43e8 (dCons (dV 2) dNil))))
  (dSeq (dIf (dOr (dNot (dTr (dU (uIsTy .bl) (dCall [false] S_is_machine_5e1e (dCons (dV 2) dNil))))) (dB (dOp oNe (dCall [false] S_is_machine_5e1e (dCons (dV 2) dNil)) (dV 5)))) (dRet (dC (.bl false))) dNext)
  (dSeq (dIf (dOr (dB (dOp oNe (dCall [false, false] S_law_checked_e65a (dCons (dV 2) (dCons (dC (.int 0)) dNil))) (dV 5))) (dB (dOp oNe (dCall [false, false] S_law_checked_e65a (dCons (dV 2) (dCons (dC (.int 1)) dNil))) (dV 5)))) (dRet (dC (.bl false))) dNext)
  D_law_1e40_c9))))
def D_law_1e40_c3 : DS := (dSeq (dSet 3 (dCallM 1 [false, false] S_law_word_5151 (dCons (dC (.int 7)) (dCons (dC (.int 12)) dNil))))
  (dSeq (dIf (dAnd (dB (dOp oEq (dCallM 1 [false] S_law_pick_b28a (dCons (dC (.int 4)) dNil)) (dC (.int 0)))) (dTr (dA 3))) (dSetIx 3 (dCallM 1 [false] S_law_pick_b28a (dCons (dB1 cLen (dCons (dA 3) dNil)) dNil)) (dOp oSub (dC (.int 0)) (dCallM 1 [false] S_law_pick_b28a (dCons (dC (.int 3)) dNil)))) dNext)
  D_law_1e40_c5))
def D_law_1e40 : DS := (dSeq (dSet 1 (dCall [false] S_law_draws_f01f (dCons (dA 0) dNil)))
  (dSeq (dSet 2 (dF (dCallM 1 [false, false] S_law_machine_0257 (dCons (dOp oAdd (dC (.int 1)) (dCallM 1 [false] S_law_pick_b28a (dCons (dC (.int 6)) dNil))) (dCons (dC (.int 8)) dNil)))))
  (dSeq (dIf (dB (dOp oEq (dCallM 1 [false] S_law_pick_b28a (dCons (dC (.int 2)) dNil)) (dC (.int 0)))) (dSet 2 (dF (dCallM 1 [false] S_law_spoilt_a888 (dCons (dV 2) dNil)))) dNext)
  D_law_1e40_c3)))
abbrev S_law_1e40 : Spec := SLaw
theorem tolW_ok (m : Mach) (wd : List Int) : okE (tolW m wd) ∧ eqD (tolW m wd) (tolW m wd) = true := by
  unfold tolW
  split
  · split
    · refine ⟨by simp [okE, lay, lays, deep, deeps], ?_⟩
      cases mTakes m wd <;> decide
    · exact ⟨by simp [okE, lay, lays, deep, deeps], by decide⟩
  · exact ⟨by simp [okE, lay, lays, deep, deeps], by decide⟩
theorem law_1e40_c11 {ns ns1 : List Int} {m : Mach} {wd : List Int} (ml : m.letters < 1000) (wl : wd.length ≤ 12) (x7 : Option T) {X : XD} {Q : T → Prop} (h : Q (.sh (.bl true))) :
    D_law_1e40_c11 X ⟨fun _ => Q (.sh .non), fun t _ => rtOf Q t, fun _ => False, fun _ => False⟩ [some (.sh (.scr ns)), some (.ol (li ns1)), some (.sh (mD m)), some (.ol (li wd)), some (.sh (.lst (li wd))), some (.sh (.bl (isMachB m))), some (.sh (tolW m wd)), x7, none] := by
  obtain ⟨t1, t2⟩ := tolW_ok m wd
  simp [-List.map_map, -List.map_take, -List.map_reverse, -List.map_drop, -List.map_append, -List.map_tail, -List.map_dropLast, -List.map_set, -List.filterMap_map, -List.map_const, -List.map_replicate, D_law_1e40_c11, S_law_told_1fff, mD_inj, List.map_inj_right]
  refine ⟨m, wd, ⟨rfl, rfl⟩, ml, Or.inr ⟨t1, t1⟩, ?_⟩
  rw [if_pos t2]
  by_cases hm : isMachB m = true
  · by_cases hw : ∀ l ∈ wd, 1 ≤ l
    · have e : tolW m wd = .tup [.str [116, 111, 108, 100], .bl (mTakes m wd)] := by unfold tolW; rw [if_pos hm, if_pos hw]
      rw [e]
      simp [-List.map_map, -List.map_take, -List.map_reverse, -List.map_drop, -List.map_append, -List.map_tail, -List.map_dropLast, -List.map_set, -List.filterMap_map, -List.map_const, -List.map_replicate, subT, atD, ixD, tyD, S_law_walks_6e37, mD_inj, List.map_inj_right]
      exact ⟨m, wd, ⟨rfl, rfl⟩, hm, hw, by omega, h⟩
    · have e : tolW m wd = .tup [.str [119, 111, 114, 100], .bl false] := by unfold tolW; rw [if_pos hm, if_neg hw]
      rw [e]
      simp [-List.map_map, -List.map_take, -List.map_reverse, -List.map_drop, -List.map_append, -List.map_tail, -List.map_dropLast, -List.map_set, -List.filterMap_map, -List.map_const, -List.map_replicate, subT, atD, ixD, tyD]
      exact h
  · have e : tolW m wd = .tup [.str [109, 97, 99, 104, 105, 110, 101], .bl false] := by unfold tolW; rw [if_neg hm]
    rw [e]
    simp [-List.map_map, -List.map_take, -List.map_reverse, -List.map_drop, -List.map_append, -List.map_tail, -List.map_dropLast, -List.map_set, -List.filterMap_map, -List.map_const, -List.map_replicate, subT, atD, ixD, tyD]
    exact h
theorem law_1e40_c9 {ns ns1 : List Int} {m : Mach} {wd : List Int} (ml : m.letters < 1000) (wl : wd.length ≤ 12) (x6 x7 : Option T) {X : XD} {Q : T → Prop} (h : Q (.sh (.bl true))) :
    D_law_1e40_c9 X ⟨fun _ => Q (.sh .non), fun t _ => rtOf Q t, fun _ => False, fun _ => False⟩ [some (.sh (.scr ns)), some (.ol (li ns1)), some (.sh (mD m)), some (.ol (li wd)), some (.sh (.lst (li wd))), some (.sh (.bl (isMachB m))), x6, x7, none] := by
  simp [-List.map_map, -List.map_take, -List.map_reverse, -List.map_drop, -List.map_append, -List.map_tail, -List.map_dropLast, -List.map_set, -List.filterMap_map, -List.map_const, -List.map_replicate, D_law_1e40_c9]
  by_cases hm : isMachB m = true
  rotate_left
  · rw [if_neg hm, if_neg hm]
    have e : tolW m wd = .tup [.str [109, 97, 99, 104, 105, 110, 101], .bl false] := by unfold tolW; rw [if_neg hm]
    rw [← e]
    exact law_1e40_c11 ml wl x7 h
  rw [if_pos hm]
  refine lc_lif (fun l => decide (l < 1)) (fun l => l) (fun r2 h2 => by have := lookV_wipe (j := 3) (by decide) h2; simp [this]) (by omega) (fun d hd => ?_) ?_
  · by_cases c : d < 1 <;> simp [c]
  · simp [-List.map_map, -List.map_take, -List.map_reverse, -List.map_drop, -List.map_append, -List.map_tail, -List.map_dropLast, -List.map_set, -List.filterMap_map, -List.map_const, -List.map_replicate]
    by_cases hw : ∀ l ∈ wd, 1 ≤ l
    · have e : tolW m wd = .tup [.str [116, 111, 108, 100], .bl (mTakes m wd)] := by unfold tolW; rw [if_pos hm, if_pos hw]
      rw [if_neg fun ⟨l, l1, l2⟩ => by have := hw l l1; omega, if_pos hm]
      simp [-List.map_map, -List.map_take, -List.map_reverse, -List.map_drop, -List.map_append, -List.map_tail, -List.map_dropLast, -List.map_set, -List.filterMap_map, -List.map_const, -List.map_replicate, S_law_takes_9fa7, mD_inj, List.map_inj_right]
      refine ⟨m, wd, ⟨rfl, rfl⟩, hm, hw, ?_⟩
      rw [← e]
      exact law_1e40_c11 ml wl x7 h
    · have e : tolW m wd = .tup [.str [119, 111, 114, 100], .bl false] := by unfold tolW; rw [if_pos hm, if_neg hw]
      rw [if_pos (Classical.byContradiction fun q => hw fun l hl => Classical.byContradiction fun z => q ⟨l, hl, by omega⟩), ← e]
      exact law_1e40_c11 ml wl x7 h
theorem law_1e40_c5 {ns ns1 : List Int} {m : Mach} {wd : List Int} (ml : m.letters < 1000) (ma : m.acc.length ≤ 2000) (wl : wd.length ≤ 12) {X : XD} {Q : T → Prop} (h : Q (.sh (.bl true))) :
    D_law_1e40_c5 X ⟨fun _ => Q (.sh .non), fun t _ => rtOf Q t, fun _ => False, fun _ => False⟩ [some (.sh (.scr ns)), some (.ol (li ns1)), some (.sh (mD m)), some (.ol (li wd)), none, none, none, none, none] := by
  simp [-List.map_map, -List.map_take, -List.map_reverse, -List.map_drop, -List.map_append, -List.map_tail, -List.map_dropLast, -List.map_set, -List.filterMap_map, -List.map_const, -List.map_replicate, D_law_1e40_c5, S_law_is_43e8, S_is_machine_5e1e, S_law_checked_e65a, mD_inj, subT, eqD_bl]
  exact ⟨ma, ml, law_1e40_c9 ml wl _ _ h⟩
theorem law_1e40_c3 {ns ns1 : List Int} {m : Mach} (ml : m.letters < 1000) (ma : m.acc.length ≤ 2000) {X : XD} {Q : T → Prop} (h : Q (.sh (.bl true))) :
    D_law_1e40_c3 X ⟨fun _ => Q (.sh .non), fun t _ => rtOf Q t, fun _ => False, fun _ => False⟩ [some (.sh (.scr ns)), some (.ol (li ns1)), some (.sh (mD m)), none, none, none, none, none, none] := by
  simp [-List.map_map, -List.map_take, -List.map_reverse, -List.map_drop, -List.map_append, -List.map_tail, -List.map_dropLast, -List.map_set, -List.filterMap_map, -List.map_const, -List.map_replicate, D_law_1e40_c3, S_law_word_5151, S_law_pick_b28a, mD_inj, List.map_inj_right, and_assoc]
  intro wd wl wr v ns3 v0 v1
  by_cases c : v = 0
  · rw [if_pos c]
    by_cases c2 : wd = []
    · rw [if_pos c2]
      exact law_1e40_c5 ml ma (by omega) h
    · rw [if_neg c2]
      intro u u0 u1
      refine ⟨List.length_pos_iff.mpr c2, fun at_ ns4 a0 a1 => ?_⟩
      rw [ixD_of a0 a1]
      simp only []
      rw [li_set]
      exact law_1e40_c5 ml ma (by simp; omega) h
  · rw [if_neg c]
    exact law_1e40_c5 ml ma (by omega) h
theorem W_law_1e40 : Keeps [false] 8 S_law_1e40 D_law_1e40 := by
  rintro ds X Q ⟨ns, rfl, hl, h⟩
  refine ⟨rfl, ?_⟩
  simp [-List.map_map, -List.map_take, -List.map_reverse, -List.map_drop, -List.map_append, -List.map_tail, -List.map_dropLast, -List.map_set, -List.filterMap_map, -List.map_const, -List.map_replicate, D_law_1e40, S_law_draws_f01f, S_law_machine_0257, S_law_pick_b28a, S_law_spoilt_a888, mD_inj, List.map_inj_right, and_assoc]
  refine ⟨hl, fun v v0 v1 => ⟨by omega, by omega, fun m hm ml ma k ns1 k0 k1 => ?_⟩⟩
  split
  · exact ⟨hm, by omega, fun m' ns2 l a => law_1e40_c3 l a h⟩
  · exact law_1e40_c3 (by omega) (by omega) h

end J
namespace J
open PySem L2 PySem.W PyProof.Rows
def okc : Nat → Bool := fun n => n == 0 || n == 9 || n == 10
def cmOf (C0 C9 C10 : Addr) : Nat → Addr := fun n => if n = 0 then C0 else if n = 9 then C9 else if n = 10 then C10 else 0
def clOf (C0 C9 C10 : Addr) : Cl := ⟨cmOf C0 C9 C10, fun n => if n = 20 then "row" else "at", okc⟩
def top (i : Nat) : Stmt := PySem.Challenge.pw_yardsort_k27_accepts_and_walkers.main.body.getD i (.Pass ⟨0, 0, 0, 0⟩)
abbrev s14 : Stmt := top 14
abbrev names14 : List Str := ["_law_cell"]
abbrev ps14 : List Str := ["_law_cell"]
theorem sc14 : FnScope names14 ps14 (defScope s14) := ⟨rfl, rfl, rfl, by decide +kernel, rfl, by decide +kernel, by decide +kernel⟩
abbrev s15 : Stmt := top 15
abbrev names15 : List Str := ["_law_script", "_law_draws_here", "_law_seed", "_law_cell", "_law_rest", "_law_k", "_law_once", "_law_twice"]
abbrev ps15 : List Str := ["_law_script"]
theorem sc15 : FnScope names15 ps15 (defScope s15) := ⟨rfl, rfl, rfl, by decide +kernel, rfl, by decide +kernel, by decide +kernel⟩
abbrev s16 : Stmt := top 16
abbrev names16 : List Str := ["_law_draws_here"]
abbrev ps16 : List Str := ["_law_draws_here"]
theorem sc16 : FnScope names16 ps16 (defScope s16) := ⟨rfl, rfl, rfl, by decide +kernel, rfl, by decide +kernel, by decide +kernel⟩
abbrev s17 : Stmt := top 17
abbrev names17 : List Str := ["_law_draws_here", "_law_many"]
abbrev ps17 : List Str := ["_law_draws_here", "_law_many"]
theorem sc17 : FnScope names17 ps17 (defScope s17) := ⟨rfl, rfl, rfl, by decide +kernel, rfl, by decide +kernel, by decide +kernel⟩
abbrev s18 : Stmt := top 18
abbrev names18 : List Str := ["_law_draws_here", "_law_letters", "_law_many", "_law_size", "_law_accepting", "_law_table", "_law_k", "_law_row", "_law_j", "_law_state"]
abbrev ps18 : List Str := ["_law_draws_here", "_law_letters", "_law_many"]
theorem sc18 : FnScope names18 ps18 (defScope s18) := ⟨rfl, rfl, rfl, by decide +kernel, rfl, by decide +kernel, by decide +kernel⟩
abbrev s23 : Stmt := top 23
abbrev names23 : List Str := ["_law_draws_here", "_law_machine_here", "_law_letters", "_law_accepting", "_law_table", "_law_kind", "_law_at", "_law_row", "_law_place"]
abbrev ps23 : List Str := ["_law_draws_here", "_law_machine_here"]
theorem sc23 : FnScope names23 ps23 (defScope s23) := ⟨rfl, rfl, rfl, by decide +kernel, rfl, by decide +kernel, by decide +kernel⟩
abbrev s22 : Stmt := top 22
abbrev names22 : List Str := ["_law_draws_here", "_law_letters", "_law_many", "_law_k"]
abbrev ps22 : List Str := ["_law_draws_here", "_law_letters", "_law_many"]
theorem sc22 : FnScope names22 ps22 (defScope s22) := ⟨rfl, rfl, rfl, by decide +kernel, rfl, by decide +kernel, by decide +kernel⟩
abbrev s24 : Stmt := top 24
abbrev names24 : List Str := ["_law_machine_here", "_law_letters", "_law_accepting", "_law_table", "_law_row", "_law_state"]
abbrev ps24 : List Str := ["_law_machine_here"]
theorem sc24 : FnScope names24 ps24 (defScope s24) := ⟨rfl, rfl, rfl, by decide +kernel, rfl, by decide +kernel, by decide +kernel⟩
abbrev s7 : Stmt := top 7
abbrev names7 : List Str := ["machine", "letters", "accepting", "table", "row", "state"]
abbrev ps7 : List Str := ["machine"]
theorem sc7 : FnScope names7 ps7 (defScope s7) := ⟨rfl, rfl, rfl, by decide +kernel, rfl, by decide +kernel, by decide +kernel⟩
abbrev s8 : Stmt := top 8
abbrev names8 : List Str := ["machine"]
abbrev ps8 : List Str := ["machine"]
theorem sc8 : FnScope names8 ps8 (defScope s8) := ⟨rfl, rfl, rfl, by decide +kernel, rfl, by decide +kernel, by decide +kernel⟩
abbrev s10 : Stmt := top 10
abbrev names10 : List Str := ["machine"]
abbrev ps10 : List Str := ["machine"]
theorem sc10 : FnScope names10 ps10 (defScope s10) := ⟨rfl, rfl, rfl, by decide +kernel, rfl, by decide +kernel, by decide +kernel⟩
abbrev s11_0 : Stmt := inClass (top 11) 0
abbrev names11_0 : List Str := ["self", "machine"]
abbrev ps11_0 : List Str := ["self", "machine"]
theorem sc11_0 : FnScope names11_0 ps11_0 (defScope s11_0) := ⟨rfl, rfl, rfl, by decide +kernel, rfl, by decide +kernel, by decide +kernel⟩
abbrev s26 : Stmt := top 26
abbrev names26 : List Str := ["_law_machine_here", "_law_which"]
abbrev ps26 : List Str := ["_law_machine_here", "_law_which"]
theorem sc26 : FnScope names26 ps26 (defScope s26) := ⟨rfl, rfl, rfl, by decide +kernel, rfl, by decide +kernel, by decide +kernel⟩
abbrev s20 : Stmt := top 20
abbrev names20 : List Str := ["_law_machine_here"]
abbrev ps20 : List Str := ["_law_machine_here"]
theorem sc20 : FnScope names20 ps20 (defScope s20) := ⟨rfl, rfl, rfl, by decide +kernel, rfl, by decide +kernel, by decide +kernel⟩
abbrev s19 : Stmt := top 19
abbrev names19 : List Str := ["_law_machine_here", "_law_state", "_law_letter"]
abbrev ps19 : List Str := ["_law_machine_here", "_law_state", "_law_letter"]
theorem sc19 : FnScope names19 ps19 (defScope s19) := ⟨rfl, rfl, rfl, by decide +kernel, rfl, by decide +kernel, by decide +kernel⟩
abbrev s21 : Stmt := top 21
abbrev names21 : List Str := ["_law_machine_here", "_law_word_here", "_law_state", "_law_letter"]
abbrev ps21 : List Str := ["_law_machine_here", "_law_word_here"]
theorem sc21 : FnScope names21 ps21 (defScope s21) := ⟨rfl, rfl, rfl, by decide +kernel, rfl, by decide +kernel, by decide +kernel⟩
abbrev s9 : Stmt := top 9
abbrev names9 : List Str := ["machine", "state", "letter"]
abbrev ps9 : List Str := ["machine", "state", "letter"]
theorem sc9 : FnScope names9 ps9 (defScope s9) := ⟨rfl, rfl, rfl, by decide +kernel, rfl, by decide +kernel, by decide +kernel⟩
abbrev s11_2 : Stmt := inClass (top 11) 2
abbrev names11_2 : List Str := ["self", "letter"]
abbrev ps11_2 : List Str := ["self", "letter"]
theorem sc11_2 : FnScope names11_2 ps11_2 (defScope s11_2) := ⟨rfl, rfl, rfl, by decide +kernel, rfl, by decide +kernel, by decide +kernel⟩
abbrev s11_1 : Stmt := inClass (top 11) 1
abbrev names11_1 : List Str := ["self"]
abbrev ps11_1 : List Str := ["self"]
theorem sc11_1 : FnScope names11_1 ps11_1 (defScope s11_1) := ⟨rfl, rfl, rfl, by decide +kernel, rfl, by decide +kernel, by decide +kernel⟩
abbrev s12 : Stmt := top 12
abbrev names12 : List Str := ["machine", "word", "letter", "walker"]
abbrev ps12 : List Str := ["machine", "word"]
theorem sc12 : FnScope names12 ps12 (defScope s12) := ⟨rfl, rfl, rfl, by decide +kernel, rfl, by decide +kernel, by decide +kernel⟩
abbrev s25 : Stmt := top 25
abbrev names25 : List Str := ["_law_machine_here", "_law_word_here", "e"]
abbrev ps25 : List Str := ["_law_machine_here", "_law_word_here"]
theorem sc25 : FnScope names25 ps25 (defScope s25) := ⟨rfl, rfl, rfl, by decide +kernel, rfl, by decide +kernel, by decide +kernel⟩
abbrev s27 : Stmt := top 27
abbrev names27 : List Str := ["_law_walker", "_law_letter", "_law_before", "e"]
abbrev ps27 : List Str := ["_law_walker", "_law_letter"]
theorem sc27 : FnScope names27 ps27 (defScope s27) := ⟨rfl, rfl, rfl, by decide +kernel, rfl, by decide +kernel, by decide +kernel⟩
abbrev s28 : Stmt := top 28
abbrev names28 : List Str := ["_law_machine_here", "_law_word_here", "_law_draws_here", "_law_one", "_law_other", "_law_state", "_law_k"]
abbrev ps28 : List Str := ["_law_machine_here", "_law_word_here", "_law_draws_here"]
theorem sc28 : FnScope names28 ps28 (defScope s28) := ⟨rfl, rfl, rfl, by decide +kernel, rfl, by decide +kernel, by decide +kernel⟩
abbrev s29 : Stmt := top 29
abbrev names29 : List Str := ["_law_script", "_law_draws_here", "_law_machine_here", "_law_word_here", "_law_given", "_law_good", "_law_due", "_law_told_here", "_law_letter"]
abbrev ps29 : List Str := ["_law_script"]
theorem sc29 : FnScope names29 ps29 (defScope s29) := ⟨rfl, rfl, rfl, by decide +kernel, rfl, by decide +kernel, by decide +kernel⟩
structure Txt (K : PySem.W.Frag) (mg : Str → Option Value) (f14 f15 f16 f17 f18 f23 f22 f24 f7 f8 f10 f11_0 f26 f20 f19 f21 f9 f11_2 f11_1 f12 f25 f27 f28 f29 Q0 p11_1 : Addr) (d14 d15 d16 d17 d18 d23 d22 d24 d7 d8 d10 d11_0 d26 d20 d19 d21 d9 d11_2 d11_1 d12 d25 d27 d28 d29 : FuncData) (C0 C9 C10 : Addr) : Prop where
  g14 : mg "_law_number" = some (.ref f14)
  F14 : Fun K "_law_number" "_law_number" s14 f14 d14
  b14 : Binds K d14 ps14 []
  g15 : mg "_law_draws" = some (.ref f15)
  F15 : Fun K "_law_draws" "_law_draws" s15 f15 d15
  b15 : Binds K d15 ps15 []
  g16 : mg "_law_draw" = some (.ref f16)
  F16 : Fun K "_law_draw" "_law_draw" s16 f16 d16
  b16 : Binds K d16 ps16 []
  g17 : mg "_law_pick" = some (.ref f17)
  F17 : Fun K "_law_pick" "_law_pick" s17 f17 d17
  b17 : Binds K d17 ps17 []
  g18 : mg "_law_machine" = some (.ref f18)
  F18 : Fun K "_law_machine" "_law_machine" s18 f18 d18
  b18 : Binds K d18 ps18 []
  g23 : mg "_law_spoilt" = some (.ref f23)
  F23 : Fun K "_law_spoilt" "_law_spoilt" s23 f23 d23
  b23 : Binds K d23 ps23 []
  g22 : mg "_law_word" = some (.ref f22)
  F22 : Fun K "_law_word" "_law_word" s22 f22 d22
  b22 : Binds K d22 ps22 []
  g24 : mg "_law_is" = some (.ref f24)
  F24 : Fun K "_law_is" "_law_is" s24 f24 d24
  b24 : Binds K d24 ps24 []
  g7 : mg "is_machine" = some (.ref f7)
  F7 : Fun K "is_machine" "is_machine" s7 f7 d7
  b7 : Binds K d7 ps7 []
  g8 : mg "check_machine" = some (.ref f8)
  F8 : Fun K "check_machine" "check_machine" s8 f8 d8
  b8 : Binds K d8 ps8 []
  g10 : mg "begin" = some (.ref f10)
  F10 : Fun K "begin" "begin" s10 f10 d10
  b10 : Binds K d10 ps10 []
  me11_0 : Mk K Q0 f11_0
  F11_0 : Fun K "__init__" "Walker.__init__" s11_0 f11_0 d11_0
  b11_0 : Binds K d11_0 ps11_0 []
  g26 : mg "_law_checked" = some (.ref f26)
  F26 : Fun K "_law_checked" "_law_checked" s26 f26 d26
  b26 : Binds K d26 ps26 []
  g20 : mg "_law_start" = some (.ref f20)
  F20 : Fun K "_law_start" "_law_start" s20 f20 d20
  b20 : Binds K d20 ps20 []
  g19 : mg "_law_step" = some (.ref f19)
  F19 : Fun K "_law_step" "_law_step" s19 f19 d19
  b19 : Binds K d19 ps19 []
  g21 : mg "_law_takes" = some (.ref f21)
  F21 : Fun K "_law_takes" "_law_takes" s21 f21 d21
  b21 : Binds K d21 ps21 []
  g9 : mg "step" = some (.ref f9)
  F9 : Fun K "step" "step" s9 f9 d9
  b9 : Binds K d9 ps9 []
  me11_2 : Meth K Q0 "read" f11_2
  F11_2 : Fun K "read" "Walker.read" s11_2 f11_2 d11_2
  b11_2 : Binds K d11_2 ps11_2 []
  me11_1 : PropOf K Q0 "is_accepted" p11_1 f11_1
  F11_1 : Fun K "is_accepted" "Walker.is_accepted" s11_1 f11_1 d11_1
  b11_1 : Binds K d11_1 ps11_1 []
  g12 : mg "accepts" = some (.ref f12)
  F12 : Fun K "accepts" "accepts" s12 f12 d12
  b12 : Binds K d12 ps12 []
  g25 : mg "_law_told" = some (.ref f25)
  F25 : Fun K "_law_told" "_law_told" s25 f25 d25
  b25 : Binds K d25 ps25 []
  g27 : mg "_law_refuses" = some (.ref f27)
  F27 : Fun K "_law_refuses" "_law_refuses" s27 f27 d27
  b27 : Binds K d27 ps27 []
  g28 : mg "_law_walks" = some (.ref f28)
  F28 : Fun K "_law_walks" "_law_walks" s28 f28 d28
  b28 : Binds K d28 ps28 []
  g29 : mg "law" = some (.ref f29)
  F29 : Fun K "law" "law" s29 f29 d29
  b29 : Binds K d29 ps29 []
  cl0 : ClsIs K Q0 0
  gc0 : mg "Walker" = some (.ref Q0)
  c_MOST_LETTERS : ∃ t, mg "MOST_LETTERS" = some (.int 6 t)
  c_MOST_STATES : ∃ t, mg "MOST_STATES" = some (.int 2000 t)
  z_ValueError : mg "ValueError" = none
  z_bool : mg "bool" = none
  z_int : mg "int" = none
  z_isinstance : mg "isinstance" = none
  z_len : mg "len" = none
  z_list : mg "list" = none
  z_range : mg "range" = none
  z_tuple : mg "tuple" = none
  x_0 : PySem.W.excIn K C0 [.type "ValueError", .type "Exception", .type "BaseException", .type "object"] "ValueError.__new__" = true
  g_0 : mg "YardsortError" = some (.ref C0)
  k_0 : PySem.W.keepIn K (.ref C0) = true
  b_0 : PySem.W.subIn K (.ref C0) (.type "BaseException") = some true
  t_0 : PySem.W.typeIn K (.ref C0) = some (.type "type")
  x_9 : PySem.W.excIn K C9 [.type "ValueError", .type "Exception", .type "BaseException", .type "object"] "ValueError.__new__" = true
  g_9 : mg "NotMachine" = some (.ref C9)
  k_9 : PySem.W.keepIn K (.ref C9) = true
  b_9 : PySem.W.subIn K (.ref C9) (.type "BaseException") = some true
  t_9 : PySem.W.typeIn K (.ref C9) = some (.type "type")
  x_10 : PySem.W.excIn K C10 [.type "ValueError", .type "Exception", .type "BaseException", .type "object"] "ValueError.__new__" = true
  g_10 : mg "NotWord" = some (.ref C10)
  k_10 : PySem.W.keepIn K (.ref C10) = true
  b_10 : PySem.W.subIn K (.ref C10) (.type "BaseException") = some true
  t_10 : PySem.W.typeIn K (.ref C10) = some (.type "type")
  s_0 : ∀ m, okc m = true → PySem.W.exmOne K (.ref (cmOf C0 C9 C10 m)) (.ref C0) = some (subErr 0 m)
  s_9 : ∀ m, okc m = true → PySem.W.exmOne K (.ref (cmOf C0 C9 C10 m)) (.ref C9) = some (subErr 9 m)
  s_10 : ∀ m, okc m = true → PySem.W.exmOne K (.ref (cmOf C0 C9 C10 m)) (.ref C10) = some (subErr 10 m)
  e_c : ∀ m, okc m = true → ExcC K (cmOf C0 C9 C10 m)
  kx_NotMachine : ∀ m, okc m = true → PySem.W.kitOne K (.ref (cmOf C0 C9 C10 m)) (.ref C9) = some (subErr 9 m)
  kx_NotWord : ∀ m, okc m = true → PySem.W.kitOne K (.ref (cmOf C0 C9 C10 m)) (.ref C10) = some (subErr 10 m)
  kx_ValueError : ∀ m, okc m = true → PySem.W.kitOne K (.ref (cmOf C0 C9 C10 m)) (.type "ValueError") = some (subErr 0 m)
  kt_bool : ∀ t, PySem.W.kitOne K (tyV' t) (.type "bool") = some (subT t .bl)
section
variable {P : Program} {w : World} {base : Heap} {K : PySem.W.Frag} {mg : Str → Option Value} {f14 f15 f16 f17 f18 f23 f22 f24 f7 f8 f10 f11_0 f26 f20 f19 f21 f9 f11_2 f11_1 f12 f25 f27 f28 f29 Q0 p11_1 : Addr} {d14 d15 d16 d17 d18 d23 d22 d24 d7 d8 d10 d11_0 d26 d20 d19 d21 d9 d11_2 d11_1 d12 d25 d27 d28 d29 : FuncData} {C0 C9 C10 : Addr}
theorem ok14 (T : Txt K mg f14 f15 f16 f17 f18 f23 f22 f24 f7 f8 f10 f11_0 f26 f20 f19 f21 f9 f11_2 f11_1 f12 f25 f27 f28 f29 Q0 p11_1 d14 d15 d16 d17 d18 d23 d22 d24 d7 d8 d10 d11_0 d26 d20 d19 d21 d9 d11_2 d11_1 d12 d25 d27 d28 d29 C0 C9 C10) : FnOk P w K mg base (L2.CX P w) 2 f14 d14 ps14 (SpJ K (clOf C0 C9 C10) [false] S_law_number_70b1) :=
  fnJ (k := 1) [] T.F14 sc14 rfl (by decide) W_law_number_70b1 fun cdv A outer s H E B hr =>
  (jss_cons (js_if (jt_cmp (jo_ltA hr) (j_v 0) j_int) (jss_one (js_ret (j_op jo_sub j_int (j_v 0)))) jss_nil)
    (jss_one (js_ret (j_v 0))))
theorem ok15 (T : Txt K mg f14 f15 f16 f17 f18 f23 f22 f24 f7 f8 f10 f11_0 f26 f20 f19 f21 f9 f11_2 f11_1 f12 f25 f27 f28 f29 Q0 p11_1 d14 d15 d16 d17 d18 d23 d22 d24 d7 d8 d10 d11_0 d26 d20 d19 d21 d9 d11_2 d11_1 d12 d25 d27 d28 d29 C0 C9 C10) (G14 : FnOk P w K mg base (L2.CX P w) 2 f14 d14 ps14 (SpJ K (clOf C0 C9 C10) [false] S_law_number_70b1)) : FnOk P w K mg base (L2.CX P w) 3 f15 d15 ps15 (SpJ K (clOf C0 C9 C10) [false] S_law_draws_f01f) :=
  fnJ (k := 2) [] T.F15 sc15 rfl (by decide) W_law_draws_f01f fun cdv A outer s H E B hr =>
  (jss_cons (js_set (i := 1) (of_decide_eq_true rfl) (of_decide_eq_true rfl) sc15.nd rfl (by first | exact Or.inl rfl | exact Or.inr rfl) (j_lst ja_nil))
    (jss_cons (js_set (i := 2) (of_decide_eq_true rfl) (of_decide_eq_true rfl) sc15.nd rfl (by first | exact Or.inl rfl | exact Or.inr rfl) j_int)
    (jss_cons (js_for (passes_of rfl) rfl (ji_seq (ks := [0]) (j_a 0 (of_decide_eq_true rfl))) (jg_name (i := 3) (of_decide_eq_true rfl) (of_decide_eq_true rfl) sc15.nd rfl (by first | exact Or.inl rfl | exact Or.inr rfl))
    (jss_cons (js_set (i := 4) (of_decide_eq_true rfl) (of_decide_eq_true rfl) sc15.nd rfl (by first | exact Or.inl rfl | exact Or.inr rfl) (j_f (j_call G14 (hr.mono (by omega)) rfl T.g14 T.F14.kp T.b14 (takes_of rfl rfl rfl rfl) (ja_cons (j_v 3) ja_nil))))
    (jss_cons (js_set (i := 2) (of_decide_eq_true rfl) (of_decide_eq_true rfl) sc15.nd rfl (by first | exact Or.inl rfl | exact Or.inr rfl) (j_op jo_mod (j_ct jc_int rfl T.z_int (by decide +kernel) (ja_cons (j_op jo_add (j_op jo_mul (j_v 2) j_int) (j_v 4)) ja_nil)) j_int))
    (jss_one (js_if (jt_cmp jo_ge (j_v 4) j_int) (jss_one (js_for (passes_of rfl) rfl (ji_rg1 rfl T.z_range j_int) (jg_name (i := 5) (of_decide_eq_true rfl) (of_decide_eq_true rfl) sc15.nd rfl (by first | exact Or.inl rfl | exact Or.inr rfl))
    (jss_cons (js_if (jt_cmp (jo_eq hr) (j_v 4) j_int) (jss_one js_break) jss_nil)
    (jss_cons (js_expr (j_app 1 (j_op jo_mod (j_ct jc_int rfl T.z_int (by decide +kernel) (ja_cons (j_v 4) ja_nil)) j_int)))
    (jss_one (js_set (i := 4) (of_decide_eq_true rfl) (of_decide_eq_true rfl) sc15.nd rfl (by first | exact Or.inl rfl | exact Or.inr rfl) (j_op jo_div (j_v 4) j_int))))))) (jss_cons (js_set (i := 6) (of_decide_eq_true rfl) (of_decide_eq_true rfl) sc15.nd rfl (by first | exact Or.inl rfl | exact Or.inr rfl) (j_op jo_mod (j_ct jc_int rfl T.z_int (by decide +kernel) (ja_cons (j_op jo_add (j_op jo_mul (j_v 4) j_int) j_int) ja_nil)) j_int))
    (jss_cons (js_set (i := 7) (of_decide_eq_true rfl) (of_decide_eq_true rfl) sc15.nd rfl (by first | exact Or.inl rfl | exact Or.inr rfl) (j_op jo_mod (j_ct jc_int rfl T.z_int (by decide +kernel) (ja_cons (j_op jo_add (j_op jo_mul (j_v 6) j_int) (j_v 4)) ja_nil)) j_int))
    (jss_one (js_expr (j_ext 1 (j_lst (ja_cons (j_op jo_mod (j_ct jc_int rfl T.z_int (by decide +kernel) (ja_cons (j_v 4) ja_nil)) j_int) (ja_cons (j_op jo_mod (j_ct jc_int rfl T.z_int (by decide +kernel) (ja_cons (j_v 6) ja_nil)) j_int) (ja_cons (j_op jo_mod (j_ct jc_int rfl T.z_int (by decide +kernel) (ja_cons (j_v 7) ja_nil)) j_int) ja_nil))))))))))))))
    (jss_cons (js_for (passes_of rfl) rfl (ji_rg1 rfl T.z_range j_int) (jg_name (i := 5) (of_decide_eq_true rfl) (of_decide_eq_true rfl) sc15.nd rfl (by first | exact Or.inl rfl | exact Or.inr rfl))
    (jss_cons (js_set (i := 2) (of_decide_eq_true rfl) (of_decide_eq_true rfl) sc15.nd rfl (by first | exact Or.inl rfl | exact Or.inr rfl) (j_op jo_mod (j_ct jc_int rfl T.z_int (by decide +kernel) (ja_cons (j_op jo_add (j_op jo_mul (j_v 2) j_int) j_int) ja_nil)) j_int))
    (jss_one (js_expr (j_app 1 (j_op jo_mod (j_ct jc_int rfl T.z_int (by decide +kernel) (ja_cons (j_op jo_div (j_v 2) j_int) ja_nil)) j_int))))))
    (jss_cons (js_expr (j_reverse 1))
    (jss_one (js_ret (j_g 1))))))))
theorem ok16 (T : Txt K mg f14 f15 f16 f17 f18 f23 f22 f24 f7 f8 f10 f11_0 f26 f20 f19 f21 f9 f11_2 f11_1 f12 f25 f27 f28 f29 Q0 p11_1 d14 d15 d16 d17 d18 d23 d22 d24 d7 d8 d10 d11_0 d26 d20 d19 d21 d9 d11_2 d11_1 d12 d25 d27 d28 d29 C0 C9 C10) : FnOk P w K mg base (L2.CX P w) 2 f16 d16 ps16 (SpM K [] S_law_draw_2841) :=
  fnJM (c := (clOf C0 C9 C10)) (k := 1) [] T.F16 sc16 rfl (by decide) (by decide) W_law_draw_2841 fun cdv A outer s H E B p hr =>
  (jss_cons (js_if (jt_tr (j_a 0 (of_decide_eq_true rfl))) (jss_one (js_ret (j_pop 0))) jss_nil)
    (jss_one (js_ret j_int)))
theorem ok17 (T : Txt K mg f14 f15 f16 f17 f18 f23 f22 f24 f7 f8 f10 f11_0 f26 f20 f19 f21 f9 f11_2 f11_1 f12 f25 f27 f28 f29 Q0 p11_1 d14 d15 d16 d17 d18 d23 d22 d24 d7 d8 d10 d11_0 d26 d20 d19 d21 d9 d11_2 d11_1 d12 d25 d27 d28 d29 C0 C9 C10) (G16 : FnOk P w K mg base (L2.CX P w) 2 f16 d16 ps16 (SpM K [] S_law_draw_2841)) : FnOk P w K mg base (L2.CX P w) 3 f17 d17 ps17 (SpM K [false] S_law_pick_b28a) :=
  fnJM (c := (clOf C0 C9 C10)) (k := 2) [] T.F17 sc17 rfl (by decide) (by decide) W_law_pick_b28a fun cdv A outer s H E B p hr =>
  (jss_one (js_ret (j_op jo_mod (j_ct jc_int rfl T.z_int (by decide +kernel) (ja_cons (j_callM 0 G16 (hr.mono (by omega)) rfl T.g16 T.F16.kp T.b16 (takes_of rfl rfl rfl rfl) (of_decide_eq_true rfl) ja_nil) ja_nil)) (j_v 1))))
theorem ok18 (T : Txt K mg f14 f15 f16 f17 f18 f23 f22 f24 f7 f8 f10 f11_0 f26 f20 f19 f21 f9 f11_2 f11_1 f12 f25 f27 f28 f29 Q0 p11_1 d14 d15 d16 d17 d18 d23 d22 d24 d7 d8 d10 d11_0 d26 d20 d19 d21 d9 d11_2 d11_1 d12 d25 d27 d28 d29 C0 C9 C10) (G17 : FnOk P w K mg base (L2.CX P w) 3 f17 d17 ps17 (SpM K [false] S_law_pick_b28a)) : FnOk P w K mg base (L2.CX P w) 4 f18 d18 ps18 (SpM K [false, false] S_law_machine_0257) :=
  fnJM (c := (clOf C0 C9 C10)) (k := 3) [] T.F18 sc18 rfl (by decide) (by decide) W_law_machine_0257 fun cdv A outer s H E B p hr =>
  (jss_cons (js_set (i := 3) (of_decide_eq_true rfl) (of_decide_eq_true rfl) sc18.nd rfl (by first | exact Or.inl rfl | exact Or.inr rfl) (j_f (j_callM 0 G17 (hr.mono (by omega)) rfl T.g17 T.F17.kp T.b17 (takes_of rfl rfl rfl rfl) (of_decide_eq_true rfl) (ja_cons (j_op jo_add (j_v 2) j_int) ja_nil))))
    (jss_cons (js_set (i := 4) (of_decide_eq_true rfl) (of_decide_eq_true rfl) sc18.nd rfl (by first | exact Or.inl rfl | exact Or.inr rfl) (j_lst ja_nil))
    (jss_cons (js_set (i := 5) (of_decide_eq_true rfl) (of_decide_eq_true rfl) sc18.nd rfl (by first | exact Or.inl rfl | exact Or.inr rfl) (j_lst ja_nil))
    (jss_cons (js_for (passes_of rfl) rfl (ji_rg1 rfl T.z_range (j_v 3)) (jg_name (i := 6) (of_decide_eq_true rfl) (of_decide_eq_true rfl) sc18.nd rfl (by first | exact Or.inl rfl | exact Or.inr rfl))
    (jss_cons (js_expr (j_app 4 (j_cmp (jo_eq hr) (j_callM 0 G17 (hr.mono (by omega)) rfl T.g17 T.F17.kp T.b17 (takes_of rfl rfl rfl rfl) (of_decide_eq_true rfl) (ja_cons j_int ja_nil)) j_int)))
    (jss_cons (js_set (i := 7) (of_decide_eq_true rfl) (of_decide_eq_true rfl) sc18.nd rfl (by first | exact Or.inl rfl | exact Or.inr rfl) (j_lst ja_nil))
    (jss_cons (js_for (passes_of rfl) rfl (ji_rg1 rfl T.z_range (j_v 1)) (jg_name (i := 8) (of_decide_eq_true rfl) (of_decide_eq_true rfl) sc18.nd rfl (by first | exact Or.inl rfl | exact Or.inr rfl))
    (jss_cons (js_set (i := 9) (of_decide_eq_true rfl) (of_decide_eq_true rfl) sc18.nd rfl (by first | exact Or.inl rfl | exact Or.inr rfl) (j_f (j_callM 0 G17 (hr.mono (by omega)) rfl T.g17 T.F17.kp T.b17 (takes_of rfl rfl rfl rfl) (of_decide_eq_true rfl) (ja_cons (j_v 3) ja_nil))))
    (jss_cons (js_if (jt_cmp (jo_eq hr) (j_callM 0 G17 (hr.mono (by omega)) rfl T.g17 T.F17.kp T.b17 (takes_of rfl rfl rfl rfl) (of_decide_eq_true rfl) (ja_cons j_int ja_nil)) j_int) (jss_one (js_set (i := 9) (of_decide_eq_true rfl) (of_decide_eq_true rfl) sc18.nd rfl (by first | exact Or.inl rfl | exact Or.inr rfl) (j_un ju_neg j_int))) jss_nil)
    (jss_one (js_expr (j_app 7 (j_v 9)))))))
    (jss_one (js_expr (j_app 5 (j_ct jc_tup rfl T.z_tuple (by decide +kernel) (ja_cons (j_a 7 (of_decide_eq_true rfl)) ja_nil)))))))))
    (jss_one (js_ret (j_tup (ja_cons (j_v 1) (ja_cons (j_ct jc_tup rfl T.z_tuple (by decide +kernel) (ja_cons (j_a 4 (of_decide_eq_true rfl)) ja_nil)) (ja_cons (j_ct jc_tup rfl T.z_tuple (by decide +kernel) (ja_cons (j_a 5 (of_decide_eq_true rfl)) ja_nil)) ja_nil))))))))))
theorem ok23 (T : Txt K mg f14 f15 f16 f17 f18 f23 f22 f24 f7 f8 f10 f11_0 f26 f20 f19 f21 f9 f11_2 f11_1 f12 f25 f27 f28 f29 Q0 p11_1 d14 d15 d16 d17 d18 d23 d22 d24 d7 d8 d10 d11_0 d26 d20 d19 d21 d9 d11_2 d11_1 d12 d25 d27 d28 d29 C0 C9 C10) (G17 : FnOk P w K mg base (L2.CX P w) 3 f17 d17 ps17 (SpM K [false] S_law_pick_b28a)) : FnOk P w K mg base (L2.CX P w) 4 f23 d23 ps23 (SpM K [false] S_law_spoilt_a888) :=
  fnJM (c := (clOf C0 C9 C10)) (k := 3) [] T.F23 sc23 rfl (by decide) (by decide) W_law_spoilt_a888 fun cdv A outer s H E B p hr =>
  (jss_cons (js_asgG (P := (· ∈ [0])) (fun _ h => h) (j_v 1) (jg_tup rfl (jgs_name (i := 2) (of_decide_eq_true rfl) (of_decide_eq_true rfl) sc23.nd rfl (by first | exact Or.inl rfl | exact Or.inr rfl) (jgs_name (i := 3) (of_decide_eq_true rfl) (of_decide_eq_true rfl) sc23.nd rfl (by first | exact Or.inl rfl | exact Or.inr rfl) (jgs_name (i := 4) (of_decide_eq_true rfl) (of_decide_eq_true rfl) sc23.nd rfl (by first | exact Or.inl rfl | exact Or.inr rfl) jgs_nil)))))
    (jss_cons (js_set (i := 5) (of_decide_eq_true rfl) (of_decide_eq_true rfl) sc23.nd rfl (by first | exact Or.inl rfl | exact Or.inr rfl) (j_f (j_callM 0 G17 (hr.mono (by omega)) rfl T.g17 T.F17.kp T.b17 (takes_of rfl rfl rfl rfl) (of_decide_eq_true rfl) (ja_cons j_int ja_nil))))
    (jss_cons (js_if (jt_cmp (jo_eq hr) (j_v 5) j_int) (jss_one (js_ret (j_tup (ja_cons (j_ix (j_lst (ja_cons j_int (ja_cons j_int (ja_cons (j_op jo_add (j_v 2) j_int) (ja_cons (j_un ju_neg j_int) ja_nil))))) (j_callM 0 G17 (hr.mono (by omega)) rfl T.g17 T.F17.kp T.b17 (takes_of rfl rfl rfl rfl) (of_decide_eq_true rfl) (ja_cons j_int ja_nil))) (ja_cons (j_v 3) (ja_cons (j_v 4) ja_nil)))))) jss_nil)
    (jss_cons (js_if (jt_cmp (jo_eq hr) (j_v 5) j_int) (jss_one (js_ret (j_tup (ja_cons (j_v 2) (ja_cons (j_op jo_add (j_v 3) (j_tup (ja_cons j_bl ja_nil))) (ja_cons (j_v 4) ja_nil)))))) jss_nil)
    (jss_cons (js_if (jw_pt (jw_and (jt_cmp (jo_ltA hr) (j_v 5) j_int) (jw_and1 (jt_tr (j_v 4))))) (jss_cons (js_set (i := 6) (of_decide_eq_true rfl) (of_decide_eq_true rfl) sc23.nd rfl (by first | exact Or.inl rfl | exact Or.inr rfl) (j_f (j_callM 0 G17 (hr.mono (by omega)) rfl T.g17 T.F17.kp T.b17 (takes_of rfl rfl rfl rfl) (of_decide_eq_true rfl) (ja_cons (j_cb jc_len rfl T.z_len PySem.boot_len (ja_cons (j_v 4) ja_nil)) ja_nil))))
    (jss_cons (js_set (i := 7) (of_decide_eq_true rfl) (of_decide_eq_true rfl) sc23.nd rfl (by first | exact Or.inl rfl | exact Or.inr rfl) (j_ix (j_v 4) (j_v 6)))
    (jss_cons (js_if (jt_cmp (jo_eq hr) (j_v 5) j_int) (jss_one (js_set (i := 7) (of_decide_eq_true rfl) (of_decide_eq_true rfl) sc23.nd rfl (by first | exact Or.inl rfl | exact Or.inr rfl) (j_op jo_add (j_v 7) (j_tup (ja_cons (j_un ju_neg j_int) ja_nil))))) (jss_one (js_if (jt_cmp (jo_eq hr) (j_v 5) j_int) (jss_one (js_set (i := 7) (of_decide_eq_true rfl) (of_decide_eq_true rfl) sc23.nd rfl (by first | exact Or.inl rfl | exact Or.inr rfl) (j_f (j_sl (j_v 7) (jp_pt j_int) jp_no)))) (jss_cons (js_set (i := 8) (of_decide_eq_true rfl) (of_decide_eq_true rfl) sc23.nd rfl (by first | exact Or.inl rfl | exact Or.inr rfl) (j_f (j_callM 0 G17 (hr.mono (by omega)) rfl T.g17 T.F17.kp T.b17 (takes_of rfl rfl rfl rfl) (of_decide_eq_true rfl) (ja_cons (j_v 2) ja_nil))))
    (jss_one (js_set (i := 7) (of_decide_eq_true rfl) (of_decide_eq_true rfl) sc23.nd rfl (by first | exact Or.inl rfl | exact Or.inr rfl) (j_f (j_op jo_add (j_op jo_add (j_sl (j_v 7) jp_no (jp_pt (j_v 8))) (j_tup (ja_cons (j_ix (j_lst (ja_cons (j_un ju_neg j_int) (ja_cons (j_cb jc_len rfl T.z_len PySem.boot_len (ja_cons (j_v 4) ja_nil)) (ja_cons (j_op jo_sub (j_cb jc_len rfl T.z_len PySem.boot_len (ja_cons (j_v 4) ja_nil)) j_int) (ja_cons j_int ja_nil))))) (j_callM 0 G17 (hr.mono (by omega)) rfl T.g17 T.F17.kp T.b17 (takes_of rfl rfl rfl rfl) (of_decide_eq_true rfl) (ja_cons j_int ja_nil))) ja_nil))) (j_sl (j_v 7) (jp_pt (j_op jo_add (j_v 8) j_int)) jp_no)))))))))
    (jss_one (js_ret (j_tup (ja_cons (j_v 2) (ja_cons (j_v 3) (ja_cons (j_f (j_op jo_add (j_op jo_add (j_sl (j_v 4) jp_no (jp_pt (j_v 6))) (j_tup (ja_cons (j_v 7) ja_nil))) (j_sl (j_v 4) (jp_pt (j_op jo_add (j_v 6) j_int)) jp_no))) ja_nil))))))))) jss_nil)
    (jss_one (js_ret (j_v 1))))))))
theorem ok22 (T : Txt K mg f14 f15 f16 f17 f18 f23 f22 f24 f7 f8 f10 f11_0 f26 f20 f19 f21 f9 f11_2 f11_1 f12 f25 f27 f28 f29 Q0 p11_1 d14 d15 d16 d17 d18 d23 d22 d24 d7 d8 d10 d11_0 d26 d20 d19 d21 d9 d11_2 d11_1 d12 d25 d27 d28 d29 C0 C9 C10) (G17 : FnOk P w K mg base (L2.CX P w) 3 f17 d17 ps17 (SpM K [false] S_law_pick_b28a)) : FnOk P w K mg base (L2.CX P w) 4 f22 d22 ps22 (SpM K [false, false] S_law_word_5151) :=
  fnJM (c := (clOf C0 C9 C10)) (k := 3) [3] T.F22 sc22 rfl (by decide) (by decide) W_law_word_5151 fun cdv A outer s H E B p hr =>
  (jss_one (js_ret (j_lcs rfl sc22.nd (ji_rg1 rfl T.z_range (j_callM 0 G17 (hr.mono (by omega)) rfl T.g17 T.F17.kp T.b17 (takes_of rfl rfl rfl rfl) (of_decide_eq_true rfl) (ja_cons (j_op jo_add (j_v 2) j_int) ja_nil))) (blkOk_by (own := [("_law_k", 3)]) (N := names22) (sc := defScope s22) (by decide +kernel)) rfl (of_decide_eq_true rfl) (of_decide_eq_true rfl) (fun _ _ _ _ _ => (jg_name (i := 3) (of_decide_eq_true rfl) (of_decide_eq_true rfl) sc22.nd rfl (by first | exact Or.inl rfl | exact Or.inr rfl))) (fun _ _ _ _ _ => jts_nil) (fun _ _ _ _ _ => (j_f (j_op jo_add j_int (j_callM 0 G17 (hr.mono (by omega)) rfl T.g17 T.F17.kp T.b17 takes0 (of_decide_eq_true rfl) (ja_cons (j_v 1) ja_nil))))))))
theorem ok24 (T : Txt K mg f14 f15 f16 f17 f18 f23 f22 f24 f7 f8 f10 f11_0 f26 f20 f19 f21 f9 f11_2 f11_1 f12 f25 f27 f28 f29 Q0 p11_1 d14 d15 d16 d17 d18 d23 d22 d24 d7 d8 d10 d11_0 d26 d20 d19 d21 d9 d11_2 d11_1 d12 d25 d27 d28 d29 C0 C9 C10) : FnOk P w K mg base (L2.CX P w) 2 f24 d24 ps24 (SpJ K (clOf C0 C9 C10) [false] S_law_is_43e8) :=
  fnJ (k := 1) [] T.F24 sc24 rfl (by decide) W_law_is_43e8 fun cdv A outer s H E B hr =>
  (jss_cons (js_asgG (P := (· ∈ [])) (fun _ h => h) (j_v 0) (jg_tup rfl (jgs_name (i := 1) (of_decide_eq_true rfl) (of_decide_eq_true rfl) sc24.nd rfl (by first | exact Or.inl rfl | exact Or.inr rfl) (jgs_name (i := 2) (of_decide_eq_true rfl) (of_decide_eq_true rfl) sc24.nd rfl (by first | exact Or.inl rfl | exact Or.inr rfl) (jgs_name (i := 3) (of_decide_eq_true rfl) (of_decide_eq_true rfl) sc24.nd rfl (by first | exact Or.inl rfl | exact Or.inr rfl) jgs_nil)))))
    (jss_cons (js_if (jw_pt (jw_or (jt_cmp (jo_ltA hr) (j_v 1) j_int) (jw_or (jt_cmp jo_gt (j_v 1) j_int) (jw_or1 (jt_cmp (jo_ne hr) (j_cb jc_len rfl T.z_len PySem.boot_len (ja_cons (j_v 2) ja_nil)) (j_cb jc_len rfl T.z_len PySem.boot_len (ja_cons (j_v 3) ja_nil))))))) (jss_one (js_ret j_bl)) jss_nil)
    (jss_cons (js_for (passes_of rfl) rfl (ji_seq (ks := []) (j_v 3)) (jg_name (i := 4) (of_decide_eq_true rfl) (of_decide_eq_true rfl) sc24.nd rfl (by first | exact Or.inl rfl | exact Or.inr rfl))
    (jss_cons (js_if (jt_cmp (jo_ne hr) (j_cb jc_len rfl T.z_len PySem.boot_len (ja_cons (j_v 4) ja_nil)) (j_v 1)) (jss_one (js_ret j_bl)) jss_nil)
    (jss_one (js_for (passes_of rfl) rfl (ji_seq (ks := []) (j_v 4)) (jg_name (i := 5) (of_decide_eq_true rfl) (of_decide_eq_true rfl) sc24.nd rfl (by first | exact Or.inl rfl | exact Or.inr rfl))
    (jss_one (js_if (jw_pt (jw_or (jt_cmp (jo_ltA hr) (j_v 5) (j_un ju_neg j_int)) (jw_or1 (jt_cmp jo_ge (j_v 5) (j_cb jc_len rfl T.z_len PySem.boot_len (ja_cons (j_v 3) ja_nil)))))) (jss_one (js_ret j_bl)) jss_nil))))))
    (jss_one (js_ret j_bl)))))
theorem ok7 (T : Txt K mg f14 f15 f16 f17 f18 f23 f22 f24 f7 f8 f10 f11_0 f26 f20 f19 f21 f9 f11_2 f11_1 f12 f25 f27 f28 f29 Q0 p11_1 d14 d15 d16 d17 d18 d23 d22 d24 d7 d8 d10 d11_0 d26 d20 d19 d21 d9 d11_2 d11_1 d12 d25 d27 d28 d29 C0 C9 C10) : FnOk P w K mg base (L2.CX P w) 2 f7 d7 ps7 (SpJ K (clOf C0 C9 C10) [false] S_is_machine_5e1e) :=
  fnJ (k := 1) [] T.F7 sc7 rfl (by decide) W_is_machine_5e1e fun cdv A outer s H E B hr =>
  (jss_cons (js_asgG (P := (· ∈ [])) (fun _ h => h) (j_v 0) (jg_tup rfl (jgs_name (i := 1) (of_decide_eq_true rfl) (of_decide_eq_true rfl) sc7.nd rfl (by first | exact Or.inl rfl | exact Or.inr rfl) (jgs_name (i := 2) (of_decide_eq_true rfl) (of_decide_eq_true rfl) sc7.nd rfl (by first | exact Or.inl rfl | exact Or.inr rfl) (jgs_name (i := 3) (of_decide_eq_true rfl) (of_decide_eq_true rfl) sc7.nd rfl (by first | exact Or.inl rfl | exact Or.inr rfl) jgs_nil)))))
    (jss_cons (js_if (jw_pt (jw_or (jt_not (jt_chain jo_le jo_le j_int (j_v 1) (j_gint rfl T.c_MOST_LETTERS.choose_spec))) (jw_or (jt_cmp jo_gt (j_cb jc_len rfl T.z_len PySem.boot_len (ja_cons (j_v 2) ja_nil)) (j_gint rfl T.c_MOST_STATES.choose_spec)) (jw_or1 (jt_cmp (jo_ne hr) (j_cb jc_len rfl T.z_len PySem.boot_len (ja_cons (j_v 3) ja_nil)) (j_cb jc_len rfl T.z_len PySem.boot_len (ja_cons (j_v 2) ja_nil))))))) (jss_one (js_ret j_bl)) jss_nil)
    (jss_cons (js_for (passes_of rfl) rfl (ji_seq (ks := []) (j_v 3)) (jg_name (i := 4) (of_decide_eq_true rfl) (of_decide_eq_true rfl) sc7.nd rfl (by first | exact Or.inl rfl | exact Or.inr rfl))
    (jss_cons (js_if (jt_cmp (jo_ne hr) (j_cb jc_len rfl T.z_len PySem.boot_len (ja_cons (j_v 4) ja_nil)) (j_v 1)) (jss_one (js_ret j_bl)) jss_nil)
    (jss_one (js_for (passes_of rfl) rfl (ji_seq (ks := []) (j_v 4)) (jg_name (i := 5) (of_decide_eq_true rfl) (of_decide_eq_true rfl) sc7.nd rfl (by first | exact Or.inl rfl | exact Or.inr rfl))
    (jss_one (js_if (jt_not (jt_chain jo_le (jo_ltA hr) (j_un ju_neg j_int) (j_v 5) (j_cb jc_len rfl T.z_len PySem.boot_len (ja_cons (j_v 3) ja_nil)))) (jss_one (js_ret j_bl)) jss_nil))))))
    (jss_one (js_ret j_bl)))))
theorem ok8 (T : Txt K mg f14 f15 f16 f17 f18 f23 f22 f24 f7 f8 f10 f11_0 f26 f20 f19 f21 f9 f11_2 f11_1 f12 f25 f27 f28 f29 Q0 p11_1 d14 d15 d16 d17 d18 d23 d22 d24 d7 d8 d10 d11_0 d26 d20 d19 d21 d9 d11_2 d11_1 d12 d25 d27 d28 d29 C0 C9 C10) (G7 : FnOk P w K mg base (L2.CX P w) 2 f7 d7 ps7 (SpJ K (clOf C0 C9 C10) [false] S_is_machine_5e1e)) : FnOk P w K mg base (L2.CX P w) 3 f8 d8 ps8 (SpJ K (clOf C0 C9 C10) [false] S_check_machine_6f43) :=
  fnJ (k := 2) [] T.F8 sc8 rfl (by decide) W_check_machine_6f43 fun cdv A outer s H E B hr =>
  (jss_one (js_if (jt_not (jt_tr (j_call G7 (hr.mono (by omega)) rfl T.g7 T.F7.kp T.b7 (takes_of rfl rfl rfl rfl) (ja_cons (j_v 0) ja_nil)))) (jss_one (js_raise (n := 9) PySem.F.excBase_ValueError rfl rfl rfl (takes_of rfl rfl rfl rfl) T.x_9 T.g_9 T.k_9 (raises_own T.b_9 T.t_9) rfl)) jss_nil))
theorem ok10 (T : Txt K mg f14 f15 f16 f17 f18 f23 f22 f24 f7 f8 f10 f11_0 f26 f20 f19 f21 f9 f11_2 f11_1 f12 f25 f27 f28 f29 Q0 p11_1 d14 d15 d16 d17 d18 d23 d22 d24 d7 d8 d10 d11_0 d26 d20 d19 d21 d9 d11_2 d11_1 d12 d25 d27 d28 d29 C0 C9 C10) : FnOk P w K mg base (L2.CX P w) 2 f10 d10 ps10 (SpJ K (clOf C0 C9 C10) [false] S_begin_e699) :=
  fnJ (k := 1) [] T.F10 sc10 rfl (by decide) W_begin_e699 fun cdv A outer s H E B hr =>
  (jss_cons (js_if (jt_cmp (jo_eq hr) (j_cb jc_len rfl T.z_len PySem.boot_len (ja_cons (j_ix (j_v 0) j_int) ja_nil)) j_int) (jss_one (js_ret (j_un ju_neg j_int))) jss_nil)
    (jss_one (js_ret j_int)))
theorem ok11_0 (T : Txt K mg f14 f15 f16 f17 f18 f23 f22 f24 f7 f8 f10 f11_0 f26 f20 f19 f21 f9 f11_2 f11_1 f12 f25 f27 f28 f29 Q0 p11_1 d14 d15 d16 d17 d18 d23 d22 d24 d7 d8 d10 d11_0 d26 d20 d19 d21 d9 d11_2 d11_1 d12 d25 d27 d28 d29 C0 C9 C10) (G8 : FnOk P w K mg base (L2.CX P w) 3 f8 d8 ps8 (SpJ K (clOf C0 C9 C10) [false] S_check_machine_6f43)) (G10 : FnOk P w K mg base (L2.CX P w) 2 f10 d10 ps10 (SpJ K (clOf C0 C9 C10) [false] S_begin_e699)) : FnOk P w K mg base (L2.CX P w) 4 f11_0 d11_0 ps11_0 (SpO K (clOf C0 C9 C10) [false] S_Walker_init_4623) :=
  fnJO (c := (clOf C0 C9 C10)) (k := 3) [] T.F11_0 sc11_0 rfl (by decide) (by decide) W_Walker_init_4623 fun cdv A outer s H E B M hr =>
  (jss_cons (js_expr (j_call G8 (hr.mono (by omega)) rfl T.g8 T.F8.kp T.b8 (takes_of rfl rfl rfl rfl) (ja_cons (j_v 1) ja_nil)))
    (jss_cons (js_fset 0 (j_v 1))
    (jss_one (js_fset 0 (j_f (j_call G10 (hr.mono (by omega)) rfl T.g10 T.F10.kp T.b10 (takes_of rfl rfl rfl rfl) (ja_cons (j_v 1) ja_nil)))))))
theorem ok26 (T : Txt K mg f14 f15 f16 f17 f18 f23 f22 f24 f7 f8 f10 f11_0 f26 f20 f19 f21 f9 f11_2 f11_1 f12 f25 f27 f28 f29 Q0 p11_1 d14 d15 d16 d17 d18 d23 d22 d24 d7 d8 d10 d11_0 d26 d20 d19 d21 d9 d11_2 d11_1 d12 d25 d27 d28 d29 C0 C9 C10) (G8 : FnOk P w K mg base (L2.CX P w) 3 f8 d8 ps8 (SpJ K (clOf C0 C9 C10) [false] S_check_machine_6f43)) (G11_0 : FnOk P w K mg base (L2.CX P w) 4 f11_0 d11_0 ps11_0 (SpO K (clOf C0 C9 C10) [false] S_Walker_init_4623)) : FnOk P w K mg base (L2.CX P w) 6 f26 d26 ps26 (SpJ K (clOf C0 C9 C10) [false, false] S_law_checked_e65a) :=
  fnJ (k := 5) [] T.F26 sc26 rfl (by decide) W_law_checked_e65a fun cdv A outer s H E B hr =>
  (jss_cons (js_try rfl rfl ⟨rfl, by decide, Or.inl T.g_9⟩ (takes_of rfl rfl rfl rfl) T.s_9 (fun W' pn xe tk' ps' => (jss_cons (js_if (jt_cmp (jo_eq hr) (j_v 1) j_int) (jss_one (js_ret (j_isN (j_call G8 (hr.mono (by omega)) rfl T.g8 T.F8.kp T.b8 tk' (ja_cons (j_v 0) ja_nil))))) jss_nil)
    (jss_one (js_expr (j_make 0 G11_0 (hr.mono (by omega)) T.cl0 T.me11_0 rfl T.gc0 T.b11_0 tk' (ja_cons (j_v 0) ja_nil))))))
    (fun a oe cls d pn _ _ => (jss_one (js_ret j_bl))))
    (jss_one (js_ret j_bl)))
theorem ok20 (T : Txt K mg f14 f15 f16 f17 f18 f23 f22 f24 f7 f8 f10 f11_0 f26 f20 f19 f21 f9 f11_2 f11_1 f12 f25 f27 f28 f29 Q0 p11_1 d14 d15 d16 d17 d18 d23 d22 d24 d7 d8 d10 d11_0 d26 d20 d19 d21 d9 d11_2 d11_1 d12 d25 d27 d28 d29 C0 C9 C10) : FnOk P w K mg base (L2.CX P w) 2 f20 d20 ps20 (SpJ K (clOf C0 C9 C10) [false] S_law_start_413b) :=
  fnJ (k := 1) [] T.F20 sc20 rfl (by decide) W_law_start_413b fun cdv A outer s H E B hr =>
  (jss_cons (js_if (jt_cmp (jo_eq hr) (j_cb jc_len rfl T.z_len PySem.boot_len (ja_cons (j_ix (j_v 0) j_int) ja_nil)) j_int) (jss_one (js_ret (j_un ju_neg j_int))) jss_nil)
    (jss_one (js_ret j_int)))
theorem ok19 (T : Txt K mg f14 f15 f16 f17 f18 f23 f22 f24 f7 f8 f10 f11_0 f26 f20 f19 f21 f9 f11_2 f11_1 f12 f25 f27 f28 f29 Q0 p11_1 d14 d15 d16 d17 d18 d23 d22 d24 d7 d8 d10 d11_0 d26 d20 d19 d21 d9 d11_2 d11_1 d12 d25 d27 d28 d29 C0 C9 C10) : FnOk P w K mg base (L2.CX P w) 2 f19 d19 ps19 (SpJ K (clOf C0 C9 C10) [false, false, false] S_law_step_8131) :=
  fnJ (k := 1) [] T.F19 sc19 rfl (by decide) W_law_step_8131 fun cdv A outer s H E B hr =>
  (jss_cons (js_if (jw_pt (jw_or (jt_cmp (jo_ltA hr) (j_v 1) j_int) (jw_or1 (jt_cmp jo_gt (j_v 2) (j_ix (j_v 0) j_int))))) (jss_one (js_ret (j_un ju_neg j_int))) jss_nil)
    (jss_one (js_ret (j_ix (j_ix (j_ix (j_v 0) j_int) (j_v 1)) (j_op jo_sub (j_v 2) j_int)))))
theorem ok21 (T : Txt K mg f14 f15 f16 f17 f18 f23 f22 f24 f7 f8 f10 f11_0 f26 f20 f19 f21 f9 f11_2 f11_1 f12 f25 f27 f28 f29 Q0 p11_1 d14 d15 d16 d17 d18 d23 d22 d24 d7 d8 d10 d11_0 d26 d20 d19 d21 d9 d11_2 d11_1 d12 d25 d27 d28 d29 C0 C9 C10) (G20 : FnOk P w K mg base (L2.CX P w) 2 f20 d20 ps20 (SpJ K (clOf C0 C9 C10) [false] S_law_start_413b)) (G19 : FnOk P w K mg base (L2.CX P w) 2 f19 d19 ps19 (SpJ K (clOf C0 C9 C10) [false, false, false] S_law_step_8131)) : FnOk P w K mg base (L2.CX P w) 3 f21 d21 ps21 (SpJ K (clOf C0 C9 C10) [false, false] S_law_takes_9fa7) :=
  fnJ (k := 2) [] T.F21 sc21 rfl (by decide) W_law_takes_9fa7 fun cdv A outer s H E B hr =>
  (jss_cons (js_set (i := 2) (of_decide_eq_true rfl) (of_decide_eq_true rfl) sc21.nd rfl (by first | exact Or.inl rfl | exact Or.inr rfl) (j_f (j_call G20 (hr.mono (by omega)) rfl T.g20 T.F20.kp T.b20 (takes_of rfl rfl rfl rfl) (ja_cons (j_v 0) ja_nil))))
    (jss_cons (js_for (passes_of rfl) rfl (ji_seq (ks := [1]) (j_a 1 (of_decide_eq_true rfl))) (jg_name (i := 3) (of_decide_eq_true rfl) (of_decide_eq_true rfl) sc21.nd rfl (by first | exact Or.inl rfl | exact Or.inr rfl))
    (jss_one (js_set (i := 2) (of_decide_eq_true rfl) (of_decide_eq_true rfl) sc21.nd rfl (by first | exact Or.inl rfl | exact Or.inr rfl) (j_f (j_call G19 (hr.mono (by omega)) rfl T.g19 T.F19.kp T.b19 (takes_of rfl rfl rfl rfl) (ja_cons (j_v 0) (ja_cons (j_v 2) (ja_cons (j_v 3) ja_nil))))))))
    (jss_one (js_ret (j_and (j_cmp jo_ge (j_v 2) j_int) (j_one (j_ix (j_ix (j_v 0) j_int) (j_v 2))))))))
theorem ok9 (T : Txt K mg f14 f15 f16 f17 f18 f23 f22 f24 f7 f8 f10 f11_0 f26 f20 f19 f21 f9 f11_2 f11_1 f12 f25 f27 f28 f29 Q0 p11_1 d14 d15 d16 d17 d18 d23 d22 d24 d7 d8 d10 d11_0 d26 d20 d19 d21 d9 d11_2 d11_1 d12 d25 d27 d28 d29 C0 C9 C10) : FnOk P w K mg base (L2.CX P w) 2 f9 d9 ps9 (SpJ K (clOf C0 C9 C10) [false, false, false] S_step_d2c1) :=
  fnJ (k := 1) [] T.F9 sc9 rfl (by decide) W_step_d2c1 fun cdv A outer s H E B hr =>
  (jss_cons (js_if (jw_pt (jw_or (jt_cmp (jo_ltA hr) (j_v 1) j_int) (jw_or1 (jt_cmp jo_gt (j_v 2) (j_ix (j_v 0) j_int))))) (jss_one (js_ret (j_un ju_neg j_int))) jss_nil)
    (jss_one (js_ret (j_ix (j_ix (j_ix (j_v 0) j_int) (j_v 1)) (j_op jo_sub (j_v 2) j_int)))))
theorem ok11_2 (T : Txt K mg f14 f15 f16 f17 f18 f23 f22 f24 f7 f8 f10 f11_0 f26 f20 f19 f21 f9 f11_2 f11_1 f12 f25 f27 f28 f29 Q0 p11_1 d14 d15 d16 d17 d18 d23 d22 d24 d7 d8 d10 d11_0 d26 d20 d19 d21 d9 d11_2 d11_1 d12 d25 d27 d28 d29 C0 C9 C10) (G9 : FnOk P w K mg base (L2.CX P w) 2 f9 d9 ps9 (SpJ K (clOf C0 C9 C10) [false, false, false] S_step_d2c1)) : FnOk P w K mg base (L2.CX P w) 3 f11_2 d11_2 ps11_2 (SpO K (clOf C0 C9 C10) [false] S_Walker_read_4d54) :=
  fnJO (c := (clOf C0 C9 C10)) (k := 2) [] T.F11_2 sc11_2 rfl (by decide) (by decide) W_Walker_read_4d54 fun cdv A outer s H E B M hr =>
  (jss_cons (js_if (jt_cmp (jo_ltA hr) (j_v 1) j_int) (jss_one (js_raise (n := 10) PySem.F.excBase_ValueError rfl rfl rfl (takes_of rfl rfl rfl rfl) T.x_10 T.g_10 T.k_10 (raises_own T.b_10 T.t_10) rfl)) jss_nil)
    (jss_one (js_fset 0 (j_f (j_call G9 (hr.mono (by omega)) rfl T.g9 T.F9.kp T.b9 (takes_of rfl rfl rfl rfl) (ja_cons (j_fo 0) (ja_cons (j_fo 0) (ja_cons (j_v 1) ja_nil))))))))
theorem okP11_1 (T : Txt K mg f14 f15 f16 f17 f18 f23 f22 f24 f7 f8 f10 f11_0 f26 f20 f19 f21 f9 f11_2 f11_1 f12 f25 f27 f28 f29 Q0 p11_1 d14 d15 d16 d17 d18 d23 d22 d24 d7 d8 d10 d11_0 d26 d20 d19 d21 d9 d11_2 d11_1 d12 d25 d27 d28 d29 C0 C9 C10) : FnQ P w K mg base (L2.CX P w) 2 f11_1 d11_1 ps11_1 (SpO K (clOf C0 C9 C10) [] S_Walker_is_accepted_721b) :=
  fnJQ (c := (clOf C0 C9 C10)) (k := 1) [] T.F11_1 sc11_1 rfl (by decide) (by decide) W_Walker_is_accepted_721b fun cdv A outer s H E p B M hr =>
  (jss_one (js_ret (j_and (j_cmp jo_ge (j_fo 0) j_int) (j_one (j_ix (j_ix (j_fo 0) j_int) (j_fo 0))))))
theorem ok11_1 (T : Txt K mg f14 f15 f16 f17 f18 f23 f22 f24 f7 f8 f10 f11_0 f26 f20 f19 f21 f9 f11_2 f11_1 f12 f25 f27 f28 f29 Q0 p11_1 d14 d15 d16 d17 d18 d23 d22 d24 d7 d8 d10 d11_0 d26 d20 d19 d21 d9 d11_2 d11_1 d12 d25 d27 d28 d29 C0 C9 C10) : FnOk P w K mg base (L2.CX P w) 2 f11_1 d11_1 ps11_1 (SpO K (clOf C0 C9 C10) [] S_Walker_is_accepted_721b) :=
  fnJO (c := (clOf C0 C9 C10)) (k := 1) [] T.F11_1 sc11_1 rfl (by decide) (by decide) W_Walker_is_accepted_721b fun cdv A outer s H E B M hr =>
  (jss_one (js_ret (j_and (j_cmp jo_ge (j_fo 0) j_int) (j_one (j_ix (j_ix (j_fo 0) j_int) (j_fo 0))))))
theorem ok12 (T : Txt K mg f14 f15 f16 f17 f18 f23 f22 f24 f7 f8 f10 f11_0 f26 f20 f19 f21 f9 f11_2 f11_1 f12 f25 f27 f28 f29 Q0 p11_1 d14 d15 d16 d17 d18 d23 d22 d24 d7 d8 d10 d11_0 d26 d20 d19 d21 d9 d11_2 d11_1 d12 d25 d27 d28 d29 C0 C9 C10) (G8 : FnOk P w K mg base (L2.CX P w) 3 f8 d8 ps8 (SpJ K (clOf C0 C9 C10) [false] S_check_machine_6f43)) (G11_0 : FnOk P w K mg base (L2.CX P w) 4 f11_0 d11_0 ps11_0 (SpO K (clOf C0 C9 C10) [false] S_Walker_init_4623)) (G11_2 : FnOk P w K mg base (L2.CX P w) 3 f11_2 d11_2 ps11_2 (SpO K (clOf C0 C9 C10) [false] S_Walker_read_4d54)) (G11_1 : FnOk P w K mg base (L2.CX P w) 2 f11_1 d11_1 ps11_1 (SpO K (clOf C0 C9 C10) [] S_Walker_is_accepted_721b)) : FnOk P w K mg base (L2.CX P w) 6 f12 d12 ps12 (SpJ K (clOf C0 C9 C10) [false, false] S_accepts_c635) :=
  fnJ (k := 5) [] T.F12 sc12 rfl (by decide) W_accepts_c635 fun cdv A outer s H E B hr =>
  (jss_cons (js_expr (j_call G8 (hr.mono (by omega)) rfl T.g8 T.F8.kp T.b8 (takes_of rfl rfl rfl rfl) (ja_cons (j_v 0) ja_nil)))
    (jss_cons (js_for (passes_of rfl) rfl (ji_seq (ks := [1]) (j_a 1 (of_decide_eq_true rfl))) (jg_name (i := 2) (of_decide_eq_true rfl) (of_decide_eq_true rfl) sc12.nd rfl (by first | exact Or.inl rfl | exact Or.inr rfl))
    (jss_one (js_if (jt_cmp (jo_ltA hr) (j_v 2) j_int) (jss_one (js_raise (n := 10) PySem.F.excBase_ValueError rfl rfl rfl (takes_of rfl rfl rfl rfl) T.x_10 T.g_10 T.k_10 (raises_own T.b_10 T.t_10) rfl)) jss_nil)))
    (jss_cons (js_set (i := 3) (of_decide_eq_true rfl) (of_decide_eq_true rfl) sc12.nd rfl (by first | exact Or.inl rfl | exact Or.inr rfl) (j_make 0 G11_0 (hr.mono (by omega)) T.cl0 T.me11_0 rfl T.gc0 T.b11_0 (takes_of rfl rfl rfl rfl) (ja_cons (j_v 0) ja_nil)))
    (jss_cons (js_for (passes_of rfl) rfl (ji_seq (ks := [1]) (j_a 1 (of_decide_eq_true rfl))) (jg_name (i := 2) (of_decide_eq_true rfl) (of_decide_eq_true rfl) sc12.nd rfl (by first | exact Or.inl rfl | exact Or.inr rfl))
    (jss_one (js_expr (j_meth 3 0 G11_2 (hr.mono (by omega)) T.cl0 T.me11_2 (by decide) T.b11_2 (takes_of rfl rfl rfl rfl) (of_decide_eq_true rfl) (ja_cons (j_v 2) ja_nil)))))
    (jss_one (js_ret (j_prop 3 0 G11_1 (hr.mono (by omega)) T.cl0 T.me11_1 T.b11_1)))))))
theorem ok25 (T : Txt K mg f14 f15 f16 f17 f18 f23 f22 f24 f7 f8 f10 f11_0 f26 f20 f19 f21 f9 f11_2 f11_1 f12 f25 f27 f28 f29 Q0 p11_1 d14 d15 d16 d17 d18 d23 d22 d24 d7 d8 d10 d11_0 d26 d20 d19 d21 d9 d11_2 d11_1 d12 d25 d27 d28 d29 C0 C9 C10) (G12 : FnOk P w K mg base (L2.CX P w) 6 f12 d12 ps12 (SpJ K (clOf C0 C9 C10) [false, false] S_accepts_c635)) : FnOk P w K mg base (L2.CX P w) 7 f25 d25 ps25 (SpJ K (clOf C0 C9 C10) [false, false] S_law_told_1fff) :=
  fnJ (k := 6) [] T.F25 sc25 rfl (by decide) W_law_told_1fff fun cdv A outer s H E B hr =>
  (jss_one (js_tryAs (i := 2) (n := 0) rfl rfl sc25.nd rfl rfl (of_decide_eq_true rfl) (of_decide_eq_true rfl) rfl ⟨rfl, by decide, Or.inl T.g_0⟩ (takes_of rfl rfl rfl rfl) T.s_0 (fun W' pn xe tk' ps' => (jss_one (js_ret (j_tup (ja_cons (j_strN (by decide +kernel)) (ja_cons (j_f (j_call G12 (hr.mono (by omega)) rfl T.g12 T.F12.kp T.b12 tk' (ja_cons (j_v 0) (ja_cons (j_a 1 (of_decide_eq_true rfl)) ja_nil)))) ja_nil))))))
    (fun a oe cls d pn hz hf => (jss_cons (js_if (jw_pt (jw_and (jt_tr (j_isX (i := 2) (k := 9) (cv := .ref C9) hz hf T.e_c T.kx_NotMachine (fun u r => r) rfl T.z_isinstance rfl (by first | exact Or.inl rfl | exact Or.inr (Or.inl rfl) | exact Or.inr (Or.inr rfl)) (pe_glob rfl T.g_9 (v := .ref C9) rfl))) (jw_and1 (jt_not (jt_tr (j_isX (i := 2) (k := 10) (cv := .ref C10) hz hf T.e_c T.kx_NotWord (fun u r => r) rfl T.z_isinstance rfl (by first | exact Or.inl rfl | exact Or.inr (Or.inl rfl) | exact Or.inr (Or.inr rfl)) (pe_glob rfl T.g_10 (v := .ref C10) rfl))))))) (jss_one (js_ret (j_tup (ja_cons (j_strN (by decide +kernel)) (ja_cons j_bl ja_nil))))) jss_nil)
    (jss_cons (js_if (jw_pt (jw_and (jt_tr (j_isX (i := 2) (k := 10) (cv := .ref C10) hz hf T.e_c T.kx_NotWord (fun u r => r) rfl T.z_isinstance rfl (by first | exact Or.inl rfl | exact Or.inr (Or.inl rfl) | exact Or.inr (Or.inr rfl)) (pe_glob rfl T.g_10 (v := .ref C10) rfl))) (jw_and1 (jt_not (jt_tr (j_isX (i := 2) (k := 9) (cv := .ref C9) hz hf T.e_c T.kx_NotMachine (fun u r => r) rfl T.z_isinstance rfl (by first | exact Or.inl rfl | exact Or.inr (Or.inl rfl) | exact Or.inr (Or.inr rfl)) (pe_glob rfl T.g_9 (v := .ref C9) rfl))))))) (jss_one (js_ret (j_tup (ja_cons (j_strN (by decide +kernel)) (ja_cons j_bl ja_nil))))) jss_nil)
    (jss_one (js_ret (j_tup (ja_cons (j_strN (by decide +kernel)) (ja_cons j_bl ja_nil))))))))))
theorem ok27 (T : Txt K mg f14 f15 f16 f17 f18 f23 f22 f24 f7 f8 f10 f11_0 f26 f20 f19 f21 f9 f11_2 f11_1 f12 f25 f27 f28 f29 Q0 p11_1 d14 d15 d16 d17 d18 d23 d22 d24 d7 d8 d10 d11_0 d26 d20 d19 d21 d9 d11_2 d11_1 d12 d25 d27 d28 d29 C0 C9 C10) (G11_1 : FnOk P w K mg base (L2.CX P w) 2 f11_1 d11_1 ps11_1 (SpO K (clOf C0 C9 C10) [] S_Walker_is_accepted_721b)) (G11_2 : FnOk P w K mg base (L2.CX P w) 3 f11_2 d11_2 ps11_2 (SpO K (clOf C0 C9 C10) [false] S_Walker_read_4d54)) (GP11_1 : FnQ P w K mg base (L2.CX P w) 2 f11_1 d11_1 ps11_1 (SpO K (clOf C0 C9 C10) [] S_Walker_is_accepted_721b)) : FnOk P w K mg base (L2.CX P w) 5 f27 d27 ps27 (SpO K (clOf C0 C9 C10) [false] S_law_refuses_b4a8) :=
  fnJO (c := (clOf C0 C9 C10)) (k := 4) [] T.F27 sc27 rfl (by decide) (by decide) W_law_refuses_b4a8 fun cdv A outer s H E B M hr =>
  (jss_cons (js_set (i := 2) (of_decide_eq_true rfl) (of_decide_eq_true rfl) sc27.nd rfl (by first | exact Or.inl rfl | exact Or.inr rfl) (j_tup (ja_cons (j_fo 0) (ja_cons (j_prop 0 0 G11_1 (hr.mono (by omega)) T.cl0 T.me11_1 T.b11_1) ja_nil))))
    (jss_cons (js_tryAs (i := 3) (n := 10) rfl rfl sc27.nd rfl rfl (of_decide_eq_true rfl) (of_decide_eq_true rfl) rfl ⟨rfl, by decide, Or.inl T.g_10⟩ (takes_of rfl rfl rfl rfl) T.s_10 (fun W' pn xe tk' ps' => (jss_one (js_expr (j_meth 0 0 G11_2 (hr.mono (by omega)) T.cl0 T.me11_2 (by decide) T.b11_2 tk' (of_decide_eq_true rfl) (ja_cons (j_v 1) ja_nil)))))
    (fun a oe cls d pn hz hf => (jss_one (js_ret (j_and (j_isX (i := 3) (k := 0) (cv := .ty "ValueError") hz hf T.e_c T.kx_ValueError (fun u r => r) rfl T.z_isinstance rfl (by first | exact Or.inl rfl | exact Or.inr (Or.inl rfl) | exact Or.inr (Or.inr rfl)) (pe_bltn rfl T.z_ValueError (v := .ty "ValueError") (by decide +kernel) rfl)) (j_one (j_cmp (jo_eqP hr.units) (j_tup (ja_cons (j_fo 0) (ja_cons (j_propP 0 0 GP11_1 (roomP (hr.mono (by omega))) ⟨_, List.mem_cons_self⟩ T.cl0 T.me11_1 T.b11_1) ja_nil))) (j_v 2))))))))
    (jss_one (js_ret j_bl))))
theorem ok28 (T : Txt K mg f14 f15 f16 f17 f18 f23 f22 f24 f7 f8 f10 f11_0 f26 f20 f19 f21 f9 f11_2 f11_1 f12 f25 f27 f28 f29 Q0 p11_1 d14 d15 d16 d17 d18 d23 d22 d24 d7 d8 d10 d11_0 d26 d20 d19 d21 d9 d11_2 d11_1 d12 d25 d27 d28 d29 C0 C9 C10) (G11_0 : FnOk P w K mg base (L2.CX P w) 4 f11_0 d11_0 ps11_0 (SpO K (clOf C0 C9 C10) [false] S_Walker_init_4623)) (G20 : FnOk P w K mg base (L2.CX P w) 2 f20 d20 ps20 (SpJ K (clOf C0 C9 C10) [false] S_law_start_413b)) (G11_1 : FnOk P w K mg base (L2.CX P w) 2 f11_1 d11_1 ps11_1 (SpO K (clOf C0 C9 C10) [] S_Walker_is_accepted_721b)) (G21 : FnOk P w K mg base (L2.CX P w) 3 f21 d21 ps21 (SpJ K (clOf C0 C9 C10) [false, false] S_law_takes_9fa7)) (G27 : FnOk P w K mg base (L2.CX P w) 5 f27 d27 ps27 (SpO K (clOf C0 C9 C10) [false] S_law_refuses_b4a8)) (G17 : FnOk P w K mg base (L2.CX P w) 3 f17 d17 ps17 (SpM K [false] S_law_pick_b28a)) (G11_2 : FnOk P w K mg base (L2.CX P w) 3 f11_2 d11_2 ps11_2 (SpO K (clOf C0 C9 C10) [false] S_Walker_read_4d54)) (G19 : FnOk P w K mg base (L2.CX P w) 2 f19 d19 ps19 (SpJ K (clOf C0 C9 C10) [false, false, false] S_law_step_8131)) : FnOk P w K mg base (L2.CX P w) 6 f28 d28 ps28 (SpP K 2 [false, false] S_law_walks_6e37) :=
  fnJP2 (c := (clOf C0 C9 C10)) (k := 5) 2 [] T.F28 sc28 rfl (by decide) (by decide) W_law_walks_6e37 fun cdv A outer s H E B p hr =>
  (jss_cons (js_set (i := 3) (of_decide_eq_true rfl) (of_decide_eq_true rfl) sc28.nd rfl (by first | exact Or.inl rfl | exact Or.inr rfl) (j_make 0 G11_0 (hr.mono (by omega)) T.cl0 T.me11_0 rfl T.gc0 T.b11_0 (takes_of rfl rfl rfl rfl) (ja_cons (j_v 0) ja_nil)))
    (jss_cons (js_set (i := 4) (of_decide_eq_true rfl) (of_decide_eq_true rfl) sc28.nd rfl (by first | exact Or.inl rfl | exact Or.inr rfl) (j_make 0 G11_0 (hr.mono (by omega)) T.cl0 T.me11_0 rfl T.gc0 T.b11_0 (takes_of rfl rfl rfl rfl) (ja_cons (j_v 0) ja_nil)))
    (jss_cons (js_set (i := 5) (of_decide_eq_true rfl) (of_decide_eq_true rfl) sc28.nd rfl (by first | exact Or.inl rfl | exact Or.inr rfl) (j_f (j_call G20 (hr.mono (by omega)) rfl T.g20 T.F20.kp T.b20 (takes_of rfl rfl rfl rfl) (ja_cons (j_v 0) ja_nil))))
    (jss_cons (js_for (passes_of rfl) rfl (ji_rg1 rfl T.z_range (j_cb jc_len rfl T.z_len PySem.boot_len (ja_cons (j_a 1 (of_decide_eq_true rfl)) ja_nil))) (jg_name (i := 6) (of_decide_eq_true rfl) (of_decide_eq_true rfl) sc28.nd rfl (by first | exact Or.inl rfl | exact Or.inr rfl))
    (jss_cons (js_if (jw_pt (jw_or (jt_cmp (jo_ne hr) (j_fo 3) (j_v 5)) (jw_or1 (jt_cmp (jo_ne hr) (j_prop 3 0 G11_1 (hr.mono (by omega)) T.cl0 T.me11_1 T.b11_1) (j_call G21 (hr.mono (by omega)) rfl T.g21 T.F21.kp T.b21 (takes_of rfl rfl rfl rfl) (ja_cons (j_v 0) (ja_cons (j_sl (j_a 1 (of_decide_eq_true rfl)) jp_no (jp_pt (j_v 6))) ja_nil))))))) (jss_one (js_ret j_bl)) jss_nil)
    (jss_cons (js_if (jw_pt (jw_or (jt_cmp (jo_ne hr) (j_fo 4) (j_call G20 (hr.mono (by omega)) rfl T.g20 T.F20.kp T.b20 (takes_of rfl rfl rfl rfl) (ja_cons (j_v 0) ja_nil))) (jw_or1 (jt_not (jt_tr (j_callOw 3 G27 (hr.mono (by omega)) rfl T.g27 T.F27.kp T.b27 (takes_of rfl rfl rfl rfl) (of_decide_eq_true rfl) (ja_cons (j_op jo_sub j_int (j_callM 2 G17 (hr.mono (by omega)) rfl T.g17 T.F17.kp T.b17 (takes_of rfl rfl rfl rfl) (of_decide_eq_true rfl) (ja_cons j_int ja_nil))) ja_nil))))))) (jss_one (js_ret j_bl)) jss_nil)
    (jss_cons (js_if (jt_notN (j_meth 3 0 G11_2 (hr.mono (by omega)) T.cl0 T.me11_2 (by decide) T.b11_2 (takes_of rfl rfl rfl rfl) (of_decide_eq_true rfl) (ja_cons (j_ix (j_a 1 (of_decide_eq_true rfl)) (j_v 6)) ja_nil))) (jss_one (js_ret j_bl)) jss_nil)
    (jss_one (js_set (i := 5) (of_decide_eq_true rfl) (of_decide_eq_true rfl) sc28.nd rfl (by first | exact Or.inl rfl | exact Or.inr rfl) (j_f (j_call G19 (hr.mono (by omega)) rfl T.g19 T.F19.kp T.b19 (takes_of rfl rfl rfl rfl) (ja_cons (j_v 0) (ja_cons (j_v 5) (ja_cons (j_ix (j_a 1 (of_decide_eq_true rfl)) (j_v 6)) ja_nil)))))))))))
    (jss_one (js_ret (j_and (j_cmp (jo_eq hr) (j_fo 3) (j_v 5)) (j_and (j_cmp (jo_eq hr) (j_prop 3 0 G11_1 (hr.mono (by omega)) T.cl0 T.me11_1 T.b11_1) (j_call G21 (hr.mono (by omega)) rfl T.g21 T.F21.kp T.b21 (takes_of rfl rfl rfl rfl) (ja_cons (j_v 0) (ja_cons (j_a 1 (of_decide_eq_true rfl)) ja_nil)))) (j_one (j_isTy (u := .bl) rfl T.kt_bool rfl T.z_isinstance (pe_bltn rfl T.z_bool (v := .ty "bool") (by decide +kernel) rfl) (j_prop 3 0 G11_1 (hr.mono (by omega)) T.cl0 T.me11_1 T.b11_1)))))))))))
theorem ok29 (T : Txt K mg f14 f15 f16 f17 f18 f23 f22 f24 f7 f8 f10 f11_0 f26 f20 f19 f21 f9 f11_2 f11_1 f12 f25 f27 f28 f29 Q0 p11_1 d14 d15 d16 d17 d18 d23 d22 d24 d7 d8 d10 d11_0 d26 d20 d19 d21 d9 d11_2 d11_1 d12 d25 d27 d28 d29 C0 C9 C10) (G15 : FnOk P w K mg base (L2.CX P w) 3 f15 d15 ps15 (SpJ K (clOf C0 C9 C10) [false] S_law_draws_f01f)) (G18 : FnOk P w K mg base (L2.CX P w) 4 f18 d18 ps18 (SpM K [false, false] S_law_machine_0257)) (G17 : FnOk P w K mg base (L2.CX P w) 3 f17 d17 ps17 (SpM K [false] S_law_pick_b28a)) (G23 : FnOk P w K mg base (L2.CX P w) 4 f23 d23 ps23 (SpM K [false] S_law_spoilt_a888)) (G22 : FnOk P w K mg base (L2.CX P w) 4 f22 d22 ps22 (SpM K [false, false] S_law_word_5151)) (G24 : FnOk P w K mg base (L2.CX P w) 2 f24 d24 ps24 (SpJ K (clOf C0 C9 C10) [false] S_law_is_43e8)) (G7 : FnOk P w K mg base (L2.CX P w) 2 f7 d7 ps7 (SpJ K (clOf C0 C9 C10) [false] S_is_machine_5e1e)) (G26 : FnOk P w K mg base (L2.CX P w) 6 f26 d26 ps26 (SpJ K (clOf C0 C9 C10) [false, false] S_law_checked_e65a)) (G21 : FnOk P w K mg base (L2.CX P w) 3 f21 d21 ps21 (SpJ K (clOf C0 C9 C10) [false, false] S_law_takes_9fa7)) (G25 : FnOk P w K mg base (L2.CX P w) 7 f25 d25 ps25 (SpJ K (clOf C0 C9 C10) [false, false] S_law_told_1fff)) (G28 : FnOk P w K mg base (L2.CX P w) 6 f28 d28 ps28 (SpP K 2 [false, false] S_law_walks_6e37)) : FnP P w K mg base 8 f29 d29 ps29 (SpJ K (clOf C0 C9 C10) [false] S_law_1e40) :=
  fnJP (k := 7) [8] T.F29 sc29 rfl (by decide) W_law_1e40 fun cdv A outer s H E B hgd hr =>
  (jss_cons (js_set (i := 1) (of_decide_eq_true rfl) (of_decide_eq_true rfl) sc29.nd rfl (by first | exact Or.inl rfl | exact Or.inr rfl) (j_call G15 (hr.mono (by omega)) rfl T.g15 T.F15.kp T.b15 (takes_of rfl rfl rfl rfl) (ja_cons (j_a 0 (of_decide_eq_true rfl)) ja_nil)))
    (jss_cons (js_set (i := 2) (of_decide_eq_true rfl) (of_decide_eq_true rfl) sc29.nd rfl (by first | exact Or.inl rfl | exact Or.inr rfl) (j_f (j_callM 1 G18 (hr.mono (by omega)) rfl T.g18 T.F18.kp T.b18 (takes_of rfl rfl rfl rfl) (of_decide_eq_true rfl) (ja_cons (j_op jo_add j_int (j_callM 1 G17 (hr.mono (by omega)) rfl T.g17 T.F17.kp T.b17 (takes_of rfl rfl rfl rfl) (of_decide_eq_true rfl) (ja_cons j_int ja_nil))) (ja_cons j_int ja_nil)))))
    (jss_cons (js_if (jt_cmp (jo_eq hr) (j_callM 1 G17 (hr.mono (by omega)) rfl T.g17 T.F17.kp T.b17 (takes_of rfl rfl rfl rfl) (of_decide_eq_true rfl) (ja_cons j_int ja_nil)) j_int) (jss_one (js_set (i := 2) (of_decide_eq_true rfl) (of_decide_eq_true rfl) sc29.nd rfl (by first | exact Or.inl rfl | exact Or.inr rfl) (j_f (j_callM 1 G23 (hr.mono (by omega)) rfl T.g23 T.F23.kp T.b23 (takes_of rfl rfl rfl rfl) (of_decide_eq_true rfl) (ja_cons (j_v 2) ja_nil))))) jss_nil)
    (jss_cons (js_set (i := 3) (of_decide_eq_true rfl) (of_decide_eq_true rfl) sc29.nd rfl (by first | exact Or.inl rfl | exact Or.inr rfl) (j_callM 1 G22 (hr.mono (by omega)) rfl T.g22 T.F22.kp T.b22 (takes_of rfl rfl rfl rfl) (of_decide_eq_true rfl) (ja_cons j_int (ja_cons j_int ja_nil))))
    (jss_cons (js_if (jw_pt (jw_and (jt_cmp (jo_eq hr) (j_callM 1 G17 (hr.mono (by omega)) rfl T.g17 T.F17.kp T.b17 (takes_of rfl rfl rfl rfl) (of_decide_eq_true rfl) (ja_cons j_int ja_nil)) j_int) (jw_and1 (jt_tr (j_a 3 (of_decide_eq_true rfl)))))) (jss_one (js_setIx (i := 3) (j_op jo_sub j_int (j_callM 1 G17 (hr.mono (by omega)) rfl T.g17 T.F17.kp T.b17 (takes_of rfl rfl rfl rfl) (of_decide_eq_true rfl) (ja_cons j_int ja_nil))) (j_callM 1 G17 (hr.mono (by omega)) rfl T.g17 T.F17.kp T.b17 (takes_of rfl rfl rfl rfl) (of_decide_eq_true rfl) (ja_cons (j_cb jc_len rfl T.z_len PySem.boot_len (ja_cons (j_a 3 (of_decide_eq_true rfl)) ja_nil)) ja_nil)))) jss_nil)
    (jss_cons (js_set (i := 4) (of_decide_eq_true rfl) (of_decide_eq_true rfl) sc29.nd rfl (by first | exact Or.inl rfl | exact Or.inr rfl) (j_f (j_ct jc_list rfl T.z_list (by decide +kernel) (ja_cons (j_a 3 (of_decide_eq_true rfl)) ja_nil))))
    (jss_cons (js_set (i := 5) (of_decide_eq_true rfl) (of_decide_eq_true rfl) sc29.nd rfl (by first | exact Or.inl rfl | exact Or.inr rfl) (j_f (j_call G24 (hr.mono (by omega)) rfl T.g24 T.F24.kp T.b24 (takes_of rfl rfl rfl rfl) (ja_cons (j_v 2) ja_nil))))
    (jss_cons (js_if (jw_pt (jw_or (jt_not (jt_tr (j_isTy (u := .bl) rfl T.kt_bool rfl T.z_isinstance (pe_bltn rfl T.z_bool (v := .ty "bool") (by decide +kernel) rfl) (j_call G7 (hr.mono (by omega)) rfl T.g7 T.F7.kp T.b7 (takes_of rfl rfl rfl rfl) (ja_cons (j_v 2) ja_nil))))) (jw_or1 (jt_cmp (jo_ne hr) (j_call G7 (hr.mono (by omega)) rfl T.g7 T.F7.kp T.b7 (takes_of rfl rfl rfl rfl) (ja_cons (j_v 2) ja_nil)) (j_v 5))))) (jss_one (js_ret j_bl)) jss_nil)
    (jss_cons (js_if (jw_pt (jw_or (jt_cmp (jo_ne hr) (j_call G26 (hr.mono (by omega)) rfl T.g26 T.F26.kp T.b26 (takes_of rfl rfl rfl rfl) (ja_cons (j_v 2) (ja_cons j_int ja_nil))) (j_v 5)) (jw_or1 (jt_cmp (jo_ne hr) (j_call G26 (hr.mono (by omega)) rfl T.g26 T.F26.kp T.b26 (takes_of rfl rfl rfl rfl) (ja_cons (j_v 2) (ja_cons j_int ja_nil))) (j_v 5))))) (jss_one (js_ret j_bl)) jss_nil)
    (jss_cons (js_set (i := 6) (of_decide_eq_true rfl) (of_decide_eq_true rfl) sc29.nd rfl (by first | exact Or.inl rfl | exact Or.inr rfl) (j_tup (ja_cons (j_strN (by decide +kernel)) (ja_cons j_bl ja_nil))))
    (jss_cons (js_if (jw_pt (jw_and (jt_tr (j_v 5)) (jw_and1 (jt_tr (j_lc rfl sc29.nd (ji_seq (ks := [3]) (j_a 3 (of_decide_eq_true rfl))) (blkOk_by (own := [("_law_letter", 8)]) (N := names29) (sc := defScope s29) (by decide +kernel)) rfl (of_decide_eq_true rfl) (of_decide_eq_true rfl) (fun _ _ _ _ _ => (jg_name (i := 8) (of_decide_eq_true rfl) (of_decide_eq_true rfl) sc29.nd rfl (by first | exact Or.inl rfl | exact Or.inr rfl))) (fun _ _ _ _ _ => (jts_one (jt_cmp (jo_ltA hr) (j_v 8) j_int))) (fun _ _ _ _ _ => (j_v 8))))))) (jss_one (js_set (i := 6) (of_decide_eq_true rfl) (of_decide_eq_true rfl) sc29.nd rfl (by first | exact Or.inl rfl | exact Or.inr rfl) (j_tup (ja_cons (j_strN (by decide +kernel)) (ja_cons j_bl ja_nil))))) (jss_one (js_if (jt_tr (j_v 5)) (jss_one (js_set (i := 6) (of_decide_eq_true rfl) (of_decide_eq_true rfl) sc29.nd rfl (by first | exact Or.inl rfl | exact Or.inr rfl) (j_tup (ja_cons (j_strN (by decide +kernel)) (ja_cons (j_f (j_call G21 (hr.mono (by omega)) rfl T.g21 T.F21.kp T.b21 (takes_of rfl rfl rfl rfl) (ja_cons (j_v 2) (ja_cons (j_a 3 (of_decide_eq_true rfl)) ja_nil)))) ja_nil))))) jss_nil)))
    (jss_cons (js_set (i := 7) (of_decide_eq_true rfl) (of_decide_eq_true rfl) sc29.nd rfl (by first | exact Or.inl rfl | exact Or.inr rfl) (j_f (j_call G25 (hr.mono (by omega)) rfl T.g25 T.F25.kp T.b25 (takes_of rfl rfl rfl rfl) (ja_cons (j_v 2) (ja_cons (j_v 4) ja_nil)))))
    (jss_cons (js_if (jw_pt (jw_or (jt_cmp (jo_ne hr) (j_v 7) (j_v 6)) (jw_or (jt_not (jt_tr (j_isTy (u := .bl) rfl T.kt_bool rfl T.z_isinstance (pe_bltn rfl T.z_bool (v := .ty "bool") (by decide +kernel) rfl) (j_ix (j_v 7) j_int)))) (jw_or1 (jt_cmp (jo_ne hr) (j_v 4) (j_a 3 (of_decide_eq_true rfl))))))) (jss_one (js_ret j_bl)) jss_nil)
    (jss_one (js_ret (j_or (j_cmp (jo_ne hr) (j_ix (j_v 6) j_int) (j_strN (by decide +kernel))) (j_one (j_callP 1 2 G28 (hr.mono (by omega)) rfl T.g28 T.F28.kp T.b28 (takes_of rfl rfl rfl rfl) (ja_cons (j_v 2) (ja_cons (j_a 3 (of_decide_eq_true rfl)) (ja_cons (j_a 1 (of_decide_eq_true rfl)) ja_nil)))))))))))))))))))))
end
theorem all_mk {l : PySem.W.OpenLaw} {w : World} {K : PySem.W.Frag} {h : Heap} {mg : Str → Option Value} {fa : Addr} (X : K.In h) (G : h.Ns mainGlobals mg) (hfa : mg "law" = some (.ref fa))
    {Q0 : Addr}
    {f14 : Addr} {od14 an14 : Option Addr} {sl14 : Array (Option Value)} {oc14 kV14 dc14 pm14 cd14 ct14 : Value}
    {f15 : Addr} {od15 an15 : Option Addr} {sl15 : Array (Option Value)} {oc15 kV15 dc15 pm15 cd15 ct15 : Value}
    {f16 : Addr} {od16 an16 : Option Addr} {sl16 : Array (Option Value)} {oc16 kV16 dc16 pm16 cd16 ct16 : Value}
    {f17 : Addr} {od17 an17 : Option Addr} {sl17 : Array (Option Value)} {oc17 kV17 dc17 pm17 cd17 ct17 : Value}
    {f18 : Addr} {od18 an18 : Option Addr} {sl18 : Array (Option Value)} {oc18 kV18 dc18 pm18 cd18 ct18 : Value}
    {f23 : Addr} {od23 an23 : Option Addr} {sl23 : Array (Option Value)} {oc23 kV23 dc23 pm23 cd23 ct23 : Value}
    {f22 : Addr} {od22 an22 : Option Addr} {sl22 : Array (Option Value)} {oc22 kV22 dc22 pm22 cd22 ct22 : Value}
    {f24 : Addr} {od24 an24 : Option Addr} {sl24 : Array (Option Value)} {oc24 kV24 dc24 pm24 cd24 ct24 : Value}
    {f7 : Addr} {od7 an7 : Option Addr} {sl7 : Array (Option Value)} {oc7 kV7 dc7 pm7 cd7 ct7 : Value}
    {f8 : Addr} {od8 an8 : Option Addr} {sl8 : Array (Option Value)} {oc8 kV8 dc8 pm8 cd8 ct8 : Value}
    {f10 : Addr} {od10 an10 : Option Addr} {sl10 : Array (Option Value)} {oc10 kV10 dc10 pm10 cd10 ct10 : Value}
    {f11_0 : Addr} {od11_0 an11_0 : Option Addr} {sl11_0 : Array (Option Value)} {oc11_0 kV11_0 dc11_0 pm11_0 cd11_0 ct11_0 : Value}
    {f26 : Addr} {od26 an26 : Option Addr} {sl26 : Array (Option Value)} {oc26 kV26 dc26 pm26 cd26 ct26 : Value}
    {f20 : Addr} {od20 an20 : Option Addr} {sl20 : Array (Option Value)} {oc20 kV20 dc20 pm20 cd20 ct20 : Value}
    {f19 : Addr} {od19 an19 : Option Addr} {sl19 : Array (Option Value)} {oc19 kV19 dc19 pm19 cd19 ct19 : Value}
    {f21 : Addr} {od21 an21 : Option Addr} {sl21 : Array (Option Value)} {oc21 kV21 dc21 pm21 cd21 ct21 : Value}
    {f9 : Addr} {od9 an9 : Option Addr} {sl9 : Array (Option Value)} {oc9 kV9 dc9 pm9 cd9 ct9 : Value}
    {f11_2 : Addr} {od11_2 an11_2 : Option Addr} {sl11_2 : Array (Option Value)} {oc11_2 kV11_2 dc11_2 pm11_2 cd11_2 ct11_2 : Value}
    {f11_1 : Addr} {od11_1 an11_1 : Option Addr} {sl11_1 : Array (Option Value)} {oc11_1 kV11_1 dc11_1 pm11_1 cd11_1 ct11_1 : Value}
    {p11_1 : Addr} {rs11_1 : List Value}
    {f12 : Addr} {od12 an12 : Option Addr} {sl12 : Array (Option Value)} {oc12 kV12 dc12 pm12 cd12 ct12 : Value}
    {f25 : Addr} {od25 an25 : Option Addr} {sl25 : Array (Option Value)} {oc25 kV25 dc25 pm25 cd25 ct25 : Value}
    {f27 : Addr} {od27 an27 : Option Addr} {sl27 : Array (Option Value)} {oc27 kV27 dc27 pm27 cd27 ct27 : Value}
    {f28 : Addr} {od28 an28 : Option Addr} {sl28 : Array (Option Value)} {oc28 kV28 dc28 pm28 cd28 ct28 : Value}
    {f29 : Addr} {od29 an29 : Option Addr} {sl29 : Array (Option Value)} {oc29 kV29 dc29 pm29 cd29 ct29 : Value}
    {t_MOST_LETTERS : Tok}
    {t_MOST_STATES : Tok}
    {C0 : Addr}
    {C9 : Addr}
    {C10 : Addr}
    (a_Q0 : PySem.W.nsIn K mainGlobals "Walker" = some (some (.ref Q0))) (pg_Q0 : PySem.W.plainGet K Q0 Str.empty = true) (hd_Q0 : PySem.W.hasDictIn K Q0 = true) (po_Q0 : PySem.W.plainOver K Q0 = true) (sa_Q0 : PySem.W.findIn K (.ref Q0) "__setattr__" = some (some (.builtin "object.__setattr__"))) (mk_Q0 : PySem.W.makesIn K Q0 = true) (kc_Q0 : PySem.W.keepIn K (.ref Q0) = true)
    (n_Q0_machine : PySem.W.findIn K (.ref Q0) "machine" = some none)
    (n_Q0_state : PySem.W.findIn K (.ref Q0) "state" = some none)
    (a14 : PySem.W.nsIn K mainGlobals "_law_number" = some (some (.ref f14)))
    (l14 : K.lookup f14 = some ⟨oc14, od14, .func (PySem.W.fnOf "_law_number" "_law_number" (defArgs s14) (defBody s14) (defScope s14) .none kV14 dc14 pm14 an14 cd14 ct14), sl14⟩) (q14 : PySem.W.codeIn K cd14 "_law_number" = true) (k14 : PySem.W.keepIn K (.ref f14) = true)
    (a15 : PySem.W.nsIn K mainGlobals "_law_draws" = some (some (.ref f15)))
    (l15 : K.lookup f15 = some ⟨oc15, od15, .func (PySem.W.fnOf "_law_draws" "_law_draws" (defArgs s15) (defBody s15) (defScope s15) .none kV15 dc15 pm15 an15 cd15 ct15), sl15⟩) (q15 : PySem.W.codeIn K cd15 "_law_draws" = true) (k15 : PySem.W.keepIn K (.ref f15) = true)
    (a16 : PySem.W.nsIn K mainGlobals "_law_draw" = some (some (.ref f16)))
    (l16 : K.lookup f16 = some ⟨oc16, od16, .func (PySem.W.fnOf "_law_draw" "_law_draw" (defArgs s16) (defBody s16) (defScope s16) .none kV16 dc16 pm16 an16 cd16 ct16), sl16⟩) (q16 : PySem.W.codeIn K cd16 "_law_draw" = true) (k16 : PySem.W.keepIn K (.ref f16) = true)
    (a17 : PySem.W.nsIn K mainGlobals "_law_pick" = some (some (.ref f17)))
    (l17 : K.lookup f17 = some ⟨oc17, od17, .func (PySem.W.fnOf "_law_pick" "_law_pick" (defArgs s17) (defBody s17) (defScope s17) .none kV17 dc17 pm17 an17 cd17 ct17), sl17⟩) (q17 : PySem.W.codeIn K cd17 "_law_pick" = true) (k17 : PySem.W.keepIn K (.ref f17) = true)
    (a18 : PySem.W.nsIn K mainGlobals "_law_machine" = some (some (.ref f18)))
    (l18 : K.lookup f18 = some ⟨oc18, od18, .func (PySem.W.fnOf "_law_machine" "_law_machine" (defArgs s18) (defBody s18) (defScope s18) .none kV18 dc18 pm18 an18 cd18 ct18), sl18⟩) (q18 : PySem.W.codeIn K cd18 "_law_machine" = true) (k18 : PySem.W.keepIn K (.ref f18) = true)
    (a23 : PySem.W.nsIn K mainGlobals "_law_spoilt" = some (some (.ref f23)))
    (l23 : K.lookup f23 = some ⟨oc23, od23, .func (PySem.W.fnOf "_law_spoilt" "_law_spoilt" (defArgs s23) (defBody s23) (defScope s23) .none kV23 dc23 pm23 an23 cd23 ct23), sl23⟩) (q23 : PySem.W.codeIn K cd23 "_law_spoilt" = true) (k23 : PySem.W.keepIn K (.ref f23) = true)
    (a22 : PySem.W.nsIn K mainGlobals "_law_word" = some (some (.ref f22)))
    (l22 : K.lookup f22 = some ⟨oc22, od22, .func (PySem.W.fnOf "_law_word" "_law_word" (defArgs s22) (defBody s22) (defScope s22) .none kV22 dc22 pm22 an22 cd22 ct22), sl22⟩) (q22 : PySem.W.codeIn K cd22 "_law_word" = true) (k22 : PySem.W.keepIn K (.ref f22) = true)
    (a24 : PySem.W.nsIn K mainGlobals "_law_is" = some (some (.ref f24)))
    (l24 : K.lookup f24 = some ⟨oc24, od24, .func (PySem.W.fnOf "_law_is" "_law_is" (defArgs s24) (defBody s24) (defScope s24) .none kV24 dc24 pm24 an24 cd24 ct24), sl24⟩) (q24 : PySem.W.codeIn K cd24 "_law_is" = true) (k24 : PySem.W.keepIn K (.ref f24) = true)
    (a7 : PySem.W.nsIn K mainGlobals "is_machine" = some (some (.ref f7)))
    (l7 : K.lookup f7 = some ⟨oc7, od7, .func (PySem.W.fnOf "is_machine" "is_machine" (defArgs s7) (defBody s7) (defScope s7) .none kV7 dc7 pm7 an7 cd7 ct7), sl7⟩) (q7 : PySem.W.codeIn K cd7 "is_machine" = true) (k7 : PySem.W.keepIn K (.ref f7) = true)
    (a8 : PySem.W.nsIn K mainGlobals "check_machine" = some (some (.ref f8)))
    (l8 : K.lookup f8 = some ⟨oc8, od8, .func (PySem.W.fnOf "check_machine" "check_machine" (defArgs s8) (defBody s8) (defScope s8) .none kV8 dc8 pm8 an8 cd8 ct8), sl8⟩) (q8 : PySem.W.codeIn K cd8 "check_machine" = true) (k8 : PySem.W.keepIn K (.ref f8) = true)
    (a10 : PySem.W.nsIn K mainGlobals "begin" = some (some (.ref f10)))
    (l10 : K.lookup f10 = some ⟨oc10, od10, .func (PySem.W.fnOf "begin" "begin" (defArgs s10) (defBody s10) (defScope s10) .none kV10 dc10 pm10 an10 cd10 ct10), sl10⟩) (q10 : PySem.W.codeIn K cd10 "begin" = true) (k10 : PySem.W.keepIn K (.ref f10) = true)
    (a11_0 : PySem.W.findIn K (.ref Q0) "__init__" = some (some (.ref f11_0))) (i11_0 : PySem.W.isFn K (.ref f11_0) = true)
    (l11_0 : K.lookup f11_0 = some ⟨oc11_0, od11_0, .func (PySem.W.fnOf "__init__" "Walker.__init__" (defArgs s11_0) (defBody s11_0) (defScope s11_0) .none kV11_0 dc11_0 pm11_0 an11_0 cd11_0 ct11_0), sl11_0⟩) (q11_0 : PySem.W.codeIn K cd11_0 "Walker.__init__" = true) (k11_0 : PySem.W.keepIn K (.ref f11_0) = true)
    (a26 : PySem.W.nsIn K mainGlobals "_law_checked" = some (some (.ref f26)))
    (l26 : K.lookup f26 = some ⟨oc26, od26, .func (PySem.W.fnOf "_law_checked" "_law_checked" (defArgs s26) (defBody s26) (defScope s26) .none kV26 dc26 pm26 an26 cd26 ct26), sl26⟩) (q26 : PySem.W.codeIn K cd26 "_law_checked" = true) (k26 : PySem.W.keepIn K (.ref f26) = true)
    (a20 : PySem.W.nsIn K mainGlobals "_law_start" = some (some (.ref f20)))
    (l20 : K.lookup f20 = some ⟨oc20, od20, .func (PySem.W.fnOf "_law_start" "_law_start" (defArgs s20) (defBody s20) (defScope s20) .none kV20 dc20 pm20 an20 cd20 ct20), sl20⟩) (q20 : PySem.W.codeIn K cd20 "_law_start" = true) (k20 : PySem.W.keepIn K (.ref f20) = true)
    (a19 : PySem.W.nsIn K mainGlobals "_law_step" = some (some (.ref f19)))
    (l19 : K.lookup f19 = some ⟨oc19, od19, .func (PySem.W.fnOf "_law_step" "_law_step" (defArgs s19) (defBody s19) (defScope s19) .none kV19 dc19 pm19 an19 cd19 ct19), sl19⟩) (q19 : PySem.W.codeIn K cd19 "_law_step" = true) (k19 : PySem.W.keepIn K (.ref f19) = true)
    (a21 : PySem.W.nsIn K mainGlobals "_law_takes" = some (some (.ref f21)))
    (l21 : K.lookup f21 = some ⟨oc21, od21, .func (PySem.W.fnOf "_law_takes" "_law_takes" (defArgs s21) (defBody s21) (defScope s21) .none kV21 dc21 pm21 an21 cd21 ct21), sl21⟩) (q21 : PySem.W.codeIn K cd21 "_law_takes" = true) (k21 : PySem.W.keepIn K (.ref f21) = true)
    (a9 : PySem.W.nsIn K mainGlobals "step" = some (some (.ref f9)))
    (l9 : K.lookup f9 = some ⟨oc9, od9, .func (PySem.W.fnOf "step" "step" (defArgs s9) (defBody s9) (defScope s9) .none kV9 dc9 pm9 an9 cd9 ct9), sl9⟩) (q9 : PySem.W.codeIn K cd9 "step" = true) (k9 : PySem.W.keepIn K (.ref f9) = true)
    (a11_2 : PySem.W.findIn K (.ref Q0) "read" = some (some (.ref f11_2))) (i11_2 : PySem.W.isFn K (.ref f11_2) = true)
    (l11_2 : K.lookup f11_2 = some ⟨oc11_2, od11_2, .func (PySem.W.fnOf "read" "Walker.read" (defArgs s11_2) (defBody s11_2) (defScope s11_2) .none kV11_2 dc11_2 pm11_2 an11_2 cd11_2 ct11_2), sl11_2⟩) (q11_2 : PySem.W.codeIn K cd11_2 "Walker.read" = true) (k11_2 : PySem.W.keepIn K (.ref f11_2) = true)
    (a11_1 : PySem.W.findIn K (.ref Q0) "is_accepted" = some (some (.ref p11_1))) (pg11_1 : PySem.W.specialIn K (.ref p11_1) "__get__" = some (some (.builtin "property.__get__"))) (pt11_1 : PySem.W.takesIn K (.ref p11_1) = some true) (pr11_1 : PySem.W.recIn K p11_1 "property" = some (.ref f11_1 :: rs11_1))
    (l11_1 : K.lookup f11_1 = some ⟨oc11_1, od11_1, .func (PySem.W.fnOf "is_accepted" "Walker.is_accepted" (defArgs s11_1) (defBody s11_1) (defScope s11_1) .none kV11_1 dc11_1 pm11_1 an11_1 cd11_1 ct11_1), sl11_1⟩) (q11_1 : PySem.W.codeIn K cd11_1 "Walker.is_accepted" = true) (k11_1 : PySem.W.keepIn K (.ref f11_1) = true)
    (a12 : PySem.W.nsIn K mainGlobals "accepts" = some (some (.ref f12)))
    (l12 : K.lookup f12 = some ⟨oc12, od12, .func (PySem.W.fnOf "accepts" "accepts" (defArgs s12) (defBody s12) (defScope s12) .none kV12 dc12 pm12 an12 cd12 ct12), sl12⟩) (q12 : PySem.W.codeIn K cd12 "accepts" = true) (k12 : PySem.W.keepIn K (.ref f12) = true)
    (a25 : PySem.W.nsIn K mainGlobals "_law_told" = some (some (.ref f25)))
    (l25 : K.lookup f25 = some ⟨oc25, od25, .func (PySem.W.fnOf "_law_told" "_law_told" (defArgs s25) (defBody s25) (defScope s25) .none kV25 dc25 pm25 an25 cd25 ct25), sl25⟩) (q25 : PySem.W.codeIn K cd25 "_law_told" = true) (k25 : PySem.W.keepIn K (.ref f25) = true)
    (a27 : PySem.W.nsIn K mainGlobals "_law_refuses" = some (some (.ref f27)))
    (l27 : K.lookup f27 = some ⟨oc27, od27, .func (PySem.W.fnOf "_law_refuses" "_law_refuses" (defArgs s27) (defBody s27) (defScope s27) .none kV27 dc27 pm27 an27 cd27 ct27), sl27⟩) (q27 : PySem.W.codeIn K cd27 "_law_refuses" = true) (k27 : PySem.W.keepIn K (.ref f27) = true)
    (a28 : PySem.W.nsIn K mainGlobals "_law_walks" = some (some (.ref f28)))
    (l28 : K.lookup f28 = some ⟨oc28, od28, .func (PySem.W.fnOf "_law_walks" "_law_walks" (defArgs s28) (defBody s28) (defScope s28) .none kV28 dc28 pm28 an28 cd28 ct28), sl28⟩) (q28 : PySem.W.codeIn K cd28 "_law_walks" = true) (k28 : PySem.W.keepIn K (.ref f28) = true)
    (a29 : PySem.W.nsIn K mainGlobals "law" = some (some (.ref f29)))
    (l29 : K.lookup f29 = some ⟨oc29, od29, .func (PySem.W.fnOf "law" "law" (defArgs s29) (defBody s29) (defScope s29) .none kV29 dc29 pm29 an29 cd29 ct29), sl29⟩) (q29 : PySem.W.codeIn K cd29 "law" = true) (k29 : PySem.W.keepIn K (.ref f29) = true)
    (c_MOST_LETTERS : PySem.W.nsIn K mainGlobals "MOST_LETTERS" = some (some (.int 6 t_MOST_LETTERS)))
    (c_MOST_STATES : PySem.W.nsIn K mainGlobals "MOST_STATES" = some (some (.int 2000 t_MOST_STATES)))
    (z_ValueError : PySem.W.nsIn K mainGlobals "ValueError" = some none)
    (z_bool : PySem.W.nsIn K mainGlobals "bool" = some none)
    (z_int : PySem.W.nsIn K mainGlobals "int" = some none)
    (z_isinstance : PySem.W.nsIn K mainGlobals "isinstance" = some none)
    (z_len : PySem.W.nsIn K mainGlobals "len" = some none)
    (z_list : PySem.W.nsIn K mainGlobals "list" = some none)
    (z_range : PySem.W.nsIn K mainGlobals "range" = some none)
    (z_tuple : PySem.W.nsIn K mainGlobals "tuple" = some none)
    (g_0 : PySem.W.nsIn K mainGlobals "YardsortError" = some (some (.ref C0))) (x_0 : PySem.W.excIn K C0 [.type "ValueError", .type "Exception", .type "BaseException", .type "object"] "ValueError.__new__" = true) (k_0 : PySem.W.keepIn K (.ref C0) = true) (b_0 : PySem.W.subIn K (.ref C0) (.type "BaseException") = some true) (t_0 : PySem.W.typeIn K (.ref C0) = some (.type "type"))
    (g_9 : PySem.W.nsIn K mainGlobals "NotMachine" = some (some (.ref C9))) (x_9 : PySem.W.excIn K C9 [.type "ValueError", .type "Exception", .type "BaseException", .type "object"] "ValueError.__new__" = true) (k_9 : PySem.W.keepIn K (.ref C9) = true) (b_9 : PySem.W.subIn K (.ref C9) (.type "BaseException") = some true) (t_9 : PySem.W.typeIn K (.ref C9) = some (.type "type"))
    (g_10 : PySem.W.nsIn K mainGlobals "NotWord" = some (some (.ref C10))) (x_10 : PySem.W.excIn K C10 [.type "ValueError", .type "Exception", .type "BaseException", .type "object"] "ValueError.__new__" = true) (k_10 : PySem.W.keepIn K (.ref C10) = true) (b_10 : PySem.W.subIn K (.ref C10) (.type "BaseException") = some true) (t_10 : PySem.W.typeIn K (.ref C10) = some (.type "type"))
    (i_0 : PySem.W.isClsIn K C0 = true) (u_0_0 : PySem.W.subIn K (.ref C0) (.ref C0) = some true) (u_9_0 : PySem.W.subIn K (.ref C9) (.ref C0) = some true) (u_10_0 : PySem.W.subIn K (.ref C10) (.ref C0) = some true)
    (i_9 : PySem.W.isClsIn K C9 = true) (u_0_9 : PySem.W.subIn K (.ref C0) (.ref C9) = some false) (u_9_9 : PySem.W.subIn K (.ref C9) (.ref C9) = some true) (u_10_9 : PySem.W.subIn K (.ref C10) (.ref C9) = some false)
    (i_10 : PySem.W.isClsIn K C10 = true) (u_0_10 : PySem.W.subIn K (.ref C0) (.ref C10) = some false) (u_9_10 : PySem.W.subIn K (.ref C9) (.ref C10) = some false) (u_10_10 : PySem.W.subIn K (.ref C10) (.ref C10) = some true)
    (xa_0 : PySem.W.findIn K (.ref C0) "__getattribute__" = some (some (.builtin "BaseException.__getattribute__"))) (xb_0 : PySem.W.findIn K (.ref C0) "__getattr__" = some none) (xc_0 : PySem.W.hasDictIn K C0 = true) (xd_0 : PySem.W.findIn K (.ref C0) "__class__" = some (some (.builtin "object.__class__"))) (xe_0 : PySem.W.mroIn K C0 (.type "object") = some true)
    (xa_9 : PySem.W.findIn K (.ref C9) "__getattribute__" = some (some (.builtin "BaseException.__getattribute__"))) (xb_9 : PySem.W.findIn K (.ref C9) "__getattr__" = some none) (xc_9 : PySem.W.hasDictIn K C9 = true) (xd_9 : PySem.W.findIn K (.ref C9) "__class__" = some (some (.builtin "object.__class__"))) (xe_9 : PySem.W.mroIn K C9 (.type "object") = some true)
    (xa_10 : PySem.W.findIn K (.ref C10) "__getattribute__" = some (some (.builtin "BaseException.__getattribute__"))) (xb_10 : PySem.W.findIn K (.ref C10) "__getattr__" = some none) (xc_10 : PySem.W.hasDictIn K C10 = true) (xd_10 : PySem.W.findIn K (.ref C10) "__class__" = some (some (.builtin "object.__class__"))) (xe_10 : PySem.W.mroIn K C10 (.type "object") = some true)
    (yn : PySem.W.specialIn K (.builtin "object.__class__") "__get__" = some (some (.builtin "getset_descriptor.__get__"))) (yt : PySem.W.takesIn K (.builtin "object.__class__") = some true)
    (v_0_NotMachine : PySem.W.kitOne K (.ref C0) (.ref C9) = some false)
    (v_9_NotMachine : PySem.W.kitOne K (.ref C9) (.ref C9) = some true)
    (v_10_NotMachine : PySem.W.kitOne K (.ref C10) (.ref C9) = some false)
    (v_0_NotWord : PySem.W.kitOne K (.ref C0) (.ref C10) = some false)
    (v_9_NotWord : PySem.W.kitOne K (.ref C9) (.ref C10) = some false)
    (v_10_NotWord : PySem.W.kitOne K (.ref C10) (.ref C10) = some true)
    (v_0_ValueError : PySem.W.kitOne K (.ref C0) (.type "ValueError") = some true)
    (v_9_ValueError : PySem.W.kitOne K (.ref C9) (.type "ValueError") = some true)
    (v_10_ValueError : PySem.W.kitOne K (.ref C10) (.type "ValueError") = some true)
    (w_non_bool : PySem.W.kitOne K (.type "NoneType") (.type "bool") = some false)
    (w_bl_bool : PySem.W.kitOne K (.type "bool") (.type "bool") = some true)
    (w_int_bool : PySem.W.kitOne K (.type "int") (.type "bool") = some false)
    (w_str_bool : PySem.W.kitOne K (.type "str") (.type "bool") = some false)
    (w_lst_bool : PySem.W.kitOne K (.type "list") (.type "bool") = some false)
    (w_tup_bool : PySem.W.kitOne K (.type "tuple") (.type "bool") = some false)
    : ∃ (fd : FuncData) (cl : Cl), (∀ (s : Shared) (v : Value), BindsTo s fd ⟨[v], []⟩ [("_law_script", v)]) ∧ ∀ base : Heap, K.In base → base.Ns mainGlobals mg → FnP l.prog w K mg base 8 fa fd ["_law_script"] (SpJ K cl [false] SLaw) := by
  have e := hfa.symm.trans (PySem.W.mg_of X G a29)
  cases e
  have F14 := fun_mk (st := s14) l14 q14 k14
  have F15 := fun_mk (st := s15) l15 q15 k15
  have F16 := fun_mk (st := s16) l16 q16 k16
  have F17 := fun_mk (st := s17) l17 q17 k17
  have F18 := fun_mk (st := s18) l18 q18 k18
  have F23 := fun_mk (st := s23) l23 q23 k23
  have F22 := fun_mk (st := s22) l22 q22 k22
  have F24 := fun_mk (st := s24) l24 q24 k24
  have F7 := fun_mk (st := s7) l7 q7 k7
  have F8 := fun_mk (st := s8) l8 q8 k8
  have F10 := fun_mk (st := s10) l10 q10 k10
  have F11_0 := fun_mk (st := s11_0) l11_0 q11_0 k11_0
  have F26 := fun_mk (st := s26) l26 q26 k26
  have F20 := fun_mk (st := s20) l20 q20 k20
  have F19 := fun_mk (st := s19) l19 q19 k19
  have F21 := fun_mk (st := s21) l21 q21 k21
  have F9 := fun_mk (st := s9) l9 q9 k9
  have F11_2 := fun_mk (st := s11_2) l11_2 q11_2 k11_2
  have F11_1 := fun_mk (st := s11_1) l11_1 q11_1 k11_1
  have F12 := fun_mk (st := s12) l12 q12 k12
  have F25 := fun_mk (st := s25) l25 q25 k25
  have F27 := fun_mk (st := s27) l27 q27 k27
  have F28 := fun_mk (st := s28) l28 q28 k28
  have F29 := fun_mk (st := s29) l29 q29 k29
  have T : Txt K mg f14 f15 f16 f17 f18 f23 f22 f24 f7 f8 f10 f11_0 f26 f20 f19 f21 f9 f11_2 f11_1 f12 f25 f27 f28 fa Q0 p11_1 _ _ _ _ _ _ _ _ _ _ _ _ _ _ _ _ _ _ _ _ _ _ _ _ C0 C9 C10 := ⟨PySem.W.mg_of X G a14, F14, F14.binds fun _ _ _ _ _ _ us hl => match us, hl with | [_], _ => rfl, PySem.W.mg_of X G a15, F15, F15.binds fun _ _ _ _ _ _ us hl => match us, hl with | [_], _ => rfl, PySem.W.mg_of X G a16, F16, F16.binds fun _ _ _ _ _ _ us hl => match us, hl with | [_], _ => rfl, PySem.W.mg_of X G a17, F17, F17.binds fun _ _ _ _ _ _ us hl => match us, hl with | [_, _], _ => rfl, PySem.W.mg_of X G a18, F18, F18.binds fun _ _ _ _ _ _ us hl => match us, hl with | [_, _, _], _ => rfl, PySem.W.mg_of X G a23, F23, F23.binds fun _ _ _ _ _ _ us hl => match us, hl with | [_, _], _ => rfl, PySem.W.mg_of X G a22, F22, F22.binds fun _ _ _ _ _ _ us hl => match us, hl with | [_, _, _], _ => rfl, PySem.W.mg_of X G a24, F24, F24.binds fun _ _ _ _ _ _ us hl => match us, hl with | [_], _ => rfl, PySem.W.mg_of X G a7, F7, F7.binds fun _ _ _ _ _ _ us hl => match us, hl with | [_], _ => rfl, PySem.W.mg_of X G a8, F8, F8.binds fun _ _ _ _ _ _ us hl => match us, hl with | [_], _ => rfl, PySem.W.mg_of X G a10, F10, F10.binds fun _ _ _ _ _ _ us hl => match us, hl with | [_], _ => rfl, ⟨mk_Q0, a11_0, i11_0, kc_Q0⟩, F11_0, F11_0.binds fun _ _ _ _ _ _ us hl => match us, hl with | [_, _], _ => rfl, PySem.W.mg_of X G a26, F26, F26.binds fun _ _ _ _ _ _ us hl => match us, hl with | [_, _], _ => rfl, PySem.W.mg_of X G a20, F20, F20.binds fun _ _ _ _ _ _ us hl => match us, hl with | [_], _ => rfl, PySem.W.mg_of X G a19, F19, F19.binds fun _ _ _ _ _ _ us hl => match us, hl with | [_, _, _], _ => rfl, PySem.W.mg_of X G a21, F21, F21.binds fun _ _ _ _ _ _ us hl => match us, hl with | [_, _], _ => rfl, PySem.W.mg_of X G a9, F9, F9.binds fun _ _ _ _ _ _ us hl => match us, hl with | [_, _, _], _ => rfl, ⟨a11_2, i11_2, k11_2⟩, F11_2, F11_2.binds fun _ _ _ _ _ _ us hl => match us, hl with | [_, _], _ => rfl, ⟨a11_1, pg11_1, pt11_1, ⟨_, pr11_1⟩⟩, F11_1, F11_1.binds fun _ _ _ _ _ _ us hl => match us, hl with | [_], _ => rfl, PySem.W.mg_of X G a12, F12, F12.binds fun _ _ _ _ _ _ us hl => match us, hl with | [_, _], _ => rfl, PySem.W.mg_of X G a25, F25, F25.binds fun _ _ _ _ _ _ us hl => match us, hl with | [_, _], _ => rfl, PySem.W.mg_of X G a27, F27, F27.binds fun _ _ _ _ _ _ us hl => match us, hl with | [_, _], _ => rfl, PySem.W.mg_of X G a28, F28, F28.binds fun _ _ _ _ _ _ us hl => match us, hl with | [_, _, _], _ => rfl, PySem.W.mg_of X G a29, F29, F29.binds fun _ _ _ _ _ _ us hl => match us, hl with | [_], _ => rfl, ⟨a_Q0, ⟨pg_Q0, hd_Q0, po_Q0, sa_Q0⟩, fun f hf => by
    simp only [clsT, List.mem_cons, List.not_mem_nil, or_false] at hf
    rcases hf with rfl | rfl
    · exact n_Q0_machine
    · exact n_Q0_state⟩, PySem.W.mg_of X G a_Q0, ⟨_, PySem.W.mg_of X G c_MOST_LETTERS⟩, ⟨_, PySem.W.mg_of X G c_MOST_STATES⟩, PySem.W.mg_none_of X G z_ValueError, PySem.W.mg_none_of X G z_bool, PySem.W.mg_none_of X G z_int, PySem.W.mg_none_of X G z_isinstance, PySem.W.mg_none_of X G z_len, PySem.W.mg_none_of X G z_list, PySem.W.mg_none_of X G z_range, PySem.W.mg_none_of X G z_tuple, x_0, PySem.W.mg_of X G g_0, k_0, b_0, t_0, x_9, PySem.W.mg_of X G g_9, k_9, b_9, t_9, x_10, PySem.W.mg_of X G g_10, k_10, b_10, t_10, (fun m hm => by
    have h : m = 0 ∨ m = 9 ∨ m = 10 := by simpa [okc, or_assoc] using hm
    rcases h with rfl | rfl | rfl
    · exact exm_of b_0 i_0 t_0 u_0_0
    · exact exm_of b_0 i_0 t_0 u_9_0
    · exact exm_of b_0 i_0 t_0 u_10_0), (fun m hm => by
    have h : m = 0 ∨ m = 9 ∨ m = 10 := by simpa [okc, or_assoc] using hm
    rcases h with rfl | rfl | rfl
    · exact exm_of b_9 i_9 t_9 u_0_9
    · exact exm_of b_9 i_9 t_9 u_9_9
    · exact exm_of b_9 i_9 t_9 u_10_9), (fun m hm => by
    have h : m = 0 ∨ m = 9 ∨ m = 10 := by simpa [okc, or_assoc] using hm
    rcases h with rfl | rfl | rfl
    · exact exm_of b_10 i_10 t_10 u_0_10
    · exact exm_of b_10 i_10 t_10 u_9_10
    · exact exm_of b_10 i_10 t_10 u_10_10), (fun m hm => by
    have h : m = 0 ∨ m = 9 ∨ m = 10 := by simpa [okc, or_assoc] using hm
    rcases h with rfl | rfl | rfl
    · exact ⟨xa_0, xb_0, b_0, xc_0, xd_0, yn, yt, xe_0⟩
    · exact ⟨xa_9, xb_9, b_9, xc_9, xd_9, yn, yt, xe_9⟩
    · exact ⟨xa_10, xb_10, b_10, xc_10, xd_10, yn, yt, xe_10⟩), (fun m hm => by
    have h : m = 0 ∨ m = 9 ∨ m = 10 := by simpa [okc, or_assoc] using hm
    rcases h with rfl | rfl | rfl
    · exact v_0_NotMachine
    · exact v_9_NotMachine
    · exact v_10_NotMachine), (fun m hm => by
    have h : m = 0 ∨ m = 9 ∨ m = 10 := by simpa [okc, or_assoc] using hm
    rcases h with rfl | rfl | rfl
    · exact v_0_NotWord
    · exact v_9_NotWord
    · exact v_10_NotWord), (fun m hm => by
    have h : m = 0 ∨ m = 9 ∨ m = 10 := by simpa [okc, or_assoc] using hm
    rcases h with rfl | rfl | rfl
    · exact v_0_ValueError
    · exact v_9_ValueError
    · exact v_10_ValueError), (fun t => by
    cases t
    · exact w_non_bool
    · exact w_bl_bool
    · exact w_int_bool
    · exact w_str_bool
    · exact w_lst_bool
    · exact w_tup_bool)⟩
  refine ⟨PySem.W.fnOf "law" "law" (defArgs s29) (defBody s29) (defScope s29) .none kV29 dc29 pm29 an29 cd29 ct29, (clOf C0 C9 C10), fun s v => .of_eq rfl, fun base _ _ => ?_⟩
  have G14 := ok14 (P := l.prog) (w := w) (base := base) T 
  have G15 := ok15 (P := l.prog) (w := w) (base := base) T G14
  have G16 := ok16 (P := l.prog) (w := w) (base := base) T 
  have G17 := ok17 (P := l.prog) (w := w) (base := base) T G16
  have G18 := ok18 (P := l.prog) (w := w) (base := base) T G17
  have G23 := ok23 (P := l.prog) (w := w) (base := base) T G17
  have G22 := ok22 (P := l.prog) (w := w) (base := base) T G17
  have G24 := ok24 (P := l.prog) (w := w) (base := base) T 
  have G7 := ok7 (P := l.prog) (w := w) (base := base) T 
  have G8 := ok8 (P := l.prog) (w := w) (base := base) T G7
  have G10 := ok10 (P := l.prog) (w := w) (base := base) T 
  have G11_0 := ok11_0 (P := l.prog) (w := w) (base := base) T G8 G10
  have G26 := ok26 (P := l.prog) (w := w) (base := base) T G8 G11_0
  have G20 := ok20 (P := l.prog) (w := w) (base := base) T 
  have G19 := ok19 (P := l.prog) (w := w) (base := base) T 
  have G21 := ok21 (P := l.prog) (w := w) (base := base) T G20 G19
  have G9 := ok9 (P := l.prog) (w := w) (base := base) T 
  have G11_2 := ok11_2 (P := l.prog) (w := w) (base := base) T G9
  have G11_1 := ok11_1 (P := l.prog) (w := w) (base := base) T 
  have GP11_1 := okP11_1 (P := l.prog) (w := w) (base := base) T
  have G12 := ok12 (P := l.prog) (w := w) (base := base) T G8 G11_0 G11_2 G11_1
  have G25 := ok25 (P := l.prog) (w := w) (base := base) T G12
  have G27 := ok27 (P := l.prog) (w := w) (base := base) T G11_1 G11_2 GP11_1
  have G28 := ok28 (P := l.prog) (w := w) (base := base) T G11_0 G20 G11_1 G21 G27 G17 G11_2 G19
  exact ok29 T G15 G18 G17 G23 G22 G24 G7 G26 G21 G25 G28
end J
open PySem PySem.W PyProof.Rows
set_option pp.maxSteps 60 in
set_option maxHeartbeats 0 in
theorem PySem.Challenge.cw_yardsort_k27_accepts_and_walkers_holds : PySem.Challenge.rw_yardsort_k27_accepts_and_walkers.Holds := by
  w_on; o_law; k_head; (case hw => w_witness2)
  k_fill
  refine J.law_end (l := PySem.Challenge.rw_yardsort_k27_accepts_and_walkers) (k := 8) (x := "_law_script") rfl rfl ⟨rfl, by decide, by decide⟩ (fun w h Y => PySem.W.kIn_of Y) ?F
  case F =>
    intro w mg fa h KX G hmg
    refine' J.all_mk KX G hmg ?a_Q0 ?pg_Q0 ?hd_Q0 ?po_Q0 ?sa_Q0 ?mk_Q0 ?kc_Q0 ?n_Q0_machine ?n_Q0_state ?a14 ?l14 ?q14 ?k14 ?a15 ?l15 ?q15 ?k15 ?a16 ?l16 ?q16 ?k16 ?a17 ?l17 ?q17 ?k17 ?a18 ?l18 ?q18 ?k18 ?a23 ?l23 ?q23 ?k23 ?a22 ?l22 ?q22 ?k22 ?a24 ?l24 ?q24 ?k24 ?a7 ?l7 ?q7 ?k7 ?a8 ?l8 ?q8 ?k8 ?a10 ?l10 ?q10 ?k10 ?a11_0 ?i11_0 ?l11_0 ?q11_0 ?k11_0 ?a26 ?l26 ?q26 ?k26 ?a20 ?l20 ?q20 ?k20 ?a19 ?l19 ?q19 ?k19 ?a21 ?l21 ?q21 ?k21 ?a9 ?l9 ?q9 ?k9 ?a11_2 ?i11_2 ?l11_2 ?q11_2 ?k11_2 ?a11_1 ?pg11_1 ?pt11_1 ?pr11_1 ?l11_1 ?q11_1 ?k11_1 ?a12 ?l12 ?q12 ?k12 ?a25 ?l25 ?q25 ?k25 ?a27 ?l27 ?q27 ?k27 ?a28 ?l28 ?q28 ?k28 ?a29 ?l29 ?q29 ?k29 ?c_MOST_LETTERS ?c_MOST_STATES ?z_ValueError ?z_bool ?z_int ?z_isinstance ?z_len ?z_list ?z_range ?z_tuple ?g_0 ?x_0 ?k_0 ?b_0 ?t_0 ?g_9 ?x_9 ?k_9 ?b_9 ?t_9 ?g_10 ?x_10 ?k_10 ?b_10 ?t_10 ?i_0 ?u_0_0 ?u_9_0 ?u_10_0 ?i_9 ?u_0_9 ?u_9_9 ?u_10_9 ?i_10 ?u_0_10 ?u_9_10 ?u_10_10 ?xa_0 ?xb_0 ?xc_0 ?xd_0 ?xe_0 ?xa_9 ?xb_9 ?xc_9 ?xd_9 ?xe_9 ?xa_10 ?xb_10 ?xc_10 ?xd_10 ?xe_10 ?yn ?yt ?v_0_NotMachine ?v_9_NotMachine ?v_10_NotMachine ?v_0_NotWord ?v_9_NotWord ?v_10_NotWord ?v_0_ValueError ?v_9_ValueError ?v_10_ValueError ?w_non_bool ?w_bl_bool ?w_int_bool ?w_str_bool ?w_lst_bool ?w_tup_bool
    (case a_Q0 => k_is); (case pg_Q0 => k_is); (case hd_Q0 => k_is); (case po_Q0 => k_is); (case sa_Q0 => k_is); (case mk_Q0 => k_is); (case kc_Q0 => k_is); (case n_Q0_machine => k_is); (case n_Q0_state => k_is); (case a14 => k_is); (case l14 => k_is); (case q14 => k_is); (case k14 => k_is); (case a15 => k_is); (case l15 => k_is); (case q15 => k_is); (case k15 => k_is); (case a16 => k_is); (case l16 => k_is); (case q16 => k_is); (case k16 => k_is); (case a17 => k_is); (case l17 => k_is); (case q17 => k_is); (case k17 => k_is); (case a18 => k_is); (case l18 => k_is); (case q18 => k_is); (case k18 => k_is); (case a23 => k_is); (case l23 => k_is); (case q23 => k_is); (case k23 => k_is); (case a22 => k_is); (case l22 => k_is); (case q22 => k_is); (case k22 => k_is); (case a24 => k_is); (case l24 => k_is); (case q24 => k_is); (case k24 => k_is); (case a7 => k_is); (case l7 => k_is); (case q7 => k_is); (case k7 => k_is); (case a8 => k_is); (case l8 => k_is); (case q8 => k_is); (case k8 => k_is); (case a10 => k_is); (case l10 => k_is); (case q10 => k_is); (case k10 => k_is); (case a11_0 => k_is); (case i11_0 => k_is); (case l11_0 => k_is); (case q11_0 => k_is); (case k11_0 => k_is); (case a26 => k_is); (case l26 => k_is); (case q26 => k_is); (case k26 => k_is); (case a20 => k_is); (case l20 => k_is); (case q20 => k_is); (case k20 => k_is); (case a19 => k_is); (case l19 => k_is); (case q19 => k_is); (case k19 => k_is); (case a21 => k_is); (case l21 => k_is); (case q21 => k_is); (case k21 => k_is); (case a9 => k_is); (case l9 => k_is); (case q9 => k_is); (case k9 => k_is); (case a11_2 => k_is); (case i11_2 => k_is); (case l11_2 => k_is); (case q11_2 => k_is); (case k11_2 => k_is); (case a11_1 => k_is); (case pg11_1 => k_is); (case pt11_1 => k_is); (case pr11_1 => k_is); (case l11_1 => k_is); (case q11_1 => k_is); (case k11_1 => k_is); (case a12 => k_is); (case l12 => k_is); (case q12 => k_is); (case k12 => k_is); (case a25 => k_is); (case l25 => k_is); (case q25 => k_is); (case k25 => k_is); (case a27 => k_is); (case l27 => k_is); (case q27 => k_is); (case k27 => k_is); (case a28 => k_is); (case l28 => k_is); (case q28 => k_is); (case k28 => k_is); (case a29 => k_is); (case l29 => k_is); (case q29 => k_is); (case k29 => k_is); (case c_MOST_LETTERS => k_is); (case c_MOST_STATES => k_is); (case z_ValueError => k_is); (case z_bool => k_is); (case z_int => k_is); (case z_isinstance => k_is); (case z_len => k_is); (case z_list => k_is); (case z_range => k_is); (case z_tuple => k_is); (case g_0 => k_is); (case x_0 => k_exc); (case k_0 => k_is); (case b_0 => k_is); (case t_0 => k_is); (case g_9 => k_is); (case x_9 => k_exc); (case k_9 => k_is); (case b_9 => k_is); (case t_9 => k_is); (case g_10 => k_is); (case x_10 => k_exc); (case k_10 => k_is); (case b_10 => k_is); (case t_10 => k_is); (case i_0 => k_is); (case u_0_0 => first | rfl | k_is); (case u_9_0 => first | rfl | k_is); (case u_10_0 => first | rfl | k_is); (case i_9 => k_is); (case u_0_9 => first | rfl | k_is); (case u_9_9 => first | rfl | k_is); (case u_10_9 => first | rfl | k_is); (case i_10 => k_is); (case u_0_10 => first | rfl | k_is); (case u_9_10 => first | rfl | k_is); (case u_10_10 => first | rfl | k_is); (case xa_0 => k_is); (case xb_0 => k_is); (case xc_0 => k_is); (case xd_0 => k_is); (case xe_0 => k_is); (case xa_9 => k_is); (case xb_9 => k_is); (case xc_9 => k_is); (case xd_9 => k_is); (case xe_9 => k_is); (case xa_10 => k_is); (case xb_10 => k_is); (case xc_10 => k_is); (case xd_10 => k_is); (case xe_10 => k_is); (case yn => k_is); (case yt => k_is); (case v_0_NotMachine => first | rfl | k_is); (case v_9_NotMachine => first | rfl | k_is); (case v_10_NotMachine => first | rfl | k_is); (case v_0_NotWord => first | rfl | k_is); (case v_9_NotWord => first | rfl | k_is); (case v_10_NotWord => first | rfl | k_is); (case v_0_ValueError => first | rfl | k_is); (case v_9_ValueError => first | rfl | k_is); (case v_10_ValueError => first | rfl | k_is); (case w_non_bool => first | rfl | k_is); (case w_bl_bool => first | rfl | k_is); (case w_int_bool => first | rfl | k_is); (case w_str_bool => first | rfl | k_is); (case w_lst_bool => first | rfl | k_is); (case w_tup_bool => first | rfl | k_is)
