import PyProof.Rows.All
import Wide.All
import OpenK.AllK
import Wide.FinOn
import HandS.ForMost
import HandS.ForExc
import HandS.TupAny
import HandS.More
import HandS.IsInst
import PyProof.AutoSeq1
import HandS.Iter
import HandS.Comp
import HandS.Style
import PyProof.StrBlock2
import HandS.Defaults
import HandS.WordsExc
import HandS.Zip
import HandS.TryMany
import HandS.ExcIs
import KE.KSortTupAny
import HandS.SortOrd
import HandS.ExcOwn
import HandS.ReplaceLit
import HandS.Head0
import HandS.Head1
import HandS.Head2
import HandS.HeadEnd
import HandS.HeadHook1
import HandS.HeadHook2
import HandS.HeadHook3
import HandS.HeadHook4
import HandS.Codes
import Open.Row
import PySem.Challenge.RW_closuremill_k12_functions_made_in_turn
set_option Elab.async false
set_option linter.all false
set_option maxRecDepth 100000
set_option maxHeartbeats 0
/-! a small pure language over data, and what its texts do -/
namespace Mi
open PySem

/-- data: what is never changed any more -/
inductive D where
  | non | bl (b : Bool) | int (i : Int) | str (x : Str)
  | tup (xs : List D) | lst (xs : List D) | scr (ns : List Int) | kt (xs : List Str)
  | dct (ks : List Str) (xs : List D)
  | obj (c : Nat) (xs : List D)

/-- what stands in a slot: nothing, data, a list or dict of its own, the exception that a suite holds -/
inductive Cl where
  | un | val (d : D) | lst (xs : List D) | dct (ks : List Str) (xs : List D) | exn (c : Nat)
abbrev S := List Cl
def gt (s : S) (i : Nat) : Cl := s.getD i .un
def Cl.own : Cl → Bool
  | .lst _ => true
  | .dct _ _ => true
  | _ => false
def Cl.fz : Cl → Option D
  | .val d => some d
  | .lst xs => some (.lst xs)
  | .dct ks xs => some (.dct ks xs)
  | _ => none

/-- data that stand in a slot as such -/
def Cl.vl : Cl → Option D
  | .val d => some d
  | _ => none

inductive R (α : Type) where
  | ok (a : α) (s : S)
  | ex (c : Nat) (s : S)
def bnd {α β : Type} (x : Option (R α)) (k : α → S → Option (R β)) : Option (R β) :=
  match x with
  | none => none
  | some (.ok a s) => k a s
  | some (.ex c s) => some (.ex c s)
@[simp] theorem bnd_none {α β : Type} (k : α → S → Option (R β)) : bnd none k = none := rfl
@[simp] theorem bnd_ok {α β : Type} (a : α) (s : S) (k : α → S → Option (R β)) : bnd (some (.ok a s)) k = k a s := rfl
@[simp] theorem bnd_ex {α β : Type} (c : Nat) (s : S) (k : α → S → Option (R β)) : bnd (some (.ex c s)) k = some (.ex c s) := rfl

/-- a result: fresh or data, or the slot whose own thing it is -/
inductive Ro where
  | fr (c : Cl)
  | pt (i : Nat)
def cont (s : S) : Ro → Cl
  | .fr c => c
  | .pt i => gt s i
/-- as data; what was its own is so no more -/
def toV (r : Option (R Ro)) : Option (R D) := bnd r fun o s => match o with
  | .fr c => c.fz.map fun d => .ok d s
  | .pt i => (gt s i).fz.map fun d => .ok d (s.set i (.val d))
/-- as an operand -/
def toO (r : Option (R Ro)) : Option (R Ro) := bnd r fun o s => match o with
  | .fr c => c.fz.map fun d => .ok (.fr (.val d)) s
  | .pt i => some (.ok (.pt i) s)
/-- as what a name is bound to: a fresh thing stays its own -/
def toW (r : Option (R Ro)) : Option (R Cl) := bnd r fun o s => match o with
  | .fr c => some (.ok c s)
  | .pt i => (gt s i).fz.map fun d => .ok (.val d) (s.set i (.val d))

/-- arguments and answers of a function -/
inductive Ag where
  | cl (c : Cl)
  | obj (c : Nat) (xs : List Cl)
inductive FR where
  | ok (r : Ag) (outs : List Ag)
  | ex (c : Nat)
abbrev Env := Nat → List Ag → Option FR
inductive Aa where
  | d (x : D)
  | rf (i : Nat)
def Aa.ag (s : S) : Aa → Ag
  | .d x => .cl (.val x)
  | .rf i => .cl (gt s i)
def rfs : List Aa → List Nat
  | [] => []
  | .d _ :: r => rfs r
  | .rf i :: r => i :: rfs r
def dats : List Aa → Option (List D)
  | [] => some []
  | .d x :: r => (dats r).map fun l => x :: l
  | .rf _ :: _ => none
/-- the slots that were lent come back -/
def back (s : S) : List Aa → List Ag → S
  | .rf i :: l, .cl c :: r => (back s l r).set i c
  | _ :: l, _ :: r => back s l r
  | _, _ => s
def lose (s : S) : List Nat → S
  | [] => s
  | i :: r => (lose s r).set i .un

inductive BO where
  | add | sub | mul | fdiv | mod | pow
  deriving DecidableEq
inductive CO where
  | eq | ne | lt | le | gt | ge | isin | nin | isn | notn
  deriving DecidableEq
inductive BF where
  | len | list | tup | str | int | abs | min | sort | dict
  deriving DecidableEq
inductive MT where
  | append | pop | insert | extend | join | repl
  deriving DecidableEq
inductive Ty where
  | int | bool | str | tup | list | cls (c : Nat)
  deriving DecidableEq

/-- what a for walks -/
inductive It where
  | seq | rng | rvs | rg3
  deriving DecidableEq
inductive CE where
  | v (i : Nat)
  | c (d : D)
  | g (x : Str) (d : D)
  | r (i : Nat)
  | bin (o : BO) (a b : CE)
  | neg (a : CE)
  | cmp (o : CO) (a b : CE)
  | chn (o p : CO) (a b e : CE)
  | and (a b : CE)
  | or (a b : CE)
  | not (a : CE)
  | ifx (t a b : CE)
  | tup (es : List CE)
  | lst (es : List CE)
  | dnew
  | dct1 (i : Nat) (j : Int) (k : Nat)
  | ix (a b : CE)
  | dix (a b : CE)
  | din (a b : CE)
  | dnin (a b : CE)
  | sl (a lo hi : CE)
  | rev (a : CE)
  | fld (a : CE) (c j : Nat)
  | isi (a : CE) (t : Ty)
  | isx (i : Nat) (ts ks : List Nat)
  | call (f : Nat) (es : List CE)
  | make (c f : Nat) (es : List CE)
  | bf (b : BF) (es : List CE)
  | mt (m : MT) (a : CE) (es : List CE)
  | comp (e : CE) (x : Nat) (it : CE) (k : It) (t : CE)
  | thw (c : CE) (i : Nat)

/-! ### operators by values -/
def asL : Cl → Option (List D)
  | .lst xs => some xs
  | .val (.lst xs) => some xs
  | .val (.scr ns) => some (ns.map .int)
  | _ => none
/-- a list that was made here -/
def asM : Cl → Option (List D)
  | .lst xs => some xs
  | .val (.lst xs) => some xs
  | _ => none
def asT : Cl → Option (List D)
  | .val (.tup xs) => some xs
  | .val (.kt xs) => some (xs.map .str)
  | _ => none
/-- a look that is never reckoned by unfolding -/
noncomputable def big (p : Prop) : Bool := @decide p (Classical.propDecidable p)
theorem big_iff {p : Prop} : big p = true ↔ p := by
  unfold big
  exact @decide_eq_true_iff p (Classical.propDecidable p)
noncomputable def cmul (i j : Int) : Bool := big ((-(2 ^ 64) < i ∧ i < 2 ^ 64) ∨ (-(2 ^ 64) < j ∧ j < 2 ^ 64))
def catop (x y : Cl) : Option Cl := (asM x).bind fun xs => (asM y).bind fun ys => if xs.length + ys.length ≤ sizeLine then some (.lst (xs ++ ys)) else none
def addop : Cl → Cl → Option Cl
  | .val (.int i), .val (.int j) => some (.val (.int (i + j)))
  | .val (.str x), .val (.str y) => if x.length + y.length ≤ sizeLine then some (.val (.str (x ++ y))) else none
  | .val (.tup xs), .val (.tup ys) => if xs.length + ys.length ≤ sizeLine then some (.val (.tup (xs ++ ys))) else none
  | x, y => catop x y
def numop (f : Int → Int → Option Int) : Cl → Cl → Option Cl
  | .val (.int i), .val (.int j) => (f i j).map fun k => .val (.int k)
  | _, _ => none
noncomputable def repop : Cl → Cl → Option Cl
  | .val (.int i), .val (.int j) => if cmul i j then some (.val (.int (i * j))) else none
  | .val (.str x), .val (.int j) => if 0 ≤ j ∧ j ≤ 1000 ∧ x.length ≤ 1000 then some (.val (.str ⟨((List.replicate j.toNat x.cps.toList).flatten).toArray⟩)) else none
  | x, .val (.int j) => (asM x).bind fun xs => if big (0 ≤ j ∧ j < 2 ^ 63) ∧ xs.length * j.toNat ≤ sizeLine then some (.lst (List.replicate j.toNat xs).flatten) else none
  | _, _ => none
noncomputable def binop : BO → Cl → Cl → Option Cl
  | .add => addop
  | .sub => numop fun i j => some (i - j)
  | .mul => repop
  | .fdiv => numop fun i j => if j ≠ 0 ∧ j.natAbs < 1073741824 then some (i.fdiv j) else none
  | .mod => numop fun i j => if j ≠ 0 then some (i.fmod j) else none
  | .pow => numop fun i j => if 0 ≤ j ∧ j ≤ 1000000 ∧ i.natAbs < 2 ^ 64 then some (i ^ j.toNat) else none

mutual
def toP : D → Option PyData
  | .non => some .none
  | .bl b => some (.bool b)
  | .int i => some (.int i)
  | .str x => some (.str x)
  | .tup xs => (toPs xs).map .tuple
  | .lst xs => (toPs xs).map .list
  | _ => none
def toPs : List D → Option (List PyData)
  | [] => some []
  | d :: r => (toP d).bind fun p => (toPs r).map fun ps => p :: ps
end
def flatD : D → Bool
  | .non => true
  | .bl _ => true
  | .int _ => true
  | .str _ => true
  | _ => false
/-- == of flat data -/
def eqF : D → D → Bool
  | .non, .non => true
  | .bl a, .bl b => a == b
  | .bl a, .int b => (if a then 1 else 0) == b
  | .int a, .bl b => a == (if b then 1 else 0)
  | .int a, .int b => a == b
  | .str a, .str b => a == b
  | _, _ => false
/-- flat things of which == is asked -/
def scalD : D → D → Bool
  | .non, .non => true | .non, .int _ => true | .int _, .non => true | .non, .bl _ => true | .bl _, .non => true | .non, .str _ => true | .str _, .non => true
  | .int _, .int _ => true | .bl _, .bl _ => true | .str _, .str _ => true
  | .int _, .str _ => true | .str _, .int _ => true | .bl _, .str _ => true | .str _, .bl _ => true
  | _, _ => false
def deepEq (p q : PyData) : Option Bool := if p.canLay0 && q.canLay0 && decide (p.depth ≤ 1000) then some (PyData.eqv p q) else none
def cEq (x y : Cl) : Option Bool := x.fz.bind fun d => y.fz.bind fun e => if scalD d e then some (eqF d e) else (toP d).bind fun p => (toP e).bind fun q => deepEq p q
/-- in a tuple, of any data -/
def deepIn (d : D) (y : Cl) : Option Bool := (asT y).bind fun ys => (toP d).bind fun p => (toPs ys).bind fun qs => if p.canLay0 && PyData.canLayAll0 qs && decide (p.depth ≤ 900) then some (qs.any fun q => PyData.eqv q p) else none
/-- a text of one sign -/
def oneSign : Cl → Option Nat
  | .val (.str ⟨⟨[c]⟩⟩) => some c
  | _ => none
def isIn (x y : Cl) : Option Bool := match y with
  | .val (.str z) => (oneSign x).map fun c => decide (c ∈ z.cps.toList)
  | y => x.fz.bind fun d => ((asL y).or (asT y)).bind fun ys => if flatD d && ys.all flatD then some (ys.any fun e => eqF e d) else deepIn d y
def cmpI (f : Int → Int → Bool) : Cl → Cl → Option Bool
  | .val (.int i), .val (.int j) => some (f i j)
  | _, _ => none
def isNon : Cl → Bool
  | .val .non => true
  | _ => false
def cmpop : CO → Cl → Cl → Option Bool
  | .eq => cEq
  | .ne => fun x y => (cEq x y).map (!·)
  | .lt => cmpI fun i j => decide (i < j)
  | .le => cmpI fun i j => decide (i ≤ j)
  | .gt => cmpI fun i j => decide (j < i)
  | .ge => cmpI fun i j => decide (j ≤ i)
  | .isin => isIn
  | .nin => fun x y => (isIn x y).map (!·)
  | .isn => fun x y => if isNon y && x.fz.isSome then some (isNon x) else none
  | .notn => fun x y => if isNon y && x.fz.isSome then some (!isNon x) else none
def truth : Cl → Option Bool
  | .val .non => some false
  | .val (.bl b) => some b
  | .val (.int i) => some (i != 0)
  | .val (.str x) => if x.length ≤ sizeLine then some ((x.length : Int) != 0) else none
  | .val (.tup xs) => some (!xs.isEmpty)
  | .dct ks _ => some (!ks.isEmpty)
  | c => (asL c).map fun xs => !xs.isEmpty
def ixop (x : Cl) (i : D) : Option D := match i with
  | .int i => (match x with
    | .val (.str z) => if z.length ≤ sizeLine then (L2.atI z.cps.toList i).map fun c => .str ⟨⟨[c]⟩⟩ else none
    | x => ((asL x).or (asT x)).bind fun xs => L2.atI xs i)
  | _ => none
def part (k : Bool) : D → Option (Option Int)
  | .int i => some (some i)
  | .non => if k then some none else none
  | _ => none
def cutL {α : Type} (xs : List α) (lo hi : Option Int) : List α := (xs.drop (HT.sIx xs.length 0 lo)).take (HT.sIx xs.length xs.length hi - HT.sIx xs.length 0 lo)
def slop (x : Cl) (lo hi : Option Int) : Option Cl := match x with
  | .val (.str z) => if z.length ≤ sizeLine then some (.val (.str (L2.cutS z lo hi))) else none
  | .val (.tup xs) => some (.val (.tup (cutL xs lo hi)))
  | x => (asL x).map fun xs => .lst (cutL xs lo hi)
def isi (x : Cl) (t : Ty) : Option Bool := match x with
  | .val .non => some false
  | .val (.bl _) => some (t == .bool || t == .int)
  | .val (.int _) => some (t == .int)
  | .val (.str _) => some (t == .str)
  | .val (.tup _) => some (t == .tup)
  | .val (.lst _) => some (t == .list)
  | .lst _ => some (t == .list)
  | .val (.obj c _) => some (t == .cls c)
  | _ => none
def txts : List D → Option (List Str)
  | [] => some []
  | .str x :: r => (txts r).map fun l => x :: l
  | _ :: _ => none
def joinLen (a : Str) (ys : List Str) : Nat := (ys.map (·.length)).sum + ys.length * a.length
/-- sorted: the one arrangement that Python gives (set by the soundness file's need) -/
def ltP : D → D → Bool
  | .tup [.int a, .str x], .tup [.int b, .str y] => if a = b then decide (x.cps.toList < y.cps.toList) else decide (a < b)
  | _, _ => false
def isP : D → Bool
  | .tup [.int _, .str _] => true
  | _ => false
def insP (x : D) : List D → List D
  | [] => [x]
  | y :: r => if ltP x y then x :: y :: r else y :: insP x r
def sortP (xs : List D) : List D := xs.foldl (fun acc x => insP x acc) []
def dlook (k : Str) : List Str → List D → Option D
  | k' :: ks, x :: xs => if k' = k then some x else dlook k ks xs
  | _, _ => none
def dput (k : Str) (d : D) : List Str → List D → List D
  | k' :: ks, x :: xs => if k' = k then d :: xs else x :: dput k d ks xs
  | _, _ => [d]
def dkeys (k : Str) (ks : List Str) : List Str := if k ∈ ks then ks else ks ++ [k]
def asD : Cl → Option (List Str × List D)
  | .dct ks xs => some (ks, xs)
  | .val (.dct ks xs) => some (ks, xs)
  | _ => none
/-- built-in functions -/
def bfop : BF → List Cl → Option Cl
  | .len, [.val (.str z)] => if z.length ≤ sizeLine then some (.val (.int z.length)) else none
  | .len, [x] => ((asL x).or (asT x)).map fun xs => .val (.int xs.length)
  | .list, [x] => ((asL x).or (asT x)).map fun xs => .lst xs
  | .tup, [x] => (asL x).map fun xs => .val (.tup xs)
  | .str, [.val (.int i)] => if i.natAbs.log2 < 1920 then some (.val (.str (toString i))) else none
  | .int, [.val (.bl b)] => some (.val (.int (if b then 1 else 0)))
  | .int, [.val (.int i)] => some (.val (.int i))
  | .int, [.val (.str x)] => if x.length ≤ 640 then (PySem.intText? x).map fun n => .val (.int n) else none
  | .abs, [.val (.int i)] => some (.val (.int (if i < 0 then -i else i)))
  | .min, [.val (.int i), .val (.int j)] => some (.val (.int (if j < i then j else i)))
  | .sort, [x] => (asM x).bind fun xs => if xs.all isP && decide (xs.length < 64) then some (.lst (sortP xs)) else none
  | .dict, [x] => (asD x).map fun p => .dct p.1 p.2
  | _, _ => none
/-- methods that change a list -/
def mutop : MT → Cl → List D → Option (D × Cl)
  | .append, .lst xs, [d] => if xs.length < sizeLine then some (.non, .lst (xs ++ [d])) else none
  | .pop, .lst xs, [] => xs.getLast?.map fun d => (d, .lst xs.dropLast)
  | .insert, .lst xs, [.int k, d] => if xs.length < sizeLine ∧ k = 0 then some (.non, .lst (d :: xs)) else none
  | .extend, .lst xs, [.lst ys] => if xs.length + ys.length ≤ sizeLine then some (.non, .lst (xs ++ ys)) else none
  | .extend, .lst xs, [.tup ys] => if xs.length + ys.length ≤ sizeLine then some (.non, .lst (xs ++ ys)) else none
  | _, _, _ => none
/-- methods of a text -/
def joinop (a : Str) : List D → Option D
  | [.lst ys] => (txts ys).bind fun zs => if joinLen a zs ≤ 16777216 then some (.str (Txt.join a zs)) else none
  | _ => none
def replop (a : Str) : List D → Option D
  | [.str y, .str z] => if a.length + (a.length + 1) * z.length ≤ 16777216 ∧ y ≠ z then some (.str (Txt.replace a y z)) else none
  | _ => none
def txop (m : MT) (x : D) (ds : List D) : Option D := match x with
  | .str a => (match m with
    | .join => joinop a ds
    | .repl => replop a ds
    | _ => none)
  | _ => none
def items : D → Option (List D)
  | .lst xs => some xs
  | .tup xs => some xs
  | .scr ns => some (ns.map .int)
  | _ => none
def rangeD (lo hi : Int) : List D := (List.range (hi - lo).toNat).map fun (k : Nat) => .int (lo + k)
/-- from lo on by steps of c -/
def rangeC (lo c : Int) (n : Nat) : List D := (List.range n).map fun (k : Nat) => .int (lo + k * c)
/-- how many: steps of 2 up, of 1 down -/
def stepsC (lo hi c : Int) : Option Nat := if c = 2 then some ((hi - lo + 1) / 2).toNat else if c = -1 then some (lo - hi).toNat else none
/-- a comprehension's turns -/
def turns (t : S → Option (R Bool)) (e : S → Option (R D)) (x : Nat) : List D → S → Option (List D × S)
  | [], s => some ([], s)
  | d :: r, s => match t (s.set x (.val d)) with
    | some (.ok true s1) => (match e s1 with
      | some (.ok y s2) => (turns t e x r s2).map fun p => (y :: p.1, p.2)
      | _ => none)
    | some (.ok false s1) => turns t e x r s1
    | _ => none

def tst (f : S → Option (R Ro)) (s : S) : Option (R Bool) := bnd (toO (f s)) fun x s => (truth (cont s x)).map fun b => .ok b s
def signs (x : Str) : List D := x.cps.toList.map fun c => .str ⟨⟨[c]⟩⟩
noncomputable def forItems (k : It) (d : D) : Option (List D) := match k with
  | .seq => (match d with
    | .str x => some (signs x)
    | d => items d)
  | .rng => (match d with
    | .tup [.int lo, .int hi] => if big (-(2 ^ 62) ≤ lo ∧ lo < 2 ^ 62 ∧ -(2 ^ 62) ≤ hi ∧ hi < 2 ^ 62) then some (rangeD lo hi) else none
    | _ => none)
  | .rvs => (match d with
    | .lst xs => some xs.reverse
    | _ => none)
  | .rg3 => (match d with
    | .tup [.int lo, .int hi, .int c] => if big (-(2 ^ 62) ≤ lo ∧ lo < 2 ^ 62 ∧ -(2 ^ 62) ≤ hi ∧ hi < 2 ^ 62) then (stepsC lo hi c).map fun n => rangeC lo c n else none
    | _ => none)
def srcOf (f : D → Option (List D)) (r : Option (R Ro)) : Option (R (List D)) := bnd (toV r) fun d s => (f d).map fun ds => .ok ds s
def isR : CE → Option Nat
  | .r i => some i
  | _ => none
def isStr : D → Bool
  | .str _ => true
  | _ => false
def isLst : Cl → Bool
  | .lst _ => true
  | _ => false
def isNonC : CE → Bool
  | .c .non => true
  | _ => false
def evPo (k : Bool) (r : Option (R Ro)) : Option (R (Option Int)) := bnd (toV r) fun d s => (part k d).map fun o => .ok o s
abbrev P := (S → Option (R Ro)) × (S → Option (R Bool))
def pv (f : S → Option (R Ro)) : P := (f, tst f)
/-- flat, or a tuple of flat things -/
def no1 (d : D) : Bool := flatD d || (match d with
  | .tup ds => ds.all flatD
  | _ => false)
/-- an own list that was walked is its slot's own again -/
noncomputable def thwR (c0 : Cl) (i : Nat) (s : S) (r : Option (R Ro)) : Option (R Ro) := match c0, r with
  | .lst xs, some (.ok (.fr (.lst rs)) s1) => (Classical.propDecidable (s1 = s.set i (.val (.lst xs)) ∧ (∀ j, j ≠ i → (gt s j).own = false) ∧ xs.all no1 = true ∧ rs.all flatD = true)).casesOn (fun _ => none) (fun _ => some (.ok (.fr (.lst rs)) s))
  | _, _ => none
mutual
noncomputable def evP (Γ : Env) : CE → P
  | .v i => pv fun s => match gt s i with
    | .val d => some (.ok (.fr (.val d)) s)
    | .lst _ => some (.ok (.pt i) s)
    | .dct _ _ => some (.ok (.pt i) s)
    | _ => none
  | .c d => pv fun s => some (.ok (.fr (.val d)) s)
  | .g _ d => pv fun s => some (.ok (.fr (.val d)) s)
  | .r _ => pv fun s => none
  | .bin o a b => pv fun s => bnd (toO ((evP Γ a).1 s)) fun x s => bnd (toO ((evP Γ b).1 s)) fun y s => (binop o (cont s x) (cont s y)).map fun c => .ok (.fr c) s
  | .neg a => pv fun s => bnd (toV ((evP Γ a).1 s)) fun x s => match x with
    | .int i => some (.ok (.fr (.val (.int (-i)))) s)
    | _ => none
  | .cmp o a b => pv fun s => bnd (toO ((evP Γ a).1 s)) fun x s => bnd (toO ((evP Γ b).1 s)) fun y s => (cmpop o (cont s x) (cont s y)).map fun c => .ok (.fr (.val (.bl c))) s
  | .chn o p a b e => pv fun s => bnd (toV ((evP Γ a).1 s)) fun x s => bnd (toV ((evP Γ b).1 s)) fun y s => match cmpop o (.val x) (.val y) with
    | some true => bnd (toV ((evP Γ e).1 s)) fun z s => (cmpop p (.val y) (.val z)).map fun c => .ok (.fr (.val (.bl c))) s
    | some false => some (.ok (.fr (.val (.bl false))) s)
    | none => none
  | .and a b => (fun s => bnd (toV ((evP Γ a).1 s)) fun x s => match x with
    | .bl true => bnd (toV ((evP Γ b).1 s)) fun y s => some (.ok (.fr (.val y)) s)
    | .bl false => some (.ok (.fr (.val (.bl false))) s)
    | _ => none, fun s => bnd ((evP Γ a).2 s) fun k s => if k then (evP Γ b).2 s else some (.ok false s))
  | .or a b => (fun s => bnd (toV ((evP Γ a).1 s)) fun x s => match x with
    | .bl false => bnd (toV ((evP Γ b).1 s)) fun y s => some (.ok (.fr (.val y)) s)
    | .bl true => some (.ok (.fr (.val (.bl true))) s)
    | _ => none, fun s => bnd ((evP Γ a).2 s) fun k s => if k then some (.ok true s) else (evP Γ b).2 s)
  | .not a => (fun s => bnd (toV ((evP Γ a).1 s)) fun x s => match x with
    | .bl b => some (.ok (.fr (.val (.bl (!b)))) s)
    | _ => none, fun s => bnd ((evP Γ a).2 s) fun k s => some (.ok (!k) s))
  | .ifx t a b => pv fun s => bnd ((evP Γ t).2 s) fun k s => bnd (toV (if k then (evP Γ a).1 s else (evP Γ b).1 s)) fun y s => some (.ok (.fr (.val y)) s)
  | .tup es => pv fun s => bnd (evA Γ es s) fun l s => (dats l).map fun ds => .ok (.fr (.val (.tup ds))) s
  | .lst es => pv fun s => bnd (evA Γ es s) fun l s => (dats l).map fun ds => .ok (.fr (.lst ds)) s
  | .dnew => pv fun s => some (.ok (.fr (.dct [] [])) s)
  | .dct1 i j k => pv fun s => match ixop (gt s i) (.int j), gt s k with
    | some (.str z), .val d => some (.ok (.fr (.dct [z] [d])) s)
    | _, _ => none
  | .ix a b => pv fun s => bnd (toO ((evP Γ a).1 s)) fun x s => bnd (toV ((evP Γ b).1 s)) fun i s => (ixop (cont s x) i).map fun d => .ok (.fr (.val d)) s
  | .dix a b => pv fun s => bnd (toO ((evP Γ a).1 s)) fun x s => bnd (toV ((evP Γ b).1 s)) fun k s => (match k with
    | .str k => (asD (cont s x)).bind fun (p : List Str × List D) => dlook k p.1 p.2
    | _ => none).map fun d => .ok (.fr (.val d)) s
  | .din a b => pv fun s => bnd (toV ((evP Γ a).1 s)) fun k s => bnd (toO ((evP Γ b).1 s)) fun x s => (match k with
    | .str k => (asD (cont s x)).map fun (p : List Str × List D) => (dlook k p.1 p.2).isSome
    | _ => none).map fun b => .ok (.fr (.val (.bl b))) s
  | .dnin a b => pv fun s => bnd (toV ((evP Γ a).1 s)) fun k s => bnd (toO ((evP Γ b).1 s)) fun x s => (match k with
    | .str k => (asD (cont s x)).map fun (p : List Str × List D) => !(dlook k p.1 p.2).isSome
    | _ => none).map fun b => .ok (.fr (.val (.bl b))) s
  | .sl a lo hi => pv fun s => bnd (toO ((evP Γ a).1 s)) fun x s => bnd (evPo (isNonC lo) ((evP Γ lo).1 s)) fun l s => bnd (evPo (isNonC hi) ((evP Γ hi).1 s)) fun h s =>
    (slop (cont s x) l h).map fun c => .ok (.fr c) s
  | .rev a => pv fun s => bnd (toV ((evP Γ a).1 s)) fun x s => match x with
    | .str z => if z.length ≤ sizeLine then some (.ok (.fr (.val (.str ⟨z.cps.toList.reverse.toArray⟩))) s) else none
    | _ => none
  | .fld a c j => pv fun s => bnd (toV ((evP Γ a).1 s)) fun x s => match x with
    | .obj c' xs => if c = c' then (xs[j]?).map fun d => .ok (.fr (.val d)) s else none
    | _ => none
  | .isi a t => pv fun s => bnd (toO ((evP Γ a).1 s)) fun x s => (isi (cont s x) t).map fun b => .ok (.fr (.val (.bl b))) s
  | .isx i ts ks => pv fun s => match gt s i with
    | .exn c => if ks.contains c then some (.ok (.fr (.val (.bl (ts.contains c)))) s) else none
    | _ => none
  | .call f es => pv fun s => bnd (evA Γ es s) fun l s => if (rfs l).Nodup ∧ (rfs l).all fun i => (gt s i).own then
      (match Γ f (l.map (Aa.ag s)) with
      | some (.ok (.cl c) outs) => if c.fz.isSome then some (.ok (.fr c) (back s l outs)) else none
      | some (.ex c) => some (.ex c (lose s (rfs l)))
      | _ => none) else none
  | .make c f es => pv fun s => bnd (evA Γ es s) fun l s => (dats l).bind fun ds => match Γ f (.obj c [] :: ds.map fun d => .cl (.val d)) with
    | some (.ok (.cl (.val .non)) (.obj c' xs :: _)) => if c' = c ∧ c = 0 ∧ xs.length = 4 then (xs.mapM Cl.vl).map fun ds => .ok (.fr (.val (.obj c ds))) s else none
    | _ => none
  | .bf b es => pv fun s => bnd (evO Γ es s) fun l s => (bfop b (l.map (cont s))).map fun c => .ok (.fr c) s
  | .mt m a es => pv fun s => match m with
    | .join => bnd (toV ((evP Γ a).1 s)) fun x s => if isStr x then bnd (evA Γ es s) fun l s => ((dats l).bind fun ds => txop .join x ds).map fun d => .ok (.fr (.val d)) s else none
    | .repl => bnd (toV ((evP Γ a).1 s)) fun x s => if isStr x then bnd (evA Γ es s) fun l s => ((dats l).bind fun ds => txop .repl x ds).map fun d => .ok (.fr (.val d)) s else none
    | m => bnd ((evP Γ a).1 s) fun o s => match o with
      | .pt i => if isLst (gt s i) then bnd (evA Γ es s) fun l s => ((dats l).bind fun ds => mutop m (gt s i) ds).map fun p => .ok (.fr (.val p.1)) (s.set i p.2) else none
      | _ => none
  | .comp e x it k t => pv fun s => bnd (srcOf (forItems k) ((evP Γ it).1 s)) fun ds s => if (gt s x).own || decide (1000000 < ds.length) then none else
    (turns (fun s => (evP Γ t).2 s) (fun s => toV ((evP Γ e).1 s)) x ds s).map fun p => .ok (.fr (.lst p.1)) (p.2.set x (gt s x))
  | .thw c i => pv fun s => thwR (gt s i) i s ((evP Γ c).1 s)
noncomputable def evA (Γ : Env) : List CE → S → Option (R (List Aa))
  | [], s => some (.ok [] s)
  | e :: r, s => match isR e with
    | some i => if (gt s i).own then bnd (evA Γ r s) fun l s => some (.ok (.rf i :: l) s) else none
    | none => bnd (toV ((evP Γ e).1 s)) fun d s => bnd (evA Γ r s) fun l s => some (.ok (.d d :: l) s)
noncomputable def evO (Γ : Env) : List CE → S → Option (R (List Ro))
  | [], s => some (.ok [] s)
  | e :: r, s => bnd (toO ((evP Γ e).1 s)) fun x s => bnd (evO Γ r s) fun l s => some (.ok (x :: l) s)
end
noncomputable def ev (Γ : Env) (e : CE) (s : S) : Option (R Ro) := (evP Γ e).1 s
noncomputable def evT (Γ : Env) (e : CE) (s : S) : Option (R Bool) := (evP Γ e).2 s

/-! ### statements -/
inductive Out where
  | nx (s : S)
  | rt (a : Ag) (s : S)
  | bk (s : S)
  | ct (s : S)
  | ex (c : Nat) (s : S)
mutual
inductive CS where
  | asg (i : Nat) (e : CE)
  | sub (a i e : CE)
  | dsub (a i e : CE)
  | exp (e : CE)
  | ret (e : CE)
  | retN
  | ite (t : CE) (a b : List CS)
  | whl (t : CE) (b : List CS)
  | for (x : Nat) (k : It) (e : CE) (b : List CS)
  | forz (x y : Nat) (d e : CE) (b : List CS)
  | brk
  | cnt
  | rse (c : Nat)
  | tr (b : List CS) (hs : List CH)
  | mk (o c f : Nat) (es : List CE)
  | oc (o f : Nat) (es : List CE)
  | me (f : Nat) (es : List CE)
  | reto
  | rcf (f : Nat) (es : List CE) (j : Nat)
inductive CH where
  | mk (cs ks : List Nat) (x : Option Nat) (b : List CS)
end
def loopN : Nat → (S → Option (R Bool)) → (S → Option Out) → S → Option Out
  | 0, _, _, _ => none
  | n + 1, t, b, s => match t s with
    | some (.ok true s1) => (match b s1 with
      | some (.nx s2) => loopN n t b s2
      | some (.ct s2) => loopN n t b s2
      | some (.bk s2) => some (.nx s2)
      | some (.rt a s2) => some (.rt a s2)
      | some (.ex c s2) => some (.ex c s2)
      | none => none)
    | some (.ok false s1) => some (.nx s1)
    | some (.ex c s1) => some (.ex c s1)
    | none => none
theorem loopN_mono (t : S → Option (R Bool)) (b : S → Option Out) : ∀ (n : Nat) (s : S) (r : Out), loopN n t b s = some r → ∀ m, n ≤ m → loopN m t b s = some r
  | 0, _, _, h, _, _ => nomatch h
  | n + 1, s, r, h, 0, hm => absurd hm (by omega)
  | n + 1, s, r, h, m + 1, hm => by
    have ih := fun s' => loopN_mono t b n s' r
    unfold loopN at h ⊢
    cases e : t s with
    | none => rw [e] at h; cases h
    | some q =>
      rw [e] at h
      cases q with
      | ex c s1 => exact h
      | ok k s1 =>
        cases k with
        | false => exact h
        | true =>
          dsimp only at h ⊢
          cases e2 : b s1 with
          | none => rw [e2] at h; cases h
          | some o =>
            rw [e2] at h
            cases o with
            | nx s2 => exact ih _ h m (by omega)
            | ct s2 => exact ih _ h m (by omega)
            | bk s2 => exact h
            | rt a s2 => exact h
            | ex c s2 => exact h
open Classical in
noncomputable def loop (t : S → Option (R Bool)) (b : S → Option Out) (s : S) : Option Out := if h : ∃ r n, loopN n t b s = some r then some h.choose else none
theorem loop_of {t : S → Option (R Bool)} {b : S → Option Out} {s : S} {r : Out} {n : Nat} (h : loopN n t b s = some r) : loop t b s = some r := by
  unfold loop
  have hx : ∃ r n, loopN n t b s = some r := ⟨r, n, h⟩
  rw [dif_pos hx]
  obtain ⟨m, hm⟩ := hx.choose_spec
  have h1 := loopN_mono t b n s r h (max n m) (Nat.le_max_left _ _)
  have h2 := loopN_mono t b m s _ hm (max n m) (Nat.le_max_right _ _)
  rw [h1] at h2
  exact h2.symm
theorem of_loop {t : S → Option (R Bool)} {b : S → Option Out} {s : S} {r : Out} (h : loop t b s = some r) : ∃ n, loopN n t b s = some r := by
  unfold loop at h
  split at h
  · rename_i hx
    obtain ⟨m, hm⟩ := hx.choose_spec
    exact ⟨m, by rw [hm]; exact h⟩
  · cases h
/-- one more turn -/
theorem loop_turn {t : S → Option (R Bool)} {b : S → Option Out} {s s1 s2 : S} (h1 : t s = some (.ok true s1)) (h2 : b s1 = some (.nx s2)) : loop t b s = loop t b s2 := by
  cases e : loop t b s2 with
  | some r =>
    obtain ⟨n, hn⟩ := of_loop e
    refine loop_of (n := n + 1) ?_
    unfold loopN
    rw [h1]; dsimp only; rw [h2]
    exact hn
  | none =>
    cases e2 : loop t b s with
    | none => rfl
    | some r =>
      obtain ⟨n, hn⟩ := of_loop e2
      cases n with
      | zero => cases hn
      | succ n =>
        unfold loopN at hn
        rw [h1] at hn; dsimp only at hn; rw [h2] at hn
        have := loop_of hn
        rw [e] at this; cases this
theorem loop_end {t : S → Option (R Bool)} {b : S → Option Out} {s s1 : S} (h1 : t s = some (.ok false s1)) : loop t b s = some (.nx s1) :=
  loop_of (n := 1) (by unfold loopN; rw [h1])
theorem loop_ret {t : S → Option (R Bool)} {b : S → Option Out} {s s1 s2 : S} {a : Ag} (h1 : t s = some (.ok true s1)) (h2 : b s1 = some (.rt a s2)) : loop t b s = some (.rt a s2) :=
  loop_of (n := 1) (by unfold loopN; rw [h1]; dsimp only; rw [h2])
theorem loop_ex {t : S → Option (R Bool)} {b : S → Option Out} {s s1 s2 : S} {c : Nat} (h1 : t s = some (.ok true s1)) (h2 : b s1 = some (.ex c s2)) : loop t b s = some (.ex c s2) :=
  loop_of (n := 1) (by unfold loopN; rw [h1]; dsimp only; rw [h2])
/-- a for over things -/
def forL (put : D → S → S) (b : S → Option Out) : List D → S → Option Out
  | [], s => some (.nx s)
  | d :: r, s => match b (put d s) with
    | some (.nx s1) => forL put b r s1
    | some (.ct s1) => forL put b r s1
    | some (.bk s1) => some (.nx s1)
    | o => o
/-- how many fields a class of ours has -/
def nfl : Nat → Nat
  | 0 => 4
  | _ => 5
def ghosts (n : Nat) (s : S) : List Cl := (s.drop n).takeWhile fun c => match c with
  | .un => false
  | _ => true
def setG (n : Nat) (s : S) (xs : List Cl) : S := s.take n ++ (xs ++ List.replicate (s.length - n - xs.length) .un)
def outR (x : Option (R α)) (k : α → S → Option Out) : Option Out := match x with
  | none => none
  | some (.ok a s) => k a s
  | some (.ex c s) => some (.ex c s)
@[simp] theorem outR_none {α : Type} (k : α → S → Option Out) : outR none k = none := rfl
@[simp] theorem outR_ok {α : Type} (a : α) (s : S) (k : α → S → Option Out) : outR (some (.ok a s)) k = k a s := rfl
@[simp] theorem outR_ex {α : Type} (c : Nat) (s : S) (k : α → S → Option Out) : outR (some (.ex c s)) k = some (.ex c s) := rfl
/-- the name of an except clause goes -/
def isExn : Cl → Bool
  | .exn _ => true
  | _ => false
def noX (s : S) : Bool := s.all fun c => !isExn c
def wipeO (i : Nat) : Option Out → Option Out
  | some (.nx s) => if noX (s.set i .un) then some (.nx (s.set i .un)) else none
  | some (.bk s) => if noX (s.set i .un) then some (.bk (s.set i .un)) else none
  | some (.ct s) => if noX (s.set i .un) then some (.ct (s.set i .un)) else none
  | some (.rt (.cl c) s) => if noX (s.set i .un) then some (.rt (.cl c) (s.set i .un)) else none
  | _ => none
def noEx : Option Out → Option Out
  | some (.ex _ _) => none
  | o => o
/-- the classes that take an exception of class c: itself and MillError (0) -/
def takesC (c : Nat) (cs : List Nat) : Bool := cs.contains c || cs.contains 0
section
-- n: the def's own slots; lk: lent ones; oc: the class of the object that is bound
variable (Γ : Env) (n : Nat) (lk : List Nat) (oc : Nat)
mutual
noncomputable def exec : CS → S → Option Out
  | .asg i e, s => outR (toW (ev Γ e s)) fun c s => if i < n then (if i ∈ lk then none else some (.nx (s.set i c))) else (if i - n ≤ (ghosts n s).length ∧ i < s.length then some (.nx (s.set i c)) else none)
  | .sub a i e, s => outR (toV (ev Γ e s)) fun d s => outR (ev Γ a s) fun o s => match o with
    | .pt k => outR (toV (ev Γ i s)) fun j s => (match j, gt s k with
      | .int j, .lst xs => (L2.ixN xs.length j).map fun m => .nx (s.set k (.lst (xs.set m d)))
      | _, _ => none)
    | _ => none
  | .dsub a i e, s => outR (toV (ev Γ e s)) fun d s => outR (ev Γ a s) fun o s => match o with
    | .pt k => outR (toV (ev Γ i s)) fun j s => (match j, gt s k with
      | .str j, .dct ks xs => if ks.length < 1000 then some (.nx (s.set k (.dct (dkeys j ks) (dput j d ks xs)))) else none
      | _, _ => none)
    | _ => none
  | .exp e, s => outR (toV (ev Γ e s)) fun _ s => some (.nx s)
  | .ret e, s => outR (toW (ev Γ e s)) fun c s => some (.rt (.cl c) s)
  | .retN, s => some (.rt (.cl (.val .non)) s)
  | .ite t a b, s => outR (evT Γ t s) fun k s => if k then execs a s else execs b s
  | .whl t b, s => loop (fun s => evT Γ t s) (fun s => execs b s) s
  | .for x k e b, s => outR (srcOf (forItems k) (ev Γ e s)) fun ds s => if x < n ∧ x ∉ lk then forL (fun d s => s.set x (.val d)) (fun s => execs b s) ds s else none
  | .forz x y d e b, s => outR (evA Γ [d, e] s) fun l s => if x < n ∧ x ∉ lk ∧ y < n ∧ y ∉ lk then
      (match l with
      | [.d (.lst xs), .d (.lst ys)] => if xs.length = ys.length then forL (fun p s => match p with
          | .tup [d, e] => (s.set x (.val d)).set y (.val e)
          | _ => s) (fun s => execs b s) (List.zipWith (fun d e => .tup [d, e]) xs ys) s else none
      | _ => none) else none
  | .brk, s => some (.bk s)
  | .cnt, s => some (.ct s)
  | .rse c, s => some (.ex c s)
  | .tr b hs, s => match execs b s with
    | some (.ex c s1) => handle c hs s1
    | o => o
  | .mk o c f es, s => outR (evA Γ es s) fun l s => (dats l).bind fun ds => match Γ f (.obj c [] :: ds.map fun d => .cl (.val d)) with
    | some (.ok (.cl (.val .non)) (.obj c' xs :: _)) => if c' = c ∧ c = oc ∧ xs.length ≤ nfl c ∧ o < n ∧ o ∉ lk ∧ n ≤ s.length then some (.nx (setG n (s.set o .un) xs)) else none
    | _ => none
  | .oc o f es, s => outR (evA Γ es s) fun l s => (dats l).bind fun ds => match Γ f (ds.map fun d => .cl (.val d)) with
    | some (.ok (.obj c xs) _) => if c = oc ∧ xs.length ≤ nfl c ∧ o < n ∧ o ∉ lk ∧ n ≤ s.length then some (.nx (setG n (s.set o .un) xs)) else none
    | some (.ex c) => some (.ex c s)
    | _ => none
  | .me f es, s => if (ghosts n s).isEmpty then none else outR (evA Γ es s) fun l s => if (ghosts n s).all fun c => c.fz.isSome then (dats l).bind fun ds => match Γ f (.obj oc (ghosts n s) :: ds.map fun d => .cl (.val d)) with
    | some (.ok _ (.obj c xs :: _)) => if c = oc ∧ xs.length ≤ nfl c then some (.nx (setG n s xs)) else none
    | some (.ex c) => some (.ex c (setG n s []))
    | _ => none
    else none
  | .reto, s => if (ghosts n s).isEmpty then none else some (.rt (.obj oc (ghosts n s)) s)
  | .rcf f es j, s => outR (evA Γ es s) fun l s => (dats l).bind fun ds => match Γ f (ds.map fun d => .cl (.val d)) with
    | some (.ok (.obj c xs) _) => if c = oc then (xs[j]?).bind fun c => if c.fz.isSome then some (.rt (.cl c) s) else none else none
    | some (.ex c) => some (.ex c s)
    | _ => none
noncomputable def execs : List CS → S → Option Out
  | [], s => some (.nx s)
  | c :: r, s => match exec c s with
    | some (.nx s1) => execs r s1
    | o => o
/-- the first clause that takes an exception of class c -/
noncomputable def handle : Nat → List CH → S → Option Out
  | c, [], s => some (.ex c s)
  | c, .mk cs ks x b :: hs, s => if ks.contains c then (if takesC c cs then
      (match x with
      | some i => if i < n ∧ i ∉ lk then wipeO i (execs b (s.set i (.exn c))) else none
      | none => noEx (execs b s)) else handle c hs s) else none
end
end
/-- a def: how many parameters, slots; its body; the class of the object it binds (if its first parameter is one: a method) -/
structure FD where
  np : Nat
  n : Nat
  body : List CS
  oc : Nat := 0
  nf : Nat := 0
  meth : Bool := false
def lent : List Ag → Nat → List Nat
  | [], _ => []
  | .cl c :: r, i => if c.own then i :: lent r (i + 1) else lent r (i + 1)
  | .obj _ _ :: r, i => i :: lent r (i + 1)
def clsOf : List Ag → Option (List Cl)
  | [] => some []
  | .cl c :: r => (clsOf r).map fun cs => c :: cs
  | .obj _ _ :: _ => none
/-- the slots at the entry -/
def entry (fd : FD) (args : List Ag) : Option S := match fd.meth with
  | true => (match args with
    | .obj c xs :: r => (clsOf r).bind fun cs => if c = fd.oc ∧ xs.length ≤ fd.nf ∧ cs.length + 1 = fd.np then some (.un :: cs ++ List.replicate (fd.n - fd.np) .un ++ (xs ++ List.replicate (fd.nf - xs.length) .un)) else none
    | _ => none)
  | false => (clsOf args).bind fun cs => if cs.length = fd.np then some (cs ++ List.replicate (fd.n - fd.np) .un ++ List.replicate fd.nf .un) else none
def outs (s : S) : Nat → Nat → List Ag
  | 0, _ => []
  | k + 1, i => .cl (gt s i) :: outs s k (i + 1)
def outsOf (fd : FD) (s : S) : List Ag := match fd.meth with
  | true => .obj fd.oc (ghosts fd.n s) :: outs s (fd.np - 1) 1
  | false => outs s fd.np 0
/-- what was lent has a content still -/
def okOuts (n : Nat) (s : S) : List Ag → Nat → Bool
  | [], _ => true
  | .cl c :: r, i => (!c.own || (gt s i).fz.isSome) && okOuts n s r (i + 1)
  | .obj _ _ :: r, i => ((ghosts n s).all fun c => c.fz.isSome) && okOuts n s r (i + 1)
def okResM (m : Bool) : Ag → Bool
  | .cl _ => true
  | .obj _ xs => !m && xs.all fun c => c.fz.isSome
noncomputable def runF (Γ : Env) (fd : FD) (args : List Ag) : Option FR := (entry fd args).bind fun s => match execs Γ fd.n (lent args 0) fd.oc fd.body s with
  | some (.nx s1) => if okOuts fd.n s1 args 0 then some (.ok (.cl (.val .non)) (outsOf fd s1)) else none
  | some (.rt a s1) => if okOuts fd.n s1 args 0 && okResM fd.meth a then some (.ok a (outsOf fd s1)) else none
  | some (.ex c _) => some (.ex c)
  | _ => none
noncomputable def envN (P : Nat → Option FD) : Nat → Env
  | 0 => fun _ _ => none
  | n + 1 => fun f args => (P f).bind fun fd => runF (envN P n) fd args
end Mi
namespace Mi
open PySem PySem.Spec PyProof.Rows L2

/-! ### data in the heap -/
def flds : Nat → List Str
  | 0 => ["name", "body", "names", "held"]
  | _ => ["most", "todo", "done", "deeds", "made"]
def tyN : Ty → Option String
  | .int => some "int" | .bool => some "bool" | .str => some "str" | .tup => some "tuple" | .list => some "list" | .cls _ => none
/-- what the written part says of the class whose instances are data -/
structure ObF (K : PySem.W.Frag) (C : Addr) : Prop where
  cls : Cls K C
  ha : PySem.W.findIn K (.ref C) "__class__" = some (some (.builtin "object.__class__"))
  hn : PySem.W.specialIn K (.builtin "object.__class__") "__get__" = some (some (.builtin "getset_descriptor.__get__"))
  htk : PySem.W.takesIn K (.builtin "object.__class__") = some true
  hm : PySem.W.mroIn K C (.type "object") = some true
  kit : ∀ t n, tyN t = some n → PySem.W.kitOne K (.ref C) (.type n) = some false
  noat : ∀ f ∈ flds 0, NoAttr K C f
mutual
inductive Rep (K : PySem.W.Frag) (ca : Nat → Addr) (F : Hp) : V → D → Prop
  | non : Rep K ca F .non .non
  | bl (b : Bool) : Rep K ca F (.bl b) (.bl b)
  | int (i : Int) : Rep K ca F (.int i) (.int i)
  | str (x : Str) : Rep K ca F (.str x) (.str x)
  | tup {a : Addr} {vs : List V} {ds : List D} : F a = some (.tup vs) → Reps K ca F vs ds → Rep K ca F (.ref a) (.tup ds)
  | lst {a : Addr} {vs : List V} {ds : List D} : F a = some (.lst vs) → Reps K ca F vs ds → Rep K ca F (.ref a) (.lst ds)
  | scr {a : Addr} {ns : List Int} : SqL K F a (ns.map V.int) → Rep K ca F (.ref a) (.scr ns)
  | kt {a : Addr} {xs : List Str} : SqT K F a (xs.map V.str) → Rep K ca F (.ref a) (.kt xs)
  | dct {a : Addr} {ks : List Str} {vs : List V} {ds : List D} : F a = some (.dK ((ks.map Sum.inr).zip vs)) → ks.Nodup → vs.length = ks.length → Reps K ca F vs ds → Rep K ca F (.ref a) (.dct ks ds)
  | obj {a dx : Addr} {vs : List V} {ds : List D} : ObF K (ca 0) → F a = some (.ins (ca 0) dx ((flds 0).zip vs)) → vs.length = (flds 0).length → Reps K ca F vs ds → Rep K ca F (.ref a) (.obj 0 ds)
inductive Reps (K : PySem.W.Frag) (ca : Nat → Addr) (F : Hp) : List V → List D → Prop
  | nil : Reps K ca F [] []
  | cons {v : V} {d : D} {vs : List V} {ds : List D} : Rep K ca F v d → Reps K ca F vs ds → Reps K ca F (v :: vs) (d :: ds)
end
section
variable {K : PySem.W.Frag} {ca : Nat → Addr} {F F' H : Hp}
theorem sqL_mono {a : Addr} {xs : List V} (h : Same F F') (q : SqL K F a xs) : SqL K F' a xs := h.seq q
theorem sqT_mono {a : Addr} {xs : List V} (e : Same F F') (h : SqT K F a xs) : SqT K F' a xs := by
  rcases h with (h | ⟨o, h⟩) | h
  · exact .inl (.inl (e _ _ h))
  · exact .inl (.inr ⟨o, e _ _ h⟩)
  · exact .inr h
mutual
theorem Rep.mono (e : Same F F') : ∀ {v : V} {d : D}, Rep K ca F v d → Rep K ca F' v d
  | _, _, .non => .non
  | _, _, .bl b => .bl b
  | _, _, .int i => .int i
  | _, _, .str x => .str x
  | _, _, .tup h r => .tup (e _ _ h) (Reps.mono e r)
  | _, _, .lst h r => .lst (e _ _ h) (Reps.mono e r)
  | _, _, .scr h => .scr (sqL_mono e h)
  | _, _, .kt h => .kt (sqT_mono e h)
  | _, _, .dct h n l r => .dct (e _ _ h) n l (Reps.mono e r)
  | _, _, .obj o h l r => .obj o (e _ _ h) l (Reps.mono e r)
theorem Reps.mono (e : Same F F') : ∀ {vs : List V} {ds : List D}, Reps K ca F vs ds → Reps K ca F' vs ds
  | _, _, .nil => .nil
  | _, _, .cons h r => .cons (Rep.mono e h) (Reps.mono e r)
end
theorem Reps.length : ∀ {vs : List V} {ds : List D}, Reps K ca F vs ds → vs.length = ds.length
  | _, _, .nil => rfl
  | _, _, .cons _ r => by rw [List.length_cons, List.length_cons, r.length]
theorem Reps.get : ∀ {vs : List V} {ds : List D}, Reps K ca F vs ds → ∀ {i : Nat} {d : D}, ds[i]? = some d → ∃ v, vs[i]? = some v ∧ Rep K ca F v d
  | _, _, .nil, _, _, h => by simp at h
  | _, _, .cons r _, 0, d, h => by simp at h; subst h; exact ⟨_, rfl, r⟩
  | _, _, .cons _ r, i + 1, d, h => by
    obtain ⟨v, h1, h2⟩ := r.get (i := i) (d := d) (by simpa using h)
    exact ⟨v, by simpa using h1, h2⟩
theorem Reps.getV : ∀ {vs : List V} {ds : List D}, Reps K ca F vs ds → ∀ {i : Nat} {v : V}, vs[i]? = some v → ∃ d, ds[i]? = some d ∧ Rep K ca F v d
  | _, _, .nil, _, _, h => by simp at h
  | _, _, .cons r _, 0, d, h => by simp at h; subst h; exact ⟨_, rfl, r⟩
  | _, _, .cons _ r, i + 1, d, h => by
    obtain ⟨v, h1, h2⟩ := r.getV (i := i) (v := d) (by simpa using h)
    exact ⟨v, by simpa using h1, h2⟩
theorem Reps.append : ∀ {vs ws : List V} {ds es : List D}, Reps K ca F vs ds → Reps K ca F ws es → Reps K ca F (vs ++ ws) (ds ++ es)
  | _, _, _, _, .nil, s => s
  | _, _, _, _, .cons h r, s => .cons h (Reps.append r s)
theorem Reps.take : ∀ {vs : List V} {ds : List D} (n : Nat), Reps K ca F vs ds → Reps K ca F (vs.take n) (ds.take n)
  | _, _, 0, _ => .nil
  | _, _, _ + 1, .nil => .nil
  | _, _, n + 1, .cons h r => .cons h (Reps.take n r)
theorem Reps.drop : ∀ {vs : List V} {ds : List D} (n : Nat), Reps K ca F vs ds → Reps K ca F (vs.drop n) (ds.drop n)
  | _, _, 0, r => r
  | _, _, _ + 1, .nil => .nil
  | _, _, n + 1, .cons h r => Reps.drop n r
theorem Reps.set {v : V} {d : D} (q : Rep K ca F v d) : ∀ {vs : List V} {ds : List D} (n : Nat), Reps K ca F vs ds → Reps K ca F (vs.set n v) (ds.set n d)
  | _, _, _, .nil => .nil
  | _, _, 0, .cons h r => .cons q r
  | _, _, n + 1, .cons h r => .cons h (Reps.set q n r)
theorem Reps.dropLast {vs : List V} {ds : List D} (r : Reps K ca F vs ds) : Reps K ca F vs.dropLast ds.dropLast := by
  rw [List.dropLast_eq_take, List.dropLast_eq_take, r.length]
  exact r.take _
theorem Reps.reverse {vs : List V} {ds : List D} (r : Reps K ca F vs ds) : Reps K ca F vs.reverse ds.reverse := by
  induction ds generalizing vs with
  | nil => cases r; exact .nil
  | cons d ds ih =>
    cases r with
    | cons h r =>
      rw [List.reverse_cons, List.reverse_cons]
      exact (ih r).append (.cons h .nil)
theorem Reps.ints : ∀ ns : List Int, Reps K ca F (ns.map V.int) (ns.map D.int)
  | [] => .nil
  | n :: r => .cons (.int n) (Reps.ints r)
theorem Reps.strs_ : ∀ ns : List Str, Reps K ca F (ns.map V.str) (ns.map D.str)
  | [] => .nil
  | n :: r => .cons (.str n) (Reps.strs_ r)
theorem Reps.txts : ∀ {vs : List V} {ds : List D} {xs : List Str}, Reps K ca F vs ds → txts ds = some xs → vs = xs.map V.str
  | _, _, _, .nil, h => by cases h; rfl
  | _, _, xs, .cons (d := d) (ds := ds) q r, h => by
    cases q with
    | str x =>
      unfold Mi.txts at h
      cases e : Mi.txts ds with
      | none => rw [e] at h; cases h
      | some l => rw [e] at h; cases h; rw [List.map_cons, ← r.txts e]
    | _ => cases h
end

/-! ### what a piece of code may do to the heap: H the things, F the part that never changes; T what was lent to it -/
structure Ex (T : Addr → Prop) (F H F' H' : Hp) : Prop where
  sub : Same F F'
  top : Same F' H'
  keep : ∀ a o, H a = some o → ¬ T a → H' a = some o
  frz : ∀ a, H a ≠ none → ¬ T a → F' a = F a
  there : ∀ a, H' a = none → H a = none
theorem Ex.refl {T : Addr → Prop} {F H : Hp} (h : Same F H) : Ex T F H F H := ⟨fun _ _ e => e, h, fun _ _ e _ => e, fun _ _ _ => rfl, fun _ e => e⟩
theorem Ex.trans {T T1 : Addr → Prop} {F H F1 H1 F2 H2 : Hp} (a : Ex T F H F1 H1) (b : Ex T1 F1 H1 F2 H2) (h : ∀ x, T1 x → T x ∨ H x = none) : Ex T F H F2 H2 := by
  refine ⟨fun x o e => b.sub x o (a.sub x o e), b.top, fun x o e n => ?_, fun x e n => ?_, fun x e => a.there x (b.there x e)⟩
  · refine b.keep x o (a.keep x o e n) fun t => ?_
    rcases h x t with z | z
    · exact n z
    · rw [e] at z; cases z
  · have h1 : H1 x ≠ none := fun z => e (a.there x z)
    rw [b.frz x h1 fun t => ?_, a.frz x e n]
    rcases h x t with z | z
    · exact n z
    · exact e z
/-- a new thing -/
theorem Ex.new {T : Addr → Prop} {F H : Hp} {p : Addr} {o : HO} (h : Same F H) (hp : H p = none) : Ex T F H F (upd H p o) :=
  ⟨fun _ _ e => e, fun a u e => by rw [upd_ne (ne_of_none (h a u e) hp)]; exact h a u e, fun a u e _ => by rw [upd_ne (ne_of_none e hp)]; exact e, fun _ _ _ => rfl, fun a e => by
    by_cases q : a = p
    · rw [q]; exact hp
    · rw [upd_ne q] at e; exact e⟩
/-- a new thing that never changes -/
theorem Ex.newF {T : Addr → Prop} {F H : Hp} {p : Addr} {o : HO} (h : Same F H) (hp : H p = none) : Ex T F H (upd F p o) (upd H p o) := by
  have fp : F p = none := h.free hp
  refine ⟨fun a u e => by rw [upd_ne (ne_of_none e fp)]; exact e, fun a u e => ?_, fun a u e _ => by rw [upd_ne (ne_of_none e hp)]; exact e, fun a e _ => ?_, fun a e => ?_⟩
  · by_cases q : a = p
    · subst q; rw [upd_same] at e ⊢; exact e
    · rw [upd_ne q] at e ⊢; exact h a u e
  · rw [upd_ne]
    rintro rfl
    exact e hp
  · by_cases q : a = p
    · rw [q]; exact hp
    · rw [upd_ne q] at e; exact e
/-- a thing of its own is frozen -/
theorem Ex.freeze {T : Addr → Prop} {F H : Hp} {p : Addr} {o : HO} (h : Same F H) (hp : H p = some o) (hf : F p = none) (ht : T p) : Ex T F H (upd F p o) H := by
  refine ⟨fun a u e => by rw [upd_ne (ne_of_none e hf)]; exact e, fun a u e => ?_, fun a u e _ => e, fun a e n => ?_, fun a e => e⟩
  · by_cases q : a = p
    · subst q; rw [upd_same] at e; cases e; exact hp
    · rw [upd_ne q] at e; exact h a u e
  · rw [upd_ne]
    rintro rfl
    exact n ht
/-- a thing of its own is written -/
theorem Ex.write {T : Addr → Prop} {F H : Hp} {p : Addr} {o : HO} (h : Same F H) (hf : F p = none) (ht : T p) : Ex T F H F (upd H p o) := by
  refine ⟨fun a u e => e, fun a u e => by rw [upd_ne (ne_of_none e hf)]; exact h a u e, fun a u e n => ?_, fun a e n => rfl, fun a e => ?_⟩
  · rw [upd_ne]
    · exact e
    · rintro rfl; exact n ht
  · by_cases q : a = p
    · subst q; rw [upd_same] at e; cases e
    · rw [upd_ne q] at e; exact e

/-! ### slots -/
structure OB where
  a : Addr
  dx : Addr
  vs : List V
structure Wd where
  T : Addr → Prop
  F : Hp
  H : Hp
/-- n: the def's own slots; lk: lent parameters; oc: the class of its object; cv, ca: where the classes stand; xa: the exception that a suite holds -/
structure Cn where
  K : PySem.W.Frag
  Γ : Env
  n : Nat
  wd : Wd
  lk : Nat → Option V
  oc : Nat
  os : Nat
  cv : Nat → Addr
  ca : Nat → Addr
  xa : Option (Addr × Nat)
  mo : Bool
def Cn.Fr (C : Cn) (a : Addr) : Prop := C.wd.T a ∨ C.wd.H a = none
def CR (C : Cn) (F H : Hp) (o : Option V) : Cl → Prop
  | .un => True
  | .val d => ∃ v, o = some v ∧ Rep C.K C.ca F v d
  | .lst xs => ∃ a vs, o = some (.ref a) ∧ H a = some (.lst vs) ∧ Reps C.K C.ca F vs xs ∧ F a = none ∧ C.Fr a
  | .dct ks xs => ∃ a vs, o = some (.ref a) ∧ H a = some (.dK ((ks.map Sum.inr).zip vs)) ∧ ks.Nodup ∧ vs.length = ks.length ∧ Reps C.K C.ca F vs xs ∧ F a = none ∧ C.Fr a
  | .exn c => ∃ a, o = some (.ref a) ∧ C.xa = some (a, c)
def vAt (C : Cn) (σ : L2.St) (ob : Option OB) (i : Nat) : Option V := if i < C.n then (σ[i]?).join else match ob with
  | some o => o.vs[i - C.n]?
  | none => none
structure SR (C : Cn) (ob : Option OB) (F H : Hp) (σ : L2.St) (s : S) : Prop where
  ex : Ex C.wd.T C.wd.F C.wd.H F H
  len : σ.length = C.n
  cr : ∀ i, CR C F H (vAt C σ ob i) (gt s i)
  inj : ∀ i j a, (gt s i).own = true → (gt s j).own = true → vAt C σ ob i = some (.ref a) → vAt C σ ob j = some (.ref a) → i = j
  lk : ∀ i v, C.lk i = some v → σ[i]? = some (some v)
  ob0 : ob = none → ∀ i, C.n ≤ i → gt s i = .un
  ob1 : ∀ o, ob = some o → H o.a = some (.ins (C.ca C.oc) o.dx ((flds C.oc).zip o.vs)) ∧ F o.a = none ∧ C.Fr o.a ∧ o.vs.length ≤ (flds C.oc).length ∧
    (∀ j, o.vs.length ≤ j → gt s (C.n + j) = .un) ∧ (∀ j, j < o.vs.length → gt s (C.n + j) ≠ .un) ∧ σ[C.os]? = some (some (.ref o.a))
  mo : C.mo = true → ob ≠ none
section
variable {C : Cn} {ob : Option OB} {F H F' H' : Hp} {σ : L2.St} {s s' : S}
theorem SR.sub (R : SR C ob F H σ s) : Same F H := R.ex.top
theorem CR.mono {o : Option V} {c : Cl} (e : Same F F') (hF : ∀ a, c.own = true → o = some (.ref a) → F' a = F a ∧ H' a = H a) (h : CR C F H o c) : CR C F' H' o c := by
  cases c with
  | un => trivial
  | val d => obtain ⟨v, h1, h2⟩ := h; exact ⟨v, h1, h2.mono e⟩
  | lst xs =>
    obtain ⟨a, vs, h1, h2, h3, h4, h5⟩ := h
    obtain ⟨q1, q2⟩ := hF a rfl h1
    exact ⟨a, vs, h1, q2.trans h2, h3.mono e, q1.trans h4, h5⟩
  | dct ks xs =>
    obtain ⟨a, vs, h1, h2, n, l, h3, h4, h5⟩ := h
    obtain ⟨q1, q2⟩ := hF a rfl h1
    exact ⟨a, vs, h1, q2.trans h2, n, l, h3.mono e, q1.trans h4, h5⟩
  | exn c => exact h
/-- an own thing's address, what stands there -/
theorem CR.own_at {o : Option V} {c : Cl} (h : CR C F H o c) (hc : c.own = true) : ∃ a, o = some (.ref a) ∧ F a = none ∧ C.Fr a ∧ ((∃ vs, H a = some (.lst vs)) ∨ ∃ kvs, H a = some (.dK kvs)) := by
  cases c with
  | lst xs => obtain ⟨a, vs, h1, h2, h3, h4, h5⟩ := h; exact ⟨a, h1, h4, h5, .inl ⟨vs, h2⟩⟩
  | dct ks xs => obtain ⟨a, vs, h1, h2, n, l, h3, h4, h5⟩ := h; exact ⟨a, h1, h4, h5, .inr ⟨_, h2⟩⟩
  | _ => cases hc
/-- the world goes on, the slots as they are: their own things are as they were -/
theorem SR.go (R : SR C ob F H σ s) (x : Ex C.wd.T C.wd.F C.wd.H F' H') (e : Same F F') (k : ∀ i a, (gt s i).own = true → vAt C σ ob i = some (.ref a) → F' a = F a ∧ H' a = H a)
    (ko : ∀ o, ob = some o → F' o.a = F o.a ∧ H' o.a = H o.a) : SR C ob F' H' σ s := by
  refine ⟨x, R.len, fun i => (R.cr i).mono e fun a h1 h2 => k i a h1 h2, R.inj, R.lk, R.ob0, fun o h => ?_, R.mo⟩
  obtain ⟨h1, h2, h3⟩ := R.ob1 o h
  obtain ⟨q1, q2⟩ := ko o h
  exact ⟨q2.trans h1, q1.trans h2, h3⟩
theorem SR.own_some (R : SR C ob F H σ s) {i : Nat} {a : Addr} (h : (gt s i).own = true) (h2 : vAt C σ ob i = some (.ref a)) : F a = none ∧ C.Fr a ∧ ((∃ vs, H a = some (.lst vs)) ∨ ∃ kvs, H a = some (.dK kvs)) := by
  obtain ⟨b, q1, q2, q3, q4⟩ := (R.cr i).own_at h
  rw [h2] at q1; cases q1
  exact ⟨q2, q3, q4⟩
theorem SR.own_ne (R : SR C ob F H σ s) {i : Nat} {a p : Addr} (h : (gt s i).own = true) (h2 : vAt C σ ob i = some (.ref a)) (hp : H p = none) : a ≠ p := by
  rintro rfl
  obtain ⟨_, _, ⟨vs, q⟩ | ⟨vs, q⟩⟩ := R.own_some h h2 <;> rw [hp] at q <;> cases q
theorem SR.ob_ne (R : SR C ob F H σ s) {o : OB} {p : Addr} (h : ob = some o) (hp : H p = none) : o.a ≠ p := by
  rintro rfl
  have q := (R.ob1 o h).1
  rw [hp] at q; cases q
theorem SR.own_ob (R : SR C ob F H σ s) {i : Nat} {a : Addr} {o : OB} (h : (gt s i).own = true) (h2 : vAt C σ ob i = some (.ref a)) (ho : ob = some o) : o.a ≠ a := by
  rintro rfl
  have q := (R.ob1 o ho).1
  obtain ⟨_, _, ⟨vs, q2⟩ | ⟨vs, q2⟩⟩ := R.own_some h h2 <;> rw [q] at q2 <;> cases q2
/-- a new thing is laid -/
theorem SR.new (R : SR C ob F H σ s) {p : Addr} (o : HO) (hp : H p = none) : SR C ob F (upd H p o) σ s :=
  R.go (R.ex.trans (T1 := fun _ => False) (Ex.new R.sub hp) fun _ z => z.elim) (fun _ _ e => e) (fun i a h1 h2 => ⟨rfl, upd_ne (R.own_ne h1 h2 hp)⟩) fun o h => ⟨rfl, upd_ne (R.ob_ne h hp)⟩
theorem SR.newF (R : SR C ob F H σ s) {p : Addr} (o : HO) (hp : H p = none) : SR C ob (upd F p o) (upd H p o) σ s :=
  R.go (R.ex.trans (T1 := fun _ => False) (Ex.newF R.sub hp) fun _ z => z.elim) (fun a u e => by rw [upd_ne (ne_of_none e (R.sub.free hp))]; exact e)
    (fun i a h1 h2 => ⟨upd_ne (R.own_ne h1 h2 hp), upd_ne (R.own_ne h1 h2 hp)⟩) fun o h => ⟨upd_ne (R.ob_ne h hp), upd_ne (R.ob_ne h hp)⟩
theorem SR.fr_new (R : SR C ob F H σ s) {p : Addr} (hp : H p = none) : C.Fr p := .inr (R.ex.there p hp)
/-- what a slot holds is set to something of which the same is true; nothing becomes its own -/
theorem gt_set {i j : Nat} {c : Cl} : gt (s.set i c) j = if i = j ∧ i < s.length then c else gt s j := by
  unfold gt
  by_cases h : i = j
  · subst h
    by_cases hl : i < s.length
    · rw [if_pos ⟨rfl, hl⟩, List.getD_eq_getElem?_getD, List.getElem?_set_self hl]; rfl
    · rw [if_neg fun z => hl z.2, List.set_eq_of_length_le (by omega)]
  · rw [if_neg fun z => h z.1, List.getD_eq_getElem?_getD, List.getElem?_set_ne h, List.getD_eq_getElem?_getD]
theorem gt_lt {i : Nat} (h : gt s i ≠ .un) : i < s.length := by
  unfold gt at h
  rw [List.getD_eq_getElem?_getD] at h
  by_cases q : i < s.length
  · exact q
  · rw [List.getElem?_eq_none (by omega)] at h; exact absurd rfl h
/-- an own thing in slot i is frozen -/
theorem SR.freeze (R : SR C ob F H σ s) {i : Nat} {d : D} {u : V} (ho : (gt s i).own = true) (hd : (gt s i).fz = some d) (hu : vAt C σ ob i = some u) :
    ∃ F', SR C ob F' H σ (s.set i (.val d)) ∧ Same F F' ∧ Rep C.K C.ca F' u d := by
  obtain ⟨a, q1, q2, q3, q4⟩ := (R.cr i).own_at ho
  rw [hu] at q1; cases q1
  have lt : i < s.length := gt_lt fun z => by rw [z] at ho; cases ho
  have key : ∀ o, H a = some o → Rep C.K C.ca (upd F a o) (.ref a) d → ∃ F', SR C ob F' H σ (s.set i (.val d)) ∧ Same F F' ∧ Rep C.K C.ca F' (.ref a) d := fun o ha rp => by
    have sm : Same F (upd F a o) := fun b w e => by rw [upd_ne (ne_of_none e q2)]; exact e
    have x : Ex C.wd.T C.wd.F C.wd.H (upd F a o) H := R.ex.trans (T1 := C.Fr) (Ex.freeze R.sub ha q2 q3) fun _ z => z
    refine ⟨upd F a o, ⟨x, R.len, fun j => ?_, fun j k b h1 h2 h3 h4 => ?_, R.lk, fun h j hj => ?_, fun o' h => ?_, R.mo⟩, sm, rp⟩
    · rw [gt_set]
      split
      · rename_i h
        rw [← h.1, hu]
        exact ⟨_, rfl, rp⟩
      · rename_i h
        refine (R.cr j).mono sm fun b h1 h2 => ⟨upd_ne ?_, rfl⟩
        rintro rfl
        exact h ⟨R.inj i j _ ho h1 hu h2, lt⟩
    · rw [gt_set] at h1 h2
      split at h1
      · cases h1
      · split at h2
        · cases h2
        · exact R.inj j k b h1 h2 h3 h4
    · rw [gt_set]
      split
      · rename_i z
        have := R.ob0 h i (by omega)
        rw [this] at ho; cases ho
      · exact R.ob0 h j hj
    · obtain ⟨h1, h2, h3, h4, h5, h6, h7⟩ := R.ob1 o' h
      have na : o'.a ≠ a := R.own_ob ho hu h
      refine ⟨h1, by rw [upd_ne na]; exact h2, h3, h4, fun j hj => ?_, fun j hj => ?_, h7⟩
      · rw [gt_set]
        split
        · rename_i z
          have := h5 j hj
          rw [← z.1] at this
          rw [this] at ho; cases ho
        · exact h5 j hj
      · rw [gt_set]
        split
        · exact fun z => nomatch z
        · exact h6 j hj
  have cr := R.cr i
  cases e : gt s i with
  | lst xs =>
    rw [e, hu] at cr
    obtain ⟨b, vs, h1, h2, h3, h4, h5⟩ := cr
    cases h1
    rw [e] at hd; cases hd
    exact key _ h2 (.lst upd_same (h3.mono fun b w e => by rw [upd_ne (ne_of_none e h4)]; exact e))
  | dct ks xs =>
    rw [e, hu] at cr
    obtain ⟨b, vs, h1, h2, n, l, h3, h4, h5⟩ := cr
    cases h1
    rw [e] at hd; cases hd
    exact key _ h2 (.dct upd_same n l (h3.mono fun b w e => by rw [upd_ne (ne_of_none e h4)]; exact e))
  | _ => rw [e] at ho; cases ho
/-- a fresh thing -/
def RF (C : Cn) (ob : Option OB) (F H : Hp) (σ : L2.St) (s : S) (u : V) (c : Cl) : Prop :=
  CR C F H (some u) c ∧ c.fz.isSome = true ∧ (c.own = true → ∀ i, (gt s i).own = true → vAt C σ ob i ≠ some u)
/-- it is frozen -/
theorem RF.freeze (R : SR C ob F H σ s) {u : V} {c : Cl} {d : D} (h : RF C ob F H σ s u c) (hd : c.fz = some d) : ∃ F', SR C ob F' H σ s ∧ Same F F' ∧ Rep C.K C.ca F' u d := by
  obtain ⟨h1, h2, h3⟩ := h
  have key : ∀ a o, u = .ref a → F a = none → C.Fr a → H a = some o → c.own = true → (∀ o' dx vs, o ≠ .ins o' dx vs) → Rep C.K C.ca (upd F a o) (.ref a) d → ∃ F', SR C ob F' H σ s ∧ Same F F' ∧ Rep C.K C.ca F' u d := fun a o hu q2 q3 ha hc hk rp => by
    subst hu
    refine ⟨upd F a o, R.go (R.ex.trans (T1 := C.Fr) (Ex.freeze R.sub ha q2 q3) fun _ z => z) (fun b w e => by rw [upd_ne (ne_of_none e q2)]; exact e) (fun i b h4 h5 => ⟨upd_ne ?_, rfl⟩) fun o' h => ⟨upd_ne ?_, rfl⟩, fun b w e => by rw [upd_ne (ne_of_none e q2)]; exact e, rp⟩
    · rintro rfl
      exact h3 hc i h4 h5
    · rintro rfl
      have q := (R.ob1 o' h).1
      rw [ha] at q; cases q
      exact hk _ _ _ rfl
  cases c with
  | val d' =>
    obtain ⟨v, e, r⟩ := h1
    cases e; cases hd
    exact ⟨F, R, fun _ _ e => e, r⟩
  | lst xs =>
    obtain ⟨a, vs, e, q1, q2, q3, q4⟩ := h1
    cases e; cases hd
    exact key a _ rfl q3 q4 q1 rfl (fun _ _ _ z => nomatch z) (.lst upd_same (q2.mono fun b w e => by rw [upd_ne (ne_of_none e q3)]; exact e))
  | dct ks xs =>
    obtain ⟨a, vs, e, q1, n, l, q2, q3, q4⟩ := h1
    cases e; cases hd
    exact key a _ rfl q3 q4 q1 rfl (fun _ _ _ z => nomatch z) (.dct upd_same n l (q2.mono fun b w e => by rw [upd_ne (ne_of_none e q3)]; exact e))
  | un => cases hd
  | exn c => cases hd
end
end Mi
namespace Mi
open PySem PySem.Spec PyProof.Rows L2

/-! ### readings -/
/-- what a result is, at a value -/
def RR (C : Cn) (ob : Option OB) (F H : Hp) (σ : L2.St) (s : S) (u : V) : Ro → Prop
  | .fr c => RF C ob F H σ s u c
  | .pt i => vAt C σ ob i = some u ∧ (gt s i).own = true
/-- an operand: data, or a slot's own thing -/
def RO (C : Cn) (ob : Option OB) (F H : Hp) (σ : L2.St) (s : S) (u : V) : Ro → Prop
  | .fr c => ∃ d, c = .val d ∧ Rep C.K C.ca F u d
  | .pt i => vAt C σ ob i = some u ∧ (gt s i).own = true
def RV (C : Cn) (ob : Option OB) (F H : Hp) (σ : L2.St) (s : S) (u : V) (d : D) : Prop := Rep C.K C.ca F u d
abbrev Rl (α : Type) := Option OB → Hp → Hp → L2.St → S → V → α → Prop
/-- what follows a step that comes to r, from the frozen part F on -/
def Post {α β : Type} (C : Cn) (W : WX) (ob : Option OB) (F : Hp) (σ : L2.St) (rel : Option OB → Hp → Hp → L2.St → S → β → α → Prop) (Q : β → Hp → Prop) : R α → Prop
  | .ok a s' => ∀ (u : β) (F' H' : Hp), SR C ob F' H' σ s' → Same F F' → rel ob F' H' σ s' u a → Q u H'
  | .ex k s' => ∀ (F' H' : Hp), SR C ob F' H' σ s' → Same F F' → W (.ref (C.cv k)) none σ H'
theorem Post.mono {α β : Type} {C : Cn} {W : WX} {ob : Option OB} {F F1 : Hp} {σ : L2.St} {rel : Option OB → Hp → Hp → L2.St → S → β → α → Prop} {Q : β → Hp → Prop} {r : R α} (h : Post C W ob F σ rel Q r) (e : Same F F1) : Post C W ob F1 σ rel Q r := by
  cases r with
  | ok a s' => exact fun u F' H' R m q => h u F' H' R (e.trans m) q
  | ex k s' => exact fun F' H' R m => h F' H' R (e.trans m)
/-- the reading of a step: it is taken from a state of ours, comes to r, and r's end is wanted -/
def tR {α β : Type} (C : Cn) (W : WX) (m : S → Option (R α)) (rel : Option OB → Hp → Hp → L2.St → S → β → α → Prop) : L2.St → Hp → (β → Hp → Prop) → Prop := fun σ H Q =>
  ∃ (ob : Option OB) (F : Hp) (s : S) (r : R α), SR C ob F H σ s ∧ m s = some r ∧ Post C W ob F σ rel Q r
abbrev tE (C : Cn) (W : WX) (c : CE) : TE := tR C W (fun s => ev C.Γ c s) (RR C)
abbrev tO (C : Cn) (W : WX) (c : CE) : TE := tR C W (fun s => toO (ev C.Γ c s)) (RO C)
abbrev tV (C : Cn) (W : WX) (c : CE) : TE := tR C W (fun s => toV (ev C.Γ c s)) (RV C)
abbrev tW (C : Cn) (W : WX) (c : CE) : TE := tR C W (fun s => toW (ev C.Γ c s)) (RF C)
def RB (ob : Option OB) (F H : Hp) (σ : L2.St) (s : S) (b k : Bool) : Prop := b = k
abbrev tT (C : Cn) (W : WX) (c : CE) : TT := tR (β := Bool) C W (fun s => evT C.Γ c s) RB
theorem pe_imp {X : Cx} {e : Expr} {t t' : TE} (h : PE X e t) (k : ∀ σ H Q, t' σ H Q → t σ H Q) : PE X e t' := ⟨fun pins s σ H Q I q => h.run pins s σ H Q I (k σ H Q q)⟩
theorem pt_imp {X : Cx} {e : Expr} {t t' : TT} (h : PT X e t) (k : ∀ σ H Q, t' σ H Q → t σ H Q) : PT X e t' := ⟨fun pins s σ H Q I q => h.run pins s σ H Q I (k σ H Q q)⟩
theorem ps_imp {X : Cx} {e : Stmt} {t t' : TS} (h : PS X e t) (k : ∀ D σ H, t' D σ H → t D σ H) : PS X e t' := ⟨fun pins s σ H D I q => h.run pins s σ H D I (k D σ H q)⟩
theorem pss_imp {X : Cx} {e : List Stmt} {t t' : TS} (h : PSs X e t) (k : ∀ D σ H, t' D σ H → t D σ H) : PSs X e t' := ⟨fun pins s σ H D I q => h.run pins s σ H D I (k D σ H q)⟩
section
variable {C : Cn} {W : WX} {ob : Option OB} {F H : Hp} {σ : L2.St} {s : S}
/-- one step, then another -/
theorem step {α α1 β β1 : Type} {m : S → Option (R α1)} {k : α1 → S → Option (R α)} {rel : Option OB → Hp → Hp → L2.St → S → β1 → α1 → Prop} {rel2 : Option OB → Hp → Hp → L2.St → S → β → α → Prop} {Q : β → Hp → Prop} {Q1 : β1 → Hp → Prop} {r : R α}
    (R : SR C ob F H σ s) (e : bnd (m s) k = some r) (p : Post C W ob F σ rel2 Q r)
    (h : ∀ (a : α1) (s1 : S) (u : β1) (F1 H1 : Hp), m s = some (.ok a s1) → SR C ob F1 H1 σ s1 → Same F F1 → rel ob F1 H1 σ s1 u a → k a s1 = some r → Post C W ob F1 σ rel2 Q r → Q1 u H1) : tR C W m rel σ H Q1 := by
  cases e1 : m s with
  | none => rw [e1] at e; cases e
  | some r1 =>
    rw [e1] at e
    refine ⟨ob, F, s, r1, R, e1, ?_⟩
    cases r1 with
    | ok a s1 => exact fun u F1 H1 R1 m1 q1 => h a s1 u F1 H1 e1 R1 m1 q1 e (p.mono m1)
    | ex c s1 =>
      cases e
      exact fun F1 H1 R1 m1 => p F1 H1 R1 m1
/-- the same, the second one no step: a value of it -/
theorem stepM {α α1 β β1 : Type} {m : S → Option (R α1)} {g : α1 → S → Option α} {rel : Option OB → Hp → Hp → L2.St → S → β1 → α1 → Prop} {rel2 : Option OB → Hp → Hp → L2.St → S → β → α → Prop} {Q : β → Hp → Prop} {Q1 : β1 → Hp → Prop} {r : R α}
    (R : SR C ob F H σ s) (e : bnd (m s) (fun a s => (g a s).map fun b => .ok b s) = some r) (p : Post C W ob F σ rel2 Q r)
    (h : ∀ (a : α1) (s1 : S) (u : β1) (F1 H1 : Hp) (b : α), m s = some (.ok a s1) → SR C ob F1 H1 σ s1 → Same F F1 → rel ob F1 H1 σ s1 u a → g a s1 = some b → (∀ (u : β) (F' H' : Hp), SR C ob F' H' σ s1 → Same F1 F' → rel2 ob F' H' σ s1 u b → Q u H') → Q1 u H1) : tR C W m rel σ H Q1 := by
  refine step R e p fun a s1 u F1 H1 e1 R1 m1 q1 e2 p1 => ?_
  cases eg : g a s1 with
  | none => rw [eg] at e2; cases e2
  | some b => rw [eg] at e2; cases e2; exact h a s1 u F1 H1 b e1 R1 m1 q1 eg p1
end
section
variable {X : Cx} {C : Cn} {W : WX} {e : Expr} {c : CE}
/-- as data -/
theorem toV_of (h : PE X e (tE C W c)) : PE X e (tV C W c) := by
  refine pe_imp h fun σ H Q ⟨ob, F, s, r, R0, er, p⟩ => ?_
  refine step R0 er p fun o s1 u F1 H1 e1 R1 m1 q1 e2 p1 => ?_
  cases o with
  | fr c =>
    have e2 : (c.fz.map fun d => R.ok d s1) = some r := e2
    cases ec : c.fz with
    | none => rw [ec] at e2; cases e2
    | some d =>
      rw [ec] at e2; cases e2
      obtain ⟨F2, R2, m2, q2⟩ := RF.freeze R1 q1 ec
      exact p1 u F2 H1 R2 m2 q2
  | pt i =>
    have e2 : ((gt s1 i).fz.map fun d => R.ok d (s1.set i (.val d))) = some r := e2
    cases ec : (gt s1 i).fz with
    | none => rw [ec] at e2; cases e2
    | some d =>
      rw [ec] at e2; cases e2
      obtain ⟨F2, R2, m2, q2⟩ := R1.freeze q1.2 ec q1.1
      exact p1 u F2 H1 R2 m2 q2
/-- as an operand -/
theorem toO_of (h : PE X e (tE C W c)) : PE X e (tO C W c) := by
  refine pe_imp h fun σ H Q ⟨ob, F, s, r, R0, er, p⟩ => ?_
  refine step R0 er p fun o s1 u F1 H1 e1 R1 m1 q1 e2 p1 => ?_
  cases o with
  | fr c =>
    have e2 : (c.fz.map fun d => R.ok (.fr (.val d)) s1) = some r := e2
    cases ec : c.fz with
    | none => rw [ec] at e2; cases e2
    | some d =>
      rw [ec] at e2; cases e2
      obtain ⟨F2, R2, m2, q2⟩ := RF.freeze R1 q1 ec
      exact p1 u F2 H1 R2 m2 ⟨d, rfl, q2⟩
  | pt i =>
    have e2 : some (R.ok (.pt i) s1) = some r := e2
    cases e2
    exact p1 u F1 H1 R1 (fun _ _ z => z) q1
/-- as what a name is bound to -/
theorem toW_of (h : PE X e (tE C W c)) : PE X e (tW C W c) := by
  refine pe_imp h fun σ H Q ⟨ob, F, s, r, R0, er, p⟩ => ?_
  refine step R0 er p fun o s1 u F1 H1 e1 R1 m1 q1 e2 p1 => ?_
  cases o with
  | fr c =>
    have e2 : some (R.ok c s1) = some r := e2
    cases e2
    exact p1 u F1 H1 R1 (fun _ _ z => z) q1
  | pt i =>
    have e2 : ((gt s1 i).fz.map fun d => R.ok (.val d) (s1.set i (.val d))) = some r := e2
    cases ec : (gt s1 i).fz with
    | none => rw [ec] at e2; cases e2
    | some d =>
      rw [ec] at e2; cases e2
      obtain ⟨F2, R2, m2, q2⟩ := R1.freeze q1.2 ec q1.1
      exact p1 u F2 H1 R2 m2 ⟨⟨u, rfl, q2⟩, rfl, fun z => nomatch z⟩
end
/-- an operand's content, where it is used -/
def OC (C : Cn) (F H : Hp) (u : V) (c : Cl) : Prop := CR C F H (some u) c ∧ c.fz.isSome = true
section
variable {C : Cn} {ob : Option OB} {F F' H H' : Hp} {σ : L2.St} {s s' : S}
/-- an operand that was reckoned earlier, as it stands now -/
theorem RO.now {u : V} {o : Ro} {s1 : S} {F1 H1 : Hp} (h : RO C ob F1 H1 σ s1 u o) (R : SR C ob F H σ s) (m : Same F1 F) (hf : (cont s o).fz.isSome = true) : OC C F H u (cont s o) := by
  cases o with
  | fr c =>
    obtain ⟨d, rfl, r⟩ := h
    exact ⟨⟨u, rfl, r.mono m⟩, rfl⟩
  | pt i =>
    have q := R.cr i
    rw [h.1] at q
    exact ⟨q, hf⟩
theorem RO.at_ {u : V} {o : Ro} (h : RO C ob F H σ s u o) (R : SR C ob F H σ s) (hf : (cont s o).fz.isSome = true) : OC C F H u (cont s o) := h.now R (fun _ _ z => z) hf
theorem OC.list {u : V} {c : Cl} {xs : List D} (h : OC C F H u c) (m : Same F H) (e : asL c = some xs) : ∃ a vs, u = .ref a ∧ SqL C.K H a vs ∧ Reps C.K C.ca F vs xs := by
  obtain ⟨h, _⟩ := h
  cases c with
  | lst ys =>
    obtain ⟨a, vs, q1, q2, q3, _⟩ := h
    cases e; cases q1
    exact ⟨a, vs, rfl, .inl (.inl q2), q3⟩
  | val d =>
    obtain ⟨v, q1, q2⟩ := h
    cases q1
    cases q2 with
    | lst q3 q4 => cases e; exact ⟨_, _, rfl, .inl (.inl (m _ _ q3)), q4⟩
    | scr q3 => cases e; exact ⟨_, _, rfl, sqL_mono m q3, Reps.ints _⟩
    | _ => cases e
  | _ => cases e
theorem OC.listM {u : V} {c : Cl} {xs : List D} (h : OC C F H u c) (m : Same F H) (e : asM c = some xs) : ∃ a vs, u = .ref a ∧ H a = some (.lst vs) ∧ Reps C.K C.ca F vs xs := by
  obtain ⟨h, _⟩ := h
  cases c with
  | lst ys =>
    obtain ⟨a, vs, q1, q2, q3, _⟩ := h
    cases e; cases q1
    exact ⟨a, vs, rfl, q2, q3⟩
  | val d =>
    obtain ⟨v, q1, q2⟩ := h
    cases q1
    cases q2 with
    | lst q3 q4 => cases e; exact ⟨_, _, rfl, m _ _ q3, q4⟩
    | _ => cases e
  | _ => cases e
theorem OC.tup {u : V} {c : Cl} {xs : List D} (h : OC C F H u c) (m : Same F H) (e : asT c = some xs) : ∃ a vs, u = .ref a ∧ SqT C.K H a vs ∧ Reps C.K C.ca F vs xs := by
  obtain ⟨h, _⟩ := h
  cases c with
  | val d =>
    obtain ⟨v, q1, q2⟩ := h
    cases q1
    cases q2 with
    | tup q3 q4 => cases e; exact ⟨_, _, rfl, .inl (.inl (m _ _ q3)), q4⟩
    | kt q3 => cases e; exact ⟨_, _, rfl, sqT_mono m q3, Reps.strs_ _⟩
    | _ => cases e
  | _ => cases e
theorem OC.seq {u : V} {c : Cl} {xs : List D} (h : OC C F H u c) (m : Same F H) (e : (asL c).or (asT c) = some xs) : ∃ a vs, u = .ref a ∧ (SqL C.K H a vs ∨ SqT C.K H a vs) ∧ Reps C.K C.ca F vs xs := by
  cases e1 : asL c with
  | some ys =>
    rw [e1] at e; cases e
    obtain ⟨a, vs, q1, q2, q3⟩ := h.list m e1
    exact ⟨a, vs, q1, .inl q2, q3⟩
  | none =>
    rw [e1] at e
    obtain ⟨a, vs, q1, q2, q3⟩ := h.tup m (by simpa using e)
    exact ⟨a, vs, q1, .inr q2, q3⟩
theorem OC.dat {u : V} {d : D} (h : OC C F H u (.val d)) : Rep C.K C.ca F u d := by
  obtain ⟨⟨v, e, r⟩, _⟩ := h
  cases e; exact r
theorem OC.dict {u : V} {c : Cl} {ks : List Str} {xs : List D} (h : OC C F H u c) (m : Same F H) (e : asD c = some (ks, xs)) : ∃ a vs, u = .ref a ∧ H a = some (.dK ((ks.map Sum.inr).zip vs)) ∧ ks.Nodup ∧ vs.length = ks.length ∧ Reps C.K C.ca F vs xs := by
  obtain ⟨h, _⟩ := h
  cases c with
  | dct ks' ys =>
    obtain ⟨a, vs, q1, q2, n, l, q3, _⟩ := h
    cases e; cases q1
    exact ⟨a, vs, rfl, q2, n, l, q3⟩
  | val d =>
    obtain ⟨v, q1, q2⟩ := h
    cases q1
    cases q2 with
    | dct q3 n l q4 => cases e; exact ⟨_, _, rfl, m _ _ q3, n, l, q4⟩
    | _ => cases e
  | _ => cases e
/-- scalars -/
theorem rep_int {K : PySem.W.Frag} {ca : Nat → Addr} {u : V} {i : Int} (h : Rep K ca F u (.int i)) : u = .int i := by cases h; rfl
theorem rep_str {K : PySem.W.Frag} {ca : Nat → Addr} {u : V} {i : Str} (h : Rep K ca F u (.str i)) : u = .str i := by cases h; rfl
theorem rep_bl {K : PySem.W.Frag} {ca : Nat → Addr} {u : V} {i : Bool} (h : Rep K ca F u (.bl i)) : u = .bl i := by cases h; rfl
theorem rep_non {K : PySem.W.Frag} {ca : Nat → Addr} {u : V} (h : Rep K ca F u .non) : u = .non := by cases h; rfl
/-- an operand that some operator takes has a content -/
def Op (k : Cl → Option α) : Prop := ∀ c, (k c).isSome = true → c.fz.isSome = true
/-- the end of a step that makes nothing new -/
theorem fin_val {rel2 : Rl Ro} {u : V} {d : D} (R : SR C ob F H σ s) (r : Rep C.K C.ca F u d) : RR C ob F H σ s u (.fr (.val d)) := ⟨⟨u, rfl, r⟩, rfl, fun z => nomatch z⟩
/-- .. that makes a new list -/
theorem fin_lst (R : SR C ob F H σ s) {p : Addr} {vs : List V} {xs : List D} (hp : H p = none) (r : Reps C.K C.ca F vs xs) : SR C ob F (upd H p (.lst vs)) σ s ∧ RR C ob F (upd H p (.lst vs)) σ s (.ref p) (.fr (.lst xs)) := by
  refine ⟨R.new _ hp, ⟨p, vs, rfl, upd_same, r, R.sub.free hp, R.fr_new hp⟩, rfl, fun _ i h1 h2 => ?_⟩
  exact R.own_ne h1 h2 hp rfl
theorem fin_dct (R : SR C ob F H σ s) {p : Addr} {ks : List Str} {vs : List V} {xs : List D} (hp : H p = none) (n : ks.Nodup) (l : vs.length = ks.length) (r : Reps C.K C.ca F vs xs) : SR C ob F (upd H p (.dK ((ks.map Sum.inr).zip vs))) σ s ∧ RR C ob F (upd H p (.dK ((ks.map Sum.inr).zip vs))) σ s (.ref p) (.fr (.dct ks xs)) := by
  refine ⟨R.new _ hp, ⟨p, vs, rfl, upd_same, n, l, r, R.sub.free hp, R.fr_new hp⟩, rfl, fun _ i h1 h2 => ?_⟩
  exact R.own_ne h1 h2 hp rfl
/-- .. a new tuple -/
theorem fin_tup (R : SR C ob F H σ s) {p : Addr} {vs : List V} {xs : List D} (hp : H p = none) (r : Reps C.K C.ca F vs xs) : SR C ob (upd F p (.tup vs)) (upd H p (.tup vs)) σ s ∧ Same F (upd F p (.tup vs)) ∧ RR C ob (upd F p (.tup vs)) (upd H p (.tup vs)) σ s (.ref p) (.fr (.val (.tup xs))) := by
  have m : Same F (upd F p (.tup vs)) := fun a u e => by rw [upd_ne (ne_of_none e (R.sub.free hp))]; exact e
  exact ⟨R.newF _ hp, m, ⟨_, rfl, .tup upd_same (r.mono m)⟩, rfl, fun z => nomatch z⟩
end
end Mi
namespace Mi
open PySem PySem.Spec PyProof.Rows L2

/-! ### names, constants -/
section
variable {X : Cx} {C : Cn} {W : WX} {e : Expr} {pos : Pos}
theorem vAt_lt {C : Cn} {σ : L2.St} {ob : Option OB} {i : Nat} {u : V} (h : i < C.n) : vAt C σ ob i = some u ↔ σ[i]? = some (some u) := by
  unfold vAt
  rw [if_pos h]
  cases σ[i]? with
  | none => simp
  | some o => simp
theorem SR.slot {C : Cn} {ob : Option OB} {F H : Hp} {σ : L2.St} {s : S} (R : SR C ob F H σ s) {i : Nat} (h : i < C.n) (hne : gt s i ≠ .un) : ∃ u, σ[i]? = some (some u) ∧ vAt C σ ob i = some u := by
  have q := R.cr i
  have k : ∃ u, vAt C σ ob i = some u := by
    cases e : gt s i with
    | un => exact absurd e hne
    | val d => rw [e] at q; obtain ⟨v, h1, _⟩ := q; exact ⟨v, h1⟩
    | lst d => rw [e] at q; obtain ⟨v, _, h1, _⟩ := q; exact ⟨_, h1⟩
    | dct ks d => rw [e] at q; obtain ⟨v, _, h1, _⟩ := q; exact ⟨_, h1⟩
    | exn c => rw [e] at q; obtain ⟨v, h1, _⟩ := q; exact ⟨_, h1⟩
  obtain ⟨u, hu⟩ := k
  exact ⟨u, (vAt_lt h).mp hu, hu⟩
/-- what stands in a slot, as a result -/
theorem slot_res {C : Cn} {ob : Option OB} {F H : Hp} {σ : L2.St} {s : S} {i : Nat} {u : V} {r : R Ro} (R : SR C ob F H σ s) (hu : vAt C σ ob i = some u) (e : ev C.Γ (.v i) s = some r) : ∃ o, r = .ok o s ∧ RR C ob F H σ s u o := by
  have e : (match gt s i with
    | .val d => some (Mi.R.ok (.fr (.val d)) s)
    | .lst _ => some (.ok (.pt i) s)
    | .dct _ _ => some (.ok (.pt i) s)
    | _ => none) = some r := e
  have q := R.cr i
  cases eg : gt s i with
  | un => rw [eg] at e; cases e
  | exn c => rw [eg] at e; cases e
  | val d =>
    rw [eg] at e; cases e
    rw [eg, hu] at q
    obtain ⟨v, h1, h2⟩ := q
    cases h1
    exact ⟨_, rfl, ⟨u, rfl, h2⟩, rfl, fun z => nomatch z⟩
  | lst d => rw [eg] at e; cases e; exact ⟨_, rfl, hu, by rw [eg]; rfl⟩
  | dct ks d => rw [eg] at e; cases e; exact ⟨_, rfl, hu, by rw [eg]; rfl⟩
theorem ev_v_ne {Γ : Env} {s : S} {i : Nat} {r : R Ro} (e : ev Γ (.v i) s = some r) : gt s i ≠ .un := by
  intro z
  have e : (match gt s i with
    | .val d => some (Mi.R.ok (.fr (.val d)) s)
    | .lst _ => some (.ok (.pt i) s)
    | .dct _ _ => some (.ok (.pt i) s)
    | _ => none) = some r := e
  rw [z] at e; cases e
/-- a name of the def's own -/
theorem qe_v {i : Nat} {x : Str} (hn : i < C.n) (hN : X.N[i]? = some x) (hv : Vis X.env.scope x) (hd : (x == ("__debug__" : Str)) = false) (hcd : (x == ("__classdict__" : Str)) = false) : PE X (.Name x pos) (tE C W (.v i)) := by
  refine pe_imp (pe_var hN hv hd hcd) fun σ H Q ⟨ob, F, s, r, R, e, p⟩ => ?_
  obtain ⟨u, h1, h2⟩ := R.slot hn (ev_v_ne e)
  obtain ⟨o, rfl, q⟩ := slot_res R h2 e
  exact ⟨u, h1, p u F H R (fun _ _ z => z) q⟩
theorem lookup_zip {f : Str} {v : V} : ∀ {fs : List Str} {vs : List V} {j : Nat}, fs.Nodup → fs[j]? = some f → vs[j]? = some v → (fs.zip vs).lookup f = some v
  | [], _, _, _, h, _ => by simp at h
  | _ :: _, [], _, _, _, h => by simp at h
  | g :: fs, w :: vs, 0, _, h, h2 => by
    simp at h h2
    subst h h2
    simp [List.lookup]
  | g :: fs, w :: vs, j + 1, nd, h, h2 => by
    have h' : fs[j]? = some f := by simpa using h
    have ne : (f == g) = false := by
      rw [beq_eq_false_iff_ne]
      rintro rfl
      exact (List.nodup_cons.mp nd).1 (List.mem_of_getElem? h')
    show (match f == g with | true => some w | false => (fs.zip vs).lookup f) = some v
    rw [ne]
    exact lookup_zip (List.nodup_cons.mp nd).2 h' (by simpa using h2)
theorem flds_nodup (c : Nat) : (flds c).Nodup := by
  cases c with
  | zero => exact (by decide +kernel : (["name", "body", "names", "held"] : List Str).Nodup)
  | succ c => exact (by decide +kernel : (["most", "todo", "done", "deeds", "made"] : List Str).Nodup)
theorem flds_len (c : Nat) : (flds c).length = nfl c := by cases c <;> rfl
/-- a field of the object that is bound -/
theorem qe_gh {i j : Nat} {x f : Str} {pos' : Pos} (hi : C.os = i) (hn : i < C.n) (hN : X.N[i]? = some x) (hv : Vis X.env.scope x) (hd : (x == ("__debug__" : Str)) = false) (hcd : (x == ("__classdict__" : Str)) = false)
    (hK : X.K = C.K) (hf : (flds C.oc)[j]? = some f) (hc : Cls C.K (C.ca C.oc)) (ha : NoAttr C.K (C.ca C.oc) f) : PE X (.Attribute (.Name x pos') f pos) (tE C W (.v (C.n + j))) := by
  refine pe_imp (pe_fld (pe_var hN hv hd hcd) rfl) fun σ H Q ⟨ob, F, s, r, R, e, p⟩ => ?_
  have ne := ev_v_ne e
  cases ho : ob with
  | none => exact absurd (R.ob0 ho (C.n + j) (by omega)) ne
  | some o =>
    obtain ⟨h1, h2, h3, h4, h5, h6, h7⟩ := R.ob1 o ho
    have lt : j < o.vs.length := by
      rcases Nat.lt_or_ge j o.vs.length with z | z
      · exact z
      · exact absurd (h5 j z) ne
    have hu : o.vs[j]? = some o.vs[j] := List.getElem?_eq_getElem lt
    have hv : vAt C σ ob (C.n + j) = some o.vs[j] := by
      unfold vAt
      rw [if_neg (by omega), ho]
      show o.vs[C.n + j - C.n]? = _
      rw [show C.n + j - C.n = j by omega, hu]
    obtain ⟨ro, rfl, q⟩ := slot_res R hv e
    rw [hK]
    refine ⟨.ref o.a, by rw [← hi]; exact h7, o.a, C.ca C.oc, o.dx, _, _, rfl, h1, hc, ha, lookup_zip (flds_nodup _) hf hu, p _ F H R (fun _ _ z => z) q⟩
theorem qe_const {u : V} {d : D} (h : PE X e (tC u)) (hr : ∀ F, Rep C.K C.ca F u d) (c : CE) (hc : ∀ s, ev C.Γ c s = some (.ok (.fr (.val d)) s)) : PE X e (tE C W c) := by
  refine pe_imp h fun σ H Q ⟨ob, F, s, r, R, e, p⟩ => ?_
  have e := (hc s).symm.trans e
  cases e
  exact p u F H R (fun _ _ z => z) ⟨⟨u, rfl, hr F⟩, rfl, fun z => nomatch z⟩
theorem qe_int {i j} : PE X (.Constant (.int i) j pos) (tE C W (.c (.int i))) := qe_const pe_int (fun _ => .int i) _ fun _ => rfl
theorem qe_bl {i j} : PE X (.Constant (.bool i) j pos) (tE C W (.c (.bl i))) := qe_const pe_bl (fun _ => .bl i) _ fun _ => rfl
theorem qe_non {j} : PE X (.Constant .none j pos) (tE C W (.c .non)) := qe_const pe_non (fun _ => .non) _ fun _ => rfl
theorem qe_str {x j} : PE X (.Constant (.str x) j pos) (tE C W (.c (.str x))) := qe_const pe_str (fun _ => .str x) _ fun _ => rfl
theorem qe_glob {x : Str} {v : V} {u : Value} {d : D} (hg : Gl X x) (hm : X.mg x = some u) (r : RelV v u) (hr : ∀ F, Rep C.K C.ca F v d) (hd : (x == ("__debug__" : Str)) = false) : PE X (.Name x pos) (tE C W (.g x d)) := qe_const (pe_glob hg hm r hd) hr _ fun _ => rfl
end

/-! ### operators -/
section
variable {C : Cn} {ob : Option OB} {F H : Hp} {σ : L2.St} {s : S}
/-- what an operator of two operands must do: its reading asks no more than that its value be wanted -/
def BinOk (C : Cn) (r : R2) (g : Cl → Cl → Option Cl) : Prop := ∀ {ob : Option OB} {F H : Hp} {σ : L2.St} {s : S} {u v : V} {x y c : Cl} {Q : VK}, SR C ob F H σ s → OC C F H u x → OC C F H v y → g x y = some c →
  (∀ (w : V) (F' H' : Hp), SR C ob F' H' σ s → Same F F' → RF C ob F' H' σ s w c → Q w H') → r u v H Q
theorem RF.val (R : SR C ob F H σ s) {u : V} {d : D} (r : Rep C.K C.ca F u d) : RF C ob F H σ s u (.val d) := ⟨⟨u, rfl, r⟩, rfl, fun z => nomatch z⟩
theorem same_refl (F : Hp) : Same F F := fun _ _ z => z
end
section
variable {X : Cx} {C : Cn} {W : WX} {ea eb : Expr} {a b : CE} {pos : Pos}
theorem op2_run {r : R2} {g : Cl → Cl → Option Cl} {c : CE} (hr : BinOk C r g) (hf : ∀ x y c, g x y = some c → x.fz.isSome = true ∧ y.fz.isSome = true)
    (hc : ∀ s, ev C.Γ c s = bnd (toO (ev C.Γ a s)) fun x s => bnd (toO (ev C.Γ b s)) fun y s => (g (cont s x) (cont s y)).map fun c => .ok (.fr c) s) {σ : L2.St} {H : Hp} {Q : VK} (h : tE C W c σ H Q) : tOp r (tO C W a) (tO C W b) σ H Q := by
  obtain ⟨ob, F, s, r, R, e, p⟩ := h
  have e := (hc s).symm.trans e
  refine step R e p fun x s1 u F1 H1 e1 R1 m1 q1 e2 p1 => ?_
  refine step R1 e2 p1 fun y s2 v F2 H2 e3 R2 m2 q2 e4 p2 => ?_
  cases eg : g (cont s2 x) (cont s2 y) with
  | none => rw [eg] at e4; cases e4
  | some z =>
    rw [eg] at e4; cases e4
    obtain ⟨f1, f2⟩ := hf _ _ _ eg
    exact hr R2 (q1.now R2 m2 f1) (q2.at_ R2 f2) eg fun w F' H' R' m' q' => p2 w F' H' R' m' q'
theorem qe_op2 {e : Expr} {r : R2} {g : Cl → Cl → Option Cl} {c : CE} (h : PE X e (tOp r (tO C W a) (tO C W b))) (hr : BinOk C r g) (hf : ∀ x y c, g x y = some c → x.fz.isSome = true ∧ y.fz.isSome = true)
    (hc : ∀ s, ev C.Γ c s = bnd (toO (ev C.Γ a s)) fun x s => bnd (toO (ev C.Γ b s)) fun y s => (g (cont s x) (cont s y)).map fun c => .ok (.fr c) s) : PE X e (tE C W c) := pe_imp h fun σ H Q h => op2_run hr hf hc h
/-- a test whose value is always a truth -/
theorem tst_of {c : CE} (hc : evT C.Γ c = tst (ev C.Γ c)) (hb : ∀ s o s', ev C.Γ c s = some (.ok o s') → ∃ k, o = .fr (.val (.bl k))) {σ : L2.St} {H : Hp} {Q : Bool → Hp → Prop} (h : tT C W c σ H Q) : tE C W c σ H fun x H' => ∃ k, x = .bl k ∧ Q k H' := by
  obtain ⟨ob, F, s, r, R, er, p⟩ := h
  have er : bnd (toO (ev C.Γ c s)) (fun x s => (truth (cont s x)).map fun b => Mi.R.ok b s) = some r := by
    rw [← er]
    show _ = evT C.Γ c s
    rw [hc]; rfl
  cases e1 : ev C.Γ c s with
  | none => rw [e1] at er; cases er
  | some r1 =>
    rw [e1] at er
    refine ⟨ob, F, s, r1, R, e1, ?_⟩
    cases r1 with
    | ex k s1 => cases er; exact p
    | ok o s1 =>
      obtain ⟨k, rfl⟩ := hb s o s1 e1
      cases er
      intro u F' H' R' m' q'
      obtain ⟨⟨v, e5, r5⟩, _⟩ := q'
      cases e5
      exact ⟨k, rep_bl r5, p k F' H' R' m' rfl⟩
theorem op_or {f : Value → Value → Sem Value} {r r' : R2} (h : OpR X f r) (h' : OpR X f r') : OpR X f (fun x y H Q => r x y H Q ∨ r' x y H Q) := OpR.or h h'
end
/-! the operators' rules, together -/
def rAddA (K : PySem.W.Frag) : R2 := fun x y H Q => (∃ i j, x = .int i ∧ y = .int j ∧ Q (.int (i + j)) H) ∨ (∃ i j, x = .str i ∧ y = .str j ∧ i.length + j.length ≤ sizeLine ∧ Q (.str (i ++ j)) H) ∨ rCat x y H Q ∨ rCatA K x y H Q
theorem op_addA {X : Cx} : OpR X (binaryOp .Add) (rAddA X.K) := OpR.or op_add (OpR.or op_add_str (OpR.or op_cat op_catA))
section
variable {C : Cn}
theorem fz_asM {c : Cl} {xs : List D} (h : asM c = some xs) : c.fz.isSome = true := by
  cases c with
  | lst ys => rfl
  | val d => rfl
  | _ => cases h
theorem fz_asL {c : Cl} {xs : List D} (h : asL c = some xs) : c.fz.isSome = true := by
  cases c with
  | lst ys => rfl
  | val d => rfl
  | _ => cases h
theorem cat_cases {x y c : Cl} (h : catop x y = some c) : ∃ xs ys, asM x = some xs ∧ asM y = some ys ∧ xs.length + ys.length ≤ sizeLine ∧ c = .lst (xs ++ ys) := by
  unfold catop at h
  cases e1 : asM x with
  | none => rw [e1] at h; cases h
  | some xs =>
    cases e2 : asM y with
    | none => rw [e1, Option.bind_some, e2] at h; cases h
    | some ys =>
      rw [e1, Option.bind_some, e2, Option.bind_some] at h
      split at h
      · rename_i hz; cases h; exact ⟨xs, ys, rfl, rfl, hz, rfl⟩
      · cases h
theorem add_cases {x y c : Cl} (h : addop x y = some c) : (∃ i j, x = .val (.int i) ∧ y = .val (.int j) ∧ c = .val (.int (i + j))) ∨ (∃ i j, x = .val (.str i) ∧ y = .val (.str j) ∧ i.length + j.length ≤ sizeLine ∧ c = .val (.str (i ++ j))) ∨
    (∃ i j, x = .val (.tup i) ∧ y = .val (.tup j) ∧ i.length + j.length ≤ sizeLine ∧ c = .val (.tup (i ++ j))) ∨
    ∃ xs ys, asM x = some xs ∧ asM y = some ys ∧ xs.length + ys.length ≤ sizeLine ∧ c = .lst (xs ++ ys) := by
  unfold addop at h
  split at h
  · cases h; exact .inl ⟨_, _, rfl, rfl, rfl⟩
  · split at h
    · rename_i hz; cases h; exact .inr (.inl ⟨_, _, rfl, rfl, hz, rfl⟩)
    · cases h
  · split at h
    · rename_i hz; cases h; exact .inr (.inr (.inl ⟨_, _, rfl, rfl, hz, rfl⟩))
    · cases h
  · exact .inr (.inr (.inr (cat_cases h)))
theorem num_cases {f : Int → Int → Option Int} {x y c : Cl} (h : numop f x y = some c) : ∃ i j k, x = .val (.int i) ∧ y = .val (.int j) ∧ f i j = some k ∧ c = .val (.int k) := by
  unfold numop at h
  split at h
  · rename_i i j
    cases e : f i j with
    | none => rw [e] at h; cases h
    | some k => rw [e] at h; cases h; exact ⟨i, j, k, rfl, rfl, e, rfl⟩
  · cases h
theorem rep_cases {x y c : Cl} (h : repop x y = some c) : (∃ i j, x = .val (.int i) ∧ y = .val (.int j) ∧ cmul i j = true ∧ c = .val (.int (i * j))) ∨
    (∃ i j, x = .val (.str i) ∧ y = .val (.int j) ∧ (0 ≤ j ∧ j ≤ 1000 ∧ i.length ≤ 1000) ∧ c = .val (.str ⟨((List.replicate j.toNat i.cps.toList).flatten).toArray⟩)) ∨
    ∃ xs j, asM x = some xs ∧ y = .val (.int j) ∧ (0 ≤ j ∧ j < 2 ^ 63 ∧ xs.length * j.toNat ≤ sizeLine) ∧ c = .lst (List.replicate j.toNat xs).flatten := by
  unfold repop at h
  split at h
  · split at h
    · rename_i hz; cases h; exact .inl ⟨_, _, rfl, rfl, hz, rfl⟩
    · cases h
  · split at h
    · rename_i hz; cases h; exact .inr (.inl ⟨_, _, rfl, rfl, hz, rfl⟩)
    · cases h
  · rename_i j _ _
    cases e1 : asM x with
    | none => rw [e1] at h; cases h
    | some xs =>
      rw [e1, Option.bind_some] at h
      split at h
      · rename_i hz; cases h; exact .inr (.inr ⟨_, _, rfl, rfl, ⟨(big_iff.mp hz.1).1, (big_iff.mp hz.1).2, hz.2⟩, rfl⟩)
      · cases h
  · cases h
theorem binop_fz {o : BO} {x y c : Cl} (h : binop o x y = some c) : x.fz.isSome = true ∧ y.fz.isSome = true := by
  have n : ∀ f : Int → Int → Option Int, numop f x y = some c → x.fz.isSome = true ∧ y.fz.isSome = true := fun f h => by
    obtain ⟨i, j, k, rfl, rfl, _⟩ := num_cases h
    exact ⟨rfl, rfl⟩
  cases o with
  | add =>
    rcases add_cases h with ⟨i, j, rfl, rfl, _⟩ | ⟨i, j, rfl, rfl, _⟩ | ⟨i, j, rfl, rfl, _⟩ | ⟨xs, ys, e1, e2, _⟩
    · exact ⟨rfl, rfl⟩
    · exact ⟨rfl, rfl⟩
    · exact ⟨rfl, rfl⟩
    · exact ⟨fz_asM e1, fz_asM e2⟩
  | mul =>
    rcases rep_cases h with ⟨i, j, rfl, rfl, _⟩ | ⟨i, j, rfl, rfl, _⟩ | ⟨xs, j, e1, rfl, _⟩
    · exact ⟨rfl, rfl⟩
    · exact ⟨rfl, rfl⟩
    · exact ⟨fz_asM e1, rfl⟩
  | sub => exact n _ h
  | fdiv => exact n _ h
  | mod => exact n _ h
  | pow => exact n _ h
theorem bin_add : BinOk C (rAddA C.K) addop := by
  intro ob F H σ s u v x y c Q R hx hy e k
  rcases add_cases e with ⟨i, j, rfl, rfl, rfl⟩ | ⟨i, j, rfl, rfl, hz, rfl⟩ | ⟨xs, ys, h1, h2, hz, rfl⟩ | ⟨xs, ys, h1, h2, hz, rfl⟩
  · exact .inl ⟨i, j, rep_int hx.dat, rep_int hy.dat, k _ F H R (same_refl F) (RF.val R (.int _))⟩
  · exact .inr (.inl ⟨i, j, rep_str hx.dat, rep_str hy.dat, hz, k _ F H R (same_refl F) (RF.val R (.str _))⟩)
  · have e1 : asT x = some xs := by rw [h1]; rfl
    have e2 : asT y = some ys := by rw [h2]; rfl
    obtain ⟨a, vs, rfl, qa, ra⟩ := hx.tup R.sub e1
    obtain ⟨b, ws, rfl, qb, rb⟩ := hy.tup R.sub e2
    subst h1 h2
    refine .inr (.inr (.inr ⟨a, b, vs, ws, rfl, rfl, qa, qb, by rw [ra.length, rb.length]; exact hz, fun h => ?_, fun _ h => ?_, fun h1 h2 p hp => ?_⟩))
    · subst h
      cases ra
      exact k _ F H R (same_refl F) (RF.val R hy.dat)
    · subst h
      cases rb
      have r := hx.dat
      rw [List.append_nil] at k
      exact k _ F H R (same_refl F) (RF.val R r)
    · obtain ⟨R', m, q⟩ := fin_tup R hp (ra.append rb)
      exact k _ _ _ R' m q
  · obtain ⟨a, vs, rfl, qa, ra⟩ := hx.listM R.sub h1
    obtain ⟨b, ws, rfl, qb, rb⟩ := hy.listM R.sub h2
    refine .inr (.inr (.inl ⟨a, b, vs, ws, rfl, rfl, qa, qb, by rw [ra.length, rb.length]; exact hz, fun p hp => ?_⟩))
    obtain ⟨R', q⟩ := fin_lst R hp (ra.append rb)
    exact k _ _ _ R' (same_refl F) q
theorem bin_num {r : R2} {f : Int → Int → Option Int} (h : ∀ (i j k : Int) (H : Hp) (Q : VK), f i j = some k → Q (.int k) H → r (.int i) (.int j) H Q) : BinOk C r (numop f) := by
  intro ob F H σ s u v x y c Q R hx hy e k
  obtain ⟨i, j, z, rfl, rfl, ef, rfl⟩ := num_cases e
  rw [rep_int hx.dat, rep_int hy.dat]
  exact h i j z H Q ef (k _ F H R (same_refl F) (RF.val R (.int _)))
theorem bin_sub : BinOk C (rI0 fun i j => .int (i - j)) (binop .sub) := bin_num fun i j k H Q e q => by cases e; exact ⟨i, j, rfl, rfl, q⟩
theorem bin_fdiv : BinOk C (rI CDivN fun i j => .int (i.fdiv j)) (binop .fdiv) := bin_num fun i j k H Q e q => by
  split at e
  · rename_i h; cases e; exact ⟨i, j, rfl, rfl, h, q⟩
  · cases e
theorem bin_mod : BinOk C (rI (fun _ j => j ≠ 0) fun i j => .int (i.fmod j)) (binop .mod) := bin_num fun i j k H Q e q => by
  split at e
  · rename_i h; cases e; exact ⟨i, j, rfl, rfl, h, q⟩
  · cases e
theorem bin_pow : BinOk C (rI CPow fun i j => .int (i ^ j.toNat)) (binop .pow) := bin_num fun i j k H Q e q => by
  split at e
  · rename_i h; cases e; exact ⟨i, j, rfl, rfl, h, q⟩
  · cases e
end
end Mi
namespace Mi
open PySem PySem.Spec PyProof.Rows L2

/-! ### comparisons -/
section
variable {C : Cn} {F H : Hp}
mutual
theorem rep_dp (m : Same F H) : ∀ {u : V} {d : D} {p : PyData}, Rep C.K C.ca F u d → toP d = some p → Dp C.K H u p
  | _, _, _, .non, e => by cases e; exact .non
  | _, _, _, .bl b, e => by cases e; exact .bl b
  | _, _, _, .int b, e => by cases e; exact .int b
  | _, _, _, .str b, e => by cases e; exact .str b
  | _, _, _, .tup (ds := ds) h r, e => by
    unfold toP at e
    cases q : toPs ds with
    | none => rw [q] at e; cases e
    | some ps => rw [q] at e; cases e; exact .tup (.inl (.inl (m _ _ h))) (reps_dp m r q)
  | _, _, _, .lst (ds := ds) h r, e => by
    unfold toP at e
    cases q : toPs ds with
    | none => rw [q] at e; cases e
    | some ps => rw [q] at e; cases e; exact .lst (.inl (.inl (m _ _ h))) (reps_dp m r q)
  | _, _, _, .scr h, e => by cases e
  | _, _, _, .kt h, e => by cases e
  | _, _, _, .dct h _ _ r, e => by cases e
  | _, _, _, .obj _ h _ r, e => by cases e
theorem reps_dp (m : Same F H) : ∀ {us : List V} {ds : List D} {ps : List PyData}, Reps C.K C.ca F us ds → toPs ds = some ps → DpAll C.K H us ps
  | _, _, _, .nil, e => by cases e; exact .nil
  | _, _, _, .cons (d := d) (ds := ds) h r, e => by
    unfold toPs at e
    cases q : toP d with
    | none => rw [q] at e; cases e
    | some p =>
      cases q2 : toPs ds with
      | none => rw [q, Option.bind_some, q2] at e; cases e
      | some ps => rw [q, Option.bind_some, q2] at e; cases e; exact .cons (rep_dp m h q) (reps_dp m r q2)
end
/-- an own list read as data -/
theorem oc_dp (m : Same F H) {u : V} {c : Cl} {d : D} {p : PyData} (h : OC C F H u c) (hd : c.fz = some d) (e : toP d = some p) : Dp C.K H u p := by
  obtain ⟨h, _⟩ := h
  cases c with
  | val d' =>
    obtain ⟨v, q1, q2⟩ := h
    cases q1; cases hd
    exact rep_dp m q2 e
  | lst xs =>
    obtain ⟨a, vs, q1, q2, q3, _⟩ := h
    cases q1; cases hd
    unfold toP at e
    cases q : toPs xs with
    | none => rw [q] at e; cases e
    | some ps => rw [q] at e; cases e; exact .lst (.inl (.inl q2)) (reps_dp m q3 q)
  | dct ks xs => cases hd; cases e
  | _ => cases hd
end
def rEqA (K : PySem.W.Frag) (neg : Bool) : R2 := fun x y H Q => (scal x y = true ∧ Q (.bl (decide (x = y) != neg)) H) ∨
  ∃ d e, Dp K H x d ∧ Dp K H y e ∧ d.canLay0 = true ∧ e.canLay0 = true ∧ d.depth ≤ 1000 ∧ Q (.bl (PyData.eqv d e != neg)) H
theorem op_eqA {X : Cx} (hu : X.A.units + 1000 < cLine) : OpR X (compareOp .Eq) (rEqA X.K false) := by
  intro pins s σ H x y v u Q I rx ry h
  rcases h with ⟨h, q⟩ | ⟨d, e, hd, he, sd, se, dd, q⟩
  · exact op_eq pins s σ H x y v u Q I rx ry ⟨h, by simpa using q⟩
  · obtain ⟨as, r1⟩ := Dp.reads I d x v hd rx
    obtain ⟨bs, r2⟩ := Dp.reads I e y u he ry
    refine SeqAt.compareEq_reads r1 r2 sd se ?_ ⟨.bl _, H, I, rfl, by simpa using q⟩
    have : min d.depth e.depth ≤ d.depth := Nat.min_le_left _ _
    omega
theorem op_neA {X : Cx} (hu : X.A.units + 1000 < cLine) : OpR X (compareOp .NotEq) (rEqA X.K true) := by
  intro pins s σ H x y v u Q I rx ry h
  rcases h with ⟨h, q⟩ | ⟨d, e, hd, he, sd, se, dd, q⟩
  · exact op_ne pins s σ H x y v u Q I rx ry ⟨h, by simpa using q⟩
  · obtain ⟨as, r1⟩ := Dp.reads I d x v hd rx
    obtain ⟨bs, r2⟩ := Dp.reads I e y u he ry
    refine SeqAt.compareNe_reads r1 r2 sd se ?_ ⟨.bl _, H, I, rfl, by simpa using q⟩
    have : min d.depth e.depth ≤ d.depth := Nat.min_le_left _ _
    omega
section
variable {C : Cn}
theorem flat_v {F : Hp} {u : V} {d : D} (h : Rep C.K C.ca F u d) (f : flatD d = true) : (u = .non ∧ d = .non) ∨ (∃ b, u = .bl b ∧ d = .bl b) ∨ (∃ i, u = .int i ∧ d = .int i) ∨ ∃ x, u = .str x ∧ d = .str x := by
  cases h with
  | non => exact .inl ⟨rfl, rfl⟩
  | bl b => exact .inr (.inl ⟨b, rfl, rfl⟩)
  | int i => exact .inr (.inr (.inl ⟨i, rfl, rfl⟩))
  | str x => exact .inr (.inr (.inr ⟨x, rfl, rfl⟩))
  | _ => cases f
theorem scal_v {F : Hp} {u v : V} {d e : D} (h1 : Rep C.K C.ca F u d) (h2 : Rep C.K C.ca F v e) (hs : scalD d e = true) : scal u v = true ∧ decide (u = v) = eqF d e := by
  have f1 : flatD d = true := by cases d <;> first | rfl | (cases e <;> cases hs)
  have f2 : flatD e = true := by cases e <;> first | rfl | (cases d <;> cases hs)
  rcases flat_v h1 f1 with ⟨rfl, rfl⟩ | ⟨b, rfl, rfl⟩ | ⟨i, rfl, rfl⟩ | ⟨x, rfl, rfl⟩ <;> rcases flat_v h2 f2 with ⟨rfl, rfl⟩ | ⟨b', rfl, rfl⟩ | ⟨i', rfl, rfl⟩ | ⟨x', rfl, rfl⟩ <;>
    first
      | (refine ⟨rfl, ?_⟩; simp [eqF]; done)
      | (cases hs; done)
      | exact ⟨rfl, dec_bl⟩
      | exact ⟨rfl, dec_int⟩
      | exact ⟨rfl, dec_str⟩
theorem cEq_cases {x y : Cl} {b : Bool} (h : cEq x y = some b) : ∃ d e, x.fz = some d ∧ y.fz = some e ∧ ((scalD d e = true ∧ b = eqF d e) ∨ ∃ p q, toP d = some p ∧ toP e = some q ∧ p.canLay0 = true ∧ q.canLay0 = true ∧ p.depth ≤ 1000 ∧ b = PyData.eqv p q) := by
  unfold cEq at h
  cases e1 : x.fz with
  | none => rw [e1] at h; cases h
  | some d =>
    cases e2 : y.fz with
    | none => rw [e1, Option.bind_some, e2] at h; cases h
    | some e =>
      rw [e1, Option.bind_some, e2, Option.bind_some] at h
      refine ⟨d, e, rfl, rfl, ?_⟩
      split at h
      · rename_i hs; cases h; exact .inl ⟨hs, rfl⟩
      · cases e3 : toP d with
        | none => rw [e3] at h; cases h
        | some p =>
          cases e4 : toP e with
          | none => rw [e3, Option.bind_some, e4] at h; cases h
          | some q =>
            rw [e3, Option.bind_some, e4, Option.bind_some] at h
            unfold deepEq at h
            split at h
            · rename_i hc
              cases h
              simp only [Bool.and_eq_true, decide_eq_true_eq] at hc
              exact .inr ⟨p, q, rfl, rfl, hc.1.1, hc.1.2, hc.2, rfl⟩
            · cases h
theorem scal_own {c : Cl} {d e : D} (h : c.fz = some d) (hs : scalD d e = true ∨ scalD e d = true) : c = .val d := by
  cases c with
  | val d' => cases h; rfl
  | lst xs => cases h; rcases hs with hs | hs <;> cases e <;> cases hs
  | dct ks xs => cases h; rcases hs with hs | hs <;> cases e <;> cases hs
  | _ => cases h
theorem bin_eq (neg : Bool) : BinOk C (rEqA C.K neg) fun x y => (cEq x y).map fun b => .val (.bl (b != neg)) := by
  intro ob F H σ s u v x y c Q R hx hy e k
  dsimp only at e
  cases e1 : cEq x y with
  | none => rw [e1] at e; cases e
  | some b =>
    rw [e1] at e; cases e
    have fin : Q (.bl (b != neg)) H := k _ F H R (same_refl F) (RF.val R (.bl _))
    obtain ⟨d, e, f1, f2, ⟨hs, rfl⟩ | ⟨p, q, t1, t2, c1, c2, dd, rfl⟩⟩ := cEq_cases e1
    · have hx' := scal_own f1 (.inl hs)
      have hy' := scal_own f2 (.inr hs)
      subst hx' hy'
      obtain ⟨s1, s2⟩ := scal_v hx.dat hy.dat hs
      exact .inl ⟨s1, by rw [s2]; exact fin⟩
    · exact .inr ⟨p, q, oc_dp R.sub hx f1 t1, oc_dp R.sub hy f2 t2, c1, c2, dd, fin⟩
theorem cmpI_cases {g : Int → Int → Bool} {x y : Cl} {b : Bool} (h : cmpI g x y = some b) : ∃ i j, x = .val (.int i) ∧ y = .val (.int j) ∧ b = g i j := by
  unfold cmpI at h
  split at h
  · cases h; exact ⟨_, _, rfl, rfl, rfl⟩
  · cases h
theorem bin_cmpI {r : R2} {g : Int → Int → Bool} (h : ∀ (i j : Int) (H : Hp) (Q : VK), Q (.bl (g i j)) H → r (.int i) (.int j) H Q) :
    BinOk C r fun x y => (cmpI g x y).map fun b => .val (.bl b) := by
  intro ob F H σ s u v x y c Q R hx hy e k
  dsimp only at e
  cases e1 : cmpI g x y with
  | none => rw [e1] at e; cases e
  | some b =>
    rw [e1] at e; cases e
    obtain ⟨i, j, rfl, rfl, rfl⟩ := cmpI_cases e1
    rw [rep_int hx.dat, rep_int hy.dat]
    exact h i j H Q (k _ F H R (same_refl F) (RF.val R (.bl _)))
theorem non_cases {c : Cl} (h : isNon c = true) : c = .val .non := by
  unfold isNon at h
  split at h
  · rfl
  · cases h
theorem isn_v {F H : Hp} {u : V} {x : Cl} (h : OC C F H u x) : decide (u = .non) = isNon x := by
  obtain ⟨h, hf⟩ := h
  cases x with
  | val d =>
    obtain ⟨v, e, r⟩ := h
    cases e
    cases r <;> rfl
  | lst xs => obtain ⟨a, vs, e, _⟩ := h; cases e; rfl
  | dct ks xs => obtain ⟨a, vs, e, _⟩ := h; cases e; rfl
  | _ => cases hf
def rIsN (neg : Bool) : R2 := fun x y H Q => y = .non ∧ Q (.bl (decide (x = .non) != neg)) H
theorem op_isNA {X : Cx} : OpR X (compareOp .Is) (rIsN false) := fun pins s σ H x y v u Q I rx ry h => op_isN pins s σ H x y v u Q I rx ry ⟨h.1, by simpa using h.2⟩
theorem op_notNA {X : Cx} : OpR X (compareOp .IsNot) (rIsN true) := fun pins s σ H x y v u Q I rx ry h => op_notN pins s σ H x y v u Q I rx ry ⟨h.1, by simpa using h.2⟩
theorem bin_isn (neg : Bool) : BinOk C (rIsN neg) fun x y => (if isNon y && x.fz.isSome then some (isNon x != neg) else none).map fun b => .val (.bl b) := by
  intro ob F H σ s u v x y c Q R hx hy e k
  dsimp only at e
  split at e
  · rename_i hn
    cases e
    have hy' := non_cases (Bool.and_eq_true_iff.mp hn).1
    subst hy'
    refine ⟨rep_non hy.dat, ?_⟩
    rw [isn_v hx]
    exact k _ F H R (same_refl F) (RF.val R (.bl _))
  · cases e
/-- in, not in: a sign in a text, a flat thing in a list or a tuple -/
def rInA (K : PySem.W.Frag) (neg : Bool) : R2 := fun x y H Q => (∃ (c : Nat) (z : Str), x = .str ⟨#[c]⟩ ∧ y = .str z ∧ Q (.bl (decide (c ∈ z.cps.toList) != neg)) H) ∨
  (∃ p qs, Dp K H x p ∧ Dp K H y (.tuple qs) ∧ p.canLay0 = true ∧ PyData.canLayAll0 qs = true ∧ p.depth ≤ 900 ∧ Q (.bl ((qs.any fun q => PyData.eqv q p) != neg)) H) ∨
  ∃ p xs, y = .ref p ∧ (SqL K H p xs ∨ SqT K H p xs) ∧ flatV x = true ∧ xs.all flatV = true ∧ Q (.bl (inV x xs != neg)) H
theorem op_inA {X : Cx} (hu : X.A.units + 1000 < cLine) : OpR X (compareOp .In) (rInA X.K false) := by
  intro pins s σ H x y v u Q I rx ry h
  rcases h with ⟨c, z, h1, h2, q⟩ | ⟨p, qs, h1, h2, h3, h4, h5, q⟩ | ⟨p, xs, h1, h2, h3, h4, q⟩
  · exact op_in_sign pins s σ H x y v u Q I rx ry ⟨c, z, h1, h2, by simpa using q⟩
  · obtain ⟨as, r1⟩ := Dp.reads I p x v h1 rx
    obtain ⟨bs, r2⟩ := Dp.reads I _ y u h2 ry
    refine SeqAt.in_tuple_reads r2 r1 h4 h3 ?_ ⟨.bl _, H, I, rfl, by simpa using q⟩
    have := Nat.min_le_right (PyData.depthAll qs) p.depth
    omega
  · exact op_in_seq pins s σ H x y v u Q I rx ry ⟨p, xs, h1, h2, h3, h4, by simpa using q⟩
theorem op_ninA {X : Cx} (hu : X.A.units + 1000 < cLine) : OpR X (compareOp .NotIn) (rInA X.K true) := by
  intro pins s σ H x y v u Q I rx ry h
  rcases h with ⟨c, z, h1, h2, q⟩ | ⟨p, qs, h1, h2, h3, h4, h5, q⟩ | ⟨p, xs, h1, h2, h3, h4, q⟩
  · exact op_notIn_sign pins s σ H x y v u Q I rx ry ⟨c, z, h1, h2, by simpa using q⟩
  · obtain ⟨as, r1⟩ := Dp.reads I p x v h1 rx
    obtain ⟨bs, r2⟩ := Dp.reads I _ y u h2 ry
    refine SeqAt.notIn_tuple_reads r2 r1 h4 h3 ?_ ⟨.bl _, H, I, rfl, by simpa using q⟩
    have := Nat.min_le_right (PyData.depthAll qs) p.depth
    omega
  · exact op_notIn_seq pins s σ H x y v u Q I rx ry ⟨p, xs, h1, h2, h3, h4, by simpa using q⟩
theorem flat_eq {F : Hp} {u v : V} {d e : D} (h1 : Rep C.K C.ca F u d) (h2 : Rep C.K C.ca F v e) (f1 : flatD d = true) (f2 : flatD e = true) : flatV u = true ∧ eqV u v = eqF d e := by
  rcases flat_v h1 f1 with ⟨rfl, rfl⟩ | ⟨b, rfl, rfl⟩ | ⟨i, rfl, rfl⟩ | ⟨x, rfl, rfl⟩ <;> rcases flat_v h2 f2 with ⟨rfl, rfl⟩ | ⟨b', rfl, rfl⟩ | ⟨i', rfl, rfl⟩ | ⟨x', rfl, rfl⟩ <;> exact ⟨rfl, rfl⟩
theorem flats_eq {F : Hp} {v : V} {e : D} (h2 : Rep C.K C.ca F v e) (f2 : flatD e = true) : ∀ {us : List V} {ds : List D}, Reps C.K C.ca F us ds → ds.all flatD = true → us.all flatV = true ∧ (us.any fun u => eqV u v) = ds.any fun d => eqF d e
  | _, _, .nil, _ => ⟨rfl, rfl⟩
  | _, _, .cons h r, f => by
    rw [List.all_cons, Bool.and_eq_true] at f
    obtain ⟨q1, q2⟩ := flat_eq h h2 f.1 f2
    obtain ⟨q3, q4⟩ := flats_eq h2 f2 r f.2
    exact ⟨by rw [List.all_cons, q1, q3]; rfl, by rw [List.any_cons, List.any_cons, q2, q4]⟩
theorem oneSign_eq {c : Cl} {n : Nat} (h : oneSign c = some n) : c = .val (.str ⟨#[n]⟩) := by
  unfold oneSign at h
  split at h
  · cases h; rfl
  · cases h
theorem isIn_cases {x y : Cl} {b : Bool} (h : isIn x y = some b) : (∃ c z, x = .val (.str ⟨#[c]⟩) ∧ y = .val (.str z) ∧ b = decide (c ∈ z.cps.toList)) ∨
    (∃ d ys, x.fz = some d ∧ (asL y).or (asT y) = some ys ∧ flatD d = true ∧ ys.all flatD = true ∧ b = ys.any fun e => eqF e d) ∨
    ∃ d ys p qs, x.fz = some d ∧ asT y = some ys ∧ toP d = some p ∧ toPs ys = some qs ∧ p.canLay0 = true ∧ PyData.canLayAll0 qs = true ∧ p.depth ≤ 900 ∧ b = qs.any fun q => PyData.eqv q p := by
  unfold isIn at h
  split at h
  · rename_i z
    cases e : oneSign x with
    | none => rw [e] at h; cases h
    | some c => rw [e] at h; cases h; exact .inl ⟨c, z, oneSign_eq e, rfl, rfl⟩
  · cases e : x.fz with
    | none => rw [e] at h; cases h
    | some d =>
      cases e2 : (asL y).or (asT y) with
      | none => rw [e, Option.bind_some, e2] at h; cases h
      | some ys =>
        rw [e, Option.bind_some, e2, Option.bind_some] at h
        split at h
        · rename_i hf
          cases h
          rw [Bool.and_eq_true] at hf
          exact .inr (.inl ⟨d, ys, rfl, rfl, hf.1, hf.2, rfl⟩)
        · unfold deepIn at h
          cases e3 : asT y with
          | none => rw [e3] at h; cases h
          | some zs =>
            rw [e3, Option.bind_some] at h
            cases e4 : toP d with
            | none => rw [e4] at h; cases h
            | some p =>
              rw [e4, Option.bind_some] at h
              cases e5 : toPs zs with
              | none => rw [e5] at h; cases h
              | some qs =>
                rw [e5, Option.bind_some] at h
                split at h
                · rename_i hc
                  cases h
                  rw [Bool.and_eq_true, Bool.and_eq_true, decide_eq_true_eq] at hc
                  exact .inr (.inr ⟨d, zs, p, qs, rfl, rfl, e4, e5, hc.1.1, hc.1.2, hc.2, rfl⟩)
                · cases h
theorem fz_flat {c : Cl} {d : D} (h : c.fz = some d) (f : flatD d = true) : c = .val d := by
  cases c with
  | val d' => cases h; rfl
  | lst xs => cases h; cases f
  | dct ks xs => cases h; cases f
  | _ => cases h
theorem bin_in (neg : Bool) : BinOk C (rInA C.K neg) fun x y => (isIn x y).map fun b => .val (.bl (b != neg)) := by
  intro ob F H σ s u v x y c Q R hx hy e k
  dsimp only at e
  cases e1 : isIn x y with
  | none => rw [e1] at e; cases e
  | some b =>
    rw [e1] at e; cases e
    have fin : Q (.bl (b != neg)) H := k _ F H R (same_refl F) (RF.val R (.bl _))
    rcases isIn_cases e1 with ⟨c, z, rfl, rfl, rfl⟩ | ⟨d, ys, f1, f2, f3, f4, rfl⟩ | ⟨d, ys, p, qs, f1, f2, f3, f4, f5, f6, f7, rfl⟩
    · exact .inl ⟨c, z, rep_str hx.dat, rep_str hy.dat, fin⟩
    rotate_left
    · obtain ⟨a, vs, rfl, q1, q2⟩ := hy.tup R.sub f2
      exact .inr (.inl ⟨p, qs, oc_dp R.sub hx f1 f3, .tup q1 (reps_dp R.sub q2 f4), f5, f6, f7, fin⟩)
    · obtain ⟨a, vs, rfl, q1, q2⟩ := hy.seq R.sub f2
      have hx' := fz_flat f1 f3
      subst hx'
      obtain ⟨g1, g2⟩ := flats_eq hx.dat f3 q2 f4
      have g0 : flatV u = true := by rcases flat_v hx.dat f3 with ⟨rfl, _⟩ | ⟨b, rfl, _⟩ | ⟨i, rfl, _⟩ | ⟨x, rfl, _⟩ <;> rfl
      exact .inr (.inr ⟨a, vs, rfl, q1, g0, g1, by unfold inV; rw [g2]; exact fin⟩)
end
theorem cmp_fz {o : CO} {x y : Cl} {b : Bool} (h : cmpop o x y = some b) : x.fz.isSome = true ∧ y.fz.isSome = true := by
  have eq : ∀ b, cEq x y = some b → x.fz.isSome = true ∧ y.fz.isSome = true := fun b h => by
    obtain ⟨d, e, f1, f2, _⟩ := cEq_cases h
    rw [f1, f2]; exact ⟨rfl, rfl⟩
  have int : ∀ g, cmpI g x y = some b → x.fz.isSome = true ∧ y.fz.isSome = true := fun g h => by
    obtain ⟨i, j, rfl, rfl, _⟩ := cmpI_cases h
    exact ⟨rfl, rfl⟩
  have inn : ∀ b, isIn x y = some b → x.fz.isSome = true ∧ y.fz.isSome = true := fun b h => by
    rcases isIn_cases h with ⟨c, z, rfl, rfl, _⟩ | ⟨d, ys, f1, f2, _⟩ | ⟨d, ys, p, qs, f1, f2, _⟩
    · exact ⟨rfl, rfl⟩
    rotate_left
    · rw [f1]
      refine ⟨rfl, ?_⟩
      cases y with
      | val d => rfl
      | _ => cases f2
    · rw [f1]
      refine ⟨rfl, ?_⟩
      cases y with
      | val d => rfl
      | lst d => rfl
      | _ => cases f2
  have non : ∀ k : Bool, (if (isNon y && x.fz.isSome) = true then some k else none) = some b → x.fz.isSome = true ∧ y.fz.isSome = true := fun k h => by
    split at h
    · rename_i hn
      rw [Bool.and_eq_true] at hn
      rw [non_cases hn.1]
      exact ⟨hn.2, rfl⟩
    · cases h
  have mp : ∀ f : Option Bool, f.map (!·) = some b → ∃ b', f = some b' := fun f h => by
    cases f with
    | none => cases h
    | some b' => exact ⟨b', rfl⟩
  cases o with
  | eq => exact eq _ h
  | ne => obtain ⟨b', e⟩ := mp _ h; exact eq _ e
  | lt => exact int _ h
  | le => exact int _ h
  | gt => exact int _ h
  | ge => exact int _ h
  | isin => exact inn _ h
  | nin => obtain ⟨b', e⟩ := mp _ h; exact inn _ e
  | isn => exact non _ h
  | notn => exact non _ h
/-- which operator of Python's a comparison is -/
def CO.py : CO → CmpOp
  | .eq => .Eq | .ne => .NotEq | .lt => .Lt | .le => .LtE | .gt => .Gt | .ge => .GtE | .isin => .In | .nin => .NotIn | .isn => .Is | .notn => .IsNot
def CO.rd (K : PySem.W.Frag) : CO → R2
  | .eq => rEqA K false | .ne => rEqA K true
  | .lt => rI0 fun i j => .bl (decide (i < j)) | .le => rI0 fun i j => .bl (decide (i ≤ j)) | .gt => rI0 fun i j => .bl (decide (j < i)) | .ge => rI0 fun i j => .bl (decide (j ≤ i))
  | .isin => rInA K false | .nin => rInA K true | .isn => rIsN false | .notn => rIsN true
theorem co_op {X : Cx} (hu : X.A.units + 1000 < cLine) (o : CO) : OpR X (compareOp o.py) (o.rd X.K) := by
  cases o with
  | eq => exact op_eqA hu
  | ne => exact op_neA hu
  | lt => exact op_lt
  | le => exact op_le
  | gt => exact op_gt
  | ge => exact op_ge
  | isin => exact op_inA hu
  | nin => exact op_ninA hu
  | isn => exact op_isNA
  | notn => exact op_notNA
theorem map_not (o : Option Bool) : ((o.map (!·)).map fun b => Cl.val (.bl b)) = o.map fun b => Cl.val (.bl (b != true)) := by
  cases o with
  | none => rfl
  | some b => cases b <;> rfl
theorem map_id (o : Option Bool) : (o.map fun b => Cl.val (.bl b)) = o.map fun b => Cl.val (.bl (b != false)) := by
  cases o with
  | none => rfl
  | some b => cases b <;> rfl
theorem co_bin {C : Cn} (o : CO) : BinOk C (o.rd C.K) fun x y => (cmpop o x y).map fun b => .val (.bl b) := by
  cases o with
  | eq => intro ob F H σ s u v x y c Q R hx hy e k; exact bin_eq false R hx hy ((map_id _).symm.trans e) k
  | ne => intro ob F H σ s u v x y c Q R hx hy e k; exact bin_eq true R hx hy ((map_not _).symm.trans e) k
  | lt => exact bin_cmpI fun i j H Q q => ⟨i, j, rfl, rfl, q⟩
  | le => exact bin_cmpI fun i j H Q q => ⟨i, j, rfl, rfl, q⟩
  | gt => exact bin_cmpI fun i j H Q q => ⟨i, j, rfl, rfl, q⟩
  | ge => exact bin_cmpI fun i j H Q q => ⟨i, j, rfl, rfl, q⟩
  | isin => intro ob F H σ s u v x y c Q R hx hy e k; exact bin_in false R hx hy ((map_id _).symm.trans e) k
  | nin => intro ob F H σ s u v x y c Q R hx hy e k; exact bin_in true R hx hy ((map_not _).symm.trans e) k
  | isn =>
    intro ob F H σ s u v x y c Q R hx hy e k
    refine bin_isn false R hx hy ?_ k
    have e : ((if (isNon y && x.fz.isSome) = true then some (isNon x) else none).map fun b => Cl.val (.bl b)) = some c := e
    split at e
    · rename_i h; dsimp only; rw [if_pos h, ← e]; simp
    · cases e
  | notn =>
    intro ob F H σ s u v x y c Q R hx hy e k
    refine bin_isn true R hx hy ?_ k
    have e : ((if (isNon y && x.fz.isSome) = true then some (!isNon x) else none).map fun b => Cl.val (.bl b)) = some c := e
    split at e
    · rename_i h; dsimp only; rw [if_pos h, ← e]; simp
    · cases e
end Mi
namespace Mi
open PySem PySem.Spec PyProof.Rows L2
section
variable {X : Cx} {C : Cn} {W : WX} {ea eb et : Expr} {a b t : CE} {pos : Pos}
theorem post_val {C : Cn} {W : WX} {ob : Option OB} {F H : Hp} {σ : L2.St} {s : S} {Q : VK} {u : V} {d : D} (p : Post C W ob F σ (RR C) Q (.ok (.fr (.val d)) s)) (R : SR C ob F H σ s) (r : Rep C.K C.ca F u d) : Q u H :=
  p u F H R (same_refl F) (RF.val R r)
theorem cmp_run (o : CO) {σ : L2.St} {H : Hp} {Q : VK} (h : tE C W (.cmp o a b) σ H Q) : tOp (o.rd C.K) (tO C W a) (tO C W b) σ H Q := by
  refine op2_run (g := fun x y => (cmpop o x y).map fun b => .val (.bl b)) (co_bin o) (fun x y c h => ?_) (fun s => ?_) h
  · cases e : cmpop o x y with
    | none => rw [e] at h; cases h
    | some b => exact cmp_fz e
  · show (bnd (toO (ev C.Γ a s)) fun x s => bnd (toO (ev C.Γ b s)) fun y s => (cmpop o (cont s x) (cont s y)).map fun c => (R.ok (Ro.fr (.val (.bl c))) s : R Ro)) = _
    congr 1
    funext x s
    congr 1
    funext y s
    cases cmpop o (cont s x) (cont s y) <;> rfl
theorem qe_cmp {o : CO} (hK : X.K = C.K) (hu : X.A.units + 1000 < cLine) (ha : PE X ea (tE C W a)) (hb : PE X eb (tE C W b)) (hm : behindInMarks o.py eb = false) : PE X (.Compare ea [o.py] [eb] pos) (tE C W (.cmp o a b)) :=
  pe_imp (pe_cmpR (co_op hu o) (toO_of ha) (toO_of hb) hm) fun σ H Q h => by rw [hK]; exact cmp_run o h
theorem cmp_bl (o : CO) (s : S) (r : Ro) (s' : S) (h : ev C.Γ (.cmp o a b) s = some (.ok r s')) : ∃ k, r = .fr (.val (.bl k)) := by
  have h : (bnd (toO (ev C.Γ a s)) fun x s => bnd (toO (ev C.Γ b s)) fun y s => (cmpop o (cont s x) (cont s y)).map fun c => (R.ok (Ro.fr (.val (.bl c))) s : R Ro)) = some (.ok r s') := h
  cases e1 : toO (ev C.Γ a s) with
  | none => rw [e1] at h; cases h
  | some r1 =>
    rw [e1] at h
    cases r1 with
    | ex c s1 => cases h
    | ok x s1 =>
      rw [bnd_ok] at h
      cases e2 : toO (ev C.Γ b s1) with
      | none => rw [e2] at h; cases h
      | some r2 =>
        rw [e2] at h
        cases r2 with
        | ex c s2 => cases h
        | ok y s2 =>
          rw [bnd_ok] at h
          cases e3 : cmpop o (cont s2 x) (cont s2 y) with
          | none => rw [e3] at h; cases h
          | some k => rw [e3] at h; cases h; exact ⟨k, rfl⟩
theorem qt_cmp {o : CO} (hK : X.K = C.K) (hu : X.A.units + 1000 < cLine) (ha : PE X ea (tE C W a)) (hb : PE X eb (tE C W b)) (hm : behindInMarks o.py eb = false) : PT X (.Compare ea [o.py] [eb] pos) (tT C W (.cmp o a b)) :=
  pt_imp (pt_cmpR (co_op hu o) (toO_of ha) (toO_of hb) hm) fun σ H Q h => by rw [hK]; exact cmp_run o (tst_of rfl (cmp_bl o) h)
theorem qe_and (ha : PE X ea (tE C W a)) {rest : List Expr} (hb : PE X (.BoolOp .And (eb :: rest) pos) (tE C W b)) : PE X (.BoolOp .And (ea :: eb :: rest) pos) (tE C W (.and a b)) := by
  refine pe_imp (pe_and (toV_of ha) (toV_of hb)) fun σ H Q ⟨ob, F, s, r, R, e, p⟩ => ?_
  refine step R e p fun x s1 u F1 H1 e1 R1 m1 q1 e2 p1 => ?_
  cases x with
  | bl k =>
    refine ⟨k, rep_bl q1, ?_⟩
    cases k with
    | true =>
      rw [if_pos rfl]
      refine step R1 e2 p1 fun y s2 v F2 H2 e3 R2 m2 q2 e4 p2 => ?_
      cases e4
      exact post_val p2 R2 q2
    | false =>
      rw [if_neg Bool.false_ne_true]
      cases e2
      exact post_val p1 R1 (.bl _)
  | _ => cases e2
theorem qe_or (ha : PE X ea (tE C W a)) {rest : List Expr} (hb : PE X (.BoolOp .Or (eb :: rest) pos) (tE C W b)) : PE X (.BoolOp .Or (ea :: eb :: rest) pos) (tE C W (.or a b)) := by
  refine pe_imp (pe_or (toV_of ha) (toV_of hb)) fun σ H Q ⟨ob, F, s, r, R, e, p⟩ => ?_
  refine step R e p fun x s1 u F1 H1 e1 R1 m1 q1 e2 p1 => ?_
  cases x with
  | bl k =>
    refine ⟨k, rep_bl q1, ?_⟩
    cases k with
    | false =>
      rw [if_neg Bool.false_ne_true]
      refine step R1 e2 p1 fun y s2 v F2 H2 e3 R2 m2 q2 e4 p2 => ?_
      cases e4
      exact post_val p2 R2 q2
    | true =>
      rw [if_pos rfl]
      cases e2
      exact post_val p1 R1 (.bl _)
  | _ => cases e2
theorem qe_one {op} (h : PE X ea (tE C W a)) : PE X (.BoolOp op [ea] pos) (tE C W a) := pe_one h
theorem qe_not (ha : PE X ea (tE C W a)) : PE X (.UnaryOp .Not ea pos) (tE C W (.not a)) := by
  refine pe_imp (pe_not (toV_of ha)) fun σ H Q ⟨ob, F, s, r, R, e, p⟩ => ?_
  refine step R e p fun x s1 u F1 H1 e1 R1 m1 q1 e2 p1 => ?_
  cases x with
  | bl k =>
    cases e2
    exact ⟨k, rep_bl q1, post_val p1 R1 (.bl _)⟩
  | _ => cases e2
theorem qe_neg (ha : PE X ea (tE C W a)) : PE X (.UnaryOp .USub ea pos) (tE C W (.neg a)) := by
  refine pe_imp (pe_un un_neg (toV_of ha)) fun σ H Q ⟨ob, F, s, r, R, e, p⟩ => ?_
  refine step R e p fun x s1 u F1 H1 e1 R1 m1 q1 e2 p1 => ?_
  cases x with
  | int k =>
    cases e2
    exact ⟨k, rep_int q1, post_val p1 R1 (.int _)⟩
  | _ => cases e2
/-! ### tests -/
theorem qt_and (ha : PT X ea (tT C W a)) {rest : List Expr} (hb : PT X (.BoolOp .And (eb :: rest) pos) (tT C W b)) : PT X (.BoolOp .And (ea :: eb :: rest) pos) (tT C W (.and a b)) := by
  refine pt_imp (PW.pt (pw_and ha ⟨fun _ => hb.run⟩)) fun σ H Q ⟨ob, F, s, r, R, e, p⟩ => ?_
  refine step R e p fun x s1 u F1 H1 e1 R1 m1 q1 e2 p1 => ?_
  obtain rfl : u = x := q1
  cases u with
  | true => rw [if_pos rfl]; exact ⟨ob, F1, s1, r, R1, e2, p1⟩
  | false => rw [if_neg Bool.false_ne_true]; cases e2; exact p1 false F1 H1 R1 (same_refl F1) rfl
theorem qt_or (ha : PT X ea (tT C W a)) {rest : List Expr} (hb : PT X (.BoolOp .Or (eb :: rest) pos) (tT C W b)) : PT X (.BoolOp .Or (ea :: eb :: rest) pos) (tT C W (.or a b)) := by
  refine pt_imp (PW.pt (pw_or ha ⟨fun _ => hb.run⟩)) fun σ H Q ⟨ob, F, s, r, R, e, p⟩ => ?_
  refine step R e p fun x s1 u F1 H1 e1 R1 m1 q1 e2 p1 => ?_
  obtain rfl : u = x := q1
  cases u with
  | false => rw [if_neg Bool.false_ne_true]; exact ⟨ob, F1, s1, r, R1, e2, p1⟩
  | true => rw [if_pos rfl]; cases e2; exact p1 true F1 H1 R1 (same_refl F1) rfl
theorem qt_and1 (ha : PT X ea (tT C W a)) : PT X (.BoolOp .And [ea] pos) (tT C W a) := PW.pt (pw_and1 ha)
theorem qt_or1 (ha : PT X ea (tT C W a)) : PT X (.BoolOp .Or [ea] pos) (tT C W a) := PW.pt (pw_or1 ha)
theorem qt_not (ha : PT X ea (tT C W a)) : PT X (.UnaryOp .Not ea pos) (tT C W (.not a)) := by
  refine pt_imp (pt_not ha) fun σ H Q ⟨ob, F, s, r, R, e, p⟩ => ?_
  refine step R e p fun x s1 u F1 H1 e1 R1 m1 q1 e2 p1 => ?_
  obtain rfl : u = x := q1
  cases e2
  exact p1 (!u) F1 H1 R1 (same_refl F1) rfl
/-- truth of an operand -/
theorem tru_v {F H : Hp} {u : V} {x : Cl} {k : Bool} (m : Same F H) (h : OC C F H u x) (e : truth x = some k) : TruV C.K u H k := by
  obtain ⟨h', hf⟩ := id h
  cases x with
  | val d =>
    obtain ⟨v, q1, q2⟩ := h'
    cases q1
    cases q2 with
    | non => cases e; rfl
    | bl b => cases e; rfl
    | int i => cases e; rfl
    | str y =>
      have e : (if y.length ≤ sizeLine then some ((y.length : Int) != 0) else none) = some k := e
      split at e
      · rename_i hz; cases e; exact ⟨hz, rfl⟩
      · cases e
    | tup q3 q4 =>
      cases e
      refine .inr (.inl ⟨_, .inl (.inl (m _ _ q3)), ?_⟩)
      cases q4 <;> rfl
    | lst q3 q4 =>
      cases e
      refine .inl ⟨_, .inl (.inl (m _ _ q3)), ?_⟩
      cases q4 <;> rfl
    | scr q3 =>
      rename_i a ns
      have e : some (!(ns.map D.int).isEmpty) = some k := e
      cases e
      refine .inl ⟨_, sqL_mono m q3, ?_⟩
      cases ns <;> rfl
    | _ => cases e
  | lst xs =>
    obtain ⟨a, vs, q1, q2, q3, _⟩ := h'
    cases q1; cases e
    refine .inl ⟨_, .inl (.inl q2), ?_⟩
    cases q3 <;> rfl
  | dct ks xs =>
    obtain ⟨a, vs, q1, q2, n, l, q3, _⟩ := h'
    cases q1; cases e
    refine .inr (.inr ⟨_, q2, ?_⟩)
    cases ks with
    | nil => rfl
    | cons k ks =>
      cases vs with
      | nil => cases l
      | cons v vs => rfl
  | _ => cases hf
theorem truth_fz {x : Cl} {k : Bool} (e : truth x = some k) : x.fz.isSome = true := by
  cases x with
  | val d => rfl
  | lst d => rfl
  | dct ks d => rfl
  | _ => cases e
/-- an expression as a test, by its truth -/
theorem qt_truth {e : Expr} {c : CE} (hK : X.K = C.K) (h : PE X e (tE C W c)) (he : ∀ whole, isTrue e X.env whole = (do let v ← whole; standAt e.pos; holding [v] (truthy v))) (hc : evT C.Γ c = tst (ev C.Γ c)) : PT X e (tT C W c) := by
  refine pt_imp (pt_truth (toO_of h) he) fun σ H Q ⟨ob, F, s, r, R, er, p⟩ => ?_
  have er : bnd (toO (ev C.Γ c s)) (fun x s => (truth (cont s x)).map fun b => Mi.R.ok b s) = some r := by
    rw [← er]
    show _ = evT C.Γ c s
    rw [hc]; rfl
  refine step R er p fun x s1 u F1 H1 e1 R1 m1 q1 e2 p1 => ?_
  cases et : truth (cont s1 x) with
  | none => rw [et] at e2; cases e2
  | some k =>
    rw [et] at e2; cases e2
    rw [hK]
    exact ⟨k, tru_v R1.sub (q1.at_ R1 (truth_fz et)) et, p1 k F1 H1 R1 (same_refl F1) rfl⟩
/-! ### a < b < c -/
theorem int2 {f : CO} (hf : f = .lt ∨ f = .le) {x y : D} {k : Bool} (h : cmpop f (.val x) (.val y) = some k) : ∃ i j, x = .int i ∧ y = .int j ∧ k = (if f = .lt then decide (i < j) else decide (i ≤ j)) := by
  rcases hf with rfl | rfl
  · obtain ⟨i, j, h1, h2, h3⟩ := cmpI_cases h
    cases h1; cases h2; exact ⟨i, j, rfl, rfl, h3⟩
  · obtain ⟨i, j, h1, h2, h3⟩ := cmpI_cases h
    cases h1; cases h2; exact ⟨i, j, rfl, rfl, h3⟩
theorem chn_run {o p : CO} (ho : o = .lt ∨ o = .le) (hp : p = .lt ∨ p = .le) {ec : Expr} {c : CE} {K : PySem.W.Frag} {σ : L2.St} {H : Hp} {Q : VK} (h : tE C W (.chn o p a b c) σ H Q) : tChain (o.rd K) (p.rd K) (tV C W a) (tV C W b) (tV C W c) σ H Q := by
  obtain ⟨ob, F, s, r, R, e, pp⟩ := h
  refine step R e pp fun x s1 u F1 H1 e1 R1 m1 q1 e2 p1 => ?_
  refine step R1 e2 p1 fun y s2 v F2 H2 e3 R2 m2 q2 e4 p2 => ?_
  have rd : ∀ (f : CO) (hf : f = .lt ∨ f = .le) (i j : Int) (k : Bool) (H : Hp) (Q : VK), k = (if f = .lt then decide (i < j) else decide (i ≤ j)) → Q (.bl k) H → f.rd K (.int i) (.int j) H Q := fun f hf i j k H Q hk q => by
    rcases hf with rfl | rfl
    · rw [if_pos rfl] at hk; subst hk; exact ⟨i, j, rfl, rfl, q⟩
    · rw [if_neg (by decide)] at hk; subst hk; exact ⟨i, j, rfl, rfl, q⟩
  cases ec : cmpop o (.val x) (.val y) with
  | none => rw [ec] at e4; cases e4
  | some k =>
    rw [ec] at e4
    obtain ⟨i, j, rfl, rfl, hk⟩ := int2 ho ec
    rw [rep_int q1, rep_int q2]
    refine rd o ho i j k H2 _ hk ⟨k, rfl, ?_⟩
    cases k with
    | true =>
      rw [if_pos rfl]
      refine step R2 e4 p2 fun z s3 w F3 H3 e5 R3 m3 q3 e6 p3 => ?_
      cases ed : cmpop p (.val (.int j)) (.val z) with
      | none => rw [ed] at e6; cases e6
      | some k' =>
        rw [ed] at e6; cases e6
        obtain ⟨i', j', h1, rfl, hk'⟩ := int2 hp ed
        cases h1
        rw [rep_int q3]
        exact rd p hp j j' k' H3 _ hk' (post_val p3 R3 (.bl _))
    | false =>
      rw [if_neg Bool.false_ne_true]
      cases e4
      exact post_val p2 R2 (.bl _)
theorem chn_bl (o p : CO) {c : CE} (s : S) (r : Ro) (s' : S) (h : ev C.Γ (.chn o p a b c) s = some (.ok r s')) : ∃ k, r = .fr (.val (.bl k)) := by
  have h : (bnd (toV (ev C.Γ a s)) fun x s => bnd (toV (ev C.Γ b s)) fun y s => match cmpop o (.val x) (.val y) with
    | some true => bnd (toV (ev C.Γ c s)) fun z s => (cmpop p (.val y) (.val z)).map fun c => (R.ok (Ro.fr (.val (.bl c))) s : R Ro)
    | some false => some (.ok (.fr (.val (.bl false))) s)
    | none => none) = some (.ok r s') := h
  cases e1 : toV (ev C.Γ a s) with
  | none => rw [e1] at h; cases h
  | some r1 =>
    rw [e1] at h
    cases r1 with
    | ex c s1 => cases h
    | ok x s1 =>
      rw [bnd_ok] at h
      cases e2 : toV (ev C.Γ b s1) with
      | none => rw [e2] at h; cases h
      | some r2 =>
        rw [e2] at h
        cases r2 with
        | ex c s2 => cases h
        | ok y s2 =>
          rw [bnd_ok] at h
          cases e3 : cmpop o (.val x) (.val y) with
          | none => rw [e3] at h; cases h
          | some k =>
            rw [e3] at h
            cases k with
            | false => cases h; exact ⟨_, rfl⟩
            | true =>
              dsimp only at h
              cases e4 : toV (ev C.Γ c s2) with
              | none => rw [e4] at h; cases h
              | some r3 =>
                rw [e4] at h
                cases r3 with
                | ex c s3 => cases h
                | ok z s3 =>
                  rw [bnd_ok] at h
                  cases e5 : cmpop p (.val y) (.val z) with
                  | none => rw [e5] at h; cases h
                  | some k => rw [e5] at h; cases h; exact ⟨k, rfl⟩
theorem marks2 {o p : CmpOp} {eb ec : Expr} (h : behindInMarks p ec = false) : lastMarks [o, p] [eb, ec] = false := by
  show lastMarks [p] [ec] = false
  exact h
theorem qe_chn {o p : CO} {ec : Expr} {c : CE} (hK : X.K = C.K) (hu : X.A.units + 1000 < cLine) (ho : o = .lt ∨ o = .le) (hp : p = .lt ∨ p = .le) (ha : PE X ea (tE C W a)) (hb : PE X eb (tE C W b)) (hc : PE X ec (tE C W c)) (hm : behindInMarks p.py ec = false) :
    PE X (.Compare ea [o.py, p.py] [eb, ec] pos) (tE C W (.chn o p a b c)) :=
  pe_imp (pe_chain (co_op hu o) (co_op hu p) (toV_of ha) (toV_of hb) (toV_of hc) (marks2 hm)) fun σ H Q h => chn_run ho hp (ec := ec) h
theorem qt_chn {o p : CO} {ec : Expr} {c : CE} (hK : X.K = C.K) (hu : X.A.units + 1000 < cLine) (ho : o = .lt ∨ o = .le) (hp : p = .lt ∨ p = .le) (ha : PE X ea (tE C W a)) (hb : PE X eb (tE C W b)) (hc : PE X ec (tE C W c)) (hm : behindInMarks p.py ec = false) :
    PT X (.Compare ea [o.py, p.py] [eb, ec] pos) (tT C W (.chn o p a b c)) :=
  pt_imp (pt_chain (co_op hu o) (co_op hu p) (toV_of ha) (toV_of hb) (toV_of hc) (marks2 hm)) fun σ H Q h => chn_run ho hp (ec := ec) (tst_of rfl (chn_bl o p) h)
end
end Mi
namespace Mi
open PySem PySem.Spec PyProof.Rows L2
section
variable {X : Cx} {C : Cn} {W : WX} {ea eb et : Expr} {a b t : CE} {pos : Pos}
theorem qe_ifx (ht : PT X et (tT C W t)) (ha : PE X ea (tE C W a)) (hb : PE X eb (tE C W b)) : PE X (.IfExp et ea eb pos) (tE C W (.ifx t a b)) := by
  refine pe_imp (pe_ifExp ht (toV_of ha) (toV_of hb)) fun σ H Q ⟨ob, F, s, r, R, e, p⟩ => ?_
  refine step R e p fun x s1 u F1 H1 e1 R1 m1 q1 e2 p1 => ?_
  obtain rfl : u = x := q1
  cases u with
  | true =>
    rw [if_pos rfl]
    refine step R1 e2 p1 fun y s2 v F2 H2 e3 R2 m2 q2 e4 p2 => ?_
    cases e4
    exact post_val p2 R2 q2
  | false =>
    rw [if_neg Bool.false_ne_true]
    refine step R1 e2 p1 fun y s2 v F2 H2 e3 R2 m2 q2 e4 p2 => ?_
    cases e4
    exact post_val p2 R2 q2
/-! ### arguments -/
def RA1 (C : Cn) (ob : Option OB) (F : Hp) (σ : L2.St) (u : V) : Aa → Prop
  | .d x => Rep C.K C.ca F u x
  | .rf i => vAt C σ ob i = some u
def RAs (C : Cn) (ob : Option OB) (F : Hp) (σ : L2.St) : List V → List Aa → Prop
  | [], [] => True
  | u :: us, x :: l => RA1 C ob F σ u x ∧ RAs C ob F σ us l
  | _, _ => False
def RA (C : Cn) (ob : Option OB) (F H : Hp) (σ : L2.St) (s : S) (us : List V) (l : List Aa) : Prop := RAs C ob F σ us l
abbrev tA (C : Cn) (W : WX) (es : List CE) : TA := tR (β := List V) C W (fun s => evA C.Γ es s) (RA C)
theorem RA1.mono {ob : Option OB} {F F' : Hp} {σ : L2.St} (m : Same F F') {u : V} {x : Aa} (h : RA1 C ob F σ u x) : RA1 C ob F' σ u x := by
  cases x with
  | d x => exact Rep.mono m h
  | rf i => exact h
theorem RAs.mono {ob : Option OB} {F F' : Hp} {σ : L2.St} (m : Same F F') : ∀ {us : List V} {l : List Aa}, RAs C ob F σ us l → RAs C ob F' σ us l
  | [], [], _ => trivial
  | _ :: _, _ :: _, h => ⟨h.1.mono m, h.2.mono m⟩
  | [], _ :: _, h => h.elim
  | _ :: _, [], h => h.elim
theorem RAs.length {ob : Option OB} {F : Hp} {σ : L2.St} : ∀ {us : List V} {l : List Aa}, RAs C ob F σ us l → us.length = l.length
  | [], [], _ => rfl
  | _ :: us, _ :: l, h => by rw [List.length_cons, List.length_cons, RAs.length h.2]
  | [], _ :: _, h => h.elim
  | _ :: _, [], h => h.elim
theorem RAs.dats {ob : Option OB} {F : Hp} {σ : L2.St} : ∀ {us : List V} {l : List Aa} {ds : List D}, RAs C ob F σ us l → dats l = some ds → Reps C.K C.ca F us ds
  | [], [], _, _, e => by cases e; exact .nil
  | u :: us, .d x :: l, ds, h, e => by
    have e : (Mi.dats l).map (fun l => x :: l) = some ds := e
    cases q : Mi.dats l with
    | none => rw [q] at e; cases e
    | some l' => rw [q] at e; cases e; exact .cons h.1 (RAs.dats h.2 q)
  | u :: us, .rf i :: l, ds, h, e => by cases e
  | [], _ :: _, _, h, _ => h.elim
  | _ :: _, [], _, h, _ => h.elim
theorem evA_len {Γ : Env} : ∀ {es : List CE} {s s' : S} {l : List Aa}, evA Γ es s = some (.ok l s') → l.length = es.length
  | [], s, s', l, h => by cases h; rfl
  | e :: r, s, s', l, h => by
    unfold evA at h
    cases hr : isR e with
    | some i =>
      rw [hr] at h
      dsimp only at h
      split at h
      · cases e1 : evA Γ r s with
        | none => rw [e1] at h; cases h
        | some q =>
          rw [e1] at h
          cases q with
          | ex c s1 => cases h
          | ok l1 s1 => cases h; rw [List.length_cons, List.length_cons, evA_len e1]
      · cases h
    | none =>
      rw [hr] at h
      dsimp only at h
      cases e0 : toV ((evP Γ e).1 s) with
      | none => rw [e0] at h; cases h
      | some q =>
        rw [e0] at h
        cases q with
        | ex c s1 => cases h
        | ok d s1 =>
          rw [bnd_ok] at h
          cases e1 : evA Γ r s1 with
          | none => rw [e1] at h; cases h
          | some q =>
            rw [e1] at h
            cases q with
            | ex c s1 => cases h
            | ok l1 s1 => cases h; rw [List.length_cons, List.length_cons, evA_len e1]
theorem qa_nil : PA X [] (tA C W []) := ⟨fun pos pins s σ H Q I ⟨ob, F, s', r, R, e, p⟩ => by
  cases e
  exact pa_nil.run pos pins s σ H Q I (p [] F H R (same_refl F) trivial)⟩
theorem pa_imp {es : List Expr} {t t' : TA} (h : PA X es t) (k : ∀ σ H Q, t' σ H Q → t σ H Q) : PA X es t' := ⟨fun pos pins s σ H Q I q => h.run pos pins s σ H Q I (k σ H Q q)⟩
theorem qa_cons {es : List Expr} {cs : List CE} (hr : isR a = none) (ha : PE X ea (tE C W a)) (h : PA X es (tA C W cs)) (hs : starEach (ea :: es) X.env = (false, eval ea X.env) :: starEach es X.env) : PA X (ea :: es) (tA C W (a :: cs)) := by
  refine pa_imp (pa_cons (toV_of ha) h hs) fun σ H Q ⟨ob, F, s, r, R, e, p⟩ => ?_
  have e : (bnd (toV (ev C.Γ a s)) fun d s => bnd (evA C.Γ cs s) fun l s => some (.ok (.d d :: l) s)) = some r := by
    rw [← e]
    show _ = evA C.Γ (a :: cs) s
    rw [evA, hr]; rfl
  refine step R e p fun x s1 u F1 H1 e1 R1 m1 q1 e2 p1 => ?_
  refine step R1 e2 p1 fun l s2 us F2 H2 e3 R2 m2 q2 e4 p2 => ?_
  cases e4
  exact p2 (u :: us) F2 H2 R2 (same_refl F2) ⟨q1.mono m2, q2⟩
theorem qa_ref {es : List Expr} {cs : List CE} {i : Nat} {x : Str} (hn : i < C.n) (hN : X.N[i]? = some x) (hv : Vis X.env.scope x) (hd : (x == ("__debug__" : Str)) = false) (hcd : (x == ("__classdict__" : Str)) = false) (h : PA X es (tA C W cs))
    (hs : starEach (.Name x pos :: es) X.env = (false, eval (.Name x pos) X.env) :: starEach es X.env) : PA X (.Name x pos :: es) (tA C W (.r i :: cs)) := by
  refine pa_imp (pa_cons (pe_var hN hv hd hcd) h hs) fun σ H Q ⟨ob, F, s, r, R, e, p⟩ => ?_
  have e : (if (gt s i).own = true then (bnd (evA C.Γ cs s) fun l s => some (.ok (.rf i :: l) s)) else none) = some r := by
    rw [← e]
    show _ = evA C.Γ (.r i :: cs) s
    rw [evA]; rfl
  split at e
  · rename_i ho
    obtain ⟨a, q1, _⟩ := (R.cr i).own_at ho
    have hu := (vAt_lt hn).mp q1
    refine ⟨.ref a, hu, ?_⟩
    refine step R e p fun l s2 us F2 H2 e3 R2 m2 q2 e4 p2 => ?_
    cases e4
    exact p2 (.ref a :: us) F2 H2 R2 (same_refl F2) ⟨q1, q2⟩
  · cases e
theorem qe_tup {es : List Expr} {cs : List CE} {k : Nat} (h : PA X es (tA C W cs)) (hz : cs.length ≤ 1000) : PE X (.Tuple es k pos) (tE C W (.tup cs)) := by
  refine pe_imp (pe_tup h) fun σ H Q ⟨ob, F, s, r, R, e, p⟩ => ?_
  refine step R e p fun l s1 us F1 H1 e1 R1 m1 q1 e2 p1 => ?_
  cases ed : dats l with
  | none => rw [ed] at e2; cases e2
  | some ds =>
    rw [ed] at e2; cases e2
    refine ⟨by rw [RAs.length q1, evA_len e1]; exact Nat.le_trans hz (by decide), fun q hq => ?_⟩
    obtain ⟨R2, m2, q2⟩ := fin_tup R1 hq (RAs.dats q1 ed)
    exact p1 _ _ _ R2 m2 q2
theorem qe_lst {es : List Expr} {cs : List CE} (h : PA X es (tA C W cs)) (hz : cs.length ≤ 1000) : PE X (.List es pos) (tE C W (.lst cs)) := by
  refine pe_imp (pe_lst h) fun σ H Q ⟨ob, F, s, r, R, e, p⟩ => ?_
  refine step R e p fun l s1 us F1 H1 e1 R1 m1 q1 e2 p1 => ?_
  cases ed : dats l with
  | none => rw [ed] at e2; cases e2
  | some ds =>
    rw [ed] at e2; cases e2
    refine ⟨by rw [RAs.length q1, evA_len e1]; exact Nat.le_trans hz (by decide), fun q hq => ?_⟩
    obtain ⟨R2, q2⟩ := fin_lst R1 hq (RAs.dats q1 ed)
    exact p1 _ _ _ R2 (same_refl _) q2
/-! ### subscripts, slices -/
theorem ixN_map {α β : Type} {xs : List α} {ys : List β} (h : xs.length = ys.length) {i : Int} {d : β} (e : atI ys i = some d) : ∃ j : Nat, ys[j]? = some d ∧ ∀ v, xs[j]? = some v → atI xs i = some v := by
  unfold atI at e ⊢
  rw [h]
  cases q : ixN ys.length i with
  | none => rw [q] at e; cases e
  | some j => rw [q] at e; exact ⟨j, e, fun v hv => hv⟩
theorem ix_v {F H : Hp} (m : Same F H) {u : V} {x : Cl} {i : Int} {d : D} {Q : VK} (h : OC C F H u x) (e : ixop x (.int i) = some d) (k : ∀ v, Rep C.K C.ca F v d → Q v H) : rIx C.K u (.int i) H Q := by
  unfold ixop at e
  dsimp only at e
  split at e
  · rename_i z
    split at e
    · rename_i hz
      cases e1 : atI z.cps.toList i with
      | none => rw [e1] at e; cases e
      | some c => rw [e1] at e; cases e; exact .inr (.inr ⟨z, i, c, rep_str h.dat, rfl, hz, e1, k _ (.str _)⟩)
    · cases e
  · cases e1 : (asL x).or (asT x) with
    | none => rw [e1] at e; cases e
    | some xs =>
      rw [e1, Option.bind_some] at e
      obtain ⟨a, vs, rfl, q1, q2⟩ := h.seq m e1
      obtain ⟨j, h1, h2⟩ := ixN_map q2.length e
      obtain ⟨v, h3, h4⟩ := q2.get h1
      rcases q1 with q1 | q1
      · exact .inl ⟨a, vs, i, v, rfl, rfl, q1, h2 v h3, k v h4⟩
      · exact .inr (.inl ⟨a, vs, i, v, rfl, rfl, q1, h2 v h3, k v h4⟩)
theorem ix_fz {x : Cl} {i d : D} (e : ixop x i = some d) : x.fz.isSome = true := by
  cases x with
  | val d => rfl
  | lst d => rfl
  | dct d => rfl
  | un => cases i <;> cases e
  | exn c => cases i <;> cases e
theorem qe_ix (hK : X.K = C.K) (ha : PE X ea (tE C W a)) (hb : PE X eb (tE C W b)) (hs : PlainIx eb) : PE X (.Subscript ea eb pos) (tE C W (.ix a b)) := by
  refine pe_imp (pe_ix ix_seq (toO_of ha) (toV_of hb) hs) fun σ H Q ⟨ob, F, s, r, R, e, p⟩ => ?_
  rw [hK]
  refine step R e p fun x s1 u F1 H1 e1 R1 m1 q1 e2 p1 => ?_
  refine step R1 e2 p1 fun i s2 v F2 H2 e3 R2 m2 q2 e4 p2 => ?_
  cases eg : ixop (cont s2 x) i with
  | none => rw [eg] at e4; cases e4
  | some d =>
    rw [eg] at e4; cases e4
    cases i with
    | int i =>
      rw [rep_int q2]
      exact ix_v R2.sub (q1.now R2 m2 (ix_fz eg)) eg fun v hv => post_val p2 R2 hv
    | _ => cases eg
def tPo (C : Cn) (W : WX) (c : CE) : TO := tR (β := Option Int) C W (fun s => evPo (isNonC c) (ev C.Γ c s)) (fun ob F H σ s u o => u = o)
theorem qo_none : PO X none (tPo C W (.c .non)) := by
  refine ⟨fun pins s σ H Q I ⟨ob, F, s', r, R, e, p⟩ => ?_⟩
  cases e
  exact po_none.run pins s σ H Q I (p none F H R (same_refl F) rfl)
theorem qo_some (ha : PE X ea (tE C W a)) (hn : isNonC a = false) : PO X (some ea) (tPo C W a) := by
  refine ⟨fun pins s σ H Q I ⟨ob, F, s', r, R, e, p⟩ => ?_⟩
  refine (po_some (toV_of ha)).run pins s σ H Q I ?_
  have e : (bnd (toV (ev C.Γ a s')) fun d s => (part false d).map fun o => Mi.R.ok o s) = some r := by rw [← hn]; exact e
  refine step R e p fun d s1 u F1 H1 e1 R1 m1 q1 e2 p1 => ?_
  cases d with
  | int i => cases e2; exact ⟨i, rep_int q1, p1 _ F1 H1 R1 (same_refl F1) rfl⟩
  | _ => cases e2
def rSlX (K : PySem.W.Frag) : V → Option Int → Option Int → Hp → VK → Prop := fun x lo hi H Q => rSlS x lo hi H Q ∨ rSlA K x lo hi H Q ∨ rSlL K x lo hi H Q
theorem sl_any {X : Cx} : SlR X (rSlX X.K) := SlR.or sl_str (SlR.or sl_tupA sl_list)
theorem cut_reps {F : Hp} {vs : List V} {ds : List D} (r : Reps C.K C.ca F vs ds) (lo hi : Option Int) : Reps C.K C.ca F (cutV vs lo hi) (cutL ds lo hi) := by
  unfold cutV cutL
  rw [r.length]
  exact (r.drop _).take _
theorem cut_whole {α : Type} {xs : List α} {lo hi : Option Int} (h1 : HT.sIx xs.length 0 lo = 0) (h2 : HT.sIx xs.length xs.length hi = xs.length) : cutL xs lo hi = xs := by
  unfold cutL
  rw [h1, h2]
  simp
theorem sl_v {ob : Option OB} {F H : Hp} {σ : L2.St} {s : S} (R : SR C ob F H σ s) {u : V} {x c : Cl} {lo hi : Option Int} {Q : VK} (h : OC C F H u x) (e : slop x lo hi = some c) (k : ∀ (w : V) (F' H' : Hp), SR C ob F' H' σ s → Same F F' → RF C ob F' H' σ s w c → Q w H') : rSlX C.K u lo hi H Q := by
  unfold slop at e
  split at e
  · rename_i z
    split at e
    · rename_i hz
      cases e
      exact .inl ⟨z, rep_str h.dat, hz, k _ F H R (same_refl F) (RF.val R (.str _))⟩
    · cases e
  · rename_i xs
    cases e
    obtain ⟨a, vs, rfl, q1, q2⟩ := h.tup R.sub (show asT (.val (.tup xs)) = some xs from rfl)
    refine .inr (.inl ⟨a, vs, rfl, q1, fun hw => ?_, fun _ p hp => ?_⟩)
    · rw [q2.length] at hw
      rw [cut_whole hw.1 hw.2] at k
      exact k _ F H R (same_refl F) (RF.val R h.dat)
    · obtain ⟨R2, m2, f⟩ := fin_tup R hp (cut_reps q2 lo hi)
      exact k _ _ _ R2 m2 f
  · cases e1 : asL x with
    | none => rw [e1] at e; cases e
    | some xs =>
      rw [e1] at e; cases e
      obtain ⟨a, vs, rfl, q1, q2⟩ := h.list R.sub e1
      refine .inr (.inr ⟨a, vs, rfl, q1, fun p hp => ?_⟩)
      obtain ⟨R2, f⟩ := fin_lst R hp (cut_reps q2 lo hi)
      exact k _ _ _ R2 (same_refl F) f
theorem sl_fz {x c : Cl} {lo hi : Option Int} (e : slop x lo hi = some c) : x.fz.isSome = true := by
  cases x with
  | val d => rfl
  | lst d => rfl
  | dct d => rfl
  | un => cases e
  | exn c => cases e
theorem qe_sl {lo hi : Option Expr} {cl ch : CE} {p2 : Pos} (hK : X.K = C.K) (ha : PE X ea (tE C W a)) (hl : PO X lo (tPo C W cl)) (hh : PO X hi (tPo C W ch)) : PE X (.Subscript ea (.Slice lo hi none p2) pos) (tE C W (.sl a cl ch)) := by
  refine pe_imp (pe_slice sl_any (toO_of ha) hl hh) fun σ H Q ⟨ob, F, s, r, R, e, p⟩ => ?_
  rw [hK]
  refine step R e p fun x s1 u F1 H1 e1 R1 m1 q1 e2 p1 => ?_
  refine step R1 e2 p1 fun l s2 o2 F2 H2 e3 R2 m2 q2 e4 p2 => ?_
  refine step R2 e4 p2 fun h s3 o3 F3 H3 e5 R3 m3 q3 e6 p3 => ?_
  subst q2 q3
  cases eg : slop (cont s3 x) o2 o3 with
  | none => rw [eg] at e6; cases e6
  | some c =>
    rw [eg] at e6; cases e6
    exact sl_v R3 (q1.now R3 (m2.trans m3) (sl_fz eg)) eg fun w F' H' R' m' q' => p3 w F' H' R' m' q'
/-- a text turned round -/
theorem qe_fld {f : Str} {j : Nat} (hK : X.K = C.K) (ha : PE X ea (tE C W a)) (hf : (flds 0)[j]? = some f) (hb : attributeBase ea f X.env (eval ea X.env) = eval ea X.env) : PE X (.Attribute ea f pos) (tE C W (.fld a 0 j)) := by
  refine pe_imp (pe_fld (toV_of ha) hb) fun σ H Q ⟨ob, F, s, r, R, e, p⟩ => ?_
  rw [hK]
  refine step R e p fun x s1 u F1 H1 e1 R1 m1 q1 e2 p1 => ?_
  cases x with
  | obj c' xs =>
    have e5 : (if 0 = c' then (xs[j]?).map fun d => Mi.R.ok (Ro.fr (.val d)) s1 else none) = some r := e2
    clear e2
    split at e5
    · rename_i h
      subst h
      cases ex : xs[j]? with
      | none => rw [ex] at e5; cases e5
      | some d =>
        rw [ex] at e5; cases e5
        cases q1 with
        | obj h0 h1 h2 h3 =>
          obtain ⟨v, hv, rv⟩ := h3.get ex
          exact ⟨_, _, _, _, v, rfl, R1.sub _ _ h1, h0.cls, h0.noat f (List.mem_of_getElem? hf), lookup_zip (flds_nodup _) hf hv, post_val p1 R1 rv⟩
    · cases e5
  | _ => cases e2
/-! ### isinstance -/
inductive TyA where
  | non | bl | int | str | tup | lst | obj (c : Nat)
def taOf : Cl → Option TyA
  | .val .non => some .non
  | .val (.bl _) => some .bl
  | .val (.int _) => some .int
  | .val (.str _) => some .str
  | .val (.tup _) => some .tup
  | .val (.lst _) => some .lst
  | .lst _ => some .lst
  | .val (.obj c _) => some (.obj c)
  | _ => none
def isiA : TyA → Ty → Bool
  | .non, _ => false
  | .bl, t => t == .bool || t == .int
  | .int, t => t == .int
  | .str, t => t == .str
  | .tup, t => t == .tup
  | .lst, t => t == .list
  | .obj c, t => t == .cls c
theorem isi_eq (x : Cl) (t : Ty) : isi x t = (taOf x).map fun a => isiA a t := by
  cases x with
  | val d => cases d <;> rfl
  | _ => rfl
def TyA.val (ca : Nat → Addr) : TyA → Value
  | .non => .type "NoneType"
  | .bl => .type "bool"
  | .int => .type "int"
  | .str => .type "str"
  | .tup => .type "tuple"
  | .lst => .type "list"
  | .obj c => .ref (ca c)
theorem ta_v {F H : Hp} (m : Same F H) {u : V} {x : Cl} {a : TyA} (h : OC C F H u x) (e : taOf x = some a) : TyX C.K H u (a.val C.ca) ∧ ∀ c, a = .obj c → c = 0 ∧ ObF C.K (C.ca 0) := by
  obtain ⟨h, hf⟩ := h
  cases x with
  | val d =>
    obtain ⟨v, q1, q2⟩ := h
    cases q1
    cases q2 with
    | non => cases e; exact ⟨.base .non, fun c z => nomatch z⟩
    | bl b => cases e; exact ⟨.base (.bl b), fun c z => nomatch z⟩
    | int i => cases e; exact ⟨.base (.int i), fun c z => nomatch z⟩
    | str x => cases e; exact ⟨.base (.str x), fun c z => nomatch z⟩
    | tup q _ => cases e; exact ⟨.base (.tup (m _ _ q)), fun c z => nomatch z⟩
    | lst q _ => cases e; exact ⟨.base (.lst (m _ _ q)), fun c z => nomatch z⟩
    | obj o q _ _ =>
      cases e
      exact ⟨.base (.ins (m _ _ q) o.cls o.ha o.hn o.htk o.hm), fun c z => by cases z; exact ⟨rfl, o⟩⟩
    | _ => cases e
  | lst xs =>
    obtain ⟨a, vs, q1, q2, _⟩ := h
    cases q1; cases e
    exact ⟨.base (.lst q2), fun c z => nomatch z⟩
  | _ => cases e
theorem ta_fz {x : Cl} {a : TyA} (e : taOf x = some a) : x.fz.isSome = true := by
  cases x with
  | val d => rfl
  | lst d => rfl
  | _ => cases e
theorem qe_isi {p : Pos} {eT : Expr} {cv : V} {cu : Value} {t : Ty} (hK : X.K = C.K) (hg : Gl X "isinstance") (hm : X.mg "isinstance" = none) (ha : PE X ea (tE C W a)) (hT : PE X eT (tC cv)) (k : ClsV cv cu)
    (hc : ∀ a : TyA, (∀ c, a = .obj c → c = 0 ∧ ObF C.K (C.ca 0)) → PySem.W.kitOne C.K (a.val C.ca) cu = some (isiA a t)) (hs : starEach [ea, eT] X.env = (false, eval ea X.env) :: starEach [eT] X.env) (hs2 : starEach [eT] X.env = (false, eval eT X.env) :: starEach [] X.env) :
    PE X (.Call (.Name "isinstance" p) [ea, eT] [] pos) (tE C W (.isi a t)) := by
  have h := pe_callB (x := "isinstance") (p := p) (pos := pos) call_isi hg hm (by decide +kernel) (pa_cons (toO_of ha) (pa_cons hT pa_nil hs2) hs) (by decide) (by decide) hs (by rw [hs2]; rfl)
  refine pe_imp h fun σ H Q ⟨ob, F, s, r, R, e, p⟩ => ?_
  rw [hK]
  refine step R e p fun x s1 u F1 H1 e1 R1 m1 q1 e2 p1 => ?_
  rw [isi_eq] at e2
  cases et : taOf (cont s1 x) with
  | none => rw [et] at e2; cases e2
  | some ta =>
    rw [et] at e2; cases e2
    obtain ⟨c1, c2⟩ := ta_v R1.sub (q1.at_ R1 (ta_fz et)) et
    exact ⟨u, cv, _, cu, _, rfl, k, c1, hc ta c2, post_val p1 R1 (.bl _)⟩
end
end Mi
namespace Mi
open PySem PySem.Spec PyProof.Rows L2
/-! ### built-in functions -/
section
variable {X : Cx} {C : Cn} {W : WX} {ea eb : Expr} {a b : CE} {pos : Pos}
/-- an operand in a row -/
def RO1 (C : Cn) (ob : Option OB) (F : Hp) (σ : L2.St) (u : V) : Ro → Prop
  | .fr c => ∃ d, c = .val d ∧ Rep C.K C.ca F u d
  | .pt i => vAt C σ ob i = some u
def ROs (C : Cn) (ob : Option OB) (F : Hp) (σ : L2.St) : List V → List Ro → Prop
  | [], [] => True
  | u :: us, x :: l => RO1 C ob F σ u x ∧ ROs C ob F σ us l
  | _, _ => False
theorem RO1.mono {ob : Option OB} {F F' : Hp} {σ : L2.St} (m : Same F F') {u : V} {x : Ro} (h : RO1 C ob F σ u x) : RO1 C ob F' σ u x := by
  cases x with
  | fr c => obtain ⟨d, e, r⟩ := h; exact ⟨d, e, r.mono m⟩
  | pt i => exact h
def OCs (C : Cn) (F H : Hp) : List V → List Cl → Prop
  | [], [] => True
  | u :: us, c :: cs => OC C F H u c ∧ OCs C F H us cs
  | _, _ => False
theorem ROs.oc {ob : Option OB} {F H : Hp} {σ : L2.St} {s : S} (R : SR C ob F H σ s) : ∀ {us : List V} {l : List Ro}, ROs C ob F σ us l → (∀ x ∈ l, (cont s x).fz.isSome = true) → OCs C F H us (l.map (cont s))
  | [], [], _, _ => trivial
  | u :: us, x :: l, h, k => by
    refine ⟨?_, ROs.oc R h.2 fun y hy => k y (List.mem_cons_of_mem _ hy)⟩
    have kx := k x List.mem_cons_self
    cases x with
    | fr c => obtain ⟨d, rfl, r⟩ := h.1; exact ⟨⟨u, rfl, r⟩, rfl⟩
    | pt i =>
      have q := R.cr i
      rw [h.1] at q
      exact ⟨q, kx⟩
  | [], _ :: _, h, _ => h.elim
  | _ :: _, [], h, _ => h.elim
def RAO (C : Cn) (ob : Option OB) (F H : Hp) (σ : L2.St) (s : S) (us : List V) (l : List Ro) : Prop := ROs C ob F σ us l
abbrev tAO (C : Cn) (W : WX) (es : List CE) : TA := tR (β := List V) C W (fun s => evO C.Γ es s) (RAO C)
theorem qao_nil : PA X [] (tAO C W []) := ⟨fun pos pins s σ H Q I ⟨ob, F, s', r, R, e, p⟩ => by
  cases e
  exact pa_nil.run pos pins s σ H Q I (p [] F H R (same_refl F) trivial)⟩
theorem qao_cons {es : List Expr} {cs : List CE} (ha : PE X ea (tE C W a)) (h : PA X es (tAO C W cs)) (hs : starEach (ea :: es) X.env = (false, eval ea X.env) :: starEach es X.env) : PA X (ea :: es) (tAO C W (a :: cs)) := by
  refine pa_imp (pa_cons (toO_of ha) h hs) fun σ H Q ⟨ob, F, s, r, R, e, p⟩ => ?_
  refine step R e p fun x s1 u F1 H1 e1 R1 m1 q1 e2 p1 => ?_
  refine step R1 e2 p1 fun l s2 us F2 H2 e3 R2 m2 q2 e4 p2 => ?_
  cases e4
  refine p2 (u :: us) F2 H2 R2 (same_refl F2) ⟨RO1.mono m2 ?_, q2⟩
  cases x with
  | fr c => exact q1
  | pt i => exact q1.1
/-- what a built-in function must do -/
def BfOk (C : Cn) (r : List V → Hp → VK → Prop) (g : List Cl → Option Cl) : Prop := ∀ {ob : Option OB} {F H : Hp} {σ : L2.St} {s : S} {us : List V} {cs : List Cl} {c : Cl} {Q : VK}, SR C ob F H σ s → OCs C F H us cs → g cs = some c →
  (∀ (w : V) (F' H' : Hp), SR C ob F' H' σ s → Same F F' → RF C ob F' H' σ s w c → Q w H') → r us H Q
theorem bf_run {b : BF} {r : List V → Hp → VK → Prop} {cs : List CE} (hr : BfOk C r (bfop b)) (hf : ∀ cs c, bfop b cs = some c → ∀ x ∈ cs, x.fz.isSome = true) {σ : L2.St} {H : Hp} {Q : VK} (h : tE C W (.bf b cs) σ H Q) : tCB r (tAO C W cs) σ H Q := by
  obtain ⟨ob, F, s, r, R, e, p⟩ := h
  refine step R e p fun l s1 us F1 H1 e1 R1 m1 q1 e2 p1 => ?_
  cases eg : bfop b (l.map (cont s1)) with
  | none => rw [eg] at e2; cases e2
  | some c =>
    rw [eg] at e2; cases e2
    refine hr R1 (ROs.oc R1 q1 fun x hx => hf _ _ eg _ (List.mem_map_of_mem hx)) eg fun w F' H' R' m' q' => p1 w F' H' R' m' q'
theorem seq_fz {x : Cl} {xs : List D} (h : (asL x).or (asT x) = some xs) : x.fz.isSome = true := by
  cases x with
  | val d => rfl
  | lst d => rfl
  | _ => cases h
/-- one argument -/
theorem bf1 {b : BF} {cs : List Cl} {c : Cl} (hb : b ≠ .min) (h : bfop b cs = some c) : ∃ x, cs = [x] := by
  cases cs with
  | nil => cases b <;> cases h
  | cons x cs =>
    cases cs with
    | nil => exact ⟨x, rfl⟩
    | cons y cs => cases b <;> first | exact absurd rfl hb | (unfold bfop at h; split at h <;> first | (rename_i q; cases q; done) | (rename_i q _; cases q; done) | (rename_i q _ _; cases q; done) | cases h)
theorem oc1 {F H : Hp} {us : List V} {x : Cl} (h : OCs C F H us [x]) : ∃ u, us = [u] ∧ OC C F H u x := by
  cases us with
  | nil => exact h.elim
  | cons u us =>
    cases us with
    | nil => exact ⟨u, rfl, h.1⟩
    | cons v us => exact h.2.elim
theorem oc2 {F H : Hp} {us : List V} {x y : Cl} (h : OCs C F H us [x, y]) : ∃ u v, us = [u, v] ∧ OC C F H u x ∧ OC C F H v y := by
  cases us with
  | nil => exact h.elim
  | cons u us =>
    obtain ⟨v, rfl, h2⟩ := oc1 h.2
    exact ⟨u, v, rfl, h.1, h2⟩
theorem len_cases {x c : Cl} (h : bfop .len [x] = some c) : (∃ z, x = .val (.str z) ∧ z.length ≤ sizeLine ∧ c = .val (.int z.length)) ∨ ∃ xs, (asL x).or (asT x) = some xs ∧ c = .val (.int xs.length) := by
  have hz : ∀ z, x = .val (.str z) → (∃ z, x = .val (.str z) ∧ z.length ≤ sizeLine ∧ c = .val (.int z.length)) := fun z hx => by
    subst hx
    have h : (if z.length ≤ sizeLine then some (Cl.val (.int z.length)) else none) = some c := h
    split at h
    · rename_i q; cases h; exact ⟨z, rfl, q, rfl⟩
    · cases h
  have hq : (((asL x).or (asT x)).map fun xs => Cl.val (.int xs.length)) = some c → ∃ xs, (asL x).or (asT x) = some xs ∧ c = .val (.int xs.length) := fun h => by
    cases e : (asL x).or (asT x) with
    | none => rw [e] at h; cases h
    | some xs => rw [e] at h; cases h; exact ⟨xs, rfl, rfl⟩
  cases x with
  | val d =>
    cases d with
    | str z => exact .inl (hz z rfl)
    | _ => exact .inr (hq h)
  | _ => exact .inr (hq h)
theorem bfk_len (K : PySem.W.Frag) (hK : K = C.K) : BfOk C (fun xs H Q => ∃ x n, xs = [x] ∧ LenV K x H n ∧ Q (.int n) H) (bfop .len) := by
  intro ob F H σ s us cs c Q R h e k
  subst hK
  obtain ⟨x, rfl⟩ := bf1 (by decide) e
  obtain ⟨u, rfl, hx⟩ := oc1 h
  rcases len_cases e with ⟨z, rfl, hz, rfl⟩ | ⟨xs, e1, rfl⟩
  · refine ⟨u, z.length, rfl, ?_, k _ F H R (same_refl F) (RF.val R (.int _))⟩
    rw [rep_str hx.dat]
    exact ⟨hz, rfl⟩
  · obtain ⟨a, vs, rfl, q1, q2⟩ := hx.seq R.sub e1
    refine ⟨.ref a, xs.length, rfl, ?_, k _ F H R (same_refl F) (RF.val R (.int _))⟩
    rw [← q2.length]
    rcases q1 with q1 | q1
    · exact .inl ⟨vs, q1, rfl⟩
    · exact .inr ⟨vs, q1, rfl⟩
theorem bfk_list (K : PySem.W.Frag) (hK : K = C.K) : BfOk C (fun xs H Q => ∃ p ys, xs = [.ref p] ∧ (SqL K H p ys ∨ SqT K H p ys) ∧ ∀ l, H l = none → Q (.ref l) (upd H l (.lst ys))) (bfop .list) := by
  intro ob F H σ s us cs c Q R h e k
  subst hK
  obtain ⟨x, rfl⟩ := bf1 (by decide) e
  obtain ⟨u, rfl, hx⟩ := oc1 h
  have e : (((asL x).or (asT x)).map fun xs => Cl.lst xs) = some c := e
  cases e1 : (asL x).or (asT x) with
  | none => rw [e1] at e; cases e
  | some xs =>
    rw [e1] at e; cases e
    obtain ⟨a, vs, rfl, q1, q2⟩ := hx.seq R.sub e1
    refine ⟨a, vs, rfl, q1, fun l hl => ?_⟩
    obtain ⟨R', q⟩ := fin_lst R hl q2
    exact k _ _ _ R' (same_refl F) q
theorem bfk_tup (K : PySem.W.Frag) (hK : K = C.K) : BfOk C (fun xs H Q => ∃ p ys, xs = [.ref p] ∧ ((SqL K H p ys ∧ ∀ l, H l = none → Q (.ref l) (upd H l (.tup ys))) ∨ (SqT K H p ys ∧ Q (.ref p) H))) (bfop .tup) := by
  intro ob F H σ s us cs c Q R h e k
  subst hK
  obtain ⟨x, rfl⟩ := bf1 (by decide) e
  obtain ⟨u, rfl, hx⟩ := oc1 h
  have e : ((asL x).map fun xs => Cl.val (.tup xs)) = some c := e
  cases e1 : asL x with
  | none => rw [e1] at e; cases e
  | some xs =>
    rw [e1] at e; cases e
    obtain ⟨a, vs, rfl, q1, q2⟩ := hx.list R.sub e1
    refine ⟨a, vs, rfl, .inl ⟨q1, fun l hl => ?_⟩⟩
    obtain ⟨R', m, q⟩ := fin_tup R hl q2
    exact k _ _ _ R' m q
theorem bfk_abs : BfOk C (fun xs H Q => ∃ i, xs = [.int i] ∧ Q (.int (if i < 0 then -i else i)) H) (bfop .abs) := by
  intro ob F H σ s us cs c Q R h e k
  obtain ⟨x, rfl⟩ := bf1 (by decide) e
  obtain ⟨u, rfl, hx⟩ := oc1 h
  cases x with
  | val d =>
    cases d with
    | int i => cases e; exact ⟨i, by rw [rep_int hx.dat], k _ F H R (same_refl F) (RF.val R (.int _))⟩
    | _ => cases e
  | _ => cases e
theorem bfk_str : BfOk C (fun xs H Q => ∃ i, xs = [.int i] ∧ i.natAbs.log2 < 1920 ∧ Q (.str (toString i)) H) (bfop .str) := by
  intro ob F H σ s us cs c Q R h e k
  obtain ⟨x, rfl⟩ := bf1 (by decide) e
  obtain ⟨u, rfl, hx⟩ := oc1 h
  cases x with
  | val d =>
    cases d with
    | int i =>
      have e : (if i.natAbs.log2 < 1920 then some (Cl.val (.str (toString i))) else none) = some c := e
      split at e
      · rename_i hz
        cases e; exact ⟨i, by rw [rep_int hx.dat], hz, k _ F H R (same_refl F) (RF.val R (.str _))⟩
      · cases e
    | _ => cases e
  | _ => cases e
def rIntA : List V → Hp → VK → Prop := fun xs H Q => ((∃ i, xs = [.int i] ∧ Q (.int i) H) ∨ ∃ k, xs = [.bl k] ∧ Q (.int (if k then 1 else 0)) H) ∨ ∃ a n, xs = [.str a] ∧ PySem.intText? a = some n ∧ a.length ≤ 640 ∧ Q (.int n) H
theorem call_intA {X : Cx} : CallR X (.type "int") rIntA := CallR.or call_int1 call_int_str
theorem bfk_int : BfOk C rIntA (bfop .int) := by
  intro ob F H σ s us cs c Q R h e k
  obtain ⟨x, rfl⟩ := bf1 (by decide) e
  obtain ⟨u, rfl, hx⟩ := oc1 h
  cases x with
  | val d =>
    cases d with
    | int i => cases e; exact .inl (.inl ⟨i, by rw [rep_int hx.dat], k _ F H R (same_refl F) (RF.val R (.int _))⟩)
    | bl i => cases e; exact .inl (.inr ⟨i, by rw [rep_bl hx.dat], k _ F H R (same_refl F) (RF.val R (.int _))⟩)
    | str z =>
      have e : (if z.length ≤ 640 then (PySem.intText? z).map fun n => Cl.val (.int n) else none) = some c := e
      split at e
      · rename_i hz
        cases e1 : PySem.intText? z with
        | none => rw [e1] at e; cases e
        | some n => rw [e1] at e; cases e; exact .inr ⟨z, n, by rw [rep_str hx.dat], e1, hz, k _ F H R (same_refl F) (RF.val R (.int _))⟩
      · cases e
    | _ => cases e
  | _ => cases e
theorem bfk_min : BfOk C (fun xs H Q => ∃ i j, xs = [.int i, .int j] ∧ Q (.int (if j < i then j else i)) H) (bfop .min) := by
  intro ob F H σ s us cs c Q R h e k
  cases cs with
  | nil => cases e
  | cons x cs =>
    cases cs with
    | nil => cases x <;> first | cases e | (rename_i d; cases d <;> cases e)
    | cons y cs =>
      cases cs with
      | nil =>
        obtain ⟨u, v, rfl, hx, hy⟩ := oc2 h
        cases x with
        | val d =>
          cases d with
          | int i =>
            cases y with
            | val d =>
              cases d with
              | int j => cases e; exact ⟨i, j, by rw [rep_int hx.dat, rep_int hy.dat], k _ F H R (same_refl F) (RF.val R (.int _))⟩
              | _ => cases e
            | _ => cases e
          | _ => cases e
        | _ => cases e
      | cons z cs => unfold bfop at e; split at e <;> first | (rename_i q; cases q; done) | (rename_i q _; cases q; done) | (rename_i q _ _; cases q; done) | cases e
theorem bf_fz {b : BF} {cs : List Cl} {c : Cl} (h : bfop b cs = some c) : ∀ x ∈ cs, x.fz.isSome = true := by
  by_cases hb : b = .min
  · subst hb
    unfold bfop at h
    split at h <;> first
      | (rename_i q; cases q; done)
      | (rename_i q _; cases q; done)
      | (intro x hx
         rcases List.mem_cons.mp hx with rfl | hx
         · rfl
         · rcases List.mem_cons.mp hx with rfl | hx
           · rfl
           · cases hx)
      | cases h
  · obtain ⟨x, rfl⟩ := bf1 hb h
    intro y hy
    rcases List.mem_cons.mp hy with rfl | hy
    · cases y with
      | val d => rfl
      | lst d => rfl
      | dct ks xs => rfl
      | un => cases b <;> first | cases h | exact absurd rfl hb
      | exn c => cases b <;> first | cases h | exact absurd rfl hb
    · cases hy
end
end Mi
namespace PySem.MiX
open PySem PySem.AutoSeq1
open Builtin
theorem mi_extend_tup (l : Addr) (items : Array Value) (n : Nat) (b : Addr) (items2 : Array Value) (n2 : Nat) (dd : Option Addr) (sl : Array (Option Value)) (hs0 : ¬(!items.isEmpty && Builtin.List.listTooLong (items.size + items2.size)) = true) (hs1 : items.size ≤ sizeLine) (hs2 : items.size + items2.size ≤ sizeLine + 1) :
    Meets (Builtin.«list.extend» ⟨[.ref l, .ref b], []⟩) (fun _ R s => s.heap.get? l = some { cls := .type "list", dict := none, data := .seq items n, slots := #[] } ∧ s.heap.get? b = some { cls := .type "tuple", dict := dd, data := .seq items2 n2, slots := sl } ∧ R (.ok (.ret Value.none)) { s with heap := s.heap.update l (Obj.mapSeq fun x => x ++ items2), toks := s.toks }) :=
  .of_wp fun prog w A R s h => by
    obtain ⟨hp, g, d, tk, os⟩ := s; obtain ⟨hl, hb, h⟩ := h; have f1 := idx_int; have f2 := sub_tuple_tuple; have f3 := sub_list_list; have f4 := sub_tuple_list; have f5 := sub_list_tuple;
    have hz' : (items ++ items2).size ≤ sizeLine + 1 := by rw [Array.size_append]; exact hs2
    wp_walk using (wpAny_updateSeq hl rfl (hz := hs1) (_hz' := hz')), wpAny_loadPart' hl, wpAny_loadPart' hb; exact ⟨_, rfl, h⟩
end PySem.MiX
namespace Mi
open PySem PySem.Spec PyProof.Rows L2
/-! ### methods that change a list -/
section
variable {C : Cn} {ob : Option OB} {F F' H H' : Hp} {σ : L2.St} {s s' : S}
/-- an own list is written -/
theorem SR.mut (R : SR C ob F H σ s) {i : Nat} {a : Addr} {c c' : Cl} {o : HO} (hc : gt s i = c) (ho : c.own = true) (ho' : c'.own = true) (ha : vAt C σ ob i = some (.ref a)) (hn : CR C F (upd H a o) (some (.ref a)) c') : SR C ob F (upd H a o) σ (s.set i c') := by
  have hown : (gt s i).own = true := by rw [hc]; exact ho
  obtain ⟨q1, q2, q3⟩ := R.own_some hown ha
  have lt : i < s.length := gt_lt fun z => by rw [z] at hown; cases hown
  have x : Ex C.wd.T C.wd.F C.wd.H F (upd H a o) := R.ex.trans (T1 := fun b => b = a) (Ex.write R.sub q1 rfl) fun b z => by rw [z]; exact q2
  refine ⟨x, R.len, fun j => ?_, fun j k b h1 h2 h3 h4 => ?_, R.lk, fun h j hj => ?_, fun o' h => ?_, R.mo⟩
  · rw [gt_set]
    split
    · rename_i h
      rw [← h.1, ha]; exact hn
    · rename_i h
      refine (R.cr j).mono (same_refl F) fun b h1 h2 => ⟨rfl, upd_ne ?_⟩
      rintro rfl
      exact h ⟨R.inj i j _ hown h1 ha h2, lt⟩
  · have h1' : (gt s j).own = true := by
      rw [gt_set] at h1
      split at h1
      · rename_i z; rw [← z.1]; exact hown
      · exact h1
    have h2' : (gt s k).own = true := by
      rw [gt_set] at h2
      split at h2
      · rename_i z; rw [← z.1]; exact hown
      · exact h2
    exact R.inj j k b h1' h2' h3 h4
  · rw [gt_set]
    split
    · rename_i z
      have := R.ob0 h i (by omega)
      rw [this] at hown; cases hown
    · exact R.ob0 h j hj
  · obtain ⟨h1, h2, h3, h4, h5, h6, h7⟩ := R.ob1 o' h
    have na : o'.a ≠ a := R.own_ob hown ha h
    refine ⟨by rw [upd_ne na]; exact h1, h2, h3, h4, fun j hj => ?_, fun j hj => ?_, h7⟩
    · rw [gt_set]
      split
      · rename_i z
        have := h5 j hj
        rw [← z.1] at this
        rw [this] at hown; cases hown
      · exact h5 j hj
    · rw [gt_set]
      split
      · intro z; rw [z] at ho'; cases ho'
      · exact h6 j hj
end
section
variable {X : Cx} {C : Cn} {W : WX} {eo ea eb : Expr} {a b : CE} {pos apos : Pos}
/-- what a method that changes a list must do -/
def MtOk (C : Cn) (r : V → List V → Hp → VK → Prop) (m : MT) : Prop := ∀ {F H : Hp} {l : Addr} {vs us : List V} {xs ds : List D} {d : D} {c : Cl} {Q : VK}, Same F H → H l = some (.lst vs) → Reps C.K C.ca F vs xs → Reps C.K C.ca F us ds → mutop m (.lst xs) ds = some (d, c) →
  (∀ (w : V) (vs' : List V) (xs' : List D), c = .lst xs' → Reps C.K C.ca F vs' xs' → Rep C.K C.ca F w d → Q w (upd H l (.lst vs'))) → r (.ref l) us H Q
theorem mut_lst {m : MT} {c0 : Cl} {ds : List D} {p : D × Cl} (h : mutop m c0 ds = some p) : ∃ xs, c0 = .lst xs := by
  unfold mutop at h
  split at h <;> first | exact ⟨_, rfl⟩ | cases h
theorem mt_run {m : MT} {o : CE} {cs : List CE} {r : V → List V → Hp → VK → Prop} (hr : MtOk C r m)
    (hm : ∀ s, ev C.Γ (.mt m o cs) s = bnd (ev C.Γ o s) fun q s => match q with
      | .pt i => if isLst (gt s i) then bnd (evA C.Γ cs s) fun l s => ((dats l).bind fun ds => mutop m (gt s i) ds).map fun p => .ok (.fr (.val p.1)) (s.set i p.2) else none
      | _ => none) {σ : L2.St} {H : Hp} {Q : VK} (h : tE C W (.mt m o cs) σ H Q) : tBM C.K "list" r (tE C W o) (tA C W cs) σ H Q := by
  obtain ⟨ob, F, s, rr, R, e, p⟩ := h
  have e := (hm s).symm.trans e
  refine step R e p fun x s1 u F1 H1 e1 R1 m1 q1 e2 p1 => ?_
  cases x with
  | fr c => cases e2
  | pt i =>
    obtain ⟨q1, q2⟩ := q1
    have e2 : (if isLst (gt s1 i) = true then bnd (evA C.Γ cs s1) fun l s => ((dats l).bind fun ds => mutop m (gt s i) ds).map fun p => Mi.R.ok (Ro.fr (.val p.1)) (s.set i p.2) else none) = some rr := e2
    split at e2
    · rename_i hl
      have cr := R1.cr i
      rw [q1] at cr
      cases eg : gt s1 i with
      | lst xs =>
        rw [eg] at cr
        obtain ⟨l, vs, z1, z2, z3, z4, z5⟩ := cr
        cases z1
        refine ⟨.inl ⟨rfl, vs, .inl (.inl z2)⟩, ?_⟩
        refine step R1 e2 p1 fun ll s2 us F2 H2 e3 R2 m2 q2 e4 p2 => ?_
        cases ed : dats ll with
        | none => rw [ed] at e4; cases e4
        | some ds =>
          rw [ed, Option.bind_some] at e4
          cases em : mutop m (gt s2 i) ds with
          | none => rw [em] at e4; cases e4
          | some pp =>
            rw [em] at e4; cases e4
            obtain ⟨d, c⟩ := pp
            obtain ⟨ys, ey⟩ := mut_lst em
            rw [ey] at em
            have cr2 := R2.cr i
            rw [q1, ey] at cr2
            obtain ⟨l2, ws, y1, y2, y3, y4, y5⟩ := cr2
            cases y1
            refine hr R2.sub y2 y3 (RAs.dats q2 ed) em fun w vs' xs' hc r1 r2 => ?_
            subst hc
            have R3 := R2.mut ey rfl rfl q1 (c' := .lst xs') (o := .lst vs') ⟨l, vs', rfl, upd_same, r1, y4, y5⟩
            exact p2 w F2 _ R3 (same_refl F2) (RF.val R3 r2)
      | _ => rw [eg] at hl; cases hl
    · cases e2
theorem mtk_append : MtOk C rAppend .append := by
  intro F H l vs us xs ds d c Q m hl r1 r2 e k
  cases r2 with
  | nil => cases e
  | cons r2 r3 =>
    cases r3 with
    | cons _ _ => cases e
    | nil =>
      rename_i u du
      have e : (if xs.length < sizeLine then some (D.non, Cl.lst (xs ++ [du])) else none) = some (d, c) := e
      split at e
      · rename_i hz
        cases e
        exact ⟨l, vs, u, rfl, rfl, hl, by rw [r1.length]; exact hz, k _ _ _ rfl (r1.append (.cons r2 .nil)) .non⟩
      · cases e
theorem mtk_pop : MtOk C rPop .pop := by
  intro F H l vs us xs ds d c Q m hl r1 r2 e k
  cases r2 with
  | cons _ _ => cases e
  | nil =>
    have e : (xs.getLast?.map fun d => (d, Cl.lst xs.dropLast)) = some (d, c) := e
    cases eg : xs.getLast? with
    | none => rw [eg] at e; cases e
    | some d' =>
      rw [eg] at e; cases e
      have h1 : xs[xs.length - 1]? = some d := by rw [List.getLast?_eq_getElem?] at eg; exact eg
      obtain ⟨v, hv, rv⟩ := r1.get h1
      exact ⟨l, vs, v, rfl, rfl, hl, by rw [r1.length]; exact hv, k _ _ _ rfl r1.dropLast rv⟩
def rIns : V → List V → Hp → VK → Prop := fun x vs H Q => ∃ (l : Addr) (xs : List V) (i : Int) (y : V), x = .ref l ∧ vs = [.int i, y] ∧ H l = some (.lst xs) ∧ xs.length < sizeLine ∧ 0 ≤ i ∧ i < 2 ^ 63 ∧
    Q .non (upd H l (.lst (xs.take i.toNat ++ [y] ++ xs.drop i.toNat)))
theorem mtk_insert : MtOk C rIns .insert := by
  intro F H l vs us xs ds d c Q m hl r1 r2 e k
  unfold mutop at e
  split at e <;> first
    | (rename_i q _ _; cases q; done)
    | (rename_i q _; cases q; done)
    | (rename_i q; cases q; done)
    | skip
  · rename_i i dd _ hx
    cases hx
    split at e
    · rename_i hz
      cases e
      obtain ⟨hz, rfl⟩ := hz
      cases r2 with
      | cons ra rb =>
        cases rb with
        | cons rb rc =>
          cases rc
          rename_i u1 u2
          rw [rep_int ra]
          exact ⟨l, vs, 0, u2, rfl, rfl, hl, by rw [r1.length]; exact hz, by decide, by decide, k _ _ _ rfl (.cons rb r1) .non⟩
    · cases e
  · cases e
def rExt : V → List V → Hp → VK → Prop := fun x vs H Q => ∃ l b xs zs, x = .ref l ∧ vs = [.ref b] ∧ H l = some (.lst xs) ∧ (H b = some (.lst zs) ∨ H b = some (.tup zs)) ∧ xs.length + zs.length ≤ sizeLine ∧ Q .non (upd H l (.lst (xs ++ zs)))
theorem mt_ext : MtR X "list.extend" rExt := by
  intro pins s σ H x vs v us Q I rx rv h
  obtain ⟨l, b, xs, zs, rfl, rfl, hH, hB | hB, hz, q⟩ := h
  · exact mt_extend pins s σ H _ _ v us Q I rx rv ⟨l, b, xs, zs, rfl, rfl, hH, hB, hz, q⟩
  · cases rx
    obtain ⟨u, rfl, ru⟩ := rv.one
    cases ru
    obtain ⟨z, its, n, r, hl, e⟩ := I.lstM hH
    obtain ⟨its2, r2, ⟨o, ho, hc, n2, hd⟩, z2⟩ := I.tuple (SqT.of (K := X.K) hB)
    obtain ⟨oc, od, dt, sl⟩ := o
    dsimp only at hc hd
    subst hc hd
    have hl2 := r2.length
    have hsz : its.toArray.size + its2.toArray.size ≤ sizeLine := by rw [List.size_toArray, List.size_toArray]; omega
    have hlong : ¬ (!its.toArray.isEmpty && Builtin.List.listTooLong (its.toArray.size + its2.toArray.size)) = true := by
      rw [notLongL hsz, Bool.and_false]
      exact Bool.false_ne_true
    refine call_meets F.slot_list_extend ⟨_, e, rfl⟩ F.entry_list_extend (F.args_list_extend_2 _ _)
      (PySem.MiX.mi_extend_tup l its.toArray n b its2.toArray n2 od sl hlong (by rw [List.size_toArray]; omega) (by omega)) ⟨e, ho, ?_⟩
    refine ⟨.non, _, I.lset (its' := its ++ its2) hH e (by simp) (r.append r2) ?_, rfl, q⟩
    rw [List.length_append]
    omega
theorem mtk_extend : MtOk C rExt .extend := by
  intro F H l vs us xs ds d c Q m hl r1 r2 e k
  cases r2 with
  | nil => cases e
  | cons r2 r3 =>
    cases r3 with
    | cons _ _ => unfold mutop at e; split at e <;> first | (rename_i q; cases q; done) | (rename_i q _; cases q; done) | (rename_i q _ _; cases q; done) | cases e
    | nil =>
      rename_i u du
      cases r2 with
      | lst q1 q2 =>
        rename_i b ws ys
        have e : (if xs.length + ys.length ≤ sizeLine then some (D.non, Cl.lst (xs ++ ys)) else none) = some (d, c) := e
        split at e
        · rename_i hz
          cases e
          exact ⟨l, b, vs, ws, rfl, rfl, hl, .inl (m _ _ q1), by rw [r1.length, q2.length]; exact hz, k _ _ _ rfl (r1.append q2) .non⟩
        · cases e
      | tup q1 q2 =>
        rename_i b ws ys
        have e : (if xs.length + ys.length ≤ sizeLine then some (D.non, Cl.lst (xs ++ ys)) else none) = some (d, c) := e
        split at e
        · rename_i hz
          cases e
          exact ⟨l, b, vs, ws, rfl, rfl, hl, .inr (m _ _ q1), by rw [r1.length, q2.length]; exact hz, k _ _ _ rfl (r1.append q2) .non⟩
        · cases e
      | _ => cases e
/-! ### methods of a text -/
theorem join_case {a : Str} {ds : List D} {d : D} (h : joinop a ds = some d) : ∃ ys zs, ds = [.lst ys] ∧ txts ys = some zs ∧ joinLen a zs ≤ 16777216 ∧ d = .str (Txt.join a zs) := by
  unfold joinop at h
  split at h
  · rename_i ys
    cases e : txts ys with
    | none => rw [e] at h; cases h
    | some zs =>
      rw [e, Option.bind_some] at h
      split at h
      · rename_i hz; cases h; exact ⟨ys, zs, rfl, e, hz, rfl⟩
      · cases h
  · cases h
theorem str_case {x : D} (h : isStr x = true) : ∃ a, x = .str a := by
  cases x with
  | str a => exact ⟨a, rfl⟩
  | _ => cases h
theorem qe_join {o e1 : Expr} {co c1 : CE} (hK : X.K = C.K) (ho : PE X o (tE C W co)) (h1 : PA X [e1] (tA C W [c1])) (hs : starEach [e1] X.env = [(false, eval e1 X.env)]) (hbase : attributeBase o "join" X.env (eval o X.env) = eval o X.env) (hline : (apos.endLine == pos.line) = true) :
    PE X (.Call (.Attribute o "join" apos) [e1] [] pos) (tE C W (.mt .join co [c1])) := by
  have h := pe_bm (T := "str") (apos := apos) (cpos := pos) PySem.F.plainAttrs_str PySem.F.slot_str_join PySem.F.type_str_join mt_join (toV_of ho) h1 hbase
    (by rw [hs]; rfl) hline (by rw [hs]; rfl) rfl
  refine pe_imp h fun σ H Q ⟨ob, F, s, r, R, e, p⟩ => ?_
  rw [hK]
  refine step R e p fun x s1 u F1 H1 e1 R1 m1 q1 e2 p1 => ?_
  have e3 : (if isStr x = true then bnd (evA C.Γ [c1] s1) fun l s => ((dats l).bind fun ds => txop .join x ds).map fun d => Mi.R.ok (Ro.fr (.val d)) s else none) = some r := e2
  clear e2
  split at e3
  · rename_i hx
    obtain ⟨a, rfl⟩ := str_case hx
    have hu := rep_str q1
    subst hu
    refine ⟨rfl, ?_⟩
    refine step R1 e3 p1 fun l s2 us F2 H2 e4 R2 m2 q2 e5 p2 => ?_
    cases ed : dats l with
    | none => rw [ed] at e5; cases e5
    | some ds =>
      rw [ed, Option.bind_some] at e5
      have e5 : (joinop a ds).map (fun d => Mi.R.ok (Ro.fr (.val d)) s2) = some r := e5
      cases ej : joinop a ds with
      | none => rw [ej] at e5; cases e5
      | some d =>
        rw [ej] at e5; cases e5
        obtain ⟨ys, zs, rfl, h1, h2, rfl⟩ := join_case ej
        cases RAs.dats q2 ed with
        | cons r1 r2 =>
          cases r2
          cases r1 with
          | lst q3 q4 =>
            have hv := q4.txts h1
            subst hv
            exact ⟨a, _, zs, rfl, rfl, .inl (.inl (.inl (R2.sub _ _ q3))), h2, post_val p2 R2 (.str _)⟩
  · cases e3
end
end Mi
namespace Mi
open PySem PySem.Spec PyProof.Rows L2
/-! ### calls: arguments and answers in the heap -/
section
variable (K : PySem.W.Frag) (ca : Nat → Addr) (F H : Hp)
def CG (u : V) : Cl → Prop
  | .val d => Rep K ca F u d
  | .lst xs => ∃ a vs, u = .ref a ∧ H a = some (.lst vs) ∧ Reps K ca F vs xs ∧ F a = none
  | .dct ks xs => ∃ a vs, u = .ref a ∧ H a = some (.dK ((ks.map Sum.inr).zip vs)) ∧ ks.Nodup ∧ vs.length = ks.length ∧ Reps K ca F vs xs ∧ F a = none
  | _ => False
def cadr (u : V) (c : Cl) : List Addr := match u, c.own with
  | .ref a, true => [a]
  | _, _ => []
def CGs : List V → List Cl → List Addr → Prop
  | [], [], fp => fp = []
  | u :: us, c :: cs, fp => ∃ f, CG K ca F H u c ∧ fp = cadr u c ++ f ∧ CGs us cs f
  | _, _, _ => False
def AgR (u : V) : Ag → List Addr → Prop
  | .cl c, fp => CG K ca F H u c ∧ fp = cadr u c
  | .obj c xs, fp => ∃ a dx vs f, u = .ref a ∧ H a = some (.ins (ca c) dx ((flds c).zip vs)) ∧ F a = none ∧ vs.length ≤ (flds c).length ∧ CGs K ca F H vs xs f ∧ fp = a :: f
def AgsR : List V → List Ag → List Addr → Prop
  | [], [], fp => fp = []
  | u :: us, g :: gs, fp => ∃ f1 f2, AgR K ca F H u g f1 ∧ fp = f1 ++ f2 ∧ AgsR us gs f2
  | _, _, _ => False
/-- what was lent, as it comes back -/
def OutR : List V → List Ag → List Ag → List Addr → Prop
  | [], [], _, fo => fo = []
  | u :: us, .cl c :: gs, os, fo => if c.own = true then ∃ c' os' f, os = .cl c' :: os' ∧ CG K ca F H u c' ∧ fo = cadr u c' ++ f ∧ OutR us gs os' f else ∃ o os', os = o :: os' ∧ OutR us gs os' fo
  | u :: us, .obj c xs :: gs, os, fo => ∃ xs' os' f1 f2, os = .obj c xs' :: os' ∧ AgR K ca F H u (.obj c xs') f1 ∧ fo = f1 ++ f2 ∧ OutR us gs os' f2
  | _, _, _, _ => False
end
def PostF (K : PySem.W.Frag) (ca cv : Nat → Addr) (F H : Hp) (vs : List V) (ags : List Ag) (fp : List Addr) (Q : VK) (E : XK) : FR → Prop
  | .ok res outs => ∀ (u : V) (F' H' : Hp) (fo fr : List Addr), Ex (· ∈ fp) F H F' H' → OutR K ca F' H' vs ags outs fo → AgR K ca F' H' u res fr → (fo ++ fr).Nodup → (∀ a ∈ fo ++ fr, F' a = none ∧ (a ∈ fp ∨ H a = none)) → Q u H'
  | .ex c => ∀ (F' H' : Hp), Ex (· ∈ fp) F H F' H' → E (.ref (cv c)) none H'
/-- the promise of a def that does what g says -/
def spG (K : PySem.W.Frag) (ca cv : Nat → Addr) (np : Nat) (g : List Ag → Option FR) : Sp := fun vs H Q E => ∃ (F : Hp) (ags : List Ag) (fp : List Addr) (r : FR), Same F H ∧ AgsR K ca F H vs ags fp ∧ fp.Nodup ∧ (∀ a ∈ fp, F a = none) ∧ vs.length = np ∧ g ags = some r ∧ PostF K ca cv F H vs ags fp Q E r
section
variable {C : Cn} {ob : Option OB} {F F' H H' : Hp} {σ : L2.St} {s s' : S}
theorem cadr_own {u : V} {c : Cl} {a : Addr} (h : a ∈ cadr u c) : c.own = true ∧ u = .ref a := by
  unfold cadr at h
  split at h
  · rename_i b hc
    rw [List.mem_singleton] at h
    subst h
    exact ⟨hc, rfl⟩
  · cases h
theorem cadr_of {c : Cl} {a : Addr} (h : c.own = true) : cadr (.ref a) c = [a] := by
  unfold cadr
  rw [h]
theorem cadr_no {u : V} {c : Cl} (h : c.own = false) : cadr u c = [] := by
  unfold cadr
  rw [h]
  cases u <;> rfl
theorem CR.cg {o : V} {c : Cl} (h : CR C F H (some o) c) (hf : c.fz.isSome = true) : CG C.K C.ca F H o c := by
  cases c with
  | val d => obtain ⟨v, e, r⟩ := h; cases e; exact r
  | lst xs => obtain ⟨a, vs, e, h1, h2, h3, _⟩ := h; cases e; exact ⟨a, vs, rfl, h1, h2, h3⟩
  | dct ks xs => obtain ⟨a, vs, e, h1, n, l, h2, h3, _⟩ := h; cases e; exact ⟨a, vs, rfl, h1, n, l, h2, h3⟩
  | _ => cases hf
theorem CG.cr {u : V} {c : Cl} (h : CG C.K C.ca F H u c) (hf : ∀ a ∈ cadr u c, C.Fr a) : CR C F H (some u) c ∧ c.fz.isSome = true := by
  cases c with
  | val d => exact ⟨⟨u, rfl, h⟩, rfl⟩
  | lst xs => obtain ⟨a, vs, rfl, h1, h2, h3⟩ := h; exact ⟨⟨a, vs, rfl, h1, h2, h3, hf a (by rw [cadr_of rfl]; exact List.mem_singleton.mpr rfl)⟩, rfl⟩
  | dct ks xs => obtain ⟨a, vs, rfl, h1, n, l, h2, h3⟩ := h; exact ⟨⟨a, vs, rfl, h1, n, l, h2, h3, hf a (by rw [cadr_of rfl]; exact List.mem_singleton.mpr rfl)⟩, rfl⟩
  | _ => exact h.elim
theorem own_fz {c : Cl} (h : c.own = true) : c.fz.isSome = true := by cases c <;> first | rfl | cases h
/-- the arguments as the callee sees them -/
theorem args_ags (R : SR C ob F H σ s) : ∀ {us : List V} {l : List Aa}, RAs C ob F σ us l → (rfs l).Nodup → (∀ i ∈ rfs l, (gt s i).own = true) →
    ∃ fp, AgsR C.K C.ca F H us (l.map (Aa.ag s)) fp ∧ fp.Nodup ∧ ∀ a ∈ fp, F a = none ∧ C.Fr a ∧ ∃ i ∈ rfs l, vAt C σ ob i = some (.ref a)
  | [], [], _, _, _ => ⟨[], rfl, List.nodup_nil, fun _ h => nomatch h⟩
  | u :: us, .d x :: l, h, nd, ho => by
    obtain ⟨fp, h1, h2, h3⟩ := args_ags R (us := us) (l := l) h.2 nd ho
    exact ⟨fp, ⟨[], fp, ⟨h.1, (cadr_no rfl).symm⟩, rfl, h1⟩, h2, h3⟩
  | u :: us, .rf i :: l, h, nd, ho => by
    have nd' : i ∉ rfs l ∧ (rfs l).Nodup := List.nodup_cons.mp nd
    obtain ⟨fp, h1, h2, h3⟩ := args_ags R (us := us) (l := l) h.2 nd'.2 fun j hj => ho j (List.mem_cons_of_mem _ hj)
    have hi : (gt s i).own = true := ho i List.mem_cons_self
    have hu : vAt C σ ob i = some u := h.1
    have cr := R.cr i
    rw [hu] at cr
    obtain ⟨a, e, q1, q2, q3⟩ := cr.own_at hi
    cases e
    refine ⟨a :: fp, ⟨[a], fp, ⟨cr.cg (own_fz hi), (cadr_of hi).symm⟩, rfl, h1⟩, List.nodup_cons.mpr ⟨fun hm => ?_, h2⟩, fun b hb => ?_⟩
    · obtain ⟨_, _, j, hj, hv⟩ := h3 a hm
      have := R.inj i j a hi (ho j (List.mem_cons_of_mem _ hj)) hu hv
      subst this
      exact nd'.1 hj
    · rcases List.mem_cons.mp hb with rfl | hb
      · exact ⟨q1, q2, i, List.mem_cons_self, hu⟩
      · obtain ⟨z1, z2, j, hj, hv⟩ := h3 b hb
        exact ⟨z1, z2, j, List.mem_cons_of_mem _ hj, hv⟩
  | [], _ :: _, h, _, _ => h.elim
  | _ :: _, [], h, _, _ => h.elim
theorem back_len : ∀ (l : List Aa) (outs : List Ag), (back s l outs).length = s.length
  | .rf i :: l, .cl c :: r => by unfold back; rw [List.length_set, back_len l r]
  | .rf i :: l, .obj c xs :: r => by unfold back; exact back_len l r
  | .d x :: l, _ :: r => by unfold back; exact back_len l r
  | [], _ => by unfold back; rfl
  | .rf i :: l, [] => by unfold back; rfl
  | .d x :: l, [] => by unfold back; rfl
theorem back_gt (R : SR C ob F H σ s) : ∀ {us : List V} {l : List Aa} {outs : List Ag} {fo : List Addr}, RAs C ob F σ us l → (rfs l).Nodup → (∀ i ∈ rfs l, (gt s i).own = true) → OutR C.K C.ca F' H' us (l.map (Aa.ag s)) outs fo → ∀ j,
    (j ∉ rfs l → gt (back s l outs) j = gt s j) ∧ (j ∈ rfs l → ∃ u c, gt (back s l outs) j = c ∧ vAt C σ ob j = some u ∧ CG C.K C.ca F' H' u c ∧ ∀ a ∈ cadr u c, a ∈ fo)
  | [], [], outs, fo, _, _, _, _, j => ⟨fun _ => by unfold back; rfl, fun h => nomatch h⟩
  | u :: us, .d x :: l, outs, fo, h, nd, ho, ou, j => by
    have ou2 : (if (Cl.val x).own = true then _ else ∃ o os', outs = o :: os' ∧ OutR C.K C.ca F' H' us (l.map (Aa.ag s)) os' fo) := ou
    clear ou
    rw [if_neg (by intro z; cases z)] at ou2
    obtain ⟨o, os', rfl, ou3⟩ := ou2
    have e : back s (.d x :: l) (o :: os') = back s l os' := by rw [back]; intros; contradiction
    rw [e]
    exact back_gt R (us := us) (l := l) h.2 nd ho ou3 j
  | u :: us, .rf i :: l, outs, fo, h, nd, ho, ou, j => by
    have nd' : i ∉ rfs l ∧ (rfs l).Nodup := List.nodup_cons.mp nd
    have hi : (gt s i).own = true := ho i List.mem_cons_self
    have hu : vAt C σ ob i = some u := h.1
    have ou2 : (if (gt s i).own = true then ∃ c' os' f, outs = .cl c' :: os' ∧ CG C.K C.ca F' H' u c' ∧ fo = cadr u c' ++ f ∧ OutR C.K C.ca F' H' us (l.map (Aa.ag s)) os' f else _) := ou
    clear ou
    rw [if_pos hi] at ou2
    obtain ⟨c', os', f, rfl, g, rfl, ou3⟩ := ou2
    have e : back s (.rf i :: l) (.cl c' :: os') = (back s l os').set i c' := by rw [back]
    rw [e]
    obtain ⟨h1, h2⟩ := back_gt R (us := us) (l := l) h.2 nd'.2 (fun j hj => ho j (List.mem_cons_of_mem _ hj)) ou3 j
    have lt : i < (back s l os').length := by rw [back_len]; exact gt_lt fun z => by rw [z] at hi; cases hi
    rw [gt_set]
    refine ⟨fun hj => ?_, fun hj => ?_⟩
    · have : ¬ (i = j ∧ i < (back s l os').length) := fun z => hj (by rw [← z.1]; exact List.mem_cons_self)
      rw [if_neg this]
      exact h1 fun z => hj (List.mem_cons_of_mem _ z)
    · rcases List.mem_cons.mp hj with rfl | hj
      · rw [if_pos ⟨rfl, lt⟩]
        exact ⟨u, c', rfl, hu, g, fun a ha => List.mem_append_left _ ha⟩
      · have : ¬ (i = j ∧ i < (back s l os').length) := fun z => nd'.1 (by rw [z.1]; exact hj)
        rw [if_neg this]
        obtain ⟨u', c, e1, e2, e3, e4⟩ := h2 hj
        exact ⟨u', c, e1, e2, e3, fun a ha => List.mem_append_right _ (e4 a ha)⟩
  | [], _ :: _, _, _, h, _, _, _, _ => h.elim
  | _ :: _, [], _, _, h, _, _, _, _ => h.elim
/-- behind a call: the lent slots hold what came back -/
theorem SR.after (R : SR C ob F H σ s) {fp fo : List Addr} {is : List Nat} (x : Ex (· ∈ fp) F H F' H') (hfp : ∀ a ∈ fp, F a = none ∧ C.Fr a ∧ ∃ i ∈ is, vAt C σ ob i = some (.ref a)) (ho : ∀ i ∈ is, (gt s i).own = true)
    (hfo : ∀ a ∈ fo, F' a = none ∧ (a ∈ fp ∨ H a = none)) (h1 : ∀ j, j ∉ is → gt s' j = gt s j) (h2 : ∀ j, j ∈ is → (∃ u c, gt s' j = c ∧ vAt C σ ob j = some u ∧ CG C.K C.ca F' H' u c ∧ ∀ a ∈ cadr u c, a ∈ fo) ∨ (gt s' j = .un ∧ j < C.n)) : SR C ob F' H' σ s' := by
  have fr : ∀ a, a ∈ fo → C.Fr a := fun a ha => by
    rcases (hfo a ha).2 with z | z
    · exact (hfp a z).2.1
    · exact R.fr_new z
  have apart : ∀ j a, j ∉ is → (gt s j).own = true → vAt C σ ob j = some (.ref a) → a ∉ fp := fun j a hj h3 h4 hm => by
    obtain ⟨_, _, i, hi, hv⟩ := hfp a hm
    exact hj (by rw [R.inj j i a h3 (ho i hi) h4 hv]; exact hi)
  have back_own : ∀ j, (gt s' j).own = true → (gt s j).own = true := fun j hj => by
    by_cases hm : j ∈ is
    · exact ho j hm
    · rw [← h1 j hm]; exact hj
  refine ⟨R.ex.trans x fun a ha => (hfp a ha).2.1, R.len, fun j => ?_, fun j k b q1 q2 q3 q4 => R.inj j k b (back_own j q1) (back_own k q2) q3 q4, R.lk, fun h j hj => ?_, fun o h => ?_, R.mo⟩
  · by_cases hm : j ∈ is
    · rcases h2 j hm with ⟨u, c, e1, e2, e3, e4⟩ | ⟨e1, _⟩
      · rw [e1, e2]
        exact (e3.cr fun a ha => fr a (e4 a ha)).1
      · rw [e1]; trivial
    · rw [h1 j hm]
      refine (R.cr j).mono x.sub fun a q1 q2 => ?_
      have na := apart j a hm q1 q2
      obtain ⟨z1, z2, ⟨vs, z3⟩ | ⟨vs, z3⟩⟩ := R.own_some q1 q2 <;> exact ⟨x.frz a (by rw [z3]; intro z; cases z) na, (x.keep a _ z3 na).trans z3.symm⟩
  · by_cases hm : j ∈ is
    · have := ho j hm
      rw [R.ob0 h j hj] at this; cases this
    · rw [h1 j hm]; exact R.ob0 h j hj
  · obtain ⟨q1, q2, q3, q4, q5, q6, q7⟩ := R.ob1 o h
    have na : o.a ∉ fp := fun hm => by
      obtain ⟨_, _, i, hi, hv⟩ := hfp _ hm
      exact R.own_ob (ho i hi) hv h rfl
    refine ⟨x.keep _ _ q1 na, (x.frz _ (by rw [q1]; intro z; cases z) na).trans q2, q3, q4, fun j hj => ?_, fun j hj => ?_, q7⟩
    · by_cases hm : C.n + j ∈ is
      · have := ho _ hm
        rw [q5 j hj] at this; cases this
      · rw [h1 _ hm]; exact q5 j hj
    · by_cases hm : C.n + j ∈ is
      · rcases h2 _ hm with ⟨u, c, e1, e2, e3, e4⟩ | ⟨_, e2⟩
        · rw [e1]
          rintro rfl
          exact e3
        · omega
      · rw [h1 _ hm]; exact q6 j hj
theorem lose_gt : ∀ (is : List Nat) (j : Nat), (j ∉ is → gt (lose s is) j = gt s j) ∧ (j ∈ is → (∀ i ∈ is, i < s.length) → gt (lose s is) j = .un)
  | [], j => ⟨fun _ => rfl, fun h => nomatch h⟩
  | i :: r, j => by
    have ll : ∀ is : List Nat, (lose s is).length = s.length := fun is => by
      induction is with
      | nil => rfl
      | cons i r ih => unfold lose; rw [List.length_set, ih]
    obtain ⟨h1, h2⟩ := lose_gt r j
    unfold lose
    rw [gt_set]
    refine ⟨fun hj => ?_, fun hj hl => ?_⟩
    · rw [if_neg fun z => hj (by rw [← z.1]; exact List.mem_cons_self)]
      exact h1 fun z => hj (List.mem_cons_of_mem _ z)
    · by_cases e : i = j
      · rw [if_pos ⟨e, by rw [ll]; exact hl i List.mem_cons_self⟩]
      · rw [if_neg fun z => e z.1]
        rcases List.mem_cons.mp hj with z | z
        · exact absurd z.symm e
        · exact h2 z fun k hk => hl k (List.mem_cons_of_mem _ hk)
end
/-- what is known of a def that is called -/
def FnF (X : Cx) (C : Cn) (k : Nat) (f : Nat) (x : Str) (np : Nat) : Prop := ∃ (fa : Addr) (fd : FuncData) (ps : List Str), X.mg x = some (.ref fa) ∧ PySem.W.keepIn X.K (.ref fa) = true ∧ Binds X.K fd ps [] ∧ FnOk X.prog X.w X.K X.mg X.base (L2.CX X.prog X.w) k fa fd ps (spG C.K C.ca C.cv np (C.Γ f))
section
variable {X : Cx} {C : Cn} {W : WX} {e : Expr} {es : List Expr} {cs : List CE} {x : Str} {p pos : Pos} {f k : Nat}
/-- the step of a call, by the promise -/
theorem call_run {np : Nat} (hn : ∀ (s : S) (l : List Aa) (s1 : S), evA C.Γ cs s = some (.ok l s1) → l.length = np) (hg : ∀ i ∈ cs.filterMap isR, i < C.n)
    {σ : L2.St} {H : Hp} {Q : VK} (h : tE C W (.call f cs) σ H Q) (hrf : ∀ (s : S) (l : List Aa) (s1 : S), evA C.Γ cs s = some (.ok l s1) → rfs l = cs.filterMap isR) :
    tA C W cs σ H fun vs H1 => spG C.K C.ca C.cv np (C.Γ f) vs H1 Q (WE W σ) := by
  obtain ⟨ob, F, s, r, R, e, p⟩ := h
  refine step R e p fun l s1 us F1 H1 e1 R1 m1 q1 e2 p1 => ?_
  have e3 : (if (rfs l).Nodup ∧ ((rfs l).all fun i => (gt s1 i).own) = true then
      (match C.Γ f (l.map (Aa.ag s1)) with
      | some (.ok (.cl c) outs) => if c.fz.isSome then some (Mi.R.ok (Ro.fr c) (back s1 l outs)) else none
      | some (.ex c) => some (Mi.R.ex c (lose s1 (rfs l)))
      | _ => none) else none) = some r := e2
  clear e2
  split at e3
  · rename_i hc
    obtain ⟨nd, ho⟩ := hc
    have ho : ∀ i ∈ rfs l, (gt s1 i).own = true := List.all_eq_true.mp ho
    obtain ⟨fp, a1, a2, a3⟩ := args_ags R1 q1 nd ho
    cases er : C.Γ f (l.map (Aa.ag s1)) with
    | none => rw [er] at e3; cases e3
    | some fr =>
      rw [er] at e3
      refine ⟨F1, _, fp, fr, R1.sub, a1, a2, fun a ha => (a3 a ha).1, by rw [RAs.length q1]; exact hn s l s1 e1, er, ?_⟩
      cases fr with
      | ok res outs =>
        cases res with
        | obj c xs => cases e3
        | cl c =>
          have e4 : (if c.fz.isSome = true then some (Mi.R.ok (Ro.fr c) (back s1 l outs)) else none) = some r := e3
          clear e3
          split at e4
          · rename_i hf
            cases e4
            intro u F' H' fo fr x ou ag nd2 hfo
            have bg := back_gt R1 q1 nd ho ou
            have R2 : SR C ob F' H' σ (back s1 l outs) := R1.after x (is := rfs l) (fo := fo) a3 ho (fun a ha => hfo a (List.mem_append_left _ ha)) (fun j hj => (bg j).1 hj) fun j hj => .inl ((bg j).2 hj)
            refine p1 u F' H' R2 x.sub ?_
            obtain ⟨g1, g2⟩ := ag
            subst g2
            have fr' : ∀ a ∈ cadr u c, C.Fr a := fun a ha => by
              rcases (hfo a (List.mem_append_right _ ha)).2 with z | z
              · exact (a3 a z).2.1
              · exact R1.fr_new z
            obtain ⟨g3, g4⟩ := g1.cr fr'
            refine ⟨g3, g4, fun hc j hj hv => ?_⟩
            obtain ⟨a, e, _⟩ := g3.own_at hc
            cases e
            have hm : a ∈ cadr (.ref a) c := by rw [cadr_of hc]; exact List.mem_singleton.mpr rfl
            by_cases hjl : j ∈ rfs l
            · obtain ⟨u', c', z1, z2, z3, z4⟩ := (bg j).2 hjl
              rw [z2] at hv; cases hv
              have hown : c'.own = true := by rw [← z1]; exact hj
              have := z4 a (by rw [cadr_of hown]; exact List.mem_singleton.mpr rfl)
              exact (List.nodup_append.mp nd2).2.2 a this a hm rfl
            · have z1 := (bg j).1 hjl
              rw [z1] at hj
              obtain ⟨w1, w2, w3⟩ := R1.own_some hj hv
              rcases (hfo a (List.mem_append_right _ hm)).2 with z | z
              · obtain ⟨_, _, i, hi, hv2⟩ := a3 a z
                exact hjl (by rw [R1.inj j i a hj (ho i hi) hv hv2]; exact hi)
              · rcases w3 with ⟨vs, w3⟩ | ⟨vs, w3⟩ <;> rw [z] at w3 <;> cases w3
          · cases e4
      | ex c =>
        cases e3
        intro F' H' x
        have hl : ∀ i ∈ rfs l, i < s1.length := fun i hi => gt_lt fun z => by have := ho i hi; rw [z] at this; cases this
        exact p1 F' H' (R1.after x (is := rfs l) (fo := []) a3 ho (fun _ h => nomatch h) (fun j hj => (lose_gt (rfs l) j).1 hj) fun j hj => .inr ⟨(lose_gt (rfs l) j).2 hj hl, hg j (by rw [← hrf s l s1 e1]; exact hj)⟩) x.sub
  · cases e3
theorem evA_rfs {Γ : Env} : ∀ {es : List CE} {s s' : S} {l : List Aa}, evA Γ es s = some (.ok l s') → rfs l = es.filterMap isR
  | [], s, s', l, h => by cases h; rfl
  | e :: r, s, s', l, h => by
    unfold evA at h
    cases hr : isR e with
    | some i =>
      rw [hr] at h
      dsimp only at h
      split at h
      · cases e1 : evA Γ r s with
        | none => rw [e1] at h; cases h
        | some q =>
          rw [e1] at h
          cases q with
          | ex c s1 => cases h
          | ok l1 s1 => cases h; rw [List.filterMap_cons, hr]; show i :: rfs l1 = _; rw [evA_rfs e1]
      · cases h
    | none =>
      rw [hr] at h
      dsimp only at h
      cases e0 : toV ((evP Γ e).1 s) with
      | none => rw [e0] at h; cases h
      | some q =>
        rw [e0] at h
        cases q with
        | ex c s1 => cases h
        | ok d s1 =>
          rw [bnd_ok] at h
          cases e1 : evA Γ r s1 with
          | none => rw [e1] at h; cases h
          | some q =>
            rw [e1] at h
            cases q with
            | ex c s1 => cases h
            | ok l1 s1 => cases h; rw [List.filterMap_cons, hr]; show rfs l1 = _; rw [evA_rfs e1]
theorem qe_call (Fn : FnF X C k f x cs.length) (hr : Room k X.A) (hg : Gl X x) (tk : Takes X W) (ha : PA X (e :: es) (tA C W cs)) (hn : ∀ i ∈ cs.filterMap isR, i < C.n)
    (hdb : (x == ("__debug__" : Str)) = false) (he : starEach (e :: es) X.env = (false, eval e X.env) :: starEach es X.env) (hpl : (backTo pos (starEach es X.env)).any (·.1) = false) : PE X (.Call (.Name x p) (e :: es) [] pos) (tE C W (.call f cs)) := by
  obtain ⟨fa, fd, ps, h1, h2, h3, h4⟩ := Fn
  refine pe_imp (pe_callS h4 hr hg h1 h2 h3 (fun σ => passAt tk σ) ha hdb he hpl) fun σ H Q h => ?_
  exact call_run (fun s l s1 e1 => evA_len e1) hn h (fun s l s1 e1 => evA_rfs e1)
/-- no arguments -/
theorem qe_call0 (Fn : FnF X C k f x 0) (hr : Room k X.A) (hg : Gl X x) (tk : Takes X W) (hdb : (x == ("__debug__" : Str)) = false) : PE X (.Call (.Name x p) [] [] pos) (tE C W (.call f [])) := by
  obtain ⟨fa, fd, ps, h1, h2, h3, h4⟩ := Fn
  refine ⟨fun pins s σ H Q I h => ?_⟩
  refine wpAny_Call_Name_kw (ld_glob I hg h1 ?_ hdb)
  obtain ⟨ob, F, s1, r, R, e, p⟩ := call_run (cs := []) (fun s l s1 e1 => evA_len e1) (fun _ h => nomatch h) h (fun s l s1 e1 => evA_rfs e1)
  cases e
  exact PySem.W.callWith_K0 I.kIn h2 (run_fnS (us := []) h4 hr h3 (passAt tk σ) I .nil (p [] F H R (same_refl F) trivial))
end
end Mi
namespace Mi
open PySem PySem.Spec PyProof.Rows L2
/-! ### what is walked -/
/-- J yields the things of ds, one after the other, while F stands -/
structure Walks (C : Cn) (F : Hp) (J : L2.It) (ds : List D) : Prop where
  go : ∀ (i : Nat) (H : Hp), Same F H → i < ds.length → J.go i H
  stop : ∀ (i : Nat) (H : Hp), Same F H → ds.length ≤ i → J.stop i H
  yld : ∀ (i : Nat) (H : Hp) (x : V) (H' : Hp), Same F H → i < ds.length → J.yld i H x H' → H' = H ∧ ∃ d, ds[i]? = some d ∧ Rep C.K C.ca F x d
def tI (C : Cn) (W : WX) (m : S → Option (R (List D))) : L2.TI := fun σ H Q => tR (β := L2.It) C W m (fun ob F H σ s J ds => Walks C F J ds) σ H Q
section
variable {X : Cx} {C : Cn} {W : WX} {e tg : Expr} {c : CE}
theorem pi_imp {t t' : L2.TI} (h : PI X tg e t) (k : ∀ σ H Q, t' σ H Q → t σ H Q) : PI X tg e t' := ⟨fun pins s σ H Q I q => h.run pins s σ H Q I (k σ H Q q)⟩
/-- a list, a tuple, a text -/
def iAny (K : PySem.W.Frag) (tl : TE) : L2.TI := fun σ H R => tl σ H fun x H1 => (∃ a xs, x = .ref a ∧ SqL K H1 a xs ∧ R (Itl K a) H1) ∨ (∃ a xs, x = .ref a ∧ SqT K H1 a xs ∧ R (Itt K a) H1) ∨ ∃ z, x = .str z ∧ R (Its z) H1
theorem pi_any {l : Expr} {tl : TE} (hl : PE X l tl) : PI X tg l (iAny X.K tl) := by
  refine ⟨fun pins s σ H R I h => ?_⟩
  refine thn (hl.run pins s σ H _ I h) fun v s1 ⟨x, H1, I1, r1, q1⟩ => ?_
  rcases q1 with ⟨a, xs, e, hq, q⟩ | ⟨a, xs, e, hq, q⟩ | ⟨z, e, q⟩
  · subst e
    cases r1
    obtain ⟨its, rv, p, hz⟩ := I1.list hq
    refine wpAny_pyIter_list p.isList ?_
    refine ⟨s1.heap.objs.size, [s1.heap.objs.size], _, _, H1, rfl, I1.kept (t' := s1.toks) fun b o e => Heap.get?_push_of_some _ e, turn_list a _, ⟨_, Heap.get?_push_size _ rfl, rfl, rfl⟩, fun b hb => ?_, q⟩
    have e : b = s1.heap.objs.size := by simpa using hb
    subst e
    exact I1.fpOk (Nat.le_refl _) (I1.hok.fresh (Nat.le_refl _))
  · subst e
    cases r1
    obtain ⟨its, rv, p, hz⟩ := I1.tuple hq
    refine wpAny_pyIter_tuple (show s1.heap.IsTuple a its.toArray from p) ?_
    refine ⟨s1.heap.objs.size, [s1.heap.objs.size], _, _, H1, rfl, I1.kept (t' := s1.toks) fun b o e => Heap.get?_push_of_some _ e, turn_tuple a _, ⟨_, Heap.get?_push_size _ rfl, rfl, rfl⟩, fun b hb => ?_, q⟩
    have e : b = s1.heap.objs.size := by simpa using hb
    subst e
    exact I1.fpOk (Nat.le_refl _) (I1.hok.fresh (Nat.le_refl _))
  · subst e
    obtain ⟨t, rfl⟩ := r1
    cases ha : z.cps.all (· < 128)
    · exact wpAny_pyIter_wide ha (pi_one (tk := s1.toks) I1 _ (turn_str _ z t "str_iterator" (.inr rfl)) ⟨_, Heap.get?_push_size _ rfl, rfl, rfl⟩ q)
    · exact wpAny_pyIter_ascii ha (pi_one (tk := s1.toks) I1 _ (turn_str _ z t "str_ascii_iterator" (.inl rfl)) ⟨_, Heap.get?_push_size _ rfl, rfl, rfl⟩ q)
theorem walks_list {F : Hp} {a : Addr} {vs : List V} {ds : List D} (h : SqL C.K F a vs) (r : Reps C.K C.ca F vs ds) : Walks C F (Itl C.K a) ds := by
  refine ⟨fun i H m hi => ?_, fun i H m hi => ⟨vs, sqL_mono m h, by rw [r.length]; exact hi⟩, fun i H x H' m hi y => ?_⟩
  · have : i < vs.length := by rw [r.length]; exact hi
    exact ⟨vs, vs[i], sqL_mono m h, List.getElem?_eq_getElem this⟩
  · obtain ⟨e, y⟩ := y
    obtain ⟨d, h1, h2⟩ := r.getV (y vs (sqL_mono m h))
    exact ⟨e, d, h1, h2⟩
theorem walks_tup {F : Hp} {a : Addr} {vs : List V} {ds : List D} (h : SqT C.K F a vs) (r : Reps C.K C.ca F vs ds) : Walks C F (Itt C.K a) ds := by
  refine ⟨fun i H m hi => ?_, fun i H m hi => ⟨vs, sqT_mono m h, by rw [r.length]; exact hi⟩, fun i H x H' m hi y => ?_⟩
  · have : i < vs.length := by rw [r.length]; exact hi
    exact ⟨vs, vs[i], sqT_mono m h, List.getElem?_eq_getElem this⟩
  · obtain ⟨e, y⟩ := y
    obtain ⟨d, h1, h2⟩ := r.getV (y vs (sqT_mono m h))
    exact ⟨e, d, h1, h2⟩
theorem walks_str {F : Hp} {z : Str} : Walks C F (Its z) (signs z) := by
  have len : (signs z).length = z.cps.size := by unfold signs; rw [List.length_map, Array.length_toList]
  refine ⟨fun i H m hi => by rw [len] at hi; exact hi, fun i H m hi => by rw [len] at hi; exact hi, fun i H x H' m hi y => ?_⟩
  obtain ⟨e, c, h1, h2⟩ := y
  refine ⟨e, .str ⟨#[c]⟩, ?_, by rw [h2]; exact .str _⟩
  unfold signs
  rw [List.getElem?_map, Array.getElem?_toList, h1]
  rfl
theorem walks_rng {F : Hp} (lo hi : Int) : Walks C F (Itr lo (hi - lo).toNat) (rangeD lo hi) := by
  have len : (rangeD lo hi).length = (hi - lo).toNat := by unfold rangeD; rw [List.length_map, List.length_range]
  refine ⟨fun i H m h => by rw [len] at h; exact h, fun i H m h => by rw [len] at h; exact h, fun i H x H' m hi y => ?_⟩
  obtain ⟨e, y⟩ := y
  rw [len] at hi
  refine ⟨e, .int (lo + i), ?_, by rw [y]; exact .int _⟩
  unfold rangeD
  rw [List.getElem?_map, List.getElem?_range hi]
  rfl
theorem walks_rev {F : Hp} {a : Addr} {vs : List V} {ds : List D} (h : SqL C.K F a vs) (r : Reps C.K C.ca F vs ds) : Walks C F (Itv C.K a vs.length) ds.reverse := by
  have l := r.length
  refine ⟨fun i H m hi => ?_, fun i H m hi => by rw [List.length_reverse, ← l] at hi; exact hi, fun i H x H' m hi y => ?_⟩
  · rw [List.length_reverse, ← l] at hi
    have : vs.length - 1 - i < vs.length := by omega
    exact ⟨hi, vs, vs[vs.length - 1 - i], sqL_mono m h, List.getElem?_eq_getElem this⟩
  · obtain ⟨e, y⟩ := y
    obtain ⟨d, h1, h2⟩ := r.getV (y vs (sqL_mono m h))
    rw [List.length_reverse] at hi
    refine ⟨e, d, ?_, h2⟩
    rw [List.getElem?_reverse hi, ← l]
    exact h1
theorem src_step {m : S → Option (R Ro)} {f : D → Option (List D)} {ob : Option OB} {F H : Hp} {σ : L2.St} {s : S} {r : R (List D)} {rel : Option OB → Hp → Hp → L2.St → S → L2.It → List D → Prop} {Q : L2.It → Hp → Prop} {Q1 : VK}
    (R : SR C ob F H σ s) (e : srcOf f (m s) = some r) (p : Post C W ob F σ rel Q r)
    (h : ∀ (d : D) (ds : List D) (s1 : S) (u : V) (F1 H1 : Hp), SR C ob F1 H1 σ s1 → Same F F1 → Rep C.K C.ca F1 u d → f d = some ds → (∀ (J : L2.It), rel ob F1 H1 σ s1 J ds → Q J H1) → Q1 u H1) : tR C W (fun s => toV (m s)) (RV C) σ H Q1 := by
  refine step R e p fun d s1 u F1 H1 e1 R1 m1 q1 e2 p1 => ?_
  cases eg : f d with
  | none => rw [eg] at e2; cases e2
  | some ds =>
    rw [eg] at e2; cases e2
    exact h d ds s1 u F1 H1 R1 m1 q1 eg fun J hj => p1 J F1 H1 R1 (same_refl F1) hj
theorem qi_seq (hK : X.K = C.K) (h : PE X e (tE C W c)) : PI X tg e (tI C W fun s => srcOf (forItems .seq) (ev C.Γ c s)) := by
  refine pi_imp (pi_any (toV_of h)) fun σ H Q ⟨ob, F, s, r, R, er, p⟩ => ?_
  rw [hK]
  refine src_step R er p fun d ds s1 u F1 H1 R1 m1 q1 eg k => ?_
  cases q1 with
  | str x => cases eg; exact .inr (.inr ⟨x, rfl, k _ walks_str⟩)
  | tup q3 q4 => cases eg; exact .inr (.inl ⟨_, _, rfl, .inl (.inl (R1.sub _ _ q3)), k _ (walks_tup (.inl (.inl q3)) q4)⟩)
  | lst q3 q4 => cases eg; exact .inl ⟨_, _, rfl, .inl (.inl (R1.sub _ _ q3)), k _ (walks_list (.inl (.inl q3)) q4)⟩
  | scr q3 => cases eg; exact .inl ⟨_, _, rfl, sqL_mono R1.sub q3, k _ (walks_list q3 (Reps.ints _))⟩
  | _ => cases eg
noncomputable def rngOf (x y : D) (s : S) : Option (R (List D)) := (forItems .rng (.tup [x, y])).map fun ds => .ok ds s
theorem rng_case {x y : D} {s : S} {r : R (List D)} (h : rngOf x y s = some r) : ∃ lo hi, x = .int lo ∧ y = .int hi ∧ (-(2 ^ 62) ≤ lo ∧ lo < 2 ^ 62 ∧ -(2 ^ 62) ≤ hi ∧ hi < 2 ^ 62) ∧ r = .ok (rangeD lo hi) s := by
  unfold rngOf forItems at h
  dsimp only at h
  split at h
  · rename_i lo hi e
    cases e
    split at h
    · rename_i hz; cases h; exact ⟨lo, hi, rfl, rfl, big_iff.mp hz, rfl⟩
    · cases h
  · cases h
theorem evA_none {Γ : Env} {e : CE} {r : List CE} (h : isR e = none) (s : S) : evA Γ (e :: r) s = bnd (toV (ev Γ e s)) fun d s => bnd (evA Γ r s) fun l s => some (.ok (.d d :: l) s) := by
  rw [evA, h]; rfl
theorem evA_nil {Γ : Env} (s : S) : evA Γ [] s = some (.ok [] s) := rfl
theorem rng_eq {Γ : Env} {a b : CE} (ha : isR a = none) (hb : isR b = none) (s : S) : srcOf (forItems .rng) (ev Γ (.tup [a, b]) s) = bnd (toV (ev Γ a s)) fun x s => bnd (toV (ev Γ b s)) fun y s => rngOf x y s := by
  have e1 : ev Γ (.tup [a, b]) s = bnd (evA Γ [a, b] s) fun l s => (dats l).map fun ds => .ok (.fr (.val (.tup ds))) s := rfl
  have e2 : evA Γ [a, b] s = bnd (toV (ev Γ a s)) fun d s => bnd (bnd (toV (ev Γ b s)) fun d s => some (.ok [.d d] s)) fun l s => some (.ok (.d d :: l) s) := by
    rw [evA_none ha]
    congr 1
    funext d s
    rw [evA_none hb]
    rfl
  rw [e1, e2]
  cases q1 : toV (ev Γ a s) with
  | none => rfl
  | some r1 =>
    cases r1 with
    | ex c s1 => rfl
    | ok x s1 =>
      rw [bnd_ok, bnd_ok]
      cases q2 : toV (ev Γ b s1) with
      | none => rfl
      | some r2 =>
        cases r2 with
        | ex c s2 => rfl
        | ok y s2 => rfl
theorem ev_const {Γ : Env} {d : D} {s : S} : toV (ev Γ (.c d) s) = some (.ok d s) := rfl
theorem qi_rng1 {p pos : Pos} {e : Expr} {b : CE} (hb : isR b = none) (hg : Gl X "range") (hm : X.mg "range" = none) (h : PE X e (tE C W b)) (hs : starEach [e] X.env = [(false, eval e X.env)]) : PI X tg (.Call (.Name "range" p) [e] [] pos) (tI C W fun s => srcOf (forItems .rng) (ev C.Γ (.tup [.c (.int 0), b]) s)) := by
  refine pi_imp (pi_range1 hg hm (pa_cons (toV_of h) pa_nil hs) hs) fun σ H Q ⟨ob, F, s, r, R, er, p⟩ => ?_
  have er := (rng_eq rfl hb s).symm.trans er
  rw [ev_const, bnd_ok] at er
  refine step R er p fun y s1 u F1 H1 e1 R1 m1 q1 e2 p1 => ?_
  obtain ⟨lo, hi, h1, rfl, h3, rfl⟩ := rng_case e2
  cases h1
  rw [rep_int q1]
  refine ⟨hi, rfl, h3.2.2.1, h3.2.2.2, p1 _ F1 H1 R1 (same_refl F1) ?_⟩
  have := walks_rng (C := C) (F := F1) 0 hi
  rwa [Int.sub_zero] at this
theorem qi_rng2 {p pos : Pos} {e e' : Expr} {a b : CE} (ha : isR a = none) (hb : isR b = none) (hg : Gl X "range") (hm : X.mg "range" = none) (h : PE X e (tE C W a)) (h' : PE X e' (tE C W b)) (hs : starEach [e, e'] X.env = [(false, eval e X.env), (false, eval e' X.env)]) (hs2 : starEach [e'] X.env = [(false, eval e' X.env)]) :
    PI X tg (.Call (.Name "range" p) [e, e'] [] pos) (tI C W fun s => srcOf (forItems .rng) (ev C.Γ (.tup [a, b]) s)) := by
  refine pi_imp (pi_range2 hg hm (pa_cons (toV_of h) (pa_cons (toV_of h') pa_nil hs2) (by rw [hs, hs2])) hs hs2) fun σ H Q ⟨ob, F, s, r, R, er, p⟩ => ?_
  have er := (rng_eq ha hb s).symm.trans er
  refine step R er p fun x s1 u F1 H1 e1 R1 m1 q1 e2 p1 => ?_
  refine step R1 e2 p1 fun y s2 v F2 H2 e3 R2 m2 q2 e4 p2 => ?_
  obtain ⟨lo, hi, rfl, rfl, h3, rfl⟩ := rng_case e4
  rw [rep_int q1, rep_int q2]
  exact ⟨lo, hi, rfl, h3, p2 _ F2 H2 R2 (same_refl F2) (walks_rng lo hi)⟩
theorem qi_rev {p pos : Pos} {e : Expr} {b : CE} (hK : X.K = C.K) (hg : Gl X "reversed") (hm : X.mg "reversed" = none) (h : PE X e (tE C W b)) (hs : starEach [e] X.env = [(false, eval e X.env)]) : PI X tg (.Call (.Name "reversed" p) [e] [] pos) (tI C W fun s => srcOf (forItems .rvs) (ev C.Γ b s)) := by
  refine pi_imp (pi_reversed hg hm (pa_cons (toV_of h) pa_nil hs) hs) fun σ H Q ⟨ob, F, s, r, R, er, p⟩ => ?_
  rw [hK]
  refine src_step R er p fun d ds s1 u F1 H1 R1 m1 q1 eg k => ?_
  cases q1 with
  | lst q3 q4 => cases eg; exact ⟨_, _, rfl, .inl (.inl (R1.sub _ _ q3)), k _ (walks_rev (.inl (.inl q3)) q4)⟩
  | _ => cases eg
end
end Mi
namespace Mi
open PySem PySem.Spec PyProof.Rows L2
/-! ### a turn: the world begins anew -/
section
variable {C : Cn} {ob : Option OB} {F F' H H' : Hp} {σ σ' : L2.St} {s s' : S}
/-- what is owned at a state -/
def Owned (C : Cn) (ob : Option OB) (σ : L2.St) (s : S) (a : Addr) : Prop := (∃ i, (gt s i).own = true ∧ vAt C σ ob i = some (.ref a)) ∨ ∃ o, ob = some o ∧ o.a = a
abbrev Cn.re (C : Cn) (T : Addr → Prop) (F H : Hp) (lk : Nat → Option V) : Cn := { C with wd := ⟨T, F, H⟩, lk := lk }
theorem SR.rebase (R : SR C ob F H σ s) (lk : Nat → Option V) (hl : ∀ i v, lk i = some v → σ[i]? = some (some v)) : SR (C.re (Owned C ob σ s) F H lk) ob F H σ s := by
  refine ⟨Ex.refl R.sub, R.len, fun i => ?_, R.inj, hl, R.ob0, fun o h => ?_, R.mo⟩
  · have cr := R.cr i
    show CR _ F H (vAt C σ ob i) (gt s i)
    cases e : gt s i with
    | lst xs =>
      rw [e] at cr
      obtain ⟨a, vs, h1, h2, h3, h4, h5⟩ := cr
      exact ⟨a, vs, h1, h2, h3, h4, .inl (.inl ⟨i, by rw [e]; rfl, h1⟩)⟩
    | dct ks xs =>
      rw [e] at cr
      obtain ⟨a, vs, h1, h2, n, l, h3, h4, h5⟩ := cr
      exact ⟨a, vs, h1, h2, n, l, h3, h4, .inl (.inl ⟨i, by rw [e]; rfl, h1⟩)⟩
    | val d => rw [e] at cr; exact cr
    | un => trivial
    | exn c => rw [e] at cr; exact cr
  · obtain ⟨h1, h2, h3, h4⟩ := R.ob1 o h
    exact ⟨h1, h2, .inl (.inr ⟨o, h, rfl⟩), h4⟩
theorem SR.owned_fr (R : SR C ob F H σ s) {a : Addr} (h : Owned C ob σ s a) : C.Fr a := by
  rcases h with ⟨i, h1, h2⟩ | ⟨o, h1, rfl⟩
  · exact (R.own_some h1 h2).2.1
  · exact (R.ob1 o h1).2.2.1
/-- behind it: the old world again (the object's binding is the same) -/
theorem SR.unbase (R : SR C ob F H σ s) {lk : Nat → Option V} (R' : SR (C.re (Owned C ob σ s) F H lk) ob F' H' σ' s') (hl : ∀ i v, C.lk i = some v → σ'[i]? = some (some v)) : SR C ob F' H' σ' s' := by
  have fr : ∀ a, (C.re (Owned C ob σ s) F H lk).Fr a → C.Fr a := fun a h => by
    rcases h with h | h
    · exact R.owned_fr h
    · exact R.fr_new h
  refine ⟨R.ex.trans R'.ex fun a h => R.owned_fr h, R'.len, fun i => ?_, R'.inj, hl, R'.ob0, fun o h => ?_, R'.mo⟩
  · have cr : CR (C.re (Owned C ob σ s) F H lk) F' H' (vAt C σ' ob i) (gt s' i) := R'.cr i
    cases e : gt s' i with
    | lst xs =>
      rw [e] at cr
      obtain ⟨a, vs, h1, h2, h3, h4, h5⟩ := cr
      exact ⟨a, vs, h1, h2, h3, h4, fr a h5⟩
    | dct ks xs =>
      rw [e] at cr
      obtain ⟨a, vs, h1, h2, n, l, h3, h4, h5⟩ := cr
      exact ⟨a, vs, h1, h2, n, l, h3, h4, fr a h5⟩
    | val d => rw [e] at cr; exact cr
    | un => trivial
    | exn c => rw [e] at cr; exact cr
  · obtain ⟨h1, h2, h3, h4⟩ := R'.ob1 o h
    exact ⟨h1, h2, fr _ h3, h4⟩
theorem vAt_set {x : Nat} {w : Option V} (hx : x < C.n) (hl : σ.length = C.n) (i : Nat) : vAt C (σ.set x w) ob i = if i = x then w else vAt C σ ob i := by
  unfold vAt
  by_cases h : i = x
  · subst h
    rw [if_pos hx, if_pos rfl, List.getElem?_set_self (by omega)]
    rfl
  · rw [if_neg h]
    by_cases hn : i < C.n
    · rw [if_pos hn, if_pos hn, List.getElem?_set_ne (fun z => h z.symm)]
    · rw [if_neg hn, if_neg hn]
/-- a slot that holds nothing of its own is set to data -/
theorem SR.setv (R : SR C ob F H σ s) {x : Nat} {v : V} {c : Cl} (hx : x < C.n) (hos : x ≠ C.os) (hlk : C.lk x = none) (hc : c.own = false) (hr : CR C F H (some v) c) : SR C ob F H (σ.set x (some v)) (s.set x c) := by
  refine ⟨R.ex, by rw [List.length_set]; exact R.len, fun i => ?_, fun i j a h1 h2 h3 h4 => ?_, fun i w h => ?_, fun h i hi => ?_, fun o h => ?_, R.mo⟩
  · rw [vAt_set hx R.len]
    by_cases e : i = x
    · subst e
      rw [if_pos rfl, gt_set]
      split
      · exact hr
      · rename_i hn
        have : gt s i = .un := by
          unfold gt
          rw [List.getD_eq_getElem?_getD, List.getElem?_eq_none]
          · rfl
          · have := fun z => hn ⟨rfl, z⟩; omega
        rw [this]; trivial
    · rw [if_neg e, gt_set, if_neg fun z => e z.1.symm]
      exact R.cr i
  · have ne : ∀ k, (gt (s.set x c) k).own = true → k ≠ x ∧ (gt s k).own = true := fun k hk => by
      rw [gt_set] at hk
      split at hk
      · rw [hc] at hk; cases hk
      · rename_i hn
        refine ⟨fun z => ?_, hk⟩
        subst z
        have : gt s k = .un := by
          unfold gt
          rw [List.getD_eq_getElem?_getD, List.getElem?_eq_none]
          · rfl
          · have := fun z => hn ⟨rfl, z⟩; omega
        rw [this] at hk; cases hk
    obtain ⟨n1, o1⟩ := ne i h1
    obtain ⟨n2, o2⟩ := ne j h2
    rw [vAt_set hx R.len, if_neg n1] at h3
    rw [vAt_set hx R.len, if_neg n2] at h4
    exact R.inj i j a o1 o2 h3 h4
  · have : i ≠ x := fun z => by rw [z, hlk] at h; cases h
    rw [List.getElem?_set_ne (fun z => this z.symm)]
    exact R.lk i w h
  · rw [gt_set, if_neg fun z => by omega]
    exact R.ob0 h i hi
  · obtain ⟨h1, h2, h3, h4, h5, h6, h7⟩ := R.ob1 o h
    refine ⟨h1, h2, h3, h4, fun j hj => ?_, fun j hj => ?_, ?_⟩
    · rw [gt_set, if_neg fun z => by omega]; exact h5 j hj
    · rw [gt_set, if_neg fun z => by omega]; exact h6 j hj
    · rw [List.getElem?_set_ne hos]; exact h7
/-- and back -/
theorem SR.unsetv {x : Nat} {w : Option V} {c : Cl} (R : SR C ob F H (σ.set x w) s) (hx : x < C.n) (hos : x ≠ C.os) (hlk : C.lk x = none) (hc : c.own = false) (hr : CR C F H (vAt C σ ob x) c) : SR C ob F H σ (s.set x c) := by
  have len : σ.length = C.n := by have := R.len; rw [List.length_set] at this; exact this
  have ne : ∀ k, (gt (s.set x c) k).own = true → k ≠ x ∧ (gt s k).own = true := fun k hk => by
    rw [gt_set] at hk
    split at hk
    · rw [hc] at hk; cases hk
    · rename_i hn
      refine ⟨fun z => ?_, hk⟩
      subst z
      have : gt s k = .un := by
        unfold gt
        rw [List.getD_eq_getElem?_getD, List.getElem?_eq_none]
        · rfl
        · have := fun z => hn ⟨rfl, z⟩; omega
      rw [this] at hk; cases hk
  refine ⟨R.ex, len, fun i => ?_, fun i j a h1 h2 h3 h4 => ?_, fun i v h => ?_, fun h i hi => ?_, fun o h => ?_, R.mo⟩
  · by_cases e : i = x
    · subst e
      rw [gt_set]
      split
      · exact hr
      · rename_i hn
        have : gt s i = .un := by
          unfold gt
          rw [List.getD_eq_getElem?_getD, List.getElem?_eq_none]
          · rfl
          · have := fun z => hn ⟨rfl, z⟩; omega
        rw [this]; trivial
    · rw [gt_set, if_neg fun z => e z.1.symm]
      have := R.cr i
      rw [vAt_set hx len, if_neg e] at this
      exact this
  · obtain ⟨n1, o1⟩ := ne i h1
    obtain ⟨n2, o2⟩ := ne j h2
    exact R.inj i j a o1 o2 (by rw [vAt_set hx len, if_neg n1]; exact h3) (by rw [vAt_set hx len, if_neg n2]; exact h4)
  · have e : i ≠ x := fun z => by rw [z, hlk] at h; cases h
    have := R.lk i v h
    rw [List.getElem?_set_ne (fun z => e z.symm)] at this
    exact this
  · rw [gt_set, if_neg fun z => by omega]
    exact R.ob0 h i hi
  · obtain ⟨h1, h2, h3, h4, h5, h6, h7⟩ := R.ob1 o h
    refine ⟨h1, h2, h3, h4, fun j hj => ?_, fun j hj => ?_, ?_⟩
    · rw [gt_set, if_neg fun z => by omega]; exact h5 j hj
    · rw [gt_set, if_neg fun z => by omega]; exact h6 j hj
    · rw [List.getElem?_set_ne hos] at h7; exact h7
theorem SR.nolk (R : SR C ob F H σ s) : SR { C with lk := fun _ => none } ob F H σ s := ⟨R.ex, R.len, R.cr, R.inj, fun _ _ h => (nomatch h), R.ob0, R.ob1, R.mo⟩
theorem set_gt (i : Nat) : s.set i (gt s i) = s := by
  apply List.ext_getElem?
  intro j
  by_cases h : i = j
  · subst h
    by_cases hl : i < s.length
    · rw [List.getElem?_set_self hl]
      unfold gt
      rw [List.getD_eq_getElem?_getD, List.getElem?_eq_getElem hl]
      rfl
    · rw [List.getElem?_eq_none (by rw [List.length_set]; omega), List.getElem?_eq_none (by omega)]
  · rw [List.getElem?_set_ne h]
end
/-- some world -/
def tEx {β : Type} (C : Cn) (t : Cn → L2.St → Hp → (β → Hp → Prop) → Prop) : L2.St → Hp → (β → Hp → Prop) → Prop := fun σ H Q => ∃ wd lk, t { C with wd := wd, lk := lk } σ H Q
abbrev W0 : WX := fun _ _ _ _ => False
section
variable {X : Cx} {C : Cn} {W : WX} {it elt tg : Expr} {ifs : List Expr} {ci ce ct : CE} {x : Nat} {k : It} {pos : Pos} {scope : Scope}
theorem SR.lkback {C : Cn} {ob : Option OB} {F H : Hp} {σ : L2.St} {s : S} (R : SR { C with lk := fun _ => none } ob F H σ s) (h : ∀ i v, C.lk i = some v → σ[i]? = some (some v)) : SR C ob F H σ s := ⟨R.ex, R.len, R.cr, R.inj, h, R.ob0, R.ob1, R.mo⟩
/-- something that no slot owns is written -/
theorem SR.other {C : Cn} {ob : Option OB} {F H : Hp} {σ : L2.St} {s : S} (R : SR C ob F H σ s) {a : Addr} {o : HO} (h1 : F a = none) (h2 : C.Fr a) (h3 : ∀ j, (gt s j).own = true → vAt C σ ob j ≠ some (.ref a)) (h4 : ∀ o, ob = some o → o.a ≠ a) : SR C ob F (upd H a o) σ s :=
  R.go (R.ex.trans (T1 := fun b => b = a) (Ex.write R.sub h1 rfl) fun b z => by rw [z]; exact h2) (same_refl F) (fun i b q1 q2 => ⟨rfl, upd_ne fun z => h3 i q1 (by rw [q2, z])⟩) fun o h => ⟨rfl, upd_ne (h4 o h)⟩
theorem cr_no {C : Cn} {F F' H H' : Hp} {o : Option V} {c : Cl} (m : Same F F') (hc : c.own = false) (h : CR C F H o c) : CR C F' H' o c := h.mono m fun a q => by rw [hc] at q; cases q
theorem set_own {s : S} {x : Nat} {c : Cl} (hc : c.own = false) {j : Nat} (h : (gt (s.set x c) j).own = true) : j ≠ x ∧ (gt s j).own = true := by
  rw [gt_set] at h
  split at h
  · rw [hc] at h; cases h
  · rename_i hn
    refine ⟨fun z => ?_, h⟩
    subst z
    have : gt s j = .un := by
      unfold gt
      rw [List.getD_eq_getElem?_getD, List.getElem?_eq_none]
      · rfl
      · have := fun z => hn ⟨rfl, z⟩; omega
    rw [this] at h; cases h
theorem million : 1000000 < sizeLine := by decide
theorem lc_run (hx : x < C.n) (hos : x ≠ C.os) {σ : L2.St} {H : Hp} {Q : VK} (h : tE C W (.comp ce x ci k ct) σ H Q) :
    tLc (tI C W fun s => srcOf (forItems k) (ev C.Γ ci s)) (gName x) (tEx C fun C => tT C W0 ct) (tEx C fun C => tV C W0 ce) [x] σ H Q := by
  obtain ⟨ob, F, s, r, R, e, p⟩ := h
  refine step R e p fun ds s1 J F1 H1 e1 R1 m1 wk e2 p1 => ?_
  have e3 : (if ((gt s1 x).own || decide (1000000 < ds.length)) = true then none else (turns (fun s => evT C.Γ ct s) (fun s => toV (ev C.Γ ce s)) x ds s1).map fun p => Mi.R.ok (Ro.fr (.lst p.1)) (p.2.set x (gt s1 x))) = some r := e2
  clear e2
  split at e3
  · cases e3
  · rename_i hno
    rw [Bool.or_eq_true, not_or, decide_eq_true_eq] at hno
    obtain ⟨hno, hsz⟩ := hno
    have hno : (gt s1 x).own = false := by cases q : (gt s1 x).own <;> first | rfl | exact absurd q hno
    cases et : turns (fun s => evT C.Γ ct s) (fun s => toV (ev C.Γ ce s)) x ds s1 with
    | none => rw [et] at e3; cases e3
    | some pr =>
      obtain ⟨res, sE⟩ := pr
      rw [et] at e3; cases e3
      intro Dl hD
      generalize hc0 : gt s1 x = c0 at *
      -- between two turns
      let Wv : Nat → Nat → Hp → Prop := fun i m H => ∃ (F2 : Hp) (s2 : S) (vs : List V) (dn rs : List D), m = ds.length - i ∧ i ≤ ds.length ∧ SR { C with lk := fun _ => none } ob F2 H σ (s2.set x c0) ∧ Same F1 F2 ∧ H Dl = some (.lst vs) ∧ Reps C.K C.ca F2 vs dn ∧
        F2 Dl = none ∧ (∀ j, (gt (s2.set x c0) j).own = true → vAt C σ ob j ≠ some (.ref Dl)) ∧ turns (fun s => evT C.Γ ct s) (fun s => toV (ev C.Γ ce s)) x (ds.drop i) s2 = some (rs, sE) ∧ res = dn ++ rs ∧ dn.length ≤ i ∧ CR C F2 H (vAt C σ ob x) c0
      have fD : F1 Dl = none := R1.sub.free hD
      have frD : C.Fr Dl := R1.fr_new hD
      have obD : ∀ o, ob = some o → o.a ≠ Dl := fun o ho => R1.ob_ne ho hD
      have own1 : ∀ j, (gt s1 j).own = true → vAt C σ ob j ≠ some (.ref Dl) := fun j h1 h2 => R1.own_ne h1 h2 hD rfl
      have s1x : s1.set x c0 = s1 := by rw [← hc0]; exact set_gt x
      refine ⟨Wv, ⟨ds.length, F1, s1, [], [], res, by simp, Nat.zero_le _, ?_, same_refl F1, upd_same, .nil, fD, by rw [s1x]; exact own1, by rw [List.drop_zero]; exact et, rfl, Nat.le_refl _, ?_⟩, ?_⟩
      · rw [s1x]
        exact R1.nolk.other fD frD own1 obD
      · rw [← hc0]; exact cr_no (same_refl F1) (by rw [hc0]; exact hno) (R1.cr x)
      rintro i m H2 ⟨F2, s2, vs, dn, rs, rfl, hi, R2, m2, hDl, rv, fD2, own2, et2, hres, hdn, crx⟩
      have sF : Same F1 H2 := m2.trans R2.sub
      by_cases hlt : i < ds.length
      · refine .inr ⟨wk.go i H2 sF hlt, Wv (i + 1) (ds.length - (i + 1)), fun H' h => ⟨_, by omega, h⟩, fun xv H' y => ?_⟩
        obtain ⟨rfl, d, hd, rd⟩ := wk.yld i H2 xv H' sF hlt y
        have hdrop : ds.drop i = d :: ds.drop (i + 1) := by
          rw [List.drop_eq_getElem_cons hlt]
          congr 1
          rw [List.getElem?_eq_getElem hlt] at hd
          exact Option.some.inj hd
        rw [hdrop] at et2
        unfold gName
        have hw : (wipe σ [x]).set x (some xv) = σ.set x (some xv) := by show (σ.set x none).set x (some xv) = _; rw [List.set_set]
        rw [hw]
        refine ⟨by show (σ.set x (some xv)).set x none = σ.set x none; rw [List.set_set], ?_⟩
        -- the turn's state
        have R3 : SR { C with lk := fun _ => none } ob F2 H' (σ.set x (some xv)) (s2.set x (.val d)) := by
          have := R2.setv (v := xv) (c := .val d) hx hos rfl rfl ⟨xv, rfl, rd.mono m2⟩
          rw [List.set_set] at this
          exact this
        have R4 := R3.rebase (fun _ => none) (fun _ _ h => nomatch h)
        have nOwn : ¬ Owned { C with lk := fun _ => none } ob (σ.set x (some xv)) (s2.set x (.val d)) Dl := by
          rintro (⟨j, h1, h2⟩ | ⟨o, h1, h2⟩)
          · obtain ⟨n1, o1⟩ := set_own (c := .val d) rfl h1
            have : (gt (s2.set x c0) j).own = true := by rw [gt_set, if_neg fun z => n1 z.1.symm]; exact o1
            refine own2 j this ?_
            have h3 : vAt C (σ.set x (some xv)) ob j = some (.ref Dl) := h2
            rw [vAt_set hx R1.len, if_neg n1] at h3
            exact h3
          · exact obD o h1 h2
        -- the end of a turn
        have fin : ∀ {F5 H5 : Hp} {s5 : S}, SR (({ C with lk := fun _ => none } : Cn).re (Owned { C with lk := fun _ => none } ob (σ.set x (some xv)) (s2.set x (.val d))) F2 H' fun _ => none) ob F5 H5 (σ.set x (some xv)) s5 → Same F2 F5 →
            H5 Dl = some (.lst vs) ∧ F5 Dl = none ∧ SR { C with lk := fun _ => none } ob F5 H5 σ (s5.set x c0) ∧ (∀ j, (gt (s5.set x c0) j).own = true → vAt C σ ob j ≠ some (.ref Dl)) ∧ CR C F5 H5 (vAt C σ ob x) c0 := fun {F5 H5 s5} R5 m5 => by
          have h1 : H5 Dl = some (.lst vs) := R5.ex.keep Dl _ hDl nOwn
          have h2 : F5 Dl = none := (R5.ex.frz Dl (by show H' Dl ≠ none; rw [hDl]; intro z; cases z) nOwn).trans fD2
          have c5 : CR C F5 H5 (vAt C σ ob x) c0 := cr_no m5 hno crx
          have R6 : SR { C with lk := fun _ => none } ob F5 H5 (σ.set x (some xv)) s5 := R3.unbase R5 fun _ _ h => nomatch h
          refine ⟨h1, h2, R6.unsetv hx hos rfl hno c5, fun j q1 q2 => ?_, c5⟩
          obtain ⟨n1, o1⟩ := set_own hno q1
          have q3 : vAt C (σ.set x (some xv)) ob j = some (.ref Dl) := by rw [vAt_set hx R1.len, if_neg n1]; exact q2
          have q4 := (R5.own_some o1 q3).2.1
          rcases q4 with q4 | q4
          · exact nOwn q4
          · have : H' Dl = none := q4
            rw [hDl] at this; cases this
        unfold turns at et2
        cases etest : evT C.Γ ct (s2.set x (.val d)) with
        | none => rw [etest] at et2; cases et2
        | some rt =>
          rw [etest] at et2
          cases rt with
          | ex c s3 => cases et2
          | ok b s3 =>
            refine ⟨_, fun _ => none, ob, F2, _, .ok b s3, R4, etest, fun b' F5 H5 R5 m5 hb => ?_⟩
            obtain rfl : b' = b := hb
            cases b' with
            | false =>
              rw [if_neg Bool.false_ne_true]
              obtain ⟨g1, g2, g3, g4, g5⟩ := fin R5 m5
              exact ⟨F5, s3, vs, dn, rs, rfl, hlt, g3, m2.trans m5, g1, rv.mono m5, g2, g4, et2, hres, by omega, g5⟩
            | true =>
              rw [if_pos rfl]
              dsimp only at et2
              cases eel : toV (ev C.Γ ce s3) with
              | none => rw [eel] at et2; cases et2
              | some re =>
                rw [eel] at et2
                cases re with
                | ex c s4 => cases et2
                | ok y s4 =>
                  dsimp only at et2
                  cases er : turns (fun s => evT C.Γ ct s) (fun s => toV (ev C.Γ ce s)) x (ds.drop (i + 1)) s4 with
                  | none => rw [er] at et2; cases et2
                  | some pr2 =>
                    obtain ⟨rs2, sE2⟩ := pr2
                    rw [er] at et2
                    cases et2
                    refine ⟨_, fun _ => none, ob, F5, _, .ok y s4, R5, eel, fun u F6 H6 R6 m6 ru => ?_⟩
                    obtain ⟨g1, g2, g3, g4, g5⟩ := fin R6 (m5.trans m6)
                    refine ⟨vs, g1, by rw [rv.length]; exact Nat.lt_of_le_of_lt (Nat.le_trans hdn (by omega)) million, ?_⟩
                    refine ⟨F6, s4, vs ++ [u], dn ++ [y], rs2, rfl, hlt, g3.other g2 frD g4 obD, (m2.trans m5).trans m6, upd_same, (rv.mono (m5.trans m6)).append (.cons ru .nil), g2, g4, er, ?_, ?_, cr_no (same_refl F6) hno g5⟩
                    · rw [hres, List.append_assoc]; rfl
                    · rw [List.length_append, List.length_singleton]; omega
      · have : i = ds.length := by omega
        subst this
        rw [List.drop_length] at et2
        cases et2
        refine .inl ⟨wk.stop _ H2 sF (Nat.le_refl _), ?_⟩
        rw [List.append_nil] at hres
        subst hres
        refine p1 (.ref Dl) F2 H2 (R2.lkback R1.lk) m2 ⟨⟨Dl, vs, rfl, hDl, rv, fD2, frD⟩, rfl, fun _ j h1 h2 => own2 j h1 h2⟩
theorem pe_ex {X : Cx} {e : Expr} {C : Cn} {t : Cn → TE} (h : ∀ wd lk, PE X e (t { C with wd := wd, lk := lk })) : PE X e (tEx C t) := ⟨fun pins s σ H Q I ⟨wd, lk, q⟩ => (h wd lk).run pins s σ H Q I q⟩
theorem pt_ex {X : Cx} {e : Expr} {C : Cn} {t : Cn → TT} (h : ∀ wd lk, PT X e (t { C with wd := wd, lk := lk })) : PT X e (tEx C t) := ⟨fun pins s σ H Q I ⟨wd, lk, q⟩ => (h wd lk).run pins s σ H Q I q⟩
theorem pts_yes {X : Cx} {C : Cn} : PTs X [] (tEx C fun C => tT C W0 (.c (.bl true))) := ⟨fun pins s σ H Q I ⟨wd, lk, ob, F, s', r, R, e, p⟩ => by
  cases e
  exact pts_nil.run pins s σ H Q I (p true F H R (same_refl F) rfl)⟩
theorem qe_comp {xn : Str} {px : Pos} (hc : X.calm = true) (hN : X.N.Nodup) (hx : x < C.n) (hos : x ≠ C.os) (hi : PI X (.Name xn px) it (tI C W fun s => srcOf (forItems k) (ev C.Γ ci s))) (ok : BlkOk X.N X.env.scope scope [(xn, x)])
    (hg : ∀ (s : Shared) (H : Hp) (Cd : Addr) (cl : List (Str × Addr)) (fp : List Addr), PG (X.blk s H scope (compEnvC scope cl Cd X.env) fp) (.Name xn px) (gName x))
    (ht : ∀ (s : Shared) (H : Hp) (Cd : Addr) (cl : List (Str × Addr)) (fp : List Addr), PTs (X.blk s H scope (compEnvC scope cl Cd X.env) fp) ifs (tEx C fun C => tT C W0 ct))
    (he : ∀ (s : Shared) (H : Hp) (Cd : Addr) (cl : List (Str × Addr)) (fp : List Addr) wd lk, PE (X.blk s H scope (compEnvC scope cl Cd X.env) fp) elt (tE { C with wd := wd, lk := lk } W0 ce)) (hs : ∀ x, foldedSetIterable it X.env x = pure x) :
    PE X (.ListComp elt [⟨.Name xn px, it, ifs, 0⟩] scope pos) (tE C W (.comp ce x ci k ct)) := by
  refine pe_imp (pe_lc (own := [(xn, x)]) (g := gName x) (tt := tEx C fun C => tT C W0 ct) (te := tEx C fun C => tV C W0 ce) hc hN hi ok hg ht (fun s H Cd cl fp => pe_ex fun wd lk => toV_of (he s H Cd cl fp wd lk)) hs) fun σ H Q h => ?_
  exact lc_run hx hos h
end
end Mi
namespace Mi
open PySem PySem.Spec PyProof.Rows L2
/-! ### a text turned round -/
section
variable {X : Cx} {C : Cn} {W : WX} {ea eb : Expr} {a b : CE} {pos : Pos}
theorem rev_ix (n : Nat) : PySem.Builtin.Str.strSliceIndices none none (-1) n = (List.range n).reverse := by
  show sliceRange ((n : Int) - 1) (-1) (-1) = _
  rw [PySem.W.krv_sliceRange, PySem.W.krv_range]
theorem pe_revS {e : Expr} {te : TE} {k : Nat} {p1 p2 p3 pos : Pos} (he : PE X e te) : PE X (.Subscript e (.Slice none none (some (.UnaryOp .USub (.Constant (.int 1) k p1) p2)) p3) pos)
    (fun σ H Q => te σ H fun x H1 => ∃ z : Str, x = .str z ∧ z.length ≤ sizeLine ∧ Q (.str ⟨z.cps.toList.reverse.toArray⟩) H1) := by
  refine ⟨fun pins s σ H Q I h => ?_⟩
  refine Subscript_ (thn (he.run pins s σ H _ I h) fun v s1 ⟨x, H1, I1, r1, q1⟩ => ?_)
  obtain ⟨z, ex, hz, q⟩ := q1
  subst ex
  obtain ⟨t, rfl⟩ := r1
  have hst : PO X (some (.UnaryOp .USub (.Constant (.int 1) k p1) p2)) (tPart (tUn (rU fun i => .int (-i)) (tC (.int 1)))) := po_some (pe_un un_neg pe_int)
  refine wpAny_Slice (thn (po_none.run pins s1 σ H1 (fun o H2 => o = none ∧ H2 = H1) I1 ⟨rfl, rfl⟩) fun vl s2 ⟨l, H2, I2, pl, el, e2⟩ => ?_)
  subst el e2
  refine thn (po_none.run pins s2 σ H2 (fun o H3 => o = none ∧ H3 = H2) I2 ⟨rfl, rfl⟩) fun vu s3 ⟨u, H3, I3, pu, eu, e3⟩ => ?_
  subst eu e3
  refine thn (hst.run pins s3 σ H3 (fun o H4 => o = some (-1) ∧ H4 = H3) I3 ⟨1, rfl, -1, rfl, rfl, rfl⟩) fun vs s4 ⟨o, H4, I4, ps, eo, e4⟩ => ?_
  subst eo e4
  have I5 : Inv X pins σ H4 { s4 with heap := s4.heap.push { cls := .type "slice", data := .fields #[vl, vu, vs] } } := I4.kept (t' := s4.toks) fun b ob q => Heap.get?_push_of_some _ q
  cases pl
  cases pu
  obtain ⟨tk, rfl⟩ : ∃ tk, vs = .int (-1) tk := by cases ps with | int i t => exact ⟨t, rfl⟩
  show wpAny (model X.prog X.w) X.A (subscriptTail e (.Slice none none (some (.UnaryOp .USub (.Constant (.int 1) k p1) p2)) p3) (.str z t) (.ref s4.heap.objs.size)) (EP X pins σ Q) X.xe { s4 with heap := s4.heap.push { cls := .type "slice", data := .fields #[.none, .none, .int (-1) tk] } }
  refine tail_any (ops := [.str z t, .ref s4.heap.objs.size]) (typeIs_str _ z t) (PySem.F.slot_str_getitem.lookup) ?_ (by with_unfolding_all rfl)
  refine wpAny_getItem_str_slice (l := none) (u := none) (st := some (-1, tk)) ⟨_, Heap.get?_push_size _ rfl, rfl, rfl⟩ rfl ?_
  have e : slicePicked z none none (some (-1, tk)) = (List.range z.cps.size).reverse := rev_ix _
  unfold sliceMade
  rw [e, if_neg (by intro h; rw [Bool.and_eq_true] at h; exact Bool.noConfusion (h.1 : ((-1 : Int) == 1) = true)), List.filterMap_reverse, PySem.W.krv_all]
  refine ⟨?_, .str _, H4, I5.tok _, ⟨_, rfl⟩, q⟩
  show (z.cps.toList.reverse.toArray).size ≤ sizeLine
  rw [List.size_toArray, List.length_reverse, Array.length_toList]
  exact hz
theorem qe_rev {k : Nat} {p1 p2 p3 : Pos} (ha : PE X ea (tE C W a)) : PE X (.Subscript ea (.Slice none none (some (.UnaryOp .USub (.Constant (.int 1) k p1) p2)) p3) pos) (tE C W (.rev a)) := by
  refine pe_imp (pe_revS (toV_of ha)) fun σ H Q ⟨ob, F, s, r, R, e, p⟩ => ?_
  refine step R e p fun x s1 u F1 H1 e1 R1 m1 q1 e2 p1 => ?_
  cases x with
  | str z =>
    have e2 : (if z.length ≤ sizeLine then some (Mi.R.ok (Ro.fr (.val (.str ⟨z.cps.toList.reverse.toArray⟩))) s1) else none) = some r := e2
    split at e2
    · rename_i hz
      cases e2
      exact ⟨z, rep_str q1, hz, post_val p1 R1 (.str _)⟩
    · cases e2
  | _ => cases e2
end
/-! ### times -/
theorem mul_flat (l : List Nat) : ∀ (n : Nat) (acc : Array Nat), ((List.replicate n l.toArray).foldl (· ++ ·) acc).toList = acc.toList ++ (List.replicate n l).flatten
  | 0, acc => by simp
  | n + 1, acc => by
    rw [List.replicate_succ, List.foldl_cons, mul_flat l n, List.replicate_succ, List.flatten_cons, Array.toList_append, List.append_assoc]
theorem txt_mul {z : Str} {j : Int} (h0 : 0 ≤ j) : Txt.mul z j = ⟨((List.replicate j.toNat z.cps.toList).flatten).toArray⟩ := by
  unfold Txt.mul
  split
  · have : j = 0 := by omega
    subst this
    rfl
  · split
    · rename_i h1 h2
      rw [Bool.or_eq_true] at h2
      rcases h2 with h2 | h2
      · have : j = 1 := by simpa using h2
        subst this
        show z = ⟨((List.replicate 1 z.cps.toList).flatten).toArray⟩
        simp
      · have e : z.cps.toList = [] := by
          have : z.length = 0 := by simpa using h2
          have : z.cps.size = 0 := this
          exact List.eq_nil_of_length_eq_zero (by rw [Array.length_toList]; exact this)
        rw [e]
        have : (List.replicate j.toNat ([] : List Nat)).flatten = [] := by
          induction j.toNat with
          | zero => rfl
          | succ n ih => rw [List.replicate_succ, List.flatten_cons, ih]; rfl
        rw [this]
        show z = ⟨#[]⟩
        cases z with
        | mk cps => congr 1; exact Array.toList_inj.mp e
    · have := mul_flat z.cps.toList j.toNat #[]
      have e : ((List.replicate j.toNat z.cps).foldl (· ++ ·) #[]) = ((List.replicate j.toNat z.cps.toList).flatten).toArray := by
        apply Array.toList_inj.mp
        simpa using this
      rw [e]
def rMulS : R2 := fun x y H Q => ∃ (z : Str) (j : Int), x = .str z ∧ y = .int j ∧ (0 ≤ j ∧ j ≤ 1000 ∧ z.length ≤ 1000) ∧ Q (.str ⟨((List.replicate j.toNat z.cps.toList).flatten).toArray⟩) H
theorem op_mulS {X : Cx} : OpR X (binaryOp .Mult) rMulS := by
  intro pins s σ H x y v u Q I rx ry h
  obtain ⟨z, j, rfl, rfl, ⟨h0, h1, h2⟩, q⟩ := h
  obtain ⟨t, rfl⟩ := rx
  obtain ⟨t', rfl⟩ := ry
  refine SB.mul ⟨?_, fun h3 _ h4 => ?_, fun h3 _ => ?_⟩ fun tk k => ?_
  · rw [Bool.or_eq_false_iff, decide_eq_false_iff_not, decide_eq_false_iff_not]; omega
  · have e1 : j ≤ 1000 := h1
    have e2 : (z.length : Int) ≤ 1000 := by omega
    have : (1000 : Int) ≤ (2 ^ 63 - 1) / j := by
      rw [Int.le_ediv_iff_mul_le (by omega)]
      omega
    omega
  · have e : z.length * j.toNat ≤ 1000 * 1000 := Nat.mul_le_mul h2 (by omega)
    unfold PySem.Builtin.Str.tooLong
    rw [decide_eq_false_iff_not]
    have : sizeLine = 16777216 := by decide
    omega
  · rw [txt_mul h0]
    exact ⟨.str _, H, I.tok _, ⟨_, rfl⟩, q⟩
def rMulA : R2 := fun x y H Q => rI CMul (fun i j => .int (i * j)) x y H Q ∨ rMulS x y H Q ∨ rRep x y H Q
theorem op_mulA {X : Cx} : OpR X (binaryOp .Mult) rMulA := OpR.or op_mul (OpR.or op_mulS op_rep)
theorem rep_flat {K : PySem.W.Frag} {ca : Nat → Addr} {F : Hp} {vs : List V} {ds : List D} (h : Reps K ca F vs ds) : ∀ n : Nat, Reps K ca F (List.replicate n vs).flatten (List.replicate n ds).flatten
  | 0 => .nil
  | n + 1 => by
    rw [List.replicate_succ, List.replicate_succ, List.flatten_cons, List.flatten_cons]
    exact h.append (rep_flat h n)
theorem bin_mul {C : Cn} : BinOk C rMulA repop := by
  intro ob F H σ s u v x y c Q R hx hy e k
  rcases rep_cases e with ⟨i, j, rfl, rfl, hz, rfl⟩ | ⟨z, j, rfl, rfl, hz, rfl⟩ | ⟨xs, j, h1, rfl, hz, rfl⟩
  · refine .inl ⟨i, j, rep_int hx.dat, rep_int hy.dat, ?_, k _ F H R (same_refl F) (RF.val R (.int _))⟩
    exact big_iff.mp hz
  · exact .inr (.inl ⟨z, j, rep_str hx.dat, rep_int hy.dat, hz, k _ F H R (same_refl F) (RF.val R (.str _))⟩)
  · obtain ⟨a, vs, rfl, qa, ra⟩ := hx.listM R.sub h1
    refine .inr (.inr ⟨a, j, vs, rfl, rep_int hy.dat, qa, by omega, hz.2.1, by rw [ra.length]; exact hz.2.2, fun p hp => ?_⟩)
    obtain ⟨R', q⟩ := fin_lst R hp (rep_flat ra j.toNat)
    exact k _ _ _ R' (same_refl F) q
def BO.py : BO → Operator
  | .add => .Add | .sub => .Sub | .mul => .Mult | .fdiv => .FloorDiv | .mod => .Mod | .pow => .Pow
section
variable {X : Cx} {C : Cn} {W : WX} {ea eb : Expr} {a b : CE} {pos : Pos}
theorem qe_bin {o : BO} (hK : X.K = C.K) (ha : PE X ea (tE C W a)) (hb : PE X eb (tE C W b)) : PE X (.BinOp ea o.py eb pos) (tE C W (.bin o a b)) := by
  have key : ∀ {r : R2}, OpR X (binaryOp o.py) r → BinOk C r (binop o) → PE X (.BinOp ea o.py eb pos) (tE C W (.bin o a b)) := fun h1 h2 =>
    qe_op2 (pe_op h1 (toO_of ha) (toO_of hb)) h2 (fun x y c h => binop_fz h) fun s => rfl
  cases o with
  | add => exact key (by rw [← hK]; exact op_addA) bin_add
  | sub => exact key op_sub bin_sub
  | mul => exact key op_mulA bin_mul
  | fdiv => exact key op_fdivN bin_fdiv
  | mod => exact key op_modN bin_mod
  | pow => exact key op_pow bin_pow
/-! ### calls of built-in functions -/
def BF.nm : BF → Str
  | .len => "len" | .list => "list" | .tup => "tuple" | .str => "str" | .int => "int" | .abs => "abs" | .min => "min" | .sort => "sorted" | .dict => "dict"
theorem qe_bfB {bf : BF} {id : String} {r : List V → Hp → VK → Prop} {es : List Expr} {e : Expr} {cs : List CE} {p : Pos} {x : Str} (hr : CallR X (.builtin id) r) (hk : BfOk C r (bfop bf)) (hg : Gl X x) (hm : X.mg x = none) (hv : bootBuiltins x = some (.builtin id)) (ha : PA X (e :: es) (tAO C W cs)) (hn : x ≠ "__name__") (hdb : (x == ("__debug__" : Str)) = false)
    (he : starEach (e :: es) X.env = (false, eval e X.env) :: starEach es X.env) (hpl : (backTo pos (starEach es X.env)).any (·.1) = false) : PE X (.Call (.Name x p) (e :: es) [] pos) (tE C W (.bf bf cs)) :=
  pe_imp (pe_callB hr hg hm hv ha hn hdb he hpl) fun σ H Q h => bf_run hk (fun cs c h => bf_fz h) h
theorem qe_bfT {bf : BF} {id : String} {r : List V → Hp → VK → Prop} {es : List Expr} {e : Expr} {cs : List CE} {p : Pos} {x : Str} (hr : CallR X (.type id) r) (hk : BfOk C r (bfop bf)) (hg : Gl X x) (hm : X.mg x = none) (hv : bootBuiltins x = some (.type id)) (ha : PA X (e :: es) (tAO C W cs)) (hn : x ≠ "__name__") (hdb : (x == ("__debug__" : Str)) = false)
    (he : starEach (e :: es) X.env = (false, eval e X.env) :: starEach es X.env) (hpl : (backTo pos (starEach es X.env)).any (·.1) = false) : PE X (.Call (.Name x p) (e :: es) [] pos) (tE C W (.bf bf cs)) :=
  pe_imp (pe_callTy hr hg hm hv ha hn hdb he hpl) fun σ H Q h => bf_run hk (fun cs c h => bf_fz h) h
/-! ### methods of a list -/
theorem qe_mt1 {m : MT} {name : Str} {id : String} {o e : Expr} {es : List Expr} {co : CE} {cs : List CE} {apos : Pos} {r : V → List V → Hp → VK → Prop} (hK : X.K = C.K) (slot : Slot "list" name id) (hty : typeOf (.builtin id) = pure (.type "method_descriptor")) (hm : MtR X id r) (hr : MtOk C r m)
    (hev : ∀ s, ev C.Γ (.mt m co cs) s = bnd (ev C.Γ co s) fun q s => match q with
      | .pt i => if isLst (gt s i) then bnd (evA C.Γ cs s) fun l s => ((dats l).bind fun ds => mutop m (gt s i) ds).map fun p => .ok (.fr (.val p.1)) (s.set i p.2) else none
      | _ => none) (ho : PE X o (tE C W co)) (ha : PA X (e :: es) (tA C W cs))
    (hbase : attributeBase o name X.env (eval o X.env) = eval o X.env) (hfew : ((backTo pos (starEach (e :: es) X.env)).all (fun x => !x.1) && (backToKw pos (keywordEach [] X.env)).all (fun x => x.1.isSome)
      && decide ((e :: es).length + ([] : List Keyword).length + (if ([] : List Keyword).isEmpty then 0 else 1) < 30)) = true) (hline : (apos.endLine == pos.line) = true) (hs : starEach (e :: es) X.env = (false, eval e X.env) :: starEach es X.env) (hplain : (backTo pos (starEach es X.env)).any (·.1) = false) :
    PE X (.Call (.Attribute o name apos) (e :: es) [] pos) (tE C W (.mt m co cs)) :=
  pe_imp (pe_bm (T := "list") PySem.F.plainAttrs_list slot hty hm ho ha hbase hfew hline hs hplain) fun σ H Q h => by
    rw [hK]
    exact mt_run hr hev h
/-- xs.pop() -/
theorem qe_pop {o : Expr} {co : CE} {apos : Pos} (hK : X.K = C.K) (ho : PE X o (tE C W co)) (hbase : attributeBase o "pop" X.env (eval o X.env) = eval o X.env) (hline : (apos.endLine == pos.line) = true) :
    PE X (.Call (.Attribute o "pop" apos) [] [] pos) (tE C W (.mt .pop co [])) :=
  pe_imp (pe_bm0 (T := "list") PySem.F.plainAttrs_list PySem.F.slot_list_pop PySem.F.type_list_pop mt_pop ho hbase hline) fun σ H Q h => by
    rw [hK]
    have h := mt_run mtk_pop (fun s => rfl) h
    obtain ⟨ob, F, s, r, R, e, p⟩ := h
    refine ⟨ob, F, s, r, R, e, ?_⟩
    cases r with
    | ex k s' => exact p
    | ok a s' =>
      intro u F' H' R' m' q'
      obtain ⟨h1, ob2, F2, s2, r2, R2, e2, p2⟩ := p u F' H' R' m' q'
      refine ⟨h1, ?_⟩
      cases e2
      exact p2 [] F2 H' R2 (same_refl F2) trivial
end
end Mi
namespace Mi
open PySem PySem.Spec PyProof.Rows L2
/-! ### statements -/
/-- what comes back by return -/
def AR (C : Cn) (ob : Option OB) (F H : Hp) (σ : L2.St) (s : S) (u : V) : Ag → Prop
  | .cl c => RF C ob F H σ s u c
  | .obj c xs => c = C.oc ∧ ∃ o, ob = some o ∧ u = .ref o.a ∧ xs = ghosts C.n s
def PostS (C : Cn) (W : WX) (F : Hp) (D : Ends) : Out → Prop
  | .nx s' => ∀ (ob : Option OB) (F' H' : Hp) (σ' : L2.St), SR C ob F' H' σ' s' → Same F F' → D.nx σ' H'
  | .bk s' => ∀ (ob : Option OB) (F' H' : Hp) (σ' : L2.St), SR C ob F' H' σ' s' → Same F F' → D.bk σ' H'
  | .ct s' => ∀ (ob : Option OB) (F' H' : Hp) (σ' : L2.St), SR C ob F' H' σ' s' → Same F F' → D.ct σ' H'
  | .rt a s' => ∀ (ob : Option OB) (F' H' : Hp) (σ' : L2.St) (u : V), SR C ob F' H' σ' s' → Same F F' → AR C ob F' H' σ' s' u a → D.rt u H'
  | .ex k s' => ∀ (ob : Option OB) (F' H' : Hp) (σ' : L2.St), SR C ob F' H' σ' s' → Same F F' → W (.ref (C.cv k)) none σ' H'
theorem PostS.mono {C : Cn} {W : WX} {F F1 : Hp} {D : Ends} {o : Out} (h : PostS C W F D o) (e : Same F F1) : PostS C W F1 D o := by
  cases o with
  | nx s => exact fun ob F' H' σ' R m => h ob F' H' σ' R (e.trans m)
  | bk s => exact fun ob F' H' σ' R m => h ob F' H' σ' R (e.trans m)
  | ct s => exact fun ob F' H' σ' R m => h ob F' H' σ' R (e.trans m)
  | rt a s => exact fun ob F' H' σ' u R m => h ob F' H' σ' u R (e.trans m)
  | ex k s => exact fun ob F' H' σ' R m => h ob F' H' σ' R (e.trans m)
def tSt (C : Cn) (W : WX) (m : S → Option Out) : TS := fun D σ H => ∃ (ob : Option OB) (F : Hp) (s : S) (o : Out), SR C ob F H σ s ∧ m s = some o ∧ PostS C W F D o
abbrev tS (C : Cn) (W : WX) (lks : List Nat) (c : CS) : TS := tSt C W (exec C.Γ C.n lks C.oc c)
abbrev tSs (C : Cn) (W : WX) (lks : List Nat) (c : List CS) : TS := tSt C W (execs C.Γ C.n lks C.oc c)
section
variable {C : Cn} {W : WX} {ob : Option OB} {F H : Hp} {σ : L2.St} {s : S} {D : Ends}
theorem stepS {α β : Type} {m : S → Option (R α)} {k : α → S → Option Out} {rel : Option OB → Hp → Hp → L2.St → S → β → α → Prop} {Q1 : β → Hp → Prop} {o : Out}
    (R : SR C ob F H σ s) (e : outR (m s) k = some o) (p : PostS C W F D o)
    (h : ∀ (a : α) (s1 : S) (u : β) (F1 H1 : Hp), m s = some (.ok a s1) → SR C ob F1 H1 σ s1 → Same F F1 → rel ob F1 H1 σ s1 u a → k a s1 = some o → PostS C W F1 D o → Q1 u H1) : tR C W m rel σ H Q1 := by
  cases e1 : m s with
  | none => rw [e1] at e; cases e
  | some r1 =>
    rw [e1] at e
    refine ⟨ob, F, s, r1, R, e1, ?_⟩
    cases r1 with
    | ok a s1 => exact fun u F1 H1 R1 m1 q1 => h a s1 u F1 H1 e1 R1 m1 q1 e (p.mono m1)
    | ex c s1 =>
      cases e
      exact fun F1 H1 R1 m1 => p ob F1 H1 σ R1 m1
/-- a slot is set to something fresh -/
theorem SR.setf (R : SR C ob F H σ s) {x : Nat} {v : V} {c : Cl} (hx : x < C.n) (hos : x ≠ C.os) (hlk : C.lk x = none) (hr : RF C ob F H σ s v c) : SR C ob F H (σ.set x (some v)) (s.set x c) := by
  obtain ⟨hr, hz, hfr⟩ := hr
  have out : ∀ k, (gt (s.set x c) k).own = true → k = x ∧ c.own = true ∨ k ≠ x ∧ (gt s k).own = true := fun k hk => by
    rw [gt_set] at hk
    by_cases e : k = x
    · subst e
      split at hk
      · exact .inl ⟨rfl, hk⟩
      · rename_i hn
        have : gt s k = .un := by
          unfold gt
          rw [List.getD_eq_getElem?_getD, List.getElem?_eq_none]
          · rfl
          · have := fun z => hn ⟨rfl, z⟩; omega
        rw [this] at hk; cases hk
    · rw [if_neg fun z => e z.1.symm] at hk
      exact .inr ⟨e, hk⟩
  refine ⟨R.ex, by rw [List.length_set]; exact R.len, fun i => ?_, fun i j a h1 h2 h3 h4 => ?_, fun i w h => ?_, fun h i hi => ?_, fun o h => ?_, R.mo⟩
  · rw [vAt_set hx R.len]
    by_cases e : i = x
    · subst e
      rw [if_pos rfl, gt_set]
      split
      · exact hr
      · rename_i hn
        have : gt s i = .un := by
          unfold gt
          rw [List.getD_eq_getElem?_getD, List.getElem?_eq_none]
          · rfl
          · have := fun z => hn ⟨rfl, z⟩; omega
        rw [this]; trivial
    · rw [if_neg e, gt_set, if_neg fun z => e z.1.symm]
      exact R.cr i
  · rw [vAt_set hx R.len] at h3 h4
    rcases out i h1 with ⟨e1, o1⟩ | ⟨e1, o1⟩ <;> rcases out j h2 with ⟨e2, o2⟩ | ⟨e2, o2⟩
    · rw [e1, e2]
    · rw [if_pos e1] at h3
      rw [if_neg e2] at h4
      exact absurd (h4.trans h3.symm) (hfr o1 j o2)
    · rw [if_neg e1] at h3
      rw [if_pos e2] at h4
      exact absurd (h3.trans h4.symm) (hfr o2 i o1)
    · rw [if_neg e1] at h3
      rw [if_neg e2] at h4
      exact R.inj i j a o1 o2 h3 h4
  · have : i ≠ x := fun z => by rw [z, hlk] at h; cases h
    rw [List.getElem?_set_ne (fun z => this z.symm)]
    exact R.lk i w h
  · rw [gt_set, if_neg fun z => by omega]
    exact R.ob0 h i hi
  · obtain ⟨h1, h2, h3, h4, h5, h6, h7⟩ := R.ob1 o h
    refine ⟨h1, h2, h3, h4, fun j hj => ?_, fun j hj => ?_, ?_⟩
    · rw [gt_set, if_neg fun z => by omega]; exact h5 j hj
    · rw [gt_set, if_neg fun z => by omega]; exact h6 j hj
    · rw [List.getElem?_set_ne hos]; exact h7
end
section
variable {X : Cx} {C : Cn} {W : WX} {lks : List Nat} {e : Expr} {c : CE} {pos : Pos}
theorem qs_nil : PSs X [] (tSs C W lks []) := pss_imp pss_nil fun D σ H ⟨ob, F, s, o, R, e, p⟩ => by
  have e : some (Out.nx s) = some o := by rw [← e]; show _ = execs C.Γ C.n lks C.oc [] s; rw [execs]
  cases e
  exact p ob F H σ R (same_refl F)
theorem qs_cons {st : Stmt} {rest : List Stmt} {k : CS} {ks : List CS} (h1 : PS X st (tS C W lks k)) (h2 : PSs X rest (tSs C W lks ks)) : PSs X (st :: rest) (tSs C W lks (k :: ks)) := pss_imp (pss_cons h1 h2) fun D σ H ⟨ob, F, s, o, R, e, p⟩ => by
  have e : (match exec C.Γ C.n lks C.oc k s with
    | some (.nx s1) => execs C.Γ C.n lks C.oc ks s1
    | o => o) = some o := by rw [← e]; show _ = execs C.Γ C.n lks C.oc (k :: ks) s; rw [execs] <;> rfl
  cases e1 : exec C.Γ C.n lks C.oc k s with
  | none => rw [e1] at e; cases e
  | some o1 =>
    rw [e1] at e
    refine ⟨ob, F, s, o1, R, e1, ?_⟩
    cases o1 with
    | nx s1 => exact fun ob' F' H' σ' R' m => ⟨ob', F', s1, o, R', e, p.mono m⟩
    | bk s1 => cases e; exact p
    | ct s1 => cases e; exact p
    | rt a s1 => cases e; exact p
    | ex k s1 => cases e; exact p
theorem qs_asg {i : Nat} {x : Str} {pos' : Pos} (hN : X.N.Nodup) (hi : X.N[i]? = some x) (hin : i < C.n) (LK : ∀ i, i ∉ lks → C.lk i = none) (hos : i ≠ C.os) (hx : Loc X.env.scope x) (he : PE X e (tE C W c)) (hs : swapsWith e (some (.Name x pos')) pos.line X.env = pure false) (hf : X.fn x = true ∨ X.env.scope.names.lookup x = some .local) :
    PS X (.Assign [.Name x pos'] e pos) (tS C W lks (.asg i c)) := ps_imp (ps_set hN hi hx (toW_of he) hs hf) fun D σ H ⟨ob, F, s, o, R, e, p⟩ => by
  have e : (outR (toW (ev C.Γ c s)) fun c s => if i < C.n then (if i ∈ lks then none else some (.nx (s.set i c))) else (if i - C.n ≤ (ghosts C.n s).length ∧ i < s.length then some (.nx (s.set i c)) else none)) = some o := by
    rw [← e]; show _ = exec C.Γ C.n lks C.oc (.asg i c) s; rw [exec]
  refine stepS R e p fun d s1 u F1 H1 e1 R1 m1 q1 e2 p1 => ?_
  rw [if_pos hin] at e2
  split at e2
  · cases e2
  · rename_i hl
    cases e2
    exact p1 ob F1 H1 _ (R1.setf hin hos (LK i hl) q1) (same_refl F1)
theorem qs_exp (he : PE X e (tE C W c)) (hs : swapsWith e none pos.line X.env = pure false) : PS X (.Expr e pos) (tS C W lks (.exp c)) := ps_imp (ps_expr (toV_of he) hs) fun D σ H ⟨ob, F, s, o, R, e, p⟩ => by
  have e : (outR (toV (ev C.Γ c s)) fun _ s => some (.nx s)) = some o := by rw [← e]; show _ = exec C.Γ C.n lks C.oc (.exp c) s; rw [exec]
  refine stepS R e p fun d s1 u F1 H1 e1 R1 m1 q1 e2 p1 => ?_
  cases e2
  exact p1 ob F1 H1 σ R1 (same_refl F1)
theorem qs_ret (he : PE X e (tE C W c)) : PS X (.Return (some e) pos) (tS C W lks (.ret c)) := ps_imp (ps_ret (toW_of he)) fun D σ H ⟨ob, F, s, o, R, e, p⟩ => by
  have e : (outR (toW (ev C.Γ c s)) fun c s => some (.rt (.cl c) s)) = some o := by rw [← e]; show _ = exec C.Γ C.n lks C.oc (.ret c) s; rw [exec]
  refine stepS R e p fun d s1 u F1 H1 e1 R1 m1 q1 e2 p1 => ?_
  cases e2
  exact p1 ob F1 H1 σ u R1 (same_refl F1) q1
theorem qs_retN : PS X (.Return none pos) (tS C W lks .retN) := ps_imp ps_retN fun D σ H ⟨ob, F, s, o, R, e, p⟩ => by
  have e : some (Out.rt (.cl (.val .non)) s) = some o := by rw [← e]; show _ = exec C.Γ C.n lks C.oc .retN s; rw [exec]
  cases e
  exact p ob F H σ .non R (same_refl F) (RF.val R .non)
theorem qs_brk : PS X (.Break pos) (tS C W lks .brk) := ps_imp ps_break fun D σ H ⟨ob, F, s, o, R, e, p⟩ => by
  have e : some (Out.bk s) = some o := by rw [← e]; show _ = exec C.Γ C.n lks C.oc .brk s; rw [exec]
  cases e
  exact p ob F H σ R (same_refl F)
theorem qs_cnt : PS X (.Continue pos) (tS C W lks .cnt) := ps_imp ps_continue fun D σ H ⟨ob, F, s, o, R, e, p⟩ => by
  have e : some (Out.ct s) = some o := by rw [← e]; show _ = exec C.Γ C.n lks C.oc .cnt s; rw [exec]
  cases e
  exact p ob F H σ R (same_refl F)
theorem qs_ite {a b : List Stmt} {ca cb : List CS} (ht : PT X e (tT C W c)) (ha : PSs X a (tSs C W lks ca)) (hb : PSs X b (tSs C W lks cb)) : PS X (.If e a b pos) (tS C W lks (.ite c ca cb)) := ps_imp (ps_if ht ha hb) fun D σ H ⟨ob, F, s, o, R, e, p⟩ => by
  have e : (outR (evT C.Γ c s) fun k s => if k then execs C.Γ C.n lks C.oc ca s else execs C.Γ C.n lks C.oc cb s) = some o := by rw [← e]; show _ = exec C.Γ C.n lks C.oc (.ite c ca cb) s; rw [exec]
  refine stepS R e p fun k s1 u F1 H1 e1 R1 m1 q1 e2 p1 => ?_
  obtain rfl : u = k := q1
  cases u with
  | true => exact ⟨ob, F1, s1, o, R1, e2, p1⟩
  | false => exact ⟨ob, F1, s1, o, R1, e2, p1⟩
theorem qs_whl {b : List Stmt} {cb : List CS} (hp : PassesOwn (model X.prog X.w) X.A X.env X.xe) (ht : PT X e (tT C W c)) (hb : PSs X b (tSs C W lks cb)) : PS X (.While e b [] pos) (tS C W lks (.whl c cb)) := ps_imp (ps_while hp ht hb) fun D σ H ⟨ob, F, s, o, R, e, p⟩ => by
  have e : loop (fun s => evT C.Γ c s) (fun s => execs C.Γ C.n lks C.oc cb s) s = some o := by rw [← e]; show _ = exec C.Γ C.n lks C.oc (.whl c cb) s; rw [exec]
  obtain ⟨n, hn⟩ := of_loop e
  refine ⟨fun m σ H => ∃ ob F1 s, SR C ob F1 H σ s ∧ Same F F1 ∧ loopN m (fun s => evT C.Γ c s) (fun s => execs C.Γ C.n lks C.oc cb s) s = some o, ⟨n, ob, F, s, R, same_refl F, hn⟩, ?_⟩
  rintro m σ1 H1 ⟨ob1, F1, s1, R1, m1, h1⟩
  have p1 := p.mono m1
  cases m with
  | zero => cases h1
  | succ m =>
    unfold loopN at h1
    dsimp only at h1
    cases et : evT C.Γ c s1 with
    | none => rw [et] at h1; cases h1
    | some r =>
      rw [et] at h1
      refine ⟨ob1, F1, s1, r, R1, et, ?_⟩
      cases r with
      | ex k s2 => cases h1; exact fun F2 H2 R2 m2 => p1 ob1 F2 H2 σ1 R2 m2
      | ok k s2 =>
        cases k with
        | false =>
          cases h1
          intro u F2 H2 R2 m2 hu
          obtain rfl : u = false := hu
          rw [if_neg Bool.false_ne_true]
          exact p1 ob1 F2 H2 σ1 R2 m2
        | true =>
          dsimp only at h1
          intro u F2 H2 R2 m2 hu
          obtain rfl : u = true := hu
          rw [if_pos rfl]
          refine ⟨fun σ H => ∃ ob F1 s, SR C ob F1 H σ s ∧ Same F F1 ∧ loopN m (fun s => evT C.Γ c s) (fun s => execs C.Γ C.n lks C.oc cb s) s = some o, fun σ' H' h => ⟨m, by omega, h⟩, ?_⟩
          cases eb : execs C.Γ C.n lks C.oc cb s2 with
          | none => rw [eb] at h1; cases h1
          | some o2 =>
            rw [eb] at h1
            refine ⟨ob1, F2, s2, o2, R2, eb, ?_⟩
            have p2 := p1.mono m2
            cases o2 with
            | nx s3 => exact fun ob' F' H' σ' R' m' => ⟨ob', F', s3, R', (m1.trans m2).trans m', h1⟩
            | ct s3 => exact fun ob' F' H' σ' R' m' => ⟨ob', F', s3, R', (m1.trans m2).trans m', h1⟩
            | bk s3 => cases h1; exact p2
            | rt a s3 => cases h1; exact p2
            | ex k s3 => cases h1; exact p2
theorem qs_for {x : Str} {px : Pos} {i : Nat} {k : It} {b : List Stmt} {cb : List CS} (hp : PassesOwn (model X.prog X.w) X.A X.env X.xe) (hc : X.calm = true) (hN : X.N.Nodup) (hi : X.N[i]? = some x) (hin : i < C.n) (LK : ∀ i, i ∉ lks → C.lk i = none) (hos : i ≠ C.os) (hx : Loc X.env.scope x) (hf : X.fn x = true ∨ X.env.scope.names.lookup x = some .local)
    (he : PI X (.Name x px) e (tI C W fun s => srcOf (forItems k) (ev C.Γ c s))) (hb : PSs X b (tSs C W lks cb)) (hs : ∀ v, foldedSetIterable e X.env v = pure v) : PS X (.For (.Name x px) e b [] pos) (tS C W lks (.for i k c cb)) :=
  ps_imp (ps_for hp hc he (pg_name hN hi hx hf) hb hs) fun D σ H ⟨ob, F, s, o, R, e, p⟩ => by
  have e : (outR (srcOf (forItems k) (ev C.Γ c s)) fun ds s => if i < C.n ∧ i ∉ lks then forL (fun d s => s.set i (.val d)) (fun s => execs C.Γ C.n lks C.oc cb s) ds s else none) = some o := by rw [← e]; show _ = exec C.Γ C.n lks C.oc (.for i k c cb) s; rw [exec]
  refine stepS R e p fun ds s1 J F1 H1 e1 R1 m1 wk e2 p1 => ?_
  split at e2
  · rename_i hl
    have hlk := LK i hl.2
    refine ⟨fun t m σ H => m = ds.length - t ∧ t ≤ ds.length ∧ ∃ ob F2 s, SR C ob F2 H σ s ∧ Same F1 F2 ∧ forL (fun d s => s.set i (.val d)) (fun s => execs C.Γ C.n lks C.oc cb s) (ds.drop t) s = some o,
      ⟨ds.length, by simp, Nat.zero_le _, ob, F1, s1, R1, same_refl F1, by rw [List.drop_zero]; exact e2⟩, ?_⟩
    rintro t m σ2 H2 ⟨rfl, ht, ob2, F2, s2, R2, m2, h2⟩
    have sF : Same F1 H2 := m2.trans R2.sub
    have p2 := p1.mono m2
    by_cases hlt : t < ds.length
    · refine .inr ⟨wk.go t H2 sF hlt, fun σ H => t + 1 ≤ ds.length ∧ ∃ ob F2 s, SR C ob F2 H σ s ∧ Same F1 F2 ∧ forL (fun d s => s.set i (.val d)) (fun s => execs C.Γ C.n lks C.oc cb s) (ds.drop (t + 1)) s = some o,
        fun σ' H' h => ⟨ds.length - (t + 1), by omega, rfl, h.1, h.2⟩, fun xv H' y => ?_⟩
      obtain ⟨rfl, d, hd, rd⟩ := wk.yld t H2 xv H' sF hlt y
      have hdrop : ds.drop t = d :: ds.drop (t + 1) := by
        rw [List.drop_eq_getElem_cons hlt]
        congr 1
        rw [List.getElem?_eq_getElem hlt] at hd
        exact Option.some.inj hd
      rw [hdrop] at h2
      have R3 := R2.setv (v := xv) (c := .val d) hin hos hlk rfl ⟨xv, rfl, rd.mono m2⟩
      unfold forL at h2
      cases eb : execs C.Γ C.n lks C.oc cb (s2.set i (.val d)) with
      | none => rw [eb] at h2; cases h2
      | some o2 =>
        rw [eb] at h2
        show tSs C W lks cb _ (σ2.set i (some xv)) H'
        refine ⟨ob2, F2, _, o2, R3, eb, ?_⟩
        cases o2 with
        | nx s3 => exact fun ob' F' H' σ' R' m' => ⟨hlt, ob', F', s3, R', m2.trans m', h2⟩
        | ct s3 => exact fun ob' F' H' σ' R' m' => ⟨hlt, ob', F', s3, R', m2.trans m', h2⟩
        | bk s3 => cases h2; exact p2
        | rt a s3 => cases h2; exact p2
        | ex k s3 => cases h2; exact p2
    · have : t = ds.length := by omega
      subst this
      rw [List.drop_length] at h2
      cases h2
      exact .inl ⟨wk.stop _ H2 sF (Nat.le_refl _), p2 ob2 F2 H2 σ2 R2 (same_refl F2)⟩
  · cases e2
/-- a place in a list is set -/
theorem ixN_len {n : Nat} {j : Int} {m : Nat} (h : ixN n j = some m) : m < n := by
  unfold ixN at h
  split at h <;> (try (split at h)) <;> first | (cases h; omega) | cases h
theorem qs_sub {eo ei : Expr} {co ci : CE} {tpos : Pos} (he : PE X e (tE C W c)) (ho : PE X eo (tE C W co)) (hi : PE X ei (tE C W ci)) (hs : swapsWithSole [.Subscript eo ei tpos] e pos.line X.env = pure false) (hw : swappedStores [.Subscript eo ei tpos] e X.env = pure none)
    (h1 : (assignEach [.Subscript eo ei tpos] X.env).map (·.2) = [assign (.Subscript eo ei tpos) X.env])
    (ha : ∀ v, assign (.Subscript eo ei tpos) X.env v = (do
      let ov ← holding [v] (eval eo X.env)
      let iv ← holding [v, ov] (eval ei X.env)
      standAt tpos
      holding [v, ov, iv] (setItem ov iv v)
      release [v, ov, iv] [])) : PS X (.Assign [.Subscript eo ei tpos] e pos) (tS C W lks (.sub co ci c)) :=
  ps_imp (ps_asg (toV_of he) (pg_sub ho (toV_of hi) set_list ha) hs hw h1) fun D σ H ⟨ob, F, s, o, R, e, p⟩ => by
  have e : (outR (toV (ev C.Γ c s)) fun d s => outR (ev C.Γ co s) fun o s => match o with
    | .pt k => outR (toV (ev C.Γ ci s)) fun j s => (match j, gt s k with
      | .int j, .lst xs => (L2.ixN xs.length j).map fun m => .nx (s.set k (.lst (xs.set m d)))
      | _, _ => none)
    | _ => none) = some o := by rw [← e]; show _ = exec C.Γ C.n lks C.oc (.sub co ci c) s; rw [exec] <;> rfl
  refine stepS R e p fun d s1 u F1 H1 e1 R1 m1 q1 e2 p1 => ?_
  refine stepS R1 e2 p1 fun r s2 l F2 H2 e3 R2 m2 q2 e4 p2 => ?_
  cases r with
  | fr c => cases e4
  | pt k =>
    refine stepS R2 e4 p2 fun j s3 w F3 H3 e5 R3 m3 q3 e6 p3 => ?_
    obtain ⟨q2a, _⟩ := q2
    cases j with
    | int j =>
      have e6 : (match gt s3 k with
        | .lst xs => (L2.ixN xs.length j).map fun m => Out.nx (s3.set k (.lst (xs.set m d)))
        | _ => none) = some o := by
        rw [← e6]
        cases gt s3 k <;> rfl
      have cr := R3.cr k
      rw [q2a] at cr
      cases eg : gt s3 k with
      | lst xs =>
        rw [eg] at e6 cr
        obtain ⟨a, vs, z1, z2, z3, z4, z5⟩ := cr
        cases z1
        cases ei : L2.ixN xs.length j with
        | none =>
          dsimp only at e6
          rw [ei] at e6; cases e6
        | some m =>
          dsimp only at e6
          rw [ei] at e6; cases e6
          have ru : Rep C.K C.ca F3 u d := Rep.mono (m2.trans m3) q1
          have R4 := R3.mut eg rfl rfl q2a (c' := .lst (xs.set m d)) (o := .lst (vs.set m u)) ⟨a, _, rfl, upd_same, z3.set ru m, z4, z5⟩
          exact ⟨a, vs, j, m, rfl, rep_int q3, z2, by rw [z3.length]; exact ei, p3 ob F3 _ σ R4 (same_refl F3)⟩
      | _ => rw [eg] at e6; cases e6
    | _ => cases e6
end
end Mi
namespace Mi
open PySem PySem.Spec PyProof.Rows L2
/-! ### a def's entry and its end -/
section
variable {K : PySem.W.Frag} {ca : Nat → Addr} {F H : Hp}
theorem cgs_at : ∀ {us : List V} {cs : List Cl} {fp : List Addr}, CGs K ca F H us cs fp → ∀ {p : Nat} {c : Cl}, cs[p]? = some c → ∃ u, us[p]? = some u ∧ CG K ca F H u c ∧ ∀ a ∈ cadr u c, a ∈ fp
  | [], [], fp, h, p, c, e => by simp at e
  | u :: us, c :: cs, fp, ⟨f, g, e1, r⟩, 0, c', e => by
    have e : c = c' := by simpa using e
    subst e
    exact ⟨u, rfl, g, fun a ha => by rw [e1]; exact List.mem_append_left _ ha⟩
  | u :: us, c :: cs, fp, ⟨f, g, e1, r⟩, p + 1, c', e => by
    obtain ⟨v, h1, h2, h3⟩ := cgs_at r (p := p) (c := c') (by simpa using e)
    exact ⟨v, by simpa using h1, h2, fun a ha => by rw [e1]; exact List.mem_append_right _ (h3 a ha)⟩
  | [], _ :: _, _, h, _, _, _ => h.elim
  | _ :: _, [], _, h, _, _, _ => h.elim
theorem cgs_inj : ∀ {us : List V} {cs : List Cl} {fp : List Addr}, CGs K ca F H us cs fp → fp.Nodup → ∀ {p q : Nat} {c d : Cl} {a : Addr}, cs[p]? = some c → cs[q]? = some d → c.own = true → d.own = true → us[p]? = some (.ref a) → us[q]? = some (.ref a) → p = q
  | [], [], fp, h, _, p, q, c, d, a, e, _, _, _, _, _ => by simp at e
  | u :: us, c :: cs, fp, ⟨f, g, e1, r⟩, nd, p, q, c1, d1, a, h1, h2, o1, o2, v1, v2 => by
    rw [e1] at nd
    obtain ⟨n1, n2, n3⟩ := List.nodup_append.mp nd
    have key : ∀ {q : Nat} {d1 : Cl}, c.own = true → u = .ref a → cs[q]? = some d1 → d1.own = true → us[q]? = some (.ref a) → False := fun {q d1} oc hu h2 o2 v2 => by
      obtain ⟨w, z1, z2, z3⟩ := cgs_at r h2
      rw [v2] at z1; cases z1
      refine n3 a ?_ a (z3 a (by rw [cadr_of o2]; exact List.mem_singleton.mpr rfl)) rfl
      rw [hu, cadr_of oc]
      exact List.mem_singleton.mpr rfl
    cases p with
    | zero =>
      cases q with
      | zero => rfl
      | succ q =>
        have e1 : c = c1 := by simpa using h1
        subst e1
        exact (key o1 (by simpa using v1) (by simpa using h2) o2 (by simpa using v2)).elim
    | succ p =>
      cases q with
      | zero =>
        have e1 : c = d1 := by simpa using h2
        subst e1
        exact (key o2 (by simpa using v2) (by simpa using h1) o1 (by simpa using v1)).elim
      | succ q => rw [cgs_inj r n2 (p := p) (q := q) (by simpa using h1) (by simpa using h2) o1 o2 (by simpa using v1) (by simpa using v2)]
  | [], _ :: _, _, h, _, _, _, _, _, _, _, _, _, _, _, _ => h.elim
  | _ :: _, [], _, h, _, _, _, _, _, _, _, _, _, _, _, _ => h.elim
theorem ags_cgs : ∀ {us : List V} {gs : List Ag} {cs : List Cl} {fp : List Addr}, AgsR K ca F H us gs fp → clsOf gs = some cs → CGs K ca F H us cs fp ∧ gs = cs.map Ag.cl
  | [], [], cs, fp, h, e => by cases e; exact ⟨h, rfl⟩
  | u :: us, .cl c :: gs, cs, fp, ⟨f1, f2, g, e1, r⟩, e => by
    unfold clsOf at e
    cases q : clsOf gs with
    | none => rw [q] at e; cases e
    | some ds =>
      rw [q] at e; cases e
      obtain ⟨h1, h2⟩ := ags_cgs r q
      exact ⟨⟨f2, g.1, by rw [e1, g.2], h1⟩, by rw [h2]; rfl⟩
  | u :: us, .obj c xs :: gs, cs, fp, h, e => by cases e
  | [], _ :: _, _, _, h, _ => h.elim
  | _ :: _, [], _, _, h, _ => h.elim
theorem cgs_len : ∀ {us : List V} {cs : List Cl} {fp : List Addr}, CGs K ca F H us cs fp → us.length = cs.length
  | [], [], _, _ => rfl
  | u :: us, c :: cs, fp, ⟨f, g, e1, r⟩ => by rw [List.length_cons, List.length_cons, cgs_len r]
  | [], _ :: _, _, h => h.elim
  | _ :: _, [], _, h => h.elim
theorem CG.fz {u : V} {c : Cl} (h : CG K ca F H u c) : c.fz.isSome = true := by cases c <;> first | rfl | exact h.elim
end
/-- the state at an entry: slot i holds the pos i -th of the things that came -/
theorem entry_sr {C : Cn} {ob : Option OB} {F H : Hp} {σ : L2.St} {s : S} {us : List V} {cs : List Cl} {fp : List Addr} (g : CGs C.K C.ca F H us cs fp) (nd : fp.Nodup) (hF : ∀ a ∈ fp, F a = none) (hwd : C.wd.F = F ∧ C.wd.H = H) (hT : ∀ a ∈ fp, C.wd.T a) (sF : Same F H)
    (pos : Nat → Option Nat) (pinj : ∀ i j p, pos i = some p → pos j = some p → i = j) (h1 : ∀ i p, pos i = some p → ∃ c, cs[p]? = some c ∧ gt s i = c ∧ vAt C σ ob i = us[p]?) (h0 : ∀ i, pos i = none → gt s i = .un) (len : σ.length = C.n) (lk : ∀ i v, C.lk i = some v → σ[i]? = some (some v))
    (ob0 : ob = none → ∀ i, C.n ≤ i → gt s i = .un) (ob1 : ∀ o, ob = some o → H o.a = some (.ins (C.ca C.oc) o.dx ((flds C.oc).zip o.vs)) ∧ F o.a = none ∧ C.Fr o.a ∧ o.vs.length ≤ (flds C.oc).length ∧
    (∀ j, o.vs.length ≤ j → gt s (C.n + j) = .un) ∧ (∀ j, j < o.vs.length → gt s (C.n + j) ≠ .un) ∧ σ[C.os]? = some (some (.ref o.a))) (mo : C.mo = true → ob ≠ none) : SR C ob F H σ s := by
  refine ⟨by rw [hwd.1, hwd.2]; exact Ex.refl sF, len, fun i => ?_, fun i j a o1 o2 v1 v2 => ?_, lk, ob0, ob1, mo⟩
  · cases e : pos i with
    | none => rw [h0 i e]; trivial
    | some p =>
      obtain ⟨c, q1, q2, q3⟩ := h1 i p e
      obtain ⟨u, z1, z2, z3⟩ := cgs_at g q1
      rw [q2, q3, z1]
      exact (z2.cr fun a ha => .inl (hT a (z3 a ha))).1
  · cases e : pos i with
    | none => rw [h0 i e] at o1; cases o1
    | some p =>
      cases e' : pos j with
      | none => rw [h0 j e'] at o2; cases o2
      | some q =>
        obtain ⟨c, q1, q2, q3⟩ := h1 i p e
        obtain ⟨d, w1, w2, w3⟩ := h1 j q e'
        rw [q2] at o1
        rw [w2] at o2
        have := cgs_inj g nd q1 w1 o1 o2 (q3.symm.trans v1) (w3.symm.trans v2)
        subst this
        exact pinj i j _ e e'
/-- what was lent comes back -/
theorem outs_of {C : Cn} {ob : Option OB} {F H : Hp} {σ : L2.St} {s : S} (R : SR C ob F H σ s) : ∀ (vs : List V) (cs : List Cl) (i : Nat), vs.length = cs.length → i + cs.length ≤ C.n → (∀ j c v, cs[j]? = some c → c.own = true → vs[j]? = some v → σ[i + j]? = some (some v)) → okOuts C.n s (cs.map Ag.cl) i = true →
    ∃ fo, OutR C.K C.ca F H vs (cs.map Ag.cl) (outs s cs.length i) fo ∧ fo.Nodup ∧ ∀ a ∈ fo, F a = none ∧ C.Fr a ∧ ∃ k, i ≤ k ∧ k < i + cs.length ∧ (gt s k).own = true ∧ vAt C σ ob k = some (.ref a)
  | [], [], i, _, _, _, _ => ⟨[], rfl, List.nodup_nil, fun a h => nomatch h⟩
  | v :: vs, c :: cs, i, hl, hn, hσ, hok => by
    have hok : ((!c.own || (gt s i).fz.isSome) && okOuts C.n s (cs.map Ag.cl) (i + 1)) = true := hok
    rw [Bool.and_eq_true] at hok
    rw [List.length_cons] at hn
    obtain ⟨fo, h1, h2, h3⟩ := outs_of R vs cs (i + 1) (by simpa using hl) (by omega) (fun j c v h1 h2 h3 => by
      have := hσ (j + 1) c v (by simpa using h1) h2 (by simpa using h3)
      rw [show i + 1 + j = i + (j + 1) by omega]; exact this) hok.2
    by_cases hc : c.own = true
    · have hs := hσ 0 c v rfl hc rfl
      rw [Nat.add_zero] at hs
      have hz : (gt s i).fz.isSome = true := by have := hok.1; rw [hc] at this; simpa using this
      have hv : vAt C σ ob i = some v := (vAt_lt (by omega)).mpr hs
      have cr := R.cr i
      rw [hv] at cr
      have g := cr.cg hz
      refine ⟨cadr v (gt s i) ++ fo, ?_, ?_, fun a ha => ?_⟩
      · show (if c.own = true then ∃ c' os' f, outs s (cs.length + 1) i = .cl c' :: os' ∧ CG C.K C.ca F H v c' ∧ (cadr v (gt s i) ++ fo) = cadr v c' ++ f ∧ OutR C.K C.ca F H vs (cs.map Ag.cl) os' f else _)
        rw [if_pos hc]
        exact ⟨gt s i, outs s cs.length (i + 1), fo, rfl, g, rfl, h1⟩
      · refine List.nodup_append.mpr ⟨?_, h2, fun a ha b hb e => ?_⟩
        · unfold cadr; split <;> simp
        · subst e
          obtain ⟨o1, rfl⟩ := cadr_own ha
          obtain ⟨_, _, k, k1, k2, k3, k4⟩ := h3 a hb
          have := R.inj i k a o1 k3 hv k4
          omega
      · rcases List.mem_append.mp ha with ha | ha
        · obtain ⟨o1, rfl⟩ := cadr_own ha
          obtain ⟨z1, z2, _⟩ := R.own_some o1 hv
          exact ⟨z1, z2, i, Nat.le_refl _, by rw [List.length_cons]; omega, o1, hv⟩
        · obtain ⟨z1, z2, k, k1, k2, k3, k4⟩ := h3 a ha
          exact ⟨z1, z2, k, by omega, by rw [List.length_cons]; omega, k3, k4⟩
    · refine ⟨fo, ?_, h2, fun a ha => ?_⟩
      · show (if c.own = true then _ else ∃ o os', outs s (cs.length + 1) i = o :: os' ∧ OutR C.K C.ca F H vs (cs.map Ag.cl) os' fo)
        rw [if_neg hc]
        exact ⟨_, _, rfl, h1⟩
      · obtain ⟨z1, z2, k, k1, k2, k3, k4⟩ := h3 a ha
        exact ⟨z1, z2, k, by omega, by rw [List.length_cons]; omega, k3, k4⟩
  | [], _ :: _, _, h, _, _, _ => by simp at h
  | _ :: _, [], _, h, _, _, _ => by simp at h
end Mi
namespace Mi
open PySem PySem.Spec PyProof.Rows L2
def isUn : Cl → Bool
  | .un => true
  | _ => false
theorem ghosts_eq (n : Nat) (s : S) : ghosts n s = (s.drop n).takeWhile fun c => !isUn c := by
  unfold ghosts
  congr 1
  funext c
  cases c <;> rfl
theorem take_run : ∀ (l : List Cl) (k : Nat), (∀ j, j < k → l.getD j .un ≠ .un) → l.getD k .un = .un → (l.takeWhile fun c => !isUn c) = (List.range k).map fun j => l.getD j .un
  | [], 0, _, _ => rfl
  | [], k + 1, h, _ => absurd rfl (h 0 (by omega))
  | c :: l, 0, _, h => by
    have h : c = .un := h
    subst h
    rfl
  | c :: l, k + 1, h, e => by
    have hc : isUn c = false := by
      have := h 0 (by omega)
      cases c <;> first | rfl | exact absurd rfl this
    rw [List.takeWhile_cons_of_pos (by rw [hc]; rfl), List.range_succ_eq_map, List.map_cons, List.map_map]
    congr 1
    exact take_run l k (fun j hj => by have := h (j + 1) (by omega); exact this) e
theorem gt_drop {s : S} {n j : Nat} : (s.drop n).getD j .un = gt s (n + j) := by
  unfold gt
  rw [List.getD_eq_getElem?_getD, List.getD_eq_getElem?_getD, List.getElem?_drop]
section
variable {C : Cn} {ob : Option OB} {F H : Hp} {σ : L2.St} {s : S}
theorem ghosts_of (R : SR C ob F H σ s) {o : OB} (ho : ob = some o) : ghosts C.n s = (List.range o.vs.length).map fun j => gt s (C.n + j) := by
  obtain ⟨_, _, _, _, h5, h6, _⟩ := R.ob1 o ho
  rw [ghosts_eq, take_run _ o.vs.length (fun j hj => by rw [gt_drop]; exact h6 j hj) (by rw [gt_drop]; exact h5 _ (Nat.le_refl _))]
  exact List.map_congr_left fun j _ => gt_drop
/-- slots in a row: their things -/
theorem run_cgs (R : SR C ob F H σ s) : ∀ (us : List V) (i : Nat), (∀ j u, us[j]? = some u → vAt C σ ob (i + j) = some u) → (∀ j, j < us.length → (gt s (i + j)).fz.isSome = true) →
    ∃ f, CGs C.K C.ca F H us ((List.range us.length).map fun j => gt s (i + j)) f ∧ f.Nodup ∧ ∀ a ∈ f, F a = none ∧ C.Fr a ∧ ∃ k, i ≤ k ∧ (gt s k).own = true ∧ vAt C σ ob k = some (.ref a)
  | [], i, _, _ => ⟨[], rfl, List.nodup_nil, fun a h => nomatch h⟩
  | u :: us, i, hv, hz => by
    obtain ⟨f, h1, h2, h3⟩ := run_cgs R us (i + 1) (fun j v h => by have := hv (j + 1) v (by simpa using h); rw [show i + 1 + j = i + (j + 1) by omega]; exact this)
      (fun j hj => by have := hz (j + 1) (by rw [List.length_cons]; omega); rw [show i + 1 + j = i + (j + 1) by omega]; exact this)
    have v0 := hv 0 u rfl
    have z0 := hz 0 (by rw [List.length_cons]; omega)
    rw [Nat.add_zero] at v0 z0
    have cr := R.cr i
    rw [v0] at cr
    have g := cr.cg z0
    have e : ((List.range (u :: us).length).map fun j => gt s (i + j)) = gt s i :: (List.range us.length).map fun j => gt s (i + 1 + j) := by
      rw [List.length_cons, List.range_succ_eq_map, List.map_cons, List.map_map, Nat.add_zero]
      congr 1
      exact List.map_congr_left fun j _ => by show gt s (i + (j + 1)) = _; rw [show i + 1 + j = i + (j + 1) by omega]
    rw [e]
    refine ⟨cadr u (gt s i) ++ f, ⟨f, g, rfl, h1⟩, List.nodup_append.mpr ⟨by unfold cadr; split <;> simp, h2, fun a ha b hb e => ?_⟩, fun a ha => ?_⟩
    · subst e
      obtain ⟨o1, rfl⟩ := cadr_own ha
      obtain ⟨_, _, k, k1, k3, k4⟩ := h3 a hb
      have := R.inj i k a o1 k3 v0 k4
      omega
    · rcases List.mem_append.mp ha with ha | ha
      · obtain ⟨o1, rfl⟩ := cadr_own ha
        obtain ⟨z1, z2, _⟩ := R.own_some o1 v0
        exact ⟨z1, z2, i, Nat.le_refl _, o1, v0⟩
      · obtain ⟨z1, z2, k, k1, k3, k4⟩ := h3 a ha
        exact ⟨z1, z2, k, by omega, k3, k4⟩
/-- the object that is bound -/
theorem obj_of (R : SR C ob F H σ s) {o : OB} (ho : ob = some o) (hz : ((ghosts C.n s).all fun c => c.fz.isSome) = true) : ∃ f, AgR C.K C.ca F H (.ref o.a) (.obj C.oc (ghosts C.n s)) (o.a :: f) ∧ (o.a :: f).Nodup ∧
    ∀ a ∈ f, F a = none ∧ C.Fr a ∧ ∃ k, C.n ≤ k ∧ (gt s k).own = true ∧ vAt C σ ob k = some (.ref a) := by
  have eg := ghosts_of R ho
  obtain ⟨q1, q2, q3, q4, q5, q6, q7⟩ := R.ob1 o ho
  obtain ⟨f, h1, h2, h3⟩ := run_cgs R o.vs C.n (fun j u h => by unfold vAt; rw [if_neg (by omega), ho]; rw [show C.n + j - C.n = j by omega]; exact h) (fun j hj => by
    rw [eg] at hz
    exact List.all_eq_true.mp hz _ (List.mem_map.mpr ⟨j, List.mem_range.mpr hj, rfl⟩))
  refine ⟨f, ⟨o.a, o.dx, o.vs, f, rfl, q1, q2, q4, ?_, rfl⟩, List.nodup_cons.mpr ⟨fun hm => ?_, h2⟩, h3⟩
  · rw [eg]; exact h1
  · obtain ⟨_, _, k, _, k3, k4⟩ := h3 _ hm
    exact R.own_ob k3 k4 ho rfl
end
def lkOf (l : List Nat) (vs : List V) (i : Nat) : Option V := if i ∈ l then vs[i]? else none
theorem lent_mem : ∀ (cs : List Cl) (i k : Nat), k ∈ lent (cs.map Ag.cl) i ↔ ∃ j c, k = i + j ∧ cs[j]? = some c ∧ c.own = true
  | [], i, k => by simp [lent]
  | c :: cs, i, k => by
    have ih := lent_mem cs (i + 1) k
    have sh : (∃ j d, k = i + 1 + j ∧ cs[j]? = some d ∧ d.own = true) → ∃ j d, k = i + j ∧ (c :: cs)[j]? = some d ∧ d.own = true := fun ⟨j, d, h1, h2, h3⟩ => ⟨j + 1, d, by omega, by simpa using h2, h3⟩
    have hs : (∃ j d, k = i + j ∧ (c :: cs)[j]? = some d ∧ d.own = true) → (k = i ∧ c.own = true) ∨ ∃ j d, k = i + 1 + j ∧ cs[j]? = some d ∧ d.own = true := fun ⟨j, d, h1, h2, h3⟩ => by
      cases j with
      | zero =>
        have e : c = d := by simpa using h2
        subst e
        exact .inl ⟨by omega, h3⟩
      | succ j => exact .inr ⟨j, d, by omega, by simpa using h2, h3⟩
    rw [List.map_cons]
    unfold lent
    by_cases hc : c.own = true
    · rw [if_pos hc, List.mem_cons, ih]
      constructor
      · rintro (h | h)
        · exact ⟨0, c, by omega, rfl, hc⟩
        · exact sh h
      · intro h
        rcases hs h with h | h
        · exact .inl h.1
        · exact .inr h
    · rw [if_neg hc, ih]
      exact ⟨sh, fun h => (hs h).elim (fun z => absurd z.2 hc) id⟩
theorem start_at {N : List Str} {vs : List V} {i : Nat} (h : vs.length ≤ N.length) : (L2.start N vs)[i]? = if i < vs.length then (vs[i]?).map some else if i < N.length then some none else none := by
  unfold L2.start
  split
  · rename_i hi
    rw [List.getElem?_append_left (by rw [List.length_map]; exact hi), List.getElem?_map]
  · rename_i hi
    rw [List.getElem?_append_right (by rw [List.length_map]; omega), List.length_map]
    split
    · rename_i h2
      rw [List.getElem?_replicate, if_pos (by omega)]
    · rename_i h2
      rw [List.getElem?_replicate, if_neg (by omega)]
theorem gt_app {a b : S} {i : Nat} : gt (a ++ b) i = if i < a.length then gt a i else gt b (i - a.length) := by
  unfold gt
  rw [List.getD_eq_getElem?_getD, List.getD_eq_getElem?_getD, List.getD_eq_getElem?_getD]
  split
  · rename_i h; rw [List.getElem?_append_left h]
  · rename_i h; rw [List.getElem?_append_right (by omega)]
theorem gt_rep {n i : Nat} : gt (List.replicate n Cl.un) i = .un := by
  unfold gt
  rw [List.getD_eq_getElem?_getD, List.getElem?_replicate]
  split <;> rfl
/-- what the end of a body gives -/
theorem end_cl {C : Cn} {ob : Option OB} {F0 H0 F H : Hp} {σ : L2.St} {s : S} {vs : List V} {cs : List Cl} {fp : List Addr} {u : V} {c : Cl} {Q : VK} {E : XK} (hwd : C.wd = ⟨(· ∈ fp), F0, H0⟩) (R : SR C ob F H σ s) (hl : vs.length = cs.length) (hn : cs.length ≤ C.n)
    (hσ : ∀ (j : Nat) (c : Cl) (v : V), cs[j]? = some c → c.own = true → vs[j]? = some v → σ[j]? = some (some v)) (hok : okOuts C.n s (cs.map Ag.cl) 0 = true) (hr : RF C ob F H σ s u c) (p : PostF C.K C.ca C.cv F0 H0 vs (cs.map Ag.cl) fp Q E (.ok (.cl c) (outs s cs.length 0))) : Q u H := by
  obtain ⟨fo, h1, h2, h3⟩ := outs_of R vs cs 0 hl (by omega) (fun j c v a b d => by rw [Nat.zero_add]; exact hσ j c v a b d) hok
  obtain ⟨r1, r2, r3⟩ := hr
  have fr : ∀ a, C.Fr a → a ∈ fp ∨ H0 a = none := fun a h => by
    unfold Cn.Fr at h
    rw [hwd] at h
    exact h
  have ex := R.ex
  rw [hwd] at ex
  refine p u F H fo (cadr u c) ex h1 ⟨r1.cg r2, rfl⟩ (List.nodup_append.mpr ⟨h2, by unfold cadr; split <;> simp, fun a ha b hb e => ?_⟩) fun a ha => ?_
  · subst e
    obtain ⟨o1, rfl⟩ := cadr_own hb
    obtain ⟨_, _, k, _, _, k3, k4⟩ := h3 a ha
    exact r3 o1 k k3 k4
  · rcases List.mem_append.mp ha with ha | ha
    · obtain ⟨z1, z2, _⟩ := h3 a ha
      exact ⟨z1, fr a z2⟩
    · obtain ⟨o1, rfl⟩ := cadr_own ha
      obtain ⟨b, e, z1, z2, _⟩ := r1.own_at o1
      cases e
      exact ⟨z1, fr a z2⟩
theorem end_obj {C : Cn} {ob : Option OB} {o : OB} {F0 H0 F H : Hp} {σ : L2.St} {s : S} {vs : List V} {cs : List Cl} {fp : List Addr} {Q : VK} {E : XK} (hwd : C.wd = ⟨(· ∈ fp), F0, H0⟩) (R : SR C ob F H σ s) (ho : ob = some o) (hl : vs.length = cs.length) (hn : cs.length ≤ C.n)
    (hσ : ∀ (j : Nat) (c : Cl) (v : V), cs[j]? = some c → c.own = true → vs[j]? = some v → σ[j]? = some (some v)) (hok : okOuts C.n s (cs.map Ag.cl) 0 = true) (hz : ((ghosts C.n s).all fun c => c.fz.isSome) = true) (p : PostF C.K C.ca C.cv F0 H0 vs (cs.map Ag.cl) fp Q E (.ok (.obj C.oc (ghosts C.n s)) (outs s cs.length 0))) : Q (.ref o.a) H := by
  obtain ⟨fo, h1, h2, h3⟩ := outs_of R vs cs 0 hl (by omega) (fun j c v a b d => by rw [Nat.zero_add]; exact hσ j c v a b d) hok
  obtain ⟨f, g1, g2, g3⟩ := obj_of R ho hz
  have fr : ∀ a, C.Fr a → a ∈ fp ∨ H0 a = none := fun a h => by
    unfold Cn.Fr at h
    rw [hwd] at h
    exact h
  have ex := R.ex
  rw [hwd] at ex
  obtain ⟨q1, q2, q3, _⟩ := R.ob1 o ho
  refine p _ F H fo (o.a :: f) ex h1 g1 (List.nodup_append.mpr ⟨h2, g2, fun a ha b hb e => ?_⟩) fun a ha => ?_
  · subst e
    obtain ⟨_, _, k, _, kn, k3, k4⟩ := h3 a ha
    rcases List.mem_cons.mp hb with rfl | hb
    · exact R.own_ob k3 k4 ho rfl
    · obtain ⟨_, _, k', kk, k5, k6⟩ := g3 a hb
      have := R.inj k k' a k3 k5 k4 k6
      omega
  · rcases List.mem_append.mp ha with ha | ha
    · obtain ⟨z1, z2, _⟩ := h3 a ha
      exact ⟨z1, fr a z2⟩
    · rcases List.mem_cons.mp ha with rfl | ha
      · exact ⟨q2, fr _ q3⟩
      · obtain ⟨z1, z2, _⟩ := g3 a ha
        exact ⟨z1, fr a z2⟩
/-- a def that is no method: from its promise to its body's reading -/
theorem spG_run {K : PySem.W.Frag} {ca cv : Nat → Addr} {Γ : Env} {fd : FD} {N : List Str} {os : Nat} {vs : List V} {H : Hp} {Q : VK} {E : XK} (hm : fd.meth = false) (hn : fd.n = N.length) (hle : fd.np ≤ fd.n) (h : spG K ca cv fd.np (runF Γ fd) vs H Q E) :
    ∃ (C : Cn) (lks : List Nat), C.K = K ∧ C.Γ = Γ ∧ C.n = N.length ∧ C.oc = fd.oc ∧ C.os = os ∧ C.cv = cv ∧ C.ca = ca ∧ (∀ i, i ∉ lks → C.lk i = none) ∧ C.xa = none ∧ C.mo = false ∧ tSs C (fun cls d _ H => E cls d H) lks fd.body { nx := fun _ H' => Q .non H', rt := Q } (L2.start N vs) H := by
  obtain ⟨F, ags, fp, r, sF, hA, nd, hf, hv, er, p⟩ := h
  unfold runF entry at er
  rw [hm] at er
  dsimp only at er
  cases ec : clsOf ags with
  | none => rw [ec] at er; cases er
  | some cs =>
    rw [ec, Option.bind_some] at er
    obtain ⟨hg, rfl⟩ := ags_cgs hA ec
    have hl := cgs_len hg
    have hcl : cs.length = fd.np := by omega
    rw [if_pos hcl, Option.bind_some] at er
    let C : Cn := ⟨K, Γ, N.length, ⟨(· ∈ fp), F, H⟩, lkOf (lent (cs.map Ag.cl) 0) vs, fd.oc, os, cv, ca, none, false⟩
    have hvN : vs.length ≤ N.length := by omega
    have lkσ : ∀ i v, C.lk i = some v → (L2.start N vs)[i]? = some (some v) := fun i v h => by
      have h : (if i ∈ lent (cs.map Ag.cl) 0 then vs[i]? else none) = some v := h
      split at h
      · have hi : i < vs.length := by
          rcases Nat.lt_or_ge i vs.length with z | z
          · exact z
          · rw [List.getElem?_eq_none z] at h; cases h
        rw [start_at hvN, if_pos hi, h]; rfl
      · cases h
    have R : SR C none F H (L2.start N vs) (cs ++ List.replicate (N.length - fd.np) .un ++ List.replicate fd.nf .un) := by
      refine entry_sr (C := C) hg nd hf ⟨rfl, rfl⟩ (fun a ha => ha) sF (fun i => if i < cs.length then some i else none) (fun i j p h1 h2 => ?_) (fun i p h => ?_) (fun i h => ?_) ?_ lkσ (fun _ i hi => ?_) (fun o h => nomatch h) fun z => nomatch z
      · split at h1 <;> split at h2 <;> first | (cases h1; cases h2; rfl) | (cases h1; done) | (cases h2; done)
      · split at h
        · rename_i hi
          cases h
          refine ⟨cs[i], List.getElem?_eq_getElem hi, ?_, ?_⟩
          · rw [List.append_assoc, gt_app, if_pos hi]
            unfold gt
            rw [List.getD_eq_getElem?_getD, List.getElem?_eq_getElem hi]; rfl
          · unfold vAt
            rw [if_pos (show i < N.length by omega), start_at hvN, if_pos (by omega), List.getElem?_eq_getElem (by omega)]
            rfl
        · cases h
      · split at h
        · cases h
        · rename_i hi
          rw [List.append_assoc, gt_app, if_neg hi, gt_app]
          split
          · exact gt_rep
          · exact gt_rep
      · show (L2.start N vs).length = N.length
        unfold L2.start
        rw [List.length_append, List.length_map, List.length_replicate]; omega
      · have hi : N.length ≤ i := hi
        rw [List.append_assoc, gt_app, if_neg (by omega), gt_app]
        split
        · exact gt_rep
        · exact gt_rep
    have hσ : ∀ {σ : L2.St} {s : S} {ob : Option OB} {F' H' : Hp}, SR C ob F' H' σ s → ∀ (j : Nat) (c : Cl) (v : V), cs[j]? = some c → c.own = true → vs[j]? = some v → σ[j]? = some (some v) := fun {σ s ob F' H'} R' j c v h1 h2 h3 => by
      refine R'.lk j v ?_
      show (if j ∈ lent (cs.map Ag.cl) 0 then vs[j]? else none) = some v
      rw [if_pos ((lent_mem cs 0 j).mpr ⟨j, c, by omega, h1, h2⟩)]
      exact h3
    have oe : ∀ s, outsOf fd s = outs s cs.length 0 := fun s => by unfold outsOf; rw [hm, hcl]
    rw [hn] at er
    have er : (match execs Γ N.length (lent (cs.map Ag.cl) 0) fd.oc fd.body (cs ++ List.replicate (N.length - fd.np) .un ++ List.replicate fd.nf .un) with
      | some (.nx s1) => if okOuts N.length s1 (cs.map Ag.cl) 0 then some (FR.ok (.cl (.val .non)) (outsOf fd s1)) else none
      | some (.rt a s1) => if okOuts N.length s1 (cs.map Ag.cl) 0 && okResM false a then some (.ok a (outsOf fd s1)) else none
      | some (.ex c _) => some (.ex c)
      | _ => none) = some r := er
    cases ee : execs Γ N.length (lent (cs.map Ag.cl) 0) fd.oc fd.body (cs ++ List.replicate (N.length - fd.np) .un ++ List.replicate fd.nf .un) with
    | none => rw [ee] at er; cases er
    | some o =>
      rw [ee] at er
      refine ⟨C, lent (cs.map Ag.cl) 0, rfl, rfl, rfl, rfl, rfl, rfl, rfl, fun i hi => if_neg hi, rfl, rfl, none, F, _, o, R, ee, ?_⟩
      cases o with
      | nx s1 =>
        dsimp only at er
        split at er
        · rename_i hok
          cases er
          intro ob F' H' σ' R' m'
          rw [oe] at p
          exact end_cl (C := C) rfl R' hl (by show cs.length ≤ N.length; omega) (hσ R') hok (RF.val R' .non) p
        · cases er
      | rt a s1 =>
        dsimp only at er
        split at er
        · rename_i hok
          cases er
          intro ob F' H' σ' u R' m' ar
          rw [oe] at p
          rw [Bool.and_eq_true] at hok
          cases a with
          | cl c => exact end_cl (C := C) rfl R' hl (by show cs.length ≤ N.length; omega) (hσ R') hok.1 ar p
          | obj c xs =>
            obtain ⟨rfl, o, ho, rfl, rfl⟩ := ar
            exact end_obj (C := C) rfl R' ho hl (by show cs.length ≤ N.length; omega) (hσ R') hok.1 (by have h2 := hok.2; unfold okResM at h2; simpa using h2) p
        · cases er
      | ex k s1 =>
        cases er
        intro ob F' H' σ' R' m'
        exact p F' H' R'.ex
      | bk s1 => cases er
      | ct s1 => cases er
end Mi
namespace Mi
open PySem PySem.Spec PyProof.Rows L2
/-! ### objects: fields, makings, methods -/
theorem putF_zip {f : Str} {v : V} : ∀ {fs : List Str} {vs : List V} {j : Nat}, fs.Nodup → j ≤ vs.length → fs[j]? = some f → putF f v (fs.zip vs) = fs.zip (if j < vs.length then vs.set j v else vs ++ [v])
  | [], _, _, _, _, h => by simp at h
  | g :: r, [], 0, nd, _, h => by
    have h : g = f := by simpa using h
    subst h
    simp [putF]
  | g :: r, x :: t, 0, _, _, h => by
    have h : g = f := by simpa using h
    subst h
    simp [putF]
  | g :: r, [], j + 1, _, h, _ => by simp at h
  | g :: r, x :: t, j + 1, nd, hj, h => by
    have h : r[j]? = some f := by simpa using h
    have ne : g ≠ f := fun z => by
      subst z
      exact (List.nodup_cons.mp nd).1 (List.mem_of_getElem? h)
    have ih := putF_zip (v := v) (List.nodup_cons.mp nd).2 (show j ≤ t.length by simpa using hj) h
    rw [List.zip_cons_cons]
    show (if g = f then (g, v) :: _ else (g, x) :: putF f v (r.zip t)) = _
    rw [if_neg ne, ih]
    by_cases hl : j < t.length
    · rw [if_pos hl, if_pos (by simpa using hl)]; rfl
    · rw [if_neg hl, if_neg (by simpa using hl)]; rfl
section
variable {C : Cn} {ob : Option OB} {F F' H H' : Hp} {σ σ' : L2.St} {s s' : S}
def putV (vs : List V) (j : Nat) (v : V) : List V := if j < vs.length then vs.set j v else vs ++ [v]
theorem putV_get {vs : List V} {j : Nat} {v : V} (hj : j ≤ vs.length) (k : Nat) : (putV vs j v)[k]? = if k = j then some v else vs[k]? := by
  unfold putV
  split
  · rename_i h
    by_cases e : k = j
    · subst e; rw [if_pos rfl, List.getElem?_set_self h]
    · rw [if_neg e, List.getElem?_set_ne fun z => e z.symm]
  · rename_i h
    have e : j = vs.length := by omega
    subst e
    by_cases e : k = vs.length
    · subst e; rw [if_pos rfl]; simp
    · rw [if_neg e]
      rcases Nat.lt_or_ge k vs.length with z | z
      · rw [List.getElem?_append_left z]
      · rw [List.getElem?_eq_none (by rw [List.length_append, List.length_singleton]; omega), List.getElem?_eq_none z]
theorem putV_len {vs : List V} {j : Nat} {v : V} (hj : j ≤ vs.length) : (putV vs j v).length = if j < vs.length then vs.length else vs.length + 1 := by
  unfold putV
  split
  · rw [List.length_set]
  · rw [List.length_append, List.length_singleton]
/-- a field is written -/
theorem SR.gset {o : OB} (R : SR C (some o) F H σ s) {j : Nat} {f : Str} {v : V} {c : Cl} (hf : (flds C.oc)[j]? = some f) (hj : j ≤ o.vs.length) (hl : C.n + j < s.length) (hr : RF C (some o) F H σ s v c) :
    SR C (some ⟨o.a, o.dx, putV o.vs j v⟩) F (upd H o.a (.ins (C.ca C.oc) o.dx (putF f v ((flds C.oc).zip o.vs)))) σ (s.set (C.n + j) c) := by
  obtain ⟨hr, hz, hfr⟩ := hr
  obtain ⟨q1, q2, q3, q4, q5, q6, q7⟩ := R.ob1 o rfl
  have hjf : j < (flds C.oc).length := by
    rcases Nat.lt_or_ge j (flds C.oc).length with z | z
    · exact z
    · rw [List.getElem?_eq_none z] at hf; cases hf
  have va : ∀ i, vAt C σ (some ⟨o.a, o.dx, putV o.vs j v⟩) i = if i = C.n + j then some v else vAt C σ (some o) i := fun i => by
    unfold vAt
    by_cases h : i < C.n
    · rw [if_pos h, if_pos h, if_neg (by omega)]
    · rw [if_neg h, if_neg h]
      show (putV o.vs j v)[i - C.n]? = _
      rw [putV_get hj]
      by_cases e : i = C.n + j
      · rw [if_pos e, if_pos (by omega)]
      · rw [if_neg e, if_neg (by omega)]
  have gs : ∀ i, gt (s.set (C.n + j) c) i = if i = C.n + j then c else gt s i := fun i => by
    rw [gt_set]
    by_cases e : i = C.n + j
    · rw [if_pos ⟨e.symm, hl⟩, if_pos e]
    · rw [if_neg fun z => e z.1.symm, if_neg e]
  have new_ne : ∀ a, c.own = true → v = .ref a → a ≠ o.a := fun a hc hv => by
    subst hv
    obtain ⟨b, e, w1, w2, w3⟩ := hr.own_at hc
    cases e
    rintro rfl
    rcases w3 with ⟨vs, w3⟩ | ⟨vs, w3⟩ <;> rw [q1] at w3 <;> cases w3
  have cs : c ≠ .un := fun z => by rw [z] at hz; cases hz
  refine ⟨R.ex.trans (T1 := C.Fr) (Ex.write R.sub q2 q3) fun _ z => z, R.len, fun i => ?_, fun i k a h1 h2 h3 h4 => ?_, R.lk, (fun h => nomatch h), fun o' h => ?_, fun _ => nofun⟩
  · rw [va, gs]
    by_cases e : i = C.n + j
    · rw [if_pos e, if_pos e]
      exact hr.mono (fun _ _ e => e) fun a h1 h2 => ⟨rfl, upd_ne (new_ne a h1 (by cases h2; rfl))⟩
    · rw [if_neg e, if_neg e]
      exact (R.cr i).mono (fun _ _ e => e) fun a h1 h2 => ⟨rfl, upd_ne fun z => R.own_ob h1 h2 rfl z.symm⟩
  · rw [gs] at h1 h2
    rw [va] at h3 h4
    by_cases e1 : i = C.n + j <;> by_cases e2 : k = C.n + j
    · rw [e1, e2]
    · rw [if_pos e1] at h1 h3
      rw [if_neg e2] at h2 h4
      exact absurd (h4.trans h3.symm) (hfr h1 k h2)
    · rw [if_neg e1] at h1 h3
      rw [if_pos e2] at h2 h4
      exact absurd (h3.trans h4.symm) (hfr h2 i h1)
    · rw [if_neg e1] at h1 h3
      rw [if_neg e2] at h2 h4
      exact R.inj i k a h1 h2 h3 h4
  · cases h
    have pl := putV_len (v := v) hj
    refine ⟨by rw [upd_same, putF_zip (flds_nodup _) hj hf]; rfl, q2, q3, ?_, fun k hk => ?_, fun k hk => ?_, q7⟩
    · show (putV o.vs j v).length ≤ _
      rw [pl]; split <;> omega
    · have hk : (putV o.vs j v).length ≤ k := hk
      rw [pl] at hk
      rw [gs, if_neg (by split at hk <;> omega)]
      exact q5 k (by split at hk <;> omega)
    · have hk : k < (putV o.vs j v).length := hk
      rw [pl] at hk
      rw [gs]
      by_cases e : k = j
      · subst e; rw [if_pos rfl]; exact cs
      · rw [if_neg (by omega)]
        exact q6 k (by split at hk <;> omega)
theorem gt_setG {n : Nat} {xs : List Cl} (hn : n ≤ s.length) (i : Nat) : gt (setG n s xs) i = if i < n then gt s i else xs.getD (i - n) .un := by
  unfold setG
  rw [gt_app, List.length_take, Nat.min_eq_left hn]
  split
  · rename_i h
    unfold gt
    rw [List.getD_eq_getElem?_getD, List.getElem?_take_of_lt h, List.getD_eq_getElem?_getD]
  · rename_i h
    rw [gt_app]
    split
    · rfl
    · rename_i h2
      rw [gt_rep, List.getD_eq_getElem?_getD, List.getElem?_eq_none (by omega)]; rfl
/-- a slot's thing is forgotten -/
theorem SR.drop (R : SR C ob F H σ s) {x : Nat} (hx : x < C.n) : SR C ob F H σ (s.set x .un) := by
  have gs : ∀ i, gt (s.set x .un) i = if i = x then .un else gt s i := fun i => by
    rw [gt_set]
    by_cases e : i = x
    · subst e
      rw [if_pos rfl]
      split
      · rfl
      · rename_i hn
        unfold gt
        rw [List.getD_eq_getElem?_getD, List.getElem?_eq_none (by have := fun z => hn ⟨rfl, z⟩; omega)]; rfl
    · rw [if_neg fun z => e z.1.symm, if_neg e]
  refine ⟨R.ex, R.len, fun i => ?_, fun i k a h1 h2 h3 h4 => ?_, R.lk, fun h j hj => ?_, fun o h => ?_, R.mo⟩
  · rw [gs]; split
    · trivial
    · exact R.cr i
  · rw [gs] at h1 h2
    split at h1
    · cases h1
    · split at h2
      · cases h2
      · exact R.inj i k a h1 h2 h3 h4
  · rw [gs, if_neg (by omega)]; exact R.ob0 h j hj
  · obtain ⟨h1, h2, h3, h4, h5, h6, h7⟩ := R.ob1 o h
    exact ⟨h1, h2, h3, h4, fun j hj => by rw [gs, if_neg (by omega)]; exact h5 j hj, fun j hj => by rw [gs, if_neg (by omega)]; exact h6 j hj, h7⟩
/-- the object is let go -/
theorem SR.unbind (R : SR C ob F H σ s) (hm : C.mo = false) (hn : C.n ≤ s.length) : SR C none F H σ (setG C.n s []) := by
  have gs : ∀ i, gt (setG C.n s []) i = if i < C.n then gt s i else .un := fun i => by rw [gt_setG hn]; rfl
  have va : ∀ i, i < C.n → vAt C σ none i = vAt C σ ob i := fun i h => by unfold vAt; rw [if_pos h, if_pos h]
  refine ⟨R.ex, R.len, fun i => ?_, fun i k a h1 h2 h3 h4 => ?_, R.lk, fun h j hj => ?_, (fun o h => nomatch h), fun z => ?_⟩
  · rw [gs]; split
    · rename_i h; rw [va i h]; exact R.cr i
    · trivial
  · rw [gs] at h1 h2
    split at h1
    · rename_i e1
      split at h2
      · rename_i e2
        rw [va i e1] at h3
        rw [va k e2] at h4
        exact R.inj i k a h1 h2 h3 h4
      · cases h2
    · cases h1
  · rw [gs, if_neg (by omega)]
  · rw [hm] at z; cases z
/-- a piece of code ran that touched nothing of the slots -/
theorem SR.frame {fp : List Addr} (R : SR C none F H σ s) (x : Ex (· ∈ fp) F H F' H') (hfp : ∀ a ∈ fp, C.Fr a) (hd : ∀ i a, (gt s i).own = true → vAt C σ none i = some (.ref a) → a ∉ fp) : SR C none F' H' σ s :=
  R.go (R.ex.trans x fun a ha => hfp a ha) x.sub (fun i a h1 h2 => by
    have na := hd i a h1 h2
    obtain ⟨z1, z2, ⟨vs, z3⟩ | ⟨vs, z3⟩⟩ := R.own_some h1 h2 <;> exact ⟨x.frz a (by rw [z3]; intro z; cases z) na, (x.keep a _ z3 na).trans z3.symm⟩) fun o h => nomatch h
/-- an object is bound -/
theorem SR.bind (R : SR C ob F H σ s) {a dx : Addr} {vs : List V} {xs : List Cl} {f : List Addr} (h1 : H a = some (.ins (C.ca C.oc) dx ((flds C.oc).zip vs))) (h2 : F a = none) (h3 : C.Fr a) (h4 : vs.length ≤ (flds C.oc).length) (g : CGs C.K C.ca F H vs xs f) (nd : f.Nodup)
    (hf : ∀ b ∈ f, C.Fr b) (fresh : ∀ i b, i < C.n → (gt s i).own = true → vAt C σ ob i = some (.ref b) → b ∉ f) (hn : C.n ≤ s.length) (hσ : σ'.length = C.n) (hos : σ'[C.os]? = some (some (.ref a)))
    (hv : ∀ i, i < C.n → gt s i = .un ∨ σ'[i]? = σ[i]?) (hlk : ∀ i v, C.lk i = some v → σ'[i]? = some (some v)) : SR C (some ⟨a, dx, vs⟩) F H σ' (setG C.n s xs) := by
  have gs := fun i => gt_setG (xs := xs) hn i
  have va : ∀ i, i < C.n → gt s i ≠ .un → vAt C σ' (some ⟨a, dx, vs⟩) i = vAt C σ ob i := fun i h hne => by
    unfold vAt
    rw [if_pos h, if_pos h]
    rcases hv i h with z | z
    · exact absurd z hne
    · rw [z]
  have vb : ∀ i, ¬ i < C.n → vAt C σ' (some ⟨a, dx, vs⟩) i = vs[i - C.n]? := fun i h => by unfold vAt; rw [if_neg h]
  have at_ : ∀ i, ¬ i < C.n → xs.getD (i - C.n) .un ≠ .un → ∃ c, xs[i - C.n]? = some c ∧ xs.getD (i - C.n) .un = c := fun i h hne => by
    rw [List.getD_eq_getElem?_getD] at hne ⊢
    cases e : xs[i - C.n]? with
    | none => rw [e] at hne; exact absurd rfl hne
    | some c => exact ⟨c, rfl, rfl⟩
  have own_ne : ∀ {c : Cl}, c.own = true → c ≠ .un := fun h z => by rw [z] at h; cases h
  have lx := cgs_len g
  refine ⟨R.ex, hσ, fun i => ?_, fun i k b o1 o2 v1 v2 => ?_, hlk, (fun h => nomatch h), fun o' h => ?_, fun _ => nofun⟩
  · rw [gs]
    by_cases h : i < C.n
    · rw [if_pos h]
      by_cases e : gt s i = .un
      · rw [e]; trivial
      · rw [va i h e]; exact R.cr i
    · rw [if_neg h]
      by_cases e : xs.getD (i - C.n) .un = .un
      · rw [e]; trivial
      · obtain ⟨c, e1, e2⟩ := at_ i h e
        obtain ⟨u, z1, z2, z3⟩ := cgs_at g e1
        rw [e2, vb i h, z1]
        exact (z2.cr fun b hb => hf b (z3 b hb)).1
  · rw [gs] at o1 o2
    by_cases e1 : i < C.n <;> by_cases e2 : k < C.n
    · rw [if_pos e1] at o1
      rw [if_pos e2] at o2
      rw [va i e1 (own_ne o1)] at v1
      rw [va k e2 (own_ne o2)] at v2
      exact R.inj i k b o1 o2 v1 v2
    · rw [if_pos e1] at o1
      rw [if_neg e2] at o2
      rw [va i e1 (own_ne o1)] at v1
      obtain ⟨c, w1, w2⟩ := at_ k e2 (own_ne o2)
      rw [vb k e2] at v2
      obtain ⟨u, z1, z2, z3⟩ := cgs_at g w1
      rw [z1] at v2; cases v2
      rw [w2] at o2
      exact absurd (z3 b (by rw [cadr_of o2]; exact List.mem_singleton.mpr rfl)) (fresh i b e1 o1 v1)
    · rw [if_neg e1] at o1
      rw [if_pos e2] at o2
      rw [va k e2 (own_ne o2)] at v2
      obtain ⟨c, w1, w2⟩ := at_ i e1 (own_ne o1)
      rw [vb i e1] at v1
      obtain ⟨u, z1, z2, z3⟩ := cgs_at g w1
      rw [z1] at v1; cases v1
      rw [w2] at o1
      exact absurd (z3 b (by rw [cadr_of o1]; exact List.mem_singleton.mpr rfl)) (fresh k b e2 o2 v2)
    · rw [if_neg e1] at o1
      rw [if_neg e2] at o2
      obtain ⟨c, w1, w2⟩ := at_ i e1 (own_ne o1)
      obtain ⟨c', w3, w4⟩ := at_ k e2 (own_ne o2)
      rw [vb i e1] at v1
      rw [vb k e2] at v2
      rw [w2] at o1
      rw [w4] at o2
      have := cgs_inj g nd w1 w3 o1 o2 v1 v2
      omega
  · cases h
    refine ⟨h1, h2, h3, h4, fun j hj => ?_, fun j hj => ?_, hos⟩
    · have hj : vs.length ≤ j := hj
      rw [gs, if_neg (by omega), show C.n + j - C.n = j by omega, List.getD_eq_getElem?_getD, List.getElem?_eq_none (by omega)]; rfl
    · have hj : j < vs.length := hj
      rw [gs, if_neg (by omega), show C.n + j - C.n = j by omega, List.getD_eq_getElem?_getD, List.getElem?_eq_getElem (by omega)]
      obtain ⟨u, z1, z2, z3⟩ := cgs_at g (List.getElem?_eq_getElem (show j < xs.length by omega))
      have := z2.fz
      intro z
      rw [show (some xs[j]).getD Cl.un = xs[j] from rfl] at z
      rw [z] at this; cases this
end
/-! ### data as arguments -/
section
variable {K : PySem.W.Frag} {ca : Nat → Addr} {F H F' H' : Hp}
abbrev datA (ds : List D) : List Ag := ds.map fun d => .cl (.val d)
theorem agsR_dat : ∀ {us : List V} {ds : List D}, Reps K ca F us ds → AgsR K ca F H us (datA ds) []
  | _, _, .nil => rfl
  | _, _, .cons h r => ⟨[], [], ⟨h, (cadr_no rfl).symm⟩, rfl, agsR_dat r⟩
theorem outR_dat : ∀ {us : List V} {ds : List D} {os : List Ag} {fo : List Addr}, OutR K ca F H us (datA ds) os fo → fo = []
  | [], [], _, _, h => h
  | u :: us, d :: ds, os, fo, h => by
    have h : (if (Cl.val d).own = true then _ else ∃ o os', os = o :: os' ∧ OutR K ca F H us (datA ds) os' fo) := h
    rw [if_neg (by exact Bool.false_ne_true)] at h
    obtain ⟨o, os', _, h⟩ := h
    exact outR_dat h
  | [], _ :: _, _, _, h => h.elim
  | _ :: _, [], _, _, h => h.elim
theorem no_exc0 {P : Program} {w : World} (outer : List PySem.Env) (H : Hp) (s : Shared) (e : Value) (s' : Shared) (h : L2.CX P w outer H s (fun _ _ _ => False) e s') : False := by
  obtain ⟨_, _, _, _, _, _, _, _, _, _, _, _, _, _, _, _, z⟩ := h
end
end Mi
namespace Mi
open PySem PySem.Spec PyProof.Rows L2
section
variable {C : Cn} {ob : Option OB} {F F' H H' : Hp} {σ σ' : L2.St} {s s' : S}
theorem SR.frameO {fp : List Addr} (R : SR C ob F H σ s) (x : Ex (· ∈ fp) F H F' H') (hfp : ∀ a ∈ fp, C.Fr a) (hd : ∀ i a, (gt s i).own = true → vAt C σ ob i = some (.ref a) → a ∉ fp) (ho : ∀ o, ob = some o → o.a ∉ fp) : SR C ob F' H' σ s :=
  R.go (R.ex.trans x fun a ha => hfp a ha) x.sub (fun i a h1 h2 => by
    have na := hd i a h1 h2
    obtain ⟨z1, z2, ⟨vs, z3⟩ | ⟨vs, z3⟩⟩ := R.own_some h1 h2 <;> exact ⟨x.frz a (by rw [z3]; intro z; cases z) na, (x.keep a _ z3 na).trans z3.symm⟩) fun o h => by
    have q1 := (R.ob1 o h).1
    have na := ho o h
    exact ⟨x.frz _ (by rw [q1]; intro z; cases z) na, (x.keep _ _ q1 na).trans q1.symm⟩
theorem cgs_vl {K : PySem.W.Frag} {ca : Nat → Addr} : ∀ {us : List V} {cs : List Cl} {f : List Addr} {ds : List D}, CGs K ca F H us cs f → cs.mapM Cl.vl = some ds → Reps K ca F us ds
  | [], [], _, ds, _, e => by cases e; exact .nil
  | u :: us, c :: cs, f, ds, ⟨f', g, e1, r⟩, e => by
    rw [List.mapM_cons] at e
    cases c with
    | val d =>
      cases q : cs.mapM Cl.vl with
      | none => rw [q] at e; cases e
      | some l => rw [q] at e; cases e; exact .cons g (cgs_vl r q)
    | _ => cases e
  | [], _ :: _, _, _, h, _ => h.elim
  | _ :: _, [], _, _, h, _ => h.elim
theorem mapM_len {cs : List Cl} : ∀ {ds : List D}, cs.mapM Cl.vl = some ds → ds.length = cs.length := by
  induction cs with
  | nil => intro ds e; cases e; rfl
  | cons c cs ih =>
    intro ds e
    rw [List.mapM_cons] at e
    cases h : Cl.vl c with
    | none => rw [h] at e; cases e
    | some d =>
      cases q : cs.mapM Cl.vl with
      | none => rw [h, q] at e; cases e
      | some l => rw [h, q] at e; cases e; rw [List.length_cons, List.length_cons, ih q]
/-- a new object is given to its making -/
theorem make_run {c f : Nat} {l : List Aa} {ds : List D} {us : List V} {x dx : Addr} {c' : Nat} {xs : List Cl} {rest : List Ag} {Q : VK} {E : XK} {np : Nat} (R1 : SR C ob F H σ s) (q1 : RA C ob F H σ s us l) (ed : dats l = some ds) (hl : us.length + 1 = np)
    (hx : H x = none) (hdx : H dx = none) (ne : dx ≠ x) (er : C.Γ f (.obj c [] :: datA ds) = some (.ok (.cl (.val .non)) (.obj c' xs :: rest)))
    (k : ∀ (F' H' : Hp) (dx' : Addr) (vs' : List V) (f' : List Addr), SR C ob F' H' σ s → Same F F' → H' x = some (.ins (C.ca c) dx' ((flds c).zip vs')) → F' x = none → C.Fr x → vs'.length ≤ (flds c).length → CGs C.K C.ca F' H' vs' xs f' → (x :: f').Nodup →
      (∀ b ∈ f', F' b = none ∧ (b = x ∨ H b = none)) → c' = c → Q .non H') :
    spG C.K C.ca C.cv np (C.Γ f) (.ref x :: (us ++ [])) (upd (upd H dx (.own x)) x (.ins (C.ca c) dx [])) Q E := by
  rw [List.append_nil]
  have fx : F x = none := R1.sub.free hx
  have hx1 : upd H dx (.own x) x = none := by rw [upd_ne (fun z => ne z.symm)]; exact hx
  have R2 : SR C ob F (upd (upd H dx (.own x)) x (.ins (C.ca c) dx [])) σ s := (R1.new _ hdx).new _ hx1
  have rs := RAs.dats q1 ed
  refine ⟨F, .obj c [] :: datA ds, [x], _, R2.sub, ⟨[x], [], ⟨x, dx, [], [], rfl, ?_, fx, Nat.zero_le _, rfl, rfl⟩, rfl, agsR_dat rs⟩, by simp, fun a ha => by rw [List.mem_singleton.mp ha]; exact fx, by rw [List.length_cons]; exact hl, er, ?_⟩
  · rw [upd_same, List.zip_nil_right]
  · intro u F' H' fo fr xx ou ag nd hfo
    obtain ⟨xs', os', f1, f2, e, agr, rfl, ou2⟩ := ou
    cases e
    have e2 := outR_dat ou2
    subst e2
    obtain ⟨a, dx', vs', f', e3, w1, w2, w3, w4, rfl⟩ := agr
    cases e3
    have hun : u = .non := by
      obtain ⟨g, _⟩ := ag
      cases g; rfl
    subst hun
    have frx : C.Fr x := R1.fr_new hx
    have R3 : SR C ob F' H' σ s := R2.frameO xx (fun a ha => by rw [List.mem_singleton.mp ha]; exact frx) (fun i a h1 h2 hm => by
      rw [List.mem_singleton.mp hm] at h2
      exact R1.own_ne h1 h2 hx rfl) fun o h hm => R1.ob_ne h hx (List.mem_singleton.mp hm)
    rw [List.append_nil] at nd hfo
    refine k F' H' dx' vs' f' R3 xx.sub w1 w2 frx w3 w4 (List.nodup_append.mp nd).1 (fun b hb => ?_) rfl
    obtain ⟨z1, z2⟩ := hfo b (List.mem_append_left _ (List.mem_cons_of_mem _ hb))
    refine ⟨z1, z2.elim (fun z => .inl (List.mem_singleton.mp z)) fun z => .inr ?_⟩
    by_cases e1 : b = x
    · rw [e1]; exact hx
    · rw [upd_ne e1] at z
      by_cases e2 : b = dx
      · rw [e2, upd_same] at z; cases z
      · rw [upd_ne e2] at z; exact z
end
section
variable {X : Cx} {C : Cn} {W : WX} {e : Expr} {es : List Expr} {cs : List CE} {x : Str} {p pos : Pos} {f k : Nat} {lks : List Nat}
/-- what is known of a class that is made -/
def MkF (X : Cx) (C : Cn) (k : Nat) (c f np : Nat) : Prop := ∃ (fa : Addr) (fd : FuncData) (ps : List Str), Mk X.K (C.ca c) fa ∧ Binds X.K fd ps [] ∧ FnOk X.prog X.w X.K X.mg X.base (L2.CX X.prog X.w) k fa fd ps (spG C.K C.ca C.cv (np + 1) (C.Γ f))
/-- and of a method -/
def MeF (X : Cx) (C : Cn) (k : Nat) (c : Nat) (m : Str) (f np : Nat) : Prop := ∃ (fa : Addr) (fd : FuncData) (ps : List Str), Meth X.K (C.ca c) m fa ∧ Binds X.K fd ps [] ∧ FnOk X.prog X.w X.K X.mg X.base (L2.CX X.prog X.w) k fa fd ps (spG C.K C.ca C.cv (np + 1) (C.Γ f))
theorem passes0 : Passes (L2.CX X.prog X.w) X (fun _ _ _ => False) := fun _ _ _ _ _ _ _ h => (no_exc0 _ _ _ _ _ h).elim
theorem qe_make (M : MkF X C k 0 f cs.length) (hob : ObF C.K (C.ca 0)) (hr : Room (k + 1) X.A) (hg : Gl X x) (hm : X.mg x = some (.ref (C.ca 0))) (ha : PA X (e :: es) (tA C W cs))
    (hdb : (x == ("__debug__" : Str)) = false) (he : starEach (e :: es) X.env = (false, eval e X.env) :: starEach es X.env) (hpl : (backTo pos (starEach es X.env)).any (·.1) = false) : PE X (.Call (.Name x p) (e :: es) [] pos) (tE C W (.make 0 f cs)) := by
  obtain ⟨fa, fd, ps, h1, h2, h3⟩ := M
  refine pe_imp (pe_make (E := fun _ _ _ => False) h1 h3 hr hg hm h2 .nil passes0 ha hdb he hpl) fun σ H Q ⟨ob, F, s, r, R, e, p⟩ => ?_
  refine step R e p fun l s1 us F1 H1 e1 R1 m1 q1 e2 p1 => ?_
  intro a dx hx hdx ne
  cases ed : dats l with
  | none => rw [ed] at e2; cases e2
  | some ds =>
    rw [ed, Option.bind_some] at e2
    have e3 : (match C.Γ f (.obj 0 [] :: datA ds) with
      | some (.ok (.cl (.val .non)) (.obj c' xs :: _)) => if c' = 0 ∧ 0 = 0 ∧ xs.length = 4 then (xs.mapM Cl.vl).map fun ds => Mi.R.ok (Ro.fr (.val (.obj 0 ds))) s1 else none
      | _ => none) = some r := e2
    clear e2
    split at e3
    · rename_i c' xs rest er
      split at e3
      · rename_i hc
        obtain ⟨rfl, _, hl4⟩ := hc
        cases ev : xs.mapM Cl.vl with
        | none => rw [ev] at e3; cases e3
        | some vs =>
          rw [ev] at e3; cases e3
          refine make_run R1 q1 ed (by rw [RAs.length q1, evA_len e1]) hx hdx ne er fun F' H' dx' vs' f' R3 m3 w1 w2 frx w3 w4 nd hf _ => ⟨rfl, ?_⟩
          have sm : Same F' (upd F' a (.ins (C.ca 0) dx' ((flds 0).zip vs'))) := fun b w e => by rw [upd_ne (ne_of_none e w2)]; exact e
          have R4 : SR C ob (upd F' a (.ins (C.ca 0) dx' ((flds 0).zip vs'))) H' σ s1 := R3.go (R3.ex.trans (T1 := C.Fr) (Ex.freeze R3.sub w1 w2 frx) fun _ z => z) sm (fun i b h4 h5 => ⟨upd_ne (fun z => R1.own_ne h4 h5 hx z), rfl⟩) fun o h => ⟨upd_ne (fun z => R1.ob_ne h hx z), rfl⟩
          have ll := cgs_len w4
          exact post_val (p1.mono (m3.trans sm)) R4 (.obj hob upd_same (by rw [ll, hl4]; rfl) ((cgs_vl w4 ev).mono sm))
      · cases e3
    · cases e3
/-- a name is bound to a new object -/
theorem qs_mk {y : Str} {py p2 : Pos} {i c : Nat} (M : MkF X C k c f cs.length) (hc : c = C.oc) (hr : Room (k + 1) X.A) (hg : Gl X x) (hm : X.mg x = some (.ref (C.ca c))) (ha : PA X (e :: es) (tA C W cs))
    (hdb : (x == ("__debug__" : Str)) = false) (he : starEach (e :: es) X.env = (false, eval e X.env) :: starEach es X.env) (hpl : (backTo p2 (starEach es X.env)).any (·.1) = false)
    (hN : X.N.Nodup) (hi : X.N[i]? = some y) (hos : i = C.os) (LK : ∀ i, i ∉ lks → C.lk i = none) (hx : Loc X.env.scope y) (hf : X.fn y = true ∨ X.env.scope.names.lookup y = some .local) :
    PS X (.Assign [.Name y py] (.Call (.Name x p) (e :: es) [] p2) pos) (tS C W lks (.mk i c f cs)) := by
  obtain ⟨fa, fd, ps, h1, h2, h3⟩ := M
  refine ps_imp (ps_set hN hi hx (pe_make (E := fun _ _ _ => False) h1 h3 hr hg hm h2 .nil passes0 ha hdb he hpl) rfl hf) fun D σ H ⟨ob, F, s, o, R, e, p⟩ => ?_
  have e : (outR (evA C.Γ cs s) fun l s => (dats l).bind fun ds => match C.Γ f (.obj c [] :: datA ds) with
    | some (.ok (.cl (.val .non)) (.obj c' xs :: _)) => if c' = c ∧ c = C.oc ∧ xs.length ≤ nfl c ∧ i < C.n ∧ i ∉ lks ∧ C.n ≤ s.length then some (.nx (setG C.n (s.set i .un) xs)) else none
    | _ => none) = some o := by rw [← e]; show _ = exec C.Γ C.n lks C.oc (.mk i c f cs) s; rw [exec] <;> rfl
  refine stepS R e p fun l s1 us F1 H1 e1 R1 m1 q1 e2 p1 => ?_
  intro a dx hxa hdx ne
  cases ed : dats l with
  | none => rw [ed] at e2; cases e2
  | some ds =>
    rw [ed, Option.bind_some] at e2
    split at e2
    · rename_i c' xs rest er
      split at e2
      · rename_i hcond
        obtain ⟨rfl, rfl, hl4, hin, hil, hns⟩ := hcond
        cases e2
        refine make_run R1 q1 ed (by rw [RAs.length q1, evA_len e1]) hxa hdx ne er fun F' H' dx' vs' f' R3 m3 w1 w2 frx w3 w4 nd hf' _ => ⟨rfl, ?_⟩
        have hnd := List.nodup_cons.mp nd
        subst hos
        refine p1 _ F' H' _ ((R3.drop hin).bind (σ' := σ.set C.os (some (.ref a))) w1 w2 frx w3 w4 hnd.2 (fun b hb => ?_) (fun j b hj ho hv hb => ?_) (by rw [List.length_set]; exact hns) (by rw [List.length_set]; exact R3.len) (List.getElem?_set_self (by rw [R3.len]; exact hin)) (fun j hj => ?_) fun j v hj => ?_) m3
        · rcases (hf' b hb).2 with z | z
          · rw [z]; exact frx
          · exact R1.fr_new z
        · have ho' : (gt s1 j).own = true := by
            rw [gt_set] at ho
            split at ho
            · cases ho
            · exact ho
          rcases (hf' b hb).2 with z | z
          · subst z; exact hnd.1 hb
          · exact R1.own_ne ho' hv z rfl
        · by_cases e : j = C.os
          · subst e
            left
            rw [gt_set]
            split
            · rfl
            · rename_i hn
              exact absurd ⟨rfl, by omega⟩ hn
          · right
            rw [List.getElem?_set_ne fun z => e z.symm]
        · have : j ≠ C.os := fun z => by rw [z, LK _ hil] at hj; cases hj
          rw [List.getElem?_set_ne fun z => this z.symm]
          exact R3.lk j v hj
      · cases e2
    · cases e2
end
end Mi
namespace Mi
open PySem PySem.Spec PyProof.Rows L2
theorem setG_setG {n : Nat} {s : S} {xs : List Cl} (hn : n ≤ s.length) : setG n (setG n s []) xs = setG n s xs := by
  unfold setG
  have h1 : (s.take n).length = n := by rw [List.length_take]; omega
  rw [List.take_append_of_le_length (by omega), List.take_take, Nat.min_self, List.length_append, h1]
  congr 3
  rw [List.nil_append, List.length_replicate]
  simp only [List.length_nil]
  omega
theorem lookup_no {m : Str} : ∀ {fs : List Str} {vs : List V}, m ∉ fs → (fs.zip vs).lookup m = none
  | [], _, _ => rfl
  | f :: fs, [], _ => rfl
  | f :: fs, v :: vs, h => by
    rw [List.zip_cons_cons]
    have ne : (m == f) = false := beq_eq_false_iff_ne.mpr fun z => h (by rw [z]; exact List.mem_cons_self)
    show (match m == f with | true => some v | false => (fs.zip vs).lookup m) = none
    rw [ne]
    exact lookup_no fun z => h (List.mem_cons_of_mem _ z)
theorem flds_le (c : Nat) (vs : List V) : ((flds c).zip vs).length < 1000 := by
  rw [List.length_zip, flds_len]
  have : nfl c ≤ 5 := by
    cases c with
    | zero => decide
    | succ n => exact Nat.le_refl 5
  omega
section
variable {C : Cn} {ob : Option OB} {F F' H H' : Hp} {σ σ' : L2.St} {s s' : S}
theorem ghosts_len {o : OB} (R : SR C (some o) F H σ s) : (ghosts C.n s).length = o.vs.length := by rw [ghosts_of R rfl, List.length_map, List.length_range]
theorem ob_some (R : SR C ob F H σ s) (h : (ghosts C.n s).isEmpty = false) : ∃ o, ob = some o := by
  cases ob with
  | some o => exact ⟨o, rfl⟩
  | none =>
    have : ghosts C.n s = [] := by
      rw [ghosts_eq, take_run _ 0 (fun j hj => absurd hj (by omega)) (by rw [gt_drop]; exact R.ob0 rfl _ (by omega))]
      rfl
    rw [this] at h; cases h
theorem ghosts_room (h : (ghosts C.n s).isEmpty = false) : C.n ≤ s.length := by
  rcases Nat.lt_or_ge C.n s.length with z | z
  · omega
  · have : ghosts C.n s = [] := by unfold ghosts; rw [List.drop_eq_nil_of_le z]; rfl
    rw [this] at h; cases h
end
section
variable {X : Cx} {C : Cn} {W : WX} {e : Expr} {es : List Expr} {cs : List CE} {x y m : Str} {p py pos apos : Pos} {f k i : Nat} {lks : List Nat}
/-- a field of the object that is bound is set -/
theorem qs_gasg {fl : Str} {p1 : Pos} {j : Nat} {value : Expr} {c : CE} (he : PE X value (tE C W c)) (hmo : C.mo = true) (hos : C.os = i) (hN : X.N[i]? = some y) (hv : Vis X.env.scope y) (hd : (y == ("__debug__" : Str)) = false) (hcd : (y == ("__classdict__" : Str)) = false)
    (hs : swapsWith value (some (.Attribute (.Name y py) fl p1)) pos.line X.env = pure false) (hf : (flds C.oc)[j]? = some fl) (hc : Cls C.K (C.ca C.oc)) (ha : NoAttr C.K (C.ca C.oc) fl) (hK : X.K = C.K) : PS X (.Assign [.Attribute (.Name y py) fl p1] value pos) (tS C W lks (.asg (C.n + j) c)) := by
  refine ps_imp (ps_fld (pe_var hN hv hd hcd) (toW_of he) hs) fun D σ H ⟨ob, F, s, o, R, e, p⟩ => ?_
  have e : (outR (toW (ev C.Γ c s)) fun c s => if C.n + j < C.n then (if C.n + j ∈ lks then none else some (.nx (s.set (C.n + j) c))) else (if C.n + j - C.n ≤ (ghosts C.n s).length ∧ C.n + j < s.length then some (.nx (s.set (C.n + j) c)) else none)) = some o := by
    rw [← e]; show _ = exec C.Γ C.n lks C.oc (.asg (C.n + j) c) s; rw [exec]
  refine stepS R e p fun d s1 u F1 H1 e1 R1 m1 q1 e2 p1 => ?_
  rw [if_neg (by omega)] at e2
  split at e2
  · rename_i hcond
    cases e2
    cases ob with
    | none => exact absurd rfl (R1.mo hmo)
    | some ob =>
      obtain ⟨q1', q2, q3, q4, q5, q6, q7⟩ := R1.ob1 ob rfl
      have hj : j ≤ ob.vs.length := by have := hcond.1; rw [ghosts_len R1] at this; omega
      refine ⟨.ref ob.a, by rw [← hos]; exact q7, ob.a, C.ca C.oc, ob.dx, _, rfl, q1', by rw [hK]; exact hc, by rw [hK]; exact ha, flds_le _ _, ?_⟩
      exact p1 _ F1 _ σ (R1.gset hf hj hcond.2 q1) (same_refl F1)
  · cases e2
/-- a method's call, by the promise -/
def tMethE (C : Addr) (m : Str) (sp : Sp) (E : L2.St → XK) (ta : TE) (t : TA) : TE := fun σ H Q => ta σ H fun x H1 => ∃ a dx fs, x = .ref a ∧ H1 a = some (.ins C dx fs) ∧ fs.lookup m = none ∧ t σ H1 fun vs H2 => sp (x :: vs) H2 Q (E σ)
theorem pe_methE {o : Expr} {ta : TE} {t : TA} {Ca fa : Addr} {fd : FuncData} {ps : List Str} {sp : Sp} {E : L2.St → XK} {CX : CXT} {pl : Sem Bool} (he : PE X o ta) (c : Cls X.K Ca) (hm : Meth X.K Ca m fa) (F : FnOk X.prog X.w X.K X.mg X.base CX k fa fd ps sp) (hr : Room k X.A) (hb : Binds X.K fd ps []) (hx : ∀ σ, PassesAt CX X σ (E σ)) (ha : PA X (e :: es) t)
    (hst : starEach (e :: es) X.env = (false, eval e X.env) :: starEach es X.env) (hpl : (backTo pos (starEach es X.env)).any (·.1) = false)
    (ht : eval (.Call (.Attribute o m apos) (e :: es) [] pos) X.env = (do
      let ov ← eval o X.env
      standAt apos.atName
      let (f, first) ← holding [ov] (getMethod ov m pl)
      callWith pos f first (backTo pos (starEach (e :: es) X.env)) (backToKw pos (keywordEach [] X.env)))) :
    PE X (.Call (.Attribute o m apos) (e :: es) [] pos) (tMethE Ca m sp E ta t) := by
  refine ⟨fun pins s σ H Q I h => ?_⟩
  refine PySem.W.methodCall_KW (pl := pl) (thn (he.run pins s σ H _ I h) fun u s1 ⟨x, H1, I1, rx, a, dx, fs, ex, ea, l, q⟩ => ?_) ht
  subst ex
  obtain rfl : u = Value.ref a := rx
  refine getmeth_ok I1 ea c hm l ?_
  refine PySem.W.callWith_K (first := [.ref a]) (h₀ := X.base) I.ok.mod.kin hm.kp (thn (ha.run pos pins s1 σ H1 _ I1 q) fun us s2 ⟨vs, H2, I2, r, q2⟩ => ⟨I2.kIn, ?_⟩) hst hpl
  exact run_fnS (us := .ref a :: us) (vs := .ref a :: vs) F hr hb (hx σ) I2 (.cons rfl r) q2
theorem qs_me {pos2 : Pos} {pl : Sem Bool} (M : MeF X C k C.oc m f cs.length) (hmo : C.mo = false) (hos : C.os = i) (hN : X.N[i]? = some y) (hv : Vis X.env.scope y) (hd : (y == ("__debug__" : Str)) = false) (hcd : (y == ("__classdict__" : Str)) = false) (hin : C.os < C.n)
    (hc : Cls C.K (C.ca C.oc)) (hm0 : m ∉ flds C.oc) (hK : X.K = C.K) (hr : Room k X.A) (tk : Takes X W) (ha : PA X (e :: es) (tA C W cs))
    (hst : starEach (e :: es) X.env = (false, eval e X.env) :: starEach es X.env) (hpl : (backTo pos (starEach es X.env)).any (·.1) = false)
    (ht : eval (.Call (.Attribute (.Name y py) m apos) (e :: es) [] pos) X.env = (do
      let ov ← eval (.Name y py) X.env
      standAt apos.atName
      let (f, first) ← holding [ov] (getMethod ov m pl)
      callWith pos f first (backTo pos (starEach (e :: es) X.env)) (backToKw pos (keywordEach [] X.env)))) :
    PS X (.Expr (.Call (.Attribute (.Name y py) m apos) (e :: es) [] pos) pos2) (tS C W lks (.me f cs)) := by
  obtain ⟨fa, fd, ps, h1, h2, h3⟩ := M
  refine ps_imp (ps_expr (pe_methE (pl := pl) (pe_var hN hv hd hcd) (by rw [hK]; exact hc) h1 h3 hr h2 (fun σ => passAt tk σ) ha hst hpl ht) rfl) fun D σ H ⟨ob, F, s, o, R, e, p⟩ => ?_
  have e : (if (ghosts C.n s).isEmpty then none else outR (evA C.Γ cs s) fun l s => if (ghosts C.n s).all fun c => c.fz.isSome then (dats l).bind fun ds => match C.Γ f (.obj C.oc (ghosts C.n s) :: datA ds) with
    | some (.ok _ (.obj c xs :: _)) => if c = C.oc ∧ xs.length ≤ nfl c then some (.nx (setG C.n s xs)) else none
    | some (.ex c) => some (.ex c (setG C.n s []))
    | _ => none
    else none) = some o := by rw [← e]; show _ = exec C.Γ C.n lks C.oc (.me f cs) s; rw [exec] <;> rfl
  split at e
  · cases e
  · rename_i hg
    have hg : (ghosts C.n s).isEmpty = false := by simpa using hg
    obtain ⟨ob, rfl⟩ := ob_some R hg
    obtain ⟨w1, w2, w3, w4, w5, w6, w7⟩ := R.ob1 ob rfl
    refine ⟨.ref ob.a, by rw [← hos]; exact w7, ob.a, ob.dx, _, rfl, w1, lookup_no hm0, ?_⟩
    refine stepS R e p fun l s1 us F1 H1 e1 R1 m1 q1 e2 p1 => ?_
    have hg1 : (ghosts C.n s1).isEmpty = false := by
      have l1 := ghosts_len R1
      have l0 := ghosts_len R
      rw [List.isEmpty_eq_false_iff_exists_mem] at hg ⊢
      obtain ⟨z, hz⟩ := hg
      have : 0 < (ghosts C.n s).length := List.length_pos_of_mem hz
      exact ⟨_, List.getElem_mem (show 0 < (ghosts C.n s1).length by omega)⟩
    have hn := ghosts_room hg1
    split at e2
    · rename_i hz
      cases ed : dats l with
      | none => rw [ed] at e2; cases e2
      | some ds =>
        rw [ed, Option.bind_some] at e2
        obtain ⟨f0, g1, g2, g3⟩ := obj_of R1 rfl hz
        obtain ⟨v1, v2, v3, v4, v5, v6, v7⟩ := R1.ob1 ob rfl
        have rs := RAs.dats q1 ed
        have gnd := List.nodup_cons.mp g2
        have frp : ∀ a ∈ ob.a :: f0, C.Fr a := fun a ha => by
          rcases List.mem_cons.mp ha with rfl | ha
          · exact v3
          · exact (g3 a ha).2.1
        have apart : ∀ j a, j < C.n → (gt s1 j).own = true → vAt C σ (some ob) j = some (.ref a) → a ∉ ob.a :: f0 := fun j a hj h1 h2 hm => by
          rcases List.mem_cons.mp hm with rfl | hm
          · exact R1.own_ob h1 h2 rfl rfl
          · obtain ⟨_, _, k', k1, k2, k3⟩ := g3 a hm
            have := R1.inj j k' a h1 k2 h2 k3
            omega
        have gu : ∀ j, (gt (setG C.n s1 []) j).own = true → j < C.n ∧ (gt s1 j).own = true := fun j hj => by
          rw [gt_setG hn] at hj
          split at hj
          · rename_i h; exact ⟨h, hj⟩
          · cases hj
        have vn : ∀ j, j < C.n → vAt C σ none j = vAt C σ (some ob) j := fun j h => by unfold vAt; rw [if_pos h, if_pos h]
        have R2 := R1.unbind hmo hn
        have fram : ∀ {F' H' : Hp}, Ex (· ∈ ob.a :: f0) F1 H1 F' H' → SR C none F' H' σ (setG C.n s1 []) := fun x => R2.frame x frp fun j a o1 o2 => by
          obtain ⟨hj, o1'⟩ := gu j o1
          rw [vn j hj] at o2
          exact apart j a hj o1' o2
        have ll : (V.ref ob.a :: us).length = cs.length + 1 := by rw [List.length_cons, RAs.length q1, evA_len e1]
        cases er : C.Γ f (.obj C.oc (ghosts C.n s1) :: datA ds) with
        | none => rw [er] at e2; cases e2
        | some r =>
          rw [er] at e2
          refine ⟨F1, .obj C.oc (ghosts C.n s1) :: datA ds, ob.a :: f0, r, R1.sub, ⟨ob.a :: f0, [], g1, by rw [List.append_nil], agsR_dat rs⟩, g2, fun a ha => ?_, ll, er, ?_⟩
          · rcases List.mem_cons.mp ha with rfl | ha
            · exact v2
            · exact (g3 a ha).1
          · cases r with
            | ex c =>
              cases e2
              exact fun F' H' x => p1 none F' H' σ (fram x) x.sub
            | ok res outs =>
              cases outs with
              | nil => cases e2
              | cons a0 rest =>
                cases a0 with
                | cl c => cases e2
                | obj c xs =>
                  have e3 : (if c = C.oc ∧ xs.length ≤ nfl c then some (Out.nx (setG C.n s1 xs)) else none) = some o := e2
                  split at e3
                  · cases e3
                    intro u F' H' fo fr x ou ag nd2 hfo
                    obtain ⟨xs', os', f1, f2, ee, agr, rfl, ou2⟩ := ou
                    cases ee
                    have ee2 := outR_dat ou2
                    subst ee2
                    rw [List.append_nil] at nd2 hfo
                    obtain ⟨a, dx', vs', f', e3, z1, z2, z3, z4, rfl⟩ := agr
                    cases e3
                    have R3 := fram x
                    have nf := List.nodup_cons.mp (List.nodup_append.mp nd2).1
                    have hl1 : (setG C.n s1 []).length = s1.length := by unfold setG; rw [List.length_append, List.length_take, List.nil_append, List.length_replicate]; simp only [List.length_nil]; omega
                    have R4 := R3.bind (σ' := σ) z1 z2 v3 z3 z4 nf.2 (fun b hb => ?_) (fun j b hj o1 o2 hb => ?_) (by rw [hl1]; exact hn) R3.len v7 (fun j _ => .inr rfl) R3.lk
                    · rw [setG_setG hn] at R4
                      exact p1 _ F' H' σ R4 x.sub
                    · rcases (hfo b (List.mem_append_left _ (List.mem_cons_of_mem _ hb))).2 with z | z
                      · exact frp b z
                      · exact R1.fr_new z
                    · obtain ⟨hj', o1'⟩ := gu j o1
                      rw [vn j hj'] at o2
                      rcases (hfo b (List.mem_append_left _ (List.mem_cons_of_mem _ hb))).2 with z | z
                      · exact apart j b hj' o1' o2 z
                      · exact R1.own_ne o1' o2 z rfl
                  · cases e3
    · cases e2
/-- a name is bound to the object that a call gives -/
theorem qs_oc {p2 : Pos} (Fn : FnF X C k f x cs.length) (hr : Room k X.A) (hg : Gl X x) (tk : Takes X W) (ha : PA X (e :: es) (tA C W cs))
    (hdb : (x == ("__debug__" : Str)) = false) (he : starEach (e :: es) X.env = (false, eval e X.env) :: starEach es X.env) (hpl : (backTo p2 (starEach es X.env)).any (·.1) = false)
    (hN : X.N.Nodup) (hi : X.N[i]? = some y) (hos : i = C.os) (LK : ∀ i, i ∉ lks → C.lk i = none) (hx : Loc X.env.scope y) (hf : X.fn y = true ∨ X.env.scope.names.lookup y = some .local) :
    PS X (.Assign [.Name y py] (.Call (.Name x p) (e :: es) [] p2) pos) (tS C W lks (.oc i f cs)) := by
  obtain ⟨fa, fd, ps, h1, h2, h3, h4⟩ := Fn
  refine ps_imp (ps_set hN hi hx (pe_callS h4 hr hg h1 h2 h3 (fun σ => passAt tk σ) ha hdb he hpl) rfl hf) fun D σ H ⟨ob, F, s, o, R, e, p⟩ => ?_
  have e : (outR (evA C.Γ cs s) fun l s => (dats l).bind fun ds => match C.Γ f (datA ds) with
    | some (.ok (.obj c xs) _) => if c = C.oc ∧ xs.length ≤ nfl c ∧ i < C.n ∧ i ∉ lks ∧ C.n ≤ s.length then some (.nx (setG C.n (s.set i .un) xs)) else none
    | some (.ex c) => some (.ex c s)
    | _ => none) = some o := by rw [← e]; show _ = exec C.Γ C.n lks C.oc (.oc i f cs) s; rw [exec] <;> rfl
  refine stepS R e p fun l s1 us F1 H1 e1 R1 m1 q1 e2 p1 => ?_
  cases ed : dats l with
  | none => rw [ed] at e2; cases e2
  | some ds =>
    rw [ed, Option.bind_some] at e2
    have rs := RAs.dats q1 ed
    have fram : ∀ {F' H' : Hp}, Ex (· ∈ ([] : List Addr)) F1 H1 F' H' → SR C ob F' H' σ s1 := fun x => R1.frameO x (fun a h => nomatch h) (fun _ _ _ _ h => nomatch h) (fun _ _ h => nomatch h)
    cases er : C.Γ f (datA ds) with
    | none => rw [er] at e2; cases e2
    | some r =>
      rw [er] at e2
      refine ⟨F1, _, [], r, R1.sub, agsR_dat rs, List.nodup_nil, (fun a h => nomatch h), by rw [RAs.length q1, evA_len e1], er, ?_⟩
      cases r with
      | ex c =>
        cases e2
        exact fun F' H' x => p1 ob F' H' σ (fram x) x.sub
      | ok res outs =>
        cases res with
        | cl c => cases e2
        | obj c xs =>
          have e3 : (if c = C.oc ∧ xs.length ≤ nfl c ∧ i < C.n ∧ i ∉ lks ∧ C.n ≤ s1.length then some (Out.nx (setG C.n (s1.set i .un) xs)) else none) = some o := e2
          split at e3
          · rename_i hcond
            obtain ⟨rfl, hl4, hin, hil, hns⟩ := hcond
            cases e3
            intro u F' H' fo fr x' ou ag nd2 hfo
            obtain ⟨a, dx', vs', f', rfl, z1, z2, z3, z4, rfl⟩ := ag
            have R3 := fram x'
            have nf := List.nodup_cons.mp (List.nodup_append.mp nd2).2.1
            have fra : C.Fr a := by
              rcases (hfo a (List.mem_append_right _ List.mem_cons_self)).2 with z | z
              · cases z
              · exact R1.fr_new z
            subst hos
            refine p1 _ F' H' _ ((R3.drop hin).bind (σ' := σ.set C.os (some (.ref a))) z1 z2 fra z3 z4 nf.2 (fun b hb => ?_) (fun j b hj ho hv hb => ?_) (by rw [List.length_set]; exact hns) (by rw [List.length_set]; exact R3.len) (List.getElem?_set_self (by rw [R3.len]; exact hin)) (fun j hj => ?_) fun j v hj => ?_) x'.sub
            · rcases (hfo b (List.mem_append_right _ (List.mem_cons_of_mem _ hb))).2 with z | z
              · cases z
              · exact R1.fr_new z
            · have ho' : (gt s1 j).own = true := by
                rw [gt_set] at ho
                split at ho
                · cases ho
                · exact ho
              rcases (hfo b (List.mem_append_right _ (List.mem_cons_of_mem _ hb))).2 with z | z
              · cases z
              · exact R1.own_ne ho' hv z rfl
            · by_cases e : j = C.os
              · subst e
                left
                rw [gt_set]
                split
                · rfl
                · rename_i hn
                  exact absurd ⟨rfl, by omega⟩ hn
              · right
                rw [List.getElem?_set_ne fun z => e z.symm]
            · have : j ≠ C.os := fun z => by rw [z, LK _ hil] at hj; cases hj
              rw [List.getElem?_set_ne fun z => this z.symm]
              exact R3.lk j v hj
          · cases e3
/-- the object comes back -/
theorem qs_reto (hos : C.os = i) (hN : X.N[i]? = some y) (hv : Vis X.env.scope y) (hd : (y == ("__debug__" : Str)) = false) (hcd : (y == ("__classdict__" : Str)) = false) : PS X (.Return (some (.Name y py)) pos) (tS C W lks .reto) :=
  ps_imp (ps_ret (pe_var hN hv hd hcd)) fun D σ H ⟨ob, F, s, o, R, e, p⟩ => by
  have e : (if (ghosts C.n s).isEmpty then none else some (Out.rt (.obj C.oc (ghosts C.n s)) s)) = some o := by rw [← e]; show _ = exec C.Γ C.n lks C.oc .reto s; rw [exec]
  split at e
  · cases e
  · rename_i hg
    cases e
    obtain ⟨o, rfl⟩ := ob_some R (by simpa using hg)
    obtain ⟨w1, w2, w3, w4, w5, w6, w7⟩ := R.ob1 o rfl
    exact ⟨.ref o.a, by rw [← hos]; exact w7, p _ F H σ _ R (same_refl F) ⟨rfl, o, rfl, rfl, rfl⟩⟩
/-- a field of the object that a call gives comes back -/
theorem qs_rcf {p2 pa : Pos} {fl : Str} {j : Nat} (Fn : FnF X C k f x cs.length) (hr : Room k X.A) (hg : Gl X x) (tk : Takes X W) (ha : PA X (e :: es) (tA C W cs))
    (hdb : (x == ("__debug__" : Str)) = false) (he : starEach (e :: es) X.env = (false, eval e X.env) :: starEach es X.env) (hpl : (backTo p2 (starEach es X.env)).any (·.1) = false)
    (hf : (flds C.oc)[j]? = some fl) (hc : Cls C.K (C.ca C.oc)) (hna : NoAttr C.K (C.ca C.oc) fl) (hK : X.K = C.K) : PS X (.Return (some (.Attribute (.Call (.Name x p) (e :: es) [] p2) fl pa)) pos) (tS C W lks (.rcf f cs j)) := by
  obtain ⟨fa, fd, ps, h1, h2, h3, h4⟩ := Fn
  refine ps_imp (ps_ret (pe_fld (pe_callS h4 hr hg h1 h2 h3 (fun σ => passAt tk σ) ha hdb he hpl) rfl)) fun D σ H ⟨ob, F, s, o, R, e, p⟩ => ?_
  have e : (outR (evA C.Γ cs s) fun l s => (dats l).bind fun ds => match C.Γ f (datA ds) with
    | some (.ok (.obj c xs) _) => if c = C.oc then (xs[j]?).bind fun c => if c.fz.isSome then some (.rt (.cl c) s) else none else none
    | some (.ex c) => some (.ex c s)
    | _ => none) = some o := by rw [← e]; show _ = exec C.Γ C.n lks C.oc (.rcf f cs j) s; rw [exec] <;> rfl
  refine stepS R e p fun l s1 us F1 H1 e1 R1 m1 q1 e2 p1 => ?_
  cases ed : dats l with
  | none => rw [ed] at e2; cases e2
  | some ds =>
    rw [ed, Option.bind_some] at e2
    have rs := RAs.dats q1 ed
    have fram : ∀ {F' H' : Hp}, Ex (· ∈ ([] : List Addr)) F1 H1 F' H' → SR C ob F' H' σ s1 := fun x => R1.frameO x (fun a h => nomatch h) (fun _ _ _ _ h => nomatch h) (fun _ _ h => nomatch h)
    cases er : C.Γ f (datA ds) with
    | none => rw [er] at e2; cases e2
    | some r =>
      rw [er] at e2
      refine ⟨F1, _, [], r, R1.sub, agsR_dat rs, List.nodup_nil, (fun a h => nomatch h), by rw [RAs.length q1, evA_len e1], er, ?_⟩
      cases r with
      | ex c =>
        cases e2
        exact fun F' H' x => p1 ob F' H' σ (fram x) x.sub
      | ok res outs =>
        cases res with
        | cl c => cases e2
        | obj c xs =>
          have e3 : (if c = C.oc then (xs[j]?).bind fun c => if c.fz.isSome then some (Out.rt (.cl c) s1) else none else none) = some o := e2
          split at e3
          · rename_i hcond
            subst hcond
            cases hxj : xs[j]? with
            | none => rw [hxj] at e3; cases e3
            | some cl =>
              rw [hxj, Option.bind_some] at e3
              split at e3
              · rename_i hfz
                cases e3
                intro u F' H' fo fr x' ou ag nd2 hfo
                obtain ⟨a, dx', vs', f', rfl, z1, z2, z3, z4, rfl⟩ := ag
                obtain ⟨v, y1, y2, y3⟩ := cgs_at z4 hxj
                refine ⟨a, C.ca C.oc, dx', _, v, rfl, z1, by rw [hK]; exact hc, by rw [hK]; exact hna, lookup_zip (flds_nodup _) hf y1, ?_⟩
                have new : ∀ b ∈ cadr v cl, H1 b = none := fun b hb => by
                  rcases (hfo b (List.mem_append_right _ (List.mem_cons_of_mem _ (y3 b hb)))).2 with z | z
                  · cases z
                  · exact z
                refine p1 ob F' H' σ v (fram x') x'.sub ⟨(y2.cr fun b hb => R1.fr_new (new b hb)).1, hfz, fun ho i' hi' hv' => ?_⟩
                obtain ⟨b, e, _⟩ := (y2.cr fun b hb => R1.fr_new (new b hb)).1.own_at ho
                cases e
                exact R1.own_ne hi' hv' (new b (by rw [cadr_of ho]; exact List.mem_singleton.mpr rfl)) rfl
              · cases e3
          · cases e3
end
end Mi
namespace Mi
open PySem PySem.Spec PyProof.Rows L2
section
variable {K : PySem.W.Frag} {ca : Nat → Addr} {F H : Hp}
theorem cgs_app : ∀ {us ws : List V} {cs ds : List Cl} {f g : List Addr}, CGs K ca F H us cs f → CGs K ca F H ws ds g → CGs K ca F H (us ++ ws) (cs ++ ds) (f ++ g)
  | [], ws, [], ds, f, g, h, h2 => by
    have h : f = [] := h
    subst h
    exact h2
  | u :: us, ws, c :: cs, ds, f, g, ⟨f', h1, h2, h3⟩, h4 => ⟨f' ++ g, h1, by rw [h2, List.append_assoc], cgs_app h3 h4⟩
  | [], _, _ :: _, _, _, _, h, _ => h.elim
  | _ :: _, _, [], _, _, _, h, _ => h.elim
end
/-- a method: from its promise to its body's reading -/
theorem spG_runM {K : PySem.W.Frag} {ca cv : Nat → Addr} {Γ : Env} {fd : FD} {N : List Str} {vs : List V} {H : Hp} {Q : VK} {E : XK} (hm : fd.meth = true) (hn : fd.n = N.length) (h1 : 1 ≤ fd.np) (hle : fd.np ≤ fd.n) (h : spG K ca cv fd.np (runF Γ fd) vs H Q E) :
    ∃ (C : Cn) (lks : List Nat), C.K = K ∧ C.Γ = Γ ∧ C.n = N.length ∧ C.oc = fd.oc ∧ C.os = 0 ∧ C.cv = cv ∧ C.ca = ca ∧ (∀ i, i ∉ lks → C.lk i = none) ∧ C.xa = none ∧ C.mo = true ∧ tSs C (fun cls d _ H => E cls d H) lks fd.body { nx := fun _ H' => Q .non H', rt := Q } (L2.start N vs) H := by
  obtain ⟨F, ags, fp, r, sF, hA, nd, hf, hv, er, p⟩ := h
  unfold runF at er
  cases ags with
  | nil => unfold entry at er; rw [hm] at er; cases er
  | cons g0 gr =>
    cases g0 with
    | cl c => unfold entry at er; rw [hm] at er; cases er
    | obj c xs =>
      cases vs with
      | nil => exact hA.elim
      | cons u us =>
        obtain ⟨f1, f2, ⟨a, dx, ovs, f, rfl, w1, w2, w3, w4, rfl⟩, rfl, hA2⟩ := hA
        cases ec : clsOf gr with
        | none => unfold entry at er; rw [hm] at er; dsimp only at er; rw [ec] at er; cases er
        | some cs =>
          obtain ⟨hg, rfl⟩ := ags_cgs hA2 ec
          have hl := cgs_len hg
          have hx := cgs_len w4
          have ent : ∃ s, entry fd (.obj c xs :: cs.map Ag.cl) = some s ∧ c = fd.oc ∧ xs.length ≤ fd.nf ∧ cs.length + 1 = fd.np ∧ s = .un :: cs ++ List.replicate (fd.n - fd.np) .un ++ (xs ++ List.replicate (fd.nf - xs.length) .un) := by
            cases ee : entry fd (.obj c xs :: cs.map Ag.cl) with
            | none => rw [ee] at er; cases er
            | some s =>
              unfold entry at ee
              rw [hm] at ee
              dsimp only at ee
              rw [ec, Option.bind_some] at ee
              split at ee
              · rename_i hc
                cases ee
                exact ⟨_, rfl, hc.1, hc.2.1, hc.2.2, rfl⟩
              · cases ee
          obtain ⟨s, ee, rfl, hnf, hcl, hs⟩ := ent
          rw [ee, Option.bind_some] at er
          let C : Cn := ⟨K, Γ, N.length, ⟨(· ∈ (a :: f) ++ f2), F, H⟩, lkOf (lent (.obj fd.oc xs :: cs.map Ag.cl) 0) (.ref a :: us), fd.oc, 0, cv, ca, none, true⟩
          have hvN : (V.ref a :: us).length ≤ N.length := by rw [List.length_cons]; omega
          have lm : ∀ k, k ∈ lent (.obj fd.oc xs :: cs.map Ag.cl) 0 ↔ k = 0 ∨ ∃ j c, k = 1 + j ∧ cs[j]? = some c ∧ c.own = true := fun k => by
            show k ∈ 0 :: lent (cs.map Ag.cl) (0 + 1) ↔ _
            rw [List.mem_cons, lent_mem]
          have lkσ : ∀ i v, C.lk i = some v → (L2.start N (.ref a :: us))[i]? = some (some v) := fun i v h => by
            have h : (if i ∈ lent (.obj fd.oc xs :: cs.map Ag.cl) 0 then (V.ref a :: us)[i]? else none) = some v := h
            split at h
            · have hi : i < (V.ref a :: us).length := by
                rcases Nat.lt_or_ge i (V.ref a :: us).length with z | z
                · exact z
                · rw [List.getElem?_eq_none z] at h; cases h
              rw [start_at hvN, if_pos hi, h]; rfl
            · cases h
          have nd0 := List.nodup_append.mp nd
          have nda := List.nodup_cons.mp nd0.1
          have nd2 : (f2 ++ f).Nodup := List.nodup_append.mpr ⟨nd0.2.1, nda.2, fun x hx y hy e => nd0.2.2 y (List.mem_cons_of_mem _ hy) x hx e.symm⟩
          have memfp : ∀ b, b ∈ f2 ++ f → b ∈ (a :: f) ++ f2 := fun b hb => by
            rcases List.mem_append.mp hb with z | z
            · exact List.mem_append_right _ z
            · exact List.mem_append_left _ (List.mem_cons_of_mem _ z)
          have sl : s.length = N.length + fd.nf := by
            rw [hs]
            simp only [List.length_append, List.length_cons, List.length_replicate]
            omega
          have gs0 : gt s 0 = .un := by rw [hs]; rfl
          have gs1 : ∀ i, 1 ≤ i → i < N.length → gt s i = cs.getD (i - 1) .un := fun i h1 h2 => by
            rw [hs, gt_app, if_pos (by simp only [List.length_append, List.length_cons, List.length_replicate]; omega), gt_app]
            split
            · rename_i hh
              unfold gt
              obtain ⟨k, rfl⟩ : ∃ k, i = k + 1 := ⟨i - 1, by omega⟩
              rfl
            · rename_i hh
              rw [List.length_cons] at hh
              rw [gt_rep, List.getD_eq_getElem?_getD, List.getElem?_eq_none (by omega)]; rfl
          have gs2 : ∀ i, N.length ≤ i → gt s i = xs.getD (i - N.length) .un := fun i h1 => by
            have e0 : (Cl.un :: cs ++ List.replicate (fd.n - fd.np) Cl.un).length = N.length := by
              simp only [List.length_append, List.length_cons, List.length_replicate]; omega
            rw [hs, gt_app, if_neg (by rw [e0]; omega), e0, gt_app]
            split
            · rfl
            · rw [gt_rep, List.getD_eq_getElem?_getD, List.getElem?_eq_none (by omega)]; rfl
          have R : SR C (some ⟨a, dx, ovs⟩) F H (L2.start N (.ref a :: us)) s := by
            refine entry_sr (C := C) (cgs_app hg w4) nd2 (fun b hb => hf b (memfp b hb)) ⟨rfl, rfl⟩ (fun b hb => memfp b hb) sF (fun i => if 1 ≤ i ∧ i ≤ cs.length then some (i - 1) else if N.length ≤ i ∧ i < N.length + xs.length then some (cs.length + (i - N.length)) else none)
              (fun i j q z1 z2 => ?_) (fun i q z => ?_) (fun i z => ?_) ?_ lkσ (fun z => nomatch z) (fun o z => ?_) fun _ => nofun
            · split at z1 <;> split at z2
              · injection z1 with z1; injection z2 with z2; omega
              · split at z2
                · cases z1; injection z2 with z2; omega
                · cases z2
              · split at z1
                · cases z2; injection z1 with z1; omega
                · cases z1
              · split at z1
                · split at z2
                  · injection z1 with z1; injection z2 with z2; omega
                  · cases z2
                · cases z1
            · split at z
              · rename_i hh
                cases z
                refine ⟨cs[i - 1]'(by omega), ?_, ?_, ?_⟩
                · rw [List.getElem?_append_left (by omega), List.getElem?_eq_getElem (by omega)]
                · rw [gs1 i hh.1 (by omega), List.getD_eq_getElem?_getD, List.getElem?_eq_getElem (by omega)]; rfl
                · unfold vAt
                  rw [if_pos (show i < N.length by omega), start_at hvN, if_pos (by rw [List.length_cons]; omega), List.getElem?_append_left (by omega)]
                  obtain ⟨k, rfl⟩ : ∃ k, i = k + 1 := ⟨i - 1, by omega⟩
                  rw [List.getElem?_cons_succ, Nat.add_sub_cancel]
                  rw [List.getElem?_eq_getElem (by omega)]; rfl
              · split at z
                · rename_i hh
                  cases z
                  refine ⟨xs[i - N.length]'(by omega), ?_, ?_, ?_⟩
                  · rw [List.getElem?_append_right (by omega), show cs.length + (i - N.length) - cs.length = i - N.length by omega, List.getElem?_eq_getElem (by omega)]
                  · rw [gs2 i hh.1, List.getD_eq_getElem?_getD, List.getElem?_eq_getElem (by omega)]; rfl
                  · unfold vAt
                    rw [if_neg (show ¬ i < N.length by omega)]
                    show ovs[i - N.length]? = _
                    rw [List.getElem?_append_right (by omega), show cs.length + (i - N.length) - us.length = i - N.length by omega]
                · cases z
            · split at z
              · cases z
              · rename_i h0
                split at z
                · cases z
                · rename_i h2
                  by_cases e0 : i = 0
                  · rw [e0]; exact gs0
                  · rcases Nat.lt_or_ge i N.length with z1 | z1
                    · rw [gs1 i (by omega) z1, List.getD_eq_getElem?_getD, List.getElem?_eq_none (by omega)]; rfl
                    · rw [gs2 i z1, List.getD_eq_getElem?_getD, List.getElem?_eq_none (by omega)]; rfl
            · show (L2.start N (.ref a :: us)).length = N.length
              unfold L2.start
              rw [List.length_append, List.length_map, List.length_replicate]; omega
            · cases z
              refine ⟨w1, w2, .inl (List.mem_append_left _ List.mem_cons_self), w3, fun j hj => ?_, fun j hj => ?_, ?_⟩
              · have hj : ovs.length ≤ j := hj
                show gt s (N.length + j) = .un
                rw [gs2 _ (by omega), List.getD_eq_getElem?_getD, List.getElem?_eq_none (by omega)]; rfl
              · have hj : j < ovs.length := hj
                show gt s (N.length + j) ≠ .un
                have hjx : j < xs.length := by omega
                rw [gs2 _ (by omega), show N.length + j - N.length = j by omega, List.getD_eq_getElem?_getD, List.getElem?_eq_getElem hjx]
                obtain ⟨u, z1, z2, z3⟩ := cgs_at w4 (List.getElem?_eq_getElem hjx)
                have z4 := z2.fz
                intro z
                rw [show (some xs[j]).getD Cl.un = xs[j] from rfl] at z
                rw [z] at z4; cases z4
              · show (L2.start N (.ref a :: us))[0]? = _
                rw [start_at hvN, if_pos (by rw [List.length_cons]; omega)]; rfl
          have fr : ∀ b, C.Fr b → b ∈ (a :: f) ++ f2 ∨ H b = none := fun b h => h
          -- the end, for any answer
          have fin : ∀ {ob : Option OB} {F' H' : Hp} {σ : L2.St} {s1 : S} {u : V} {c : Cl}, SR C ob F' H' σ s1 → okOuts N.length s1 (.obj fd.oc xs :: cs.map Ag.cl) 0 = true → RF C ob F' H' σ s1 u c →
              PostF K ca cv F H (.ref a :: us) (.obj fd.oc xs :: cs.map Ag.cl) ((a :: f) ++ f2) Q E (.ok (.cl c) (.obj fd.oc (ghosts N.length s1) :: outs s1 cs.length 1)) → Q u H' := fun {ob F' H' σ s1 u c} R' hok hr p => by
            cases ob with
            | none => exact absurd rfl (R'.mo rfl)
            | some o =>
              obtain ⟨v1, v2, v3, v4, v5, v6, v7⟩ := R'.ob1 o rfl
              have l0 : C.lk 0 = some (.ref a) := by
                show (if 0 ∈ lent (.obj fd.oc xs :: cs.map Ag.cl) 0 then (V.ref a :: us)[0]? else none) = _
                rw [if_pos ((lm 0).mpr (.inl rfl))]; rfl
              have v8 := R'.lk 0 _ l0
              have ea : o.a = a := by
                have v7 : σ[0]? = some (some (.ref o.a)) := v7
                rw [v7] at v8; cases v8; rfl
              have hok : (((ghosts N.length s1).all fun c => c.fz.isSome) && okOuts N.length s1 (cs.map Ag.cl) 1) = true := hok
              rw [Bool.and_eq_true] at hok
              obtain ⟨fo, h1', h2', h3'⟩ := outs_of R' us cs 1 hl (by show 1 + cs.length ≤ N.length; omega) (fun j c v z1 z2 z3 => R'.lk (1 + j) v (by
                show (if 1 + j ∈ lent (.obj fd.oc xs :: cs.map Ag.cl) 0 then (V.ref a :: us)[1 + j]? else none) = _
                rw [if_pos ((lm (1 + j)).mpr (.inr ⟨j, c, rfl, z1, z2⟩)), show 1 + j = j + 1 by omega, List.getElem?_cons_succ]
                exact z3)) hok.2
              obtain ⟨g, g1, g2, g3⟩ := obj_of R' rfl hok.1
              obtain ⟨r1, r2, r3⟩ := hr
              have gnd := List.nodup_cons.mp g2
              have ex := R'.ex
              refine p u F' H' ((o.a :: g) ++ fo) (cadr u c) ex ⟨_, _, o.a :: g, fo, rfl, by rw [← ea]; exact g1, rfl, h1'⟩ ⟨r1.cg r2, rfl⟩ (List.nodup_append.mpr ⟨List.nodup_append.mpr ⟨g2, h2', fun x hx y hy e => ?_⟩, by unfold cadr; split <;> simp, fun x hx y hy e => ?_⟩) fun b hb => ?_
              · subst e
                obtain ⟨_, _, k, k1, k2, k3, k4⟩ := h3' x hy
                rcases List.mem_cons.mp hx with rfl | hx
                · exact R'.own_ob k3 k4 rfl rfl
                · obtain ⟨_, _, k', q1, q2, q3⟩ := g3 x hx
                  have := R'.inj k k' x k3 q2 k4 q3
                  have q1 : N.length ≤ k' := q1
                  omega
              · subst e
                obtain ⟨o1, rfl⟩ := cadr_own hy
                rcases List.mem_append.mp hx with hx | hx
                · rcases List.mem_cons.mp hx with rfl | hx
                  · obtain ⟨b, e, _, _, q⟩ := r1.own_at o1
                    cases e
                    rcases q with ⟨vs, q⟩ | ⟨vs, q⟩ <;> rw [v1] at q <;> cases q
                  · obtain ⟨_, _, k', q1, q2, q3⟩ := g3 x hx
                    exact r3 o1 k' q2 q3
                · obtain ⟨_, _, k, k1, k2, k3, k4⟩ := h3' x hx
                  exact r3 o1 k k3 k4
              · rcases List.mem_append.mp hb with hb | hb
                · rcases List.mem_append.mp hb with hb | hb
                  · rcases List.mem_cons.mp hb with rfl | hb
                    · exact ⟨v2, fr _ v3⟩
                    · obtain ⟨z1, z2, _⟩ := g3 b hb
                      exact ⟨z1, fr b z2⟩
                  · obtain ⟨z1, z2, _⟩ := h3' b hb
                    exact ⟨z1, fr b z2⟩
                · obtain ⟨o1, rfl⟩ := cadr_own hb
                  obtain ⟨b', e, z1, z2, _⟩ := r1.own_at o1
                  cases e
                  exact ⟨z1, fr b z2⟩
          have oe : ∀ s, outsOf fd s = .obj fd.oc (ghosts N.length s) :: outs s cs.length 1 := fun s => by unfold outsOf; rw [hm, hn, show fd.np - 1 = cs.length by omega]
          rw [hn] at er
          have er : (match execs Γ N.length (lent (.obj fd.oc xs :: cs.map Ag.cl) 0) fd.oc fd.body s with
            | some (.nx s1) => if okOuts N.length s1 (.obj fd.oc xs :: cs.map Ag.cl) 0 then some (FR.ok (.cl (.val .non)) (outsOf fd s1)) else none
            | some (.rt a s1) => if okOuts N.length s1 (.obj fd.oc xs :: cs.map Ag.cl) 0 && okResM fd.meth a then some (.ok a (outsOf fd s1)) else none
            | some (.ex c _) => some (.ex c)
            | _ => none) = some r := er
          cases eb : execs Γ N.length (lent (.obj fd.oc xs :: cs.map Ag.cl) 0) fd.oc fd.body s with
          | none => rw [eb] at er; cases er
          | some o =>
            rw [eb] at er
            refine ⟨C, lent (.obj fd.oc xs :: cs.map Ag.cl) 0, rfl, rfl, rfl, rfl, rfl, rfl, rfl, fun i hi => if_neg hi, rfl, rfl, _, F, _, o, R, eb, ?_⟩
            cases o with
            | nx s1 =>
              dsimp only at er
              split at er
              · rename_i hok
                cases er
                intro ob F' H' σ' R' m'
                rw [oe] at p
                exact fin R' hok (RF.val R' .non) p
              · cases er
            | rt a s1 =>
              dsimp only at er
              split at er
              · rename_i hok
                cases er
                intro ob F' H' σ' u R' m' ar
                rw [oe] at p
                rw [Bool.and_eq_true] at hok
                cases a with
                | cl c => exact fin R' hok.1 ar p
                | obj c xs =>
                  have h2 := hok.2
                  unfold okResM at h2
                  rw [hm] at h2
                  cases h2
              · cases er
            | ex k s1 =>
              cases er
              intro ob F' H' σ' R' m'
              exact p F' H' R'.ex
            | bk s1 => cases er
            | ct s1 => cases er
end Mi
namespace Mi
open PySem PySem.Spec PyProof.Rows L2
/-! ### for a, b in zip(xs, ys) -/
section
variable {X : Cx} {C : Cn} {W : WX} {lks : List Nat}
def zPut (i j : Nat) (p : D) (s : S) : S := match p with
  | .tup [d, e] => (s.set i (.val d)).set j (.val e)
  | _ => s
theorem qs_forz {x y : Str} {px py tp p zp pos : Pos} {i j kk : Nat} {e e2 : Expr} {cd ce : CE} {b : List Stmt} {cb : List CS} (hp : PassesOwn (model X.prog X.w) X.A X.env X.xe) (hc : X.calm = true) (hN : X.N.Nodup) (hi : X.N[i]? = some x) (hin : i < C.n) (hj : X.N[j]? = some y) (hjn : j < C.n)
    (LK : ∀ i, i ∉ lks → C.lk i = none) (hos : i ≠ C.os) (hos2 : j ≠ C.os) (hx : Loc X.env.scope x) (hy : Loc X.env.scope y) (hf : X.fn x = true ∨ X.env.scope.names.lookup x = some .local) (hf2 : X.fn y = true ∨ X.env.scope.names.lookup y = some .local) (hg : Gl X "zip") (hm : X.mg "zip" = none) (ha : PA X [e, e2] (tA C W [cd, ce]))
    (hs : starEach [e, e2] X.env = (false, eval e X.env) :: starEach [e2] X.env) (hpl : (backTo zp (starEach [e2] X.env)).any (·.1) = false) (hb : PSs X b (tSs C W lks cb)) :
    PS X (.For (.Tuple [.Name x px, .Name y py] kk tp) (.Call (.Name "zip" p) [e, e2] [] zp) b [] pos) (tS C W lks (.forz i j cd ce cb)) :=
  ps_imp (ps_for hp hc (pi_zip hg hm ha hs hpl) (pg_tup hc (pgs_cons (pg_name hN hi hx hf) (pgs_cons (pg_name hN hj hy hf2) pgs_nil))) hb) fun Dn σ H ⟨ob, F, s, o, R, e, p⟩ => by
  have e : (outR (evA C.Γ [cd, ce] s) fun l s => if i < C.n ∧ i ∉ lks ∧ j < C.n ∧ j ∉ lks then
      (match l with
      | [.d (.lst xs), .d (.lst ys)] => if xs.length = ys.length then forL (zPut i j) (fun s => execs C.Γ C.n lks C.oc cb s) (List.zipWith (fun d e => .tup [d, e]) xs ys) s else none
      | _ => none) else none) = some o := by rw [← e]; show _ = exec C.Γ C.n lks C.oc (.forz i j cd ce cb) s; rw [exec] <;> rfl
  refine stepS R e p fun l s1 us F1 H1 e1 R1 m1 q1 e2 p1 => ?_
  have q1 : RAs C ob F1 σ us l := q1
  split at e2
  · rename_i hl
    obtain ⟨l1, l2, l3, l4⟩ := hl
    have k1 := LK i l2
    have k2 := LK j l4
    split at e2
    · rename_i xs ys q0
      split at e2
      · rename_i hlen
        match us, q1 with
        | [u, w], ⟨ra, rb, _⟩ =>
          have ra : Rep C.K C.ca F1 u (.lst xs) := ra
          have rb : Rep C.K C.ca F1 w (.lst ys) := rb
          cases ra with
          | @lst a vs _ fa rva =>
            cases rb with
            | @lst b2 ws _ fb rvb =>
              have lv := rva.length
              have lw := rvb.length
              let zs : List D := List.zipWith (fun d e => .tup [d, e]) xs ys
              have sq : ∀ H2, Same F1 H2 → SqL X.K H2 a vs ∧ SqL X.K H2 b2 ws := fun H2 m => ⟨.inl (.inl (m _ _ fa)), .inl (.inl (m _ _ fb))⟩
              refine ⟨a, b2, vs, ws, rfl, (sq H1 R1.sub).1, (sq H1 R1.sub).2, ?_⟩
              refine RZ.for_zipL (K := X.K) (a := a) (b := b2) (xs := vs) (ys := ws) (by omega) (fun t σ H => ∃ ob F2 s, SR C ob F2 H σ s ∧ Same F1 F2 ∧ forL (zPut i j) (fun s => execs C.Γ C.n lks C.oc cb s) (zs.drop t) s = some o) ⟨ob, F1, s1, R1, same_refl F1, by rw [List.drop_zero]; exact e2⟩ (fun t σ2 H2 ⟨ob2, F2, s2, R2, m2, h2⟩ => sq H2 (m2.trans R2.sub)) (fun t xv yv T σ2 H2 hxv hyv ⟨ob2, F2, s2, R2, m2, h2⟩ hT => ?_) fun σ2 H2 ⟨ob2, F2, s2, R2, m2, h2⟩ => ?_
              · obtain ⟨d, hd, rd⟩ := rva.getV hxv
                obtain ⟨d2, hd2, rd2⟩ := rvb.getV hyv
                have ht : t < xs.length := by
                  rcases Nat.lt_or_ge t xs.length with z | z
                  · exact z
                  · rw [List.getElem?_eq_none z] at hd; cases hd
                have hz : zs[t]? = some (.tup [d, d2]) := by
                  show (List.zipWith (fun d e => D.tup [d, e]) xs ys)[t]? = _
                  rw [List.getElem?_zipWith, hd, hd2]
                have hzl : t < zs.length := by
                  rcases Nat.lt_or_ge t zs.length with z | z
                  · exact z
                  · rw [List.getElem?_eq_none z] at hz; cases hz
                have hdrop : zs.drop t = .tup [d, d2] :: zs.drop (t + 1) := by
                  rw [List.drop_eq_getElem_cons hzl]
                  congr 1
                  rw [List.getElem?_eq_getElem hzl] at hz
                  exact Option.some.inj hz
                rw [hdrop] at h2
                have R3 : SR C ob2 F2 (upd H2 T (.tup [xv, yv])) σ2 s2 := R2.new _ hT
                have R4 := R3.setv (v := xv) (c := .val d) l1 hos k1 rfl ⟨xv, rfl, rd.mono m2⟩
                have R5 := R4.setv (v := yv) (c := .val d2) l3 hos2 k2 rfl ⟨yv, rfl, rd2.mono m2⟩
                refine ⟨T, [xv, yv], rfl, .inl (.inl upd_same), rfl, xv, [yv], rfl, ?_⟩
                show gCons (gName j) gNil [yv] (σ2.set i (some xv)) _ _
                refine ⟨yv, [], rfl, ?_⟩
                show gNil [] ((σ2.set i (some xv)).set j (some yv)) _ _
                refine ⟨rfl, ?_⟩
                unfold forL at h2
                have ez : zPut i j (.tup [d, d2]) s2 = (s2.set i (.val d)).set j (.val d2) := rfl
                rw [ez] at h2
                have p2 := p1.mono m2
                cases eb : execs C.Γ C.n lks C.oc cb ((s2.set i (.val d)).set j (.val d2)) with
                | none => rw [eb] at h2; cases h2
                | some o2 =>
                  rw [eb] at h2
                  refine ⟨ob2, F2, _, o2, R5, eb, ?_⟩
                  cases o2 with
                  | nx s3 => exact fun ob' F' H' σ' R' m' => ⟨ob', F', s3, R', m2.trans m', h2⟩
                  | ct s3 => exact fun ob' F' H' σ' R' m' => ⟨ob', F', s3, R', m2.trans m', h2⟩
                  | bk s3 => cases h2; exact p2
                  | rt a s3 => cases h2; exact p2
                  | ex k s3 => cases h2; exact p2
              · have hzl : zs.length ≤ vs.length := by
                  show (List.zipWith (fun d e => D.tup [d, e]) xs ys).length ≤ _
                  rw [List.length_zipWith]; omega
                rw [List.drop_eq_nil_of_le hzl] at h2
                cases h2
                exact (p1.mono m2) ob2 F2 H2 σ2 R2 (same_refl F2)
      · cases e2
    · cases e2
  · cases e2
end
end Mi
namespace Mi
open PySem PySem.Spec PyProof.Rows L2
/-! ### try, except -/
/-- the exception that a suite holds -/
abbrev Cn.held (C : Cn) (a : Addr) (c : Nat) : Cn := { C with xa := some (a, c) }
theorem cr_xa {C : Cn} {x y : Option (Addr × Nat)} {F H : Hp} {o : Option V} {c : Cl} (hc : isExn c = false) (h : CR { C with xa := x } F H o c) : CR { C with xa := y } F H o c := by
  cases c with
  | exn k => cases hc
  | un => trivial
  | val d => exact h
  | lst xs => exact h
  | dct ks xs => exact h
/-- another exception is held, or none: no slot knows of one -/
theorem SR.xa {C : Cn} {x y : Option (Addr × Nat)} {ob : Option OB} {F H : Hp} {σ : L2.St} {s : S} (R : SR { C with xa := x } ob F H σ s) (hs : ∀ i, isExn (gt s i) = false) : SR { C with xa := y } ob F H σ s :=
  ⟨R.ex, R.len, fun i => cr_xa (C := C) (x := x) (y := y) (hs i) (R.cr i), R.inj, R.lk, R.ob0, R.ob1, R.mo⟩
theorem SR.noexn {C : Cn} {ob : Option OB} {F H : Hp} {σ : L2.St} {s : S} (R : SR C ob F H σ s) (hx : C.xa = none) (i : Nat) : isExn (gt s i) = false := by
  have q := R.cr i
  cases e : gt s i with
  | exn c =>
    rw [e] at q
    obtain ⟨a, _, h⟩ := q
    rw [hx] at h; cases h
  | _ => rfl
theorem noX_gt {s : S} (h : noX s = true) (i : Nat) : isExn (gt s i) = false := by
  unfold gt
  rw [List.getD_eq_getElem?_getD]
  cases e : s[i]? with
  | none => rfl
  | some c =>
    have := List.all_eq_true.mp h c (List.mem_of_getElem? e)
    simpa using this
/-- the suite begins: its name's slot holds the exception -/
theorem SR.catch_ {C : Cn} {ob : Option OB} {F H : Hp} {σ : L2.St} {s : S} (R : SR C ob F H σ s) (hx : C.xa = none) {i : Nat} (hi : i < C.n) (hos : i ≠ C.os) (hlk : C.lk i = none) (a : Addr) (c : Nat) : SR (C.held a c) ob F H (σ.set i (some (.ref a))) (s.set i (.exn c)) := by
  have R1 : SR (C.held a c) ob F H σ s := SR.xa (C := C) (x := C.xa) (y := some (a, c)) R fun j => R.noexn hx j
  have out : ∀ k, (gt (s.set i (.exn c)) k).own = true → k ≠ i ∧ (gt s k).own = true := fun k hk => by
    rw [gt_set] at hk
    split at hk
    · cases hk
    · rename_i hn
      refine ⟨fun e => ?_, hk⟩
      subst e
      have : gt s k = .un := by
        unfold gt
        rw [List.getD_eq_getElem?_getD, List.getElem?_eq_none]
        · rfl
        · have := fun z => hn ⟨rfl, z⟩; omega
      rw [this] at hk; cases hk
  refine ⟨R1.ex, by rw [List.length_set]; exact R1.len, fun j => ?_, fun j k b h1 h2 h3 h4 => ?_, fun j v h => ?_, fun h j hj => ?_, fun o h => ?_, R1.mo⟩
  · rw [vAt_set (C := C.held a c) hi R1.len]
    by_cases e : j = i
    · subst e
      rw [if_pos rfl, gt_set]
      split
      · exact ⟨a, rfl, rfl⟩
      · rename_i hn
        have : gt s j = .un := by
          unfold gt
          rw [List.getD_eq_getElem?_getD, List.getElem?_eq_none]
          · rfl
          · have := fun z => hn ⟨rfl, z⟩; omega
        rw [this]; trivial
    · rw [if_neg e, gt_set, if_neg fun z => e z.1.symm]
      exact R1.cr j
  · obtain ⟨n1, o1⟩ := out j h1
    obtain ⟨n2, o2⟩ := out k h2
    rw [vAt_set (C := C.held a c) hi R1.len, if_neg n1] at h3
    rw [vAt_set (C := C.held a c) hi R1.len, if_neg n2] at h4
    exact R1.inj j k b o1 o2 h3 h4
  · have : j ≠ i := fun z => by rw [z] at h; exact absurd (h.symm.trans hlk) (fun z => nomatch z)
    rw [List.getElem?_set_ne (fun z => this z.symm)]
    exact R1.lk j v h
  · have hj : C.n ≤ j := hj
    rw [gt_set, if_neg fun z => by omega]
    exact R1.ob0 h j hj
  · obtain ⟨h1, h2, h3, h4, h5, h6, h7⟩ := R1.ob1 o h
    have hn : (C.held a c).n = C.n := rfl
    refine ⟨h1, h2, h3, h4, fun j hj => ?_, fun j hj => ?_, ?_⟩
    · rw [gt_set, if_neg fun z => by have := z.1; omega]; exact h5 j hj
    · rw [gt_set, if_neg fun z => by have := z.1; omega]; exact h6 j hj
    · rw [List.getElem?_set_ne hos]; exact h7
/-- the suite ends: the slot is empty -/
theorem SR.wipe {C : Cn} {ob : Option OB} {F H : Hp} {σ : L2.St} {s : S} {a : Addr} {c : Nat} (R : SR (C.held a c) ob F H σ s) {i : Nat} (hi : i < C.n) (hos : i ≠ C.os) (hlk : C.lk i = none) (hs : noX (s.set i .un) = true) : SR C ob F H (σ.set i none) (s.set i .un) := by
  have out : ∀ k, (gt (s.set i .un) k).own = true → k ≠ i ∧ (gt s k).own = true := fun k hk => by
    rw [gt_set] at hk
    split at hk
    · cases hk
    · rename_i hn
      refine ⟨fun e => ?_, hk⟩
      subst e
      have : gt s k = .un := by
        unfold gt
        rw [List.getD_eq_getElem?_getD, List.getElem?_eq_none]
        · rfl
        · have := fun z => hn ⟨rfl, z⟩; omega
      rw [this] at hk; cases hk
  have va : ∀ k, k ≠ i → vAt (C.held a c) (σ.set i none) ob k = vAt (C.held a c) σ ob k := fun k hk => by
    unfold vAt
    split
    · rw [List.getElem?_set_ne (fun z => hk z.symm)]
    · rfl
  have R2 : SR (C.held a c) ob F H (σ.set i none) (s.set i .un) := by
    refine ⟨R.ex, by rw [List.length_set]; exact R.len, fun j => ?_, fun j k b h1 h2 h3 h4 => ?_, fun j v h => ?_, fun h j hj => ?_, fun o h => ?_, R.mo⟩
    · by_cases e : j = i
      · subst e
        have : gt (s.set j .un) j = .un := by
          rw [gt_set]
          split
          · rfl
          · rename_i hn
            unfold gt
            rw [List.getD_eq_getElem?_getD, List.getElem?_eq_none]
            · rfl
            · have := fun z => hn ⟨rfl, z⟩; omega
        rw [this]; trivial
      · rw [va j e, gt_set, if_neg fun z => e z.1.symm]
        exact R.cr j
    · obtain ⟨n1, o1⟩ := out j h1
      obtain ⟨n2, o2⟩ := out k h2
      rw [va j n1] at h3
      rw [va k n2] at h4
      exact R.inj j k b o1 o2 h3 h4
    · have : j ≠ i := fun z => by rw [z] at h; exact absurd (h.symm.trans hlk) (fun z => nomatch z)
      rw [List.getElem?_set_ne (fun z => this z.symm)]
      exact R.lk j v h
    · have hj : C.n ≤ j := hj
      rw [gt_set, if_neg fun z => by omega]
      exact R.ob0 h j hj
    · obtain ⟨h1, h2, h3, h4, h5, h6, h7⟩ := R.ob1 o h
      have hn : (C.held a c).n = C.n := rfl
      refine ⟨h1, h2, h3, h4, fun j hj => ?_, fun j hj => ?_, ?_⟩
      · rw [gt_set, if_neg fun z => by have := z.1; omega]; exact h5 j hj
      · rw [gt_set, if_neg fun z => by have := z.1; omega]; exact h6 j hj
      · rw [List.getElem?_set_ne hos]; exact h7
  exact SR.xa (C := C) (x := some (a, c)) (y := C.xa) R2 fun j => noX_gt hs j
/-- what stands in no slot that is wiped is still fresh -/
theorem RF.wipe {C : Cn} {ob : Option OB} {F H : Hp} {σ : L2.St} {s : S} {a : Addr} {k : Nat} {u : V} {c : Cl} {i : Nat} (h : RF (C.held a k) ob F H σ s u c) : RF C ob F H (σ.set i none) (s.set i .un) u c := by
  obtain ⟨h1, h2, h3⟩ := h
  have hx : isExn c = false := by cases c <;> first | rfl | cases h2
  refine ⟨cr_xa (C := C) (x := some (a, k)) (y := C.xa) hx h1, h2, fun hc j hj hv => ?_⟩
  rw [gt_set] at hj
  split at hj
  · cases hj
  · rename_i hn
    by_cases e : j = i
    · subst e
      have : gt s j = .un := by
        unfold gt
        rw [List.getD_eq_getElem?_getD, List.getElem?_eq_none]
        · rfl
        · have := fun z => hn ⟨rfl, z⟩; omega
      rw [this] at hj; cases hj
    · refine h3 hc j hj ?_
      rw [← hv]
      unfold vAt
      show (if j < C.n then _ else _) = (if j < C.n then _ else _)
      split
      · rw [List.getElem?_set_ne (fun z => e z.symm)]
      · rfl
/-! ### isinstance of the exception that a suite holds -/
/-- what the written part says of the classes of exceptions -/
def excOne (K : PySem.W.Frag) (cv : Nat → Addr) (cs : List Nat) (c : Nat) : Prop := ExcC K (cv c) ∧ PySem.W.kitOne K (.ref (cv c)) (.type "ValueError") = some true ∧ ∀ t ∈ cs, PySem.W.exmOne K (.ref (cv c)) (.ref (cv t)) = some (takesC c [t]) ∧ PySem.W.kitOne K (.ref (cv c)) (.ref (cv t)) = some (takesC c [t])
def ExcAll (K : PySem.W.Frag) (cv : Nat → Addr) (cs : List Nat) : Prop := ∀ c ∈ cs, excOne K cv cs c
/-- isinstance asks an exception of class D at a rightly -/
def IsE (X : Cx) (D a : Addr) : Prop := CallR X (.builtin "isinstance") (rIsE X.K D a) ∧ CallR X (.builtin "isinstance") fun xs H Q => ∃ (tp : Addr) (cs : List Addr) (b : Bool), xs = [.ref a, .ref tp] ∧ H tp = some (.tup (cs.map V.ref)) ∧ PySem.W.kitAny X.K (.ref D) (cs.map Value.ref) = some b ∧ Q (.bl b) H
theorem isE_of {X : Cx} {a D : Addr} {oe : Obj} {pn : List (Addr × Obj)} (E : ExcC X.K D) (hz : Zc (.ref D) none oe) (hf : ∃ vs, oe.data = .fields vs) : IsE (X.suite a ((a, oe) :: pn)) D a := by
  refine ⟨call_isE E hz hf, ?_⟩
  intro pins s σ H xs us Q I r h
  obtain ⟨tp, cs, b, rfl, hT, e, q⟩ := h
  obtain ⟨u1, u2, rfl, r1, r2⟩ := vals2 r
  obtain rfl : u1 = Value.ref a := r1
  obtain rfl : u2 = Value.ref tp := r2
  have hget := (I.pin (a, oe) (List.mem_append.mpr (.inl (by simp)))).1
  obtain ⟨vs, hv⟩ := hf
  have J : PySem.W.InstAt s.heap a oe D none := by
    cases oe with
    | mk oc od oda osl =>
      obtain ⟨h1, h2⟩ := hz
      have h1 : oc = .ref D := h1
      have h2 : od = none := h2
      have hv : oda = .fields vs := hv
      rw [h1, h2, hv] at hget ⊢
      exact ⟨hget, rfl, rfl, trivial⟩
  obtain ⟨_, its, rv, o, h1, h2, n, h3⟩ := (show ObjOk _ _ H s.heap tp (.tup (cs.map V.ref)) from I.hok tp _ hT)
  have rvE : ∀ {cs : List Addr} {its : List Value}, Vals (cs.map V.ref) its → its = cs.map Value.ref := by
    intro cs
    induction cs with
    | nil => intro its r; cases r; rfl
    | cons c cs ih =>
      intro its r
      cases r with
      | cons ra rb => rw [ih rb, show _ = Value.ref c from ra]; rfl
  have e3 := rvE rv
  subst e3
  cases o with
  | mk oc od oda osl =>
    have h2 : oc = .type "tuple" := h2
    have h3 : oda = .seq (cs.map Value.ref).toArray n := h3
    rw [h2, h3] at h1
    exact PySem.W.kia_tup (PySem.W.handS_kitx_exc E.hg E.hk E.hs E.hd E.ha E.hn E.ht E.hm) I.kIn J h1 e (fun z => nomatch z) fun tk => ⟨.bl b, H, I.kept (t' := tk) fun _ _ z => z, rfl, q⟩
section
variable {X : Cx} {C : Cn} {W : WX} {pos : Pos}
theorem isx_case {Γ : Env} {i : Nat} {ts ks : List Nat} {s : S} {r : R Ro} (h : ev Γ (.isx i ts ks) s = some r) : ∃ c, gt s i = .exn c ∧ c ∈ ks ∧ r = .ok (.fr (.val (.bl (ts.contains c)))) s := by
  have h : (match gt s i with
    | .exn c => if ks.contains c then some (Mi.R.ok (Ro.fr (.val (.bl (ts.contains c)))) s) else none
    | _ => none) = some r := h
  split at h
  · rename_i c e
    split at h
    · rename_i hc
      cases h
      exact ⟨c, e, by simpa using hc, rfl⟩
    · cases h
  · cases h
/-- the slot holds the exception that the context knows of -/
theorem SR.exn {ob : Option OB} {F H : Hp} {σ : L2.St} {s : S} (R : SR C ob F H σ s) {i c : Nat} (h : gt s i = .exn c) : ∃ a, vAt C σ ob i = some (.ref a) ∧ C.xa = some (a, c) := by
  have q := R.cr i
  rw [h] at q
  exact q
theorem pe_none {X : Cx} {e : Expr} {t : TE} (h : ∀ σ H Q, ¬ t σ H Q) : PE X e t := ⟨fun pins s σ H Q I q => (h σ H Q q).elim⟩
/-- isinstance(e, T): T one class of ours, or ValueError -/
theorem qe_isx {i : Nat} {x t : Str} {p p2 p3 : Pos} {ts ks : List Nat} {cv : V} {cu : Value} (hg : Gl X "isinstance") (hm : X.mg "isinstance" = none) (hn : i < C.n) (hN : X.N[i]? = some x) (hv : Vis X.env.scope x) (hd : (x == ("__debug__" : Str)) = false) (hcd : (x == ("__classdict__" : Str)) = false)
    (hx : ∀ a c, C.xa = some (a, c) → c ∈ ks → IsE X (C.cv c) a) (hT : PE X (.Name t p2) (tC cv)) (hcv : ∀ u, RelV cv u → u = cu) (hk : ∀ c ∈ ks, PySem.W.kitOne X.K (.ref (C.cv c)) cu = some (ts.contains c)) :
    PE X (.Call (.Name "isinstance" p) [.Name x p3, .Name t p2] [] pos) (tE C W (.isx i ts ks)) := by
  by_cases ha : ∃ a c, C.xa = some (a, c) ∧ c ∈ ks
  · obtain ⟨a, c, ha, hc⟩ := ha
    have h := pe_callB (x := "isinstance") (p := p) (pos := pos) (hx a c ha hc).1 hg hm (by decide +kernel) (pa_cons (pe_var (pos := p3) hN hv hd hcd) (pa_cons hT pa_nil rfl) rfl) (by decide) (by decide) rfl rfl
    refine pe_imp h fun σ H Q ⟨ob, F, s, r, R, e, q⟩ => ?_
    obtain ⟨c', e1, e2, rfl⟩ := isx_case e
    obtain ⟨a', v1, v2⟩ := R.exn e1
    rw [ha] at v2; cases v2
    exact ⟨.ref a, (vAt_lt hn).mp v1, cv, cu, _, rfl, hcv, hk _ hc, post_val q R (.bl _)⟩
  · refine pe_none fun σ H Q ⟨ob, F, s, r, R, e, q⟩ => ?_
    obtain ⟨c', e1, e2, rfl⟩ := isx_case e
    obtain ⟨a', v1, v2⟩ := R.exn e1
    exact ha ⟨a', c', v2, e2⟩
end
end Mi
/-! ### sorted, of pairs of a number and a text -/
namespace SrtO
open PySem PyProof.Rows Srt
/-- a pair's key -/
abbrev KeyP := Int × PySem.Str
def keyL (p : KeyP) : List (Int ⊕ List Nat) := [.inl p.1, .inr p.2.cps.toList]
def ltQ (p q : KeyP) : Bool := lexLt itemOrd (keyL p) (keyL q)
theorem ltQ_eq (p q : KeyP) : ltQ p q = if p.1 = q.1 then decide (p.2.cps.toList < q.2.cps.toList) else decide (p.1 < q.1) := by
  obtain ⟨a, x⟩ := p
  obtain ⟨b, y⟩ := q
  unfold ltQ keyL
  rw [lex_cons, lex_cons]
  show (decide (a < b) || (!decide (b < a) && (decide (x.cps.toList < y.cps.toList) || (!decide (y.cps.toList < x.cps.toList) && false)))) = if a = b then decide (x.cps.toList < y.cps.toList) else decide (a < b)
  rw [Bool.and_false, Bool.or_false]
  by_cases h : a = b
  · subst h
    rw [if_pos rfl]
    have : decide (a < a) = false := by simp
    rw [this]; rfl
  · rw [if_neg h]
    by_cases h2 : a < b
    · simp [h2]
    · have : b < a := by omega
      simp [h2, this]
theorem swo_key (k : Value → KeyP) : Swo fun u v => ltQ (k u) (k v) :=
  ⟨fun x y h => by
    cases e : ltQ (k y) (k x) with
    | false => rfl
    | true => exact absurd ((lex_trans (O := itemOrd) _ _ _ h e).symm.trans (lex_irrefl (O := itemOrd) _)) (by simp), fun x y z h1 h2 => by
    cases e : ltQ (k z) (k x) with
    | false => rfl
    | true =>
      rcases lex_negTrans (O := itemOrd) (keyL (k z)) (keyL (k y)) (keyL (k x)) e with w | w
      · exact absurd (w.symm.trans h2) (by simp)
      · exact absurd (w.symm.trans h1) (by simp)⟩
/-- a tuple in the heap, of a number and a text -/
def IsNT (h : Heap) (v : Value) (p : KeyP) : Prop := ∃ (t : Addr) (o : Obj) (t1 t2 : Tok) (n : Nat), v = .ref t ∧ h.get? t = some o ∧ o.cls = .type "tuple" ∧ o.data = .seq #[.int p.1 t1, .str p.2 t2] n
theorem IsNT.stay {h h' : Heap} {v : Value} {p : KeyP} (k : ∀ b o, h.get? b = some o → o.cls = .type "tuple" → h'.get? b = some o) : IsNT h v p → IsNT h' v p
  | ⟨t, o, t1, t2, n, e1, e2, e3, e4⟩ => ⟨t, o, t1, t2, n, e1, k t o e2 e3, e3, e4⟩
theorem heads_of {h : Heap} {k : Value → KeyP} : ∀ {vs : List Value}, (∀ v ∈ vs, IsNT h v (k v)) → ∃ fs : List Value, PySem.W.KatTups h vs fs ∧ fs.length = vs.length ∧ ∀ f ∈ fs, ∃ i t, f = Value.int i t
  | [], _ => ⟨[], .nil, rfl, fun _ z => nomatch z⟩
  | v :: vs, hp => by
    obtain ⟨fs, q1, q2, q3⟩ := heads_of (vs := vs) fun u hu => hp u (List.mem_cons_of_mem _ hu)
    obtain ⟨t, o, t1, t2, n, e1, e2, e3, e4⟩ := hp v List.mem_cons_self
    subst e1
    refine ⟨.int (k (.ref t)).1 t1 :: fs, .cons e2 e3 e4 rfl q1, by rw [List.length_cons, List.length_cons, q2], fun f hf => ?_⟩
    rcases List.mem_cons.mp hf with rfl | hf
    · exact ⟨_, _, rfl⟩
    · exact q3 f hf
section
variable {prog : Program} {w : World} {A : Around} {s : Shared}
theorem nt_sortable {a : Addr} {vs : List Value} {k : Value → KeyP} (h0 : 0 < vs.length) (hp : ∀ v ∈ vs, IsNT s.heap v (k v)) (ha : ∀ o, s.heap.get? a = some o → o.cls ≠ .type "tuple") : SortableO prog w A s a vs fun u v => ltQ (k u) (k v) := fun h' keep => by
  have hp' : ∀ v ∈ vs, IsNT h' v (k v) := fun v hm => (hp v hm).stay fun b o e c => keep b o (by rintro rfl; exact ha o e c) e
  obtain ⟨fs, q1, q2, q3⟩ := heads_of hp'
  refine ⟨tuples' true, fun Q E hq => ?_, fun p q hm hm' => ?_⟩
  · refine PySem.W.kat_kind (s := { s with heap := h' }) (T := .type "int") q1 (by omega) (fun f hf => ?_) rfl ?_
    · obtain ⟨i, t, rfl⟩ := q3 f hf
      exact PySem.W.Looks.of_pure rfl
    · have e : (Value.type "int" != Value.type "tuple") = true := by decide +kernel
      rw [e]; exact hq
  · obtain ⟨t, o, t1, t2, n, e1, e2, e3, e4⟩ := hp' _ hm
    obtain ⟨t', o', t1', t2', n', e1', e2', e3', e4'⟩ := hp' _ hm'
    have key : wpAny (model prog w) A (keyLt' (tuples' true) (.ref t) (.ref t')) (fun r s' => s' = { s with heap := h' } ∧ r = ltQ (k p.1) (k q.1)) (fun _ _ => False) { s with heap := h' } :=
      PySem.W.kat_lt e2 e4 e2' e4' (tup_lex (shape := fun i => i == 1) [.int (k p.1).1 t1, .str (k p.1).2 t2] [.int (k q.1).1 t1', .str (k q.1).2 t2'] 0 (keyL (k p.1)) (keyL (k q.1)) rfl rfl rfl ⟨rfl, rfl⟩)
    rw [← e1, ← e1'] at key
    exact key
end
end SrtO
namespace L2
open PySem PySem.Spec PyProof.Rows
/-- sorted(xs), xs pairs of a number and a text, k tells them -/
def rSortedNT (K : PySem.W.Frag) : List V → Hp → VK → Prop := fun vs H Q => ∃ (a : Addr) (xs : List V) (k : V → SrtO.KeyP), vs = [V.ref a] ∧ SqL K H a xs ∧ (∀ x ∈ xs, ∃ t, x = V.ref t ∧ H t = some (.tup [.int (k x).1, .str (k x).2])) ∧
  ∀ (zs : List V) (p : Addr), zs.Perm xs → zs.Pairwise (fun x y => SrtO.ltQ (k y) (k x) = false) → H p = none → Q (.ref p) (upd H p (.lst zs))
section
variable {X : Cx}
theorem cr_sortedNT : CallR X (.builtin "sorted") (rSortedNT X.K) := by
  intro pins s σ H vs us Q I r h
  obtain ⟨a, xs, k, rfl, hs, hx, q⟩ := h
  obtain ⟨its, rv, hl, hz⟩ := I.list hs
  rw [Vals.ref1 r]
  obtain ⟨e1, e2⟩ := refs_back rv fun x m => (hx x m).imp fun t z => z.1
  have hp : ∀ v ∈ its, SrtO.IsNT s.heap v (k (backV v)) := fun v hv => by
    obtain ⟨t, rfl⟩ := e2 v hv
    obtain ⟨t', e, ht⟩ := hx (.ref t) (by rw [e1]; exact List.mem_map.mpr ⟨_, hv, rfl⟩)
    cases e
    obtain ⟨_, its2, r2, o, ho, hc, n, hd⟩ := I.hok _ _ ht
    obtain ⟨u1, u2, rfl, ⟨t1, w1⟩, ⟨t2, w2⟩⟩ := vals2 r2
    rw [w1, w2] at hd
    exact ⟨t, o, t1, t2, n, rfl, ho, hc, hd⟩
  refine SrtO.sorted_ord (SrtO.swo_key fun u => k (backV u)) hl.isList (by rw [← rv.length]; exact hz) (fun h2 h₁ a' ha' kk => ?_) fun out h1 h2 => ?_
  · refine SrtO.nt_sortable (s := { s with heap := h₁ }) (by omega) (fun v hv => (hp v hv).stay fun b o e _ => (kk b o e).2) fun o e c => ?_
    have e' : some o = some (seqObj "list" its.toArray 0) := e.symm.trans ha'
    cases e'
    exact absurd (Value.type.inj c) (by decide)
  · have h3 : ∀ u ∈ out, ∃ a, u = Value.ref a := fun u hu => e2 u (h2.perm.mem_iff.mp hu)
    obtain ⟨ep, he'⟩ := PyProof.Rows.sortedAll_at s.heap its out.toArray
    have hlen : (out.map backV).length ≤ sizeLine := by
      have := h2.perm.length_eq
      rw [List.length_map, this, ← rv.length]; exact hz
    refine ⟨.ref _, upd H (s.heap.objs.size + 1) (.lst (out.map backV)), I.laid (t' := s.toks) (fun _ _ => PyProof.Rows.sortedAll_old) (Nat.le_succ _) ⟨hlen, out, ep, vals_back h3, he'⟩, rfl, q _ _ ?_ ?_ (I.hok.fresh (Nat.le_succ _))⟩
    · rw [e1]; exact h2.perm.map backV
    · exact List.pairwise_map.mpr h1
end
end L2
namespace Mi
open PySem PySem.Spec PyProof.Rows L2
/-! the one arrangement -/
def keyD : D → SrtO.KeyP
  | .tup [.int i, .str x] => (i, x)
  | _ => (0, ⟨#[]⟩)
theorem ltP_key {d e : D} (hd : isP d = true) (he : isP e = true) : ltP d e = SrtO.ltQ (keyD d) (keyD e) := by
  unfold isP at hd he
  split at hd
  · split at he
    · rw [SrtO.ltQ_eq]; rfl
    · cases he
  · cases hd
theorem isP_eq {d e : D} (hd : isP d = true) (he : isP e = true) (h : keyD d = keyD e) : d = e := by
  unfold isP at hd he
  split at hd
  · split at he
    · cases h; rfl
    · cases he
  · cases hd
theorem ltQ_tot {p q : SrtO.KeyP} (h1 : SrtO.ltQ p q = false) (h2 : SrtO.ltQ q p = false) : p = q := by
  have := lex_total (O := itemOrd) _ _ h1 h2
  unfold SrtO.keyL at this
  injection this with a b
  injection b with b _
  injection a with a
  injection b with b
  obtain ⟨i, ⟨x⟩⟩ := p
  obtain ⟨j, ⟨y⟩⟩ := q
  dsimp only at a b
  rw [a, Array.toList_inj.mp b]
theorem ltQ_tr {p q r : SrtO.KeyP} (h1 : SrtO.ltQ q p = false) (h2 : SrtO.ltQ r q = false) : SrtO.ltQ r p = false := by
  cases e : SrtO.ltQ r p with
  | false => rfl
  | true =>
    rcases lex_negTrans (O := itemOrd) (SrtO.keyL r) (SrtO.keyL q) (SrtO.keyL p) e with w | w
    · exact absurd (w.symm.trans h2) (by simp)
    · exact absurd (w.symm.trans h1) (by simp)
/-- in order -/
def Ord (xs : List D) : Prop := xs.Pairwise fun x y => SrtO.ltQ (keyD y) (keyD x) = false
theorem ins_perm (x : D) : ∀ xs : List D, (insP x xs).Perm (x :: xs)
  | [] => .refl _
  | y :: r => by
    unfold insP
    split
    · exact .refl _
    · exact ((ins_perm x r).cons y).trans (.swap x y r)
theorem ins_ord {x : D} (hx : isP x = true) : ∀ {xs : List D}, (∀ y ∈ xs, isP y = true) → Ord xs → Ord (insP x xs)
  | [], _, _ => List.pairwise_singleton _ _
  | y :: r, hp, h => by
    obtain ⟨h1, h2⟩ := List.pairwise_cons.mp h
    have py := hp y List.mem_cons_self
    unfold insP
    split
    · rename_i hl
      rw [ltP_key hx py] at hl
      have hyx : SrtO.ltQ (keyD y) (keyD x) = false := by
        cases e : SrtO.ltQ (keyD y) (keyD x) with
        | false => rfl
        | true => exact absurd ((lex_trans (O := itemOrd) _ _ _ hl e).symm.trans (lex_irrefl (O := itemOrd) _)) (by simp)
      refine List.pairwise_cons.mpr ⟨fun z hz => ?_, h⟩
      rcases List.mem_cons.mp hz with rfl | hz
      · exact hyx
      · exact ltQ_tr hyx (h1 z hz)
    · rename_i hl
      have hl : SrtO.ltQ (keyD x) (keyD y) = false := by rw [← ltP_key hx py]; simpa using hl
      refine List.pairwise_cons.mpr ⟨fun z hz => ?_, ins_ord hx (fun z hz => hp z (List.mem_cons_of_mem _ hz)) h2⟩
      rcases List.mem_cons.mp ((ins_perm x r).mem_iff.mp hz) with rfl | hz
      · exact hl
      · exact h1 z hz
theorem ord_one : ∀ {xs ys : List D}, (∀ y ∈ xs, isP y = true) → xs.Perm ys → Ord xs → Ord ys → xs = ys
  | [], ys, _, p, _, _ => (List.nil_perm.mp p).symm
  | x :: xs, [], _, p, _, _ => absurd (List.perm_nil.mp p) (by simp)
  | x :: xs, y :: ys, hp, p, h1, h2 => by
    obtain ⟨a1, a2⟩ := List.pairwise_cons.mp h1
    obtain ⟨b1, b2⟩ := List.pairwise_cons.mp h2
    have hx : x ∈ y :: ys := p.mem_iff.mp List.mem_cons_self
    have hy : y ∈ x :: xs := p.mem_iff.mpr List.mem_cons_self
    have e : x = y := by
      rcases List.mem_cons.mp hx with e | hx
      · exact e
      · rcases List.mem_cons.mp hy with e | hy
        · exact e.symm
        · exact isP_eq (hp x List.mem_cons_self) (hp y (List.mem_cons_of_mem _ hy)) (ltQ_tot (b1 x hx) (a1 y hy))
    subst e
    rw [ord_one (fun z hz => hp z (List.mem_cons_of_mem _ hz)) (List.Perm.cons_inv p) a2 b2]
theorem sort_fold : ∀ (xs acc : List D), (∀ y ∈ xs, isP y = true) → (∀ y ∈ acc, isP y = true) → Ord acc → (xs.foldl (fun acc x => insP x acc) acc).Perm (xs ++ acc) ∧ Ord (xs.foldl (fun acc x => insP x acc) acc)
  | [], acc, _, _, h => ⟨.refl _, h⟩
  | x :: xs, acc, hp, ha, h => by
    have px := hp x List.mem_cons_self
    obtain ⟨h1, h2⟩ := sort_fold xs (insP x acc) (fun z hz => hp z (List.mem_cons_of_mem _ hz)) (fun z hz => by
      rcases List.mem_cons.mp ((ins_perm x acc).mem_iff.mp hz) with rfl | hz
      · exact px
      · exact ha z hz) (ins_ord px ha h)
    refine ⟨h1.trans ?_, h2⟩
    exact (List.Perm.append_left xs (ins_perm x acc)).trans List.perm_middle
theorem sortP_ok {xs : List D} (h : ∀ y ∈ xs, isP y = true) : (sortP xs).Perm xs ∧ Ord (sortP xs) := by
  have := sort_fold xs [] h (fun _ z => nomatch z) List.Pairwise.nil
  rw [List.append_nil] at this
  exact this
theorem sortP_is {xs ys : List D} (h : ∀ y ∈ xs, isP y = true) (p : ys.Perm xs) (o : Ord ys) : ys = sortP xs := by
  obtain ⟨h1, h2⟩ := sortP_ok h
  exact ord_one (fun y hy => h y (p.mem_iff.mp hy)) (p.trans h1.symm) o h2
/-- things of a list in another order -/
theorem reps_perm {K : PySem.W.Frag} {ca : Nat → Addr} {F : Hp} {vs zs : List V} (p : zs.Perm vs) : ∀ {ds : List D}, Reps K ca F vs ds → ∃ es : List D, Reps K ca F zs es ∧ es.Perm ds := by
  induction p with
  | nil => intro ds r; exact ⟨ds, r, .refl _⟩
  | cons x p ih =>
    intro ds r
    cases r with
    | cons h r =>
      obtain ⟨es, q1, q2⟩ := ih r
      exact ⟨_, .cons h q1, q2.cons _⟩
  | swap x y l =>
    intro ds r
    cases r with
    | cons h r =>
      cases r with
      | cons h2 r => exact ⟨_, .cons h2 (.cons h r), .swap _ _ _⟩
  | trans p1 p2 ih1 ih2 =>
    intro ds r
    obtain ⟨es, q1, q2⟩ := ih2 r
    obtain ⟨fs, w1, w2⟩ := ih1 q1
    exact ⟨fs, w1, w2.trans q2⟩
def keyV (F : Hp) : V → SrtO.KeyP
  | .ref t => (match F t with
    | some (.tup [.int i, .str x]) => (i, x)
    | _ => (0, ⟨#[]⟩))
  | _ => (0, ⟨#[]⟩)
theorem rep_isP {K : PySem.W.Frag} {ca : Nat → Addr} {F : Hp} {v : V} {d : D} (r : Rep K ca F v d) (h : isP d = true) : ∃ t, v = .ref t ∧ F t = some (.tup [.int (keyV F v).1, .str (keyV F v).2]) ∧ keyD d = keyV F v := by
  unfold isP at h
  split at h
  · rename_i i x
    cases r with
    | tup h1 h2 =>
      cases h2 with
      | cons r1 h2 =>
        cases h2 with
        | cons r2 h2 =>
          cases h2
          cases r1
          cases r2
          rename_i t
          have e : keyV F (.ref t) = (i, x) := by unfold keyV; dsimp only; rw [h1]
          exact ⟨t, rfl, by rw [e]; exact h1, e.symm⟩
  · cases h
theorem reps_ord {K : PySem.W.Frag} {ca : Nat → Addr} {F : Hp} : ∀ {vs : List V} {ds : List D}, Reps K ca F vs ds → (∀ y ∈ ds, isP y = true) → vs.Pairwise (fun x y => SrtO.ltQ (keyV F y) (keyV F x) = false) → Ord ds
  | _, _, .nil, _, _ => List.Pairwise.nil
  | _, _, .cons r rs, hp, h => by
    obtain ⟨h1, h2⟩ := List.pairwise_cons.mp h
    have px := hp _ List.mem_cons_self
    obtain ⟨t, _, _, e⟩ := rep_isP r px
    refine List.pairwise_cons.mpr ⟨fun z hz => ?_, reps_ord rs (fun y hy => hp y (List.mem_cons_of_mem _ hy)) h2⟩
    obtain ⟨i, hi⟩ := List.mem_iff_getElem?.mp hz
    obtain ⟨w, w1, w2⟩ := rs.get hi
    obtain ⟨t', _, _, e'⟩ := rep_isP w2 (hp z (List.mem_cons_of_mem _ hz))
    rw [e, e']
    exact h1 w (List.mem_of_getElem? w1)
theorem bfk_sort {C : Cn} (K : PySem.W.Frag) (hK : K = C.K) : BfOk C (rSortedNT K) (bfop .sort) := by
  intro ob F H σ s us cs c Q R h e k
  subst hK
  obtain ⟨x, rfl⟩ := bf1 (by decide) e
  obtain ⟨u, rfl, hx⟩ := oc1 h
  have e : ((asM x).bind fun xs => if xs.all isP && decide (xs.length < 64) then some (Cl.lst (sortP xs)) else none) = some c := e
  cases e1 : asM x with
  | none => rw [e1] at e; cases e
  | some xs =>
    rw [e1, Option.bind_some] at e
    split at e
    · rename_i hc
      cases e
      rw [Bool.and_eq_true] at hc
      have hp : ∀ y ∈ xs, isP y = true := List.all_eq_true.mp hc.1
      obtain ⟨a, vs, rfl, q1, q2⟩ := hx.listM R.sub e1
      refine ⟨a, vs, keyV F, rfl, .inl (.inl q1), fun x hx => ?_, fun zs p hperm hord hpn => ?_⟩
      · obtain ⟨i, hi⟩ := List.mem_iff_getElem?.mp hx
        obtain ⟨d, d1, d2⟩ := q2.getV hi
        obtain ⟨t, w1, w2, _⟩ := rep_isP d2 (hp d (List.mem_of_getElem? d1))
        exact ⟨t, w1, R.sub _ _ w2⟩
      · obtain ⟨es, r1, r2⟩ := reps_perm hperm q2
        have hpe : ∀ y ∈ es, isP y = true := fun y hy => hp y (r2.mem_iff.mp hy)
        have := sortP_is hp r2 (reps_ord r1 hpe hord)
        rw [← this] at k
        obtain ⟨R', f⟩ := fin_lst R hpn r1
        exact k _ _ _ R' (same_refl F) f
    · cases e
end Mi
namespace Mi
open PySem PySem.Spec PyProof.Rows L2
/-! ### range with a step -/
theorem rg_two {i j : Int} (ha : -(2 ^ 62) ≤ i) (ha' : i < 2 ^ 62) (hb : -(2 ^ 62) ≤ j) (hb' : j < 2 ^ 62) : RgC i j 2 ((j - i + 1) / 2).toNat := by
  have e : Builtin.Range.rangeSize i j 2 = (((j - i + 1) / 2).toNat : Int) := by
    unfold Builtin.Range.rangeSize
    rw [if_pos (by decide)]
    split <;> omega
  refine ⟨by decide, by decide, ?_, e⟩
  unfold Builtin.Range.small
  rw [e]
  simp only [Builtin.Range.rangeFitsLong, Bool.and_eq_true, Bool.or_eq_true, decide_eq_true_eq, beq_iff_eq, show ((2 : Int) > 0) from by decide, if_true]
  omega
theorem steps_rg {i j c : Int} {n : Nat} (hz : -(2 ^ 62) ≤ i ∧ i < 2 ^ 62 ∧ -(2 ^ 62) ≤ j ∧ j < 2 ^ 62) (h : stepsC i j c = some n) : RgC i j c n := by
  unfold stepsC at h
  split at h
  · rename_i e
    subst e
    cases h
    exact rg_two hz.1 hz.2.1 hz.2.2.1 hz.2.2.2
  · split at h
    · rename_i e
      subst e
      cases h
      exact RgC.neg hz.1 hz.2.1 hz.2.2.1 hz.2.2.2
    · cases h
theorem walks_rgc {C : Cn} {F : Hp} (lo c : Int) (n : Nat) : Walks C F (Itc lo c n) (rangeC lo c n) := by
  have len : (rangeC lo c n).length = n := by unfold rangeC; rw [List.length_map, List.length_range]
  refine ⟨fun i H m h => by rw [len] at h; exact h, fun i H m h => by rw [len] at h; exact h, fun i H x H' m hi y => ?_⟩
  obtain ⟨e, y⟩ := y
  rw [len] at hi
  refine ⟨e, .int (lo + i * c), ?_, by rw [y]; exact .int _⟩
  unfold rangeC
  rw [List.getElem?_map, List.getElem?_range hi]
  rfl
noncomputable def rg3Of (x y z : D) (s : S) : Option (R (List D)) := (forItems .rg3 (.tup [x, y, z])).map fun ds => .ok ds s
theorem rg3_case {x y z : D} {s : S} {r : R (List D)} (h : rg3Of x y z s = some r) : ∃ lo hi c n, x = .int lo ∧ y = .int hi ∧ z = .int c ∧ RgC lo hi c n ∧ r = .ok (rangeC lo c n) s := by
  unfold rg3Of forItems at h
  dsimp only at h
  split at h
  · rename_i lo hi c e
    cases e
    split at h
    · rename_i hz
      cases q : stepsC lo hi c with
      | none => rw [q] at h; cases h
      | some n => rw [q] at h; cases h; exact ⟨lo, hi, c, n, rfl, rfl, rfl, steps_rg (big_iff.mp hz) q, rfl⟩
    · cases h
  · cases h
theorem rg3_eq {Γ : Env} {a b c : CE} (ha : isR a = none) (hb : isR b = none) (hc : isR c = none) (s : S) : srcOf (forItems .rg3) (ev Γ (.tup [a, b, c]) s) = bnd (toV (ev Γ a s)) fun x s => bnd (toV (ev Γ b s)) fun y s => bnd (toV (ev Γ c s)) fun z s => rg3Of x y z s := by
  have e1 : ev Γ (.tup [a, b, c]) s = bnd (evA Γ [a, b, c] s) fun l s => (dats l).map fun ds => .ok (.fr (.val (.tup ds))) s := rfl
  have e2 : evA Γ [a, b, c] s = bnd (toV (ev Γ a s)) fun d s => bnd (bnd (toV (ev Γ b s)) fun d s => bnd (bnd (toV (ev Γ c s)) fun d s => some (.ok [.d d] s)) fun l s => some (.ok (.d d :: l) s)) fun l s => some (.ok (.d d :: l) s) := by
    rw [evA_none ha]
    congr 1
    funext d s
    rw [evA_none hb]
    congr 2
    funext d s
    rw [evA_none hc]
    rfl
  rw [e1, e2]
  cases q1 : toV (ev Γ a s) with
  | none => rfl
  | some r1 =>
    cases r1 with
    | ex c s1 => rfl
    | ok x s1 =>
      rw [bnd_ok, bnd_ok]
      cases q2 : toV (ev Γ b s1) with
      | none => rfl
      | some r2 =>
        cases r2 with
        | ex c s2 => rfl
        | ok y s2 =>
          rw [bnd_ok, bnd_ok]
          cases q3 : toV (ev Γ c s2) with
          | none => rfl
          | some r3 =>
            cases r3 with
            | ex c s3 => rfl
            | ok z s3 => rfl
section
variable {X : Cx} {C : Cn} {W : WX} {tg : Expr}
theorem qi_rng3 {p pos : Pos} {e e' e'' : Expr} {a b c : CE} (ha : isR a = none) (hb : isR b = none) (hc : isR c = none) (hg : Gl X "range") (hm : X.mg "range" = none) (h : PE X e (tE C W a)) (h' : PE X e' (tE C W b)) (h'' : PE X e'' (tE C W c))
    (hs : starEach [e, e', e''] X.env = (false, eval e X.env) :: starEach [e', e''] X.env) (hs2 : starEach [e', e''] X.env = (false, eval e' X.env) :: starEach [e''] X.env) (hs3 : starEach [e''] X.env = (false, eval e'' X.env) :: starEach [] X.env) (hpl : (backTo pos (starEach [e', e''] X.env)).any (·.1) = false) :
    PI X tg (.Call (.Name "range" p) [e, e', e''] [] pos) (tI C W fun s => srcOf (forItems .rg3) (ev C.Γ (.tup [a, b, c]) s)) := by
  refine pi_imp (pi_range3 hg hm (pa_cons (toV_of h) (pa_cons (toV_of h') (pa_cons (toV_of h'') pa_nil hs3) hs2) hs) hs hpl) fun σ H Q ⟨ob, F, s, r, R, er, p⟩ => ?_
  have er := (rg3_eq ha hb hc s).symm.trans er
  refine step R er p fun x s1 u F1 H1 e1 R1 m1 q1 e2 p1 => ?_
  refine step R1 e2 p1 fun y s2 v F2 H2 e3 R2 m2 q2 e4 p2 => ?_
  refine step R2 e4 p2 fun z s3 w F3 H3 e5 R3 m3 q3 e6 p3 => ?_
  obtain ⟨lo, hi, c, n, rfl, rfl, rfl, hr, rfl⟩ := rg3_case e6
  rw [rep_int q1, rep_int q2, rep_int q3]
  exact ⟨lo, hi, c, n, rfl, hr, p3 _ F3 H3 R3 (same_refl F3) (walks_rgc lo c n)⟩
end
end Mi
namespace Mi
open PySem PySem.Spec PyProof.Rows L2
/-! ### dicts of texts -/
section
variable {K : PySem.W.Frag} {ca : Nat → Addr} {F : Hp}
abbrev zk (ks : List Str) (vs : List V) : List (Key × V) := (ks.map Sum.inr).zip vs
theorem zk_cons (k : Str) (ks : List Str) (v : V) (vs : List V) : zk (k :: ks) (v :: vs) = (Sum.inr k, v) :: zk ks vs := rfl
theorem dl_get (k : Str) : ∀ {ks : List Str} {vs : List V} {xs : List D}, vs.length = ks.length → Reps K ca F vs xs →
    (∀ d, dlook k ks xs = some d → ∃ v, valV (zk ks vs) (Sum.inr k) = some v ∧ Rep K ca F v d) ∧ (dlook k ks xs = none → valV (zk ks vs) (Sum.inr k) = none)
  | [], _, _, _, _ => ⟨fun d e => (by cases e), fun _ => rfl⟩
  | k' :: ks, [], _, l, _ => by cases l
  | k' :: ks, v :: vs, _, l, .cons (d := d') (ds := xs) r rs => by
    obtain ⟨h1, h2⟩ := dl_get k (ks := ks) (vs := vs) (xs := xs) (by simpa using l) rs
    rw [zk_cons]
    unfold dlook
    by_cases e : k' = k
    · rw [if_pos e]
      refine ⟨fun d z => ?_, fun z => by cases z⟩
      cases z
      exact ⟨v, valV_pos (by rw [e]), r⟩
    · rw [if_neg e]
      have e' : ¬ ((Sum.inr k' : Key), v).1 = Sum.inr k := fun z => e (Sum.inr.inj z)
      rw [valV_neg e']
      exact ⟨h1, h2⟩
theorem dl_is {k : Str} {ks : List Str} {vs : List V} {xs : List D} (l : vs.length = ks.length) (r : Reps K ca F vs xs) : (valV (zk ks vs) (Sum.inr k)).isSome = (dlook k ks xs).isSome := by
  obtain ⟨h1, h2⟩ := dl_get k l r
  cases e : dlook k ks xs with
  | none => rw [h2 e]; rfl
  | some d => obtain ⟨v, h, _⟩ := h1 d e; rw [h]; rfl
theorem zk_any (k : Str) : ∀ {ks : List Str} {vs : List V}, vs.length = ks.length → (((zk ks vs).any fun kv => decide (kv.1 = Sum.inr k)) = true ↔ k ∈ ks)
  | [], _, _ => by simp [zk]
  | k' :: ks, [], l => by cases l
  | k' :: ks, v :: vs, l => by
    rw [zk_cons, List.any_cons, Bool.or_eq_true, zk_any k (by simpa using l), List.mem_cons]
    simp only [decide_eq_true_eq]
    constructor
    · rintro (h | h)
      · exact .inl (Sum.inr.inj h).symm
      · exact .inr h
    · rintro (h | h)
      · exact .inl (by rw [h])
      · exact .inr h
theorem zk_same (k : Str) (u : V) : ∀ {ks : List Str} {vs : List V}, vs.length = ks.length → k ∉ ks → ((zk ks vs).map fun kv => if kv.1 = Sum.inr k then (kv.1, u) else kv) = zk ks vs
  | [], _, _, _ => rfl
  | k' :: ks, [], l, _ => by cases l
  | k' :: ks, v :: vs, l, h => by
    rw [zk_cons, List.map_cons, zk_same k u (by simpa using l) fun z => h (List.mem_cons_of_mem _ z)]
    rw [if_neg fun z => h (by rw [Sum.inr.inj z]; exact List.mem_cons_self)]
theorem zk_set (k : Str) {u : V} {d : D} (ru : Rep K ca F u d) : ∀ {ks : List Str} {vs : List V} {xs : List D}, vs.length = ks.length → ks.Nodup → k ∈ ks → Reps K ca F vs xs →
    ∃ vs', ((zk ks vs).map fun kv => if kv.1 = Sum.inr k then (kv.1, u) else kv) = zk ks vs' ∧ vs'.length = ks.length ∧ Reps K ca F vs' (dput k d ks xs)
  | [], _, _, _, _, h, _ => by cases h
  | k' :: ks, [], _, l, _, _, _ => by cases l
  | k' :: ks, v :: vs, _, l, n, h, .cons (d := d') (ds := xs) r rs => by
    have l' : vs.length = ks.length := by simpa using l
    obtain ⟨n1, n2⟩ := List.nodup_cons.mp n
    unfold dput
    by_cases e : k' = k
    · subst e
      refine ⟨u :: vs, ?_, l, by rw [if_pos rfl]; exact .cons ru rs⟩
      rw [zk_cons, List.map_cons, zk_same k' u l' n1, if_pos rfl]
      rfl
    · have hk : k ∈ ks := by
        rcases List.mem_cons.mp h with z | z
        · exact (e z.symm).elim
        · exact z
      obtain ⟨vs', q1, q2, q3⟩ := zk_set k ru l' n2 hk rs
      refine ⟨v :: vs', ?_, by simp [q2], by rw [if_neg e]; exact .cons r q3⟩
      rw [zk_cons, List.map_cons, q1, if_neg fun z => e (Sum.inr.inj z)]
      rfl
theorem zk_snoc (k : Str) (u : V) : ∀ {ks : List Str} {vs : List V}, vs.length = ks.length → zk ks vs ++ [(Sum.inr k, u)] = zk (ks ++ [k]) (vs ++ [u])
  | [], [], _ => rfl
  | [], _ :: _, l => by cases l
  | k' :: ks, [], l => by cases l
  | k' :: ks, v :: vs, l => by
    show (Sum.inr k', v) :: (zk ks vs ++ [(Sum.inr k, u)]) = (Sum.inr k', v) :: zk (ks ++ [k]) (vs ++ [u])
    rw [zk_snoc k u (by simpa using l)]
theorem dput_out (k : Str) (d : D) : ∀ {ks : List Str} {xs : List D}, xs.length = ks.length → k ∉ ks → dput k d ks xs = xs ++ [d]
  | [], [], _, _ => rfl
  | [], _ :: _, l, _ => by cases l
  | k' :: ks, [], l, _ => by cases l
  | k' :: ks, x :: xs, l, h => by
    unfold dput
    rw [if_neg fun z => h (by rw [z]; exact List.mem_cons_self), dput_out k d (by simpa using l) fun z => h (List.mem_cons_of_mem _ z)]
    rfl
theorem Reps.snoc' {u : V} {d : D} (ru : Rep K ca F u d) : ∀ {vs : List V} {xs : List D}, Reps K ca F vs xs → Reps K ca F (vs ++ [u]) (xs ++ [d])
  | _, _, .nil => .cons ru .nil
  | _, _, .cons r rs => .cons r (Reps.snoc' ru rs)
theorem dl_put {k : Str} {u : V} {d : D} (ru : Rep K ca F u d) {ks : List Str} {vs : List V} {xs : List D} (l : vs.length = ks.length) (n : ks.Nodup) (r : Reps K ca F vs xs) :
    ∃ vs', putK (zk ks vs) (Sum.inr k) u = zk (dkeys k ks) vs' ∧ (dkeys k ks).Nodup ∧ vs'.length = (dkeys k ks).length ∧ Reps K ca F vs' (dput k d ks xs) := by
  unfold putK dkeys
  by_cases h : k ∈ ks
  · rw [if_pos ((zk_any k l).mpr h), if_pos h]
    obtain ⟨vs', q1, q2, q3⟩ := zk_set k ru l n h r
    exact ⟨vs', q1, n, q2, q3⟩
  · rw [if_neg (fun z => h ((zk_any k l).mp z)), if_neg h, dput_out k d (by rw [← r.length, l]) h]
    refine ⟨vs ++ [u], zk_snoc k u l, ?_, by simp [l], Reps.snoc' ru r⟩
    rw [List.nodup_append]
    exact ⟨n, by simp, fun a ha b hb => by rw [List.mem_singleton] at hb; subst hb; exact fun z => h (z ▸ ha)⟩
theorem zk_len {ks : List Str} {vs : List V} (l : vs.length = ks.length) : (zk ks vs).length = ks.length := by
  simp [zk, l]
end
section
variable {X : Cx} {C : Cn} {W : WX} {lks : List Nat} {ea eb : Expr} {a b c : CE} {pos : Pos}
theorem qe_dnew : PE X (.Dict [] [] pos) (tE C W .dnew) := pe_imp pe_dnewK fun σ H Q ⟨ob, F, s, r, R, e, p⟩ q hq => by
  cases e
  obtain ⟨R2, q2⟩ := fin_dct (ks := []) (vs := []) (xs := []) R hq List.nodup_nil rfl .nil
  exact p _ _ _ R2 (same_refl _) q2
theorem asD_fz {x : Cl} {p : List Str × List D} (e : asD x = some p) : x.fz.isSome = true := by
  cases x with
  | val d => rfl
  | dct ks d => rfl
  | _ => cases e
theorem qe_dix (hu : X.A.units + 1 < cLine) (ha : PE X ea (tE C W a)) (hb : PE X eb (tE C W b)) (hs : NoSl eb) : PE X (.Subscript ea eb pos) (tE C W (.dix a b)) := by
  refine pe_imp (pe_dget hu (toO_of ha) (toV_of hb) hs) fun σ H Q ⟨ob, F, s, r, R, e, p⟩ => ?_
  refine step R e p fun x s1 u F1 H1 e1 R1 m1 q1 e2 p1 => ?_
  refine step R1 e2 p1 fun i s2 v F2 H2 e3 R2 m2 q2 e4 p2 => ?_
  cases i with
  | str k =>
    cases eg : asD (cont s2 x) with
    | none => dsimp only at e4; rw [eg] at e4; cases e4
    | some pr =>
      obtain ⟨ks, xs⟩ := pr
      dsimp only at e4
      rw [eg, Option.bind_some] at e4
      cases ed : dlook k ks xs with
      | none => dsimp only at e4; rw [ed] at e4; cases e4
      | some d =>
        dsimp only at e4
        rw [ed] at e4; cases e4
        obtain ⟨ad, vs, rfl, h1, n, l, h2⟩ := (q1.now R2 m2 (asD_fz eg)).dict R2.sub eg
        obtain ⟨w, h3, h4⟩ := (dl_get k l h2).1 d ed
        rw [rep_str q2]
        refine ⟨ad, w, rfl, ?_, post_val p2 R2 h4⟩
        have g := DGet.k (k := Sum.inr k) h1
        rw [h3] at g
        exact g
  | _ => cases e4
theorem din_run {neg : Bool} {ce : CE} (hc : ∀ s, ev C.Γ ce s = bnd (toV (ev C.Γ a s)) fun k s => bnd (toO (ev C.Γ b s)) fun x s => (match k with
    | .str k => (asD (cont s x)).map fun (p : List Str × List D) => (dlook k p.1 p.2).isSome ^^ neg
    | _ => none).map fun b => .ok (.fr (.val (.bl b))) s) {σ : L2.St} {H : Hp} {Q : VK} (h : tE C W ce σ H Q) :
    tV C W a σ H fun y H1 => tO C W b σ H1 fun x H2 => ∃ ad o, x = .ref ad ∧ DGet H2 ad y o ∧ Q (.bl (o.isSome ^^ neg)) H2 := by
  obtain ⟨ob, F, s, r, R, e, p⟩ := h
  have e := (hc s).symm.trans e
  refine step R e p fun i s1 v F1 H1 e1 R1 m1 q1 e2 p1 => ?_
  refine step R1 e2 p1 fun x s2 u F2 H2 e3 R2 m2 q2 e4 p2 => ?_
  cases i with
  | str k =>
    cases eg : asD (cont s2 x) with
    | none => dsimp only at e4; rw [eg] at e4; cases e4
    | some pr =>
      obtain ⟨ks, xs⟩ := pr
      dsimp only at e4
      rw [eg] at e4
      cases e4
      obtain ⟨ad, vs, rfl, h1, n, l, h2⟩ := (q2.now R2 (same_refl _) (asD_fz eg)).dict R2.sub eg
      rw [rep_str q1]
      refine ⟨ad, _, rfl, DGet.k (k := Sum.inr k) h1, ?_⟩
      rw [dl_is l h2]
      exact post_val p2 R2 (.bl _)
  | _ => cases e4
theorem bl_run {neg : Bool} {ce : CE} (hc : ∀ s, ev C.Γ ce s = bnd (toV (ev C.Γ a s)) fun k s => bnd (toO (ev C.Γ b s)) fun x s => (match k with
    | .str k => (asD (cont s x)).map fun (p : List Str × List D) => (dlook k p.1 p.2).isSome ^^ neg
    | _ => none).map fun b => .ok (.fr (.val (.bl b))) s) (s : S) (r : Ro) (s' : S) (h : ev C.Γ ce s = some (.ok r s')) : ∃ k, r = .fr (.val (.bl k)) := by
  rw [hc] at h
  cases e1 : toV (ev C.Γ a s) with
  | none => rw [e1] at h; cases h
  | some r1 =>
    rw [e1] at h
    cases r1 with
    | ex c s1 => cases h
    | ok x s1 =>
      rw [bnd_ok] at h
      cases e2 : toO (ev C.Γ b s1) with
      | none => rw [e2] at h; cases h
      | some r2 =>
        rw [e2] at h
        cases r2 with
        | ex c s2 => cases h
        | ok y s2 =>
          rw [bnd_ok] at h
          generalize (match x with
            | .str k => (asD (cont s2 y)).map fun (p : List Str × List D) => (dlook k p.1 p.2).isSome ^^ neg
            | _ => none) = z at h
          cases z with
          | none => cases h
          | some k => cases h; exact ⟨k, rfl⟩
theorem din_ev (s : S) : ev C.Γ (.din a b) s = bnd (toV (ev C.Γ a s)) fun k s => bnd (toO (ev C.Γ b s)) fun x s => (match k with
    | .str k => (asD (cont s x)).map fun (p : List Str × List D) => (dlook k p.1 p.2).isSome ^^ false
    | _ => none).map fun b => .ok (.fr (.val (.bl b))) s := by
  simp only [Bool.xor_false]
  rfl
theorem dnin_ev (s : S) : ev C.Γ (.dnin a b) s = bnd (toV (ev C.Γ a s)) fun k s => bnd (toO (ev C.Γ b s)) fun x s => (match k with
    | .str k => (asD (cont s x)).map fun (p : List Str × List D) => (dlook k p.1 p.2).isSome ^^ true
    | _ => none).map fun b => .ok (.fr (.val (.bl b))) s := by
  simp only [Bool.xor_true]
  rfl
theorem qe_din (hu : X.A.units + 1 < cLine) (ha : PE X ea (tE C W a)) (hb : PE X eb (tE C W b)) (hm : behindInMarks .In eb = false) : PE X (.Compare ea [.In] [eb] pos) (tE C W (.din a b)) :=
  pe_imp (pe_cmp (pc_din hu (toV_of ha) (toO_of hb)) hm) fun σ H Q h => by
    have h := din_run din_ev h
    simp only [Bool.xor_false] at h
    exact h
theorem qe_dnin (hu : X.A.units + 1 < cLine) (ha : PE X ea (tE C W a)) (hb : PE X eb (tE C W b)) (hm : behindInMarks .NotIn eb = false) : PE X (.Compare ea [.NotIn] [eb] pos) (tE C W (.dnin a b)) :=
  pe_imp (pe_cmp (pc_dnotin hu (toV_of ha) (toO_of hb)) hm) fun σ H Q h => by
    have h := din_run dnin_ev h
    simp only [Bool.xor_true] at h
    exact h
theorem qt_din (hu : X.A.units + 1 < cLine) (ha : PE X ea (tE C W a)) (hb : PE X eb (tE C W b)) (hm : behindInMarks .In eb = false) : PT X (.Compare ea [.In] [eb] pos) (tT C W (.din a b)) :=
  pt_imp (pt_cmp (pc_din hu (toV_of ha) (toO_of hb)) hm) fun σ H Q h => by
    have h := din_run din_ev (tst_of rfl (bl_run din_ev) h)
    simp only [Bool.xor_false] at h
    exact h
theorem qt_dnin (hu : X.A.units + 1 < cLine) (ha : PE X ea (tE C W a)) (hb : PE X eb (tE C W b)) (hm : behindInMarks .NotIn eb = false) : PT X (.Compare ea [.NotIn] [eb] pos) (tT C W (.dnin a b)) :=
  pt_imp (pt_cmp (pc_dnotin hu (toV_of ha) (toO_of hb)) hm) fun σ H Q h => by
    have h := din_run dnin_ev (tst_of rfl (bl_run dnin_ev) h)
    simp only [Bool.xor_true] at h
    exact h
theorem qs_dsub {eo ei e : Expr} {co ci : CE} {tpos : Pos} (hu : X.A.units + 1 < cLine) (he : PE X e (tE C W c)) (ho : PE X eo (tE C W co)) (hi : PE X ei (tE C W ci)) (hs : swapsWith e (some (.Subscript eo ei tpos)) pos.line X.env = pure false) :
    PS X (.Assign [.Subscript eo ei tpos] e pos) (tS C W lks (.dsub co ci c)) :=
  ps_imp (ps_dput hu ho (toV_of hi) (toV_of he) hs) fun D σ H ⟨ob, F, s, o, R, e, p⟩ => by
  have e : (outR (toV (ev C.Γ c s)) fun d s => outR (ev C.Γ co s) fun o s => match o with
    | .pt k => outR (toV (ev C.Γ ci s)) fun j s => (match j, gt s k with
      | .str j, .dct ks xs => if ks.length < 1000 then some (.nx (s.set k (.dct (dkeys j ks) (dput j d ks xs)))) else none
      | _, _ => none)
    | _ => none) = some o := by rw [← e]; show _ = exec C.Γ C.n lks C.oc (.dsub co ci c) s; rw [exec] <;> rfl
  refine stepS R e p fun d s1 u F1 H1 e1 R1 m1 q1 e2 p1 => ?_
  refine stepS R1 e2 p1 fun r s2 l F2 H2 e3 R2 m2 q2 e4 p2 => ?_
  cases r with
  | fr c => cases e4
  | pt k =>
    refine stepS R2 e4 p2 fun j s3 w F3 H3 e5 R3 m3 q3 e6 p3 => ?_
    obtain ⟨q2a, _⟩ := q2
    cases j with
    | str j =>
      have e6 : (match gt s3 k with
        | .dct ks xs => if ks.length < 1000 then some (Out.nx (s3.set k (.dct (dkeys j ks) (dput j d ks xs)))) else none
        | _ => none) = some o := by
        rw [← e6]
        cases gt s3 k <;> rfl
      have cr := R3.cr k
      rw [q2a] at cr
      cases eg : gt s3 k with
      | dct ks xs =>
        rw [eg] at e6 cr
        obtain ⟨ad, vs, z1, z2, zn, zl, z3, z4, z5⟩ := cr
        cases z1
        dsimp only at e6
        split at e6
        · rename_i hlt
          cases e6
          have ru : Rep C.K C.ca F3 u d := Rep.mono (m2.trans m3) q1
          obtain ⟨vs', g1, g2, g3, g4⟩ := dl_put (k := j) ru zl zn z3
          have R4 := R3.mut eg rfl rfl q2a (c' := .dct (dkeys j ks) (dput j d ks xs)) (o := .dK (zk (dkeys j ks) vs')) ⟨ad, _, rfl, upd_same, g2, g3, g4, z4, z5⟩
          have hz : (zk ks vs).length < sizeLine := by rw [zk_len zl]; exact Nat.lt_trans hlt (by decide)
          have pt := DPut.k (k := Sum.inr j) (v := u) z2 hz
          rw [g1] at pt
          rw [rep_str q3]
          exact ⟨ad, _, rfl, pt, p3 ob F3 _ σ R4 (same_refl F3)⟩
        · cases e6
      | _ => rw [eg] at e6; cases e6
    | _ => cases e6
end
/-! ### dict(d): a copy -/
theorem bfk_dict {C : Cn} : BfOk C (fun xs H Q => ∃ (a : Addr) (kvs : List (Key × V)), xs = [.ref a] ∧ Rd H a (.dK kvs) ∧ ∀ p, H p = none → Q (.ref p) (upd H p (.dK kvs))) (bfop .dict) := by
  intro ob F H σ s us cs c Q R h e k
  obtain ⟨x, rfl⟩ := bf1 (by decide) e
  obtain ⟨u, rfl, hx⟩ := oc1 h
  have e : ((asD x).map fun p => Cl.dct p.1 p.2) = some c := e
  cases e1 : asD x with
  | none => rw [e1] at e; cases e
  | some p =>
    obtain ⟨ks, xs⟩ := p
    rw [e1] at e; cases e
    obtain ⟨a, vs, rfl, h1, n, l, h2⟩ := hx.dict R.sub e1
    refine ⟨a, _, rfl, .of h1, fun p hp => ?_⟩
    obtain ⟨R', q⟩ := fin_dct R hp n l h2
    exact k _ _ _ R' (same_refl F) q
/-! ### {xs[j]: y} -/
section
variable {X : Cx} {C : Cn} {W : WX} {pos : Pos}
theorem qe_dct1 {x y : Str} {i k jk : Nat} {j : Int} {px jp sp py : Pos} (hK : X.K = C.K) (hi : i < C.n) (hN : X.N[i]? = some x) (hv : Vis X.env.scope x) (hd : (x == ("__debug__" : Str)) = false) (hcd : (x == ("__classdict__" : Str)) = false)
    (hk : k < C.n) (hNk : X.N[k]? = some y) (hvk : Vis X.env.scope y) (hdk : (y == ("__debug__" : Str)) = false) (hck : (y == ("__classdict__" : Str)) = false) :
    PE X (.Dict [some (.Subscript (.Name x px) (.Constant (.int j) jk jp) sp)] [.Name y py] pos) (tE C W (.dct1 i j k)) := by
  refine pe_imp (pe_disp (pps_cons (pe_ix ix_seq (pe_var hN hv hd hcd) pe_int (fun _ _ => rfl)) (pe_var hNk hvk hdk hck) pps_nil) rfl rfl (by simp) (by simp)) fun σ H Q ⟨ob, F, s, r, R, e, p⟩ q hq => ?_
  have e : (match ixop (gt s i) (.int j), gt s k with
    | some (.str z), .val d => some (Mi.R.ok (.fr (.dct [z] [d])) s)
    | _, _ => none) = some r := e
  split at e
  · rename_i z d ez ed
    cases e
    have R' : SR C ob F (upd H q (.dK [])) σ s := R.new _ hq
    have hne : gt s i ≠ .un := by
      intro w
      rw [w] at ez; cases ez
    obtain ⟨u, h1, h2⟩ := R'.slot hi hne
    obtain ⟨w, h3, h4⟩ := R'.slot hk (by rw [ed]; intro w; cases w)
    have qi := R'.cr i
    rw [h2] at qi
    have qk := R'.cr k
    rw [h4, ed] at qk
    obtain ⟨w', e1, rw1⟩ := qk
    cases e1
    refine ⟨u, h1, ?_⟩
    show rIx X.K u (.int j) (upd H q (.dK [])) _
    rw [hK]
    refine ix_v R'.sub ⟨qi, ix_fz ez⟩ ez fun v rv => ?_
    have ev := rep_str rv
    subst ev
    refine ⟨w, h3, upd_same, [(Sum.inr z, w)], rfl, by simp, ?_⟩
    rw [upd_upd]
    obtain ⟨R2, q2⟩ := fin_dct (ks := [z]) (vs := [w]) (xs := [d]) R hq (by simp) rfl (.cons rw1 .nil)
    exact p _ _ _ R2 (same_refl _) q2
  · cases e
end
end Mi
namespace Mi
open PySem PySem.Spec PyProof.Rows L2
/-! ### an own list that was frozen while it was walked is its slot's own again -/
def cut (F : Hp) (a : Addr) : Hp := fun b => if b = a then none else F b
theorem cut_ne {F : Hp} {a b : Addr} (h : b ≠ a) : cut F a b = F b := if_neg h
theorem cut_eq {F : Hp} {a : Addr} : cut F a a = none := if_pos rfl
section
variable {K : PySem.W.Frag} {ca : Nat → Addr} {F F' : Hp}
theorem rep_flatT {v : V} {d : D} (h : Rep K ca F v d) (hd : flatD d = true) : Rep K ca F' v d := by
  cases h with
  | non => exact .non
  | bl b => exact .bl b
  | int i => exact .int i
  | str x => exact .str x
  | _ => cases hd
theorem reps_flatT : ∀ {vs : List V} {ds : List D}, Reps K ca F vs ds → ds.all flatD = true → Reps K ca F' vs ds
  | _, _, .nil, _ => .nil
  | _, _, .cons r rs, h => by
    rw [List.all_cons, Bool.and_eq_true] at h
    exact .cons (rep_flatT r h.1) (reps_flatT rs h.2)
theorem rep_no1 {a : Addr} {us : List V} (ha : F a = some (.lst us)) {v : V} {d : D} (h : Rep K ca F v d) (hd : no1 d = true) : Rep K ca (cut F a) v d := by
  unfold no1 at hd
  rw [Bool.or_eq_true] at hd
  rcases hd with hd | hd
  · exact rep_flatT h hd
  · cases h with
    | @tup b vs ds hb r =>
      have : b ≠ a := fun z => by rw [z, ha] at hb; cases hb
      exact .tup (by rw [cut_ne this]; exact hb) (reps_flatT r hd)
    | _ => cases hd
theorem reps_no1 {a : Addr} {us : List V} (ha : F a = some (.lst us)) : ∀ {vs : List V} {ds : List D}, Reps K ca F vs ds → ds.all no1 = true → Reps K ca (cut F a) vs ds
  | _, _, .nil, _ => .nil
  | _, _, .cons r rs, h => by
    rw [List.all_cons, Bool.and_eq_true] at h
    exact .cons (rep_no1 ha r h.1) (reps_no1 ha rs h.2)
end
section
variable {C : Cn} {ob : Option OB} {F H F1 H1 : Hp} {σ : L2.St} {s : S}
theorem SR.thaw (R : SR C ob F H σ s) {i : Nat} {xs : List D} (R1 : SR C ob F1 H1 σ (s.set i (.val (.lst xs)))) (m : Same F F1) (hi : gt s i = .lst xs) (ho : ∀ j, j ≠ i → (gt s j).own = false) (hn : xs.all no1 = true) :
    ∃ a us, SR C ob (cut F1 a) H1 σ s ∧ Same F (cut F1 a) ∧ F1 a = some (.lst us) ∧ vAt C σ ob i = some (.ref a) := by
  have c0 := R.cr i
  rw [hi] at c0
  obtain ⟨a, vs, h1, h2, h3, h4, h5⟩ := c0
  have lt : i < s.length := gt_lt fun z => by rw [hi] at z; cases z
  have c1 := R1.cr i
  rw [gt_set, if_pos ⟨rfl, lt⟩] at c1
  obtain ⟨v, g1, g2⟩ := c1
  rw [h1] at g1
  cases g1
  cases g2 with
  | @lst _ ws _ g3 g4 =>
    have m2 : Same F (cut F1 a) := fun b o e => by
      have : b ≠ a := fun z => by rw [z, h4] at e; cases e
      rw [cut_ne this]; exact m b o e
    refine ⟨a, ws, ⟨⟨fun b o e => m2 b o (R.ex.sub b o e), fun b o e => ?_, R1.ex.keep, fun b e n => ?_, R1.ex.there⟩, R1.len, fun j => ?_, fun j k b o1 o2 _ _ => ?_, R.lk, R.ob0, fun o h => ?_, R.mo⟩, m2, g3, h1⟩
    · by_cases z : b = a
      · rw [z, cut_eq] at e; cases e
      · rw [cut_ne z] at e; exact R1.ex.top b o e
    · have : b ≠ a := fun z => by
        subst z
        rcases h5 with q | q
        · exact n q
        · exact e q
      rw [cut_ne this]; exact R1.ex.frz b e n
    · by_cases z : j = i
      · subst z
        rw [hi]
        exact ⟨a, ws, h1, R1.ex.top _ _ g3, reps_no1 g3 g4 hn, cut_eq, h5⟩
      · exact cr_no m2 (ho j z) (R.cr j)
    · have e1 : j = i := Classical.byContradiction fun z => by rw [ho j z] at o1; cases o1
      have e2 : k = i := Classical.byContradiction fun z => by rw [ho k z] at o2; cases o2
      rw [e1, e2]
    · obtain ⟨q1, q2, q3, q4, q5, q6, q7⟩ := R.ob1 o h
      obtain ⟨p1, p2, p3, p4, p5, p6, p7⟩ := R1.ob1 o h
      refine ⟨p1, ?_, p3, p4, q5, q6, p7⟩
      by_cases z : o.a = a
      · rw [z]; exact cut_eq
      · rw [cut_ne z]; exact p2
theorem qe_thw {X : Cx} {W : WX} {e : Expr} {c c' : CE} {i : Nat} (h : PE X e (tE C W c))
    (hc : ∀ s r, ev C.Γ c' s = some r → ∃ xs rs, gt s i = .lst xs ∧ ev C.Γ c s = some (.ok (.fr (.lst rs)) (s.set i (.val (.lst xs)))) ∧ (∀ j, j ≠ i → (gt s j).own = false) ∧ xs.all no1 = true ∧ rs.all flatD = true ∧ r = .ok (.fr (.lst rs)) s) : PE X e (tE C W c') :=
  pe_imp h fun σ H Q ⟨ob, F, s, r, R, e, p⟩ => by
    obtain ⟨xs, rs, hi, e2, ho, hn, hf, rfl⟩ := hc s r e
    refine ⟨ob, F, s, _, R, e2, fun u F1 H1 R1 m q => ?_⟩
    obtain ⟨a, us, R2, m2, g1, g2⟩ := R.thaw R1 m hi ho hn
    obtain ⟨⟨b, vs, z1, z2, z3, z4, z5⟩, q2, q3⟩ := q
    cases z1
    have hb : b ≠ a := fun z => by rw [z, g1] at z4; cases z4
    refine p (.ref b) (cut F1 a) H1 R2 m2 ⟨⟨b, vs, rfl, z2, reps_flatT z3 hf, by rw [cut_ne hb]; exact z4, z5⟩, rfl, fun _ j o1 => ?_⟩
    have ej : j = i := Classical.byContradiction fun z => by rw [ho j z] at o1; cases o1
    rw [ej, g2]
    intro z
    cases z
    exact hb rfl
theorem thw_hc {c : CE} {i : Nat} (s : S) (r : R Ro) (e : ev C.Γ (.thw c i) s = some r) : ∃ xs rs, gt s i = .lst xs ∧ ev C.Γ c s = some (.ok (.fr (.lst rs)) (s.set i (.val (.lst xs)))) ∧ (∀ j, j ≠ i → (gt s j).own = false) ∧ xs.all no1 = true ∧ rs.all flatD = true ∧ r = .ok (.fr (.lst rs)) s := by
  have e : thwR (gt s i) i s (ev C.Γ c s) = some r := e
  unfold thwR at e
  split at e
  · rename_i xs rs s1 e1 e2
    cases q : Classical.propDecidable (s1 = s.set i (.val (.lst xs)) ∧ (∀ j, j ≠ i → (gt s j).own = false) ∧ xs.all no1 = true ∧ rs.all flatD = true) with
    | isFalse h => rw [q] at e; cases e
    | isTrue h =>
      rw [q] at e
      cases e
      obtain ⟨h1, h2, h3, h4⟩ := h
      subst h1
      exact ⟨xs, rs, e1, e2, h2, h3, h4, rfl⟩
  · cases e
theorem qe_th {X : Cx} {W : WX} {e : Expr} {c : CE} {i : Nat} (h : PE X e (tE C W c)) : PE X e (tE C W (.thw c i)) := qe_thw h thw_hc
end
end Mi
namespace Mi
open PySem PySem.Spec PyProof.Rows L2
/-! ### from a def's text to a term of the small language -/
/-- what a global name stands for -/
inductive G where
  | con (d : D)
  | fn (f np : Nat) (refs : List Nat)
  | cls (f np : Nat)
  | mil (f np : Nat)
  | meth (f np : Nat)
  | exc (c : Nat)
  | bf (b : BF)
  | ty (t : Ty)
  | isi
  | rng
  | rvs
  | zip
  | ve
structure CT where
  N : List Str
  sc : Scope
  tab : List (Str × G)
  os : Nat
  oc : Nat
  hot : Bool
  xs : Option Nat
  meth : Bool
def excsOf (tab : List (Str × G)) : List Nat := tab.filterMap fun q => match q.2 with
  | .exc c => some c
  | _ => none
abbrev CT.excs (ct : CT) : List Nat := excsOf ct.tab
def visB (sc : Scope) (x : Str) : Bool := match sc.names.lookup x with
  | some .local => true
  | some .cell => true
  | some .free => true
  | _ => false
def locB (sc : Scope) (x : Str) : Bool := match sc.names.lookup x with
  | some .local => true
  | some .cell => true
  | _ => false
def dbg (x : Str) : Bool := (x == ("__debug__" : Str)) || (x == ("__classdict__" : Str)) || (x == ("__name__" : Str))
def ixOf (x : Str) : List Str → Nat → Option Nat
  | [], _ => none
  | y :: r, i => if y = x then some i else ixOf x r (i + 1)
def CT.slot (ct : CT) (x : Str) : Option Nat := if visB ct.sc x && !dbg x then ixOf x ct.N 0 else none
def CT.glob (ct : CT) (x : Str) : Option G := match ct.sc.names.lookup x with
  | some .globalImplicit => if dbg x then none else ct.tab.lookup x
  | _ => none
def noStar : Expr → Bool
  | .Starred _ _ => false
  | _ => true
def noSl : Expr → Bool
  | .Slice _ _ _ _ => false
  | _ => true
def noSet : Expr → Bool
  | .Set _ _ _ => false
  | _ => true
def noCall0 : Expr → Bool
  | .Call _ [] [] _ => false
  | _ => true
def noLc : Expr → Bool
  | .ListComp _ _ _ _ => false
  | .SetComp _ _ _ _ => false
  | .DictComp _ _ _ _ _ => false
  | _ => true
def tOk : Expr → Bool
  | .IfExp _ _ _ _ => false
  | _ => true
def boOf : Operator → Option BO
  | .Add => some .add | .Sub => some .sub | .Mult => some .mul | .FloorDiv => some .fdiv | .Mod => some .mod | .Pow => some .pow | _ => none
/-- which things stand for dicts: a guess, right either way -/
def dkB : Expr → Bool
  | .Name x _ => (["_law_held", "_law_around", "_law_inner", "_law_stands"] : List Str).contains x
  | .Subscript (.Name x _) (.Constant (.int 2) _ _) _ => x == ("_law_row" : Str)
  | _ => false
def dkS (e : Expr) : Bool := dkB e || (match e with
  | .Name x _ => x == ("_law_kept" : Str)
  | _ => false)
def coOf : CmpOp → CO
  | .Eq => .eq | .NotEq => .ne | .Lt => .lt | .LtE => .le | .Gt => .gt | .GtE => .ge | .In => .isin | .NotIn => .nin | .Is => .isn | .IsNot => .notn
/-- a comprehension over an own list that goes on being one: a guess, right either way -/
def thB : Expr → Bool
  | .ListComp _ [⟨_, .Name x _, _, _⟩] _ _ => x == ("_law_lets_here" : Str)
  | _ => false
def thC (b : Expr) (y : CE) : CE := match thB b, y with
  | true, .comp e i (.v j) k t => .thw (.comp e i (.v j) k t) j
  | _, y => y
def cmpC (o : CmpOp) (b : Expr) (x y : CE) : CE := match o, dkB b with
  | .In, true => .din x y
  | .NotIn, true => .dnin x y
  | o, _ => .cmp (coOf o) x y
def ltle : CmpOp → Bool
  | .Lt => true
  | .LtE => true
  | _ => false
def fldIx (f : Str) : List Str → Nat → Option Nat := ixOf f
def nmB : Expr → Bool
  | .Name _ _ => true
  | _ => false
def intB : Expr → Bool
  | .Constant (.int _) _ _ => true
  | _ => false
section
variable (rec : CT → Expr → Option CE) (ct : CT)
def comL : List Expr → Option (List CE)
  | [] => some []
  | e :: es => if noStar e then (rec ct e).bind fun c => if (isR c).isSome then none else (comL es).map fun l => c :: l else none
def comA (refs : List Nat) : Nat → List Expr → Option (List CE)
  | _, [] => some []
  | k, e :: es => if refs.contains k && nmB e then (match e with
      | .Name x _ => (ct.slot x).bind fun i => (comA refs (k + 1) es).map fun l => .r i :: l
      | _ => none)
    else if noStar e then (rec ct e).bind fun c => if (isR c).isSome then none else (comA refs (k + 1) es).map fun l => c :: l else none
def comPart : Option Expr → Option CE
  | none => some (.c .non)
  | some e => (rec ct e).bind fun c => if isNonC c then none else some c
def comI (e : Expr) : Option (It × CE) := match e with
  | .Call (.Name x _) es [] _ => (match ct.glob x with
    | some .rng => (match es with
      | [a] => if noStar a then (rec ct a).bind fun a => if (isR a).isSome then none else some (.rng, .tup [.c (.int 0), a]) else none
      | [a, b] => if noStar a && noStar b then (rec ct a).bind fun a => (rec ct b).bind fun b => if (isR a).isSome || (isR b).isSome then none else some (.rng, .tup [a, b]) else none
      | [a, b, c] => if noStar a && noStar b && noStar c then (rec ct a).bind fun a => (rec ct b).bind fun b => (rec ct c).bind fun c => if (isR a).isSome || (isR b).isSome || (isR c).isSome then none else some (.rg3, .tup [a, b, c]) else none
      | _ => none)
    | some .rvs => (match es with
      | [a] => if noStar a then (rec ct a).map fun a => (.rvs, a) else none
      | _ => none)
    | _ => (rec ct e).map fun c => (.seq, c))
  | e => if noSet e then (rec ct e).map fun c => (.seq, c) else none
def bfTy : Ty → Option BF
  | .int => some .int
  | .str => some .str
  | .tup => some .tup
  | .list => some .list
  | _ => none
def bfB : BF → Bool
  | .len => true
  | .abs => true
  | .min => true
  | .sort => true
  | .dict => true
  | _ => false
/-- classes of exceptions, by their names -/
def exNames : List Expr → Option (List Nat)
  | [] => some []
  | .Name t _ :: r => (match ct.glob t with
    | some (.exc k) => (exNames r).map fun ks => k :: ks
    | _ => none)
  | _ :: _ => none
def comIsx (es : List Expr) : Option CE := match es with
  | [.Name e _, .Name t _] => if ct.slot e = ct.xs then (ct.slot e).bind fun i => (match ct.glob t with
    | some (.exc k) => some (.isx i (ct.excs.filter fun c => takesC c [k]) ct.excs)
    | some .ve => some (.isx i ct.excs ct.excs)
    | _ => none) else none
  | [.Name e _, .Tuple ts _ _] => if ct.slot e = ct.xs && decide (ts.length ≤ 20) then (ct.slot e).bind fun i => (exNames ct ts).map fun ks => .isx i (ct.excs.filter fun c => takesC c ks) ct.excs else none
  | _ => none
def comCall (x : Str) (es : List Expr) : Option CE := match ct.glob x with
  | some (.fn f np refs) => if es.length = np && !ct.hot then (comA rec ct refs 0 es).map fun l => .call f l else none
  | some (.bf b) => if es.isEmpty || !bfB b || ct.hot then none else (comL rec ct es).map fun l => .bf b l
  | some (.ty t) => (bfTy t).bind fun b => if es.isEmpty then none else (comL rec ct es).map fun l => .bf b l
  | some .isi => if (comIsx ct es).isSome then comIsx ct es else (match es with
    | [a, .Name t _] => if noStar a then (match ct.glob t with
      | some (.ty t) => (rec ct a).map fun a => .isi a t
      | some (.cls _ _) => (rec ct a).map fun a => .isi a (.cls 0)
      | _ => none) else none
    | _ => none)
  | some (.cls f np) => if es.isEmpty || ct.hot || decide (es.length ≠ np) then none else (comL rec ct es).map fun l => .make 0 f l
  | _ => none
def mtOf (m : Str) : Option MT := if m = "append" then some .append else if m = "pop" then some .pop else if m = "insert" then some .insert else if m = "extend" then some .extend else if m = "join" then some .join else none
def comMeth (o : Expr) (m : Str) (es : List Expr) : Option CE := if noCall0 o && decide (es.length < 20) then (mtOf m).bind fun m => (rec ct o).bind fun o => (match m, es with
    | .pop, [] => some (.mt .pop o [])
    | .pop, _ => none
    | .join, [e] => (comL rec ct [e]).map fun l => .mt .join o l
    | .join, _ => none
    | _, [] => none
    | m, es => (comL rec ct es).map fun l => .mt m o l) else none
def comLC (elt : Expr) (x : Str) (it : Expr) (ifs : List Expr) (scope : Scope) : Option CE := (ixOf x ct.N 0).bind fun i => if blkC ct.N ct.sc scope [(x, i)] && decide ((relS scope ct.sc).names.lookup x = some .local) && decide (i ≠ ct.os) && !ct.hot then
        (comI rec ct it).bind fun k => (match ifs with
          | [] => some (CE.c (.bl true))
          | [t] => if tOk t then rec { ct with sc := relS scope ct.sc } t else none
          | _ => none).bind fun t => (rec { ct with sc := relS scope ct.sc } elt).map fun e => .comp e i k.2 k.1 t else none
def comF : Expr → Option CE
  | .Constant c _ _ => (match c with
    | .int i => some (.c (.int i))
    | .bool b => some (.c (.bl b))
    | .none => some (.c .non)
    | .str x => some (.c (.str x))
    | _ => none)
  | .Name x _ => (match ct.slot x with
    | some i => some (.v i)
    | none => (match ct.glob x with
      | some (.con d) => some (.g x d)
      | _ => none))
  | .BinOp a o b _ => (boOf o).bind fun o => (rec ct a).bind fun a => (rec ct b).map fun b => .bin o a b
  | .UnaryOp o a _ => (match o with
    | .USub => (rec ct a).map .neg
    | .Not => if tOk a then (rec ct a).map .not else none
    | _ => none)
  | .Compare a ops cs _ => (match ops, cs with
    | [o], [b] => if behindInMarks o b then none else (rec ct a).bind fun a' => (rec ct b).map fun b' => cmpC o b a' (thC b b')
    | [o, p], [b, c] => if behindInMarks p c || !ltle o || !ltle p then none else (rec ct a).bind fun a => (rec ct b).bind fun b => (rec ct c).map fun c => .chn (coOf o) (coOf p) a b c
    | _, _ => none)
  | .BoolOp op es pos => (match es with
    | [a] => if tOk a then rec ct a else none
    | a :: b :: r => if tOk a then (rec ct a).bind fun x => (rec ct (.BoolOp op (b :: r) pos)).map fun y => (match op with
      | .And => .and x y
      | .Or => .or x y) else none
    | [] => none)
  | .IfExp t a b _ => if tOk t then (rec ct t).bind fun t => (rec ct a).bind fun a => (rec ct b).map fun b => .ifx t a b else none
  | .Tuple es _ _ => if es.length ≤ 1000 then (comL rec ct es).map .tup else none
  | .List es _ => if es.length ≤ 1000 then (comL rec ct es).map .lst else none
  | .ListComp elt gs scope _ => (match gs with
    | [⟨.Name x _, it, ifs, 0⟩] => comLC rec ct elt x it ifs scope
    | _ => none)
  | .Subscript a i _ => (match i with
    | .Slice lo hi st _ => (match st with
      | none => (rec ct a).bind fun a => (comPart rec ct lo).bind fun l => (comPart rec ct hi).map fun h => .sl a l h
      | some (.UnaryOp .USub (.Constant (.int 1) _ _) _) => (match lo, hi with
        | none, none => (rec ct a).map .rev
        | _, _ => none)
      | _ => none)
    | b => (rec ct a).bind fun a' => (rec ct b).map fun b => if dkB a && !intB i then .dix a' b else .ix a' b)
  | .Dict ks vs _ => (match ks, vs with
    | [], [] => some .dnew
    | [some (.Subscript (.Name x _) (.Constant (.int j) _ _) _)], [.Name y _] => (ct.slot x).bind fun i => (ct.slot y).map fun k => .dct1 i j k
    | _, _ => none)
  | .Attribute a f _ => (match a with
    | .Name x _ => if ct.slot x = some ct.os then (fldIx f (flds ct.oc) 0).map fun j => .v (ct.N.length + j) else (rec ct a).bind fun a => (fldIx f (flds 0) 0).map fun j => .fld a 0 j
    | _ => if noCall0 a then (rec ct a).bind fun a => (fldIx f (flds 0) 0).map fun j => .fld a 0 j else none)
  | .Call f es kws pos => (match kws with
    | [] => (match f with
      | .Name x _ => comCall rec ct x es
      | .Attribute o m apos => if apos.endLine == pos.line then comMeth rec ct o m es else none
      | _ => none)
    | _ => none)
  | _ => none
end
def comE : Nat → CT → Expr → Option CE
  | 0, _, _ => none
  | n + 1, ct, e => comF (comE n) ct e
/-! ### it is right -/
def FactOf (X : Cx) (C : Cn) (k : Nat) (x : Str) : G → Prop
  | .con d => ∃ v u, X.mg x = some u ∧ RelV v u ∧ ∀ F, Rep C.K C.ca F v d
  | .fn f np _ => FnF X C k f x np
  | .cls f np => X.mg x = some (.ref (C.ca 0)) ∧ ObF C.K (C.ca 0) ∧ (∀ t n, tyN t = some n → PySem.W.kitOne C.K (.type n) (.ref (C.ca 0)) = some false) ∧ PySem.W.kitOne C.K (.type "NoneType") (.ref (C.ca 0)) = some false ∧ MkF X C k 0 f np
  | .mil f np => X.mg x = some (.ref (C.ca 1)) ∧ Cls C.K (C.ca 1) ∧ (∀ g ∈ flds 1, NoAttr C.K (C.ca 1) g) ∧ MkF X C k 1 f np
  | .meth f np => MeF X C k 1 x f np
  | .exc c => X.mg x = some (.ref (C.cv c)) ∧ PySem.W.excIn X.K (C.cv c) [.type "ValueError", .type "Exception", .type "BaseException", .type "object"] "ValueError.__new__" = true ∧ PySem.W.keepIn X.K (.ref (C.cv c)) = true ∧ PySem.W.subIn X.K (.ref (C.cv c)) (.type "BaseException") = some true ∧ PySem.W.typeIn X.K (.ref (C.cv c)) = some (.type "type")
  | .bf b => X.mg x = none ∧ x = b.nm
  | .ty t => X.mg x = none ∧ ∃ n, tyN t = some n ∧ x = Str.ofString n
  | .isi => X.mg x = none ∧ x = "isinstance"
  | .rng => X.mg x = none ∧ x = "range"
  | .rvs => X.mg x = none ∧ x = "reversed"
  | .zip => X.mg x = none ∧ x = "zip"
  | .ve => X.mg x = none ∧ x = "ValueError"
structure Okc (ct : CT) (X : Cx) (C : Cn) (k : Nat) : Prop where
  N : X.N = ct.N
  nd : ct.N.Nodup
  sc : X.env.scope = ct.sc
  n : C.n = ct.N.length
  os : C.os = ct.os
  oc : C.oc = ct.oc
  K : X.K = C.K
  room : ct.hot = false → Room (k + 1) X.A
  un : X.A.units + 1000 < cLine
  k50 : 50 ≤ k
  calm : ct.hot = false → X.calm = true
  xa0 : ct.hot = false → C.xa = none
  excs : ExcAll C.K C.cv ct.excs
  isE : ∀ a c, C.xa = some (a, c) → c ∈ ct.excs → IsE X (C.cv c) a
  facts : ∀ x g, ct.tab.lookup x = some g → FactOf X C k x g
  ob : ct.os < ct.N.length → Cls C.K (C.ca C.oc) ∧ ∀ f ∈ flds C.oc, NoAttr C.K (C.ca C.oc) f
  mo : C.mo = ct.meth
theorem ixOf_get {x : Str} : ∀ {N : List Str} {i j : Nat}, ixOf x N i = some j → ∃ k, j = i + k ∧ N[k]? = some x
  | [], _, _, h => by cases h
  | y :: r, i, j, h => by
    unfold ixOf at h
    split at h
    · rename_i e
      cases h
      exact ⟨0, rfl, by simp [e]⟩
    · obtain ⟨k, h1, h2⟩ := ixOf_get h
      exact ⟨k + 1, by omega, by simpa using h2⟩
theorem ixOf_0 {x : Str} {N : List Str} {j : Nat} (h : ixOf x N 0 = some j) : N[j]? = some x ∧ j < N.length := by
  obtain ⟨k, h1, h2⟩ := ixOf_get h
  have : j = k := by omega
  subst this
  refine ⟨h2, ?_⟩
  rcases Nat.lt_or_ge j N.length with z | z
  · exact z
  · rw [List.getElem?_eq_none z] at h2; cases h2
theorem vis_of {sc : Scope} {x : Str} (h : visB sc x = true) : Vis sc x := by
  unfold visB at h
  unfold Vis
  split at h
  · exact .inl (by assumption)
  · exact .inr (.inl (by assumption))
  · exact .inr (.inr (by assumption))
  · cases h
theorem loc_of {sc : Scope} {x : Str} (h : locB sc x = true) : L2.Loc sc x := by
  unfold locB at h
  unfold L2.Loc
  split at h
  · exact .inl (by assumption)
  · exact .inr (by assumption)
  · cases h
theorem dbg_of {x : Str} (h : dbg x = false) : (x == ("__debug__" : Str)) = false ∧ (x == ("__classdict__" : Str)) = false ∧ x ≠ "__name__" := by
  unfold dbg at h
  rw [Bool.or_eq_false_iff, Bool.or_eq_false_iff] at h
  refine ⟨h.1.1, h.1.2, fun z => ?_⟩
  rw [z] at h
  simp at h
section
variable {ct : CT} {X : Cx} {C : Cn} {W : WX} {k : Nat}
theorem slot_of (O : Okc ct X C k) {x : Str} {i : Nat} (h : ct.slot x = some i) : i < C.n ∧ X.N[i]? = some x ∧ Vis X.env.scope x ∧ (x == ("__debug__" : Str)) = false ∧ (x == ("__classdict__" : Str)) = false := by
  unfold CT.slot at h
  split at h
  · rename_i hv
    rw [Bool.and_eq_true] at hv
    obtain ⟨h1, h2⟩ := ixOf_0 h
    obtain ⟨d1, d2, _⟩ := dbg_of (x := x) (by simpa using hv.2)
    exact ⟨by rw [O.n]; exact h2, by rw [O.N]; exact h1, by rw [O.sc]; exact vis_of hv.1, d1, d2⟩
  · cases h
theorem glob_of (O : Okc ct X C k) {x : Str} {g : G} (h : ct.glob x = some g) : Gl X x ∧ (x == ("__debug__" : Str)) = false ∧ x ≠ "__name__" ∧ FactOf X C k x g := by
  unfold CT.glob at h
  split at h
  · rename_i hs
    split at h
    · cases h
    · rename_i hd
      obtain ⟨d1, d2, d3⟩ := dbg_of (x := x) (by simpa using hd)
      refine ⟨?_, d1, d3, O.facts x g h⟩
      show X.env.scope.names.lookup x = _
      rw [O.sc]
      exact hs
  · cases h
theorem Okc.unit (O : Okc ct X C k) : X.A.units + 1000 < cLine := O.un
end
theorem coOf_py (o : CmpOp) : (coOf o).py = o := by cases o <;> rfl
theorem boOf_py {o : Operator} {b : BO} (h : boOf o = some b) : b.py = o := by cases o <;> cases h <;> rfl
theorem ltle_of {o : CmpOp} (h : ltle o = true) : coOf o = .lt ∨ coOf o = .le := by cases o <;> first | exact .inl rfl | exact .inr rfl | cases h
theorem star_of {e : Expr} {es : List Expr} {env : PySem.Env} (h : noStar e = true) : starEach (e :: es) env = (false, eval e env) :: starEach es env := by cases e <;> first | rfl | cases h
theorem base_of {o : Expr} {m : Str} {env : PySem.Env} (h : noCall0 o = true) : attributeBase o m env (eval o env) = eval o env := by
  cases o with
  | Call f es kws p =>
    cases es with
    | nil =>
      cases kws with
      | nil => cases h
      | cons a b => cases f <;> rfl
    | cons a b => cases f <;> rfl
  | _ => rfl
theorem plain_of {e : Expr} (h : noSl e = true) : PlainIx e := by
  intro o i
  cases e <;> first | rfl | cases h
theorem set_of {e : Expr} {env : PySem.Env} (h : noSet e = true) (x : Value) : foldedSetIterable e env x = pure x := by cases e <;> first | rfl | cases h
/-- a compiler of expressions that is right, at level k -/
def Snd (k : Nat) (rec : CT → Expr → Option CE) : Prop := ∀ (ct : CT) (e : Expr) (c : CE), rec ct e = some c → ∀ (X : Cx) (C : Cn) (W : WX), Okc ct X C k → Takes X W → PE X e (tE C W c) ∧ (tOk e = true → PT X e (tT C W c))
section
variable {k : Nat} {rec : CT → Expr → Option CE} (S : Snd k rec)
include S
theorem comL_ok {ct : CT} {X : Cx} {C : Cn} {W : WX} (O : Okc ct X C k) (tk : Takes X W) : ∀ {es : List Expr} {cs : List CE}, comL rec ct es = some cs → PA X es (tA C W cs) ∧ PA X es (tAO C W cs) ∧ cs.length = es.length ∧ (∀ e ∈ es, noStar e = true)
  | [], cs, h => by
    cases h
    exact ⟨qa_nil, qao_nil, rfl, fun e h => nomatch h⟩
  | e :: es, cs, h => by
    unfold comL at h
    split at h
    · rename_i hs
      cases q : rec ct e with
      | none => rw [q] at h; cases h
      | some c =>
        rw [q, Option.bind_some] at h
        split at h
        · cases h
        · rename_i hr
          cases q2 : comL rec ct es with
          | none => rw [q2] at h; cases h
          | some l =>
            rw [q2] at h; cases h
            obtain ⟨h1, h2, h3, h4⟩ := comL_ok O tk q2
            have pe := (S ct e c q X C W O tk).1
            have hr : isR c = none := by cases z : isR c with | none => rfl | some _ => rw [z] at hr; exact absurd rfl hr
            refine ⟨qa_cons hr pe h1 (star_of hs), qao_cons pe h2 (star_of hs), by rw [List.length_cons, List.length_cons, h3], fun x hx => ?_⟩
            rcases List.mem_cons.mp hx with rfl | hx
            · exact hs
            · exact h4 x hx
    · cases h
theorem comA_ok {ct : CT} {X : Cx} {C : Cn} {W : WX} (O : Okc ct X C k) (tk : Takes X W) {refs : List Nat} : ∀ {j : Nat} {es : List Expr} {cs : List CE}, comA rec ct refs j es = some cs → PA X es (tA C W cs) ∧ cs.length = es.length ∧ (∀ i ∈ cs.filterMap isR, i < C.n) ∧ (∀ e ∈ es, noStar e = true)
  | j, [], cs, h => by
    cases h
    exact ⟨qa_nil, rfl, (fun i h => nomatch h), fun e h => nomatch h⟩
  | j, e :: es, cs, h => by
    unfold comA at h
    split at h
    · split at h
      · rename_i x p hz
        cases q : ct.slot x with
        | none => rw [q] at h; cases h
        | some i =>
          rw [q, Option.bind_some] at h
          cases q2 : comA rec ct refs (j + 1) es with
          | none => rw [q2] at h; cases h
          | some l =>
            rw [q2] at h; cases h
            obtain ⟨h1, h2, h3, h4⟩ := comA_ok O tk q2
            obtain ⟨s1, s2, s3, s4, s5⟩ := slot_of O q
            refine ⟨qa_ref s1 s2 s3 s4 s5 h1 (star_of rfl), by rw [List.length_cons, List.length_cons, h2], fun i' hi => ?_, fun x hx => ?_⟩
            · rw [List.filterMap_cons] at hi
              rcases List.mem_cons.mp hi with rfl | hi
              · exact s1
              · exact h3 i' hi
            · rcases List.mem_cons.mp hx with rfl | hx
              · rfl
              · exact h4 x hx
      · cases h
    · split at h
      · rename_i hs
        cases q : rec ct e with
        | none => rw [q] at h; cases h
        | some c =>
          rw [q, Option.bind_some] at h
          split at h
          · cases h
          · rename_i hr
            cases q2 : comA rec ct refs (j + 1) es with
            | none => rw [q2] at h; cases h
            | some l =>
              rw [q2] at h; cases h
              obtain ⟨h1, h2, h3, h4⟩ := comA_ok O tk q2
              have pe := (S ct e c q X C W O tk).1
              have hr : isR c = none := by cases z : isR c with | none => rfl | some _ => rw [z] at hr; exact absurd rfl hr
              refine ⟨qa_cons hr pe h1 (star_of hs), by rw [List.length_cons, List.length_cons, h2], fun i hi => ?_, fun x hx => ?_⟩
              · rw [List.filterMap_cons, hr] at hi
                exact h3 i hi
              · rcases List.mem_cons.mp hx with rfl | hx
                · exact hs
                · exact h4 x hx
      · cases h
theorem comPart_ok {ct : CT} {X : Cx} {C : Cn} {W : WX} (O : Okc ct X C k) (tk : Takes X W) {o : Option Expr} {c : CE} (h : comPart rec ct o = some c) : PO X o (tPo C W c) := by
  cases o with
  | none => cases h; exact qo_none
  | some e =>
    unfold comPart at h
    dsimp only at h
    cases q : rec ct e with
    | none => rw [q] at h; cases h
    | some c' =>
      rw [q, Option.bind_some] at h
      split at h
      · cases h
      · rename_i hn
        cases h
        exact qo_some (S ct e _ q X C W O tk).1 (by simpa using hn)
theorem isR_of {c : CE} (h : ¬ (isR c).isSome = true) : isR c = none := by cases z : isR c with | none => rfl | some _ => rw [z] at h; exact absurd rfl h
theorem comI_ok {ct : CT} {X : Cx} {C : Cn} {W : WX} (O : Okc ct X C k) (tk : Takes X W) {tg e : Expr} {t : It} {c : CE} (h : comI rec ct e = some (t, c)) : PI X tg e (tI C W fun s => srcOf (forItems t) (ev C.Γ c s)) ∧ noSet e = true := by
  have seqC : ∀ {e' : Expr}, (rec ct e').map (fun c => (It.seq, c)) = some (t, c) → PI X tg e' (tI C W fun s => srcOf (forItems t) (ev C.Γ c s)) := fun {e'} h => by
    cases q : rec ct e' with
    | none => rw [q] at h; cases h
    | some c' => rw [q] at h; cases h; exact qi_seq O.K (S ct e' _ q X C W O tk).1
  unfold comI at h
  split at h
  · rename_i x p es pos
    refine ⟨?_, rfl⟩
    split at h
    · rename_i hg
      obtain ⟨g1, g2, g3, g4, rfl⟩ := glob_of O hg
      split at h
      · rename_i a
        split at h
        · rename_i hs
          cases q : rec ct a with
          | none => rw [q] at h; cases h
          | some a' =>
            rw [q, Option.bind_some] at h
            split at h
            · cases h
            · rename_i hr
              cases h
              exact qi_rng1 (isR_of S hr) g1 g4 (S ct a _ q X C W O tk).1 (star_of hs)
        · cases h
      · rename_i a b
        split at h
        · rename_i hs
          rw [Bool.and_eq_true] at hs
          cases q : rec ct a with
          | none => rw [q] at h; cases h
          | some a' =>
            rw [q, Option.bind_some] at h
            cases q2 : rec ct b with
            | none => rw [q2] at h; cases h
            | some b' =>
              rw [q2, Option.bind_some] at h
              split at h
              · cases h
              · rename_i hr
                rw [Bool.or_eq_true, not_or] at hr
                cases h
                exact qi_rng2 (isR_of S hr.1) (isR_of S hr.2) g1 g4 (S ct a _ q X C W O tk).1 (S ct b _ q2 X C W O tk).1 (by rw [star_of hs.1, star_of hs.2]; rfl) (by rw [star_of hs.2]; rfl)
        · cases h
      · rename_i a b c0
        split at h
        · rename_i hs
          rw [Bool.and_eq_true, Bool.and_eq_true] at hs
          cases q : rec ct a with
          | none => rw [q] at h; cases h
          | some a' =>
            rw [q, Option.bind_some] at h
            cases q2 : rec ct b with
            | none => rw [q2] at h; cases h
            | some b' =>
              rw [q2, Option.bind_some] at h
              cases q3 : rec ct c0 with
              | none => rw [q3] at h; cases h
              | some c' =>
                rw [q3, Option.bind_some] at h
                split at h
                · cases h
                · rename_i hr
                  rw [Bool.or_eq_true, Bool.or_eq_true, not_or, not_or] at hr
                  cases h
                  exact qi_rng3 (isR_of S hr.1.1) (isR_of S hr.1.2) (isR_of S hr.2) g1 g4 (S ct a _ q X C W O tk).1 (S ct b _ q2 X C W O tk).1 (S ct c0 _ q3 X C W O tk).1 (star_of hs.1.1) (star_of hs.1.2) (star_of hs.2) (by rw [star_of hs.1.2, star_of hs.2]; rfl)
        · cases h
      · cases h
    · rename_i hg
      obtain ⟨g1, g2, g3, g4, rfl⟩ := glob_of O hg
      split at h
      · rename_i a
        split at h
        · rename_i hs
          cases q : rec ct a with
          | none => rw [q] at h; cases h
          | some a' =>
            rw [q] at h; cases h
            exact qi_rev O.K g1 g4 (S ct a _ q X C W O tk).1 (star_of hs)
        · cases h
      · cases h
    · exact seqC h
  · split at h
    · rename_i hs
      exact ⟨seqC h, hs⟩
    · cases h

theorem back_of {pos : Pos} {env : PySem.Env} : ∀ {es : List Expr}, (∀ e ∈ es, noStar e = true) → (backTo pos (starEach es env)).any (·.1) = false
  | [], _ => rfl
  | e :: es, h => by
    rw [star_of (h e List.mem_cons_self)]
    show (false || (backTo pos (starEach es env)).any (·.1)) = false
    rw [back_of fun x hx => h x (List.mem_cons_of_mem _ hx)]
    rfl
theorem backs_of {pos : Pos} {env : PySem.Env} : ∀ {es : List Expr}, (∀ e ∈ es, noStar e = true) → (backTo pos (starEach es env)).all (fun x => !x.1) = true
  | [], _ => rfl
  | e :: es, h => by
    rw [star_of (h e List.mem_cons_self)]
    show (true && (backTo pos (starEach es env)).all (fun x => !x.1)) = true
    rw [backs_of fun x hx => h x (List.mem_cons_of_mem _ hx)]
    rfl
theorem kit_ty {K : PySem.W.Frag} {ca : Nat → Addr} {t : Ty} {n : String} (hn : tyN t = some n) (a : TyA) (ha : ∀ c, a = .obj c → c = 0 ∧ ObF K (ca 0)) : PySem.W.kitOne K (a.val ca) (.type n) = some (isiA a t) := by
  cases a with
  | obj c =>
    obtain ⟨rfl, o⟩ := ha c rfl
    have := o.kit t n hn
    cases t <;> first | exact this | cases hn
  | _ => cases t <;> cases hn <;> kernel_rfl
theorem kit_cls {K : PySem.W.Frag} {ca : Nat → Addr} (h : ∀ t n, tyN t = some n → PySem.W.kitOne K (.type n) (.ref (ca 0)) = some false) (hN : PySem.W.kitOne K (.type "NoneType") (.ref (ca 0)) = some false) (a : TyA) (ha : ∀ c, a = .obj c → c = 0 ∧ ObF K (ca 0)) : PySem.W.kitOne K (a.val ca) (.ref (ca 0)) = some (isiA a (.cls 0)) := by
  cases a with
  | obj c =>
    obtain ⟨rfl, o⟩ := ha c rfl
    show PySem.W.kitOne K (.ref (ca 0)) (.ref (ca 0)) = some true
    unfold PySem.W.kitOne
    rw [if_pos (by simp)]
  | non => exact hN
  | bl => exact h .bool _ rfl
  | int => exact h .int _ rfl
  | str => exact h .str _ rfl
  | tup => exact h .tup _ rfl
  | lst => exact h .list _ rfl
theorem ty_boot {t : Ty} {n : String} (hn : tyN t = some n) : bootBuiltins (Str.ofString n) = some (.type n) := by
  cases t <;> cases hn <;> decide +kernel
omit S in
theorem mem_exc {ct : CT} {x : Str} {c : Nat} (h : ct.glob x = some (.exc c)) : c ∈ ct.excs := by
  unfold CT.glob at h
  split at h
  · split at h
    · cases h
    · exact List.mem_filterMap.mpr ⟨_, PySem.mem_of_lookup h, rfl⟩
  · cases h
omit S in
theorem takes_any (c : Nat) : ∀ ks : List Nat, takesC c ks = ks.any fun k => takesC c [k]
  | [] => rfl
  | k :: ks => by
    have ih := takes_any c ks
    unfold takesC at ih ⊢
    rw [List.any_cons, ← ih]
    simp only [List.contains_cons, List.contains_nil, Bool.or_false]
    cases (c == k) <;> cases ((0 : Nat) == k) <;> cases ks.contains c <;> cases ks.contains 0 <;> rfl
omit S in
theorem names_ok {ct : CT} {X : Cx} {C : Cn} (O : Okc ct X C k) : ∀ {ts : List Expr} {ks : List Nat}, exNames ct ts = some ks → PA X ts (fun _ H Q => Q (ks.map fun c => V.ref (C.cv c)) H) ∧ ks.length = ts.length ∧ ∀ c ∈ ks, c ∈ ct.excs
  | [], ks, h => by
    cases h
    exact ⟨pa_nil, rfl, fun _ z => nomatch z⟩
  | e :: r, ks, h => by
    cases e with
    | Name t p =>
      unfold exNames at h
      split at h
      · rename_i k0 hg
        cases q : exNames ct r with
        | none => rw [q] at h; cases h
        | some l =>
          rw [q] at h; cases h
          obtain ⟨h1, h2, h3⟩ := names_ok O q
          obtain ⟨g1, g2, g3, f1, f2⟩ := glob_of O hg
          refine ⟨pa_imp (pa_cons (pe_glob g1 f1 (show RelV (.ref (C.cv k0)) (.ref (C.cv k0)) from rfl) g2) h1 rfl) fun σ H Q q => q, by rw [List.length_cons, List.length_cons, h2], fun c hc => ?_⟩
          rcases List.mem_cons.mp hc with rfl | hc
          · exact mem_exc hg
          · exact h3 c hc
      · cases h
    | _ => cases h
omit S in
theorem kit_any {K : PySem.W.Frag} {cv : Nat → Addr} {c : Nat} : ∀ {ks : List Nat}, (∀ t ∈ ks, PySem.W.kitOne K (.ref (cv c)) (.ref (cv t)) = some (takesC c [t])) → PySem.W.kitAny K (.ref (cv c)) (ks.map fun t => Value.ref (cv t)) = some (ks.any fun t => takesC c [t])
  | [], _ => rfl
  | t :: ks, h => by
    have ih := kit_any (ks := ks) fun t ht => h t (List.mem_cons_of_mem _ ht)
    have h0 := h t List.mem_cons_self
    show (match PySem.W.kitOne K (.ref (cv c)) (.ref (cv t)) with
      | some true => some true
      | some false => PySem.W.kitAny K (.ref (cv c)) (ks.map fun t => Value.ref (cv t))
      | none => none) = _
    rw [h0, ih, List.any_cons]
    cases takesC c [t] <;> rfl
omit S in
theorem filt_has {p : Nat → Bool} {l : List Nat} {c : Nat} (h : c ∈ l) : (l.filter p).contains c = p c := by
  rw [Bool.eq_iff_iff, List.contains_iff_mem, List.mem_filter]
  exact ⟨fun z => z.2, fun z => ⟨h, z⟩⟩
omit S in
theorem comIsx_ok {ct : CT} {X : Cx} {C : Cn} {W : WX} (O : Okc ct X C k) {es : List Expr} {p pos : Pos} {c : CE} (hg : Gl X "isinstance") (hm : X.mg "isinstance" = none) (h : comIsx ct es = some c) : PE X (.Call (.Name "isinstance" p) es [] pos) (tE C W c) ∧ evT C.Γ c = tst (ev C.Γ c) := by
  unfold comIsx at h
  split at h
  · rename_i e p1 t p2
    split at h
    · cases hs : ct.slot e with
      | none => rw [hs] at h; cases h
      | some i =>
        rw [hs, Option.bind_some] at h
        obtain ⟨s1, s2, s3, s4, s5⟩ := slot_of O hs
        split at h
        · rename_i k0 hk
          cases h
          obtain ⟨w1, w2, w3, f1, f2⟩ := glob_of O hk
          refine ⟨qe_isx hg hm s1 s2 s3 s4 s5 O.isE (pe_glob w1 f1 (show RelV (.ref (C.cv k0)) (.ref (C.cv k0)) from rfl) w2) (fun u hu => hu) (fun c hc => ?_), rfl⟩
          rw [filt_has hc, O.K]
          exact ((O.excs c hc).2.2 k0 (mem_exc hk)).2
        · rename_i hk
          cases h
          obtain ⟨w1, w2, w3, f1, rfl⟩ := glob_of O hk
          refine ⟨qe_isx hg hm s1 s2 s3 s4 s5 O.isE (pe_bltn w1 f1 (show bootBuiltins "ValueError" = some (.type "ValueError") by decide +kernel) (show RelV (.ty "ValueError") (.type "ValueError") from rfl) w3 w2) (fun u hu => hu) (fun c hc => ?_), rfl⟩
          rw [O.K, (O.excs c hc).2.1]
          congr 1
          exact (List.contains_iff_mem.mpr hc).symm
        · cases h
    · cases h
  · rename_i e p1 ts kk p2
    split at h
    · rename_i hc
      rw [Bool.and_eq_true, decide_eq_true_eq, decide_eq_true_eq] at hc
      cases hs : ct.slot e with
      | none => rw [hs] at h; cases h
      | some i =>
        rw [hs, Option.bind_some] at h
        obtain ⟨s1, s2, s3, s4, s5⟩ := slot_of O hs
        cases hn : exNames ct ts with
        | none => rw [hn] at h; cases h
        | some ks =>
          rw [hn] at h; cases h
          obtain ⟨n1, n2, n3⟩ := names_ok O hn
          refine ⟨?_, rfl⟩
          by_cases ha : ∃ a c, C.xa = some (a, c) ∧ c ∈ ct.excs
          · obtain ⟨a, c, ha, hcx⟩ := ha
            have h := pe_callB (x := "isinstance") (p := p) (pos := pos) (O.isE a c ha hcx).2 hg hm (by decide +kernel) (pa_cons (pe_var (pos := p1) s2 s3 s4 s5) (pa_cons (pe_tup (x1 := kk) (pos := p2) n1) pa_nil rfl) rfl) (by decide) (by decide) rfl rfl
            refine pe_imp h fun σ H Q ⟨ob, F, s, r, R, e, q⟩ => ?_
            obtain ⟨c', e1, e2, rfl⟩ := isx_case e
            obtain ⟨a', v1, v2⟩ := R.exn e1
            rw [ha] at v2; cases v2
            refine ⟨.ref a, (vAt_lt s1).mp v1, by rw [List.length_map, n2]; exact Nat.le_trans hc.2 (by decide), fun pt hpt => ⟨pt, ks.map C.cv, _, rfl, ?_, ?_, post_val (q.mono (same_refl F)) (R.new _ hpt) (.bl _)⟩⟩
            · rw [upd_same, List.map_map]; rfl
            · rw [List.map_map, O.K, filt_has hcx]
              rw [takes_any]
              exact kit_any fun t ht => ((O.excs c hcx).2.2 t (n3 t ht)).2
          · refine pe_none fun σ H Q ⟨ob, F, s, r, R, e, q⟩ => ?_
            obtain ⟨c', e1, e2, rfl⟩ := isx_case e
            obtain ⟨a', v1, v2⟩ := R.exn e1
            exact ha ⟨a', c', v2, e2⟩
    · cases h
  · cases h
theorem comCall_ok {ct : CT} {X : Cx} {C : Cn} {W : WX} (O : Okc ct X C k) (tk : Takes X W) {x : Str} {es : List Expr} {p pos : Pos} {c : CE} (h : comCall rec ct x es = some c) : PE X (.Call (.Name x p) es [] pos) (tE C W c) ∧ evT C.Γ c = tst (ev C.Γ c) := by
  unfold comCall at h
  split at h
  · rename_i f np refs hg
    obtain ⟨g1, g2, g3, g4⟩ := glob_of O hg
    split at h
    · rename_i hl
      rw [Bool.and_eq_true, decide_eq_true_eq, Bool.not_eq_true'] at hl
      obtain ⟨hl, hh⟩ := hl
      cases q : comA rec ct refs 0 es with
      | none => rw [q] at h; cases h
      | some l =>
        rw [q] at h; cases h
        obtain ⟨h1, h2, h3, h4⟩ := comA_ok S O tk q
        refine ⟨?_, rfl⟩
        cases es with
        | nil =>
          have e : l = [] := List.eq_nil_of_length_eq_zero (by rw [h2]; rfl)
          subst e
          have e : np = 0 := hl.symm
          subst e
          exact qe_call0 g4 ((O.room hh).mono (Nat.le_succ _)) g1 tk g2
        | cons e es =>
          have e1 : np = l.length := by rw [h2, ← hl]
          subst e1
          exact qe_call g4 ((O.room hh).mono (Nat.le_succ _)) g1 tk h1 h3 g2 (star_of (h4 e List.mem_cons_self)) (back_of S fun x hx => h4 x (List.mem_cons_of_mem _ hx))
    · cases h
  · rename_i b hg
    obtain ⟨g1, g2, g3, g4, g5⟩ := glob_of O hg
    split at h
    · cases h
    · rename_i hb
      rw [Bool.or_eq_true, not_or, Bool.or_eq_true, not_or] at hb
      obtain ⟨hb, hh⟩ := hb
      have hh : ct.hot = false := by simpa using hh
      cases q : comL rec ct es with
      | none => rw [q] at h; cases h
      | some l =>
        rw [q] at h; cases h
        obtain ⟨h1, h2, h3, h4⟩ := comL_ok S O tk q
        refine ⟨?_, rfl⟩
        cases es with
        | nil => exact absurd rfl hb.1
        | cons e es =>
          have s1 := star_of (es := es) (env := X.env) (h4 e List.mem_cons_self)
          have s2 : (backTo pos (starEach es X.env)).any (·.1) = false := back_of S fun x hx => h4 x (List.mem_cons_of_mem _ hx)
          cases b with
          | len => subst g5; exact qe_bfB call_len (bfk_len _ O.K) g1 g4 boot_len h2 g3 g2 s1 s2
          | abs => subst g5; exact qe_bfB call_abs bfk_abs g1 g4 (by decide +kernel) h2 g3 g2 s1 s2
          | sort => subst g5; exact qe_bfB cr_sortedNT (bfk_sort _ O.K) g1 g4 PyProof.Rows.boot_sorted h2 g3 g2 s1 s2
          | min => subst g5; exact qe_bfB (call_min2 (O.calm hh)) bfk_min g1 g4 PyProof.Rows.boot_min h2 g3 g2 s1 s2
          | dict => subst g5; exact qe_bfT call_dictD bfk_dict g1 g4 (by decide +kernel) h2 g3 g2 s1 s2
          | _ => exact absurd rfl hb.2
  · rename_i t hg
    obtain ⟨g1, g2, g3, g4, n, g5, rfl⟩ := glob_of O hg
    cases eb : bfTy t with
    | none => rw [eb] at h; cases h
    | some b =>
      rw [eb, Option.bind_some] at h
      split at h
      · cases h
      · rename_i hb
        cases q : comL rec ct es with
        | none => rw [q] at h; cases h
        | some l =>
          rw [q] at h; cases h
          obtain ⟨h1, h2, h3, h4⟩ := comL_ok S O tk q
          refine ⟨?_, rfl⟩
          cases es with
          | nil => exact absurd rfl hb
          | cons e es =>
            have s1 := star_of (es := es) (env := X.env) (h4 e List.mem_cons_self)
            have s2 : (backTo pos (starEach es X.env)).any (·.1) = false := back_of S fun x hx => h4 x (List.mem_cons_of_mem _ hx)
            cases t with
            | int => cases eb; cases g5; exact qe_bfT call_intA bfk_int g1 g4 (ty_boot S (show tyN .int = some "int" from rfl)) h2 g3 g2 s1 s2
            | str => cases eb; cases g5; exact qe_bfT call_str_int bfk_str g1 g4 (ty_boot S (show tyN .str = some "str" from rfl)) h2 g3 g2 s1 s2
            | tup => cases eb; cases g5; exact qe_bfT call_tuple_of (bfk_tup _ O.K) g1 g4 (ty_boot S (show tyN .tup = some "tuple" from rfl)) h2 g3 g2 s1 s2
            | list => cases eb; cases g5; exact qe_bfT call_list_of (bfk_list _ O.K) g1 g4 (ty_boot S (show tyN .list = some "list" from rfl)) h2 g3 g2 s1 s2
            | _ => cases eb
  · rename_i hg
    obtain ⟨g1, g2, g3, g4, rfl⟩ := glob_of O hg
    split at h
    · exact comIsx_ok O g1 g4 h
    rename_i hns
    clear hns
    split at h
    · rename_i a t tp
      split at h
      · rename_i hs
        split at h
        · rename_i t' hg'
          obtain ⟨w1, w2, w3, w4, n, w5, rfl⟩ := glob_of O hg'
          cases q : rec ct a with
          | none => rw [q] at h; cases h
          | some a' =>
            rw [q] at h; cases h
            exact ⟨qe_isi O.K g1 g4 (S ct a _ q X C W O tk).1 (pe_bltn w1 w4 (ty_boot S w5) (show RelV (.ty n) (.type n) from rfl) w3 w2) (.ty n) (fun ta hta => kit_ty S w5 ta hta) (star_of hs) (star_of rfl), rfl⟩
        · rename_i f np hg'
          obtain ⟨w1, w2, w3, w4, w5, w6⟩ := glob_of O hg'
          cases q : rec ct a with
          | none => rw [q] at h; cases h
          | some a' =>
            rw [q] at h; cases h
            exact ⟨qe_isi O.K g1 g4 (S ct a _ q X C W O tk).1 (pe_glob w1 w4 (show RelV (.ref (C.ca 0)) (.ref (C.ca 0)) from rfl) w2) (.own _) (fun ta hta => kit_cls S w6.1 w6.2.1 ta hta) (star_of hs) (star_of rfl), rfl⟩
        · cases h
      · cases h
    · cases h
  · rename_i f np hg
    obtain ⟨g1, g2, g3, g4, g5, g6, g7, g8⟩ := glob_of O hg
    split at h
    · cases h
    · rename_i hb
      rw [Bool.or_eq_true, not_or, Bool.or_eq_true, not_or] at hb
      obtain ⟨⟨hb1, hb2⟩, hb3⟩ := hb
      have hh : ct.hot = false := by simpa using hb2
      have hnp : es.length = np := by simpa using hb3
      cases q : comL rec ct es with
      | none => rw [q] at h; cases h
      | some l =>
        rw [q] at h; cases h
        obtain ⟨h1, h2, h3, h4⟩ := comL_ok S O tk q
        refine ⟨?_, rfl⟩
        cases es with
        | nil => exact absurd rfl hb1
        | cons e es =>
          have s1 := star_of (es := es) (env := X.env) (h4 e List.mem_cons_self)
          have s2 : (backTo pos (starEach es X.env)).any (·.1) = false := back_of S fun x hx => h4 x (List.mem_cons_of_mem _ hx)
          exact qe_make (by rw [h3, hnp]; exact g8) g5 (O.room hh) g1 g4 h1 g2 s1 s2
  · cases h
theorem comMeth_ok {ct : CT} {X : Cx} {C : Cn} {W : WX} (O : Okc ct X C k) (tk : Takes X W) {o : Expr} {m : Str} {es : List Expr} {apos pos : Pos} {c : CE} (hline : (apos.endLine == pos.line) = true) (h : comMeth rec ct o m es = some c) : PE X (.Call (.Attribute o m apos) es [] pos) (tE C W c) ∧ evT C.Γ c = tst (ev C.Γ c) := by
  unfold comMeth at h
  split at h
  · rename_i hc
    rw [Bool.and_eq_true, decide_eq_true_eq] at hc
    have hb := base_of (m := m) (env := X.env) hc.1
    cases em : mtOf m with
    | none => rw [em] at h; cases h
    | some t =>
      rw [em, Option.bind_some] at h
      cases q : rec ct o with
      | none => rw [q] at h; cases h
      | some o' =>
        rw [q, Option.bind_some] at h
        have po := (S ct o _ q X C W O tk).1
        have nm : (t = .append → m = "append") ∧ (t = .pop → m = "pop") ∧ (t = .insert → m = "insert") ∧ (t = .extend → m = "extend") ∧ (t = .join → m = "join") ∧ t ≠ .repl := by
          unfold mtOf at em
          split at em
          · cases em; refine ⟨?_, ?_, ?_, ?_, ?_, ?_⟩ <;> intro z <;> first | assumption | cases z
          · split at em
            · cases em; refine ⟨?_, ?_, ?_, ?_, ?_, ?_⟩ <;> intro z <;> first | assumption | cases z
            · split at em
              · cases em; refine ⟨?_, ?_, ?_, ?_, ?_, ?_⟩ <;> intro z <;> first | assumption | cases z
              · split at em
                · cases em; refine ⟨?_, ?_, ?_, ?_, ?_, ?_⟩ <;> intro z <;> first | assumption | cases z
                · split at em
                  · cases em; refine ⟨?_, ?_, ?_, ?_, ?_, ?_⟩ <;> intro z <;> first | assumption | cases z
                  · cases em
        have many : ∀ {l : List CE}, comL rec ct es = some l → es ≠ [] → (t = .append ∨ t = .insert ∨ t = .extend) → PE X (.Call (.Attribute o m apos) es [] pos) (tE C W (.mt t o' l)) := fun {l} q2 hne ht => by
          obtain ⟨h1, h2, h3, h4⟩ := comL_ok S O tk q2
          cases es with
          | nil => exact absurd rfl hne
          | cons e es =>
            have hs := star_of (es := es) (env := X.env) (h4 e List.mem_cons_self)
            have s2 : (backTo pos (starEach es X.env)).any (·.1) = false := back_of S fun x hx => h4 x (List.mem_cons_of_mem _ hx)
            have hfew : ((backTo pos (starEach (e :: es) X.env)).all (fun x => !x.1) && (backToKw pos (keywordEach [] X.env)).all (fun x => x.1.isSome)
      && decide ((e :: es).length + ([] : List Keyword).length + (if ([] : List Keyword).isEmpty then 0 else 1) < 30)) = true := by
              rw [backs_of S h4, Bool.true_and, Bool.and_eq_true]
              refine ⟨rfl, decide_eq_true ?_⟩
              have := hc.2
              show (e :: es).length + 0 + 0 < 30
              omega
            rcases ht with rfl | rfl | rfl
            · have := nm.1 rfl; subst this
              exact qe_mt1 O.K PySem.F.slot_list_append PySem.F.type_list_append mt_append mtk_append (fun s => rfl) po h1 hb hfew hline hs s2
            · have := nm.2.2.1 rfl; subst this
              exact qe_mt1 O.K PySem.F.slot_list_insert PySem.F.type_list_insert mt_insert mtk_insert (fun s => rfl) po h1 hb hfew hline hs s2
            · have := nm.2.2.2.1 rfl; subst this
              exact qe_mt1 O.K PySem.F.slot_list_extend PySem.F.type_list_extend mt_ext mtk_extend (fun s => rfl) po h1 hb hfew hline hs s2
        have rest : (t = .append ∨ t = .insert ∨ t = .extend) → es ≠ [] → (comL rec ct es).map (fun l => CE.mt t o' l) = some c → PE X (.Call (.Attribute o m apos) es [] pos) (tE C W c) ∧ evT C.Γ c = tst (ev C.Γ c) := fun ht hne h => by
          cases q2 : comL rec ct es with
          | none => rw [q2] at h; cases h
          | some l =>
            rw [q2] at h; cases h
            exact ⟨many q2 hne ht, rfl⟩
        cases t with
        | pop =>
          cases es with
          | nil =>
            cases h
            have := nm.2.1 rfl; subst this
            exact ⟨qe_pop O.K po hb hline, rfl⟩
          | cons e es => cases h
        | join =>
          cases es with
          | nil => cases h
          | cons e es =>
            cases es with
            | cons e' es => cases h
            | nil =>
              have h : (comL rec ct [e]).map (fun l => CE.mt .join o' l) = some c := h
              cases q2 : comL rec ct [e] with
              | none => rw [q2] at h; cases h
              | some l =>
                rw [q2] at h; cases h
                obtain ⟨h1, h2, h3, h4⟩ := comL_ok S O tk q2
                have := nm.2.2.2.2.1 rfl; subst this
                obtain ⟨c1, rfl⟩ : ∃ c1, l = [c1] := by
                  cases l with
                  | nil => cases h3
                  | cons a l => cases l with | nil => exact ⟨a, rfl⟩ | cons b l => cases h3
                exact ⟨qe_join O.K po h1 (star_of (h4 e List.mem_cons_self)) hb hline, rfl⟩
        | repl => exact absurd rfl nm.2.2.2.2.2
        | append =>
          cases es with
          | nil => cases h
          | cons e es => exact rest (.inl rfl) (List.cons_ne_nil _ _) h
        | insert =>
          cases es with
          | nil => cases h
          | cons e es => exact rest (.inr (.inl rfl)) (List.cons_ne_nil _ _) h
        | extend =>
          cases es with
          | nil => cases h
          | cons e es => exact rest (.inr (.inr rfl)) (List.cons_ne_nil _ _) h
  · cases h
end
end Mi
namespace Mi
open PySem PySem.Spec PyProof.Rows L2
section
variable {k : Nat} {rec : CT → Expr → Option CE} (S : Snd k rec)
include S
/-- the context of a comprehension's block -/
theorem blk_ok {ct : CT} {X : Cx} {C : Cn} (O : Okc ct X C k) (hh : ct.hot = false) (s : Shared) (H : Hp) (scope : Scope) (Cd : Addr) (cl : List (Str × Addr)) (fp : List Addr) (wd : Wd) (lk : Nat → Option V) :
    Okc { ct with sc := relS scope ct.sc } (X.blk s H scope (compEnvC scope cl Cd X.env) fp) { C with wd := wd, lk := lk } k :=
  ⟨O.N, O.nd, by show relS scope X.env.scope = relS scope ct.sc; rw [O.sc], O.n, O.os, O.oc, O.K, O.room, O.un, O.k50, O.calm, O.xa0, O.excs, fun a c z => (nomatch (O.xa0 hh).symm.trans z), O.facts, O.ob, O.mo⟩
theorem w0_takes {X : Cx} : Takes X W0 := fun _ _ x => by
  obtain ⟨_, _, _, _, _, _, _, _, _, _, _, _, _, _, _, _, z⟩ := x
  exact z.elim
theorem comLc_ok {ct : CT} {X : Cx} {C : Cn} {W : WX} (O : Okc ct X C k) (tk : Takes X W) {x : Str} {px pos : Pos} {elt it : Expr} {ifs : List Expr} {scope : Scope} {c : CE} (h : comF rec ct (.ListComp elt [⟨.Name x px, it, ifs, 0⟩] scope pos) = some c) :
    PE X (.ListComp elt [⟨.Name x px, it, ifs, 0⟩] scope pos) (tE C W c) ∧ evT C.Γ c = tst (ev C.Γ c) := by
  replace h : comLC rec ct elt x it ifs scope = some c := h
  unfold comLC at h
  cases q : ixOf x ct.N 0 with
  | none => rw [q] at h; cases h
  | some i =>
    rw [q, Option.bind_some] at h
    split at h
    · rename_i hc
      rw [Bool.and_eq_true, Bool.and_eq_true, Bool.and_eq_true, decide_eq_true_eq, decide_eq_true_eq, Bool.not_eq_true'] at hc
      obtain ⟨⟨⟨h1, h2⟩, h3⟩, hh⟩ := hc
      obtain ⟨n1, n2⟩ := ixOf_0 q
      cases qi : comI rec ct it with
      | none => rw [qi] at h; cases h
      | some kc =>
        obtain ⟨t, ci⟩ := kc
        rw [qi, Option.bind_some] at h
        obtain ⟨pi, ns⟩ := comI_ok S O tk (tg := .Name x px) qi
        have key : ∀ {ct' : CE}, (∀ (s : Shared) (H : Hp) (Cd : Addr) (cl : List (Str × Addr)) (fp : List Addr), PTs (X.blk s H scope (compEnvC scope cl Cd X.env) fp) ifs (tEx C fun C => tT C W0 ct')) →
            (rec { ct with sc := relS scope ct.sc } elt).map (fun e => CE.comp e i ci t ct') = some c → PE X (.ListComp elt [⟨.Name x px, it, ifs, 0⟩] scope pos) (tE C W c) ∧ evT C.Γ c = tst (ev C.Γ c) := fun {ct'} ht h => by
          cases qe : rec { ct with sc := relS scope ct.sc } elt with
          | none => rw [qe] at h; cases h
          | some e' =>
            rw [qe] at h; cases h
            refine ⟨qe_comp (O.calm hh) (by rw [O.N]; exact O.nd) (by rw [O.n]; exact n2) (by rw [O.os]; exact h3) pi (by rw [O.N, O.sc]; exact blkOk_by h1) (fun s H Cd cl fp => ?_) ht (fun s H Cd cl fp wd lk => (S _ elt _ qe _ _ W0 (blk_ok S O hh s H scope Cd cl fp wd lk) (w0_takes S)).1) (set_of ns), rfl⟩
            have o2 := blk_ok S O hh s H scope Cd cl fp C.wd C.lk
            have hl : (X.blk s H scope (compEnvC scope cl Cd X.env) fp).env.scope.names.lookup x = some .local := by rw [o2.sc]; exact h2
            exact pg_name (by rw [o2.N]; exact O.nd) (by rw [o2.N]; exact n1) (.inl hl) (.inr hl)
        split at h
        · exact key (fun s H Cd cl fp => pts_yes) h
        · rename_i tt
          split at h
          · rename_i htk
            cases qt : rec { ct with sc := relS scope ct.sc } tt with
            | none => rw [qt] at h; cases h
            | some t' =>
              rw [qt, Option.bind_some] at h
              exact key (fun s H Cd cl fp => pts_one (pt_ex fun wd lk => (S _ tt _ qt _ _ W0 (blk_ok S O hh s H scope Cd cl fp wd lk) (w0_takes S)).2 htk)) h
          · cases h
        · cases h
    · cases h
theorem comF_ok : Snd k (comF rec) := by
  intro ct e c h X C W O tk
  have plain : ∀ {e : Expr} {c : CE}, PE X e (tE C W c) → evT C.Γ c = tst (ev C.Γ c) → (∀ whole, isTrue e X.env whole = (do let v ← whole; standAt e.pos; holding [v] (truthy v))) → PE X e (tE C W c) ∧ (tOk e = true → PT X e (tT C W c)) := fun h1 h2 h3 => ⟨h1, fun _ => qt_truth O.K h1 h3 h2⟩
  cases e with
  | Constant v n pos =>
    unfold comF at h
    cases v with
    | int i => cases h; exact plain qe_int rfl fun _ => rfl
    | bool i => cases h; exact plain qe_bl rfl fun _ => rfl
    | none => cases h; exact plain qe_non rfl fun _ => rfl
    | str i => cases h; exact plain qe_str rfl fun _ => rfl
    | _ => cases h
  | Name x pos =>
    unfold comF at h
    dsimp only at h
    split at h
    · rename_i i hi
      cases h
      obtain ⟨s1, s2, s3, s4, s5⟩ := slot_of O hi
      exact plain (qe_v s1 s2 s3 s4 s5) rfl fun _ => rfl
    · split at h
      · rename_i d hg
        cases h
        obtain ⟨g1, g2, g3, v, u, g4, g5, g6⟩ := glob_of O hg
        exact plain (qe_glob g1 g4 g5 g6 g2) rfl fun _ => rfl
      · cases h
  | BinOp a o b pos =>
    unfold comF at h
    dsimp only at h
    cases qo : boOf o with
    | none => rw [qo] at h; cases h
    | some o' =>
      cases qa : rec ct a with
      | none => rw [qo, qa] at h; cases h
      | some a' =>
        cases qb : rec ct b with
        | none => rw [qo, qa, qb] at h; cases h
        | some b' =>
          rw [qo, qa, qb] at h; cases h
          have := boOf_py qo
          subst this
          exact plain (qe_bin O.K (S ct a _ qa X C W O tk).1 (S ct b _ qb X C W O tk).1) rfl fun _ => rfl
  | UnaryOp o a pos =>
    unfold comF at h
    cases o with
    | USub =>
      dsimp only at h
      cases qa : rec ct a with
      | none => rw [qa] at h; cases h
      | some a' =>
        rw [qa] at h; cases h
        exact plain (qe_neg (S ct a _ qa X C W O tk).1) rfl fun _ => rfl
    | Not =>
      dsimp only at h
      split at h
      · rename_i ht
        cases qa : rec ct a with
        | none => rw [qa] at h; cases h
        | some a' =>
          rw [qa] at h; cases h
          obtain ⟨p1, p2⟩ := S ct a _ qa X C W O tk
          exact ⟨qe_not p1, fun _ => qt_not (p2 ht)⟩
      · cases h
    | _ => cases h
  | Compare a ops cs pos =>
    unfold comF at h
    dsimp only at h
    split at h
    · rename_i o b
      split at h
      · cases h
      · rename_i hm
        have hm : behindInMarks o b = false := by simpa using hm
        cases qa : rec ct a with
        | none => rw [qa] at h; cases h
        | some a' =>
          cases qb : rec ct b with
          | none => rw [qa, qb] at h; cases h
          | some b' =>
            rw [qa, qb] at h; cases h
            have pa := (S ct a _ qa X C W O tk).1
            have pb : PE X b (tE C W (thC b b')) := by
              have pb := (S ct b _ qb X C W O tk).1
              unfold thC
              split
              · exact qe_th pb
              · exact pb
            have hu : X.A.units + 1 < cLine := by have := O.unit; omega
            have e1 := qe_cmp (o := coOf o) (pos := pos) O.K O.unit pa pb (by rw [coOf_py]; exact hm)
            have e2 := qt_cmp (o := coOf o) (pos := pos) O.K O.unit pa pb (by rw [coOf_py]; exact hm)
            rw [coOf_py] at e1 e2
            unfold cmpC
            split
            · exact ⟨qe_din hu pa pb hm, fun _ => qt_din hu pa pb hm⟩
            · exact ⟨qe_dnin hu pa pb hm, fun _ => qt_dnin hu pa pb hm⟩
            · exact ⟨e1, fun _ => e2⟩
    · rename_i o p b c'
      split at h
      · cases h
      · rename_i hm
        rw [Bool.or_eq_true, Bool.or_eq_true, not_or, not_or] at hm
        obtain ⟨⟨m1, m2⟩, m3⟩ := hm
        have m1 : behindInMarks p c' = false := by simpa using m1
        have l1 := ltle_of (o := o) (by simpa using m2)
        have l2 := ltle_of (o := p) (by simpa using m3)
        cases qa : rec ct a with
        | none => rw [qa] at h; cases h
        | some a' =>
          cases qb : rec ct b with
          | none => rw [qa, Option.bind_some, qb] at h; cases h
          | some b' =>
            cases qc : rec ct c' with
            | none => rw [qa, Option.bind_some, qb, Option.bind_some, qc] at h; cases h
            | some c'' =>
              rw [qa, Option.bind_some, qb, Option.bind_some, qc] at h; cases h
              have pa := (S ct a _ qa X C W O tk).1
              have pb := (S ct b _ qb X C W O tk).1
              have pc := (S ct c' _ qc X C W O tk).1
              have e1 := qe_chn (o := coOf o) (p := coOf p) (pos := pos) O.K O.unit l1 l2 pa pb pc (by rw [coOf_py]; exact m1)
              have e2 := qt_chn (o := coOf o) (p := coOf p) (pos := pos) O.K O.unit l1 l2 pa pb pc (by rw [coOf_py]; exact m1)
              rw [coOf_py, coOf_py] at e1 e2
              exact ⟨e1, fun _ => e2⟩
    · cases h
  | BoolOp op es pos =>
    unfold comF at h
    dsimp only at h
    split at h
    · rename_i a
      split at h
      · rename_i ht
        obtain ⟨p1, p2⟩ := S ct a _ h X C W O tk
        refine ⟨qe_one p1, fun _ => ?_⟩
        cases op with
        | And => exact qt_and1 (p2 ht)
        | Or => exact qt_or1 (p2 ht)
      · cases h
    · rename_i a b r
      split at h
      · rename_i ht
        cases qa : rec ct a with
        | none => rw [qa] at h; cases h
        | some a' =>
          cases qb : rec ct (.BoolOp op (b :: r) pos) with
          | none => rw [qa, Option.bind_some, qb] at h; cases h
          | some b' =>
            rw [qa, Option.bind_some, qb] at h; cases h
            obtain ⟨a1, a2⟩ := S ct a _ qa X C W O tk
            obtain ⟨b1, b2⟩ := S ct _ _ qb X C W O tk
            cases op with
            | And => exact ⟨qe_and a1 b1, fun _ => qt_and (a2 ht) (b2 rfl)⟩
            | Or => exact ⟨qe_or a1 b1, fun _ => qt_or (a2 ht) (b2 rfl)⟩
      · cases h
    · cases h
  | IfExp t a b pos =>
    unfold comF at h
    dsimp only at h
    split at h
    · rename_i ht
      cases qt : rec ct t with
      | none => rw [qt] at h; cases h
      | some t' =>
        cases qa : rec ct a with
        | none => rw [qt, qa] at h; cases h
        | some a' =>
          cases qb : rec ct b with
          | none => rw [qt, qa, qb] at h; cases h
          | some b' =>
            rw [qt, qa, qb] at h; cases h
            exact ⟨qe_ifx ((S ct t _ qt X C W O tk).2 ht) (S ct a _ qa X C W O tk).1 (S ct b _ qb X C W O tk).1, fun z => nomatch z⟩
    · cases h
  | Tuple es n pos =>
    unfold comF at h
    dsimp only at h
    split at h
    · rename_i hz
      cases ql : comL rec ct es with
      | none => rw [ql] at h; cases h
      | some l =>
        rw [ql] at h; cases h
        obtain ⟨h1, h2, h3, h4⟩ := comL_ok S O tk ql
        exact plain (qe_tup h1 (by omega)) rfl fun _ => rfl
    · cases h
  | List es pos =>
    unfold comF at h
    dsimp only at h
    split at h
    · rename_i hz
      cases ql : comL rec ct es with
      | none => rw [ql] at h; cases h
      | some l =>
        rw [ql] at h; cases h
        obtain ⟨h1, h2, h3, h4⟩ := comL_ok S O tk ql
        exact plain (qe_lst h1 (by omega)) rfl fun _ => rfl
    · cases h
  | ListComp elt gs scope pos =>
    have hx : ∃ x px it ifs, gs = [⟨.Name x px, it, ifs, 0⟩] := by
      unfold comF at h
      dsimp only at h
      split at h
      · exact ⟨_, _, _, _, rfl⟩
      · cases h
    obtain ⟨x, px, it, ifs, rfl⟩ := hx
    obtain ⟨h1, h2⟩ := comLc_ok S O tk h
    exact plain h1 h2 fun _ => rfl
  | Subscript a i pos =>
    unfold comF at h
    dsimp only at h
    split at h
    · rename_i lo hi st p2
      split at h
      · cases qa : rec ct a with
        | none => rw [qa] at h; cases h
        | some a' =>
          cases ql : comPart rec ct lo with
          | none => rw [qa, Option.bind_some, ql] at h; cases h
          | some l =>
            cases qh : comPart rec ct hi with
            | none => rw [qa, Option.bind_some, ql, Option.bind_some, qh] at h; cases h
            | some h' =>
              rw [qa, Option.bind_some, ql, Option.bind_some, qh] at h; cases h
              exact plain (qe_sl O.K (S ct a _ qa X C W O tk).1 (comPart_ok S O tk ql) (comPart_ok S O tk qh)) rfl fun _ => rfl
      · split at h
        · cases qa : rec ct a with
          | none => rw [qa] at h; cases h
          | some a' =>
            rw [qa] at h; cases h
            exact plain (qe_rev (S ct a _ qa X C W O tk).1) rfl fun _ => rfl
        · cases h
      · cases h
    · rename_i b hb
      cases qa : rec ct a with
      | none => rw [qa] at h; cases h
      | some a' =>
        cases qb : rec ct i with
        | none => rw [qa, Option.bind_some, qb] at h; cases h
        | some b' =>
          rw [qa, Option.bind_some, qb] at h; cases h
          have hn : noSl i = true := by cases i <;> first | rfl | exact absurd rfl (hb _ _ _ _)
          have hu : X.A.units + 1 < cLine := by have := O.unit; omega
          split
          · exact plain (qe_dix hu (S ct a _ qa X C W O tk).1 (S ct i _ qb X C W O tk).1 (plain_of hn)) rfl fun _ => rfl
          · exact plain (qe_ix O.K (S ct a _ qa X C W O tk).1 (S ct i _ qb X C W O tk).1 (plain_of hn)) rfl fun _ => rfl
  | Dict ks vs pos =>
    unfold comF at h
    dsimp only at h
    split at h
    · cases h
      exact plain qe_dnew rfl fun _ => rfl
    · rename_i x px j jk jp sp y py
      cases qx : ct.slot x with
      | none => rw [qx] at h; cases h
      | some i =>
        cases qy : ct.slot y with
        | none => rw [qx, Option.bind_some, qy] at h; cases h
        | some k' =>
          rw [qx, Option.bind_some, qy] at h; cases h
          obtain ⟨s1, s2, s3, s4, s5⟩ := slot_of O qx
          obtain ⟨t1, t2, t3, t4, t5⟩ := slot_of O qy
          exact plain (qe_dct1 O.K s1 s2 s3 s4 s5 t1 t2 t3 t4 t5) rfl fun _ => rfl
    · cases h
  | Attribute a f pos =>
    have fldC : ∀ {a : Expr} {a' : CE}, noCall0 a = true → rec ct a = some a' → ∀ {c : CE}, (fldIx f (flds 0) 0).map (fun j => CE.fld a' 0 j) = some c → PE X (.Attribute a f pos) (tE C W c) ∧ (tOk (.Attribute a f pos) = true → PT X (.Attribute a f pos) (tT C W c)) := fun {a a'} hb qa {c} h => by
      cases qj : fldIx f (flds 0) 0 with
      | none => rw [qj] at h; cases h
      | some j =>
        rw [qj] at h; cases h
        exact plain (qe_fld O.K (S ct a _ qa X C W O tk).1 (ixOf_0 qj).1 (base_of hb)) rfl fun _ => rfl
    unfold comF at h
    dsimp only at h
    split at h
    · rename_i x p
      split at h
      · rename_i hs
        cases qj : fldIx f (flds ct.oc) 0 with
        | none => rw [qj] at h; cases h
        | some j =>
          rw [qj] at h; cases h
          obtain ⟨s1, s2, s3, s4, s5⟩ := slot_of O hs
          obtain ⟨o1, o2⟩ := O.ob (by rw [← O.n]; exact s1)
          have hf := (ixOf_0 qj).1
          rw [← O.oc] at hf
          have := qe_gh (W := W) (pos := pos) (pos' := p) O.os s1 s2 s3 s4 s5 O.K hf o1 (o2 f (List.mem_of_getElem? hf))
          rw [O.n] at this
          exact plain this rfl fun _ => rfl
      · cases qa : rec ct (.Name x p) with
        | none => rw [qa] at h; cases h
        | some a' =>
          rw [qa, Option.bind_some] at h
          exact fldC rfl qa h
    · split at h
      · rename_i hb
        cases qa : rec ct a with
        | none => rw [qa] at h; cases h
        | some a' =>
          rw [qa, Option.bind_some] at h
          exact fldC hb qa h
      · cases h
  | Call f es kws pos =>
    unfold comF at h
    dsimp only at h
    split at h
    · split at h
      · obtain ⟨h1, h2⟩ := comCall_ok S O tk h
        exact plain h1 h2 fun _ => rfl
      · split at h
        · rename_i hl
          obtain ⟨h1, h2⟩ := comMeth_ok S O tk hl h
          exact plain h1 h2 fun _ => rfl
        · cases h
      · cases h
    · cases h
  | _ => cases h
end
theorem comE_ok {k : Nat} : ∀ n : Nat, Snd k (comE n)
  | 0 => fun ct e c h => nomatch h
  | n + 1 => comF_ok (comE_ok n)
end Mi
namespace Mi
open PySem PySem.Spec PyProof.Rows L2
/-! ### statements -/
theorem meth_eval {o : Expr} {name : Str} {apos pos : Pos} {args : List Expr} {env : PySem.Env} (hbase : attributeBase o name env (eval o env) = eval o env) (hform : methodCallForm (args.length + ([] : List Keyword).length) (backTo pos (starEach args env)) (backToKw pos (keywordEach [] env)) = true) (hline : (apos.endLine == pos.line) = true) :
    eval (.Call (.Attribute o name apos) args [] pos) env = (do
      let ov ← eval o env
      standAt apos.atName
      let (f, first) ← holding [ov] (getMethod ov name (do return (← importBound o env).getD true))
      callWith pos f first (backTo pos (starEach args env)) (backToKw pos (keywordEach [] env))) := by
  rw [arm_eval_Call, hbase]
  have hpos : methodCallPos true o env apos pos = pure pos := by unfold methodCallPos; simp [hline]
  unfold methodCall
  rw [hform, hpos]
  rfl
/-- a comprehension on the line of the name that it is bound to -/
def swB (ct : CT) (x : Str) (px : Pos) (scope : Scope) (pos : Pos) : Bool := decide (ct.sc.kind = .function) && decide (ct.sc.names.lookup x = some .local) && (px.line == pos.line) && !(scope.names.any fun (n, k) => n == x && (k == .local || k == .cell))
section
variable (rec : CT → Stmt → Option CS) (n : Nat) (ct : CT)
def comB : List Stmt → Option (List CS)
  | [] => some []
  | s :: r => (rec ct s).bind fun c => (comB r).map fun l => c :: l
/-- except clauses without names -/
def comHs : List ExceptHandler → Option (List CH)
  | [] => some []
  | .ExceptHandler (some (.Name t _)) none (s0 :: su) _ :: r => (match ct.glob t with
    | some (.exc kc) => (comB rec { ct with hot := true, xs := none } (s0 :: su)).bind fun s => (comHs r).map fun l => .mk [kc] ct.excs none s :: l
    | _ => none)
  | _ :: _ => none
/-- a call of a method of the object that is bound -/
def comMe (e : Expr) : Option CS := match e with
  | .Call (.Attribute (.Name y _) m apos) (e1 :: es) [] pos => if ct.slot y = some ct.os && decide (es.length < 20) && (apos.endLine == pos.line) && decide (ct.os < ct.N.length) && !ct.meth && !ct.hot && decide (ct.oc = 1) && !(flds 1).contains m then (match ct.tab.lookup m with
    | some (.meth f np) => if es.length + 1 = np then (comL (comE n) ct (e1 :: es)).map fun l => .me f l else none
    | _ => none) else none
  | _ => none
/-- a name is bound to an object -/
def comNew (i : Nat) (e : Expr) : Option CS := match e with
  | .Call (.Name c _) (e1 :: es) [] _ => (match ct.glob c with
    | some (.mil f np) => if es.length + 1 = np && decide (ct.oc = 1) then (comL (comE n) ct (e1 :: es)).map fun l => .mk i 1 f l else none
    | some (.fn f np []) => if es.length + 1 = np then (comL (comE n) ct (e1 :: es)).map fun l => .oc i f l else none
    | _ => none)
  | _ => none
/-- a field of the object that a call gives -/
def comRcf (e : Expr) : Option CS := match e with
  | .Attribute (.Call (.Name c _) (e1 :: es) [] _) fl _ => (match ct.tab.lookup ("Mill" : Str) with
    | some (.mil _ _) => (match ct.glob c with
      | some (.fn f np []) => if es.length + 1 = np && decide (ct.oc = 1) && !ct.hot then (fldIx fl (flds 1) 0).bind fun j => (comL (comE n) ct (e1 :: es)).map fun l => .rcf f l j else none
      | _ => none)
    | _ => none)
  | _ => none
def isOs (e : Expr) : Bool := match e with
  | .Name y _ => decide (ct.slot y = some ct.os)
  | _ => false
def comSF : Stmt → Option CS
  | .Assign tgs e pos => (match tgs with
    | [.Name x px] => (ixOf x ct.N 0).bind fun i => if locB ct.sc x && decide (i ≠ ct.os) then (match e with
      | .ListComp elt gs scope p2 => (match gs with
        | [⟨.Name _ _, _, _, 0⟩] => if swB ct x px scope p2 || decide (ct.sc.names.lookup x = some .cell) then (comE n ct e).map fun c => .asg i c else none
        | _ => none)
      | e => if noLc e then (comE n ct e).map fun c => .asg i c else none) else (if locB ct.sc x && decide (i = ct.os) && !ct.meth && !ct.hot then comNew n ct i e else none)
    | [.Attribute (.Name y _) fl _] => if decide (ct.slot y = some ct.os) && ct.meth && decide (ct.os < ct.N.length) && noLc e then (fldIx fl (flds ct.oc) 0).bind fun j => (comE n ct e).map fun c => .asg (ct.N.length + j) c else none
    | [.Subscript o i _] => if noLc e && noSl i then (comE n ct e).bind fun c => (comE n ct o).bind fun o' => (comE n ct i).map fun i => if dkS o then .dsub o' i c else .sub o' i c else none
    | _ => none)
  | .Expr e _ => (match comMe n ct e with
    | some c => some c
    | none => if noLc e then (comE n ct e).map .exp else none)
  | .Return e _ => (match e with
    | some e => if isOs ct e then some .reto else (match comE n ct e with
      | some c => some (.ret c)
      | none => comRcf n ct e)
    | none => some .retN)
  | .If t a b _ => if tOk t then (comE n ct t).bind fun t => (comB rec ct a).bind fun a => (comB rec ct b).map fun b => .ite t a b else none
  | .While t b e _ => (match e with
    | [] => if tOk t then (comE n ct t).bind fun t => (comB rec ct b).map fun b => .whl t b else none
    | _ => none)
  | .For tg it b e _ => (match tg, e with
    | .Name x _, [] => (ixOf x ct.N 0).bind fun i => if locB ct.sc x && decide (i ≠ ct.os) && !ct.hot then (comI (comE n) ct it).bind fun k => (comB rec ct b).map fun b => .for i k.1 k.2 b else none
    | .Tuple [.Name x _, .Name y _] _ _, [] => (ixOf x ct.N 0).bind fun i => (ixOf y ct.N 0).bind fun j => if locB ct.sc x && decide (i ≠ ct.os) && !ct.hot && locB ct.sc y && decide (j ≠ ct.os) then (match it with
      | .Call (.Name z _) [d, e] [] _ => (match ct.glob z with
        | some .zip => (comL (comE n) ct [d, e]).bind fun l => (match l with
          | [cd, ce] => (comB rec ct b).map fun b => .forz i j cd ce b
          | _ => none)
        | _ => none)
      | _ => none) else none
    | _, _ => none)
  | .Break _ => some .brk
  | .Continue _ => some .cnt
  | .Raise e c _ => (match e, c with
    | some (.Call (.Name x _) [.Constant (.str _) _ _] [] _), none => (match ct.glob x with
      | some (.exc c) => if ct.hot then none else some (.rse c)
      | _ => none)
    | _, _ => none)
  | .Try b hs [] [] _ => if ct.hot then none else (match hs with
    | [.ExceptHandler (some (.Name t _)) (some x) (s0 :: su) _] => (ixOf x ct.N 0).bind fun i => if decide (ct.sc.names.lookup x = some .local) && decide (i ≠ ct.os) then (match ct.glob t with
        | some (.exc kc) => (comB rec ct b).bind fun b => (comB rec { ct with hot := true, xs := some i } (s0 :: su)).map fun s => .tr b [.mk [kc] ct.excs (some i) s]
        | _ => none) else none
    | h0 :: hr => (comB rec ct b).bind fun b => (comHs rec ct (h0 :: hr)).map fun l => .tr b l
    | [] => none)
  | _ => none
end
def comS : Nat → Nat → CT → Stmt → Option CS
  | 0, _, _, _ => none
  | m + 1, n, ct, s => comSF (comS m n) n ct s
structure Oks (ct : CT) (X : Cx) (C : Cn) (k : Nat) (W : WX) (lks : List Nat) : Prop where
  o : Okc ct X C k
  tk : Takes X W
  ps : PassesOwn (model X.prog X.w) X.A X.env X.xe
  LK : ∀ i, i ∉ lks → C.lk i = none
  fn : ∀ x, X.fn x = true
  stk : X.stack = X.env :: X.outer
  fr : X.env.frame = some X.env.locals
  knd : X.env.scope.kind = .function
def SndS (k : Nat) (rec : CT → Stmt → Option CS) : Prop := ∀ (ct : CT) (st : Stmt) (c : CS), rec ct st = some c → ∀ (X : Cx) (C : Cn) (W : WX) (lks : List Nat), Oks ct X C k W lks → PS X st (tS C W lks c)
/-- back from a binding's reading -/
theorem toW_rd {C : Cn} {W : WX} {c : CE} {σ : L2.St} {H : Hp} {Q : VK} (h : tW C W c σ H Q) : tE C W c σ H Q := by
  obtain ⟨ob, F, s, r, R0, er, p⟩ := h
  refine step R0 er p fun o s1 u F1 H1 e1 R1 m1 q1 e2 p1 => ?_
  cases o with
  | fr c =>
    have e2 : some (R.ok c s1) = some r := e2
    cases e2
    exact p1 u F1 H1 R1 (fun _ _ z => z) q1
  | pt i =>
    have e2 : ((gt s1 i).fz.map fun d => R.ok (.val d) (s1.set i (.val d))) = some r := e2
    cases ec : (gt s1 i).fz with
    | none => rw [ec] at e2; cases e2
    | some d =>
      rw [ec] at e2; cases e2
      obtain ⟨F2, R2, m2, q2⟩ := R1.freeze q1.2 ec q1.1
      exact p1 u F2 H1 R2 m2 ⟨⟨u, rfl, q2⟩, rfl, fun z => nomatch z⟩
theorem noLc_sw {e : Expr} {env : PySem.Env} {t : Option Expr} {l : Nat} (h : noLc e = true) : swapsWith e t l env = pure false := by
  cases e <;> first | rfl | cases h
theorem sw_cell {elt : Expr} {gs : List Comprehension} {scope : Scope} {pos py : Pos} {y : Str} {l : Nat} {env : PySem.Env} (hy : env.scope.names.lookup y = some .cell) : swapsWith (.ListComp elt gs scope pos) (some (.Name y py)) l env = pure false := by
  have ky : env.kindOf y = some .cell := hy
  have e : (NameKind.cell == NameKind.local) = false := by decide
  have e2 : ((some NameKind.cell : Option NameKind) == some NameKind.local) = false := by decide
  unfold swapsWith
  simp only [ky, e2, Bool.and_false, Bool.false_and]
theorem noLc_sole {e : Expr} {env : PySem.Env} {t : Expr} {l : Nat} (h : noLc e = true) : swapsWithSole [t] e l env = pure false := noLc_sw h
/-- the comprehension's step, of a binding -/
theorem qs_asgLc {X : Cx} {C : Cn} {W : WX} {lks : List Nat} {k : Nat} {ct : CT} (O : Oks ct X C k W lks) {n i : Nat} {y x : Str} {py px p2 pos : Pos} {elt it : Expr} {ifs : List Expr} {scope : Scope} {c : CE} (hi : ixOf y ct.N 0 = some i) (hos : i ≠ ct.os)
    (hsw : swB ct y py scope p2 = true) (h : comE n ct (.ListComp elt [⟨.Name x px, it, ifs, 0⟩] scope p2) = some c) : PS X (.Assign [.Name y py] (.ListComp elt [⟨.Name x px, it, ifs, 0⟩] scope p2) pos) (tS C W lks (.asg i c)) := by
  cases n with
  | zero => cases h
  | succ n =>
    have S : Snd k (comE n) := comE_ok n
    replace h : comLC (comE n) ct elt x it ifs scope = some c := h
    unfold swB at hsw
    simp only [Bool.and_eq_true, decide_eq_true_eq, Bool.not_eq_true'] at hsw
    obtain ⟨⟨⟨w1, w2⟩, w3⟩, w4⟩ := hsw
    obtain ⟨y1, y2⟩ := ixOf_0 hi
    have hyl : X.env.scope.names.lookup y = some .local := by rw [O.o.sc]; exact w2
    unfold comLC at h
    cases q : ixOf x ct.N 0 with
    | none => rw [q] at h; cases h
    | some j =>
      rw [q, Option.bind_some] at h
      split at h
      · rename_i hc
        rw [Bool.and_eq_true, Bool.and_eq_true, Bool.and_eq_true, decide_eq_true_eq, decide_eq_true_eq, Bool.not_eq_true'] at hc
        obtain ⟨⟨⟨h1, h2⟩, h3⟩, hh⟩ := hc
        obtain ⟨n1, n2⟩ := ixOf_0 q
        cases qi : comI (comE n) ct it with
        | none => rw [qi] at h; cases h
        | some kc =>
          obtain ⟨t, ci⟩ := kc
          rw [qi, Option.bind_some] at h
          obtain ⟨pi, ns⟩ := comI_ok S O.o O.tk (tg := .Name x px) qi
          have key : ∀ {ct' : CE}, (∀ (s : Shared) (H : Hp) (Cd : Addr) (cl : List (Str × Addr)) (fp : List Addr), PTs (X.blk s H scope (compEnvC scope cl Cd X.env) fp) ifs (tEx C fun C => tT C W0 ct')) →
              (comE n { ct with sc := relS scope ct.sc } elt).map (fun e => CE.comp e j ci t ct') = some c → PS X (.Assign [.Name y py] (.ListComp elt [⟨.Name x px, it, ifs, 0⟩] scope p2) pos) (tS C W lks (.asg i c)) := fun {ct'} ht h => by
            cases qe : comE n { ct with sc := relS scope ct.sc } elt with
            | none => rw [qe] at h; cases h
            | some e' =>
              rw [qe] at h; cases h
              have o2 := fun s H Cd cl fp => blk_ok S O.o hh s H scope Cd cl fp
              refine ps_imp (ps_setLc (own := [(x, j)]) (g := gName j) (tt := tEx C fun C => tT C W0 ct') (te := tEx C fun C => tV C W0 e') (O.o.calm hh) (by rw [O.o.N]; exact O.o.nd) (by rw [O.o.N]; exact y1) hyl
                (sw_true (by rw [O.o.sc]; exact w1) hyl w3 w4) pi (by rw [O.o.N, O.o.sc]; exact blkOk_by h1) (fun s H Cd cl fp => ?_) ht (fun s H Cd cl fp => pe_ex fun wd lk => toV_of (S _ elt _ qe _ _ W0 (blk_ok S O.o hh s H scope Cd cl fp wd lk) (w0_takes S)).1) (set_of ns)) fun D σ H ⟨ob, F, s, o, R, e, p⟩ => ?_
              · have o2 := blk_ok S O.o hh s H scope Cd cl fp C.wd C.lk
                have hl : (X.blk s H scope (compEnvC scope cl Cd X.env) fp).env.scope.names.lookup x = some .local := by rw [o2.sc]; exact h2
                exact pg_name (by rw [o2.N]; exact O.o.nd) (by rw [o2.N]; exact n1) (.inl hl) (.inr hl)
              · have e : (outR (toW (ev C.Γ (.comp e' j ci t ct') s)) fun c s => if i < C.n then (if i ∈ lks then none else some (.nx (s.set i c))) else (if i - C.n ≤ (ghosts C.n s).length ∧ i < s.length then some (.nx (s.set i c)) else none)) = some o := by
                  rw [← e]; show _ = exec C.Γ C.n lks C.oc (.asg i (.comp e' j ci t ct')) s; rw [exec]
                refine lc_run (by rw [O.o.n]; exact n2) (by rw [O.o.os]; exact h3) (toW_rd ?_)
                refine stepS R e p fun d s1 u F1 H1 e1 R1 m1 q1 e2 p1 => ?_
                rw [if_pos (by rw [O.o.n]; exact y2)] at e2
                split at e2
                · cases e2
                · rename_i hl
                  cases e2
                  exact p1 ob F1 H1 _ (R1.setf (by rw [O.o.n]; exact y2) (by rw [O.o.os]; exact hos) (O.LK i hl) q1) (same_refl F1)
          split at h
          · exact key (fun s H Cd cl fp => pts_yes) h
          · rename_i tt
            split at h
            · rename_i htk
              cases qt : comE n { ct with sc := relS scope ct.sc } tt with
              | none => rw [qt] at h; cases h
              | some t' =>
                rw [qt, Option.bind_some] at h
                exact key (fun s H Cd cl fp => pts_one (pt_ex fun wd lk => (S _ tt _ qt _ _ W0 (blk_ok S O.o hh s H scope Cd cl fp wd lk) (w0_takes S)).2 htk)) h
            · cases h
          · cases h
      · cases h
section
variable {k : Nat} {rec : CT → Stmt → Option CS} (S : SndS k rec)
include S
theorem comB_ok {ct : CT} {X : Cx} {C : Cn} {W : WX} {lks : List Nat} (O : Oks ct X C k W lks) : ∀ {ss : List Stmt} {cs : List CS}, comB rec ct ss = some cs → PSs X ss (tSs C W lks cs)
  | [], cs, h => by cases h; exact qs_nil
  | s :: r, cs, h => by
    unfold comB at h
    cases q : rec ct s with
    | none => rw [q] at h; cases h
    | some c =>
      rw [q, Option.bind_some] at h
      cases q2 : comB rec ct r with
      | none => rw [q2] at h; cases h
      | some l =>
        rw [q2] at h; cases h
        exact qs_cons (S ct s c q X C W lks O) (comB_ok O q2)
omit S in
theorem Oks.tr_ {ct : CT} {X : Cx} {C : Cn} {W W' : WX} {lks : List Nat} (O : Oks ct X C k W lks) (hh : ct.hot = false) {pn : List (Addr × Obj)} {xe : Value → Shared → Prop} (tk : Takes (X.tr pn xe) W') (ps : PassesOwn (model X.prog X.w) X.A X.env xe) : Oks ct (X.tr pn xe) C k W' lks :=
  ⟨⟨O.o.N, O.o.nd, O.o.sc, O.o.n, O.o.os, O.o.oc, O.o.K, O.o.room, O.o.un, O.o.k50, O.o.calm, O.o.xa0, O.o.excs, fun a c z => (nomatch (O.o.xa0 hh).symm.trans z), O.o.facts, O.o.ob, O.o.mo⟩, tk, ps, O.LK, O.fn, O.stk, O.fr, O.knd⟩
omit S in
theorem Oks.in_ {ct : CT} {X : Cx} {C : Cn} {W : WX} {lks : List Nat} (O : Oks ct X C k W lks) {a : Addr} {oe : Obj} {c i : Nat} {pn : List (Addr × Obj)} (hc : c ∈ ct.excs) (hz : Zc (.ref (C.cv c)) none oe) (hf : ∃ vs, oe.data = .fields vs) : Oks { ct with hot := true, xs := some i } (X.suite a ((a, oe) :: pn)) (C.held a c) k W0 lks :=
  ⟨⟨O.o.N, O.o.nd, O.o.sc, O.o.n, O.o.os, O.o.oc, O.o.K, fun z => (nomatch z), O.o.un, O.o.k50, fun z => (nomatch z), fun z => (nomatch z), O.o.excs, fun a' c' z _ => by
    have z : some (a, c) = some (a', c') := z
    cases z
    exact isE_of (by rw [O.o.K]; exact (O.o.excs c hc).1) hz hf, O.o.facts, O.o.ob, O.o.mo⟩, fun _ _ x => by
      obtain ⟨_, _, _, _, _, _, _, _, _, _, _, _, _, _, _, _, z⟩ := x
      exact z.elim, PassesOwn.never, O.LK, O.fn, O.stk, O.fr, O.knd⟩
omit S in
theorem Oks.in0 {ct : CT} {X : Cx} {C : Cn} {W : WX} {lks : List Nat} (O : Oks ct X C k W lks) (hh : ct.hot = false) {a : Addr} {oe : Obj} {pn : List (Addr × Obj)} : Oks { ct with hot := true, xs := none } (X.suite a ((a, oe) :: pn)) C k W0 lks :=
  ⟨⟨O.o.N, O.o.nd, O.o.sc, O.o.n, O.o.os, O.o.oc, O.o.K, fun z => (nomatch z), O.o.un, O.o.k50, fun z => (nomatch z), fun z => (nomatch z), O.o.excs, fun a' c' z _ => (nomatch (O.o.xa0 hh).symm.trans z), O.o.facts, O.o.ob, O.o.mo⟩, fun _ _ x => by
      obtain ⟨_, _, _, _, _, _, _, _, _, _, _, _, _, _, _, _, z⟩ := x
      exact z.elim, PassesOwn.never, O.LK, O.fn, O.stk, O.fr, O.knd⟩
/-- a clause that gives the exception a name -/
theorem try1_ok {ct : CT} {X : Cx} {C : Cn} {W : WX} {lks : List Nat} (O : Oks ct X C k W lks) (hh : ct.hot = false) {b su : List Stmt} {s0 : Stmt} {t x : Str} {np pos' pos : Pos} {i kc : Nat} {b' s' : List CS} (hi : ixOf x ct.N 0 = some i) (hl : ct.sc.names.lookup x = some .local) (hos : i ≠ ct.os) (hg : ct.glob t = some (.exc kc))
    (qb : comB rec ct b = some b') (qs : comB rec { ct with hot := true, xs := some i } (s0 :: su) = some s') : PS X (.Try b [.ExceptHandler (some (.Name t np)) (some x) (s0 :: su) pos'] [] [] pos) (tS C W lks (.tr b' [.mk [kc] ct.excs (some i) s'])) := by
  obtain ⟨g1, g2, g3, f1, f2⟩ := glob_of O.o hg
  obtain ⟨n1, n2⟩ := ixOf_0 hi
  have hx0 := O.o.xa0 hh
  have hin : i < C.n := by rw [O.o.n]; exact n2
  have hos' : i ≠ C.os := by rw [O.o.os]; exact hos
  refine ps_imp (ps_try_as (i := i) (tb := fun W' => tSs C W' lks b') (ts := fun a cls d D σ H => ∃ c, cls = .ref (C.cv c) ∧ d = none ∧ c ∈ ct.excs ∧ tSs (C.held a c) W0 lks s' D σ H) (Wout := W) O.stk O.fr (by rw [O.o.N]; exact O.o.nd) (by rw [O.o.N]; exact n1)
    (by show X.env.scope.names.lookup x = _; rw [O.o.sc]; exact hl) ⟨g1, g2, .inl f1⟩ O.tk (fun W' pn xe tk hp => comB_ok S (O.tr_ hh tk hp) qb) (fun a oe cls d pn hz hf => ⟨fun pins s σ H D I h => ?_⟩)) fun D σ H ⟨ob, F, s, o, R, e, p⟩ => ?_
  · obtain ⟨c, rfl, rfl, hc, q⟩ := h
    exact (comB_ok S (O.in_ (i := i) hc hz hf) qs).run pins s σ H D I q
  · have e : (match execs C.Γ C.n lks C.oc b' s with
      | some (.ex c s1) => handle C.Γ C.n lks C.oc c [.mk [kc] ct.excs (some i) s'] s1
      | o => o) = some o := by rw [← e]; show _ = exec C.Γ C.n lks C.oc (.tr b' [.mk [kc] ct.excs (some i) s']) s; rw [exec] <;> rfl
    cases e1 : execs C.Γ C.n lks C.oc b' s with
    | none => rw [e1] at e; cases e
    | some o1 =>
      rw [e1] at e
      refine ⟨ob, F, s, o1, R, e1, ?_⟩
      cases o1 with
      | nx s1 => cases e; exact p
      | bk s1 => cases e; exact p
      | ct s1 => cases e; exact p
      | rt a s1 => cases e; exact p
      | ex c s1 =>
        intro ob' F' H' σ' R' m'
        have e : (if ct.excs.contains c then (if takesC c [kc] then (if i < C.n ∧ i ∉ lks then wipeO i (execs C.Γ C.n lks C.oc s' (s1.set i (.exn c))) else none) else handle C.Γ C.n lks C.oc c [] s1) else none) = some o := by rw [← e]; show _ = handle C.Γ C.n lks C.oc c [.mk [kc] ct.excs (some i) s'] s1; rw [handle] <;> rfl
        split at e
        · rename_i hc
          have hc : c ∈ ct.excs := List.contains_iff_mem.mp hc
          refine ⟨takesC c [kc], by rw [O.o.K]; exact ((O.o.excs c hc).2.2 kc (mem_exc hg)).1, fun ht a ha => ?_, fun ht => ?_⟩
          · rw [if_pos ht] at e
            split at e
            · rename_i hil
              have hlk := O.LK i hil.2
              cases e2 : execs C.Γ C.n lks C.oc s' (s1.set i (.exn c)) with
              | none => rw [e2] at e; cases e
              | some o2 =>
                rw [e2] at e
                refine ⟨c, rfl, rfl, hc, ob', F', _, o2, R'.catch_ hx0 hin hos' hlk a c, e2, ?_⟩
                cases o2 with
                | nx s2 =>
                  have e : (if noX (s2.set i .un) then some (Out.nx (s2.set i .un)) else none) = some o := e
                  split at e
                  · rename_i hn; cases e
                    exact fun ob2 F2 H2 σ2 R2 m2 => p ob2 F2 H2 _ (R2.wipe hin hos' hlk hn) (m'.trans m2)
                  · cases e
                | bk s2 =>
                  have e : (if noX (s2.set i .un) then some (Out.bk (s2.set i .un)) else none) = some o := e
                  split at e
                  · rename_i hn; cases e
                    exact fun ob2 F2 H2 σ2 R2 m2 => p ob2 F2 H2 _ (R2.wipe hin hos' hlk hn) (m'.trans m2)
                  · cases e
                | ct s2 =>
                  have e : (if noX (s2.set i .un) then some (Out.ct (s2.set i .un)) else none) = some o := e
                  split at e
                  · rename_i hn; cases e
                    exact fun ob2 F2 H2 σ2 R2 m2 => p ob2 F2 H2 _ (R2.wipe hin hos' hlk hn) (m'.trans m2)
                  · cases e
                | rt ag s2 =>
                  cases ag with
                  | obj c2 xs => cases e
                  | cl c2 =>
                    have e : (if noX (s2.set i .un) then some (Out.rt (.cl c2) (s2.set i .un)) else none) = some o := e
                    split at e
                    · rename_i hn; cases e
                      exact fun ob2 F2 H2 σ2 u R2 m2 hr => p ob2 F2 H2 _ u (R2.wipe hin hos' hlk hn) (m'.trans m2) (RF.wipe hr)
                    · cases e
                | ex c2 s2 => cases e
            · cases e
          · rw [if_neg (by rw [ht]; exact Bool.false_ne_true)] at e
            have e : some (Out.ex c s1) = some o := e
            cases e
            exact p ob' F' H' σ' R' m'
        · cases e
/-- what the clauses without names mean -/
def hdL (C : Cn) (lks : List Nat) : List CH → List (Value × (Addr → Value → Option Addr → TS))
  | [] => []
  | .mk cs _ _ b :: r => (.ref (C.cv (cs.headD 0)), fun _ _ _ => tSs C W0 lks b) :: hdL C lks r
theorem hds_ok {ct : CT} {X : Cx} {C : Cn} {W : WX} {lks : List Nat} (O : Oks ct X C k W lks) (hh : ct.hot = false) : ∀ {hs : List ExceptHandler} {l : List CH}, comHs rec ct hs = some l → HdsOk X hs (hdL C lks l) ∧ ∀ (F H : Hp) (σ : L2.St) (s : Mi.S) (ob : Option OB) (c : Nat) (o : Out) (D : Ends), SR C ob F H σ s → handle C.Γ C.n lks C.oc c l s = some o → PostS C W F D o → wMany X.K W D (hdL C lks l) (.ref (C.cv c)) none σ H
  | [], l, h => by
    cases h
    refine ⟨.nil, fun F H σ s ob c o D R e p => ?_⟩
    have e : some (Out.ex c s) = some o := e
    cases e
    exact p ob F H σ R (same_refl F)
  | h0 :: hr, l, h => by
    unfold comHs at h
    split at h
    · rename_i q; cases q
    · rename_i t np s0 su pos' r hcons
      cases hcons
      split at h
      · rename_i kc hg
        cases q : comB rec { ct with hot := true, xs := none } (s0 :: su) with
        | none => rw [q] at h; cases h
        | some s' =>
          rw [q, Option.bind_some] at h
          cases q2 : comHs rec ct hr with
          | none => rw [q2] at h; cases h
          | some l2 =>
            rw [q2] at h; cases h
            obtain ⟨g1, g2, g3, f1, f2⟩ := glob_of O.o hg
            obtain ⟨i1, i2⟩ := hds_ok O hh q2
            refine ⟨.cons ⟨g1, g2, .inl f1⟩ (fun a oe cls d pn hz hf => comB_ok S (O.in0 hh) q) i1, fun F H σ s ob c o D R e p => ?_⟩
            have e : (if ct.excs.contains c then (if takesC c [kc] then noEx (execs C.Γ C.n lks C.oc s' s) else handle C.Γ C.n lks C.oc c l2 s) else none) = some o := by rw [← e]; show _ = handle C.Γ C.n lks C.oc c (.mk [kc] ct.excs none s' :: l2) s; rw [handle] <;> rfl
            split at e
            · rename_i hc
              have hc : c ∈ ct.excs := List.contains_iff_mem.mp hc
              refine ⟨takesC c [kc], by rw [O.o.K]; exact ((O.o.excs c hc).2.2 kc (mem_exc hg)).1, fun ht a ha => ?_, fun ht => ?_⟩
              · rw [if_pos ht] at e
                cases e2 : execs C.Γ C.n lks C.oc s' s with
                | none => rw [e2] at e; cases e
                | some o2 =>
                  rw [e2] at e
                  refine ⟨ob, F, s, o2, R, e2, ?_⟩
                  cases o2 with
                  | ex c2 s2 => cases e
                  | nx s2 => cases e; exact p
                  | bk s2 => cases e; exact p
                  | ct s2 => cases e; exact p
                  | rt a2 s2 => cases e; exact p
              · rw [if_neg (by rw [ht]; exact Bool.false_ne_true)] at e
                exact i2 F H σ s ob c o D R e p
            · cases e
      · cases h
    · cases h
theorem trym_ok {ct : CT} {X : Cx} {C : Cn} {W : WX} {lks : List Nat} (O : Oks ct X C k W lks) (hh : ct.hot = false) {b : List Stmt} {h0 : ExceptHandler} {hr : List ExceptHandler} {pos : Pos} {b' : List CS} {l : List CH} (qb : comB rec ct b = some b') (ql : comHs rec ct (h0 :: hr) = some l) : PS X (.Try b (h0 :: hr) [] [] pos) (tS C W lks (.tr b' l)) := by
  obtain ⟨h1, h2⟩ := hds_ok S O hh ql
  refine ps_imp (ps_try_many (tb := fun W' => tSs C W' lks b') (Wout := W) O.stk O.fr O.tk (fun W' pn xe tk hp => comB_ok S (O.tr_ hh tk hp) qb) h1) fun D σ H ⟨ob, F, s, o, R, e, p⟩ => ?_
  have e : (match execs C.Γ C.n lks C.oc b' s with
    | some (.ex c s1) => handle C.Γ C.n lks C.oc c l s1
    | o => o) = some o := by rw [← e]; show _ = exec C.Γ C.n lks C.oc (.tr b' l) s; rw [exec] <;> rfl
  cases e1 : execs C.Γ C.n lks C.oc b' s with
  | none => rw [e1] at e; cases e
  | some o1 =>
    rw [e1] at e
    refine ⟨ob, F, s, o1, R, e1, ?_⟩
    cases o1 with
    | nx s1 => cases e; exact p
    | bk s1 => cases e; exact p
    | ct s1 => cases e; exact p
    | rt a s1 => cases e; exact p
    | ex c s1 => exact fun ob' F' H' σ' R' m' => h2 F' H' σ' s1 ob' c o D R' e (p.mono m')
omit S in
theorem comNew_ok {n : Nat} {ct : CT} {X : Cx} {C : Cn} {W : WX} {lks : List Nat} (O : Oks ct X C k W lks) (hh : ct.hot = false) {x : Str} {px pos : Pos} {i : Nat} {e : Expr} {c : CS} (hi : ixOf x ct.N 0 = some i) (hos : i = ct.os) (hl : locB ct.sc x = true) (h : comNew n ct i e = some c) : PS X (.Assign [.Name x px] e pos) (tS C W lks c) := by
  have E : Snd k (comE n) := comE_ok n
  obtain ⟨n1, n2⟩ := ixOf_0 hi
  unfold comNew at h
  split at h
  · rename_i cn p1 e1 es p2
    split at h
    · rename_i f np hg
      split at h
      · rename_i hc
        rw [Bool.and_eq_true, decide_eq_true_eq, decide_eq_true_eq] at hc
        obtain ⟨g1, g2, g3, m1, m2, m3, m4⟩ := glob_of O.o hg
        cases q : comL (comE n) ct (e1 :: es) with
        | none => rw [q] at h; cases h
        | some l =>
          rw [q] at h; cases h
          obtain ⟨h1, h2, h3, h4⟩ := comL_ok E O.o O.tk q
          exact qs_mk (by rw [h3, List.length_cons, hc.1]; exact m4) (by rw [O.o.oc]; exact hc.2.symm) (O.o.room hh) g1 m1 h1 g2 (star_of (h4 _ List.mem_cons_self)) (back_of E fun x hx => h4 x (List.mem_cons_of_mem _ hx)) (by rw [O.o.N]; exact O.o.nd) (by rw [O.o.N]; exact n1) (by rw [O.o.os]; exact hos) O.LK (by rw [O.o.sc]; exact loc_of hl) (.inl (O.fn x))
      · cases h
    · rename_i f np hg
      split at h
      · rename_i hc
        obtain ⟨g1, g2, g3, g4⟩ := glob_of O.o hg
        cases q : comL (comE n) ct (e1 :: es) with
        | none => rw [q] at h; cases h
        | some l =>
          rw [q] at h; cases h
          obtain ⟨h1, h2, h3, h4⟩ := comL_ok E O.o O.tk q
          have g4 : FnF X C k f cn l.length := by rw [h3, List.length_cons, hc]; exact g4
          exact qs_oc g4 ((O.o.room hh).mono (Nat.le_succ _)) g1 O.tk h1 g2 (star_of (h4 _ List.mem_cons_self)) (back_of E fun x hx => h4 x (List.mem_cons_of_mem _ hx)) (by rw [O.o.N]; exact O.o.nd) (by rw [O.o.N]; exact n1) (by rw [O.o.os]; exact hos) O.LK (by rw [O.o.sc]; exact loc_of hl) (.inl (O.fn x))
      · cases h
    · cases h
  · cases h
omit S in
theorem comMe_ok {n : Nat} {ct : CT} {X : Cx} {C : Cn} {W : WX} {lks : List Nat} (O : Oks ct X C k W lks) {pos : Pos} {e : Expr} {c : CS} (h : comMe n ct e = some c) : PS X (.Expr e pos) (tS C W lks c) := by
  have E : Snd k (comE n) := comE_ok n
  unfold comMe at h
  split at h
  · rename_i y py m apos e1 es p2
    split at h
    · rename_i hc
      simp only [Bool.and_eq_true, decide_eq_true_eq, Bool.not_eq_true'] at hc
      obtain ⟨⟨⟨⟨⟨⟨⟨c1, c7⟩, c8⟩, c2⟩, c3⟩, c4⟩, c5⟩, c6⟩ := hc
      split at h
      · rename_i f np ht
        split at h
        · rename_i hn
          have M : MeF X C k 1 m f np := O.o.facts m _ ht
          cases q : comL (comE n) ct (e1 :: es) with
          | none => rw [q] at h; cases h
          | some l =>
            rw [q] at h; cases h
            obtain ⟨h1, h2, h3, h4⟩ := comL_ok E O.o O.tk q
            obtain ⟨s1, s2, s3, s4, s5⟩ := slot_of O.o c1
            have oc1 : C.oc = 1 := by rw [O.o.oc]; exact c5
            have M : MeF X C k C.oc m f l.length := by rw [oc1, h3, List.length_cons, hn]; exact M
            obtain ⟨cl, na⟩ := O.o.ob c2
            exact qs_me M (by rw [O.o.mo]; exact c3) (by rw [O.o.os]) s2 s3 s4 s5 (by rw [O.o.os]; exact s1) cl (by
              rw [oc1]
              intro z
              rw [List.contains_iff_mem.mpr z] at c6; cases c6) O.o.K ((O.o.room c4).mono (Nat.le_succ _)) O.tk h1 (star_of (h4 _ List.mem_cons_self)) (back_of E fun x hx => h4 x (List.mem_cons_of_mem _ hx)) (meth_eval rfl (by
              unfold methodCallForm
              rw [backs_of E h4, Bool.true_and, Bool.and_eq_true]
              refine ⟨rfl, decide_eq_true ?_⟩
              show (e1 :: es).length + 0 + 0 < 30
              rw [List.length_cons]; omega) c8)
        · cases h
      · cases h
    · cases h
  · cases h
omit S in
theorem comRcf_ok {n : Nat} {ct : CT} {X : Cx} {C : Cn} {W : WX} {lks : List Nat} (O : Oks ct X C k W lks) {pos : Pos} {e : Expr} {c : CS} (h : comRcf n ct e = some c) : PS X (.Return (some e) pos) (tS C W lks c) := by
  have E : Snd k (comE n) := comE_ok n
  unfold comRcf at h
  split at h
  · rename_i cn p1 e1 es p2 fl p3
    split at h
    · rename_i f' np' hm
      split at h
      · rename_i f np hg
        split at h
        · rename_i hc
          simp only [Bool.and_eq_true, decide_eq_true_eq, Bool.not_eq_true'] at hc
          obtain ⟨⟨c1, c2⟩, c3⟩ := hc
          obtain ⟨m1, m2, m3, m4⟩ := O.o.facts _ _ hm
          obtain ⟨g1, g2, g3, g4⟩ := glob_of O.o hg
          cases qj : fldIx fl (flds 1) 0 with
          | none => rw [qj] at h; cases h
          | some j =>
            rw [qj, Option.bind_some] at h
            cases q : comL (comE n) ct (e1 :: es) with
            | none => rw [q] at h; cases h
            | some l =>
              rw [q] at h; cases h
              obtain ⟨h1, h2, h3, h4⟩ := comL_ok E O.o O.tk q
              have oc1 : C.oc = 1 := by rw [O.o.oc]; exact c2
              have g4 : FnF X C k f cn l.length := by rw [h3, List.length_cons, c1]; exact g4
              have hf := (ixOf_0 qj).1
              exact qs_rcf g4 ((O.o.room c3).mono (Nat.le_succ _)) g1 O.tk h1 g2 (star_of (h4 _ List.mem_cons_self)) (back_of E fun x hx => h4 x (List.mem_cons_of_mem _ hx)) (by rw [oc1]; exact hf) (by rw [oc1]; exact m2) (by rw [oc1]; exact m3 _ (List.mem_of_getElem? hf)) O.o.K
        · cases h
      · cases h
    · cases h
  · cases h
theorem comSF_ok (n : Nat) : SndS k (comSF rec n) := by
  intro ct st c h X C W lks O
  have E : Snd k (comE n) := comE_ok n
  cases st with
  | Assign tgs e pos =>
    unfold comSF at h
    dsimp only at h
    split at h
    · rename_i x px
      cases q : ixOf x ct.N 0 with
      | none => rw [q] at h; cases h
      | some i =>
        rw [q, Option.bind_some] at h
        split at h
        · rename_i hl
          rw [Bool.and_eq_true, decide_eq_true_eq] at hl
          obtain ⟨h1, h2⟩ := ixOf_0 q
          have plain : noLc e = true → (comE n ct e).map (fun c => CS.asg i c) = some c → PS X (.Assign [.Name x px] e pos) (tS C W lks c) := fun hn h => by
            cases qe : comE n ct e with
            | none => rw [qe] at h; cases h
            | some e' =>
              rw [qe] at h; cases h
              exact qs_asg (by rw [O.o.N]; exact O.o.nd) (by rw [O.o.N]; exact h1) (by rw [O.o.n]; exact h2) O.LK (by rw [O.o.os]; exact hl.2) (by rw [O.o.sc]; exact loc_of hl.1) (E ct e _ qe X C W O.o O.tk).1 (noLc_sw hn) (.inl (O.fn x))
          cases e with
          | ListComp elt gs scope p2 =>
            dsimp only at h
            split at h
            · rename_i x2 px2 it ifs
              split at h
              · rename_i hsw
                cases qe : comE n ct (.ListComp elt [⟨.Name x2 px2, it, ifs, 0⟩] scope p2) with
                | none => rw [qe] at h; cases h
                | some e' =>
                  rw [qe] at h; cases h
                  by_cases hc : ct.sc.names.lookup x = some .cell
                  · exact qs_asg (by rw [O.o.N]; exact O.o.nd) (by rw [O.o.N]; exact h1) (by rw [O.o.n]; exact h2) O.LK (by rw [O.o.os]; exact hl.2) (by rw [O.o.sc]; exact loc_of hl.1) (E ct _ _ qe X C W O.o O.tk).1 (sw_cell (by rw [O.o.sc]; exact hc)) (.inl (O.fn x))
                  · exact qs_asgLc O q hl.2 (by rw [Bool.or_eq_true] at hsw; rcases hsw with z | z <;> first | exact z | exact absurd (of_decide_eq_true z) hc) qe
              · cases h
            · cases h
          | SetComp => cases h
          | DictComp => cases h
          | _ => exact plain rfl h
        · split at h
          · rename_i hc
            simp only [Bool.and_eq_true, decide_eq_true_eq, Bool.not_eq_true'] at hc
            exact comNew_ok O hc.2 q hc.1.1.2 hc.1.1.1 h
          · cases h
    · rename_i y py fl p1
      split at h
      · rename_i hc
        simp only [Bool.and_eq_true, decide_eq_true_eq] at hc
        obtain ⟨⟨⟨c1, c2⟩, c3⟩, c4⟩ := hc
        cases qj : fldIx fl (flds ct.oc) 0 with
        | none => rw [qj] at h; cases h
        | some j =>
          rw [qj, Option.bind_some] at h
          cases qe : comE n ct e with
          | none => rw [qe] at h; cases h
          | some e' =>
            rw [qe] at h; cases h
            obtain ⟨s1, s2, s3, s4, s5⟩ := slot_of O.o c1
            obtain ⟨cl, na⟩ := O.o.ob c3
            have hf := (ixOf_0 qj).1
            rw [← O.o.n]
            exact qs_gasg (E ct e _ qe X C W O.o O.tk).1 (by rw [O.o.mo]; exact c2) O.o.os s2 s3 s4 s5 (noLc_sw c4) (by rw [O.o.oc]; exact hf) cl (na _ (by rw [O.o.oc]; exact List.mem_of_getElem? hf)) O.o.K
      · cases h
    · rename_i o i p
      split at h
      · rename_i hc
        rw [Bool.and_eq_true] at hc
        cases qe : comE n ct e with
        | none => rw [qe] at h; cases h
        | some e' =>
          cases qo : comE n ct o with
          | none => rw [qe, Option.bind_some, qo] at h; cases h
          | some o' =>
            cases qi : comE n ct i with
            | none => rw [qe, Option.bind_some, qo, Option.bind_some, qi] at h; cases h
            | some i' =>
              rw [qe, Option.bind_some, qo, Option.bind_some, qi] at h; cases h
              have hu : X.A.units + 1 < cLine := by have := O.o.unit; omega
              split
              · exact qs_dsub hu (E ct e _ qe X C W O.o O.tk).1 (E ct o _ qo X C W O.o O.tk).1 (E ct i _ qi X C W O.o O.tk).1 (noLc_sw hc.1)
              · refine qs_sub (E ct e _ qe X C W O.o O.tk).1 (E ct o _ qo X C W O.o O.tk).1 (E ct i _ qi X C W O.o O.tk).1 (noLc_sole hc.1) ?_ rfl ?_
                · first | rfl | (unfold swappedStores; rfl)
                · intro v
                  cases i <;> first | rfl | cases hc.2
      · cases h
    · cases h
  | Expr e pos =>
    unfold comSF at h
    dsimp only at h
    split at h
    · rename_i c' qm
      cases h
      exact comMe_ok O qm
    split at h
    · rename_i hn
      cases qe : comE n ct e with
      | none => rw [qe] at h; cases h
      | some e' => rw [qe] at h; cases h; exact qs_exp (E ct e _ qe X C W O.o O.tk).1 (noLc_sw hn)
    · cases h
  | Return e pos =>
    unfold comSF at h
    cases e with
    | none => cases h; exact qs_retN
    | some e =>
      dsimp only at h
      split at h
      · rename_i hz
        cases h
        unfold isOs at hz
        split at hz
        · rename_i y py
          obtain ⟨s1, s2, s3, s4, s5⟩ := slot_of O.o (of_decide_eq_true hz)
          exact qs_reto O.o.os s2 s3 s4 s5
        · cases hz
      · cases qe : comE n ct e with
        | none => rw [qe] at h; exact comRcf_ok O h
        | some e' => rw [qe] at h; cases h; exact qs_ret (E ct e _ qe X C W O.o O.tk).1
  | If t a b pos =>
    unfold comSF at h
    dsimp only at h
    split at h
    · rename_i ht
      cases qt : comE n ct t with
      | none => rw [qt] at h; cases h
      | some t' =>
        cases qa : comB rec ct a with
        | none => rw [qt, Option.bind_some, qa] at h; cases h
        | some a' =>
          cases qb : comB rec ct b with
          | none => rw [qt, Option.bind_some, qa, Option.bind_some, qb] at h; cases h
          | some b' =>
            rw [qt, Option.bind_some, qa, Option.bind_some, qb] at h; cases h
            exact qs_ite ((E ct t _ qt X C W O.o O.tk).2 ht) (comB_ok S O qa) (comB_ok S O qb)
    · cases h
  | While t b e pos =>
    unfold comSF at h
    dsimp only at h
    split at h
    · split at h
      · rename_i ht
        cases qt : comE n ct t with
        | none => rw [qt] at h; cases h
        | some t' =>
          cases qb : comB rec ct b with
          | none => rw [qt, Option.bind_some, qb] at h; cases h
          | some b' =>
            rw [qt, Option.bind_some, qb] at h; cases h
            exact qs_whl O.ps ((E ct t _ qt X C W O.o O.tk).2 ht) (comB_ok S O qb)
      · cases h
    · cases h
  | For tg it b e pos =>
    unfold comSF at h
    dsimp only at h
    split at h
    · rename_i x px
      cases q : ixOf x ct.N 0 with
      | none => rw [q] at h; cases h
      | some i =>
        rw [q, Option.bind_some] at h
        split at h
        · rename_i hl
          rw [Bool.and_eq_true, Bool.and_eq_true, decide_eq_true_eq, Bool.not_eq_true'] at hl
          obtain ⟨h1, h2⟩ := ixOf_0 q
          cases qi : comI (comE n) ct it with
          | none => rw [qi] at h; cases h
          | some kc =>
            obtain ⟨t, ci⟩ := kc
            rw [qi, Option.bind_some] at h
            obtain ⟨pi, ns⟩ := comI_ok E O.o O.tk (tg := .Name x px) qi
            cases qb : comB rec ct b with
            | none => rw [qb] at h; cases h
            | some b' =>
              rw [qb] at h; cases h
              exact qs_for O.ps (O.o.calm hl.2) (by rw [O.o.N]; exact O.o.nd) (by rw [O.o.N]; exact h1) (by rw [O.o.n]; exact h2) O.LK (by rw [O.o.os]; exact hl.1.2) (by rw [O.o.sc]; exact loc_of hl.1.1) (.inl (O.fn x)) pi (comB_ok S O qb) (set_of ns)
        · cases h
    · rename_i x px y py kk tp
      cases q : ixOf x ct.N 0 with
      | none => rw [q] at h; cases h
      | some i =>
        cases q2 : ixOf y ct.N 0 with
        | none => rw [q, Option.bind_some, q2] at h; cases h
        | some j =>
          rw [q, Option.bind_some, q2, Option.bind_some] at h
          split at h
          · rename_i hl
            rw [Bool.and_eq_true, Bool.and_eq_true, Bool.and_eq_true, Bool.and_eq_true, decide_eq_true_eq, Bool.not_eq_true', decide_eq_true_eq] at hl
            obtain ⟨⟨⟨⟨l1, l2⟩, l3⟩, l4⟩, l5⟩ := hl
            obtain ⟨h1, h2⟩ := ixOf_0 q
            obtain ⟨g1, g2⟩ := ixOf_0 q2
            split at h
            · rename_i z zp d e' zpos
              split at h
              · rename_i hg
                obtain ⟨z1, z2, z3, z4, z5⟩ := glob_of O.o hg
                cases ql : comL (comE n) ct [d, e'] with
                | none => rw [ql] at h; cases h
                | some l =>
                  rw [ql, Option.bind_some] at h
                  obtain ⟨p1, p2, p3, p4⟩ := comL_ok E O.o O.tk ql
                  split at h
                  · rename_i cd ce
                    cases qb : comB rec ct b with
                    | none => rw [qb] at h; cases h
                    | some b' =>
                      rw [qb] at h; cases h
                      subst z5
                      exact qs_forz O.ps (O.o.calm l3) (by rw [O.o.N]; exact O.o.nd) (by rw [O.o.N]; exact h1) (by rw [O.o.n]; exact h2) (by rw [O.o.N]; exact g1) (by rw [O.o.n]; exact g2) O.LK (by rw [O.o.os]; exact l2) (by rw [O.o.os]; exact l5) (by rw [O.o.sc]; exact loc_of l1) (by rw [O.o.sc]; exact loc_of l4) (.inl (O.fn x)) (.inl (O.fn y)) z1 z4 p1 (star_of (p4 d List.mem_cons_self)) (back_of E fun x hx => p4 x (List.mem_cons_of_mem _ hx)) (comB_ok S O qb)
                  · cases h
              · cases h
            · cases h
          · cases h
    · cases h
  | Break pos => unfold comSF at h; cases h; exact qs_brk
  | Continue pos => unfold comSF at h; cases h; exact qs_cnt
  | Raise e c' pos =>
    unfold comSF at h
    dsimp only at h
    split at h
    · rename_i x px v j p2 p3
      split at h
      · rename_i ec hg
        split at h
        · cases h
        rename_i hh
        cases h
        obtain ⟨g1, g2, g3, f1, f2, f3, f4, f5⟩ := glob_of O.o hg
        refine ps_imp (ps_raise (O.o.calm (by simpa using hh)) O.tk (pmk_own PySem.F.excBase_ValueError f2 f1 f3 (raises_own f4 f5) g1 g2)) fun D σ H ⟨ob, F, s, o, R, e, p⟩ => ?_
        have e : some (Out.ex ec s) = some o := by rw [← e]; show _ = exec C.Γ C.n lks C.oc (.rse ec) s; rw [exec]
        cases e
        exact p ob F H σ R (same_refl F)
      · cases h
    · cases h
  | Try b hs els fin pos =>
    unfold comSF at h
    cases els with
    | cons _ _ => cases h
    | nil =>
      cases fin with
      | cons _ _ => cases h
      | nil =>
        dsimp only at h
        split at h
        · cases h
        · rename_i hh
          have hh : ct.hot = false := by simpa using hh
          split at h
          · rename_i t np x s0 su pos'
            cases q : ixOf x ct.N 0 with
            | none => rw [q] at h; cases h
            | some i =>
              rw [q, Option.bind_some] at h
              split at h
              · rename_i hl
                rw [Bool.and_eq_true, decide_eq_true_eq, decide_eq_true_eq] at hl
                split at h
                · rename_i kc hg
                  cases qb : comB rec ct b with
                  | none => rw [qb] at h; cases h
                  | some b' =>
                    cases qs : comB rec { ct with hot := true, xs := some i } (s0 :: su) with
                    | none => rw [qb, Option.bind_some, qs] at h; cases h
                    | some s' =>
                      rw [qb, Option.bind_some, qs] at h; cases h
                      exact try1_ok S O hh q hl.1 hl.2 hg qb qs
                · cases h
              · cases h
          · rename_i h0 hr hno
            cases qb : comB rec ct b with
            | none => rw [qb] at h; cases h
            | some b' =>
              cases ql : comHs rec ct (h0 :: hr) with
              | none => rw [qb, Option.bind_some, ql] at h; cases h
              | some l =>
                rw [qb, Option.bind_some, ql] at h; cases h
                exact trym_ok S O hh qb ql
          · cases h
  | _ => cases h
end
theorem comS_ok {k n : Nat} : ∀ m : Nat, SndS k (comS m n)
  | 0 => fun ct e c h => nomatch h
  | m + 1 => comSF_ok (comS_ok m) n
end Mi
namespace Mi
open PySem PySem.Spec PyProof.Rows L2
/-! ### where a token is out: replace of written texts -/
section
variable {X : Cx} {C : Cn} {W : WX} {c : CE}
theorem tV_rd {σ : L2.St} {H : Hp} {Q : VK} (h : tV C W c σ H Q) : tE C W c σ H Q := by
  obtain ⟨ob, F, s, r, R0, er, p⟩ := h
  refine step R0 er p fun o s1 u F1 H1 e1 R1 m1 q1 e2 p1 => ?_
  cases o with
  | fr c =>
    have e2 : (c.fz.map fun d => R.ok d s1) = some r := e2
    cases ec : c.fz with
    | none => rw [ec] at e2; cases e2
    | some d =>
      rw [ec] at e2; cases e2
      obtain ⟨F2, R2, m2, q2⟩ := RF.freeze R1 q1 ec
      exact p1 u F2 H1 R2 m2 q2
  | pt i =>
    have e2 : ((gt s1 i).fz.map fun d => R.ok d (s1.set i (.val d))) = some r := e2
    cases ec : (gt s1 i).fz with
    | none => rw [ec] at e2; cases e2
    | some d =>
      rw [ec] at e2; cases e2
      obtain ⟨F2, R2, m2, q2⟩ := R1.freeze q1.2 ec q1.1
      exact p1 u F2 H1 R2 m2 q2
theorem tO_rd {σ : L2.St} {H : Hp} {Q : VK} (h : tO C W c σ H Q) : tE C W c σ H Q := by
  obtain ⟨ob, F, s, r, R0, er, p⟩ := h
  refine step R0 er p fun o s1 u F1 H1 e1 R1 m1 q1 e2 p1 => ?_
  cases o with
  | fr c =>
    have e2 : (c.fz.map fun d => R.ok (.fr (.val d)) s1) = some r := e2
    cases ec : c.fz with
    | none => rw [ec] at e2; cases e2
    | some d =>
      rw [ec] at e2; cases e2
      obtain ⟨F2, R2, m2, q2⟩ := RF.freeze R1 q1 ec
      exact p1 u F2 H1 R2 m2 ⟨d, rfl, q2⟩
  | pt i =>
    have e2 : some (R.ok (.pt i) s1) = some r := e2
    cases e2
    exact p1 u F1 H1 R1 (fun _ _ z => z) q1
theorem pet_imp {e : Expr} {t t' : TE} (h : PET X e t) (k : ∀ σ H Q, t' σ H Q → t σ H Q) : PET X e t' := fun pins s σ H Q h0 I q => h pins s σ H Q h0 I (k σ H Q q)
theorem psst_imp {e : List Stmt} {t t' : TS} (h : PSsT X e t) (k : ∀ D σ H, t' D σ H → t D σ H) : PSsT X e t' := fun pins s σ H D h0 I q => h pins s σ H D h0 I (k D σ H q)
theorem pst_imp {e : Stmt} {t t' : TS} (h : PST X e t) (k : ∀ D σ H, t' D σ H → t D σ H) : PST X e t' := fun pins s σ H D h0 I q => h pins s σ H D h0 I (k D σ H q)
theorem rep_eq {Γ : Env} {a : CE} {y z : Str} {s : S} : ev Γ (.mt .repl a [.c (.str y), .c (.str z)]) s = bnd (toV (ev Γ a s)) fun x s => if isStr x then (txop .repl x [.str y, .str z]).map fun d => .ok (.fr (.val d)) s else none := by
  show (bnd (toV (ev Γ a s)) fun x s => if isStr x then bnd (evA Γ [.c (.str y), .c (.str z)] s) fun l s => ((dats l).bind fun ds => txop .repl x ds).map fun d => Mi.R.ok (Ro.fr (.val d)) s else none) = _
  congr 1
theorem qet_repl {o : Expr} {co : CE} {y z : Str} {j k : Nat} {c0 c1 apos pos : Pos} (ho : PET X o (tE C W co)) (hyz : (y == z) = false) (hbase : attributeBase o "replace" X.env (eval o X.env) = eval o X.env) (hline : (apos.endLine == pos.line) = true) :
    PET X (.Call (.Attribute o "replace" apos) [.Constant (.str y) j c0, .Constant (.str z) k c1] [] pos) (tE C W (.mt .repl co [.c (.str y), .c (.str z)])) := by
  refine pet_imp (CwR.pet_replT (to := tV C W co) (pet_imp ho fun σ H Q h => tV_rd h) hyz rfl hbase hline) fun σ H Q ⟨ob, F, s, r, R, e, p⟩ => ?_
  have e := rep_eq.symm.trans e
  refine step R e p fun x s1 u F1 H1 e1 R1 m1 q1 e2 p1 => ?_
  split at e2
  · rename_i hx
    obtain ⟨a, rfl⟩ := str_case hx
    have hu := rep_str q1
    subst hu
    have e2 : (replop a [.str y, .str z]).map (fun d => Mi.R.ok (Ro.fr (.val d)) s1) = some r := e2
    unfold replop at e2
    dsimp only at e2
    split at e2
    · rename_i hc
      cases e2
      exact ⟨a, rfl, hc.1, post_val p1 R1 (.str _)⟩
    · cases e2
  · cases e2
theorem qet_add {ea eb : Expr} {a b : CE} {pos : Pos} (hK : X.K = C.K) (ha : PET X ea (tE C W a)) (hb : PET X eb (tE C W b)) : PET X (.BinOp ea .Add eb pos) (tE C W (.bin .add a b)) :=
  pet_imp (CwR.pet_op (by rw [← hK]; exact op_addA) (pet_imp ha fun σ H Q h => tO_rd h) (pet_imp hb fun σ H Q h => tO_rd h)) fun σ H Q h => op2_run bin_add (fun x y c h => binop_fz (o := .add) h) (fun s => rfl) h
end
/-! ### tests behind which a token is out -/
def PTP (X : Cx) (e : Expr) (t : TT) : Prop := ∀ (pins : List (Addr × Obj)) (s : Shared) (σ : L2.St) (H : Hp) (Q : Bool → Hp → Prop), Inv X pins σ H s → t σ H Q → wpAny (model X.prog X.w) X.A (isTrue e X.env (eval e X.env)) (fun d s1 => 1 ≤ s1.toks ∧ TP X pins σ Q d s1) X.xe s
section
variable {X : Cx} {C : Cn} {W : WX} {lks : List Nat}
theorem ptp_cmp {op : CmpOp} {r : R2} {a : Expr} {ta tb : TE} {i : Int} {k : Nat} {p pos : Pos} (ho : OpR X (compareOp op) r) (ha : PE X a ta) (hm : behindInMarks op (.Constant (.int i) k p) = false) (hb : ∀ σ H Q, tb σ H Q → Q (.int i) H) :
    PTP X (.Compare a [op] [.Constant (.int i) k p] pos) (tTest (tOp r ta tb)) := by
  intro pins s σ H Q I h
  refine wpAny_isTrue_Compare1 (thn (ha.run pins s σ H _ I h) fun v s1 ⟨x, H1, I1, r1, q1⟩ => ?_) hm
  refine wpAny_Constant_int ?_
  have q2 := hb _ _ _ q1
  have w := ho pins { s1 with toks := s1.toks + 1 } σ H1 x (.int i) v (.int i s1.toks) _ (I1.tok _) r1 ⟨_, rfl⟩ q2
  refine wpAny_mono (wpAny_toks w) (fun c s3 q => ?_) fun _ _ z => z.2
  obtain ⟨hk, z, H3, I3, r3, kk, e, q3⟩ := q
  subst e
  cases r3
  exact wpAny_truthy_bool ⟨by have : s1.toks + 1 ≤ s3.toks := hk; omega, H3, I3, q3⟩
theorem psst_ifp {e : Expr} {a b rest : List Stmt} {tc : TT} {t u v : TS} {pos : Pos} (hc : PTP X e tc) (ha : PSsT X a t) (hb : PSsT X b u) (hr : PSsT X rest v) : PSs X (.If e a b pos :: rest) (tSeq (tIfS tc t u) v) := by
  refine ⟨fun pins s σ H D I h => ?_⟩
  refine wpAny_execs_cons (wpAny_If (wpAny_mono (hc pins s σ H _ I h) (fun d s1 q => ?_) fun _ _ z => z))
  obtain ⟨hk, H1, I1, q1⟩ := q
  have fin : ∀ {l : List Stmt} {w : TS}, PSsT X l w → w { D with nx := v D } σ H1 → wpAny (model X.prog X.w) X.A (PySem.execs l X.env) (fun f s2 => match f with
      | Flow.next => wpAny (model X.prog X.w) X.A (PySem.execs rest X.env) (SP X pins D) X.xe s2
      | f => SP X pins D f s2) X.xe s1 := fun hl hw => by
    refine wpAny_mono (wpAny_toks (hl pins s1 σ H1 { D with nx := v D } hk I1 hw)) (fun f s2 q => ?_) fun _ _ x => x.2
    obtain ⟨hk2, q⟩ := q
    cases f with
    | next =>
      obtain ⟨σ', H', I', q⟩ := q
      exact hr pins s2 σ' H' D (Nat.le_trans hk hk2) I' q
    | ret v => exact q
    | brk => exact q
    | cont => exact q
  cases d with
  | true => exact fin ha q1
  | false => exact fin hb q1
theorem qst_nil : PSsT X [] (tSs C W lks []) := PSsT.of qs_nil
theorem seq_run {k : CS} {ks : List CS} {D : Ends} {σ : L2.St} {H : Hp} (h : tSs C W lks (k :: ks) D σ H) : tSeq (tS C W lks k) (tSs C W lks ks) D σ H := by
  obtain ⟨ob, F, s, o, R, e, p⟩ := h
  have e : (match exec C.Γ C.n lks C.oc k s with
    | some (.nx s1) => execs C.Γ C.n lks C.oc ks s1
    | o => o) = some o := by rw [← e]; show _ = execs C.Γ C.n lks C.oc (k :: ks) s; rw [execs] <;> rfl
  cases e1 : exec C.Γ C.n lks C.oc k s with
  | none => rw [e1] at e; cases e
  | some o1 =>
    rw [e1] at e
    refine ⟨ob, F, s, o1, R, e1, ?_⟩
    cases o1 with
    | nx s1 => exact fun ob' F' H' σ' R' m => ⟨ob', F', s1, o, R', e, p.mono m⟩
    | bk s1 => cases e; exact p
    | ct s1 => cases e; exact p
    | rt a s1 => cases e; exact p
    | ex k s1 => cases e; exact p
theorem qst_cons {st : Stmt} {rest : List Stmt} {k : CS} {ks : List CS} (h1 : PST X st (tS C W lks k)) (h2 : PSsT X rest (tSs C W lks ks)) : PSsT X (st :: rest) (tSs C W lks (k :: ks)) := psst_imp (psst_cons h1 h2) fun D σ H h => seq_run h
theorem qst_ret {e : Expr} {c : CE} {pos : Pos} (he : PET X e (tE C W c)) : PST X (.Return (some e) pos) (tS C W lks (.ret c)) := pst_imp (CwR.pst_ret (te := tW C W c) (pet_imp he fun σ H Q h => toW_rd h)) fun D σ H ⟨ob, F, s, o, R, e, p⟩ => by
  have e : (outR (toW (ev C.Γ c s)) fun c s => some (.rt (.cl c) s)) = some o := by rw [← e]; show _ = exec C.Γ C.n lks C.oc (.ret c) s; rw [exec]
  refine stepS R e p fun d s1 u F1 H1 e1 R1 m1 q1 e2 p1 => ?_
  cases e2
  exact p1 ob F1 H1 σ u R1 (same_refl F1) q1
theorem ite_run {c : CE} {ca cb : List CS} {D : Ends} {σ : L2.St} {H : Hp} (h : tS C W lks (.ite c ca cb) D σ H) : tIfS (tT C W c) (tSs C W lks ca) (tSs C W lks cb) D σ H := by
  obtain ⟨ob, F, s, o, R, e, p⟩ := h
  have e : (outR (evT C.Γ c s) fun k s => if k then execs C.Γ C.n lks C.oc ca s else execs C.Γ C.n lks C.oc cb s) = some o := by rw [← e]; show _ = exec C.Γ C.n lks C.oc (.ite c ca cb) s; rw [exec]
  refine stepS R e p fun k s1 u F1 H1 e1 R1 m1 q1 e2 p1 => ?_
  obtain rfl : u = k := q1
  cases u with
  | true => exact ⟨ob, F1, s1, o, R1, e2, p1⟩
  | false => exact ⟨ob, F1, s1, o, R1, e2, p1⟩
theorem qst_ite {e : Expr} {c : CE} {pos : Pos} {a b : List Stmt} {ca cb : List CS} (ht : PT X e (tT C W c)) (ha : PSsT X a (tSs C W lks ca)) (hb : PSsT X b (tSs C W lks cb)) : PST X (.If e a b pos) (tS C W lks (.ite c ca cb)) := pst_imp (CwR.pst_if ht ha hb) fun D σ H h => ite_run h
theorem qs_ifp {e : Expr} {c : CE} {pos : Pos} {a b rest : List Stmt} {ca cb cr : List CS} (hc : PTP X e (tT C W c)) (ha : PSsT X a (tSs C W lks ca)) (hb : PSsT X b (tSs C W lks cb)) (hr : PSsT X rest (tSs C W lks cr)) : PSs X (.If e a b pos :: rest) (tSs C W lks (.ite c ca cb :: cr)) :=
  pss_imp (psst_ifp hc ha hb hr) fun D σ H h => ite_run (seq_run h)
end
/-! ### compiled -/
section
variable (n : Nat) (ct : CT)
def comWE : Nat → Expr → Option CE
  | 0, e => comE n ct e
  | m + 1, .BinOp a .Add b _ => (comWE m a).bind fun a => (comWE m b).map fun b => .bin .add a b
  | m + 1, .Call (.Attribute o r apos) [.Constant (.str y) _ _, .Constant (.str z) _ _] [] pos => if r = "replace" && noCall0 o && (apos.endLine == pos.line) && !(y == z) then (comWE m o).map fun o => .mt .repl o [.c (.str y), .c (.str z)] else none
  | _ + 1, e => comE n ct e
variable (rec : CT → Stmt → Option CS)
def comW1 : List Stmt → Option (List CS)
  | [] => some []
  | .Return (some e) _ :: r => (comWE n ct 20 e).bind fun c => (comW1 r).map fun l => .ret c :: l
  | s :: r => (rec ct s).bind fun c => (comW1 r).map fun l => c :: l
def comW2 : List Stmt → Option (List CS)
  | [] => some []
  | .Return (some e) _ :: r => (comWE n ct 20 e).bind fun c => (comW2 r).map fun l => .ret c :: l
  | .If t a b _ :: r => if tOk t then (comE n ct t).bind fun t => (comW1 n ct rec a).bind fun a => (comW1 n ct rec b).bind fun b => (comW2 r).map fun l => .ite t a b :: l else none
  | s :: r => (rec ct s).bind fun c => (comW2 r).map fun l => c :: l
def comD (ss : List Stmt) : Option (List CS) := match comB rec ct ss with
  | some l => some l
  | none => (match ss with
    | .If (.Compare a [op] [.Constant (.int i) k p] _) x y _ :: r => if behindInMarks op (.Constant (.int i) k p) then none else (comE n ct a).bind fun a => (comW1 n ct rec x).bind fun x => (comW1 n ct rec y).bind fun y => (comW2 n ct rec r).map fun l => .ite (.cmp (coOf op) a (.c (.int i))) x y :: l
    | _ => none)
end
section
variable {X : Cx} {C : Cn} {W : WX} {lks : List Nat} {k n : Nat} {ct : CT} {rec : CT → Stmt → Option CS}
theorem comWE_ok (O : Oks ct X C k W lks) : ∀ (m : Nat) (e : Expr) (c : CE), comWE n ct m e = some c → PET X e (tE C W c) := by
  have base : ∀ {e : Expr} {c : CE}, comE n ct e = some c → PET X e (tE C W c) := fun {e c} h => CwR.PET.of (comE_ok n ct e c h X C W O.o O.tk).1
  intro m
  induction m with
  | zero => exact fun e c h => base h
  | succ m ih =>
    intro e c h
    unfold comWE at h
    split at h
    · rename_i z; cases z
    · rename_i a b p z
      cases z
      cases qa : comWE n ct m a with
      | none => rw [qa] at h; cases h
      | some a' =>
        cases qb : comWE n ct m b with
        | none => rw [qa, Option.bind_some, qb] at h; cases h
        | some b' =>
          rw [qa, Option.bind_some, qb] at h; cases h
          exact qet_add O.o.K (ih _ _ qa) (ih _ _ qb)
    · rename_i o r apos y j c0 z k' c1 pos z1
      cases z1
      split at h
      · rename_i hc
        simp only [Bool.and_eq_true, decide_eq_true_eq, Bool.not_eq_true'] at hc
        obtain ⟨⟨⟨h1, h2⟩, h3⟩, h4⟩ := hc
        subst h1
        cases qo : comWE n ct m o with
        | none => rw [qo] at h; cases h
        | some o' =>
          rw [qo] at h; cases h
          exact qet_repl (ih _ _ qo) h4 (base_of h2) h3
      · cases h
    · exact base h
theorem comW1_ok (S : SndS k rec) (O : Oks ct X C k W lks) : ∀ {ss : List Stmt} {cs : List CS}, comW1 n ct rec ss = some cs → PSsT X ss (tSs C W lks cs) := by
  intro ss
  induction ss with
  | nil => intro cs h; cases h; exact qst_nil
  | cons s r ih =>
    intro cs h
    unfold comW1 at h
    split at h
    · rename_i z; cases z
    · rename_i e p r' z
      cases z
      cases qe : comWE n ct 20 e with
      | none => rw [qe] at h; cases h
      | some c =>
        cases qr : comW1 n ct rec r with
        | none => rw [qe, Option.bind_some, qr] at h; cases h
        | some l =>
          rw [qe, Option.bind_some, qr] at h; cases h
          exact qst_cons (qst_ret (comWE_ok O 20 e c qe)) (ih qr)
    · rename_i s' r' _ z
      cases z
      cases qe : rec ct s with
      | none => rw [qe] at h; cases h
      | some c =>
        cases qr : comW1 n ct rec r with
        | none => rw [qe, Option.bind_some, qr] at h; cases h
        | some l =>
          rw [qe, Option.bind_some, qr] at h; cases h
          exact qst_cons (PST.of (S ct s c qe X C W lks O)) (ih qr)
theorem comW2_ok (S : SndS k rec) (O : Oks ct X C k W lks) : ∀ {ss : List Stmt} {cs : List CS}, comW2 n ct rec ss = some cs → PSsT X ss (tSs C W lks cs) := by
  intro ss
  induction ss with
  | nil => intro cs h; cases h; exact qst_nil
  | cons s r ih =>
    intro cs h
    unfold comW2 at h
    split at h
    · rename_i z; cases z
    · rename_i e p r' z
      cases z
      cases qe : comWE n ct 20 e with
      | none => rw [qe] at h; cases h
      | some c =>
        cases qr : comW2 n ct rec r with
        | none => rw [qe, Option.bind_some, qr] at h; cases h
        | some l =>
          rw [qe, Option.bind_some, qr] at h; cases h
          exact qst_cons (qst_ret (comWE_ok O 20 e c qe)) (ih qr)
    · rename_i t a b p r' z
      cases z
      split at h
      · rename_i ht
        cases qt : comE n ct t with
        | none => rw [qt] at h; cases h
        | some t' =>
          cases qa : comW1 n ct rec a with
          | none => rw [qt, Option.bind_some, qa] at h; cases h
          | some a' =>
            cases qb : comW1 n ct rec b with
            | none => rw [qt, Option.bind_some, qa, Option.bind_some, qb] at h; cases h
            | some b' =>
              cases qr : comW2 n ct rec r with
              | none => rw [qt, Option.bind_some, qa, Option.bind_some, qb, Option.bind_some, qr] at h; cases h
              | some l =>
                rw [qt, Option.bind_some, qa, Option.bind_some, qb, Option.bind_some, qr] at h; cases h
                exact qst_cons (qst_ite ((comE_ok n ct t _ qt X C W O.o O.tk).2 ht) (comW1_ok S O qa) (comW1_ok S O qb)) (ih qr)
      · cases h
    · rename_i s' r' _ _ z
      cases z
      cases qe : rec ct s with
      | none => rw [qe] at h; cases h
      | some c =>
        cases qr : comW2 n ct rec r with
        | none => rw [qe, Option.bind_some, qr] at h; cases h
        | some l =>
          rw [qe, Option.bind_some, qr] at h; cases h
          exact qst_cons (PST.of (S ct s c qe X C W lks O)) (ih qr)
theorem int_run {i : Int} {σ : L2.St} {H : Hp} {Q : VK} (h : tO C W (.c (.int i)) σ H Q) : Q (.int i) H := by
  obtain ⟨ob, F, s, r, R, e, p⟩ := tO_rd h
  have e : some (Mi.R.ok (Ro.fr (.val (.int i))) s) = some r := e
  cases e
  exact p (.int i) F H R (fun _ _ z => z) ⟨⟨.int i, rfl, .int i⟩, rfl, fun z => nomatch z⟩
theorem comD_ok (S : SndS k rec) (O : Oks ct X C k W lks) {ss : List Stmt} {cs : List CS} (h : comD n ct rec ss = some cs) : PSs X ss (tSs C W lks cs) := by
  unfold comD at h
  split at h
  · rename_i l q
    cases h
    exact comB_ok S O q
  · split at h
    · rename_i a op i kk p pos x y pos2 r _
      split at h
      · cases h
      · rename_i hm
        have hm : behindInMarks op (.Constant (.int i) kk p) = false := by simpa using hm
        cases qt : comE n ct a with
        | none => rw [qt] at h; cases h
        | some a' =>
          cases qa : comW1 n ct rec x with
          | none => rw [qt, Option.bind_some, qa] at h; cases h
          | some x' =>
            cases qb : comW1 n ct rec y with
            | none => rw [qt, Option.bind_some, qa, Option.bind_some, qb] at h; cases h
            | some y' =>
              cases qr : comW2 n ct rec r with
              | none => rw [qt, Option.bind_some, qa, Option.bind_some, qb, Option.bind_some, qr] at h; cases h
              | some l =>
                rw [qt, Option.bind_some, qa, Option.bind_some, qb, Option.bind_some, qr] at h; cases h
                have ha := (comE_ok n ct a _ qt X C W O.o O.tk).1
                have key : PTP X (.Compare a [op] [.Constant (.int i) kk p] pos) (tT C W (.cmp (coOf op) a' (.c (.int i)))) := by
                  intro pins s σ H Q I hq
                  have := ptp_cmp (X := X) (tb := tO C W (.c (.int i))) (k := kk) (p := p) (pos := pos) (i := i) (op := (coOf op).py) (co_op O.o.unit (coOf op)) (toO_of ha) (by rw [coOf_py]; exact hm) (fun σ H Q h => int_run (C := C) (W := W) h)
                  rw [coOf_py] at this
                  exact this pins s σ H Q I (by have h2 := cmp_run (coOf op) (tst_of (C := C) (W := W) rfl (cmp_bl (coOf op)) hq); rw [O.o.K]; exact h2)
                exact qs_ifp key (comW1_ok S O qa) (comW1_ok S O qb) (comW2_ok S O qr)
    · cases h
end
end Mi
namespace Mi
open PySem PySem.Spec PyProof.Rows L2
/-! ### a program of the small language, and the defs that it stands for -/
def excN : Nat → Str
  | 0 => "MillError" | 1 => "NoTree" | 2 => "NotClosed" | 3 => "BadMost" | 4 => "NoNumber" | 5 => "NoFunction" | 6 => "Dry" | _ => "NoText"
def clsN : Nat → Str
  | 0 => "Kept"
  | _ => "Mill"
abbrev caK (K : PySem.W.Frag) (c : Nat) : Addr := He.ga K (clsN c)
abbrev cvK (K : PySem.W.Frag) (c : Nat) : Addr := He.ga K (excN c)
/-- a def of the module -/
structure Ent where
  d : He.DefD
  N : List Str
  ps : List Str
  id : Nat
  os : Nat
  fd : FD
abbrev ctOf (tab : List (Str × G)) (e : Ent) : CT := ⟨e.N, e.d.scope, tab, e.os, e.fd.oc, false, none, e.fd.meth⟩
/-- what the kernel looks at -/
def Ent.ok (tab : List (Str × G)) (P : Nat → Option FD) (e : Ent) : Bool := C8.scC e.N e.ps e.d.scope && e.d.dfl.isEmpty && e.d.kwd.isEmpty && decide (e.fd.n = e.N.length) && decide (e.fd.np = e.ps.length) && (!e.fd.meth || (decide (e.os = 0) && decide (1 ≤ e.fd.np))) && (e.N.all fun x => decide (x ≠ ""))
structure EntOk (tab : List (Str × G)) (P : Nat → Option FD) (e : Ent) : Prop where
  ok : e.ok tab P = true
  pt : P e.id = some e.fd
  body : comD 60 (ctOf tab e) (comS 40 60) e.d.body = some e.fd.body
  bd : ∀ (kV doc pm : Value) (an : Option Addr) (cdv ct : Value) (us : List Value), us.length = e.ps.length → bindArgs (PySem.W.fnOf e.d.name e.d.qual e.d.params e.d.body e.d.scope .none kV doc pm an cdv ct) ⟨us, []⟩ = pure (e.ps.zip us)
/-! ### what is known of the globals -/
def clsB (K : PySem.W.Frag) (c : Nat) : Bool := (He.Fa.cls (clsN c)).ok K && (flds c).all fun f => (He.Fa.noat (clsN c) f).ok K
theorem clsB_ok {K : PySem.W.Frag} {c : Nat} (h : clsB K c = true) : Cls K (caK K c) ∧ ∀ f ∈ flds c, NoAttr K (caK K c) f := by
  obtain ⟨h1, h2⟩ := He.ba h
  exact ⟨He.cls_ok h1, fun f hf => He.noat_ok (List.all_eq_true.mp h2 f hf)⟩
def tyNs : List String := ["int", "bool", "str", "tuple", "list"]
theorem tyN_mem {t : Ty} {n : String} (h : tyN t = some n) : n ∈ tyNs := by
  cases t <;> cases h <;> decide
def obB (K : PySem.W.Frag) : Bool := clsB K 0 && (He.eqO (PySem.W.findIn K (.ref (caK K 0)) "__class__") (some (some (.builtin "object.__class__"))) && (He.eqO (PySem.W.specialIn K (.builtin "object.__class__") "__get__") (some (some (.builtin "getset_descriptor.__get__"))) && (decide (PySem.W.takesIn K (.builtin "object.__class__") = some true) && (decide (PySem.W.mroIn K (caK K 0) (.type "object") = some true) &&
  ((tyNs.all fun n => decide (PySem.W.kitOne K (.ref (caK K 0)) (.type n) = some false)) && ((tyNs.all fun n => decide (PySem.W.kitOne K (.type n) (.ref (caK K 0)) = some false)) && decide (PySem.W.kitOne K (.type "NoneType") (.ref (caK K 0)) = some false)))))))
theorem obB_ok {K : PySem.W.Frag} (h : obB K = true) : ObF K (caK K 0) ∧ (∀ t n, tyN t = some n → PySem.W.kitOne K (.type n) (.ref (caK K 0)) = some false) ∧ PySem.W.kitOne K (.type "NoneType") (.ref (caK K 0)) = some false := by
  obtain ⟨h1, h⟩ := He.ba h
  obtain ⟨h2, h⟩ := He.ba h
  obtain ⟨h3, h⟩ := He.ba h
  obtain ⟨h4, h⟩ := He.ba h
  obtain ⟨h5, h⟩ := He.ba h
  obtain ⟨h6, h⟩ := He.ba h
  obtain ⟨h7, h8⟩ := He.ba h
  obtain ⟨c1, c2⟩ := clsB_ok h1
  exact ⟨⟨c1, He.eqO_ok h2, He.eqO_ok h3, of_decide_eq_true h4, of_decide_eq_true h5, fun t n e => of_decide_eq_true (List.all_eq_true.mp h6 n (tyN_mem e)), c2⟩, fun t n e => of_decide_eq_true (List.all_eq_true.mp h7 n (tyN_mem e)), of_decide_eq_true h8⟩
def strDs (xs : List Str) : List He.Dv := xs.map .str
def factB (K : PySem.W.Frag) (x : Str) : G → Bool
  | .con (.str z) => (He.Fa.str x z).ok K
  | .con (.int i) => (He.Fa.int x i).ok K
  | .con (.kt xs) => (He.Fa.glo x).ok K && He.tupB K x (strDs xs)
  | .con _ => false
  | .fn _ _ _ => (He.Fa.glo x).ok K
  | .cls _ _ => decide (x = "Kept") && ((He.Fa.glo x).ok K && (obB K && (He.Fa.mkr x).ok K))
  | .mil _ _ => decide (x = "Mill") && ((He.Fa.glo x).ok K && (clsB K 1 && (He.Fa.mkr x).ok K))
  | .meth _ _ => (He.Fa.meth "Mill" x).ok K
  | .exc c => decide (x = excN c) && ((He.Fa.glo x).ok K && (He.Fa.exc x).ok K)
  | .bf b => decide (x = b.nm) && (He.Fa.free x).ok K
  | .ty t => (He.Fa.free x).ok K && (match tyN t with
    | some n => decide (x = Str.ofString n)
    | none => false)
  | .isi => decide (x = "isinstance") && (He.Fa.free x).ok K
  | .rng => decide (x = "range") && (He.Fa.free x).ok K
  | .rvs => decide (x = "reversed") && (He.Fa.free x).ok K
  | .zip => decide (x = "zip") && (He.Fa.free x).ok K
  | .ve => decide (x = "ValueError") && (He.Fa.free x).ok K
/-- what is asked of the classes of exceptions -/
def excOneB (K : PySem.W.Frag) (cs : List Nat) (c : Nat) : Bool :=
  He.eqO (PySem.W.findIn K (.ref (cvK K c)) "__getattribute__") (some (some (.builtin "BaseException.__getattribute__"))) && (He.eqO (PySem.W.findIn K (.ref (cvK K c)) "__getattr__") (some none) && (decide (PySem.W.subIn K (.ref (cvK K c)) (.type "BaseException") = some true) && (PySem.W.hasDictIn K (cvK K c) &&
  (He.eqO (PySem.W.findIn K (.ref (cvK K c)) "__class__") (some (some (.builtin "object.__class__"))) && (He.eqO (PySem.W.specialIn K (.builtin "object.__class__") "__get__") (some (some (.builtin "getset_descriptor.__get__"))) && (decide (PySem.W.takesIn K (.builtin "object.__class__") = some true) && (decide (PySem.W.mroIn K (cvK K c) (.type "object") = some true) &&
  (decide (PySem.W.kitOne K (.ref (cvK K c)) (.type "ValueError") = some true) && cs.all fun t => decide (PySem.W.exmOne K (.ref (cvK K c)) (.ref (cvK K t)) = some (takesC c [t])) && decide (PySem.W.kitOne K (.ref (cvK K c)) (.ref (cvK K t)) = some (takesC c [t]))))))))))
def excB (K : PySem.W.Frag) (cs : List Nat) : Bool := cs.all fun c => excOneB K cs c
theorem excB_ok {K : PySem.W.Frag} {cs : List Nat} (h : excB K cs = true) : ExcAll K (cvK K) cs := fun c hc => by
  have h := List.all_eq_true.mp h c hc
  unfold excOneB at h
  obtain ⟨h1, h⟩ := He.ba h
  obtain ⟨h2, h⟩ := He.ba h
  obtain ⟨h3, h⟩ := He.ba h
  obtain ⟨h4, h⟩ := He.ba h
  obtain ⟨h5, h⟩ := He.ba h
  obtain ⟨h6, h⟩ := He.ba h
  obtain ⟨h7, h⟩ := He.ba h
  obtain ⟨h8, h⟩ := He.ba h
  obtain ⟨h9, h⟩ := He.ba h
  refine ⟨⟨He.eqO_ok h1, He.eqO_ok h2, of_decide_eq_true h3, h4, He.eqO_ok h5, He.eqO_ok h6, of_decide_eq_true h7, of_decide_eq_true h8⟩, of_decide_eq_true h9, fun t ht => ?_⟩
  obtain ⟨q1, q2⟩ := He.ba (List.all_eq_true.mp h t ht)
  exact ⟨of_decide_eq_true q1, of_decide_eq_true q2⟩
def isFn : G → Bool
  | .fn _ _ _ => true
  | .cls _ _ => true
  | .mil _ _ => true
  | .meth _ _ => true
  | _ => false
theorem fact_ok {X : Cx} {C : Cn} {k : Nat} {h : Heap} (KX : X.K.In h) (G0 : h.Ns mainGlobals X.mg) (hK : C.K = X.K) (hcv : C.cv = cvK X.K) {x : Str} {g : G} (hg : factB X.K x g = true) (hf : isFn g = false) : FactOf X C k x g := by
  cases g with
  | con d =>
    cases d with
    | str z =>
      obtain ⟨t, e⟩ := He.str_ok KX G0 hg
      exact ⟨.str z, _, e, ⟨t, rfl⟩, fun F => .str z⟩
    | int i =>
      obtain ⟨t, e⟩ := He.int_ok KX G0 hg
      exact ⟨.int i, _, e, ⟨t, rfl⟩, fun F => .int i⟩
    | kt xs =>
      obtain ⟨h1, h2⟩ := He.ba hg
      refine ⟨.ref (He.ga X.K x), _, He.glo_ok KX G0 h1, rfl, fun F => ?_⟩
      have q := He.tupB_ok h2 F
      rw [← hK] at q ⊢
      refine .kt ?_
      have e : (strDs xs).map (He.Dv.v C.K) = xs.map V.str := by
        unfold strDs
        rw [List.map_map]
        rfl
      rw [e] at q
      exact q
    | _ => cases hg
  | fn f np r => cases hf
  | cls f np => cases hf
  | mil f np => cases hf
  | meth f np => cases hf
  | exc c =>
    obtain ⟨h1, h⟩ := He.ba hg
    obtain ⟨h2, h3⟩ := He.ba h
    obtain ⟨e1, e2, e3, e4⟩ := He.exc_ok h3
    have e := of_decide_eq_true h1
    rw [e] at h2 e1 e2 e3 e4 ⊢
    have ec : C.cv c = He.ga X.K (excN c) := by rw [hcv]
    refine ⟨?_, ?_, ?_, ?_, ?_⟩
    · rw [ec]; exact He.glo_ok KX G0 h2
    · rw [ec]; exact e1
    · rw [ec]; exact e2
    · rw [ec]; exact e3
    · rw [ec]; exact e4
  | bf b =>
    obtain ⟨h1, h2⟩ := He.ba hg
    exact ⟨He.free_ok KX G0 h2, of_decide_eq_true h1⟩
  | ty t =>
    obtain ⟨h1, h2⟩ := He.ba hg
    refine ⟨He.free_ok KX G0 h1, ?_⟩
    cases e : tyN t with
    | none => rw [e] at h2; cases h2
    | some n => rw [e] at h2; exact ⟨n, rfl, of_decide_eq_true h2⟩
  | isi =>
    obtain ⟨h1, h2⟩ := He.ba hg
    exact ⟨He.free_ok KX G0 h2, of_decide_eq_true h1⟩
  | rng =>
    obtain ⟨h1, h2⟩ := He.ba hg
    exact ⟨He.free_ok KX G0 h2, of_decide_eq_true h1⟩
  | rvs =>
    obtain ⟨h1, h2⟩ := He.ba hg
    exact ⟨He.free_ok KX G0 h2, of_decide_eq_true h1⟩
  | zip =>
    obtain ⟨h1, h2⟩ := He.ba hg
    exact ⟨He.free_ok KX G0 h2, of_decide_eq_true h1⟩
  | ve =>
    obtain ⟨h1, h2⟩ := He.ba hg
    exact ⟨He.free_ok KX G0 h2, of_decide_eq_true h1⟩
/-- the whole: its globals, its defs -/
structure Prg where
  tab : List (Str × G)
  es : List Ent
def Prg.fds (p : Prg) (i : Nat) : Option FD := (p.es.find? fun e => e.id == i).map (·.fd)
noncomputable abbrev Prg.env (p : Prg) (n : Nat) : Env := envN p.fds n
/-- each function of the table stands among the defs -/
def Prg.fnOk (p : Prg) : Bool := p.tab.all fun q => match q.2 with
  | .fn f np r => p.es.any fun e => decide (e.d.at_ = (q.1, none)) && decide (e.id = f) && decide (e.ps.length = np) && decide (np = e.fd.np)
  | .cls f np => p.es.any fun e => decide (e.d.at_ = (("Kept" : Str), some ("__init__" : Str))) && decide (e.id = f) && decide (e.ps.length = np + 1)
  | .mil f np => p.es.any fun e => decide (e.d.at_ = (("Mill" : Str), some ("__init__" : Str))) && decide (e.id = f) && decide (e.ps.length = np + 1)
  | .meth f np => p.es.any fun e => decide (e.d.at_ = (("Mill" : Str), some q.1)) && decide (e.id = f) && decide (e.ps.length = np + 1)
  | _ => true
/-- a def that has an object: its class stands in the table -/
def Prg.obOk (p : Prg) : Bool := p.es.all fun e => decide (e.N.length ≤ e.os) || p.tab.any fun q => match q.2 with
  | .cls _ _ => decide (e.fd.oc = 0)
  | .mil _ _ => decide (e.fd.oc = 1)
  | _ => false
structure Prg.Ok (p : Prg) : Prop where
  es : ∀ e ∈ p.es, EntOk p.tab p.fds e
  fn : p.fnOk = true
  ob : p.obOk = true
section
variable {p : Prg} {P : Program} {w : World} {K : PySem.W.Frag} {h : Heap} {mg : Str → Option Value} {base : Heap}
theorem sp_none {np : Nat} {ca cv : Nat → Addr} {vs : List V} {H : Hp} {Q : VK} {E : XK} : ¬ spG K ca cv np (fun _ => none) vs H Q E := fun ⟨_, _, _, _, _, _, _, _, _, e, _⟩ => nomatch e
/-- every def, at every depth -/
theorem prg_ok (ok : p.Ok) (KX : K.In h) (G0 : h.Ns mainGlobals mg) (ht : ∀ q ∈ p.tab, factB K q.1 q.2 = true) (hx : excB K (excsOf p.tab) = true) (hd : ∀ e ∈ p.es, ∃ fd, FunD K e.d.name e.d.qual e.d.params e.d.body e.d.scope (e.d.dvs K) (e.d.kws K) (He.fAd K e.d.at_) fd) :
    ∀ (n : Nat) (e : Ent), e ∈ p.es → ∃ fd, FunD K e.d.name e.d.qual e.d.params e.d.body e.d.scope [] [] (He.fAd K e.d.at_) fd ∧ FnOk P w K mg base (L2.CX P w) (2 * n + 50) (He.fAd K e.d.at_) fd e.ps (spG K (caK K) (cvK K) e.ps.length (p.env n e.id)) := by
  have fun_ : ∀ e ∈ p.es, ∃ fd, FunD K e.d.name e.d.qual e.d.params e.d.body e.d.scope [] [] (He.fAd K e.d.at_) fd := fun e he => by
    obtain ⟨fd, F⟩ := hd e he
    have o := (ok.es e he).ok
    unfold Ent.ok at o
    simp only [Bool.and_eq_true, Bool.or_eq_true, decide_eq_true_eq, Bool.not_eq_true'] at o
    obtain ⟨⟨⟨⟨⟨⟨o1, o3⟩, o4⟩, o5⟩, o6⟩, o7⟩, _⟩ := o
    have d1 : e.d.dvs K = [] := by unfold He.DefD.dvs; rw [List.isEmpty_iff.mp o3]; rfl
    have d2 : e.d.kws K = [] := by unfold He.DefD.kws; rw [List.isEmpty_iff.mp o4]; rfl
    rw [d1, d2] at F
    exact ⟨fd, F⟩
  intro n
  induction n with
  | zero =>
    intro e he
    obtain ⟨fd, F⟩ := fun_ e he
    exact ⟨fd, F, ⟨fun vs H Q E h => (sp_none h).elim, fun A outer s H args us vs Q E _ _ _ _ h => (sp_none h).elim⟩⟩
  | succ n ih =>
    intro e he
    obtain ⟨fd, F⟩ := fun_ e he
    have eo := ok.es e he
    have o := eo.ok
    unfold Ent.ok at o
    simp only [Bool.and_eq_true, Bool.or_eq_true, decide_eq_true_eq, Bool.not_eq_true'] at o
    obtain ⟨⟨⟨⟨⟨⟨o1, o3⟩, o4⟩, o5⟩, o6⟩, o7⟩, _⟩ := o
    have S := C8.fnScope_by o1
    refine ⟨fd, F, ?_⟩
    have e1 : p.env (n + 1) e.id = runF (p.env n) e.fd := by
      funext args
      show (p.fds e.id).bind (fun fd => runF (envN p.fds n) fd args) = _
      rw [eo.pt]; rfl
    rw [e1, show 2 * (n + 1) + 50 = (2 * n + 50 + 1) + 1 by omega, ← o6]
    refine F.ok S (fun vs H Q E h => by obtain ⟨_, _, _, _, _, _, _, _, hl, _⟩ := h; rw [hl, o6]) fun cdv A outer s H vs Q E hr hsp => ?_
    have hle : e.fd.np ≤ e.fd.n := by
      rw [o5, o6]
      have := congrArg List.length S.pre
      rw [List.length_take] at this
      omega
    have both : ∃ (C : Cn) (lks : List Nat), C.K = K ∧ C.Γ = p.env n ∧ C.n = e.N.length ∧ C.oc = e.fd.oc ∧ C.os = e.os ∧ C.cv = cvK K ∧ C.ca = caK K ∧ (∀ i, i ∉ lks → C.lk i = none) ∧ C.xa = none ∧ C.mo = e.fd.meth ∧ tSs C (fun cls d _ H => E cls d H) lks e.fd.body { nx := fun _ H' => Q .non H', rt := Q } (L2.start e.N vs) H := by
      cases hme : e.fd.meth with
      | false => exact spG_run (N := e.N) (os := e.os) hme o5 hle hsp
      | true =>
        rcases o7 with z | ⟨z1, z2⟩
        · rw [hme] at z; cases z
        · rw [z1]
          exact spG_runM (N := e.N) hme o5 z2 hle hsp
    obtain ⟨C, lks, c1, c2, c3, c4, c5, c6, c7, c8, c10, c11, c9⟩ := both
    refine ⟨_, ?_, c9⟩
    have O : Oks (ctOf p.tab e) (cxOf (L2.CX P w) P w K mg base e.N e.d.qual e.d.scope (He.fAd K e.d.at_) cdv A outer s H E) C (2 * n + 50) (fun cls d _ H => E cls d H) lks := by
      refine ⟨⟨rfl, S.nd, rfl, c3, c5, c4, c1.symm, fun _ => hr, (by have h1 := hr.un; show (A.deeper (envOfC e.d.qual e.d.scope s.heap.objs.size (He.fAd K e.d.at_) cdv)).units + 1000 < cLine; omega), by omega, fun _ => rfl, fun _ => c10, (by rw [c1, c6]; exact excB_ok hx), fun a c z => (nomatch c10.symm.trans z), fun x g hl => ?_, fun z => ?_, c11⟩, takes_of rfl rfl rfl rfl, passes_of rfl, c8, fun _ => rfl, rfl, rfl, S.kind⟩
      · have hm : (x, g) ∈ p.tab := PySem.mem_of_lookup hl
        have hb := ht _ hm
        cases hf : isFn g with
        | false => exact fact_ok (h := h) KX G0 c1 c6 hb hf
        | true =>
          cases g with
          | fn f np r =>
            have hx := List.all_eq_true.mp ok.fn _ hm
            obtain ⟨e', he', hx⟩ := List.any_eq_true.mp hx
            simp only [Bool.and_eq_true, decide_eq_true_eq] at hx
            obtain ⟨⟨⟨x1, x2⟩, x3⟩, x4⟩ := hx
            obtain ⟨fd', F', FO⟩ := ih e' he'
            have ea : He.fAd K e'.d.at_ = He.ga K x := by rw [x1]; rfl
            have gx : mg x = some (.ref (He.ga K x)) := He.glo_ok KX G0 (show (He.Fa.glo x).ok K = true from hb)
            refine ⟨He.fAd K e'.d.at_, fd', e'.ps, by rw [ea]; exact gx, F'.kp, F'.bindsN (ok.es e' he').bd, ?_⟩
            rw [c1, c7, c6, c2, ← x3, ← x2]
            exact FO
          | cls f np =>
            have hx := List.all_eq_true.mp ok.fn _ hm
            obtain ⟨e', he', hx⟩ := List.any_eq_true.mp hx
            simp only [Bool.and_eq_true, decide_eq_true_eq] at hx
            obtain ⟨⟨x1, x2⟩, x3⟩ := hx
            obtain ⟨fd', F', FO⟩ := ih e' he'
            obtain ⟨b1, b⟩ := He.ba hb
            obtain ⟨b2, b⟩ := He.ba b
            obtain ⟨b3, b4⟩ := He.ba b
            have b1 := of_decide_eq_true b1
            subst b1
            obtain ⟨q1, q2, q3⟩ := obB_ok b3
            refine ⟨by rw [c7]; exact He.glo_ok KX G0 b2, by rw [c1, c7]; exact q1, by rw [c1, c7]; exact q2, by rw [c1, c7]; exact q3, He.fAd K e'.d.at_, fd', e'.ps, by rw [c7, x1]; exact He.mkr_ok b4, F'.bindsN (ok.es e' he').bd, ?_⟩
            rw [c1, c7, c6, c2, ← x3, ← x2]
            exact FO
          | mil f np =>
            have hx := List.all_eq_true.mp ok.fn _ hm
            obtain ⟨e', he', hx⟩ := List.any_eq_true.mp hx
            simp only [Bool.and_eq_true, decide_eq_true_eq] at hx
            obtain ⟨⟨x1, x2⟩, x3⟩ := hx
            obtain ⟨fd', F', FO⟩ := ih e' he'
            obtain ⟨b1, b⟩ := He.ba hb
            obtain ⟨b2, b⟩ := He.ba b
            obtain ⟨b3, b4⟩ := He.ba b
            have b1 := of_decide_eq_true b1
            subst b1
            obtain ⟨q1, q2⟩ := clsB_ok b3
            refine ⟨by rw [c7]; exact He.glo_ok KX G0 b2, by rw [c1, c7]; exact q1, by rw [c1, c7]; exact q2, He.fAd K e'.d.at_, fd', e'.ps, by rw [c7, x1]; exact He.mkr_ok b4, F'.bindsN (ok.es e' he').bd, ?_⟩
            rw [c1, c7, c6, c2, ← x3, ← x2]
            exact FO
          | meth f np =>
            have hx := List.all_eq_true.mp ok.fn _ hm
            obtain ⟨e', he', hx⟩ := List.any_eq_true.mp hx
            simp only [Bool.and_eq_true, decide_eq_true_eq] at hx
            obtain ⟨⟨x1, x2⟩, x3⟩ := hx
            obtain ⟨fd', F', FO⟩ := ih e' he'
            refine ⟨He.fAd K e'.d.at_, fd', e'.ps, by rw [c7, x1]; exact He.meth_ok hb, F'.bindsN (ok.es e' he').bd, ?_⟩
            rw [c1, c7, c6, c2, ← x3, ← x2]
            exact FO
          | _ => cases hf
      · have hob := List.all_eq_true.mp ok.ob e he
        rw [Bool.or_eq_true, decide_eq_true_eq] at hob
        rcases hob with hob | hob
        · have z : e.os < e.N.length := z
          omega
        · obtain ⟨q, hq, hob⟩ := List.any_eq_true.mp hob
          have hb := ht _ hq
          obtain ⟨qx, qg⟩ := q
          rw [c1, c7, c4]
          cases qg with
          | cls f np =>
            have ho : e.fd.oc = 0 := of_decide_eq_true hob
            obtain ⟨b1, b⟩ := He.ba hb
            obtain ⟨b2, b⟩ := He.ba b
            obtain ⟨b3, b4⟩ := He.ba b
            obtain ⟨q1, _⟩ := obB_ok b3
            show Cls K (caK K e.fd.oc) ∧ ∀ f ∈ flds e.fd.oc, NoAttr K (caK K e.fd.oc) f
            rw [ho]
            exact ⟨q1.cls, q1.noat⟩
          | mil f np =>
            have ho : e.fd.oc = 1 := of_decide_eq_true hob
            obtain ⟨b1, b⟩ := He.ba hb
            obtain ⟨b2, b⟩ := He.ba b
            obtain ⟨b3, b4⟩ := He.ba b
            show Cls K (caK K e.fd.oc) ∧ ∀ f ∈ flds e.fd.oc, NoAttr K (caK K e.fd.oc) f
            rw [ho]
            exact clsB_ok b3
          | _ => cases hob
    exact comD_ok (comS_ok 40) O eo.body
end
end Mi
namespace Mi
open PySem PySem.Spec PyProof.Rows L2
/-! ### the law's end -/
def spL (K : PySem.W.Frag) : Sp := fun vs H Q _ => ∃ (a : Addr) (ns : List Int), vs = [.ref a] ∧ ns.length ≤ 63 ∧ SqL K H a (ns.map V.int) ∧ ∀ H', Q (.bl true) H'
theorem law_sp {p : Prg} {n idl : Nat} {K : PySem.W.Frag} {ca cv : Nat → Addr} (hl : ∀ ns : List Int, ns.length ≤ 63 → ∃ o, p.env n idl [.cl (.val (.scr ns))] = some (.ok (.cl (.val (.bl true))) o)) (vs : List V) (H : Hp) (Q : VK) (E : XK) (h : spL K vs H Q E) : spG K ca cv 1 (p.env n idl) vs H Q E := by
  obtain ⟨a, ns, rfl, hn, hS, hQ⟩ := h
  obtain ⟨o, ho⟩ := hl ns hn
  have ha : AgsR K ca H H [V.ref a] [.cl (.val (.scr ns))] [] := ⟨[], [], ⟨(show Rep K ca H (.ref a) (.scr ns) from .scr hS), rfl⟩, rfl, rfl⟩
  refine ⟨H, [.cl (.val (.scr ns))], [], _, fun _ _ e => e, ha, List.nodup_nil, (fun _ z => nomatch z), rfl, ho, ?_⟩
  intro u F' H' fo fr x ou ag nd hfo
  obtain ⟨g, _⟩ := ag
  rw [rep_bl (show Rep K ca F' u (.bl true) from g)]
  exact hQ H'
/-- what the head wants -/
theorem law_ends {p : Prg} {P : Program} {w : World} {K : PySem.W.Frag} {h : Heap} {mg : Str → Option Value} (ok : p.Ok) (KX : K.In h) (G0 : h.Ns mainGlobals mg) (ht : ∀ q ∈ p.tab, factB K q.1 q.2 = true) (hx : excB K (excsOf p.tab) = true) (hd : ∀ e ∈ p.es, ∃ fd, FunD K e.d.name e.d.qual e.d.params e.d.body e.d.scope (e.d.dvs K) (e.d.kws K) (He.fAd K e.d.at_) fd)
    {e : Ent} (he : e ∈ p.es) {x l : Str} (hp : e.ps = [x]) (hat : e.d.at_ = (l, none)) (hg : (He.Fa.glo l).ok K = true) {f : Addr} (hf : mg l = some (.ref f)) {n : Nat} (hl : ∀ ns : List Int, ns.length ≤ 63 → ∃ o, p.env n e.id [.cl (.val (.scr ns))] = some (.ok (.cl (.val (.bl true))) o)) :
    ∃ fd : FuncData, (∀ (s : Shared) (v : Value), BindsTo s fd ⟨[v], []⟩ [(x, v)]) ∧ ∀ base : Heap, K.In base → base.Ns mainGlobals mg → FnOk P w K mg base (L2.CX P w) (2 * n + 50) f fd [x] (spL K) := by
  have ea : He.fAd K e.d.at_ = f := by
    rw [hat]
    have := hf.symm.trans (He.glo_ok KX G0 hg)
    cases this
    rfl
  obtain ⟨fd, F, _⟩ := prg_ok (P := P) (w := w) (base := h) ok KX G0 ht hx hd n e he
  refine ⟨fd, fun s v => ?_, fun base KB GB => ?_⟩
  · have := F.bindsA (ok.es e he).bd s [v] (by rw [hp]; rfl)
    rw [hp] at this
    exact this
  · obtain ⟨fd2, F2, FO⟩ := prg_ok (P := P) (w := w) (base := base) ok KB GB ht hx hd n e he
    have e2 : fd2 = fd := by
      obtain ⟨oc, od, dV, kV, doc, pm, an, cdv, ct, osl, e1, l1, _⟩ := F.ex
      obtain ⟨oc', od', dV', kV', doc', pm', an', cdv', ct', osl', e1', l1', _⟩ := F2.ex
      rw [l1] at l1'
      cases l1'
      rfl
    subst e2
    rw [ea, hp] at FO
    exact FO.imp (law_sp hl)
theorem cx_no {P : Program} {w : World} (outer : List PySem.Env) (H : Hp) (s : Shared) (e : Value) (s' : Shared) (h : L2.CX P w outer H s (fun _ _ _ => False) e s') : False := by
  obtain ⟨_, _, _, _, _, _, _, _, _, _, _, _, z⟩ := h
  exact z
theorem no_exc {P : Program} {w : World} {K : PySem.W.Frag} {mg : Str → Option Value} {base : Heap} {k : Nat} {f : Addr} {fd : FuncData} {ps : List Str} (F : FnOk P w K mg base (L2.CX P w) k f fd ps (spL K)) : FnOk P w K mg base L2.CX0 k f fd ps (spL K) := by
  refine ⟨F.len, fun A outer s H args us vs Q E hr e0 hb r hsp => ?_⟩
  refine codeAny_mono (F.run A outer s H args us vs Q (fun _ _ _ => False) hr e0 hb r hsp) fun r s' h => ?_
  cases r with
  | ok o => cases o <;> exact h
  | error e => exact (cx_no outer H s e s' h).elim
end Mi
namespace Mi
open PySem
/-! ### how terms are reckoned: rules for simp -/
theorem bnd_congr {α β : Type} {x x' : Option (R α)} {k : α → S → Option (R β)} (h : x = x') : bnd x k = bnd x' k := by rw [h]
theorem outR_congr {α : Type} {x x' : Option (R α)} {k : α → S → Option Out} (h : x = x') : outR x k = outR x' k := by rw [h]
def nxt (o : Option Out) (k : S → Option Out) : Option Out := match o with
  | some (.nx s) => k s
  | o => o
theorem nxt_congr {x x' : Option Out} {k : S → Option Out} (h : x = x') : nxt x k = nxt x' k := by rw [h]
@[simp] theorem nxt_nx (s : S) (k : S → Option Out) : nxt (some (.nx s)) k = k s := rfl
@[simp] theorem nxt_rt (a : Ag) (s : S) (k : S → Option Out) : nxt (some (.rt a s)) k = some (.rt a s) := rfl
@[simp] theorem nxt_ex (c : Nat) (s : S) (k : S → Option Out) : nxt (some (.ex c s)) k = some (.ex c s) := rfl
@[simp] theorem nxt_bk (s : S) (k : S → Option Out) : nxt (some (.bk s)) k = some (.bk s) := rfl
@[simp] theorem nxt_ct (s : S) (k : S → Option Out) : nxt (some (.ct s)) k = some (.ct s) := rfl
@[simp] theorem gt_0 (a : Cl) (l : S) : gt (a :: l) 0 = a := rfl
@[simp] theorem gt_s (a : Cl) (l : S) (n : Nat) : gt (a :: l) (n + 1) = gt l n := rfl
@[simp] theorem cont_fr (s : S) (c : Cl) : cont s (.fr c) = c := rfl
@[simp] theorem cont_pt (s : S) (i : Nat) : cont s (.pt i) = gt s i := rfl
/-! results -/
@[simp] theorem toV_none : toV none = none := rfl
@[simp] theorem toV_ex (c : Nat) (s : S) : toV (some (.ex c s)) = some (.ex c s) := rfl
@[simp] theorem toV_val (d : D) (s : S) : toV (some (.ok (.fr (.val d)) s)) = some (.ok d s) := rfl
@[simp] theorem toV_lst (xs : List D) (s : S) : toV (some (.ok (.fr (.lst xs)) s)) = some (.ok (.lst xs) s) := rfl
@[simp] theorem toV_dct (ks : List Str) (xs : List D) (s : S) : toV (some (.ok (.fr (.dct ks xs)) s)) = some (.ok (.dct ks xs) s) := rfl
@[simp] theorem toV_pt (i : Nat) (s : S) : toV (some (.ok (.pt i) s)) = (gt s i).fz.map fun d => .ok d (s.set i (.val d)) := rfl
@[simp] theorem toO_none : toO none = none := rfl
@[simp] theorem toO_ex (c : Nat) (s : S) : toO (some (.ex c s)) = some (.ex c s) := rfl
@[simp] theorem toO_val (d : D) (s : S) : toO (some (.ok (.fr (.val d)) s)) = some (.ok (.fr (.val d)) s) := rfl
@[simp] theorem toO_lst (xs : List D) (s : S) : toO (some (.ok (.fr (.lst xs)) s)) = some (.ok (.fr (.val (.lst xs))) s) := rfl
@[simp] theorem toO_dct (ks : List Str) (xs : List D) (s : S) : toO (some (.ok (.fr (.dct ks xs)) s)) = some (.ok (.fr (.val (.dct ks xs))) s) := rfl
@[simp] theorem toO_pt (i : Nat) (s : S) : toO (some (.ok (.pt i) s)) = some (.ok (.pt i) s) := rfl
@[simp] theorem toW_none : toW none = none := rfl
@[simp] theorem toW_ex (c : Nat) (s : S) : toW (some (.ex c s)) = some (.ex c s) := rfl
@[simp] theorem toW_fr (c : Cl) (s : S) : toW (some (.ok (.fr c) s)) = some (.ok c s) := rfl
@[simp] theorem toW_pt (i : Nat) (s : S) : toW (some (.ok (.pt i) s)) = (gt s i).fz.map fun d => .ok (.val d) (s.set i (.val d)) := rfl
@[simp] theorem fz_val (d : D) : (Cl.val d).fz = some d := rfl
@[simp] theorem fz_lst (xs : List D) : (Cl.lst xs).fz = some (.lst xs) := rfl
@[simp] theorem fz_dct (ks : List Str) (xs : List D) : (Cl.dct ks xs).fz = some (.dct ks xs) := rfl
@[simp] theorem own_val (d : D) : (Cl.val d).own = false := rfl
@[simp] theorem own_un : Cl.un.own = false := rfl
@[simp] theorem own_lst (xs : List D) : (Cl.lst xs).own = true := rfl
@[simp] theorem own_dct (ks : List Str) (xs : List D) : (Cl.dct ks xs).own = true := rfl
/-- a slot is read -/
def rd (c : Cl) (i : Nat) (s : S) : Option (R Ro) := match c with
  | .val d => some (.ok (.fr (.val d)) s)
  | .lst _ => some (.ok (.pt i) s)
  | .dct _ _ => some (.ok (.pt i) s)
  | _ => none
@[simp] theorem rd_val (d : D) (i : Nat) (s : S) : rd (.val d) i s = some (.ok (.fr (.val d)) s) := rfl
@[simp] theorem rd_lst (d : List D) (i : Nat) (s : S) : rd (.lst d) i s = some (.ok (.pt i) s) := rfl
@[simp] theorem rd_dct (ks : List Str) (d : List D) (i : Nat) (s : S) : rd (.dct ks d) i s = some (.ok (.pt i) s) := rfl
def fr? (o : Option Cl) (s : S) : Option (R Ro) := o.map fun c => .ok (.fr c) s
@[simp] theorem fr_some (c : Cl) (s : S) : fr? (some c) s = some (.ok (.fr c) s) := rfl
def bl? (o : Option Bool) (s : S) : Option (R Ro) := o.map fun c => .ok (.fr (.val (.bl c))) s
@[simp] theorem bl_some (c : Bool) (s : S) : bl? (some c) s = some (.ok (.fr (.val (.bl c))) s) := rfl
def tr? (o : Option Bool) (s : S) : Option (R Bool) := o.map fun c => .ok c s
@[simp] theorem tr_some (c : Bool) (s : S) : tr? (some c) s = some (.ok c s) := rfl
section
variable (Γ : Env) (s : S)
theorem din_ev' (a b : CE) (s : S) : ev Γ (.din a b) s = bnd (toV (ev Γ a s)) fun k s => bnd (toO (ev Γ b s)) fun x s => (match k with
    | .str k => (asD (cont s x)).map fun (p : List Str × List D) => (dlook k p.1 p.2).isSome ^^ false
    | _ => none).map fun b => .ok (.fr (.val (.bl b))) s := by
  simp only [Bool.xor_false]
  rfl
theorem dnin_ev' (a b : CE) (s : S) : ev Γ (.dnin a b) s = bnd (toV (ev Γ a s)) fun k s => bnd (toO (ev Γ b s)) fun x s => (match k with
    | .str k => (asD (cont s x)).map fun (p : List Str × List D) => (dlook k p.1 p.2).isSome ^^ true
    | _ => none).map fun b => .ok (.fr (.val (.bl b))) s := by
  simp only [Bool.xor_true]
  rfl
@[simp] theorem ev_v (i : Nat) : ev Γ (.v i) s = rd (gt s i) i s := by
  show (match gt s i with
    | .val d => some (R.ok (Ro.fr (.val d)) s)
    | .lst _ => some (.ok (.pt i) s)
    | .dct _ _ => some (.ok (.pt i) s)
    | _ => none) = _
  cases gt s i <;> rfl
@[simp] theorem ev_c (d : D) : ev Γ (.c d) s = some (.ok (.fr (.val d)) s) := rfl
@[simp] theorem ev_g (x : Str) (d : D) : ev Γ (.g x d) s = some (.ok (.fr (.val d)) s) := rfl
@[simp] theorem ev_bin (o : BO) (a b : CE) : ev Γ (.bin o a b) s = bnd (toO (ev Γ a s)) fun x s => bnd (toO (ev Γ b s)) fun y s => fr? (binop o (cont s x) (cont s y)) s := rfl
def negR (d : D) (s : S) : Option (R Ro) := match d with
  | .int i => some (.ok (.fr (.val (.int (-i)))) s)
  | _ => none
@[simp] theorem negR_int (i : Int) : negR (.int i) s = some (.ok (.fr (.val (.int (-i)))) s) := rfl
@[simp] theorem ev_neg (a : CE) : ev Γ (.neg a) s = bnd (toV (ev Γ a s)) negR := rfl
@[simp] theorem ev_cmp (o : CO) (a b : CE) : ev Γ (.cmp o a b) s = bnd (toO (ev Γ a s)) fun x s => bnd (toO (ev Γ b s)) fun y s => bl? (cmpop o (cont s x) (cont s y)) s := rfl
def chnR (o : Option Bool) (s : S) (k : S → Option (R Ro)) : Option (R Ro) := match o with
  | some true => k s
  | some false => some (.ok (.fr (.val (.bl false))) s)
  | none => none
@[simp] theorem chnR_t (k : S → Option (R Ro)) : chnR (some true) s k = k s := rfl
@[simp] theorem chnR_f (k : S → Option (R Ro)) : chnR (some false) s k = some (.ok (.fr (.val (.bl false))) s) := rfl
@[simp] theorem ev_chn (o p : CO) (a b e : CE) : ev Γ (.chn o p a b e) s = bnd (toV (ev Γ a s)) fun x s => bnd (toV (ev Γ b s)) fun y s => chnR (cmpop o (.val x) (.val y)) s fun s => bnd (toV (ev Γ e s)) fun z s => bl? (cmpop p (.val y) (.val z)) s := by
  show (bnd (toV (ev Γ a s)) fun x s => bnd (toV (ev Γ b s)) fun y s => match cmpop o (.val x) (.val y) with
    | some true => bnd (toV (ev Γ e s)) fun z s => (cmpop p (.val y) (.val z)).map fun c => R.ok (Ro.fr (.val (.bl c))) s
    | some false => some (.ok (.fr (.val (.bl false))) s)
    | none => none) = _
  congr 1
def andR (x : D) (s : S) (k : S → Option (R Ro)) : Option (R Ro) := match x with
  | .bl true => k s
  | .bl false => some (.ok (.fr (.val (.bl false))) s)
  | _ => none
@[simp] theorem andR_t (k : S → Option (R Ro)) : andR (.bl true) s k = k s := rfl
@[simp] theorem andR_f (k : S → Option (R Ro)) : andR (.bl false) s k = some (.ok (.fr (.val (.bl false))) s) := rfl
def orR (x : D) (s : S) (k : S → Option (R Ro)) : Option (R Ro) := match x with
  | .bl false => k s
  | .bl true => some (.ok (.fr (.val (.bl true))) s)
  | _ => none
@[simp] theorem orR_f (k : S → Option (R Ro)) : orR (.bl false) s k = k s := rfl
@[simp] theorem orR_t (k : S → Option (R Ro)) : orR (.bl true) s k = some (.ok (.fr (.val (.bl true))) s) := rfl
@[simp] theorem ev_and (a b : CE) : ev Γ (.and a b) s = bnd (toV (ev Γ a s)) fun x s => andR x s fun s => bnd (toV (ev Γ b s)) fun y s => some (.ok (.fr (.val y)) s) := rfl
@[simp] theorem ev_or (a b : CE) : ev Γ (.or a b) s = bnd (toV (ev Γ a s)) fun x s => orR x s fun s => bnd (toV (ev Γ b s)) fun y s => some (.ok (.fr (.val y)) s) := rfl
def notR (x : D) (s : S) : Option (R Ro) := match x with
  | .bl b => some (.ok (.fr (.val (.bl (!b)))) s)
  | _ => none
@[simp] theorem notR_b (b : Bool) : notR (.bl b) s = some (.ok (.fr (.val (.bl (!b)))) s) := rfl
@[simp] theorem ev_not (a : CE) : ev Γ (.not a) s = bnd (toV (ev Γ a s)) notR := rfl
@[simp] theorem ev_ifx (t a b : CE) : ev Γ (.ifx t a b) s = bnd (evT Γ t s) fun k s => bnd (toV (if k then ev Γ a s else ev Γ b s)) fun y s => some (.ok (.fr (.val y)) s) := rfl
def seqR (l : List Aa) (f : List D → Cl) (s : S) : Option (R Ro) := (dats l).map fun ds => .ok (.fr (f ds)) s
@[simp] theorem ev_tup (es : List CE) : ev Γ (.tup es) s = bnd (evA Γ es s) fun l s => seqR l (fun ds => .val (.tup ds)) s := rfl
@[simp] theorem ev_lst (es : List CE) : ev Γ (.lst es) s = bnd (evA Γ es s) fun l s => seqR l .lst s := rfl
@[simp] theorem seqR_d (l : List Aa) (ds : List D) (f : List D → Cl) (h : dats l = some ds) : seqR l f s = some (.ok (.fr (f ds)) s) := by unfold seqR; rw [h]; rfl
@[simp] theorem dats_nil : dats [] = some [] := rfl
@[simp] theorem dats_cons (x : D) (l : List Aa) : dats (.d x :: l) = (dats l).map fun l => x :: l := rfl
def vl? (o : Option D) (s : S) : Option (R Ro) := o.map fun c => .ok (.fr (.val c)) s
@[simp] theorem vl_some (c : D) : vl? (some c) s = some (.ok (.fr (.val c)) s) := rfl
@[simp] theorem ev_ix (a b : CE) : ev Γ (.ix a b) s = bnd (toO (ev Γ a s)) fun x s => bnd (toV (ev Γ b s)) fun i s => vl? (ixop (cont s x) i) s := rfl
def dxR (c : Cl) (k : D) (s : S) : Option (R Ro) := match k with
  | .str k => vl? ((asD c).bind fun (p : List Str × List D) => dlook k p.1 p.2) s
  | _ => none
@[simp] theorem dxR_dct (ks : List Str) (xs : List D) (k : Str) : dxR (.dct ks xs) (.str k) s = vl? (dlook k ks xs) s := rfl
@[simp] theorem dxR_vdct (ks : List Str) (xs : List D) (k : Str) : dxR (.val (.dct ks xs)) (.str k) s = vl? (dlook k ks xs) s := rfl
def dnR (n : Bool) (c : Cl) (k : D) (s : S) : Option (R Ro) := match k with
  | .str k => bl? ((asD c).map fun (p : List Str × List D) => (dlook k p.1 p.2).isSome ^^ n) s
  | _ => none
@[simp] theorem dnR_dct (n : Bool) (ks : List Str) (xs : List D) (k : Str) : dnR n (.dct ks xs) (.str k) s = some (.ok (.fr (.val (.bl ((dlook k ks xs).isSome ^^ n)))) s) := rfl
@[simp] theorem dnR_vdct (n : Bool) (ks : List Str) (xs : List D) (k : Str) : dnR n (.val (.dct ks xs)) (.str k) s = some (.ok (.fr (.val (.bl ((dlook k ks xs).isSome ^^ n)))) s) := rfl
@[simp] theorem ev_dnew : ev Γ .dnew s = some (.ok (.fr (.dct [] [])) s) := rfl
def dct1R (o : Option D) (c : Cl) (s : S) : Option (R Ro) := match o, c with
  | some (.str z), .val d => some (.ok (.fr (.dct [z] [d])) s)
  | _, _ => none
@[simp] theorem dct1R_ok (z : Str) (d : D) : dct1R (some (.str z)) (.val d) s = some (.ok (.fr (.dct [z] [d])) s) := rfl
@[simp] theorem ev_dct1 (i : Nat) (j : Int) (k : Nat) : ev Γ (.dct1 i j k) s = dct1R (ixop (gt s i) (.int j)) (gt s k) s := rfl
@[simp] theorem ev_dix (a b : CE) : ev Γ (.dix a b) s = bnd (toO (ev Γ a s)) fun x s => bnd (toV (ev Γ b s)) fun i s => dxR (cont s x) i s := by
  show (bnd (toO (ev Γ a s)) fun x s => bnd (toV (ev Γ b s)) fun k s => (match k with
    | .str k => (asD (cont s x)).bind fun (p : List Str × List D) => dlook k p.1 p.2
    | _ => none).map fun d => R.ok (Ro.fr (.val d)) s) = _
  congr 1; funext x s; congr 1; funext k s
  cases k <;> rfl
@[simp] theorem ev_din (a b : CE) : ev Γ (.din a b) s = bnd (toV (ev Γ a s)) fun k s => bnd (toO (ev Γ b s)) fun x s => dnR false (cont s x) k s := by
  rw [din_ev' Γ a b s]
  congr 1; funext k s; congr 1; funext x s
  cases k <;> rfl
@[simp] theorem ev_dnin (a b : CE) : ev Γ (.dnin a b) s = bnd (toV (ev Γ a s)) fun k s => bnd (toO (ev Γ b s)) fun x s => dnR true (cont s x) k s := by
  rw [dnin_ev' Γ a b s]
  congr 1; funext k s; congr 1; funext x s
  cases k <;> rfl
@[simp] theorem ev_thw (c : CE) (i : Nat) : ev Γ (.thw c i) s = thwR (gt s i) i s (ev Γ c s) := rfl
theorem thwR_ok {xs rs : List D} {i : Nat} {s : S} (h1 : ∀ j, j ≠ i → (gt s j).own = false) (h2 : xs.all no1 = true) (h3 : rs.all flatD = true) :
    thwR (.lst xs) i s (some (.ok (.fr (.lst rs)) (s.set i (.val (.lst xs))))) = some (.ok (.fr (.lst rs)) s) := by
  unfold thwR
  dsimp only
  cases q : Classical.propDecidable (s.set i (.val (.lst xs)) = s.set i (.val (.lst xs)) ∧ (∀ j, j ≠ i → (gt s j).own = false) ∧ xs.all no1 = true ∧ rs.all flatD = true) with
  | isFalse h => exact absurd ⟨rfl, h1, h2, h3⟩ h
  | isTrue h => rfl
def pt? (k : Bool) (d : D) (s : S) : Option (R (Option Int)) := (part k d).map fun o => .ok o s
@[simp] theorem pt_int (k : Bool) (i : Int) : pt? k (.int i) s = some (.ok (some i) s) := rfl
@[simp] theorem pt_non : pt? true .non s = some (.ok none s) := rfl
@[simp] theorem ev_sl (a lo hi : CE) : ev Γ (.sl a lo hi) s = bnd (toO (ev Γ a s)) fun x s => bnd (bnd (toV (ev Γ lo s)) (pt? (isNonC lo))) fun l s => bnd (bnd (toV (ev Γ hi s)) (pt? (isNonC hi))) fun h s => fr? (slop (cont s x) l h) s := rfl
@[simp] theorem isNonC_c : isNonC (.c .non) = true := rfl
def revR (x : D) (s : S) : Option (R Ro) := match x with
  | .str z => if z.length ≤ sizeLine then some (.ok (.fr (.val (.str ⟨z.cps.toList.reverse.toArray⟩))) s) else none
  | _ => none
@[simp] theorem ev_rev (a : CE) : ev Γ (.rev a) s = bnd (toV (ev Γ a s)) revR := rfl
def fldR (c j : Nat) (x : D) (s : S) : Option (R Ro) := match x with
  | .obj c' xs => if c = c' then (xs[j]?).map fun d => .ok (.fr (.val d)) s else none
  | _ => none
@[simp] theorem ev_fld (a : CE) (c j : Nat) : ev Γ (.fld a c j) s = bnd (toV (ev Γ a s)) (fldR c j) := rfl
@[simp] theorem fldR_o (c j : Nat) (xs : List D) : fldR c j (.obj c xs) s = vl? xs[j]? s := by show (if c = c then _ else none) = _; rw [if_pos rfl]; rfl
@[simp] theorem ev_isi (a : CE) (t : Ty) : ev Γ (.isi a t) s = bnd (toO (ev Γ a s)) fun x s => bl? (isi (cont s x) t) s := rfl
@[simp] theorem ev_bf (b : BF) (es : List CE) : ev Γ (.bf b es) s = bnd (evO Γ es s) fun l s => fr? (bfop b (l.map (cont s))) s := rfl
/-! tests -/
@[simp] theorem evT_and (a b : CE) : evT Γ (.and a b) s = bnd (evT Γ a s) fun k s => if k then evT Γ b s else some (.ok false s) := rfl
@[simp] theorem evT_or (a b : CE) : evT Γ (.or a b) s = bnd (evT Γ a s) fun k s => if k then some (.ok true s) else evT Γ b s := rfl
@[simp] theorem evT_not (a : CE) : evT Γ (.not a) s = bnd (evT Γ a s) fun k s => some (.ok (!k) s) := rfl
def tsR (r : Option (R Ro)) : Option (R Bool) := bnd (toO r) fun x s => tr? (truth (cont s x)) s
@[simp] theorem tsR_none : tsR none = none := rfl
@[simp] theorem tsR_ex (c : Nat) : tsR (some (.ex c s)) = some (.ex c s) := rfl
@[simp] theorem tsR_bl (b : Bool) : tsR (some (.ok (.fr (.val (.bl b))) s)) = some (.ok b s) := rfl
@[simp] theorem tsR_val (d : D) : tsR (some (.ok (.fr (.val d)) s)) = tr? (truth (.val d)) s := rfl
@[simp] theorem tsR_lst (d : List D) : tsR (some (.ok (.fr (.lst d)) s)) = some (.ok (!d.isEmpty) s) := rfl
@[simp] theorem tsR_pt (i : Nat) : tsR (some (.ok (.pt i) s)) = tr? (truth (gt s i)) s := rfl
@[simp] theorem truth_lst (xs : List D) : truth (.lst xs) = some (!xs.isEmpty) := rfl
@[simp] theorem truth_vlst (xs : List D) : truth (.val (.lst xs)) = some (!xs.isEmpty) := rfl
@[simp] theorem truth_bl (b : Bool) : truth (.val (.bl b)) = some b := rfl
@[simp] theorem evT_v (i : Nat) : evT Γ (.v i) s = tsR (ev Γ (.v i) s) := rfl
@[simp] theorem evT_c (d : D) : evT Γ (.c d) s = tsR (ev Γ (.c d) s) := rfl
@[simp] theorem evT_cmp (o : CO) (a b : CE) : evT Γ (.cmp o a b) s = tsR (ev Γ (.cmp o a b) s) := rfl
@[simp] theorem evT_chn (o p : CO) (a b c : CE) : evT Γ (.chn o p a b c) s = tsR (ev Γ (.chn o p a b c) s) := rfl
@[simp] theorem evT_dix (a b : CE) : evT Γ (.dix a b) s = tsR (ev Γ (.dix a b) s) := rfl
@[simp] theorem evT_din (a b : CE) : evT Γ (.din a b) s = tsR (ev Γ (.din a b) s) := rfl
@[simp] theorem evT_dnin (a b : CE) : evT Γ (.dnin a b) s = tsR (ev Γ (.dnin a b) s) := rfl
@[simp] theorem evT_ix (a b : CE) : evT Γ (.ix a b) s = tsR (ev Γ (.ix a b) s) := rfl
@[simp] theorem evT_isi (a : CE) (t : Ty) : evT Γ (.isi a t) s = tsR (ev Γ (.isi a t) s) := rfl
@[simp] theorem evT_call (f : Nat) (es : List CE) : evT Γ (.call f es) s = tsR (ev Γ (.call f es) s) := rfl
@[simp] theorem evT_bf (b : BF) (es : List CE) : evT Γ (.bf b es) s = tsR (ev Γ (.bf b es) s) := rfl
@[simp] theorem evT_fld (a : CE) (c j : Nat) : evT Γ (.fld a c j) s = tsR (ev Γ (.fld a c j) s) := rfl
/-! arguments -/
@[simp] theorem evA_nil' : evA Γ [] s = some (.ok [] s) := rfl
theorem evA_cons (e : CE) (r : List CE) (h : isR e = none) : evA Γ (e :: r) s = bnd (toV (ev Γ e s)) fun d s => bnd (evA Γ r s) fun l s => some (.ok (.d d :: l) s) := by
  rw [evA, h]; rfl
@[simp] theorem evA_r (i : Nat) (r : List CE) : evA Γ (.r i :: r) s = if (gt s i).own then bnd (evA Γ r s) fun l s => some (.ok (.rf i :: l) s) else none := by
  rw [evA]; rfl
@[simp] theorem evA_v (i : Nat) (r : List CE) : evA Γ (.v i :: r) s = bnd (toV (ev Γ (.v i) s)) fun d s => bnd (evA Γ r s) fun l s => some (.ok (.d d :: l) s) := evA_cons Γ s _ r rfl
@[simp] theorem evA_c (i : D) (r : List CE) : evA Γ (.c i :: r) s = bnd (toV (ev Γ (.c i) s)) fun d s => bnd (evA Γ r s) fun l s => some (.ok (.d d :: l) s) := evA_cons Γ s _ r rfl
@[simp] theorem evA_dix (a b : CE) (r : List CE) : evA Γ (.dix a b :: r) s = bnd (toV (ev Γ (.dix a b) s)) fun d s => bnd (evA Γ r s) fun l s => some (.ok (.d d :: l) s) := evA_cons Γ s _ r rfl
@[simp] theorem evA_dnew (r : List CE) : evA Γ (.dnew :: r) s = bnd (toV (ev Γ .dnew s)) fun d s => bnd (evA Γ r s) fun l s => some (.ok (.d d :: l) s) := evA_cons Γ s _ r rfl
@[simp] theorem evA_ix (a b : CE) (r : List CE) : evA Γ (.ix a b :: r) s = bnd (toV (ev Γ (.ix a b) s)) fun d s => bnd (evA Γ r s) fun l s => some (.ok (.d d :: l) s) := evA_cons Γ s _ r rfl
@[simp] theorem evA_tup (a : List CE) (r : List CE) : evA Γ (.tup a :: r) s = bnd (toV (ev Γ (.tup a) s)) fun d s => bnd (evA Γ r s) fun l s => some (.ok (.d d :: l) s) := evA_cons Γ s _ r rfl
@[simp] theorem evA_lst (a : List CE) (r : List CE) : evA Γ (.lst a :: r) s = bnd (toV (ev Γ (.lst a) s)) fun d s => bnd (evA Γ r s) fun l s => some (.ok (.d d :: l) s) := evA_cons Γ s _ r rfl
@[simp] theorem evA_bin (o : BO) (a b : CE) (r : List CE) : evA Γ (.bin o a b :: r) s = bnd (toV (ev Γ (.bin o a b) s)) fun d s => bnd (evA Γ r s) fun l s => some (.ok (.d d :: l) s) := evA_cons Γ s _ r rfl
@[simp] theorem evA_neg (a : CE) (r : List CE) : evA Γ (.neg a :: r) s = bnd (toV (ev Γ (.neg a) s)) fun d s => bnd (evA Γ r s) fun l s => some (.ok (.d d :: l) s) := evA_cons Γ s _ r rfl
@[simp] theorem evA_call (f : Nat) (a : List CE) (r : List CE) : evA Γ (.call f a :: r) s = bnd (toV (ev Γ (.call f a) s)) fun d s => bnd (evA Γ r s) fun l s => some (.ok (.d d :: l) s) := evA_cons Γ s _ r rfl
@[simp] theorem evA_mt (m : MT) (o : CE) (a : List CE) (r : List CE) : evA Γ (.mt m o a :: r) s = bnd (toV (ev Γ (.mt m o a) s)) fun d s => bnd (evA Γ r s) fun l s => some (.ok (.d d :: l) s) := evA_cons Γ s _ r rfl
@[simp] theorem evA_bf (m : BF) (a : List CE) (r : List CE) : evA Γ (.bf m a :: r) s = bnd (toV (ev Γ (.bf m a) s)) fun d s => bnd (evA Γ r s) fun l s => some (.ok (.d d :: l) s) := evA_cons Γ s _ r rfl
@[simp] theorem evA_sl (a b c : CE) (r : List CE) : evA Γ (.sl a b c :: r) s = bnd (toV (ev Γ (.sl a b c) s)) fun d s => bnd (evA Γ r s) fun l s => some (.ok (.d d :: l) s) := evA_cons Γ s _ r rfl
@[simp] theorem evA_ifx (a b c : CE) (r : List CE) : evA Γ (.ifx a b c :: r) s = bnd (toV (ev Γ (.ifx a b c) s)) fun d s => bnd (evA Γ r s) fun l s => some (.ok (.d d :: l) s) := evA_cons Γ s _ r rfl
@[simp] theorem evA_or (a b : CE) (r : List CE) : evA Γ (.or a b :: r) s = bnd (toV (ev Γ (.or a b) s)) fun d s => bnd (evA Γ r s) fun l s => some (.ok (.d d :: l) s) := evA_cons Γ s _ r rfl
@[simp] theorem evA_and (a b : CE) (r : List CE) : evA Γ (.and a b :: r) s = bnd (toV (ev Γ (.and a b) s)) fun d s => bnd (evA Γ r s) fun l s => some (.ok (.d d :: l) s) := evA_cons Γ s _ r rfl
@[simp] theorem evA_cmp (o : CO) (a b : CE) (r : List CE) : evA Γ (.cmp o a b :: r) s = bnd (toV (ev Γ (.cmp o a b) s)) fun d s => bnd (evA Γ r s) fun l s => some (.ok (.d d :: l) s) := evA_cons Γ s _ r rfl
@[simp] theorem evA_isi (a : CE) (t : Ty) (r : List CE) : evA Γ (.isi a t :: r) s = bnd (toV (ev Γ (.isi a t) s)) fun d s => bnd (evA Γ r s) fun l s => some (.ok (.d d :: l) s) := evA_cons Γ s _ r rfl
@[simp] theorem evA_fld (a : CE) (c j : Nat) (r : List CE) : evA Γ (.fld a c j :: r) s = bnd (toV (ev Γ (.fld a c j) s)) fun d s => bnd (evA Γ r s) fun l s => some (.ok (.d d :: l) s) := evA_cons Γ s _ r rfl
@[simp] theorem evA_g (x : Str) (a : D) (r : List CE) : evA Γ (.g x a :: r) s = bnd (toV (ev Γ (.g x a) s)) fun d s => bnd (evA Γ r s) fun l s => some (.ok (.d d :: l) s) := evA_cons Γ s _ r rfl
@[simp] theorem evA_comp (a : CE) (x : Nat) (b : CE) (k : It) (t : CE) (r : List CE) : evA Γ (.comp a x b k t :: r) s = bnd (toV (ev Γ (.comp a x b k t) s)) fun d s => bnd (evA Γ r s) fun l s => some (.ok (.d d :: l) s) := evA_cons Γ s _ r rfl
@[simp] theorem evO_nil : evO Γ [] s = some (.ok [] s) := rfl
@[simp] theorem evO_cons (e : CE) (r : List CE) : evO Γ (e :: r) s = bnd (toO (ev Γ e s)) fun x s => bnd (evO Γ r s) fun l s => some (.ok (x :: l) s) := by rw [evO]; rfl
/-! methods -/
def mtM (m : MT) (c : Cl) (i : Nat) (l : List Aa) (s : S) : Option (R Ro) := ((dats l).bind fun ds => mutop m c ds).map fun p => .ok (.fr (.val p.1)) (s.set i p.2)
noncomputable def mtR (Γ : Env) (m : MT) (es : List CE) (o : Ro) (s : S) : Option (R Ro) := match o with
  | .pt i => if isLst (gt s i) then bnd (evA Γ es s) fun l s => mtM m (gt s i) i l s else none
  | _ => none
@[simp] theorem mtR_pt (m : MT) (es : List CE) (i : Nat) : mtR Γ m es (.pt i) s = if isLst (gt s i) then bnd (evA Γ es s) fun l s => mtM m (gt s i) i l s else none := rfl
@[simp] theorem isLst_l (xs : List D) : isLst (.lst xs) = true := rfl
@[simp] theorem mtM_app (xs : List D) (d : D) (i : Nat) : mtM .append (.lst xs) i [.d d] s = if xs.length < sizeLine then some (.ok (.fr (.val .non)) (s.set i (.lst (xs ++ [d])))) else none := by
  show ((if xs.length < sizeLine then some (D.non, Cl.lst (xs ++ [d])) else none).map fun (p : D × Cl) => R.ok (Ro.fr (.val p.1)) (s.set i p.2)) = _
  split <;> rfl
@[simp] theorem mtM_pop (xs : List D) (d : D) (i : Nat) : mtM .pop (.lst (xs ++ [d])) i [] s = some (.ok (.fr (.val d)) (s.set i (.lst xs))) := by
  show (((xs ++ [d]).getLast?.map fun e => (e, Cl.lst (xs ++ [d]).dropLast)).map fun (p : D × Cl) => R.ok (Ro.fr (.val p.1)) (s.set i p.2)) = _
  rw [List.getLast?_concat, List.dropLast_concat]; rfl
@[simp] theorem mtM_pop1 (d : D) (i : Nat) : mtM .pop (.lst [d]) i [] s = some (.ok (.fr (.val d)) (s.set i (.lst []))) := rfl
@[simp] theorem mtM_pop2 (xs ys : List D) (d : D) (i : Nat) : mtM .pop (.lst (xs ++ (ys ++ [d]))) i [] s = some (.ok (.fr (.val d)) (s.set i (.lst (xs ++ ys)))) := by rw [← List.append_assoc, mtM_pop]
@[simp] theorem mtM_pop3 (xs ys zs : List D) (d : D) (i : Nat) : mtM .pop (.lst (xs ++ (ys ++ (zs ++ [d])))) i [] s = some (.ok (.fr (.val d)) (s.set i (.lst (xs ++ (ys ++ zs))))) := by rw [← List.append_assoc, ← List.append_assoc, mtM_pop, List.append_assoc]
@[simp] theorem mtM_pop4 (xs : List D) (a d : D) (i : Nat) : mtM .pop (.lst (xs ++ [a, d])) i [] s = some (.ok (.fr (.val d)) (s.set i (.lst (xs ++ [a])))) := mtM_pop2 s xs [a] d i
@[simp] theorem mtM_pop5 (xs : List D) (a b d : D) (i : Nat) : mtM .pop (.lst (xs ++ [a, b, d])) i [] s = some (.ok (.fr (.val d)) (s.set i (.lst (xs ++ [a, b])))) := mtM_pop2 s xs [a, b] d i
@[simp] theorem mtM_pop6 (a d : D) (i : Nat) : mtM .pop (.lst [a, d]) i [] s = some (.ok (.fr (.val d)) (s.set i (.lst [a]))) := rfl
@[simp] theorem mtM_pop7 (a b d : D) (i : Nat) : mtM .pop (.lst [a, b, d]) i [] s = some (.ok (.fr (.val d)) (s.set i (.lst [a, b]))) := rfl
@[simp] theorem mtM_ins (xs : List D) (d : D) (i : Nat) : mtM .insert (.lst xs) i [.d (.int 0), .d d] s = if xs.length < sizeLine then some (.ok (.fr (.val .non)) (s.set i (.lst (d :: xs)))) else none := by
  show ((if xs.length < sizeLine ∧ (0 : Int) = 0 then some (D.non, Cl.lst (d :: xs)) else none).map fun (p : D × Cl) => R.ok (Ro.fr (.val p.1)) (s.set i p.2)) = _
  by_cases h : xs.length < sizeLine
  · rw [if_pos ⟨h, rfl⟩, if_pos h]; rfl
  · rw [if_neg fun z => h z.1, if_neg h]; rfl
@[simp] theorem mtM_ext (xs ys : List D) (i : Nat) : mtM .extend (.lst xs) i [.d (.lst ys)] s = if xs.length + ys.length ≤ sizeLine then some (.ok (.fr (.val .non)) (s.set i (.lst (xs ++ ys)))) else none := by
  show ((if xs.length + ys.length ≤ sizeLine then some (D.non, Cl.lst (xs ++ ys)) else none).map fun (p : D × Cl) => R.ok (Ro.fr (.val p.1)) (s.set i p.2)) = _
  split <;> rfl
@[simp] theorem mtM_extt (xs ys : List D) (i : Nat) : mtM .extend (.lst xs) i [.d (.tup ys)] s = if xs.length + ys.length ≤ sizeLine then some (.ok (.fr (.val .non)) (s.set i (.lst (xs ++ ys)))) else none := by
  show ((if xs.length + ys.length ≤ sizeLine then some (D.non, Cl.lst (xs ++ ys)) else none).map fun (p : D × Cl) => R.ok (Ro.fr (.val p.1)) (s.set i p.2)) = _
  split <;> rfl
@[simp] theorem ev_app (o : CE) (es : List CE) : ev Γ (.mt .append o es) s = bnd (ev Γ o s) (mtR Γ .append es) := rfl
@[simp] theorem ev_pop (o : CE) (es : List CE) : ev Γ (.mt .pop o es) s = bnd (ev Γ o s) (mtR Γ .pop es) := rfl
@[simp] theorem ev_ins (o : CE) (es : List CE) : ev Γ (.mt .insert o es) s = bnd (ev Γ o s) (mtR Γ .insert es) := rfl
@[simp] theorem ev_ext (o : CE) (es : List CE) : ev Γ (.mt .extend o es) s = bnd (ev Γ o s) (mtR Γ .extend es) := rfl
/-! calls with data -/
inductive DR where
  | ok (c : Cl)
  | ex (k : Nat)
/-- a def called with data -/
def dc (Γ : Env) (f : Nat) (ds : List D) : Option DR := match Γ f (ds.map fun d => .cl (.val d)) with
  | some (.ok (.cl c) _) => if c.fz.isSome then some (.ok c) else none
  | some (.ex k) => some (.ex k)
  | _ => none
def dcR (o : Option DR) (s : S) : Option (R Ro) := match o with
  | some (.ok c) => some (.ok (.fr c) s)
  | some (.ex k) => some (.ex k s)
  | none => none
@[simp] theorem dcR_ok (c : Cl) : dcR (some (.ok c)) s = some (.ok (.fr c) s) := rfl
@[simp] theorem dcR_ex (k : Nat) : dcR (some (.ex k)) s = some (.ex k s) := rfl
theorem back_d : ∀ (ds : List D) (o : List Ag), back s (ds.map Aa.d) o = s
  | [], o => by unfold back; rfl
  | d :: ds, [] => by
    show back s (.d d :: ds.map Aa.d) [] = s
    unfold back; rfl
  | d :: ds, x :: o => by
    show back s (.d d :: ds.map Aa.d) (x :: o) = s
    rw [back]
    · exact back_d ds o
    · intros; contradiction
theorem rfs_d : ∀ ds : List D, rfs (ds.map Aa.d) = []
  | [] => rfl
  | d :: ds => rfs_d ds
theorem call_d (f : Nat) (ds : List D) : (if (rfs (ds.map Aa.d)).Nodup ∧ ((rfs (ds.map Aa.d)).all fun i => (gt s i).own) = true then
      (match Γ f ((ds.map Aa.d).map (Aa.ag s)) with
      | some (.ok (.cl c) outs) => if c.fz.isSome then some (R.ok (Ro.fr c) (back s (ds.map Aa.d) outs)) else none
      | some (.ex c) => some (.ex c (lose s (rfs (ds.map Aa.d))))
      | _ => none) else none) = dcR (dc Γ f ds) s := by
  rw [rfs_d, if_pos ⟨List.nodup_nil, rfl⟩]
  have e : (ds.map Aa.d).map (Aa.ag s) = ds.map fun d => .cl (.val d) := by rw [List.map_map]; rfl
  rw [e]
  unfold dc
  cases Γ f (ds.map fun d => .cl (.val d)) with
  | none => rfl
  | some r =>
    cases r with
    | ex k => rfl
    | ok a o =>
      cases a with
      | obj c xs => rfl
      | cl c =>
        dsimp only
        rw [back_d]
        by_cases h : c.fz.isSome = true
        · rw [if_pos h, if_pos h]; rfl
        · rw [if_neg h, if_neg h]; rfl
/-- a call, by its evaluated arguments -/
def cl? (Γ : Env) (f : Nat) (l : List Aa) (s : S) : Option (R Ro) := if (rfs l).Nodup ∧ ((rfs l).all fun i => (gt s i).own) = true then
      (match Γ f (l.map (Aa.ag s)) with
      | some (.ok (.cl c) outs) => if c.fz.isSome then some (.ok (.fr c) (back s l outs)) else none
      | some (.ex c) => some (.ex c (lose s (rfs l)))
      | _ => none) else none
@[simp] theorem ev_call (f : Nat) (es : List CE) : ev Γ (.call f es) s = bnd (evA Γ es s) (cl? Γ f) := rfl
@[simp] theorem cl0 (f : Nat) : cl? Γ f [] s = dcR (dc Γ f []) s := call_d Γ s f []
@[simp] theorem cl1 (f : Nat) (a : D) : cl? Γ f [.d a] s = dcR (dc Γ f [a]) s := call_d Γ s f [a]
@[simp] theorem cl2 (f : Nat) (a b : D) : cl? Γ f [.d a, .d b] s = dcR (dc Γ f [a, b]) s := call_d Γ s f [a, b]
@[simp] theorem cl3 (f : Nat) (a b c : D) : cl? Γ f [.d a, .d b, .d c] s = dcR (dc Γ f [a, b, c]) s := call_d Γ s f [a, b, c]
@[simp] theorem cl4 (f : Nat) (a b c d : D) : cl? Γ f [.d a, .d b, .d c, .d d] s = dcR (dc Γ f [a, b, c, d]) s := call_d Γ s f [a, b, c, d]
@[simp] theorem cl5 (f : Nat) (a b c d e : D) : cl? Γ f [.d a, .d b, .d c, .d d, .d e] s = dcR (dc Γ f [a, b, c, d, e]) s := call_d Γ s f [a, b, c, d, e]
@[simp] theorem cl6 (f : Nat) (a b c d e g : D) : cl? Γ f [.d a, .d b, .d c, .d d, .d e, .d g] s = dcR (dc Γ f [a, b, c, d, e, g]) s := call_d Γ s f [a, b, c, d, e, g]
end
/-! statements -/
section
variable (Γ : Env) (n : Nat) (lk : List Nat) (oc : Nat) (s : S)
@[simp] theorem execs_nil : execs Γ n lk oc [] s = some (.nx s) := by rw [execs]
@[simp] theorem execs_cons (c : CS) (r : List CS) : execs Γ n lk oc (c :: r) s = nxt (exec Γ n lk oc c s) (execs Γ n lk oc r) := by
  rw [execs]
  unfold nxt
  cases exec Γ n lk oc c s with
  | none => rfl
  | some o => cases o <;> rfl
def setO (n : Nat) (lk : List Nat) (i : Nat) (c : Cl) (s : S) : Option Out := if i < n then (if i ∈ lk then none else some (.nx (s.set i c))) else (if i - n ≤ (ghosts n s).length ∧ i < s.length then some (.nx (s.set i c)) else none)
@[simp] theorem exec_asg (i : Nat) (e : CE) : exec Γ n lk oc (.asg i e) s = outR (toW (ev Γ e s)) (setO n lk i) := by rw [exec] <;> rfl
@[simp] theorem setO_lt {i : Nat} {c : Cl} (h : i < n) (h2 : i ∉ lk) : setO n lk i c s = some (.nx (s.set i c)) := by unfold setO; rw [if_pos h, if_neg h2]
@[simp] theorem exec_exp (e : CE) : exec Γ n lk oc (.exp e) s = outR (toV (ev Γ e s)) fun _ s => some (.nx s) := by rw [exec]
@[simp] theorem exec_ret (e : CE) : exec Γ n lk oc (.ret e) s = outR (toW (ev Γ e s)) fun c s => some (.rt (.cl c) s) := by rw [exec]
@[simp] theorem exec_retN : exec Γ n lk oc .retN s = some (.rt (.cl (.val .non)) s) := by rw [exec]
@[simp] theorem exec_ite (t : CE) (a b : List CS) : exec Γ n lk oc (.ite t a b) s = outR (evT Γ t s) fun k s => if k then execs Γ n lk oc a s else execs Γ n lk oc b s := by rw [exec]
theorem exec_whl (t : CE) (b : List CS) : exec Γ n lk oc (.whl t b) s = loop (evT Γ t) (execs Γ n lk oc b) s := by rw [exec]
@[simp] theorem exec_brk : exec Γ n lk oc .brk s = some (.bk s) := by rw [exec]
@[simp] theorem exec_cnt : exec Γ n lk oc .cnt s = some (.ct s) := by rw [exec]
@[simp] theorem exec_rse (c : Nat) : exec Γ n lk oc (.rse c) s = some (.ex c s) := by rw [exec]
def subO (d : D) (k : Nat) (j : D) (s : S) : Option Out := match j, gt s k with
  | .int j, .lst xs => (L2.ixN xs.length j).map fun m => .nx (s.set k (.lst (xs.set m d)))
  | _, _ => none
noncomputable def subR (Γ : Env) (i : CE) (d : D) (o : Ro) (s : S) : Option Out := match o with
  | .pt k => outR (toV (ev Γ i s)) (subO d k)
  | _ => none
@[simp] theorem subR_pt (i : CE) (d : D) (k : Nat) : subR Γ i d (.pt k) s = outR (toV (ev Γ i s)) (subO d k) := rfl
def dsubO (d : D) (k : Nat) (j : D) (s : S) : Option Out := match j, gt s k with
  | .str j, .dct ks xs => if ks.length < 1000 then some (.nx (s.set k (.dct (dkeys j ks) (dput j d ks xs)))) else none
  | _, _ => none
noncomputable def dsubR (Γ : Env) (i : CE) (d : D) (o : Ro) (s : S) : Option Out := match o with
  | .pt k => outR (toV (ev Γ i s)) (dsubO d k)
  | _ => none
@[simp] theorem dsubR_pt (i : CE) (d : D) (k : Nat) : dsubR Γ i d (.pt k) s = outR (toV (ev Γ i s)) (dsubO d k) := rfl
@[simp] theorem exec_dsub (a i e : CE) : exec Γ n lk oc (.dsub a i e) s = outR (toV (ev Γ e s)) fun d s => outR (ev Γ a s) (dsubR Γ i d) := by rw [exec] <;> rfl
theorem dsubO_ok {d : D} {k : Nat} {j : Str} {ks : List Str} {xs : List D} (hg : gt s k = .dct ks xs) (hl : ks.length < 1000) :
    dsubO d k (.str j) s = some (.nx (s.set k (.dct (dkeys j ks) (dput j d ks xs)))) := by
  unfold dsubO
  rw [hg]
  exact if_pos hl
@[simp] theorem exec_sub (a i e : CE) : exec Γ n lk oc (.sub a i e) s = outR (toV (ev Γ e s)) fun d s => outR (ev Γ a s) (subR Γ i d) := by rw [exec] <;> rfl
theorem subO_last {d x : D} {k : Nat} {xs : List D} (h : gt s k = .lst (xs ++ [x])) : subO d k (.int (-1)) s = some (.nx (s.set k (.lst (xs ++ [d])))) := by
  unfold subO
  rw [h]
  have e : L2.ixN (xs ++ [x]).length (-1) = some xs.length := by
    unfold L2.ixN
    rw [List.length_append, List.length_singleton, if_neg (by decide), if_pos (by omega)]
    congr 1
    omega
  dsimp only
  rw [e]
  show some (Out.nx (s.set k (.lst ((xs ++ [x]).set xs.length d)))) = _
  rw [List.set_append_right _ _ (Nat.le_refl _), Nat.sub_self]; rfl
def forO (n : Nat) (lk : List Nat) (x : Nat) (b : S → Option Out) (ds : List D) (s : S) : Option Out := if x < n ∧ x ∉ lk then forL (fun d s => s.set x (.val d)) b ds s else none
def subC (d : D) (k : Nat) (j : D) (c : Cl) (s : S) : Option Out := match j, c with
  | .int j, .lst xs => (L2.ixN xs.length j).map fun m => .nx (s.set k (.lst (xs.set m d)))
  | _, _ => none
@[simp] theorem subO_eq (d : D) (k : Nat) (j : D) : subO d k j s = subC d k j (gt s k) s := rfl
@[simp] theorem subC_last (d x : D) (k : Nat) (xs : List D) : subC d k (.int (-1)) (.lst (xs ++ [x])) s = some (.nx (s.set k (.lst (xs ++ [d])))) := by
  have e : L2.ixN (xs ++ [x]).length (-1) = some xs.length := by
    unfold L2.ixN
    rw [List.length_append, List.length_singleton, if_neg (by decide), if_pos (by omega)]
    congr 1
    omega
  show (L2.ixN (xs ++ [x]).length (-1)).map (fun m => Out.nx (s.set k (.lst ((xs ++ [x]).set m d)))) = _
  rw [e]
  show some (Out.nx (s.set k (.lst ((xs ++ [x]).set xs.length d)))) = _
  rw [List.set_append_right _ _ (Nat.le_refl _), Nat.sub_self]; rfl
@[simp] theorem subC_one (d x : D) (k : Nat) : subC d k (.int (-1)) (.lst [x]) s = some (.nx (s.set k (.lst [d]))) := subC_last s d x k []
@[simp] theorem subC_two (d x y : D) (k : Nat) (xs : List D) : subC d k (.int (-1)) (.lst (xs ++ [x, y])) s = some (.nx (s.set k (.lst (xs ++ [x, d])))) := by
  have := subC_last s d y k (xs ++ [x])
  simpa using this
@[simp] theorem forO_lt {x : Nat} {b : S → Option Out} {ds : List D} (h : x < n) (h2 : x ∉ lk) : forO n lk x b ds s = forL (fun d s => s.set x (.val d)) b ds s := by unfold forO; rw [if_pos ⟨h, h2⟩]
def sq? (f : D → Option (List D)) (d : D) (s : S) : Option (R (List D)) := (f d).map fun ds => .ok ds s
@[simp] theorem srcOf_r (f : D → Option (List D)) (r : Option (R Ro)) : srcOf f r = bnd (toV r) (sq? f) := rfl
theorem exec_for (x : Nat) (k : It) (e : CE) (b : List CS) : exec Γ n lk oc (.for x k e b) s = outR (srcOf (forItems k) (ev Γ e s)) (forO n lk x (execs Γ n lk oc b)) := by rw [exec] <;> rfl
end
/-! values -/
@[simp] theorem eqF_str (a b : Str) : eqF (.str a) (.str b) = (a == b) := rfl
theorem ofString_inj {a b : String} : Str.ofString a = Str.ofString b ↔ a = b := by
  constructor
  · intro h
    rw [Str.ofString_eq_toList, Str.ofString_eq_toList] at h
    have h1 : (a.toList.map Char.toNat).toArray = (b.toList.map Char.toNat).toArray := congrArg Str.cps h
    have h2 := congrArg Array.toList h1
    have h3 : a.toList.map Char.toNat = b.toList.map Char.toNat := h2
    have h4 : a.toList = b.toList := by
      have inj : Function.Injective Char.toNat := fun x y h => by
        apply Char.ext
        apply UInt32.toNat_inj.mp
        exact h
      exact (List.map_inj_right (fun x y h => inj h)).mp h3
    exact String.toList_inj.mp h4
  · rintro rfl; rfl
@[simp] theorem ofString_beq (a b : String) : (Str.ofString a == Str.ofString b) = (a == b) := by
  by_cases h : a = b
  · subst h; simp
  · rw [beq_eq_false_iff_ne.mpr h, beq_eq_false_iff_ne]
    exact fun z => h (ofString_inj.mp z)
@[simp] theorem cmp_eq_str (a b : Str) : cmpop .eq (.val (.str a)) (.val (.str b)) = some (a == b) := rfl
@[simp] theorem cmp_ne_str (a b : Str) : cmpop .ne (.val (.str a)) (.val (.str b)) = some (!(a == b)) := rfl
@[simp] theorem cmp_eq_int (a b : Int) : cmpop .eq (.val (.int a)) (.val (.int b)) = some (a == b) := rfl
@[simp] theorem cmp_ne_int (a b : Int) : cmpop .ne (.val (.int a)) (.val (.int b)) = some (!(a == b)) := rfl
@[simp] theorem cmp_eq_bl (a b : Bool) : cmpop .eq (.val (.bl a)) (.val (.bl b)) = some (a == b) := rfl
@[simp] theorem cmp_ne_bl (a b : Bool) : cmpop .ne (.val (.bl a)) (.val (.bl b)) = some (!(a == b)) := rfl
@[simp] theorem cmp_lt (a b : Int) : cmpop .lt (.val (.int a)) (.val (.int b)) = some (decide (a < b)) := rfl
@[simp] theorem cmp_le (a b : Int) : cmpop .le (.val (.int a)) (.val (.int b)) = some (decide (a ≤ b)) := rfl
@[simp] theorem cmp_gt (a b : Int) : cmpop .gt (.val (.int a)) (.val (.int b)) = some (decide (b < a)) := rfl
@[simp] theorem cmp_ge (a b : Int) : cmpop .ge (.val (.int a)) (.val (.int b)) = some (decide (b ≤ a)) := rfl
@[simp] theorem bin_addI (a b : Int) : binop .add (.val (.int a)) (.val (.int b)) = some (.val (.int (a + b))) := rfl
@[simp] theorem bin_subI (a b : Int) : binop .sub (.val (.int a)) (.val (.int b)) = some (.val (.int (a - b))) := rfl
@[simp] theorem bin_addS (a b : Str) : binop .add (.val (.str a)) (.val (.str b)) = if a.length + b.length ≤ sizeLine then some (.val (.str (a ++ b))) else none := rfl
@[simp] theorem bin_addT (a b : List D) : binop .add (.val (.tup a)) (.val (.tup b)) = if a.length + b.length ≤ sizeLine then some (.val (.tup (a ++ b))) else none := rfl
@[simp] theorem bf_len_lst (xs : List D) : bfop .len [.lst xs] = some (.val (.int xs.length)) := rfl
@[simp] theorem bf_len_vlst (xs : List D) : bfop .len [.val (.lst xs)] = some (.val (.int xs.length)) := rfl
@[simp] theorem bf_len_tup (xs : List D) : bfop .len [.val (.tup xs)] = some (.val (.int xs.length)) := rfl
@[simp] theorem bf_len_scr (xs : List Int) : bfop .len [.val (.scr xs)] = some (.val (.int xs.length)) := by
  show some (Cl.val (.int (xs.map D.int).length)) = _
  rw [List.length_map]
@[simp] theorem bf_tup_lst (xs : List D) : bfop .tup [.lst xs] = some (.val (.tup xs)) := rfl
@[simp] theorem bf_tup_vlst (xs : List D) : bfop .tup [.val (.lst xs)] = some (.val (.tup xs)) := rfl
@[simp] theorem bf_list_tup (xs : List D) : bfop .list [.val (.tup xs)] = some (.lst xs) := rfl
@[simp] theorem bf_list_lst (xs : List D) : bfop .list [.lst xs] = some (.lst xs) := rfl
@[simp] theorem bf_list_vlst (xs : List D) : bfop .list [.val (.lst xs)] = some (.lst xs) := rfl
theorem atI_nat {α : Type} {xs : List α} {k : Nat} {x : α} (h : xs[k]? = some x) : L2.atI xs (k : Int) = some x := by
  have hk : k < xs.length := by
    rcases Nat.lt_or_ge k xs.length with z | z
    · exact z
    · rw [List.getElem?_eq_none z] at h; cases h
  have e : L2.ixN xs.length (k : Int) = some k := by
    unfold L2.ixN
    rw [if_pos (Int.natCast_nonneg k), if_pos (by omega), Int.toNat_natCast]
  unfold L2.atI
  rw [e]
  exact h
theorem atI_last {α : Type} {xs : List α} {x : α} : L2.atI (xs ++ [x]) (-1) = some x := by
  have e : L2.ixN (xs ++ [x]).length (-1) = some xs.length := by
    unfold L2.ixN
    rw [List.length_append, List.length_singleton, if_neg (by decide), if_pos (by omega)]
    congr 1
    omega
  unfold L2.atI
  rw [e]
  simp
theorem ix_tup {xs : List D} {k : Nat} {x : D} (h : xs[k]? = some x) : ixop (.val (.tup xs)) (.int k) = some x := atI_nat h
theorem ix_lst {xs : List D} {k : Nat} {x : D} (h : xs[k]? = some x) : ixop (.lst xs) (.int k) = some x := atI_nat h
theorem ix_vlst {xs : List D} {k : Nat} {x : D} (h : xs[k]? = some x) : ixop (.val (.lst xs)) (.int k) = some x := atI_nat h
theorem ix_scr {xs : List Int} {k : Nat} {x : Int} (h : xs[k]? = some x) : ixop (.val (.scr xs)) (.int k) = some (.int x) := by
  refine atI_nat (xs := xs.map D.int) (k := k) ?_
  rw [List.getElem?_map, h]; rfl
@[simp] theorem ix_tup_0 (x : D) (xs : List D) : ixop (.val (.tup (x :: xs))) (.int 0) = some x := ix_tup (k := 0) rfl
@[simp] theorem ix_tup_1 (x y : D) (xs : List D) : ixop (.val (.tup (x :: y :: xs))) (.int 1) = some y := ix_tup (k := 1) rfl
@[simp] theorem ix_tup_2 (x y z : D) (xs : List D) : ixop (.val (.tup (x :: y :: z :: xs))) (.int 2) = some z := ix_tup (k := 2) rfl
@[simp] theorem ix_tup_3 (x y z w : D) (xs : List D) : ixop (.val (.tup (x :: y :: z :: w :: xs))) (.int 3) = some w := ix_tup (k := 3) rfl
@[simp] theorem ix_lst_last (x : D) (xs : List D) : ixop (.lst (xs ++ [x])) (.int (-1)) = some x := atI_last
@[simp] theorem ix_vlst_last (x : D) (xs : List D) : ixop (.val (.lst (xs ++ [x]))) (.int (-1)) = some x := atI_last
@[simp] theorem ix_lst_last1 (x : D) : ixop (.lst [x]) (.int (-1)) = some x := atI_last (xs := [])
@[simp] theorem ix_lst_last2 (x y : D) (xs : List D) : ixop (.lst (xs ++ [x, y])) (.int (-1)) = some y := by
  have := ix_lst_last y (xs ++ [x])
  simpa using this
@[simp] theorem ix_lst_0 (x : D) (xs : List D) : ixop (.lst (x :: xs)) (.int 0) = some x := ix_lst (k := 0) rfl
@[simp] theorem ty_beq_0 : (Ty.int == Ty.int) = true := by decide
@[simp] theorem ty_beq_1 : (Ty.int == Ty.bool) = false := by decide
@[simp] theorem ty_beq_2 : (Ty.int == Ty.str) = false := by decide
@[simp] theorem ty_beq_3 : (Ty.int == Ty.tup) = false := by decide
@[simp] theorem ty_beq_4 : (Ty.int == Ty.list) = false := by decide
@[simp] theorem ty_beq_5 : (Ty.bool == Ty.int) = false := by decide
@[simp] theorem ty_beq_6 : (Ty.bool == Ty.bool) = true := by decide
@[simp] theorem ty_beq_7 : (Ty.bool == Ty.str) = false := by decide
@[simp] theorem ty_beq_8 : (Ty.bool == Ty.tup) = false := by decide
@[simp] theorem ty_beq_9 : (Ty.bool == Ty.list) = false := by decide
@[simp] theorem ty_beq_10 : (Ty.str == Ty.int) = false := by decide
@[simp] theorem ty_beq_11 : (Ty.str == Ty.bool) = false := by decide
@[simp] theorem ty_beq_12 : (Ty.str == Ty.str) = true := by decide
@[simp] theorem ty_beq_13 : (Ty.str == Ty.tup) = false := by decide
@[simp] theorem ty_beq_14 : (Ty.str == Ty.list) = false := by decide
@[simp] theorem ty_beq_15 : (Ty.tup == Ty.int) = false := by decide
@[simp] theorem ty_beq_16 : (Ty.tup == Ty.bool) = false := by decide
@[simp] theorem ty_beq_17 : (Ty.tup == Ty.str) = false := by decide
@[simp] theorem ty_beq_18 : (Ty.tup == Ty.tup) = true := by decide
@[simp] theorem ty_beq_19 : (Ty.tup == Ty.list) = false := by decide
@[simp] theorem ty_beq_20 : (Ty.list == Ty.int) = false := by decide
@[simp] theorem ty_beq_21 : (Ty.list == Ty.bool) = false := by decide
@[simp] theorem ty_beq_22 : (Ty.list == Ty.str) = false := by decide
@[simp] theorem ty_beq_23 : (Ty.list == Ty.tup) = false := by decide
@[simp] theorem ty_beq_24 : (Ty.list == Ty.list) = true := by decide
@[simp] theorem ty_beq_25 (c : Nat) : (Ty.cls c == Ty.int) = false := by rw [beq_eq_false_iff_ne]; intro h; cases h
@[simp] theorem ty_beq_26 (c : Nat) : (Ty.cls c == Ty.bool) = false := by rw [beq_eq_false_iff_ne]; intro h; cases h
@[simp] theorem ty_beq_27 (c : Nat) : (Ty.cls c == Ty.str) = false := by rw [beq_eq_false_iff_ne]; intro h; cases h
@[simp] theorem ty_beq_28 (c : Nat) : (Ty.cls c == Ty.tup) = false := by rw [beq_eq_false_iff_ne]; intro h; cases h
@[simp] theorem ty_beq_29 (c : Nat) : (Ty.cls c == Ty.list) = false := by rw [beq_eq_false_iff_ne]; intro h; cases h
@[simp] theorem isi_bl (b : Bool) (t : Ty) : isi (.val (.bl b)) t = some (t == .bool || t == .int) := rfl
@[simp] theorem isi_int (b : Int) (t : Ty) : isi (.val (.int b)) t = some (t == .int) := rfl
@[simp] theorem isi_str (b : Str) (t : Ty) : isi (.val (.str b)) t = some (t == .str) := rfl
@[simp] theorem isi_tup (b : List D) (t : Ty) : isi (.val (.tup b)) t = some (t == .tup) := rfl
@[simp] theorem isi_vlst (b : List D) (t : Ty) : isi (.val (.lst b)) t = some (t == .list) := rfl
@[simp] theorem isi_lst (b : List D) (t : Ty) : isi (.lst b) t = some (t == .list) := rfl
@[simp] theorem isi_non (t : Ty) : isi (.val .non) t = some false := rfl
/-- what is returned -/
def rtv : Option Out → Option Ag
  | some (.rt a _) => some a
  | _ => none
@[simp] theorem rtv_rt (a : Ag) (s : S) : rtv (some (.rt a s)) = some a := rfl
theorem rtv_of {o : Option Out} {a : Ag} (h : rtv o = some a) : ∃ s, o = some (.rt a s) := by
  cases o with
  | none => cases h
  | some o =>
    cases o with
    | rt b s => cases h; exact ⟨s, rfl⟩
    | _ => cases h
/-- a def that takes data and has no object -/
theorem run_d {Γ : Env} {fd : FD} {ds : List D} {s : S} {c : Cl} (hm : fd.meth = false) (hl : ds.length = fd.np) (h : execs Γ fd.n [] fd.oc fd.body (ds.map Cl.val ++ List.replicate (fd.n - fd.np) .un ++ List.replicate fd.nf .un) = some (.rt (.cl c) s)) :
    ∃ o, runF Γ fd (ds.map fun d => .cl (.val d)) = some (.ok (.cl c) o) := by
  have hc : ∀ ds : List D, clsOf (ds.map fun d => Ag.cl (.val d)) = some (ds.map Cl.val) := fun ds => by
    induction ds with
    | nil => rfl
    | cons d ds ih =>
      show (clsOf (ds.map fun d => Ag.cl (.val d))).map (fun cs => Cl.val d :: cs) = _
      rw [ih]; rfl
  have hlt : ∀ (ds : List D) (i : Nat), lent (ds.map fun d => Ag.cl (.val d)) i = [] := fun ds => by
    induction ds with
    | nil => intro i; rfl
    | cons d ds ih => intro i; show (if (Cl.val d).own = true then _ else lent (ds.map fun d => Ag.cl (.val d)) (i + 1)) = []; rw [if_neg (by intro z; cases z), ih]
  have ho : ∀ (ds : List D) (i : Nat), okOuts fd.n s (ds.map fun d => Ag.cl (.val d)) i = true := fun ds => by
    induction ds with
    | nil => intro i; rfl
    | cons d ds ih => intro i; show (true && okOuts fd.n s (ds.map fun d => Ag.cl (.val d)) (i + 1)) = true; rw [ih]; rfl
  unfold runF entry
  rw [hm]
  dsimp only
  rw [hc, Option.bind_some, if_pos (by rw [List.length_map]; exact hl), Option.bind_some, hlt, h]
  dsimp only
  rw [ho]
  exact ⟨_, rfl⟩
theorem run_x {Γ : Env} {fd : FD} {ds : List D} {s : S} {k : Nat} (hm : fd.meth = false) (hl : ds.length = fd.np) (h : execs Γ fd.n [] fd.oc fd.body (ds.map Cl.val ++ List.replicate (fd.n - fd.np) .un ++ List.replicate fd.nf .un) = some (.ex k s)) :
    runF Γ fd (ds.map fun d => .cl (.val d)) = some (.ex k) := by
  have hc : ∀ ds : List D, clsOf (ds.map fun d => Ag.cl (.val d)) = some (ds.map Cl.val) := fun ds => by
    induction ds with
    | nil => rfl
    | cons d ds ih =>
      show (clsOf (ds.map fun d => Ag.cl (.val d))).map (fun cs => Cl.val d :: cs) = _
      rw [ih]; rfl
  have hlt : ∀ (ds : List D) (i : Nat), lent (ds.map fun d => Ag.cl (.val d)) i = [] := fun ds => by
    induction ds with
    | nil => intro i; rfl
    | cons d ds ih => intro i; show (if (Cl.val d).own = true then _ else lent (ds.map fun d => Ag.cl (.val d)) (i + 1)) = []; rw [if_neg (by intro z; cases z), ih]
  unfold runF entry
  rw [hm]
  dsimp only
  rw [hc, Option.bind_some, if_pos (by rw [List.length_map]; exact hl), Option.bind_some, hlt, h]
/-- a call's answer by what the body does -/
theorem dc_ok {P : Nat → Option FD} {n f : Nat} {fd : FD} {ds : List D} {c : Cl} {s : S} (hf : P f = some fd) (hm : fd.meth = false) (hl : ds.length = fd.np) (hz : c.fz.isSome = true) (h : execs (envN P n) fd.n [] fd.oc fd.body (ds.map Cl.val ++ List.replicate (fd.n - fd.np) .un ++ List.replicate fd.nf .un) = some (.rt (.cl c) s)) :
    dc (envN P (n + 1)) f ds = some (.ok c) := by
  obtain ⟨o, ho⟩ := run_d hm hl h
  have e : envN P (n + 1) f (ds.map fun d => .cl (.val d)) = some (.ok (.cl c) o) := by
    show (P f).bind (fun fd => runF (envN P n) fd _) = _
    rw [hf]; exact ho
  unfold dc
  rw [e]
  dsimp only
  rw [if_pos hz]
theorem dc_ex {P : Nat → Option FD} {n f : Nat} {fd : FD} {ds : List D} {k : Nat} {s : S} (hf : P f = some fd) (hm : fd.meth = false) (hl : ds.length = fd.np) (h : execs (envN P n) fd.n [] fd.oc fd.body (ds.map Cl.val ++ List.replicate (fd.n - fd.np) .un ++ List.replicate fd.nf .un) = some (.ex k s)) :
    dc (envN P (n + 1)) f ds = some (.ex k) := by
  have ho := run_x hm hl h
  have e : envN P (n + 1) f (ds.map fun d => .cl (.val d)) = some (.ex k) := by
    show (P f).bind (fun fd => runF (envN P n) fd _) = _
    rw [hf]; exact ho
  unfold dc
  rw [e]
end Mi
namespace Mi.P
open PySem
/-! ### the terms of the program's own defs -/
def b_is_name_0 : List CS := [
    (.ite (.cmp .nin (.v 1) (.g "LETTERS" (.str "abcdefghijklmnopqrstuvwxyz"))) [
      (.ret (.c (.bl false)))] [])]
def b_is_name : List CS := [
    (.ite (.or (.not (.isi (.v 0) .str)) (.or (.not (.chn .le .le (.c (.int 1)) (.bf .len [(.v 0)]) (.c (.int 8)))) (.cmp .isin (.v 0) (.g "WORDS" (.kt ["num", "name", "fun", "call", "plus", "less", "if", "let"]))))) [
      (.ret (.c (.bl false)))] []),
    (.for 1 .seq (.v 0) b_is_name_0),
    (.ret (.c (.bl true)))]
def f_is_name : FD := { np := 1, n := 2, body := b_is_name }
def b_is_number : List CS := [
    (.ite (.or (.not (.isi (.v 0) .int)) (.isi (.v 0) .bool)) [
      (.ret (.c (.bl false)))] []),
    (.ret (.cmp .lt (.bf .abs [(.v 0)]) (.bin .pow (.c (.int 10)) (.c (.int 60)))))]
def f_is_number : FD := { np := 1, n := 1, body := b_is_number }
def b_is_node : List CS := [
    (.ite (.or (.not (.isi (.v 0) .tup)) (.cmp .lt (.bf .len [(.v 0)]) (.c (.int 2)))) [
      (.ret (.c (.bl false)))] []),
    (.asg 1 (.ix (.v 0) (.c (.int 0)))),
    (.ite (.cmp .eq (.v 1) (.c (.str "num"))) [
      (.ret (.and (.cmp .eq (.bf .len [(.v 0)]) (.c (.int 2))) (.call 1 [(.ix (.v 0) (.c (.int 1)))])))] []),
    (.ite (.cmp .eq (.v 1) (.c (.str "name"))) [
      (.ret (.and (.cmp .eq (.bf .len [(.v 0)]) (.c (.int 2))) (.call 0 [(.ix (.v 0) (.c (.int 1)))])))] []),
    (.ite (.cmp .eq (.v 1) (.c (.str "fun"))) [
      (.ret (.and (.cmp .eq (.bf .len [(.v 0)]) (.c (.int 3))) (.call 0 [(.ix (.v 0) (.c (.int 1)))])))] []),
    (.ite (.cmp .eq (.v 1) (.c (.str "let"))) [
      (.ret (.and (.cmp .eq (.bf .len [(.v 0)]) (.c (.int 4))) (.call 0 [(.ix (.v 0) (.c (.int 1)))])))] []),
    (.ite (.cmp .eq (.v 1) (.c (.str "if"))) [
      (.ret (.cmp .eq (.bf .len [(.v 0)]) (.c (.int 4))))] []),
    (.ret (.and (.cmp .isin (.v 1) (.tup [(.c (.str "call")), (.c (.str "plus")), (.c (.str "less"))])) (.cmp .eq (.bf .len [(.v 0)]) (.c (.int 3)))))]
def f_is_node : FD := { np := 1, n := 2, body := b_is_node }
def b_parts : List CS := [
    (.ite (.or (.cmp .eq (.ix (.v 0) (.c (.int 0))) (.c (.str "num"))) (.cmp .eq (.ix (.v 0) (.c (.int 0))) (.c (.str "name")))) [
      (.ret (.lst []))] []),
    (.ite (.or (.cmp .eq (.ix (.v 0) (.c (.int 0))) (.c (.str "fun"))) (.cmp .eq (.ix (.v 0) (.c (.int 0))) (.c (.str "let")))) [
      (.ret (.bf .list [(.sl (.v 0) (.c (.int 2)) (.c .non))]))] []),
    (.ret (.bf .list [(.sl (.v 0) (.c (.int 1)) (.c .non))]))]
def f_parts : FD := { np := 1, n := 1, body := b_parts }
def b_need_tree_0 : List CS := [
    (.asg 3 (.mt .pop (.v 1) [])),
    (.asg 2 (.bin .add (.v 2) (.c (.int 1)))),
    (.ite (.or (.cmp .gt (.v 2) (.g "MOST_NODES" (.int 400))) (.not (.call 2 [(.v 3)]))) [
      (.rse 1)] []),
    (.exp (.mt .extend (.v 1) [(.call 3 [(.v 3)])]))]
def b_need_tree : List CS := [
    (.asg 1 (.lst [(.v 0)])),
    (.asg 2 (.c (.int 0))),
    (.whl (.v 1) b_need_tree_0),
    (.ret (.v 0))]
def f_need_tree : FD := { np := 1, n := 4, body := b_need_tree }
def b_nodes_0 : List CS := [
    (.asg 2 (.bin .add (.v 2) (.c (.int 1)))),
    (.exp (.mt .extend (.v 1) [(.call 3 [(.mt .pop (.v 1) [])])]))]
def b_nodes : List CS := [
    (.asg 1 (.lst [(.v 0)])),
    (.asg 2 (.c (.int 0))),
    (.whl (.v 1) b_nodes_0),
    (.ret (.v 2))]
def f_nodes : FD := { np := 1, n := 3, body := b_nodes }
def b_free_1 : List CS := [
    (.asg 8 (.mt .pop (.v 7) [])),
    (.ite (.and (.cmp .eq (.ix (.v 4) (.c (.int 0))) (.c (.str "let"))) (.not (.v 7))) [
      (.asg 6 (.v 5))] []),
    (.exp (.mt .append (.v 2) [(.tup [(.v 8), (.v 6)])]))]
def b_free_0 : List CS := [
    (.asg 3 (.mt .pop (.v 2) [])),
    (.asg 4 (.ix (.v 3) (.c (.int 0)))),
    (.asg 5 (.ix (.v 3) (.c (.int 1)))),
    (.ite (.and (.cmp .eq (.ix (.v 4) (.c (.int 0))) (.c (.str "name"))) (.and (.cmp .nin (.ix (.v 4) (.c (.int 1))) (.v 5)) (.cmp .nin (.ix (.v 4) (.c (.int 1))) (.v 1)))) [
      (.exp (.mt .append (.v 1) [(.ix (.v 4) (.c (.int 1)))]))] []),
    (.asg 6 (.v 5)),
    (.ite (.or (.cmp .eq (.ix (.v 4) (.c (.int 0))) (.c (.str "fun"))) (.cmp .eq (.ix (.v 4) (.c (.int 0))) (.c (.str "let")))) [
      (.asg 6 (.bin .add (.v 5) (.lst [(.ix (.v 4) (.c (.int 1)))])))] []),
    (.asg 7 (.call 3 [(.v 4)])),
    (.whl (.v 7) b_free_1)]
def b_free : List CS := [
    (.asg 1 (.lst [])),
    (.asg 2 (.lst [(.tup [(.v 0), (.lst [])])])),
    (.whl (.v 2) b_free_0),
    (.ret (.v 1))]
def f_free : FD := { np := 1, n := 9, body := b_free }
def b_need_work : List CS := [
    (.ite (.call 6 [(.call 4 [(.v 0)])]) [
      (.rse 2)] []),
    (.ite (.or (.not (.isi (.v 1) .int)) (.or (.isi (.v 1) .bool) (.not (.chn .le .le (.c (.int 0)) (.v 1) (.g "MOST_DEEDS" (.int 1000)))))) [
      (.rse 3)] [])]
def f_need_work : FD := { np := 2, n := 2, body := b_need_work }
def b_is_value : List CS := [
    (.ret (.or (.cmp .eq (.ix (.v 0) (.c (.int 0))) (.c (.str "num"))) (.cmp .eq (.ix (.v 0) (.c (.int 0))) (.c (.str "fun")))))]
def f_is_value : FD := { np := 1, n := 1, body := b_is_value }
def b_remade : List CS := [
    (.ite (.or (.cmp .eq (.ix (.v 0) (.c (.int 0))) (.c (.str "fun"))) (.cmp .eq (.ix (.v 0) (.c (.int 0))) (.c (.str "let")))) [
      (.ret (.bin .add (.tup [(.ix (.v 0) (.c (.int 0))), (.ix (.v 0) (.c (.int 1)))]) (.bf .tup [(.v 1)])))] []),
    (.ret (.bin .add (.tup [(.ix (.v 0) (.c (.int 0)))]) (.bf .tup [(.v 1)])))]
def f_remade : FD := { np := 2, n := 2, body := b_remade }
def b_put_1 : List CS := [
    (.exp (.mt .insert (.v 7) [(.c (.int 0)), (.mt .pop (.v 4) [])]))]
def b_put_2 : List CS := [
    (.exp (.mt .append (.v 3) [(.tup [(.c (.str "see")), (.mt .pop (.v 7) [])])]))]
def b_put_0 : List CS := [
    (.asg 5 (.mt .pop (.v 3) [])),
    (.asg 6 (.ix (.v 5) (.c (.int 1)))),
    (.ite (.cmp .eq (.ix (.v 5) (.c (.int 0))) (.c (.str "make"))) [
      (.asg 7 (.lst [])),
      (.whl (.cmp .lt (.bf .len [(.v 7)]) (.bf .len [(.call 3 [(.v 6)])])) b_put_1),
      (.exp (.mt .append (.v 4) [(.call 9 [(.v 6), (.v 7)])]))] [
      (.ite (.or (.cmp .eq (.ix (.v 5) (.c (.int 0))) (.c (.str "keep"))) (.or (.cmp .eq (.ix (.v 6) (.c (.int 0))) (.c (.str "num"))) (.and (.cmp .eq (.ix (.v 6) (.c (.int 0))) (.c (.str "fun"))) (.cmp .eq (.ix (.v 6) (.c (.int 1))) (.v 1))))) [
        (.exp (.mt .append (.v 4) [(.v 6)]))] [
        (.ite (.cmp .eq (.ix (.v 6) (.c (.int 0))) (.c (.str "name"))) [
          (.exp (.mt .append (.v 4) [(.ifx (.cmp .eq (.ix (.v 6) (.c (.int 1))) (.v 1)) (.v 2) (.v 6))]))] [
          (.exp (.mt .append (.v 3) [(.tup [(.c (.str "make")), (.v 6)])])),
          (.asg 7 (.call 3 [(.v 6)])),
          (.ite (.and (.cmp .eq (.ix (.v 6) (.c (.int 0))) (.c (.str "let"))) (.cmp .eq (.ix (.v 6) (.c (.int 1))) (.v 1))) [
            (.exp (.mt .append (.v 3) [(.tup [(.c (.str "keep")), (.mt .pop (.v 7) [])])]))] []),
          (.whl (.v 7) b_put_2)])])])]
def b_put : List CS := [
    (.asg 3 (.lst [(.tup [(.c (.str "see")), (.v 0)])])),
    (.asg 4 (.lst [])),
    (.whl (.v 3) b_put_0),
    (.ret (.ix (.v 4) (.c (.int 0))))]
def f_put : FD := { np := 3, n := 8, body := b_put }
def b_worked_next : List CS := [
    (.ite (.cmp .eq (.ix (.v 0) (.c (.int 0))) (.c (.str "let"))) [
      (.ret (.ifx (.call 8 [(.ix (.v 0) (.c (.int 2)))]) (.c (.int 0)) (.c (.int 2))))] []),
    (.ite (.cmp .eq (.ix (.v 0) (.c (.int 0))) (.c (.str "name"))) [
      (.ret (.c (.int 0)))] []),
    (.ite (.not (.call 8 [(.ix (.v 0) (.c (.int 1)))])) [
      (.ret (.c (.int 1)))] []),
    (.ite (.or (.cmp .eq (.ix (.v 0) (.c (.int 0))) (.c (.str "if"))) (.call 8 [(.ix (.v 0) (.c (.int 2)))])) [
      (.ret (.c (.int 0)))] []),
    (.ret (.c (.int 2)))]
def f_worked_next : FD := { np := 1, n := 1, body := b_worked_next }
def b_number_of : List CS := [
    (.ite (.cmp .eq (.ix (.v 0) (.c (.int 0))) (.c (.str "fun"))) [
      (.rse 4)] []),
    (.ret (.ix (.v 0) (.c (.int 1))))]
def f_number_of : FD := { np := 1, n := 1, body := b_number_of }
def b_deed : List CS := [
    (.ite (.cmp .eq (.ix (.v 0) (.c (.int 0))) (.c (.str "name"))) [
      (.rse 2)] []),
    (.ite (.cmp .eq (.ix (.v 0) (.c (.int 0))) (.c (.str "let"))) [
      (.ret (.call 10 [(.ix (.v 0) (.c (.int 3))), (.ix (.v 0) (.c (.int 1))), (.ix (.v 0) (.c (.int 2)))]))] []),
    (.ite (.cmp .eq (.ix (.v 0) (.c (.int 0))) (.c (.str "call"))) [
      (.ite (.cmp .eq (.ix (.ix (.v 0) (.c (.int 1))) (.c (.int 0))) (.c (.str "num"))) [
        (.rse 5)] []),
      (.ret (.call 10 [(.ix (.ix (.v 0) (.c (.int 1))) (.c (.int 2))), (.ix (.ix (.v 0) (.c (.int 1))) (.c (.int 1))), (.ix (.v 0) (.c (.int 2)))]))] []),
    (.ite (.cmp .eq (.ix (.v 0) (.c (.int 0))) (.c (.str "if"))) [
      (.ret (.ifx (.cmp .ne (.call 12 [(.ix (.v 0) (.c (.int 1)))]) (.c (.int 0))) (.ix (.v 0) (.c (.int 2))) (.ix (.v 0) (.c (.int 3)))))] []),
    (.asg 1 (.call 12 [(.ix (.v 0) (.c (.int 1)))])),
    (.asg 2 (.call 12 [(.ix (.v 0) (.c (.int 2)))])),
    (.ret (.ifx (.cmp .eq (.ix (.v 0) (.c (.int 0))) (.c (.str "plus"))) (.tup [(.c (.str "num")), (.bin .add (.v 1) (.v 2))]) (.tup [(.c (.str "num")), (.bin .sub (.v 1) (.v 2))])))]
def f_deed : FD := { np := 1, n := 3, body := b_deed }
def b_step_0 : List CS := [
    (.exp (.mt .append (.v 1) [(.tup [(.v 2), (.v 3)])])),
    (.asg 2 (.ix (.v 2) (.v 3))),
    (.asg 3 (.call 11 [(.v 2)]))]
def b_step_1 : List CS := [
    (.asg 5 (.mt .pop (.v 1) [])),
    (.asg 4 (.bin .add (.bin .add (.sl (.ix (.v 5) (.c (.int 0))) (.c .non) (.ix (.v 5) (.c (.int 1)))) (.tup [(.v 4)])) (.sl (.ix (.v 5) (.c (.int 0))) (.bin .add (.ix (.v 5) (.c (.int 1))) (.c (.int 1))) (.c .non))))]
def b_step : List CS := [
    (.ite (.call 8 [(.v 0)]) [
      (.ret (.c .non))] []),
    (.asg 1 (.lst [])),
    (.asg 2 (.v 0)),
    (.asg 3 (.call 11 [(.v 2)])),
    (.whl (.cmp .gt (.v 3) (.c (.int 0))) b_step_0),
    (.asg 4 (.call 13 [(.v 2)])),
    (.whl (.v 1) b_step_1),
    (.ret (.v 4))]
def f_step : FD := { np := 1, n := 6, body := b_step }
def b_steps_0 : List CS := [
    (.ite (.cmp .gt (.bf .len [(.v 2)]) (.v 1)) [
      (.rse 6)] []),
    (.exp (.mt .append (.v 2) [(.call 14 [(.ix (.v 2) (.neg (.c (.int 1))))])]))]
def b_steps : List CS := [
    (.exp (.call 7 [(.v 0), (.v 1)])),
    (.asg 2 (.lst [(.v 0)])),
    (.whl (.not (.call 8 [(.ix (.v 2) (.neg (.c (.int 1))))])) b_steps_0),
    (.ret (.v 2))]
def f_steps : FD := { np := 2, n := 3, body := b_steps }
def b_worked_0 : List CS := [
    (.ite (.cmp .eq (.v 2) (.v 1)) [
      (.rse 6)] []),
    (.asg 0 (.call 14 [(.v 0)])),
    (.asg 2 (.bin .add (.v 2) (.c (.int 1))))]
def b_worked : List CS := [
    (.exp (.call 7 [(.v 0), (.v 1)])),
    (.asg 2 (.c (.int 0))),
    (.whl (.not (.call 8 [(.v 0)])) b_worked_0),
    (.ret (.tup [(.v 0), (.v 2)]))]
def f_worked : FD := { np := 2, n := 3, body := b_worked }
def b_looked_0 : List CS := [
    (.asg 3 (.bin .sub (.v 3) (.c (.int 1))))]
def b_looked : List CS := [
    (.asg 3 (.bin .sub (.bf .len [(.v 1)]) (.c (.int 1)))),
    (.whl (.cmp .ne (.ix (.v 1) (.v 3)) (.v 0)) b_looked_0),
    (.ret (.ix (.v 2) (.v 3)))]
def f_looked : FD := { np := 3, n := 4, body := b_looked }
def b_kept_by : List CS := [
    (.asg 3 (.call 6 [(.v 0)])),
    (.ret (.make 0 40 [(.ix (.v 0) (.c (.int 1))), (.ix (.v 0) (.c (.int 2))), (.v 3), (.comp (.call 17 [(.v 4), (.v 1), (.v 2)]) 4 (.v 3) .seq (.c (.bl true)))]))]
def f_kept_by : FD := { np := 3, n := 5, body := b_kept_by }
def b_need_number : List CS := [
    (.ite (.isi (.v 0) (.cls 0)) [
      (.rse 4)] []),
    (.ret (.v 0))]
def f_need_number : FD := { np := 1, n := 1, body := b_need_number }
def b_milled_0 : List CS := [
    (.asg 3 (.mt .pop (.v 5) [])),
    (.ite (.ix (.v 3) (.c (.int 0))) [
      (.me 42 [(.ix (.v 3) (.c (.int 1))), (.ix (.v 3) (.c (.int 2))), (.ix (.v 3) (.c (.int 3)))])] [
      (.me 43 [(.ix (.v 3) (.c (.int 1))), (.ix (.v 3) (.c (.int 2))), (.ix (.v 3) (.c (.int 3)))])])]
def b_milled : List CS := [
    (.exp (.call 7 [(.v 0), (.v 1)])),
    (.mk 2 1 41 [(.v 1)]),
    (.me 42 [(.v 0), (.lst []), (.lst [])]),
    (.whl (.v 5) b_milled_0),
    .reto]
def f_milled : FD := { np := 2, n := 4, body := b_milled, oc := 1, nf := 5 }
def b_run : List CS := [
    (.oc 2 20 [(.v 0), (.v 1)]),
    (.ret (.tup [(.ix (.v 5) (.c (.int 0))), (.v 6)]))]
def f_run : FD := { np := 2, n := 3, body := b_run, oc := 1, nf := 5 }
def b_made : List CS := [
    (.rcf 20 [(.v 0), (.v 1)] 4)]
def f_made : FD := { np := 2, n := 2, body := b_made, oc := 1, nf := 0 }
def b_shown_1 : List CS := [
    (.exp (.mt .append (.v 1) [(.mt .pop (.v 4) [])])),
    (.exp (.mt .append (.v 1) [(.c (.str " "))]))]
def b_shown_0 : List CS := [
    (.asg 3 (.mt .pop (.v 1) [])),
    (.ite (.isi (.v 3) .str) [
      (.exp (.mt .append (.v 2) [(.v 3)]))] [
      (.ite (.or (.cmp .eq (.ix (.v 3) (.c (.int 0))) (.c (.str "num"))) (.cmp .eq (.ix (.v 3) (.c (.int 0))) (.c (.str "name")))) [
        (.exp (.mt .append (.v 2) [(.bf .str [(.ix (.v 3) (.c (.int 1)))])]))] [
        (.exp (.mt .append (.v 2) [(.bin .add (.c (.str "(")) (.ix (.v 3) (.c (.int 0))))])),
        (.ite (.or (.cmp .eq (.ix (.v 3) (.c (.int 0))) (.c (.str "fun"))) (.cmp .eq (.ix (.v 3) (.c (.int 0))) (.c (.str "let")))) [
          (.exp (.mt .append (.v 2) [(.bin .add (.c (.str " ")) (.ix (.v 3) (.c (.int 1))))]))] []),
        (.exp (.mt .append (.v 1) [(.c (.str ")"))])),
        (.asg 4 (.call 3 [(.v 3)])),
        (.whl (.v 4) b_shown_1)])])]
def b_shown : List CS := [
    (.asg 1 (.lst [(.v 0)])),
    (.asg 2 (.lst [])),
    (.whl (.v 1) b_shown_0),
    (.ret (.mt .join (.c (.str "")) [(.v 2)]))]
def f_shown : FD := { np := 1, n := 5, body := b_shown }
def b_read_0 : List CS := [
    (.ite (.cmp .eq (.v 3) (.c (.str "("))) [
      (.exp (.mt .append (.v 1) [(.lst [])]))] [
      (.ite (.cmp .eq (.v 3) (.c (.str ")"))) [
        (.asg 4 (.mt .pop (.v 1) [])),
        (.ite (.not (.v 1)) [
          (.rse 7)] []),
        (.exp (.mt .append (.ix (.v 1) (.neg (.c (.int 1)))) [(.call 27 [(.v 4)])])),
        (.asg 2 (.bin .sub (.bin .add (.bin .add (.v 2) (.c (.int 1))) (.bf .len [(.comp (.v 5) 5 (.v 4) .seq (.isi (.v 5) .str))])) (.c (.int 1)))),
        (.asg 2 (.bin .sub (.v 2) (.bf .int [(.or (.cmp .eq (.ix (.v 4) (.c (.int 0))) (.c (.str "fun"))) (.cmp .eq (.ix (.v 4) (.c (.int 0))) (.c (.str "let"))))])))] [
        (.exp (.mt .append (.ix (.v 1) (.neg (.c (.int 1)))) [(.v 3)]))])])]
def b_read : List CS := [
    (.ite (.not (.isi (.v 0) .str)) [
      (.rse 7)] []),
    (.asg 1 (.lst [(.lst [])])),
    (.asg 2 (.c (.int 0))),
    (.for 3 .seq (.call 25 [(.v 0)]) b_read_0),
    (.ite (.or (.cmp .ne (.bf .len [(.v 1)]) (.c (.int 1))) (.or (.cmp .ne (.bf .len [(.ix (.v 1) (.c (.int 0)))]) (.c (.int 1))) (.cmp .gt (.v 2) (.g "MOST_NODES" (.int 400))))) [
      (.rse 7)] []),
    (.asg 6 (.ix (.ix (.v 1) (.c (.int 0))) (.c (.int 0)))),
    (.ret (.ifx (.isi (.v 6) .str) (.call 26 [(.v 6)]) (.v 6)))]
def f_read : FD := { np := 1, n := 7, body := b_read }
def b_words_of_0 : List CS := [
    (.ite (.cmp .nin (.v 3) (.c (.str "() "))) [
      (.asg 2 (.bin .add (.v 2) (.v 3))),
      .cnt] []),
    (.ite (.cmp .ne (.v 2) (.c (.str ""))) [
      (.exp (.mt .append (.v 1) [(.v 2)]))] []),
    (.asg 2 (.c (.str ""))),
    (.ite (.cmp .ne (.v 3) (.c (.str " "))) [
      (.exp (.mt .append (.v 1) [(.v 3)]))] [])]
def b_words_of : List CS := [
    (.asg 1 (.lst [])),
    (.asg 2 (.c (.str ""))),
    (.for 3 .seq (.bin .add (.v 0) (.c (.str " "))) b_words_of_0),
    (.ret (.v 1))]
def f_words_of : FD := { np := 1, n := 4, body := b_words_of }
def b_leaf_of_0 : List CS := [
    (.ite (.cmp .nin (.v 2) (.g "FIGURES" (.str "0123456789"))) [
      (.rse 7)] [])]
def b_leaf_of : List CS := [
    (.ite (.call 0 [(.v 0)]) [
      (.ret (.tup [(.c (.str "name")), (.v 0)]))] []),
    (.asg 1 (.ifx (.cmp .eq (.sl (.v 0) (.c .non) (.c (.int 1))) (.c (.str "-"))) (.sl (.v 0) (.c (.int 1)) (.c .non)) (.v 0))),
    (.ite (.or (.cmp .eq (.v 1) (.c (.str ""))) (.cmp .gt (.bf .len [(.v 1)]) (.c (.int 60)))) [
      (.rse 7)] []),
    (.for 2 .seq (.v 1) b_leaf_of_0),
    (.ite (.and (.cmp .eq (.ix (.v 1) (.c (.int 0))) (.c (.str "0"))) (.cmp .ne (.v 0) (.c (.str "0")))) [
      (.rse 7)] []),
    (.ret (.tup [(.c (.str "num")), (.bf .int [(.v 0)])]))]
def f_leaf_of : FD := { np := 1, n := 3, body := b_leaf_of }
def b_node_of_0 : List CS := [
    (.exp (.mt .append (.v 4) [(.ifx (.isi (.v 5) .str) (.call 26 [(.v 5)]) (.v 5))]))]
def b_node_of : List CS := [
    (.ite (.or (.not (.v 0)) (.cmp .nin (.ix (.v 0) (.c (.int 0))) (.g "HEADS" (.kt ["fun", "call", "plus", "less", "if", "let"])))) [
      (.rse 7)] []),
    (.asg 1 (.ix (.v 0) (.c (.int 0)))),
    (.asg 2 (.or (.cmp .eq (.v 1) (.c (.str "fun"))) (.cmp .eq (.v 1) (.c (.str "let"))))),
    (.asg 3 (.ifx (.or (.cmp .eq (.v 1) (.c (.str "if"))) (.cmp .eq (.v 1) (.c (.str "let")))) (.c (.int 4)) (.c (.int 3)))),
    (.ite (.or (.cmp .ne (.bf .len [(.v 0)]) (.v 3)) (.and (.v 2) (.not (.call 0 [(.ix (.v 0) (.c (.int 1)))])))) [
      (.rse 7)] []),
    (.asg 4 (.lst [])),
    (.for 5 .seq (.sl (.v 0) (.bin .add (.c (.int 1)) (.bf .int [(.v 2)])) (.c .non)) b_node_of_0),
    (.ret (.bin .add (.bin .add (.tup [(.v 1)]) (.bf .tup [(.sl (.v 0) (.c (.int 1)) (.bin .add (.c (.int 1)) (.bf .int [(.v 2)])))])) (.bf .tup [(.v 4)])))]
def f_node_of : FD := { np := 1, n := 6, body := b_node_of }
def b_told_1 : List CS := [
    (.exp (.mt .append (.v 1) [(.tup [(.c (.bl true)), (.v 5)])]))]
def b_told_2 : List CS := [
    (.asg 6 (.call 10 [(.v 6), (.v 7), (.mt .pop (.v 2) [])]))]
def b_told_0 : List CS := [
    (.asg 3 (.mt .pop (.v 1) [])),
    (.asg 4 (.ix (.v 3) (.c (.int 1)))),
    (.ite (.not (.isi (.v 4) (.cls 0))) [
      (.exp (.mt .append (.v 2) [(.tup [(.c (.str "num")), (.v 4)])]))] [
      (.ite (.ix (.v 3) (.c (.int 0))) [
        (.exp (.mt .append (.v 1) [(.tup [(.c (.bl false)), (.v 4)])])),
        (.for 5 .seq (.fld (.v 4) 0 3) b_told_1)] [
        (.asg 6 (.tup [(.c (.str "fun")), (.fld (.v 4) 0 0), (.fld (.v 4) 0 1)])),
        (.for 7 .seq (.fld (.v 4) 0 2) b_told_2),
        (.exp (.mt .append (.v 2) [(.v 6)]))])])]
def b_told : List CS := [
    (.asg 1 (.lst [(.tup [(.c (.bl true)), (.v 0)])])),
    (.asg 2 (.lst [])),
    (.whl (.v 1) b_told_0),
    (.ret (.ix (.v 2) (.c (.int 0))))]
def f_told : FD := { np := 1, n := 8, body := b_told }
def b_Kept_init : List CS := [
    (.asg 5 (.v 1)),
    (.asg 6 (.v 2)),
    (.asg 7 (.v 3)),
    (.asg 8 (.v 4))]
def f_Kept_init : FD := { np := 5, n := 5, body := b_Kept_init, oc := 0, nf := 4, meth := true }
def b_Mill_init : List CS := [
    (.asg 2 (.v 1)),
    (.asg 3 (.lst [])),
    (.asg 4 (.lst [])),
    (.asg 5 (.c (.int 0))),
    (.asg 6 (.lst []))]
def f_Mill_init : FD := { np := 2, n := 2, body := b_Mill_init, oc := 1, nf := 5, meth := true }
def b_Mill_see : List CS := [
    (.ite (.cmp .eq (.ix (.v 1) (.c (.int 0))) (.c (.str "num"))) [
      (.exp (.mt .append (.v 7) [(.ix (.v 1) (.c (.int 1)))]))] [
      (.ite (.cmp .eq (.ix (.v 1) (.c (.int 0))) (.c (.str "name"))) [
        (.exp (.mt .append (.v 7) [(.call 17 [(.ix (.v 1) (.c (.int 1))), (.v 2), (.v 3)])]))] [
        (.ite (.cmp .eq (.ix (.v 1) (.c (.int 0))) (.c (.str "fun"))) [
          (.exp (.mt .append (.v 9) [(.call 18 [(.v 1), (.v 2), (.v 3)])])),
          (.exp (.mt .append (.v 7) [(.ix (.v 9) (.neg (.c (.int 1))))]))] [
          (.exp (.mt .append (.v 6) [(.tup [(.c (.bl false)), (.v 1), (.v 2), (.v 3)])])),
          (.asg 4 (.ifx (.cmp .eq (.ix (.v 1) (.c (.int 0))) (.c (.str "let"))) (.c (.int 2)) (.c (.int 1)))),
          (.ite (.and (.cmp .ne (.ix (.v 1) (.c (.int 0))) (.c (.str "let"))) (.cmp .ne (.ix (.v 1) (.c (.int 0))) (.c (.str "if")))) [
            (.exp (.mt .append (.v 6) [(.tup [(.c (.bl true)), (.ix (.v 1) (.c (.int 2))), (.v 2), (.v 3)])]))] []),
          (.exp (.mt .append (.v 6) [(.tup [(.c (.bl true)), (.ix (.v 1) (.v 4)), (.v 2), (.v 3)])]))])])])]
def f_Mill_see : FD := { np := 4, n := 5, body := b_Mill_see, oc := 1, nf := 5, meth := true }
def b_Mill_turn : List CS := [
    (.ite (.cmp .eq (.v 10) (.v 7)) [
      (.rse 6)] []),
    (.asg 10 (.bin .add (.v 10) (.c (.int 1)))),
    (.asg 4 (.mt .pop (.v 9) [])),
    (.ite (.cmp .eq (.ix (.v 1) (.c (.int 0))) (.c (.str "let"))) [
      (.exp (.mt .append (.v 8) [(.tup [(.c (.bl true)), (.ix (.v 1) (.c (.int 3))), (.bin .add (.v 2) (.lst [(.ix (.v 1) (.c (.int 1)))])), (.bin .add (.v 3) (.lst [(.v 4)]))])]))] [
      (.ite (.cmp .eq (.ix (.v 1) (.c (.int 0))) (.c (.str "if"))) [
        (.exp (.mt .append (.v 8) [(.tup [(.c (.bl true)), (.ifx (.cmp .ne (.call 19 [(.v 4)]) (.c (.int 0))) (.ix (.v 1) (.c (.int 2))) (.ix (.v 1) (.c (.int 3)))), (.v 2), (.v 3)])]))] [
        (.ite (.cmp .eq (.ix (.v 1) (.c (.int 0))) (.c (.str "call"))) [
          (.asg 5 (.mt .pop (.v 9) [])),
          (.ite (.not (.isi (.v 5) (.cls 0))) [
            (.rse 5)] []),
          (.exp (.mt .append (.v 8) [(.tup [(.c (.bl true)), (.fld (.v 5) 0 1), (.bin .add (.fld (.v 5) 0 2) (.lst [(.fld (.v 5) 0 0)])), (.bin .add (.fld (.v 5) 0 3) (.lst [(.v 4)]))])]))] [
          (.asg 5 (.call 19 [(.mt .pop (.v 9) [])])),
          (.asg 6 (.call 19 [(.v 4)])),
          (.exp (.mt .append (.v 9) [(.ifx (.cmp .eq (.ix (.v 1) (.c (.int 0))) (.c (.str "plus"))) (.bin .add (.v 5) (.v 6)) (.bin .sub (.v 5) (.v 6)))]))])])])]
def f_Mill_turn : FD := { np := 4, n := 7, body := b_Mill_turn, oc := 1, nf := 5, meth := true }
def b_l_cell_at : List CS := [
    (.ite (.cmp .lt (.v 1) (.bf .len [(.v 0)])) [
      (.ret (.ix (.v 0) (.v 1)))] []),
    (.ret (.c (.int 0)))]
def f_l_cell_at : FD := { np := 2, n := 2, body := b_l_cell_at }
def b_l_kin_by : List CS := [
    (.asg 2 (.c (.str "abcdefghijklmnopqrstuvwxyz"))),
    (.asg 3 (.mt .join (.c (.str "")) [(.comp (.ix (.v 2) (.bin .mod (.bin .add (.v 0) (.bin .mul (.c (.int 3)) (.v 4))) (.c (.int 26)))) 4 (.tup [(.c (.int 0)), (.c (.int 8))]) .rng (.c (.bl true)))])),
    (.ite (.and (.cmp .eq (.bin .mod (.bin .fdiv (.v 0) (.c (.int 26))) (.c (.int 2))) (.c (.int 0))) (.cmp .lt (.v 1) (.c (.int 9)))) [
      (.ret (.comp (.sl (.v 3) (.c .non) (.bin .add (.v 4) (.c (.int 1)))) 4 (.tup [(.c (.int 0)), (.v 1)]) .rng (.c (.bl true))))] []),
    (.asg 5 (.comp (.bin .add (.sl (.v 3) (.v 4) (.c .non)) (.sl (.v 3) (.c .non) (.v 4))) 4 (.tup [(.c (.int 0)), (.c (.int 8))]) .rng (.c (.bl true)))),
    (.ret (.sl (.bin .add (.v 5) (.comp (.rev (.v 6)) 6 (.v 5) .seq (.c (.bl true)))) (.c .non) (.v 1)))]
def f_l_kin_by : FD := { np := 2, n := 7, body := b_l_kin_by }
end Mi.P
namespace Mi.K12
open PySem PySem.Spec PyProof.Rows L2 Mi
/-! ### the defs of the row, as terms of the small language -/
def top (i : Nat) : Stmt := PySem.Challenge.pw_closuremill_k12_functions_made_in_turn.main.body.getD i (.Pass ⟨0, 0, 0, 0⟩)
def sub (s : Stmt) (j : Nat) : Stmt := match s with
  | .ClassDef _ _ _ body _ _ _ _ _ _ _ => body.getD j (.Pass ⟨0, 0, 0, 0⟩)
  | _ => .Pass ⟨0, 0, 0, 0⟩
def tab : List (Str × G) := [(("BadMost" : Str), (.exc 3 : G)),
  (("Dry" : Str), (.exc 6 : G)),
  (("Kept" : Str), (.cls 40 4 : G)),
  (("LETTERS" : Str), (.con (.str "abcdefghijklmnopqrstuvwxyz") : G)),
  (("MOST_DEEDS" : Str), (.con (.int 1000) : G)),
  (("MOST_NODES" : Str), (.con (.int 400) : G)),
  (("Mill" : Str), (.mil 41 1 : G)),
  (("NoFunction" : Str), (.exc 5 : G)),
  (("NoNumber" : Str), (.exc 4 : G)),
  (("NoTree" : Str), (.exc 1 : G)),
  (("NotClosed" : Str), (.exc 2 : G)),
  (("WORDS" : Str), (.con (.kt ["num", "name", "fun", "call", "plus", "less", "if", "let"]) : G)),
  (("_law_body" : Str), (.fn 101 2 [] : G)),
  (("_law_cell_at" : Str), (.fn 90 2 [] : G)),
  (("_law_held_right" : Str), (.fn 105 2 [] : G)),
  (("_law_kept_right" : Str), (.fn 106 2 [] : G)),
  (("_law_let" : Str), (.fn 108 6 [3, 4, 5] : G)),
  (("_law_name_by" : Str), (.fn 100 1 [] : G)),
  (("_law_once" : Str), (.fn 103 2 [] : G)),
  (("_law_row" : Str), (.fn 102 2 [] : G)),
  (("_law_values" : Str), (.fn 107 4 [1] : G)),
  (("_law_whole" : Str), (.fn 104 1 [] : G)),
  (("abs" : Str), (.bf .abs : G)),
  (("bool" : Str), (.ty .bool : G)),
  (("dict" : Str), (.bf .dict : G)),
  (("free" : Str), (.fn 6 1 [] : G)),
  (("int" : Str), (.ty .int : G)),
  (("is_name" : Str), (.fn 0 1 [] : G)),
  (("is_node" : Str), (.fn 2 1 [] : G)),
  (("is_number" : Str), (.fn 1 1 [] : G)),
  (("isinstance" : Str), (.isi : G)),
  (("kept_by" : Str), (.fn 18 3 [] : G)),
  (("len" : Str), (.bf .len : G)),
  (("list" : Str), (.ty .list : G)),
  (("looked" : Str), (.fn 17 3 [] : G)),
  (("made" : Str), (.fn 22 2 [] : G)),
  (("milled" : Str), (.fn 20 2 [] : G)),
  (("need_number" : Str), (.fn 19 1 [] : G)),
  (("need_tree" : Str), (.fn 4 1 [] : G)),
  (("need_work" : Str), (.fn 7 2 [] : G)),
  (("parts" : Str), (.fn 3 1 [] : G)),
  (("range" : Str), (.rng : G)),
  (("reversed" : Str), (.rvs : G)),
  (("str" : Str), (.ty .str : G)),
  (("tuple" : Str), (.ty .tup : G)),
  (("zip" : Str), (.zip : G)),
  (("see" : Str), (.meth 42 3 : G)),
  (("turn" : Str), (.meth 43 3 : G))]
abbrev d_is_name : He.DefD := ⟨("is_name", none), "is_name", "is_name", defArgs (top 13), defBody (top 13), defScope (top 13), [], []⟩
def n_is_name : List Str := ["word", "sign"]
abbrev f_is_name : FD := P.f_is_name
abbrev e_is_name : Ent := ⟨d_is_name, n_is_name, ["word"], 0, 2, f_is_name⟩
abbrev d_is_number : He.DefD := ⟨("is_number", none), "is_number", "is_number", defArgs (top 14), defBody (top 14), defScope (top 14), [], []⟩
def n_is_number : List Str := ["thing"]
abbrev f_is_number : FD := P.f_is_number
abbrev e_is_number : Ent := ⟨d_is_number, n_is_number, ["thing"], 1, 1, f_is_number⟩
abbrev d_is_node : He.DefD := ⟨("is_node", none), "is_node", "is_node", defArgs (top 15), defBody (top 15), defScope (top 15), [], []⟩
def n_is_node : List Str := ["thing", "word"]
abbrev f_is_node : FD := P.f_is_node
abbrev e_is_node : Ent := ⟨d_is_node, n_is_node, ["thing"], 2, 2, f_is_node⟩
abbrev d_parts : He.DefD := ⟨("parts", none), "parts", "parts", defArgs (top 16), defBody (top 16), defScope (top 16), [], []⟩
def n_parts : List Str := ["tree"]
abbrev f_parts : FD := P.f_parts
abbrev e_parts : Ent := ⟨d_parts, n_parts, ["tree"], 3, 1, f_parts⟩
abbrev d_need_tree : He.DefD := ⟨("need_tree", none), "need_tree", "need_tree", defArgs (top 17), defBody (top 17), defScope (top 17), [], []⟩
def n_need_tree : List Str := ["tree", "todo", "many", "node"]
abbrev f_need_tree : FD := P.f_need_tree
abbrev e_need_tree : Ent := ⟨d_need_tree, n_need_tree, ["tree"], 4, 4, f_need_tree⟩
abbrev d_free : He.DefD := ⟨("free", none), "free", "free", defArgs (top 18), defBody (top 18), defScope (top 18), [], []⟩
def n_free : List Str := ["tree", "found", "todo", "pair", "node", "bound", "inner", "some", "part"]
abbrev f_free : FD := P.f_free
abbrev e_free : Ent := ⟨d_free, n_free, ["tree"], 6, 9, f_free⟩
abbrev d_need_work : He.DefD := ⟨("need_work", none), "need_work", "need_work", defArgs (top 19), defBody (top 19), defScope (top 19), [], []⟩
def n_need_work : List Str := ["tree", "most"]
abbrev f_need_work : FD := P.f_need_work
abbrev e_need_work : Ent := ⟨d_need_work, n_need_work, ["tree", "most"], 7, 2, f_need_work⟩
abbrev d_looked : He.DefD := ⟨("looked", none), "looked", "looked", defArgs (top 22), defBody (top 22), defScope (top 22), [], []⟩
def n_looked : List Str := ["name", "names", "held", "at"]
abbrev f_looked : FD := P.f_looked
abbrev e_looked : Ent := ⟨d_looked, n_looked, ["name", "names", "held"], 17, 4, f_looked⟩
abbrev d_kept_by : He.DefD := ⟨("kept_by", none), "kept_by", "kept_by", defArgs (top 23), defBody (top 23), defScope (top 23), [], []⟩
def n_kept_by : List Str := ["node", "names", "held", "own", "one"]
abbrev f_kept_by : FD := P.f_kept_by
abbrev e_kept_by : Ent := ⟨d_kept_by, n_kept_by, ["node", "names", "held"], 18, 5, f_kept_by⟩
abbrev d_need_number : He.DefD := ⟨("need_number", none), "need_number", "need_number", defArgs (top 24), defBody (top 24), defScope (top 24), [], []⟩
def n_need_number : List Str := ["value"]
abbrev f_need_number : FD := P.f_need_number
abbrev e_need_number : Ent := ⟨d_need_number, n_need_number, ["value"], 19, 1, f_need_number⟩
abbrev d_milled : He.DefD := ⟨("milled", none), "milled", "milled", defArgs (top 26), defBody (top 26), defScope (top 26), [], []⟩
def n_milled : List Str := ["tree", "most", "mill", "row"]
abbrev f_milled : FD := P.f_milled
abbrev e_milled : Ent := ⟨d_milled, n_milled, ["tree", "most"], 20, 2, f_milled⟩
abbrev d_made : He.DefD := ⟨("made", none), "made", "made", defArgs (top 27), defBody (top 27), defScope (top 27), [], []⟩
def n_made : List Str := ["tree", "most"]
abbrev f_made : FD := P.f_made
abbrev e_made : Ent := ⟨d_made, n_made, ["tree", "most"], 22, 2, f_made⟩
abbrev d_l_cell_at : He.DefD := ⟨("_law_cell_at", none), "_law_cell_at", "_law_cell_at", defArgs (top 29), defBody (top 29), defScope (top 29), [], []⟩
def n_l_cell_at : List Str := ["_law_script", "_law_k"]
abbrev f_l_cell_at : FD := P.f_l_cell_at
abbrev e_l_cell_at : Ent := ⟨d_l_cell_at, n_l_cell_at, ["_law_script", "_law_k"], 90, 2, f_l_cell_at⟩
abbrev d_l_name_by : He.DefD := ⟨("_law_name_by", none), "_law_name_by", "_law_name_by", defArgs (top 30), defBody (top 30), defScope (top 30), [], []⟩
def n_l_name_by : List Str := ["_law_cell", "_law_letters", "_law_common", "_law_turn", "_law_at", "_law_word"]
def b_l_name_by_0 : List CS := [
    (.asg 2 (.bin .add (.v 2) (.ix (.v 1) (.bin .mod (.bin .add (.bin .fdiv (.v 0) (.c (.int 208))) (.bin .mul (.c (.int 19)) (.v 3))) (.c (.int 26))))))]
def b_l_name_by : List CS := [
    (.asg 1 (.c (.str "abcdefghijklmnopqrstuvwxyz"))),
    (.asg 2 (.c (.str ""))),
    (.for 3 .rng (.tup [(.c (.int 0)), (.bin .mod (.bin .fdiv (.v 0) (.c (.int 26))) (.c (.int 8)))]) b_l_name_by_0),
    (.asg 4 (.bin .mod (.bin .fdiv (.v 0) (.c (.int 208))) (.bin .add (.bf .len [(.v 2)]) (.c (.int 1))))),
    (.asg 5 (.bin .add (.bin .add (.sl (.v 2) (.c .non) (.v 4)) (.ix (.v 1) (.bin .mod (.v 0) (.c (.int 26))))) (.sl (.v 2) (.v 4) (.c .non)))),
    (.ite (.cmp .isin (.v 5) (.tup [(.c (.str "num")), (.c (.str "name")), (.c (.str "fun")), (.c (.str "call")), (.c (.str "plus")), (.c (.str "less")), (.c (.str "if")), (.c (.str "let"))])) [
      (.ret (.ix (.v 1) (.bin .mod (.v 0) (.c (.int 26)))))] []),
    (.ret (.v 5))]
def f_l_name_by : FD := { np := 1, n := 6, body := b_l_name_by }
abbrev e_l_name_by : Ent := ⟨d_l_name_by, n_l_name_by, ["_law_cell"], 100, 6, f_l_name_by⟩
abbrev d_l_body : He.DefD := ⟨("_law_body", none), "_law_body", "_law_body", defArgs (top 31), defBody (top 31), defScope (top 31), [], []⟩
def n_l_body : List Str := ["_law_row_here", "_law_number", "_law_tree", "_law_name"]
def b_l_body_0 : List CS := [
    (.asg 2 (.tup [(.c (.str "plus")), (.tup [(.c (.str "name")), (.v 3)]), (.v 2)]))]
def b_l_body : List CS := [
    (.asg 2 (.tup [(.c (.str "num")), (.v 1)])),
    (.for 3 .rvs (.v 0) b_l_body_0),
    (.ret (.v 2))]
def f_l_body : FD := { np := 2, n := 4, body := b_l_body }
abbrev e_l_body : Ent := ⟨d_l_body, n_l_body, ["_law_row_here", "_law_number"], 101, 4, f_l_body⟩
abbrev d_l_row : He.DefD := ⟨("_law_row", none), "_law_row", "_law_row", defArgs (top 32), defBody (top 32), defScope (top 32), [], []⟩
def n_l_row : List Str := ["_law_cell", "_law_names", "_law_row_here", "_law_turn"]
def b_l_row_0 : List CS := [
    (.exp (.mt .append (.v 2) [(.ix (.v 1) (.bin .mod (.bin .fdiv (.bin .fdiv (.v 0) (.c (.int 7))) (.ix (.lst [(.c (.int 1)), (.c (.int 3)), (.c (.int 9)), (.c (.int 27)), (.c (.int 81)), (.c (.int 243))]) (.v 3))) (.bf .len [(.v 1)])))]))]
def b_l_row : List CS := [
    (.asg 2 (.lst [])),
    (.for 3 .rng (.tup [(.c (.int 0)), (.bin .mod (.v 0) (.c (.int 7)))]) b_l_row_0),
    (.ret (.v 2))]
def f_l_row : FD := { np := 2, n := 4, body := b_l_row }
abbrev e_l_row : Ent := ⟨d_l_row, n_l_row, ["_law_cell", "_law_names"], 102, 4, f_l_row⟩
abbrev d_l_once : He.DefD := ⟨("_law_once", none), "_law_once", "_law_once", defArgs (top 33), defBody (top 33), defScope (top 33), [], []⟩
def n_l_once : List Str := ["_law_row_here", "_law_without", "_law_found", "_law_name"]
def b_l_once_0 : List CS := [
    (.ite (.and (.cmp .nin (.v 3) (.v 2)) (.cmp .ne (.v 3) (.v 1))) [
      (.exp (.mt .append (.v 2) [(.v 3)]))] [])]
def b_l_once : List CS := [
    (.asg 2 (.lst [])),
    (.for 3 .seq (.v 0) b_l_once_0),
    (.ret (.v 2))]
def f_l_once : FD := { np := 2, n := 4, body := b_l_once }
abbrev e_l_once : Ent := ⟨d_l_once, n_l_once, ["_law_row_here", "_law_without"], 103, 4, f_l_once⟩
abbrev d_l_whole : He.DefD := ⟨("_law_whole", none), "_law_whole", "_law_whole", defArgs (top 34), defBody (top 34), defScope (top 34), [], []⟩
def n_l_whole : List Str := ["_law_found"]
def b_l_whole : List CS := [
    (.ret (.and (.isi (.v 0) .int) (.not (.isi (.v 0) .bool))))]
def f_l_whole : FD := { np := 1, n := 1, body := b_l_whole }
abbrev e_l_whole : Ent := ⟨d_l_whole, n_l_whole, ["_law_found"], 104, 1, f_l_whole⟩
abbrev d_l_held_right : He.DefD := ⟨("_law_held_right", none), "_law_held_right", "_law_held_right", defArgs (top 35), defBody (top 35), defScope (top 35), [], []⟩
def n_l_held_right : List Str := ["_law_found", "_law_due"]
def b_l_held_right : List CS := [
    (.ite (.not (.isi (.v 1) .tup)) [
      (.ret (.and (.call 104 [(.v 0)]) (.cmp .eq (.v 0) (.v 1))))] []),
    (.ret (.and (.isi (.v 0) (.cls 0)) (.and (.cmp .eq (.fld (.v 0) 0 0) (.ix (.v 1) (.c (.int 0)))) (.cmp .eq (.fld (.v 0) 0 1) (.ix (.v 1) (.c (.int 1)))))))]
def f_l_held_right : FD := { np := 2, n := 2, body := b_l_held_right }
abbrev e_l_held_right : Ent := ⟨d_l_held_right, n_l_held_right, ["_law_found", "_law_due"], 105, 2, f_l_held_right⟩
abbrev d_l_kept_right : He.DefD := ⟨("_law_kept_right", none), "_law_kept_right", "_law_kept_right", defArgs (top 36), defBody (top 36), defScope (top 36), [], []⟩
def n_l_kept_right : List Str := ["_law_one", "_law_row_here", "_law_value", "_law_worth"]
def b_l_kept_right_0 : List CS := [
    (.ite (.not (.call 105 [(.v 2), (.v 3)])) [
      (.ret (.c (.bl false)))] [])]
def b_l_kept_right : List CS := [
    (.ite (.or (.not (.isi (.v 0) (.cls 0))) (.or (.cmp .ne (.fld (.v 0) 0 0) (.ix (.v 1) (.c (.int 0)))) (.or (.cmp .ne (.fld (.v 0) 0 1) (.ix (.v 1) (.c (.int 1)))) (.cmp .ne (.fld (.v 0) 0 2) (.ix (.v 1) (.c (.int 2))))))) [
      (.ret (.c (.bl false)))] []),
    (.ite (.or (.not (.isi (.fld (.v 0) 0 3) .list)) (.cmp .ne (.bf .len [(.fld (.v 0) 0 3)]) (.bf .len [(.ix (.v 1) (.c (.int 3)))]))) [
      (.ret (.c (.bl false)))] []),
    (.forz 2 3 (.fld (.v 0) 0 3) (.ix (.v 1) (.c (.int 3))) b_l_kept_right_0),
    (.ret (.c (.bl true)))]
def f_l_kept_right : FD := { np := 2, n := 4, body := b_l_kept_right }
abbrev e_l_kept_right : Ent := ⟨d_l_kept_right, n_l_kept_right, ["_law_one", "_law_row_here"], 106, 4, f_l_kept_right⟩
abbrev d_l_values : He.DefD := ⟨("_law_values", none), "_law_values", "_law_values", defArgs (top 37), defBody (top 37), defScope (top 37), [], []⟩
def n_l_values : List Str := ["_law_row_here", "_law_stands", "_law_outer", "_law_worth", "_law_some", "_law_name"]
def b_l_values : List CS := [
    (.asg 4 (.call 103 [(.v 0), (.c (.str ""))])),
    (.ret (.tup [(.v 4), (.comp (.ifx (.cmp .eq (.v 5) (.v 2)) (.v 3) (.dix (.v 1) (.v 5))) 5 (.v 4) .seq (.c (.bl true)))]))]
def f_l_values : FD := { np := 4, n := 6, body := b_l_values }
abbrev e_l_values : Ent := ⟨d_l_values, n_l_values, ["_law_row_here", "_law_stands", "_law_outer", "_law_worth"], 107, 6, f_l_values⟩
abbrev d_l_let : He.DefD := ⟨("_law_let", none), "_law_let", "_law_let", defArgs (top 38), defBody (top 38), defScope (top 38), [], []⟩
def n_l_let : List Str := ["_law_cell", "_law_k", "_law_names", "_law_stands", "_law_makers", "_law_due", "_law_way", "_law_worth", "_law_outer", "_law_row_here", "_law_inner", "_law_maker", "_law_pair", "_law_some", "_law_name"]
def b_l_let : List CS := [
    (.asg 6 (.bin .mod (.v 0) (.c (.int 4)))),
    (.asg 7 (.bin .sub (.bin .mod (.bin .mul (.v 0) (.c (.int 48271))) (.c (.int 1999))) (.c (.int 999)))),
    (.asg 8 (.ix (.v 2) (.c (.int 10)))),
    (.asg 9 (.call 102 [(.bin .fdiv (.v 0) (.c (.int 4))), (.bin .add (.sl (.v 2) (.c .non) (.v 1)) (.bin .mul (.lst [(.v 8)]) (.bf .int [(.cmp .isin (.v 6) (.tup [(.c (.int 1)), (.c (.int 2))]))])))])),
    (.asg 10 (.tup [(.c (.str "fun")), (.ix (.v 2) (.c (.int 11))), (.call 101 [(.v 9), (.v 1)])])),
    (.ite (.and (.cmp .eq (.v 6) (.c (.int 3))) (.v 4)) [
      (.asg 11 (.ix (.v 4) (.bin .mod (.v 7) (.bf .len [(.v 4)])))),
      (.asg 12 (.call 107 [(.ix (.v 11) (.c (.int 1))), (.ix (.v 11) (.c (.int 3))), (.v 8), (.v 7)])),
      (.exp (.mt .append (.v 5) [(.tup [(.ix (.v 2) (.c (.int 11))), (.ix (.ix (.v 11) (.c (.int 2))) (.c (.int 2))), (.ix (.v 12) (.c (.int 0))), (.ix (.v 12) (.c (.int 1)))])])),
      (.dsub (.v 3) (.ix (.v 2) (.v 1)) (.tup [(.ix (.v 2) (.c (.int 11))), (.ix (.ix (.v 11) (.c (.int 2))) (.c (.int 2)))])),
      (.ret (.tup [(.c (.str "call")), (.tup [(.c (.str "name")), (.ix (.v 11) (.c (.int 0)))]), (.tup [(.c (.str "num")), (.v 7)])]))] []),
    (.ite (.or (.cmp .eq (.v 6) (.c (.int 1))) (.cmp .eq (.v 6) (.c (.int 2)))) [
      (.asg 13 (.call 103 [(.v 9), (.v 8)])),
      (.exp (.mt .append (.v 5) [(.tup [(.v 8), (.v 10), (.v 13), (.comp (.dix (.v 3) (.v 14)) 14 (.v 13) .seq (.c (.bl true)))])]))] []),
    (.ite (.cmp .eq (.v 6) (.c (.int 2))) [
      (.exp (.mt .append (.v 4) [(.tup [(.ix (.v 2) (.v 1)), (.v 9), (.v 10), (.bf .dict [(.v 3)])])])),
      (.dsub (.v 3) (.ix (.v 2) (.v 1)) (.tup [(.v 8), (.v 10)])),
      (.ret (.tup [(.c (.str "fun")), (.v 8), (.v 10)]))] []),
    (.asg 12 (.call 107 [(.v 9), (.r 3), (.v 8), (.v 7)])),
    (.exp (.mt .append (.v 5) [(.tup [(.ix (.v 2) (.c (.int 11))), (.ix (.v 10) (.c (.int 2))), (.ix (.v 12) (.c (.int 0))), (.ix (.v 12) (.c (.int 1)))])])),
    (.dsub (.v 3) (.ix (.v 2) (.v 1)) (.tup [(.ix (.v 2) (.c (.int 11))), (.ix (.v 10) (.c (.int 2)))])),
    (.ite (.cmp .eq (.v 6) (.c (.int 1))) [
      (.ret (.tup [(.c (.str "call")), (.tup [(.c (.str "fun")), (.v 8), (.v 10)]), (.tup [(.c (.str "num")), (.v 7)])]))] []),
    (.ret (.v 10))]
def f_l_let : FD := { np := 6, n := 15, body := b_l_let }
abbrev e_l_let : Ent := ⟨d_l_let, n_l_let, ["_law_cell", "_law_k", "_law_names", "_law_stands", "_law_makers", "_law_due"], 108, 15, f_l_let⟩
abbrev d_law : He.DefD := ⟨("law", none), "law", "law", defArgs (top 39), defBody (top 39), defScope (top 39), [], []⟩
def n_law : List Str := ["_law_script", "_law_first", "_law_second", "_law_names", "_law_k", "_law_number", "_law_lets", "_law_stands", "_law_makers", "_law_due", "_law_node", "_law_tree", "_law_pair", "_law_found", "_law_one", "_law_row_here"]
def b_law_0 : List CS := [
    (.asg 10 (.call 108 [(.call 90 [(.v 0), (.bin .add (.c (.int 1)) (.v 4))]), (.v 4), (.v 3), (.r 7), (.r 8), (.r 9)])),
    (.exp (.mt .append (.v 6) [(.tup [(.ix (.v 3) (.v 4)), (.v 10)])]))]
def b_law_1 : List CS := [
    (.asg 11 (.tup [(.c (.str "let")), (.ix (.v 12) (.c (.int 0))), (.ix (.v 12) (.c (.int 1))), (.v 11)]))]
def b_law_2 : List CS := [
    (.ite (.not (.call 106 [(.v 14), (.v 15)])) [
      (.ret (.c (.bl false)))] [])]
def b_law : List CS := [
    (.asg 1 (.call 90 [(.v 0), (.c (.int 0))])),
    (.asg 2 (.call 90 [(.v 0), (.c (.int 1))])),
    (.asg 3 (.comp (.call 100 [(.bin .add (.bin .sub (.v 1) (.bin .mod (.v 1) (.c (.int 26)))) (.bin .mod (.bin .add (.v 1) (.bin .mul (.c (.int 7)) (.v 4))) (.c (.int 26))))]) 4 (.tup [(.c (.int 0)), (.c (.int 12))]) .rng (.c (.bl true)))),
    (.ite (.cmp .eq (.bin .mod (.bin .fdiv (.v 1) (.c (.int 1000))) (.c (.int 4))) (.c (.int 0))) [
      (.sub (.v 3) (.bin .add (.c (.int 1)) (.bin .mod (.v 2) (.c (.int 9)))) (.ix (.v 3) (.c (.int 0))))] []),
    (.asg 5 (.bin .add (.bin .sub (.bin .mod (.bin .fdiv (.v 2) (.c (.int 9))) (.bin .sub (.bin .mul (.c (.int 2)) (.bin .pow (.c (.int 10)) (.c (.int 60)))) (.c (.int 1)))) (.bin .pow (.c (.int 10)) (.c (.int 60)))) (.c (.int 1)))),
    (.asg 6 (.lst [(.tup [(.ix (.v 3) (.c (.int 0))), (.tup [(.c (.str "num")), (.v 5)])])])),
    (.asg 7 (.dct1 3 (0) 5)),
    (.asg 8 (.lst [])),
    (.asg 9 (.lst [])),
    (.for 4 .rng (.tup [(.c (.int 1)), (.bin .add (.c (.int 1)) (.bin .mod (.bin .fdiv (.v 2) (.c (.int 3))) (.c (.int 10))))]) b_law_0),
    (.asg 11 (.tup [(.c (.str "num")), (.c (.int 7))])),
    (.for 12 .rvs (.v 6) b_law_1),
    (.asg 13 (.call 22 [(.v 11), (.bin .add (.bf .len [(.v 6)]) (.bf .len [(.v 9)]))])),
    (.ite (.or (.not (.isi (.v 13) .list)) (.cmp .ne (.bf .len [(.v 13)]) (.bf .len [(.v 9)]))) [
      (.ret (.c (.bl false)))] []),
    (.forz 14 15 (.v 13) (.v 9) b_law_2),
    (.ret (.c (.bl true)))]
def f_law : FD := { np := 1, n := 16, body := b_law }
abbrev e_law : Ent := ⟨d_law, n_law, ["_law_script"], 109, 16, f_law⟩
abbrev d_Kept_init : He.DefD := ⟨("Kept", some "__init__"), "__init__", "Kept.__init__", defArgs (sub (top 21) 0), defBody (sub (top 21) 0), defScope (sub (top 21) 0), [], []⟩
def n_Kept_init : List Str := ["self", "name", "body", "names", "held"]
abbrev f_Kept_init : FD := P.f_Kept_init
abbrev e_Kept_init : Ent := ⟨d_Kept_init, n_Kept_init, ["self", "name", "body", "names", "held"], 40, 0, f_Kept_init⟩
abbrev d_Mill_init : He.DefD := ⟨("Mill", some "__init__"), "__init__", "Mill.__init__", defArgs (sub (top 25) 0), defBody (sub (top 25) 0), defScope (sub (top 25) 0), [], []⟩
def n_Mill_init : List Str := ["self", "most"]
abbrev f_Mill_init : FD := P.f_Mill_init
abbrev e_Mill_init : Ent := ⟨d_Mill_init, n_Mill_init, ["self", "most"], 41, 0, f_Mill_init⟩
abbrev d_Mill_see : He.DefD := ⟨("Mill", some "see"), "see", "Mill.see", defArgs (sub (top 25) 1), defBody (sub (top 25) 1), defScope (sub (top 25) 1), [], []⟩
def n_Mill_see : List Str := ["self", "node", "names", "held", "first"]
abbrev f_Mill_see : FD := P.f_Mill_see
abbrev e_Mill_see : Ent := ⟨d_Mill_see, n_Mill_see, ["self", "node", "names", "held"], 42, 0, f_Mill_see⟩
abbrev d_Mill_turn : He.DefD := ⟨("Mill", some "turn"), "turn", "Mill.turn", defArgs (sub (top 25) 2), defBody (sub (top 25) 2), defScope (sub (top 25) 2), [], []⟩
def n_Mill_turn : List Str := ["self", "node", "names", "held", "value", "one", "other"]
abbrev f_Mill_turn : FD := P.f_Mill_turn
abbrev e_Mill_turn : Ent := ⟨d_Mill_turn, n_Mill_turn, ["self", "node", "names", "held"], 43, 0, f_Mill_turn⟩
def prg : Prg := ⟨tab, [e_is_name, e_is_number, e_is_node, e_parts, e_need_tree, e_free, e_need_work, e_looked, e_kept_by, e_need_number, e_milled, e_made, e_l_cell_at, e_l_name_by, e_l_body, e_l_row, e_l_once, e_l_whole, e_l_held_right, e_l_kept_right, e_l_values, e_l_let, e_law, e_Kept_init, e_Mill_init, e_Mill_see, e_Mill_turn]⟩
theorem o_is_name : EntOk tab prg.fds e_is_name := ⟨by kernel_rfl, by kernel_rfl, by kernel_rfl, fun _ _ _ _ _ _ us hl => match us, hl with | [_], _ => rfl⟩
theorem o_is_number : EntOk tab prg.fds e_is_number := ⟨by kernel_rfl, by kernel_rfl, by kernel_rfl, fun _ _ _ _ _ _ us hl => match us, hl with | [_], _ => rfl⟩
theorem o_is_node : EntOk tab prg.fds e_is_node := ⟨by kernel_rfl, by kernel_rfl, by kernel_rfl, fun _ _ _ _ _ _ us hl => match us, hl with | [_], _ => rfl⟩
theorem o_parts : EntOk tab prg.fds e_parts := ⟨by kernel_rfl, by kernel_rfl, by kernel_rfl, fun _ _ _ _ _ _ us hl => match us, hl with | [_], _ => rfl⟩
theorem o_need_tree : EntOk tab prg.fds e_need_tree := ⟨by kernel_rfl, by kernel_rfl, by kernel_rfl, fun _ _ _ _ _ _ us hl => match us, hl with | [_], _ => rfl⟩
theorem o_free : EntOk tab prg.fds e_free := ⟨by kernel_rfl, by kernel_rfl, by kernel_rfl, fun _ _ _ _ _ _ us hl => match us, hl with | [_], _ => rfl⟩
theorem o_need_work : EntOk tab prg.fds e_need_work := ⟨by kernel_rfl, by kernel_rfl, by kernel_rfl, fun _ _ _ _ _ _ us hl => match us, hl with | [_, _], _ => rfl⟩
theorem o_looked : EntOk tab prg.fds e_looked := ⟨by kernel_rfl, by kernel_rfl, by kernel_rfl, fun _ _ _ _ _ _ us hl => match us, hl with | [_, _, _], _ => rfl⟩
theorem o_kept_by : EntOk tab prg.fds e_kept_by := ⟨by kernel_rfl, by kernel_rfl, by kernel_rfl, fun _ _ _ _ _ _ us hl => match us, hl with | [_, _, _], _ => rfl⟩
theorem o_need_number : EntOk tab prg.fds e_need_number := ⟨by kernel_rfl, by kernel_rfl, by kernel_rfl, fun _ _ _ _ _ _ us hl => match us, hl with | [_], _ => rfl⟩
theorem o_milled : EntOk tab prg.fds e_milled := ⟨by kernel_rfl, by kernel_rfl, by kernel_rfl, fun _ _ _ _ _ _ us hl => match us, hl with | [_, _], _ => rfl⟩
theorem o_made : EntOk tab prg.fds e_made := ⟨by kernel_rfl, by kernel_rfl, by kernel_rfl, fun _ _ _ _ _ _ us hl => match us, hl with | [_, _], _ => rfl⟩
theorem o_l_cell_at : EntOk tab prg.fds e_l_cell_at := ⟨by kernel_rfl, by kernel_rfl, by kernel_rfl, fun _ _ _ _ _ _ us hl => match us, hl with | [_, _], _ => rfl⟩
theorem o_l_name_by : EntOk tab prg.fds e_l_name_by := ⟨by kernel_rfl, by kernel_rfl, by kernel_rfl, fun _ _ _ _ _ _ us hl => match us, hl with | [_], _ => rfl⟩
theorem o_l_body : EntOk tab prg.fds e_l_body := ⟨by kernel_rfl, by kernel_rfl, by kernel_rfl, fun _ _ _ _ _ _ us hl => match us, hl with | [_, _], _ => rfl⟩
theorem o_l_row : EntOk tab prg.fds e_l_row := ⟨by kernel_rfl, by kernel_rfl, by kernel_rfl, fun _ _ _ _ _ _ us hl => match us, hl with | [_, _], _ => rfl⟩
theorem o_l_once : EntOk tab prg.fds e_l_once := ⟨by kernel_rfl, by kernel_rfl, by kernel_rfl, fun _ _ _ _ _ _ us hl => match us, hl with | [_, _], _ => rfl⟩
theorem o_l_whole : EntOk tab prg.fds e_l_whole := ⟨by kernel_rfl, by kernel_rfl, by kernel_rfl, fun _ _ _ _ _ _ us hl => match us, hl with | [_], _ => rfl⟩
theorem o_l_held_right : EntOk tab prg.fds e_l_held_right := ⟨by kernel_rfl, by kernel_rfl, by kernel_rfl, fun _ _ _ _ _ _ us hl => match us, hl with | [_, _], _ => rfl⟩
theorem o_l_kept_right : EntOk tab prg.fds e_l_kept_right := ⟨by kernel_rfl, by kernel_rfl, by kernel_rfl, fun _ _ _ _ _ _ us hl => match us, hl with | [_, _], _ => rfl⟩
theorem o_l_values : EntOk tab prg.fds e_l_values := ⟨by kernel_rfl, by kernel_rfl, by kernel_rfl, fun _ _ _ _ _ _ us hl => match us, hl with | [_, _, _, _], _ => rfl⟩
theorem o_l_let : EntOk tab prg.fds e_l_let := ⟨by kernel_rfl, by kernel_rfl, by kernel_rfl, fun _ _ _ _ _ _ us hl => match us, hl with | [_, _, _, _, _, _], _ => rfl⟩
theorem o_law : EntOk tab prg.fds e_law := ⟨by kernel_rfl, by kernel_rfl, by kernel_rfl, fun _ _ _ _ _ _ us hl => match us, hl with | [_], _ => rfl⟩
theorem o_Kept_init : EntOk tab prg.fds e_Kept_init := ⟨by kernel_rfl, by kernel_rfl, by kernel_rfl, fun _ _ _ _ _ _ us hl => match us, hl with | [_, _, _, _, _], _ => rfl⟩
theorem o_Mill_init : EntOk tab prg.fds e_Mill_init := ⟨by kernel_rfl, by kernel_rfl, by kernel_rfl, fun _ _ _ _ _ _ us hl => match us, hl with | [_, _], _ => rfl⟩
theorem o_Mill_see : EntOk tab prg.fds e_Mill_see := ⟨by kernel_rfl, by kernel_rfl, by kernel_rfl, fun _ _ _ _ _ _ us hl => match us, hl with | [_, _, _, _], _ => rfl⟩
theorem o_Mill_turn : EntOk tab prg.fds e_Mill_turn := ⟨by kernel_rfl, by kernel_rfl, by kernel_rfl, fun _ _ _ _ _ _ us hl => match us, hl with | [_, _, _, _], _ => rfl⟩
theorem prg_k : prg.Ok := ⟨fun e he => by
  simp only [prg, List.mem_cons, List.not_mem_nil, or_false] at he
  rcases he with rfl | rfl | rfl | rfl | rfl | rfl | rfl | rfl | rfl | rfl | rfl | rfl | rfl | rfl | rfl | rfl | rfl | rfl | rfl | rfl | rfl | rfl | rfl | rfl | rfl | rfl | rfl
  · exact o_is_name
  · exact o_is_number
  · exact o_is_node
  · exact o_parts
  · exact o_need_tree
  · exact o_free
  · exact o_need_work
  · exact o_looked
  · exact o_kept_by
  · exact o_need_number
  · exact o_milled
  · exact o_made
  · exact o_l_cell_at
  · exact o_l_name_by
  · exact o_l_body
  · exact o_l_row
  · exact o_l_once
  · exact o_l_whole
  · exact o_l_held_right
  · exact o_l_kept_right
  · exact o_l_values
  · exact o_l_let
  · exact o_law
  · exact o_Kept_init
  · exact o_Mill_init
  · exact o_Mill_see
  · exact o_Mill_turn
  , by kernel_rfl, by kernel_rfl⟩
/-! ### the head -/
def fn : List He.DefD := [d_is_name, d_is_number, d_is_node, d_parts, d_need_tree, d_free, d_need_work, d_looked, d_kept_by, d_need_number, d_milled, d_made, d_l_cell_at, d_l_name_by, d_l_body, d_l_row, d_l_once, d_l_whole, d_l_held_right, d_l_kept_right, d_l_values, d_l_let, d_law, d_Kept_init, d_Mill_init, d_Mill_see, d_Mill_turn]
def ex (K : PySem.W.Frag) : Bool := (tab.all fun q => factB K q.1 q.2) && ((He.Fa.glo "law").ok K && excB K (excsOf tab))
abbrev R : PySem.W.OpenRow := PySem.W.OpenLaw.row PySem.Challenge.rw_closuremill_k12_functions_made_in_turn
abbrev hk : PySem.W.Hook := He.hookX 4 [] fn [] [] ex
def ob (s : PySem.W.SharedT) : He.AlX := He.obsX 4 [] fn [] [] ex (HandSHeadRun.getT s)
theorem ob_eq (s : PySem.W.SharedT) : ob s = hk.obs s.abs := He.obsX_eq (HandSHeadRun.getT_eq s)
def loose : List Str := [("is_name" : PySem.Str), ("is_number" : PySem.Str), ("is_node" : PySem.Str), ("parts" : PySem.Str), ("need_tree" : PySem.Str), ("free" : PySem.Str), ("need_work" : PySem.Str), ("looked" : PySem.Str), ("kept_by" : PySem.Str), ("need_number" : PySem.Str), ("milled" : PySem.Str), ("made" : PySem.Str), ("_law_cell_at" : PySem.Str), ("_law_name_by" : PySem.Str), ("_law_body" : PySem.Str), ("_law_row" : PySem.Str), ("_law_once" : PySem.Str), ("_law_whole" : PySem.Str), ("_law_held_right" : PySem.Str), ("_law_kept_right" : PySem.Str), ("_law_values" : PySem.Str), ("_law_let" : PySem.Str), ("WORDS" : PySem.Str), ("LETTERS" : PySem.Str), ("MOST_NODES" : PySem.Str), ("MOST_DEEDS" : PySem.Str), ("MillError" : PySem.Str), ("NoTree" : PySem.Str), ("NotClosed" : PySem.Str), ("BadMost" : PySem.Str), ("NoNumber" : PySem.Str), ("NoFunction" : PySem.Str), ("Dry" : PySem.Str), ("Kept" : PySem.Str), ("Mill" : PySem.Str)]
theorem run (w : World) : HandSHeadRun.RunEq R (PySem.W.view R.prog [39]) hk ob 4000 [("is_name" : PySem.Str), ("is_number" : PySem.Str), ("is_node" : PySem.Str), ("parts" : PySem.Str), ("need_tree" : PySem.Str), ("free" : PySem.Str), ("need_work" : PySem.Str), ("looked" : PySem.Str), ("kept_by" : PySem.Str), ("need_number" : PySem.Str), ("milled" : PySem.Str), ("made" : PySem.Str), ("_law_cell_at" : PySem.Str), ("_law_name_by" : PySem.Str), ("_law_body" : PySem.Str), ("_law_row" : PySem.Str), ("_law_once" : PySem.Str), ("_law_whole" : PySem.Str), ("_law_held_right" : PySem.Str), ("_law_kept_right" : PySem.Str), ("_law_values" : PySem.Str), ("_law_let" : PySem.Str), ("WORDS" : PySem.Str), ("LETTERS" : PySem.Str), ("MOST_NODES" : PySem.Str), ("MOST_DEEDS" : PySem.Str), ("MillError" : PySem.Str), ("NoTree" : PySem.Str), ("NotClosed" : PySem.Str), ("BadMost" : PySem.Str), ("NoNumber" : PySem.Str), ("NoFunction" : PySem.Str), ("Dry" : PySem.Str), ("Kept" : PySem.Str), ("Mill" : PySem.Str)] w := by
  intro os
  kernel_rfl
end Mi.K12
namespace Mi
open PySem
/-! ### loops and comprehensions, in general -/
def fnx (o : Option Out) (k : S → Option Out) : Option Out := match o with
  | some (.nx s) => k s
  | some (.ct s) => k s
  | some (.bk s) => some (.nx s)
  | o => o
theorem fnx_congr {x x' : Option Out} {k : S → Option Out} (h : x = x') : fnx x k = fnx x' k := by rw [h]
@[simp] theorem fnx_nx (s : S) (k : S → Option Out) : fnx (some (.nx s)) k = k s := rfl
@[simp] theorem fnx_ct (s : S) (k : S → Option Out) : fnx (some (.ct s)) k = k s := rfl
@[simp] theorem fnx_bk (s : S) (k : S → Option Out) : fnx (some (.bk s)) k = some (.nx s) := rfl
@[simp] theorem fnx_rt (a : Ag) (s : S) (k : S → Option Out) : fnx (some (.rt a s)) k = some (.rt a s) := rfl
@[simp] theorem fnx_ex (a : Nat) (s : S) (k : S → Option Out) : fnx (some (.ex a s)) k = some (.ex a s) := rfl
theorem forL_nil (put : D → S → S) (b : S → Option Out) (s : S) : forL put b [] s = some (.nx s) := rfl
theorem forL_cons (put : D → S → S) (b : S → Option Out) (d : D) (r : List D) (s : S) : forL put b (d :: r) s = fnx (b (put d s)) (forL put b r) := by
  show (match b (put d s) with
    | some (.nx s1) => forL put b r s1
    | some (.ct s1) => forL put b r s1
    | some (.bk s1) => some (.nx s1)
    | o => o) = _
  unfold fnx
  cases b (put d s) with
  | none => rfl
  | some o => cases o <;> rfl
theorem rangeD_2 : rangeD 0 2 = [.int 0, .int 1] := rfl
theorem rangeD_3 : rangeD 0 3 = [.int 0, .int 1, .int 2] := rfl
theorem rangeD_4 : rangeD 0 4 = [.int 0, .int 1, .int 2, .int 3] := rfl
theorem forL_rel {put : D → S → S} {b : S → Option Out} (I : Nat → S → Prop) : ∀ (ds : List D) (k : Nat), (∀ j d s, ds[j]? = some d → I (k + j) s → ∃ s', b (put d s) = some (.nx s') ∧ I (k + j + 1) s') → ∀ s, I k s → ∃ s', forL put b ds s = some (.nx s') ∧ I (k + ds.length) s'
  | [], k, _, s, hs => ⟨s, rfl, hs⟩
  | d :: ds, k, h, s, hs => by
    obtain ⟨s1, e1, i1⟩ := h 0 d s rfl hs
    obtain ⟨s2, e2, i2⟩ := forL_rel I ds (k + 1) (fun j d s hd hi => by
      obtain ⟨s', q1, q2⟩ := h (j + 1) d s (by simpa using hd) (by rw [show k + (j + 1) = k + 1 + j by omega]; exact hi)
      exact ⟨s', q1, by rw [show k + 1 + j + 1 = k + (j + 1) + 1 by omega]; exact q2⟩) s1 i1
    refine ⟨s2, ?_, by rw [List.length_cons, show k + (ds.length + 1) = k + 1 + ds.length by omega]; exact i2⟩
    unfold forL
    rw [e1]
    exact e2
theorem forL_fn {put : D → S → S} {b : S → Option Out} (I : Nat → Cl → S) (ds : List D) (h : ∀ j d c, ds[j]? = some d → b (put d (I j c)) = some (.nx (I (j + 1) (.val d)))) (c : Cl) : ∃ c', forL put b ds (I 0 c) = some (.nx (I ds.length c')) := by
  obtain ⟨s', e, c', rfl⟩ := forL_rel (put := put) (b := b) (fun k s => ∃ c, s = I k c) ds 0 (fun j d s hd ⟨c, hs⟩ => ⟨I (j + 1) (.val d), by subst hs; rw [Nat.zero_add]; exact h j d c hd, .val d, by rw [Nat.zero_add]⟩) (I 0 c) ⟨c, rfl⟩
  exact ⟨c', by rw [e, Nat.zero_add]⟩
theorem range_get {lo hi : Int} {j : Nat} {d : D} (h : (rangeD lo hi)[j]? = some d) : j < (hi - lo).toNat ∧ d = .int (lo + j) := by
  rcases Nat.lt_or_ge j (hi - lo).toNat with z | z
  · refine ⟨z, ?_⟩
    unfold rangeD at h
    rw [List.getElem?_map, List.getElem?_range z] at h
    cases h
    rfl
  · unfold rangeD at h
    rw [List.getElem?_eq_none (by rw [List.length_map, List.length_range]; exact z)] at h
    cases h
theorem range_len (lo hi : Int) : (rangeD lo hi).length = (hi - lo).toNat := by unfold rangeD; rw [List.length_map, List.length_range]
/-- a comprehension whose element changes nothing -/
theorem turns_map {t : S → Option (R Bool)} {e : S → Option (R D)} {x : Nat} {s : S} {f : D → D} : ∀ (ds : List D) (c : Cl), (∀ d ∈ ds, t (s.set x (.val d)) = some (.ok true (s.set x (.val d))) ∧ e (s.set x (.val d)) = some (.ok (f d) (s.set x (.val d)))) → ∃ c', turns t e x ds (s.set x c) = some (ds.map f, s.set x c')
  | [], c, _ => ⟨c, rfl⟩
  | d :: ds, c, h => by
    obtain ⟨h1, h2⟩ := h d List.mem_cons_self
    obtain ⟨c', e'⟩ := turns_map ds (.val d) fun d' hd => h d' (List.mem_cons_of_mem _ hd)
    refine ⟨c', ?_⟩
    unfold turns
    rw [List.set_set, h1]
    dsimp only
    rw [h2]
    dsimp only
    rw [e']
    rfl
theorem turns_filter {t : S → Option (R Bool)} {e : S → Option (R D)} {x : Nat} {s : S} {f : D → D} {p : D → Bool} : ∀ (ds : List D) (c : Cl), (∀ d ∈ ds, t (s.set x (.val d)) = some (.ok (p d) (s.set x (.val d))) ∧ (p d = true → e (s.set x (.val d)) = some (.ok (f d) (s.set x (.val d))))) → ∃ c', turns t e x ds (s.set x c) = some ((ds.filter p).map f, s.set x c')
  | [], c, _ => ⟨c, rfl⟩
  | d :: ds, c, h => by
    obtain ⟨h1, h2⟩ := h d List.mem_cons_self
    obtain ⟨c', e'⟩ := turns_filter ds (.val d) fun d' hd => h d' (List.mem_cons_of_mem _ hd)
    refine ⟨c', ?_⟩
    unfold turns
    rw [List.set_set, h1]
    cases hp : p d with
    | true =>
      dsimp only
      rw [h2 hp]
      dsimp only
      rw [e', List.filter_cons_of_pos hp]
      rfl
    | false =>
      dsimp only
      rw [e', List.filter_cons_of_neg (by rw [hp]; exact Bool.false_ne_true)]
theorem comp_eq (Γ : Env) (e : CE) (x : Nat) (it : CE) (k : It) (t : CE) (s : S) : ev Γ (.comp e x it k t) s = bnd (srcOf (forItems k) (ev Γ it s)) fun ds s => if (gt s x).own || decide (1000000 < ds.length) then none else
    (turns (fun s => evT Γ t s) (fun s => toV (ev Γ e s)) x ds s).map fun p => .ok (.fr (.lst p.1)) (p.2.set x (gt s x)) := rfl
theorem set_back {s : S} {x : Nat} {c : Cl} : (s.set x c).set x (gt s x) = s := by rw [List.set_set]; exact set_gt x
theorem comp_map {Γ : Env} {e : CE} {x : Nat} {it : CE} {k : It} {s s1 : S} {ds : List D} (f : D → D) (hs : srcOf (forItems k) (ev Γ it s) = some (.ok ds s1)) (ho : (gt s1 x).own = false) (hl : ds.length ≤ 1000000) (he : ∀ d ∈ ds, toV (ev Γ e (s1.set x (.val d))) = some (.ok (f d) (s1.set x (.val d)))) :
    ev Γ (.comp e x it k (.c (.bl true))) s = some (.ok (.fr (.lst (ds.map f))) s1) := by
  rw [comp_eq, hs, bnd_ok, ho, decide_eq_false (by omega)]
  obtain ⟨c', e'⟩ := turns_map (t := fun s => evT Γ (.c (.bl true)) s) (e := fun s => toV (ev Γ e s)) (x := x) (s := s1) (f := f) ds (gt s1 x) fun d hd => ⟨rfl, he d hd⟩
  rw [set_gt] at e'
  show (turns _ _ x ds s1).map _ = _
  rw [e']
  show some (R.ok (Ro.fr (.lst (ds.map f))) ((s1.set x c').set x (gt s1 x))) = _
  rw [set_back]
theorem comp_filter {Γ : Env} {e t : CE} {x : Nat} {it : CE} {k : It} {s s1 : S} {ds : List D} (f : D → D) (p : D → Bool) (hs : srcOf (forItems k) (ev Γ it s) = some (.ok ds s1)) (ho : (gt s1 x).own = false) (hl : ds.length ≤ 1000000)
    (he : ∀ d ∈ ds, evT Γ t (s1.set x (.val d)) = some (.ok (p d) (s1.set x (.val d))) ∧ (p d = true → toV (ev Γ e (s1.set x (.val d))) = some (.ok (f d) (s1.set x (.val d))))) :
    ev Γ (.comp e x it k t) s = some (.ok (.fr (.lst ((ds.filter p).map f))) s1) := by
  rw [comp_eq, hs, bnd_ok, ho, decide_eq_false (by omega)]
  obtain ⟨c', e'⟩ := turns_filter (t := fun s => evT Γ t s) (e := fun s => toV (ev Γ e s)) (x := x) (s := s1) (f := f) (p := p) ds (gt s1 x) he
  rw [set_gt] at e'
  show (turns _ _ x ds s1).map _ = _
  rw [e']
  show some (R.ok (Ro.fr (.lst ((ds.filter p).map f))) ((s1.set x c').set x (gt s1 x))) = _
  rw [set_back]
theorem sq_rng (lo hi : Int) (s : S) (h1 : -(2 ^ 62) ≤ lo ∧ lo < 2 ^ 62 ∧ -(2 ^ 62) ≤ hi ∧ hi < 2 ^ 62) : sq? (forItems .rng) (.tup [.int lo, .int hi]) s = some (.ok (rangeD lo hi) s) := by
  show (if big (-(2 ^ 62) ≤ lo ∧ lo < 2 ^ 62 ∧ -(2 ^ 62) ≤ hi ∧ hi < 2 ^ 62) = true then some (rangeD lo hi) else none).map _ = _
  rw [if_pos (big_iff.mpr h1)]; rfl
@[simp] theorem sq_lst (xs : List D) (s : S) : sq? (forItems .seq) (.lst xs) s = some (.ok xs s) := rfl
@[simp] theorem sq_tup (xs : List D) (s : S) : sq? (forItems .seq) (.tup xs) s = some (.ok xs s) := rfl
@[simp] theorem sq_scr (xs : List Int) (s : S) : sq? (forItems .seq) (.scr xs) s = some (.ok (xs.map .int) s) := rfl
@[simp] theorem sq_rvs (xs : List D) (s : S) : sq? (forItems .rvs) (.lst xs) s = some (.ok xs.reverse s) := rfl
theorem execs_app (Γ : Env) (n : Nat) (lk : List Nat) (oc : Nat) : ∀ (a b : List CS) (s : S), execs Γ n lk oc (a ++ b) s = nxt (execs Γ n lk oc a s) (execs Γ n lk oc b)
  | [], b, s => by simp
  | c :: a, b, s => by
    rw [List.cons_append, execs_cons, execs_cons]
    cases exec Γ n lk oc c s with
    | none => rfl
    | some o =>
      cases o with
      | nx s1 => rw [nxt_nx, nxt_nx, execs_app Γ n lk oc a b s1]
      | rt a s1 => rfl
      | bk s1 => rfl
      | ct s1 => rfl
      | ex k s1 => rfl
theorem cutL_map {α β : Type} (f : α → β) (l : List α) (lo hi : Option Int) : cutL (l.map f) lo hi = (cutL l lo hi).map f := by
  unfold cutL
  rw [List.length_map, List.map_take, List.map_drop]
theorem cutL_len {α : Type} (l : List α) (lo hi : Option Int) : (cutL l lo hi).length ≤ l.length := by
  unfold cutL
  rw [List.length_take, List.length_drop]
  omega
/-! ### ints -/
@[simp] theorem bin_modP (a b : Int) (h : 0 < b) : binop .mod (.val (.int a)) (.val (.int b)) = some (.val (.int (a % b))) := by
  show ((if b ≠ 0 then some (a.fmod b) else none).map fun k => Cl.val (.int k)) = _
  rw [if_pos (by omega), Int.fmod_eq_emod_of_nonneg a (by omega)]; rfl
@[simp] theorem bin_fdiv' (a b : Int) (h : 0 < b) (h2 : b < 1073741824) : binop .fdiv (.val (.int a)) (.val (.int b)) = some (.val (.int (a / b))) := by
  show ((if b ≠ 0 ∧ b.natAbs < 1073741824 then some (a.fdiv b) else none).map fun k => Cl.val (.int k)) = _
  rw [if_pos ⟨by omega, by omega⟩, Int.fdiv_eq_ediv_of_nonneg a (by omega)]; rfl
@[simp] theorem bin_mulI (a b : Int) (h : cmul a b = true) : binop .mul (.val (.int a)) (.val (.int b)) = some (.val (.int (a * b))) := by
  show (if cmul a b = true then some (Cl.val (.int (a * b))) else none) = _
  rw [if_pos h]
@[simp] theorem cmul_l {a b : Int} (h1 : -(2 ^ 64) < a) (h2 : a < 2 ^ 64) : cmul a b = true := big_iff.mpr (.inl ⟨h1, h2⟩)
theorem cmul_r {a b : Int} (h1 : -(2 ^ 64) < b) (h2 : b < 2 ^ 64) : cmul a b = true := big_iff.mpr (.inr ⟨h1, h2⟩)
@[simp] theorem bin_pow' : binop .pow (.val (.int 10)) (.val (.int 60)) = some (.val (.int (10 ^ 60))) := by
  show ((if (0 : Int) ≤ 60 ∧ (60 : Int) ≤ 1000000 ∧ (10 : Int).natAbs < 2 ^ 64 then some ((10 : Int) ^ (60 : Int).toNat) else none).map fun k => Cl.val (.int k)) = _
  rw [if_pos (by decide)]; rfl
@[simp] theorem bin_addLL (a b : List D) : binop .add (.val (.lst a)) (.val (.lst b)) = if a.length + b.length ≤ sizeLine then some (.lst (a ++ b)) else none := rfl
@[simp] theorem bin_addlL (a b : List D) : binop .add (.lst a) (.val (.lst b)) = if a.length + b.length ≤ sizeLine then some (.lst (a ++ b)) else none := rfl
@[simp] theorem bin_addLl (a b : List D) : binop .add (.val (.lst a)) (.lst b) = if a.length + b.length ≤ sizeLine then some (.lst (a ++ b)) else none := rfl
@[simp] theorem bin_addll (a b : List D) : binop .add (.lst a) (.lst b) = if a.length + b.length ≤ sizeLine then some (.lst (a ++ b)) else none := rfl
theorem cutL_to {α : Type} (l : List α) (k : Nat) : cutL l none (some (k : Int)) = l.take k := by
  unfold cutL
  rw [HT.sIx_none, HT.sIx_nat, List.drop_zero, Nat.sub_zero, List.take_eq_take_iff]
  omega
theorem cutL_from {α : Type} (l : List α) (k : Nat) : cutL l (some (k : Int)) none = l.drop k := by
  unfold cutL
  rw [HT.sIx_none, HT.sIx_nat, List.take_of_length_le (by rw [List.length_drop]; exact Nat.le_refl _)]
  rcases Nat.le_total k l.length with h | h
  · rw [Nat.min_eq_left h]
  · rw [Nat.min_eq_right h, List.drop_eq_nil_of_le (Nat.le_refl _), List.drop_eq_nil_of_le h]
theorem sl_vlst (xs : List D) (lo hi : Option Int) : slop (.val (.lst xs)) lo hi = some (.lst (cutL xs lo hi)) := rfl
theorem sl_lst (xs : List D) (lo hi : Option Int) : slop (.lst xs) lo hi = some (.lst (cutL xs lo hi)) := rfl
theorem sl_tup (xs : List D) (lo hi : Option Int) : slop (.val (.tup xs)) lo hi = some (.val (.tup (cutL xs lo hi))) := rfl
theorem sl_scr (xs : List Int) (lo hi : Option Int) : slop (.val (.scr xs)) lo hi = some (.lst (cutL (xs.map .int) lo hi)) := rfl
/-! ### texts -/
def St (l : List Nat) : Str := ⟨l.toArray⟩
@[simp] theorem st_app (a b : List Nat) : St a ++ St b = St (a ++ b) := by
  show (⟨a.toArray ++ b.toArray⟩ : Str) = ⟨(a ++ b).toArray⟩
  simp
@[simp] theorem st_len (a : List Nat) : (St a).length = a.length := by show (a.toArray).size = _; simp
@[simp] theorem st_list (a : List Nat) : (St a).cps.toList = a := by show (a.toArray).toList = a; simp
theorem st_inj {a b : List Nat} : St a = St b ↔ a = b := ⟨fun h => by have := congrArg (fun z : Str => z.cps.toList) h; simpa using this, fun h => by rw [h]⟩
@[simp] theorem st_beq (a b : List Nat) : (St a == St b) = (a == b) := by
  by_cases h : a = b
  · subst h; simp
  · rw [beq_eq_false_iff_ne.mpr h, beq_eq_false_iff_ne]
    exact fun z => h (st_inj.mp z)
theorem st_of (x : Str) : x = St x.cps.toList := by cases x; rfl
theorem st_cut (l : List Nat) (lo hi : Option Int) : L2.cutS (St l) lo hi = St ((l.drop (HT.sIx l.length 0 lo)).take (HT.sIx l.length l.length hi - HT.sIx l.length 0 lo)) := by
  unfold L2.cutS
  rw [st_len, st_list]; rfl
theorem st_to (l : List Nat) (k : Nat) : L2.cutS (St l) none (some (k : Int)) = St (l.take k) := by
  rw [st_cut, HT.sIx_none, HT.sIx_nat, List.drop_zero, Nat.sub_zero]
  congr 1
  rw [List.take_eq_take_iff]
  omega
theorem st_from (l : List Nat) (k : Nat) : L2.cutS (St l) (some (k : Int)) none = St (l.drop k) := by
  rw [st_cut, HT.sIx_none, HT.sIx_nat]
  congr 1
  rw [List.take_of_length_le (by rw [List.length_drop]; exact Nat.le_refl _)]
  rcases Nat.le_total k l.length with h | h
  · rw [Nat.min_eq_left h]
  · rw [Nat.min_eq_right h, List.drop_eq_nil_of_le (Nat.le_refl _), List.drop_eq_nil_of_le h]
theorem sl_to {l : List Nat} {i : Int} (hl : l.length ≤ sizeLine) (hi : 0 ≤ i) : slop (.val (.str (St l))) none (some i) = some (.val (.str (St (l.take i.toNat)))) := by
  show (if (St l).length ≤ sizeLine then some (Cl.val (.str (L2.cutS (St l) none (some i)))) else none) = _
  rw [st_len, if_pos hl, ← st_to l i.toNat, Int.toNat_of_nonneg hi]
theorem sl_from {l : List Nat} {i : Int} (hl : l.length ≤ sizeLine) (hi : 0 ≤ i) : slop (.val (.str (St l))) (some i) none = some (.val (.str (St (l.drop i.toNat)))) := by
  show (if (St l).length ≤ sizeLine then some (Cl.val (.str (L2.cutS (St l) (some i) none))) else none) = _
  rw [st_len, if_pos hl, ← st_from l i.toNat, Int.toNat_of_nonneg hi]
theorem size_100 {n : Nat} (h : n ≤ 100) : n ≤ sizeLine := Nat.le_trans h (by decide)
/-- the letter of a number -/
def ltr (i : Int) : Nat := 97 + (i % 26).toNat
theorem lets_k : ∀ k : Fin 26, L2.atI ("abcdefghijklmnopqrstuvwxyz" : Str).cps.toList (k.val : Int) = some (97 + k.val) := by decide +kernel
theorem lets_ix (i : Int) : ixop (.val (.str "abcdefghijklmnopqrstuvwxyz")) (.int (i % 26)) = some (.str (St [ltr i])) := by
  have h := lets_k ⟨(i % 26).toNat, by omega⟩
  have e : (((i % 26).toNat : Nat) : Int) = i % 26 := Int.toNat_of_nonneg (by omega)
  dsimp only at h
  rw [e] at h
  show (if ("abcdefghijklmnopqrstuvwxyz" : Str).length ≤ sizeLine then (L2.atI ("abcdefghijklmnopqrstuvwxyz" : Str).cps.toList (i % 26)).map (fun c => D.str ⟨⟨[c]⟩⟩) else none) = _
  rw [if_pos (by decide +kernel), h]; rfl
/-- a cell of the script -/
theorem cell_run (Γ : Env) (ns : List Int) (k : Nat) : ∃ s, execs Γ 2 [] 0 P.b_l_cell_at [.val (.scr ns), .val (.int k)] = some (.rt (.cl (.val (.int (ns.getD k 0)))) s) := by
  refine rtv_of ?_
  by_cases h : k < ns.length
  · have e : ns[k]? = some (ns.getD k 0) := by rw [List.getD_eq_getElem?_getD, List.getElem?_eq_getElem h]; rfl
    have h' : (k : Int) < (ns.length : Int) := by omega
    simp [P.b_l_cell_at, h', ix_scr e]
  · have e : ns.getD k 0 = 0 := by rw [List.getD_eq_getElem?_getD, List.getElem?_eq_none (by omega)]; rfl
    have h' : ¬ (k : Int) < (ns.length : Int) := by omega
    rw [e]
    simp [P.b_l_cell_at, h']
theorem cell_g {Q : Nat → Option FD} {n : Nat} (h : Q 90 = some P.f_l_cell_at) (ns : List Int) (k : Nat) : dc (envN Q (n + 1)) 90 [.scr ns, .int k] = some (.ok (.val (.int (ns.getD k 0)))) := by
  obtain ⟨s, e⟩ := cell_run (envN Q n) ns k
  exact dc_ok h rfl rfl rfl e
end Mi
namespace Mi
open PySem
/-! ### the names that the laws draw -/
def words8 : D := .tup [.str "num", .str "name", .str "fun", .str "call", .str "plus", .str "less", .str "if", .str "let"]
def wordsL : List (List Nat) := [[110, 117, 109], [110, 97, 109, 101], [102, 117, 110], [99, 97, 108, 108], [112, 108, 117, 115], [108, 101, 115, 115], [105, 102], [108, 101, 116]]
theorem words_eq : ("num" : Str) = St [110, 117, 109] ∧ ("name" : Str) = St [110, 97, 109, 101] ∧ ("fun" : Str) = St [102, 117, 110] ∧ ("call" : Str) = St [99, 97, 108, 108] ∧ ("plus" : Str) = St [112, 108, 117, 115] ∧ ("less" : Str) = St [108, 101, 115, 115] ∧ ("if" : Str) = St [105, 102] ∧ ("let" : Str) = St [108, 101, 116] := by decide +kernel
theorem isin_words (w : List Nat) : cmpop .isin (.val (.str (St w))) (.val words8) = some (decide (w ∈ wordsL)) := by
  obtain ⟨h1, h2, h3, h4, h5, h6, h7, h8⟩ := words_eq
  unfold words8
  rw [h1, h2, h3, h4, h5, h6, h7, h8]
  show some (List.any [D.str (St [110, 117, 109]), .str (St [110, 97, 109, 101]), .str (St [102, 117, 110]), .str (St [99, 97, 108, 108]), .str (St [112, 108, 117, 115]), .str (St [108, 101, 115, 115]), .str (St [105, 102]), .str (St [108, 101, 116])] fun e => eqF e (.str (St w))) = _
  have e : ∀ (l : List (List Nat)), (l.map fun a => D.str (St a)).any (fun e => eqF e (.str (St w))) = decide (w ∈ l) := fun l => by
    induction l with
    | nil => simp
    | cons a l ih =>
      rw [List.map_cons, List.any_cons, ih, eqF_str, st_beq]
      by_cases h : a = w
      · subst h; simp
      · have h' : ¬ w = a := fun z => h z.symm
        simp [h, h']
  exact congrArg some (e wordsL)
def others (m c : Int) : List Nat := (List.range ((c / 26) % 8).toNat).map fun (t : Nat) => ltr (c / 208 + m * t)
def nameAt (m c : Int) : Nat := ((c / 208) % (((others m c).length : Int) + 1)).toNat
def nameW (m c : Int) : List Nat := (others m c).take (nameAt m c) ++ [ltr c] ++ (others m c).drop (nameAt m c)
def nameL (m c : Int) : List Nat := if nameW m c ∈ wordsL then [ltr c] else nameW m c
def nameB0 (m : Int) : List CS := [.asg 2 (.bin .add (.v 2) (.ix (.v 1) (.bin .mod (.bin .add (.bin .fdiv (.v 0) (.c (.int 208))) (.bin .mul (.c (.int m)) (.v 3))) (.c (.int 26)))))]
/-- the def _law_name_by of every law; v: which of the two sums stands there -/
def nameB (m : Int) (v : Bool) : List CS := [
    (.asg 1 (.c (.str "abcdefghijklmnopqrstuvwxyz"))),
    (.asg 2 (.c (.str ""))),
    (.for 3 .rng (.tup [(.c (.int 0)), (.bin .mod (.bin .fdiv (.v 0) (.c (.int 26))) (.c (.int 8)))]) (nameB0 m)),
    (.asg 4 (.bin .mod (.bin .fdiv (.v 0) (.c (.int 208))) (if v then (.bin .add (.c (.int 1)) (.bf .len [(.v 2)])) else (.bin .add (.bf .len [(.v 2)]) (.c (.int 1)))))),
    (.asg 5 (.bin .add (.bin .add (.sl (.v 2) (.c .non) (.v 4)) (.ix (.v 1) (.bin .mod (.v 0) (.c (.int 26))))) (.sl (.v 2) (.v 4) (.c .non)))),
    (.ite (.cmp .isin (.v 5) (.tup [(.c (.str "num")), (.c (.str "name")), (.c (.str "fun")), (.c (.str "call")), (.c (.str "plus")), (.c (.str "less")), (.c (.str "if")), (.c (.str "let"))])) [
      (.ret (.ix (.v 1) (.bin .mod (.v 0) (.c (.int 26)))))] []),
    (.ret (.v 5))]
theorem others_len (m c : Int) : (others m c).length = ((c / 26) % 8).toNat := by unfold others; rw [List.length_map, List.length_range]
theorem others_le (m c : Int) : (others m c).length ≤ 7 := by rw [others_len]; omega
theorem empty_st : ("" : Str) = St [] := by decide +kernel
@[simp] theorem bf_len_str (z : List Nat) (h : z.length ≤ sizeLine) : bfop .len [.val (.str (St z))] = some (.val (.int z.length)) := by
  show (if (St z).length ≤ sizeLine then some (Cl.val (.int (St z).length)) else none) = _
  rw [st_len, if_pos h]
@[simp] theorem bin_addSt (a b : List Nat) (h : a.length + b.length ≤ sizeLine) : binop .add (.val (.str (St a))) (.val (.str (St b))) = some (.val (.str (St (a ++ b)))) := by
  show (if (St a).length + (St b).length ≤ sizeLine then some (Cl.val (.str (St a ++ St b))) else none) = _
  rw [st_len, st_len, if_pos h, st_app]
theorem name_run (Γ : Env) (m c : Int) (v : Bool) (hm : -(2 ^ 64) < m ∧ m < 2 ^ 64) : ∃ s, execs Γ 6 [] 0 (nameB m v) [.val (.int c), .un, .un, .un, .un, .un] = some (.rt (.cl (.val (.str (St (nameL m c))))) s) := by
  have loop : ∃ c3, forL (fun d s => s.set 3 (.val d)) (execs Γ 6 [] 0 (nameB0 m)) (rangeD 0 ((c / 26) % 8)) [.val (.int c), .val (.str "abcdefghijklmnopqrstuvwxyz"), .val (.str (St [])), .un, .un, .un] =
      some (.nx [.val (.int c), .val (.str "abcdefghijklmnopqrstuvwxyz"), .val (.str (St (others m c))), c3, .un, .un]) := by
    have q := forL_fn (put := fun d s => s.set 3 (.val d)) (b := execs Γ 6 [] 0 (nameB0 m)) (fun k c3 => [.val (.int c), .val (.str "abcdefghijklmnopqrstuvwxyz"), .val (.str (St ((List.range k).map fun (t : Nat) => ltr (c / 208 + m * t)))), c3, .un, .un]) (rangeD 0 ((c / 26) % 8)) (fun j d c3 hd => by
        obtain ⟨hj, rfl⟩ := range_get hd
        have hz : j + 1 ≤ sizeLine := size_100 (by omega)
        have hc := cmul_l (b := (j : Int)) hm.1 hm.2
        rw [List.range_succ, List.map_append]
        simp [nameB0, hc, lets_ix, hz]) .un
    obtain ⟨c3, e⟩ := q
    refine ⟨c3, ?_⟩
    rw [range_len, Int.sub_zero] at e
    exact e
  obtain ⟨c3, loop⟩ := loop
  have hl := others_le m c
  have h1 : (others m c).length ≤ sizeLine := size_100 (by omega)
  have h2 : 0 ≤ (c / 208) % (((others m c).length : Int) + 1) := Int.emod_nonneg _ (by omega)
  have h3 : (c / 208) % (((others m c).length : Int) + 1) < ((others m c).length : Int) + 1 := Int.emod_lt_of_pos _ (by omega)
  have h8 : (0 : Int) < ((others m c).length : Int) + 1 := by omega
  have s1 := sl_to (i := (c / 208) % (((others m c).length : Int) + 1)) h1 h2
  have s2 := sl_from (i := (c / 208) % (((others m c).length : Int) + 1)) h1 h2
  have z1 : ((others m c).take (nameAt m c)).length + 1 ≤ sizeLine := size_100 (by rw [List.length_take]; omega)
  have z2 : ((others m c).take (nameAt m c) ++ [ltr c]).length + ((others m c).drop (nameAt m c)).length ≤ sizeLine := size_100 (by rw [List.length_append, List.length_take, List.length_drop, List.length_singleton]; omega)
  have a1 := bin_addSt ((others m c).take (nameAt m c)) [ltr c] z1
  have a2 := bin_addSt ((others m c).take (nameAt m c) ++ [ltr c]) ((others m c).drop (nameAt m c)) z2
  have hw := isin_words (nameW m c)
  unfold words8 at hw
  change slop _ _ _ = some (.val (.str (St ((others m c).take (nameAt m c))))) at s1
  change slop _ _ _ = some (.val (.str (St ((others m c).drop (nameAt m c))))) at s2
  change binop _ _ _ = some (.val (.str (St (nameW m c)))) at a2
  have l0 := lets_ix c
  refine rtv_of ?_
  have rr := fun s => sq_rng 0 (c / 26 % 8) s (by omega)
  unfold nameL
  cases v <;> by_cases hi : nameW m c ∈ wordsL <;> simp [nameB, exec_for, empty_st, loop, h1, h8, s1, s2, a1, a2, hw, l0, hi, Int.add_comm 1, rr]
theorem name_g {Q : Nat → Option FD} {n f : Nat} {fd : FD} (m : Int) (v : Bool) (hm : -(2 ^ 64) < m ∧ m < 2 ^ 64) (h : Q f = some fd) (hb : fd = { np := 1, n := 6, body := nameB m v }) (c : Int) : dc (envN Q (n + 1)) f [.int c] = some (.ok (.val (.str (St (nameL m c))))) := by
  subst hb
  obtain ⟨s, e⟩ := name_run (envN Q n) m c v hm
  exact dc_ok h rfl rfl rfl e
end Mi
namespace Mi
open PySem
/-- a tree of the document -/
inductive T where
  | num (i : Int) | name (x : Str) | fn (x : Str) (b : T) | call (a b : T) | plus (a b : T) | less (a b : T) | ite (a b c : T) | lett (x : Str) (a b : T)
def T.d : T → D
  | .num i => .tup [.str "num", .int i]
  | .name x => .tup [.str "name", .str x]
  | .fn x b => .tup [.str "fun", .str x, b.d]
  | .call a b => .tup [.str "call", a.d, b.d]
  | .plus a b => .tup [.str "plus", a.d, b.d]
  | .less a b => .tup [.str "less", a.d, b.d]
  | .ite a b c => .tup [.str "if", a.d, b.d, c.d]
  | .lett x a b => .tup [.str "let", .str x, a.d, b.d]
def T.parts : T → List T
  | .num _ => []
  | .name _ => []
  | .fn _ b => [b]
  | .call a b => [a, b]
  | .plus a b => [a, b]
  | .less a b => [a, b]
  | .ite a b c => [a, b, c]
  | .lett _ a b => [a, b]
/-- the same node over other parts -/
def T.over : T → List T → T
  | .fn x _, [b] => .fn x b
  | .call _ _, [a, b] => .call a b
  | .plus _ _, [a, b] => .plus a b
  | .less _ _, [a, b] => .less a b
  | .ite _ _ _, [a, b, c] => .ite a b c
  | .lett x _ _, [a, b] => .lett x a b
  | t, _ => t
def T.size : T → Nat
  | .num _ => 1
  | .name _ => 1
  | .fn _ b => b.size + 1
  | .call a b => a.size + b.size + 1
  | .plus a b => a.size + b.size + 1
  | .less a b => a.size + b.size + 1
  | .ite a b c => a.size + b.size + c.size + 1
  | .lett _ a b => a.size + b.size + 1
def T.hgt : T → Nat
  | .num _ => 1
  | .name _ => 1
  | .fn _ b => b.hgt + 1
  | .call a b => max a.hgt b.hgt + 1
  | .plus a b => max a.hgt b.hgt + 1
  | .less a b => max a.hgt b.hgt + 1
  | .ite a b c => max a.hgt (max b.hgt c.hgt) + 1
  | .lett _ a b => max a.hgt b.hgt + 1
theorem hgt_pos (t : T) : 1 ≤ t.hgt := by cases t <;> simp [T.hgt]
theorem hgt_size : ∀ t : T, t.hgt ≤ t.size
  | .num _ => Nat.le_refl _
  | .name _ => Nat.le_refl _
  | .fn _ b => by have := hgt_size b; simp only [T.hgt, T.size]; omega
  | .call a b => by have := hgt_size a; have := hgt_size b; simp only [T.hgt, T.size]; omega
  | .plus a b => by have := hgt_size a; have := hgt_size b; simp only [T.hgt, T.size]; omega
  | .less a b => by have := hgt_size a; have := hgt_size b; simp only [T.hgt, T.size]; omega
  | .ite a b c => by have := hgt_size a; have := hgt_size b; have := hgt_size c; simp only [T.hgt, T.size]; omega
  | .lett _ a b => by have := hgt_size a; have := hgt_size b; simp only [T.hgt, T.size]; omega
def T.put (x : Str) (v : T) : T → T
  | .num i => .num i
  | .name y => if y = x then v else .name y
  | .fn y b => if y = x then .fn y b else .fn y (T.put x v b)
  | .call a b => .call (T.put x v a) (T.put x v b)
  | .plus a b => .plus (T.put x v a) (T.put x v b)
  | .less a b => .less (T.put x v a) (T.put x v b)
  | .ite a b c => .ite (T.put x v a) (T.put x v b) (T.put x v c)
  | .lett y a b => .lett y (T.put x v a) (if y = x then b else T.put x v b)
theorem parts_run (Γ : Env) (t : T) : ∃ s, execs Γ 1 [] 0 P.b_parts [.val t.d] = some (.rt (.cl (.lst (t.parts.map T.d))) s) := by
  cases t <;> exact ⟨_, rfl⟩
theorem remade_run (Γ : Env) (t : T) (ks : List T) (h : ks.length = t.parts.length) (hp : t.parts ≠ []) : ∃ s, execs Γ 2 [] 0 P.b_remade [.val t.d, .val (.lst (ks.map T.d))] = some (.rt (.cl (.val (t.over ks).d)) s) := by
  cases t with
  | num i => exact absurd rfl hp
  | name i => exact absurd rfl hp
  | fn x b => match ks, h with | [k], _ => exact ⟨_, rfl⟩
  | call x b => match ks, h with | [k, l], _ => exact ⟨_, rfl⟩
  | plus x b => match ks, h with | [k, l], _ => exact ⟨_, rfl⟩
  | less x b => match ks, h with | [k, l], _ => exact ⟨_, rfl⟩
  | ite x b c => match ks, h with | [k, l, m], _ => exact ⟨_, rfl⟩
  | lett x a b => match ks, h with | [k, l], _ => exact ⟨_, rfl⟩
/-! ### put -/
section
variable (Γ : Env) (x : Str) (v : T)
abbrev see (t : T) : D := .tup [.str "see", t.d]
abbrev mke (t : T) : D := .tup [.str "make", t.d]
abbrev kep (t : T) : D := .tup [.str "keep", t.d]
/-- pushing the kids -/
theorem put_push (a0 a1 a2 a4 a5 a6 : Cl) : ∀ (rs : List T) (todo : List D), todo.length + rs.length ≤ 1000000 →
    loop (evT Γ (.v 7)) (execs Γ 8 [] 0 P.b_put_2) [a0, a1, a2, .lst todo, a4, a5, a6, .lst (rs.reverse.map T.d)] = some (.nx [a0, a1, a2, .lst (todo ++ rs.map see), a4, a5, a6, .lst []])
  | [], todo, h => by
    rw [loop_end (s1 := [a0, a1, a2, .lst todo, a4, a5, a6, .lst []]) (by simp)]
    simp
  | k :: rs, todo, h => by
    rw [List.length_cons] at h
    rw [loop_turn (s1 := [a0, a1, a2, .lst todo, a4, a5, a6, .lst ((k :: rs).reverse.map T.d)]) (s2 := [a0, a1, a2, .lst (todo ++ [see k]), a4, a5, a6, .lst (rs.reverse.map T.d)]) (by simp) ?_, put_push a0 a1 a2 a4 a5 a6 rs _ (by rw [List.length_append, List.length_singleton]; omega)]
    · simp
    · have : todo.length < sizeLine := Nat.lt_of_le_of_lt (by omega) million
      simp [P.b_put_2, this]
def ParG (Γ : Env) : Prop := ∀ t : T, dc Γ 3 [t.d] = some (.ok (.lst (t.parts.map T.d)))
def RemG (Γ : Env) : Prop := ∀ (t : T) (ks : List T), ks.length = t.parts.length → t.parts ≠ [] → dc Γ 9 [t.d, .lst (ks.map T.d)] = some (.ok (.val (t.over ks).d))
theorem parts_le (t : T) : t.parts.length ≤ 3 := by cases t <;> simp [T.parts]
/-- the kids come back -/
theorem put_pop (h3 : ParG Γ) (a0 a1 a2 a3 a5 : Cl) (t : T) (done : List D) : ∀ (rs acc : List T), acc.length + rs.length = t.parts.length →
    loop (evT Γ (.cmp .lt (.bf .len [.v 7]) (.bf .len [.call 3 [.v 6]]))) (execs Γ 8 [] 0 P.b_put_1) [a0, a1, a2, a3, .lst (done ++ rs.reverse.map T.d), a5, .val t.d, .lst (acc.map T.d)] = some (.nx [a0, a1, a2, a3, .lst done, a5, .val t.d, .lst ((rs.reverse ++ acc).map T.d)])
  | [], acc, h => by
    rw [loop_end (s1 := [a0, a1, a2, a3, .lst done, a5, .val t.d, .lst (acc.map T.d)])]
    · simp
    · simp [h3 t] at h ⊢
      omega
  | k :: rs, acc, h => by
    have hp := parts_le t
    rw [List.length_cons] at h
    rw [loop_turn (s1 := [a0, a1, a2, a3, .lst (done ++ (k :: rs).reverse.map T.d), a5, .val t.d, .lst (acc.map T.d)]) (s2 := [a0, a1, a2, a3, .lst (done ++ rs.reverse.map T.d), a5, .val t.d, .lst ((k :: acc).map T.d)]) ?_ ?_, put_pop h3 a0 a1 a2 a3 a5 t done rs (k :: acc) (by rw [List.length_cons]; omega)]
    · simp
    · simp [h3 t]
      omega
    · have : acc.length < sizeLine := Nat.lt_of_le_of_lt (by omega) million
      have e : done ++ (k :: rs).reverse.map T.d = (done ++ rs.reverse.map T.d) ++ [k.d] := by simp
      rw [e]
      simp [P.b_put_1, this]

noncomputable abbrev putL (Γ : Env) := loop (evT Γ (.v 3)) (execs Γ 8 [] 0 P.b_put_0)
theorem len1 (l : List D) (d : D) : (l ++ [d]).length = l.length + 1 := by simp
/-- one thing of the pile -/
theorem put_keep (h3 : ParG Γ) (a0 c5 c6 c7 : Cl) (t : T) (todo done : List D) (hd : done.length < 1000000) :
    putL Γ [a0, .val (.str x), .val v.d, .lst (todo ++ [kep t]), .lst done, c5, c6, c7] = putL Γ [a0, .val (.str x), .val v.d, .lst todo, .lst (done ++ [t.d]), .val (kep t), .val t.d, c7] := by
  refine loop_turn (s1 := [a0, .val (.str x), .val v.d, .lst (todo ++ [kep t]), .lst done, c5, c6, c7]) (by simp) ?_
  have : done.length < sizeLine := Nat.lt_of_lt_of_le hd (Nat.le_of_lt million)
  simp [P.b_put_0, this]
theorem put_make (h3 : ParG Γ) (h9 : RemG Γ) (a0 c5 c6 c7 : Cl) (t : T) (ks : List T) (hk : ks.length = t.parts.length) (hp : t.parts ≠ []) (todo done : List D) (hd : done.length < 1000000) :
    ∃ c6' c7', putL Γ [a0, .val (.str x), .val v.d, .lst (todo ++ [mke t]), .lst (done ++ ks.map T.d), c5, c6, c7] = putL Γ [a0, .val (.str x), .val v.d, .lst todo, .lst (done ++ [(t.over ks).d]), .val (mke t), c6', c7'] := by
  refine ⟨.val t.d, .val (.lst (ks.map T.d)), loop_turn (s1 := [a0, .val (.str x), .val v.d, .lst (todo ++ [mke t]), .lst (done ++ ks.map T.d), c5, c6, c7]) (by simp) ?_⟩
  have hd : done.length < sizeLine := Nat.lt_of_lt_of_le hd (Nat.le_of_lt million)
  have q := put_pop Γ h3 a0 (.val (.str x)) (.val v.d) (.lst todo) (.val (mke t)) t done ks.reverse [] (by simpa using hk)
  simp only [List.reverse_reverse, List.append_nil, List.map_nil] at q
  simp [P.b_put_0, exec_whl, q, hd, h9 t ks hk hp]

/-- a thing on the pile gives a tree -/
def Gv (a0 : Cl) (i : D) (r : T) (n : Nat) : Prop := ∀ (todo done : List D) (c5 c6 c7 : Cl), todo.length + 4 * n ≤ 1000000 → done.length + 4 * n ≤ 1000000 →
  ∃ c5' c6' c7', putL Γ [a0, .val (.str x), .val v.d, .lst (todo ++ [i]), .lst done, c5, c6, c7] = putL Γ [a0, .val (.str x), .val v.d, .lst todo, .lst (done ++ [r.d]), c5', c6', c7']
theorem gv_list (a0 : Cl) (B : Nat) : ∀ (is : List (D × T)), (∀ q ∈ is, Gv Γ x v a0 q.1 q.2 B) → ∀ (todo done : List D) (c5 c6 c7 : Cl), todo.length + is.length + 4 * B ≤ 1000000 → done.length + is.length + 4 * B ≤ 1000000 →
    ∃ c5' c6' c7', putL Γ [a0, .val (.str x), .val v.d, .lst (todo ++ is.reverse.map fun q => q.1), .lst done, c5, c6, c7] = putL Γ [a0, .val (.str x), .val v.d, .lst todo, .lst (done ++ is.map fun q => q.2.d), c5', c6', c7']
  | [], _, todo, done, c5, c6, c7, _, _ => ⟨c5, c6, c7, by simp⟩
  | q :: is, h, todo, done, c5, c6, c7, h1, h2 => by
    have g := h q List.mem_cons_self
    rw [List.length_cons] at h1 h2
    obtain ⟨d5, d6, d7, e1⟩ := g (todo ++ is.reverse.map fun q => q.1) done c5 c6 c7 (by rw [List.length_append, List.length_map, List.length_reverse]; omega) (by omega)
    obtain ⟨e5, e6, e7, e2⟩ := gv_list a0 B is (fun q hq => h q (List.mem_cons_of_mem _ hq)) todo (done ++ [q.2.d]) d5 d6 d7 (by omega) (by rw [List.length_append, List.length_singleton]; omega)
    refine ⟨e5, e6, e7, ?_⟩
    rw [List.reverse_cons, List.map_append, ← List.append_assoc]
    rw [show ([q].map fun q => q.1) = [q.1] from rfl, e1, e2, List.map_cons]
    simp
theorem size_pos (t : T) : 1 ≤ t.size := by cases t <;> simp [T.size]
theorem Gv.mono {a0 : Cl} {i : D} {r : T} {n m : Nat} (h : Gv Γ x v a0 i r n) (hm : n ≤ m) : Gv Γ x v a0 i r m := fun todo done c5 c6 c7 h1 h2 => h todo done c5 c6 c7 (by omega) (by omega)
theorem gv_keep (h3 : ParG Γ) (a0 : Cl) (t : T) (n : Nat) (hn : 1 ≤ n) : Gv Γ x v a0 (kep t) t n := fun todo done c5 c6 c7 h1 h2 => by
  exact ⟨_, _, _, put_keep Γ x v h3 a0 c5 c6 c7 t todo done (by omega)⟩
/-- a node with parts: its turn, then the parts, then the node over them -/
theorem gv_node (h3 : ParG Γ) (h9 : RemG Γ) (a0 : Cl) (t : T) (B : Nat) (is : List (D × T)) (hs : B + 1 ≤ t.hgt) (hi : ∀ q ∈ is, Gv Γ x v a0 q.1 q.2 B) (hl : is.length = t.parts.length) (hp : t.parts ≠ [])
    (turn : ∀ (todo done : List D) (c5 c6 c7 : Cl), todo.length + 8 ≤ 1000000 → execs Γ 8 [] 0 P.b_put_0 [a0, .val (.str x), .val v.d, .lst (todo ++ [see t]), .lst done, c5, c6, c7] = some (.nx [a0, .val (.str x), .val v.d, .lst ((todo ++ [mke t]) ++ is.reverse.map fun q => q.1), .lst done, .val (see t), .val t.d, .lst []])) (hB : 1 ≤ B) :
    Gv Γ x v a0 (see t) (t.over (is.map fun q => q.2)) t.hgt := fun todo done c5 c6 c7 h1 h2 => by
  have pl := parts_le t
  have e1 : putL Γ [a0, .val (.str x), .val v.d, .lst (todo ++ [see t]), .lst done, c5, c6, c7] = putL Γ [a0, .val (.str x), .val v.d, .lst ((todo ++ [mke t]) ++ is.reverse.map fun q => q.1), .lst done, .val (see t), .val t.d, .lst []] :=
    loop_turn (s1 := [a0, .val (.str x), .val v.d, .lst (todo ++ [see t]), .lst done, c5, c6, c7]) (by simp) (turn todo done c5 c6 c7 (by omega))
  obtain ⟨e5, e6, e7, e2⟩ := gv_list Γ x v a0 B is hi (todo ++ [mke t]) done (.val (see t)) (.val t.d) (.lst []) (by rw [List.length_append, List.length_singleton]; omega) (by omega)
  obtain ⟨f6, f7, e3⟩ := put_make Γ x v h3 h9 a0 e5 e6 e7 t (is.map fun q => q.2) (by rw [List.length_map]; exact hl) hp todo done (by omega)
  refine ⟨.val (mke t), f6, f7, ?_⟩
  rw [e1, e2]
  rw [List.map_map] at e3
  exact e3
theorem put_see (h3 : ParG Γ) (h9 : RemG Γ) (a0 : Cl) : ∀ t : T, Gv Γ x v a0 (see t) (T.put x v t) t.hgt
  | .num i => fun todo done c5 c6 c7 h1 h2 => by
    have hd : done.length < sizeLine := Nat.lt_of_lt_of_le (show done.length < 1000000 by simp only [T.hgt] at h2; omega) (Nat.le_of_lt million)
    refine ⟨_, _, _, loop_turn (s1 := [a0, .val (.str x), .val v.d, .lst (todo ++ [see (.num i)]), .lst done, c5, c6, c7]) (s2 := [a0, .val (.str x), .val v.d, .lst todo, .lst (done ++ [(T.num i).d]), .val (see (.num i)), .val (T.num i).d, c7]) (by simp) ?_⟩
    simp [P.b_put_0, T.d, hd]
  | .name y => fun todo done c5 c6 c7 h1 h2 => by
    have hd : done.length < sizeLine := Nat.lt_of_lt_of_le (show done.length < 1000000 by simp only [T.hgt] at h2; omega) (Nat.le_of_lt million)
    refine ⟨_, _, _, loop_turn (s1 := [a0, .val (.str x), .val v.d, .lst (todo ++ [see (.name y)]), .lst done, c5, c6, c7]) (s2 := [a0, .val (.str x), .val v.d, .lst todo, .lst (done ++ [(T.put x v (.name y)).d]), .val (see (.name y)), .val (T.name y).d, c7]) (by simp) ?_⟩
    by_cases h : y = x <;> simp [P.b_put_0, T.d, T.put, hd, h]
  | .fn y b => by
    by_cases h : y = x
    · intro todo done c5 c6 c7 h1 h2
      have hd : done.length < sizeLine := Nat.lt_of_lt_of_le (show done.length < 1000000 by simp only [T.hgt] at h2; omega) (Nat.le_of_lt million)
      refine ⟨_, _, _, loop_turn (s1 := [a0, .val (.str x), .val v.d, .lst (todo ++ [see (.fn y b)]), .lst done, c5, c6, c7]) (s2 := [a0, .val (.str x), .val v.d, .lst todo, .lst (done ++ [(T.put x v (.fn y b)).d]), .val (see (.fn y b)), .val (T.fn y b).d, c7]) (by simp) ?_⟩
      simp [P.b_put_0, T.d, T.put, hd, h]
    · have q := gv_node Γ x v h3 h9 a0 (.fn y b) b.hgt [(see b, T.put x v b)] (by simp [T.hgt]) (fun q hq => by rw [List.mem_singleton.mp hq]; exact (put_see h3 h9 a0 b).mono Γ x v (by omega)) rfl (by simp [T.parts]) (hB := by have := hgt_pos b; omega) fun todo done c5 c6 c7 hb => by
        have ht : todo.length < sizeLine := Nat.lt_of_lt_of_le (show todo.length < 1000000 by omega) (Nat.le_of_lt million)
        have ht1 : todo.length + 1 < sizeLine := Nat.lt_of_lt_of_le (show todo.length + 1 < 1000000 by omega) (Nat.le_of_lt million)
        have q := put_push Γ a0 (.val (.str x)) (.val v.d) (.lst done) (.val (see (.fn y b))) (.val (T.d (.fn y b))) [b] (todo ++ [mke (.fn y b)]) (by simp; omega)
        have q3 := h3 (.fn y b)
        simp [T.d, T.parts, see, mke, kep] at q q3
        simp [P.b_put_0, T.d, see, mke, kep, exec_whl, q, q3, ht, ht1, h]
      simpa [T.put, h, T.over] using q
  | .call a b => by
    have q := gv_node Γ x v h3 h9 a0 (.call a b) (max a.hgt b.hgt) [(see a, T.put x v a), (see b, T.put x v b)] (by simp [T.hgt]) (fun q hq => by simp only [List.mem_cons, List.not_mem_nil, or_false] at hq; rcases hq with rfl | rfl; exact (put_see h3 h9 a0 a).mono Γ x v (by omega); exact (put_see h3 h9 a0 b).mono Γ x v (by omega)) rfl (by simp [T.parts]) (hB := by have := hgt_pos a; omega) fun todo done c5 c6 c7 hb => by
      have ht : todo.length < sizeLine := Nat.lt_of_lt_of_le (show todo.length < 1000000 by omega) (Nat.le_of_lt million)
      have ht1 : todo.length + 1 < sizeLine := Nat.lt_of_lt_of_le (show todo.length + 1 < 1000000 by omega) (Nat.le_of_lt million)
      have q := put_push Γ a0 (.val (.str x)) (.val v.d) (.lst done) (.val (see (.call a b))) (.val (T.d (.call a b))) [b, a] (todo ++ [mke (.call a b)]) (by simp; omega)
      have q3 := h3 (.call a b)
      simp [T.d, T.parts, see, mke, kep] at q q3
      simp [P.b_put_0, T.d, see, mke, kep, exec_whl, q, q3, ht, ht1]
    simpa [T.put, T.over] using q
  | .plus a b => by
    have q := gv_node Γ x v h3 h9 a0 (.plus a b) (max a.hgt b.hgt) [(see a, T.put x v a), (see b, T.put x v b)] (by simp [T.hgt]) (fun q hq => by simp only [List.mem_cons, List.not_mem_nil, or_false] at hq; rcases hq with rfl | rfl; exact (put_see h3 h9 a0 a).mono Γ x v (by omega); exact (put_see h3 h9 a0 b).mono Γ x v (by omega)) rfl (by simp [T.parts]) (hB := by have := hgt_pos a; omega) fun todo done c5 c6 c7 hb => by
      have ht : todo.length < sizeLine := Nat.lt_of_lt_of_le (show todo.length < 1000000 by omega) (Nat.le_of_lt million)
      have ht1 : todo.length + 1 < sizeLine := Nat.lt_of_lt_of_le (show todo.length + 1 < 1000000 by omega) (Nat.le_of_lt million)
      have q := put_push Γ a0 (.val (.str x)) (.val v.d) (.lst done) (.val (see (.plus a b))) (.val (T.d (.plus a b))) [b, a] (todo ++ [mke (.plus a b)]) (by simp; omega)
      have q3 := h3 (.plus a b)
      simp [T.d, T.parts, see, mke, kep] at q q3
      simp [P.b_put_0, T.d, see, mke, kep, exec_whl, q, q3, ht, ht1]
    simpa [T.put, T.over] using q
  | .less a b => by
    have q := gv_node Γ x v h3 h9 a0 (.less a b) (max a.hgt b.hgt) [(see a, T.put x v a), (see b, T.put x v b)] (by simp [T.hgt]) (fun q hq => by simp only [List.mem_cons, List.not_mem_nil, or_false] at hq; rcases hq with rfl | rfl; exact (put_see h3 h9 a0 a).mono Γ x v (by omega); exact (put_see h3 h9 a0 b).mono Γ x v (by omega)) rfl (by simp [T.parts]) (hB := by have := hgt_pos a; omega) fun todo done c5 c6 c7 hb => by
      have ht : todo.length < sizeLine := Nat.lt_of_lt_of_le (show todo.length < 1000000 by omega) (Nat.le_of_lt million)
      have ht1 : todo.length + 1 < sizeLine := Nat.lt_of_lt_of_le (show todo.length + 1 < 1000000 by omega) (Nat.le_of_lt million)
      have q := put_push Γ a0 (.val (.str x)) (.val v.d) (.lst done) (.val (see (.less a b))) (.val (T.d (.less a b))) [b, a] (todo ++ [mke (.less a b)]) (by simp; omega)
      have q3 := h3 (.less a b)
      simp [T.d, T.parts, see, mke, kep] at q q3
      simp [P.b_put_0, T.d, see, mke, kep, exec_whl, q, q3, ht, ht1]
    simpa [T.put, T.over] using q
  | .ite a b c => by
    have q := gv_node Γ x v h3 h9 a0 (.ite a b c) (max a.hgt (max b.hgt c.hgt)) [(see a, T.put x v a), (see b, T.put x v b), (see c, T.put x v c)] (by simp [T.hgt]) (fun q hq => by simp only [List.mem_cons, List.not_mem_nil, or_false] at hq; rcases hq with rfl | rfl | rfl; exact (put_see h3 h9 a0 a).mono Γ x v (by omega); exact (put_see h3 h9 a0 b).mono Γ x v (by omega); exact (put_see h3 h9 a0 c).mono Γ x v (by omega)) rfl (by simp [T.parts]) (hB := by have := hgt_pos a; omega) fun todo done c5 c6 c7 hb => by
      have ht : todo.length < sizeLine := Nat.lt_of_lt_of_le (show todo.length < 1000000 by omega) (Nat.le_of_lt million)
      have ht1 : todo.length + 1 < sizeLine := Nat.lt_of_lt_of_le (show todo.length + 1 < 1000000 by omega) (Nat.le_of_lt million)
      have q := put_push Γ a0 (.val (.str x)) (.val v.d) (.lst done) (.val (see (.ite a b c))) (.val (T.d (.ite a b c))) [c, b, a] (todo ++ [mke (.ite a b c)]) (by simp; omega)
      have q3 := h3 (.ite a b c)
      simp [T.d, T.parts, see, mke, kep] at q q3
      simp [P.b_put_0, T.d, see, mke, kep, exec_whl, q, q3, ht, ht1]
    simpa [T.put, T.over] using q
  | .lett y a b => by
    by_cases h : y = x
    · have q := gv_node Γ x v h3 h9 a0 (.lett y a b) (max a.hgt b.hgt) [(see a, T.put x v a), (kep b, b)] (by simp [T.hgt]) (fun q hq => by simp only [List.mem_cons, List.not_mem_nil, or_false] at hq; rcases hq with rfl | rfl; exact (put_see h3 h9 a0 a).mono Γ x v (by omega); exact gv_keep Γ x v h3 a0 b _ (by have := hgt_pos b; omega)) rfl (by simp [T.parts]) (hB := by have := hgt_pos a; omega) fun todo done c5 c6 c7 hb => by
        have ht : todo.length < sizeLine := Nat.lt_of_lt_of_le (show todo.length < 1000000 by omega) (Nat.le_of_lt million)
        have ht1 : todo.length + 1 < sizeLine := Nat.lt_of_lt_of_le (show todo.length + 1 < 1000000 by omega) (Nat.le_of_lt million)
        have q := put_push Γ a0 (.val (.str x)) (.val v.d) (.lst done) (.val (see (.lett y a b))) (.val (T.d (.lett y a b))) [a] (todo ++ [mke (.lett y a b), kep b]) (by simp; omega)
        have q3 := h3 (.lett y a b)
        simp [T.d, T.parts, see, mke, kep, h] at q q3
        simp [P.b_put_0, T.d, see, mke, kep, exec_whl, q, q3, ht, ht1, h]
      simpa [T.put, h, T.over] using q
    · have q := gv_node Γ x v h3 h9 a0 (.lett y a b) (max a.hgt b.hgt) [(see a, T.put x v a), (see b, T.put x v b)] (by simp [T.hgt]) (fun q hq => by simp only [List.mem_cons, List.not_mem_nil, or_false] at hq; rcases hq with rfl | rfl; exact (put_see h3 h9 a0 a).mono Γ x v (by omega); exact (put_see h3 h9 a0 b).mono Γ x v (by omega)) rfl (by simp [T.parts]) (hB := by have := hgt_pos a; omega) fun todo done c5 c6 c7 hb => by
        have ht : todo.length < sizeLine := Nat.lt_of_lt_of_le (show todo.length < 1000000 by omega) (Nat.le_of_lt million)
        have ht1 : todo.length + 1 < sizeLine := Nat.lt_of_lt_of_le (show todo.length + 1 < 1000000 by omega) (Nat.le_of_lt million)
        have q := put_push Γ a0 (.val (.str x)) (.val v.d) (.lst done) (.val (see (.lett y a b))) (.val (T.d (.lett y a b))) [b, a] (todo ++ [mke (.lett y a b)]) (by simp; omega)
        have q3 := h3 (.lett y a b)
        simp [T.d, T.parts, see, mke, kep] at q q3
        simp [P.b_put_0, T.d, see, mke, kep, exec_whl, q, q3, ht, ht1, h]
      simpa [T.put, h, T.over] using q
theorem put_run (h3 : ParG Γ) (h9 : RemG Γ) (t : T) (hs : t.hgt ≤ 100000) : ∃ s, execs Γ 8 [] 0 P.b_put [.val t.d, .val (.str x), .val v.d, .un, .un, .un, .un, .un] = some (.rt (.cl (.val (T.put x v t).d)) s) := by
  obtain ⟨c5, c6, c7, e⟩ := put_see Γ x v h3 h9 (.val t.d) t [] [] .un .un .un (by simp; omega) (by simp; omega)
  have e2 : putL Γ [.val t.d, .val (.str x), .val v.d, .lst [], .lst [(T.put x v t).d], c5, c6, c7] = some (.nx [.val t.d, .val (.str x), .val v.d, .lst [], .lst [(T.put x v t).d], c5, c6, c7]) := loop_end (by simp)
  simp only [List.nil_append] at e
  rw [e2] at e
  refine rtv_of ?_
  simp [P.b_put, exec_whl, e]
end
/-! in the program -/
section
variable {Q : Nat → Option FD} {n : Nat}
theorem par_g (h : Q 3 = some P.f_parts) : ParG (envN Q (n + 1)) := fun t => by
  obtain ⟨s, e⟩ := parts_run (envN Q n) t
  exact dc_ok h rfl rfl rfl e
theorem rem_g (h : Q 9 = some P.f_remade) : RemG (envN Q (n + 1)) := fun t ks h1 h2 => by
  obtain ⟨s, e⟩ := remade_run (envN Q n) t ks h1 h2
  exact dc_ok h rfl rfl rfl e
theorem put_gh (h3 : Q 3 = some P.f_parts) (h9 : Q 9 = some P.f_remade) (h10 : Q 10 = some P.f_put) (t v : T) (x : Str) (hs : t.hgt ≤ 100000) : dc (envN Q (n + 2)) 10 [t.d, .str x, v.d] = some (.ok (.val (T.put x v t).d)) := by
  obtain ⟨s, e⟩ := put_run (envN Q (n + 1)) x v (par_g h3) (rem_g h9) t hs
  exact dc_ok h10 rfl rfl rfl e
theorem put_g (h3 : Q 3 = some P.f_parts) (h9 : Q 9 = some P.f_remade) (h10 : Q 10 = some P.f_put) (t v : T) (x : Str) (hs : t.size ≤ 100000) : dc (envN Q (n + 2)) 10 [t.d, .str x, v.d] = some (.ok (.val (T.put x v t).d)) := put_gh h3 h9 h10 t v x (Nat.le_trans (hgt_size t) hs)
end
end Mi
namespace Mi
open PySem
/-! ### loops over a pile -/
section
variable {I A : Type}
/-- what a loop over a pile comes to: the pile's end, or the thing at which it is left -/
inductive Runs (stp : I → A → Option (List I × A)) : List I → A → Sum A (I × A) → Prop
  | done (a : A) : Runs stp [] a (.inl a)
  | step {i : I} {l ks : List I} {a a' : A} {r : Sum A (I × A)} : stp i a = some (ks, a') → Runs stp (ks ++ l) a' r → Runs stp (i :: l) a r
  | stop {i : I} {l : List I} {a : A} : stp i a = none → Runs stp (i :: l) a (.inr (i, a))
def outX (x : Sum Ag Nat) (s : S) : Out := match x with
  | .inl a => .rt a s
  | .inr c => .ex c s
theorem loop_x {t : S → Option (R Bool)} {b : S → Option Out} {s s1 s2 : S} {x : Sum Ag Nat} (h1 : t s = some (.ok true s1)) (h2 : b s1 = some (outX x s2)) : loop t b s = some (outX x s2) := by
  cases x with
  | inl a => exact loop_ret h1 h2
  | inr c => exact loop_ex h1 h2
theorem loop_runs {stp : I → A → Option (List I × A)} {t : S → Option (R Bool)} {b : S → Option Out} (Rp : List I → A → S → Prop) (X : I → A → Sum Ag Nat) (h0 : ∀ a s, Rp [] a s → t s = some (.ok false s))
    (h1 : ∀ i l a s ks a', Rp (i :: l) a s → stp i a = some (ks, a') → ∃ s', t s = some (.ok true s) ∧ b s = some (.nx s') ∧ Rp (ks ++ l) a' s')
    (h2 : ∀ i l a s, Rp (i :: l) a s → stp i a = none → ∃ s', t s = some (.ok true s) ∧ b s = some (outX (X i a) s')) {l : List I} {a : A} {r : Sum A (I × A)} (h : Runs stp l a r) :
    ∀ s, Rp l a s → match r with
      | .inl a' => ∃ s', loop t b s = some (.nx s') ∧ Rp [] a' s'
      | .inr (i, a') => ∃ s', loop t b s = some (outX (X i a') s') := by
  induction h with
  | done a => exact fun s hs => ⟨s, loop_end (h0 a s hs), hs⟩
  | @step i l ks a a' r e h ih =>
    intro s hs
    obtain ⟨s', e1, e2, hs'⟩ := h1 i l a s ks a' hs e
    have q := ih s' hs'
    have el := loop_turn (t := t) (b := b) e1 e2
    cases r with
    | inl a2 => obtain ⟨s2, q1, q2⟩ := q; exact ⟨s2, el.trans q1, q2⟩
    | inr p => obtain ⟨s2, q1⟩ := q; exact ⟨s2, el.trans q1⟩
  | @stop i l a e =>
    intro s hs
    obtain ⟨s', e1, e2⟩ := h2 i l a s hs e
    exact ⟨s', loop_x e1 e2⟩
end
/-! ### names -/
def letB (c : Nat) : Bool := decide (97 ≤ c ∧ c ≤ 122)
def lettersL : List Nat := ("abcdefghijklmnopqrstuvwxyz" : Str).cps.toList
theorem letters_eq : lettersL = (List.range 26).map fun k => 97 + k := by decide +kernel
theorem mem_letters (c : Nat) : decide (c ∈ lettersL) = letB c := by
  unfold letB
  rw [letters_eq, decide_eq_decide, List.mem_map]
  constructor
  · rintro ⟨k, hk, rfl⟩
    have := List.mem_range.mp hk
    omega
  · rintro ⟨h1, h2⟩
    exact ⟨c - 97, List.mem_range.mpr (by omega), by omega⟩
def wordsK : List (List Nat) := [[110, 117, 109], [110, 97, 109, 101], [102, 117, 110], [99, 97, 108, 108], [112, 108, 117, 115], [108, 101, 115, 115], [105, 102], [108, 101, 116]]
theorem words_st : (["num", "name", "fun", "call", "plus", "less", "if", "let"] : List Str) = wordsK.map St := by decide +kernel
def nameOk (l : List Nat) : Bool := decide (1 ≤ l.length ∧ l.length ≤ 8) && (!decide (l ∈ wordsK) && l.all letB)
theorem isin_wordsK (w : List Nat) : cmpop .isin (.val (.str (St w))) (.val (.kt ["num", "name", "fun", "call", "plus", "less", "if", "let"])) = some (decide (w ∈ wordsK)) := by
  rw [words_st]
  have e2 : ∀ l : List (List Nat), ((l.map St).map D.str).all flatD = true := fun l => by
    induction l with
    | nil => rfl
    | cons a l ih => rw [List.map_cons, List.map_cons, List.all_cons, ih]; rfl
  show (if (flatD (.str (St w)) && ((wordsK.map St).map D.str).all flatD) = true then some (((wordsK.map St).map D.str).any fun e => eqF e (.str (St w))) else deepIn (.str (St w)) (.val (.kt (wordsK.map St)))) = _
  rw [e2, if_pos (by rfl)]
  have e : ∀ (l : List (List Nat)), ((l.map St).map D.str).any (fun e => eqF e (.str (St w))) = decide (w ∈ l) := fun l => by
    induction l with
    | nil => simp
    | cons a l ih =>
      rw [List.map_cons, List.map_cons, List.any_cons, ih, eqF_str, st_beq]
      by_cases h : a = w
      · subst h; simp
      · have h' : ¬ w = a := fun z => h z.symm
        simp [h, h']
  exact congrArg some (e wordsK)
theorem signs_st (l : List Nat) : signs (St l) = l.map fun c => .str (St [c]) := by
  unfold signs
  rw [st_list]; rfl
theorem isin_letters (c : Nat) : cmpop .nin (.val (.str (St [c]))) (.val (.str "abcdefghijklmnopqrstuvwxyz")) = some (!letB c) := by
  show ((some (decide (c ∈ lettersL))).map fun b => !b) = _
  rw [mem_letters]; rfl
@[simp] theorem sq_st (l : List Nat) (s : S) : sq? (forItems .seq) (.str (St l)) s = some (.ok (l.map fun c => .str (St [c])) s) := by
  show some (R.ok (signs (St l)) s) = _
  rw [signs_st]
/-- a for whose body changes nothing, or leaves -/
theorem forL_scan {put : D → S → S} {b : S → Option Out} {s : S} (P : S → Prop) (p : D → Bool) (a : Ag) : ∀ (ds : List D) (s : S), P s → (∀ d s, d ∈ ds → P s → (p d = true → ∃ s', b (put d s) = some (.nx s') ∧ P s') ∧ (p d = false → ∃ s', b (put d s) = some (.rt a s'))) →
    if ds.all p then ∃ s', forL put b ds s = some (.nx s') ∧ P s' else ∃ s', forL put b ds s = some (.rt a s')
  | [], s, hs, _ => ⟨s, rfl, hs⟩
  | d :: ds, s, hs, h => by
    obtain ⟨h1, h2⟩ := h d s List.mem_cons_self hs
    cases e : p d with
    | true =>
      obtain ⟨s', e1, hs'⟩ := h1 e
      have ih := forL_scan (s := s) P p a ds s' hs' fun d s hd => h d s (List.mem_cons_of_mem _ hd)
      rw [List.all_cons, e, Bool.true_and]
      have el : forL put b (d :: ds) s = forL put b ds s' := by rw [forL, e1]
      rw [el]
      exact ih
    | false =>
      obtain ⟨s', e1⟩ := h2 e
      rw [List.all_cons, e, Bool.false_and, if_neg Bool.false_ne_true]
      exact ⟨s', by rw [forL, e1]⟩
theorem is_name_run (Γ : Env) (l : List Nat) (hl : l.length ≤ 1000) : ∃ s, execs Γ 2 [] 0 P.b_is_name [.val (.str (St l)), .un] = some (.rt (.cl (.val (.bl (nameOk l)))) s) := by
  have hz : l.length ≤ sizeLine := Nat.le_trans hl (by decide)
  have hw := isin_wordsK l
  have fl := forL_scan (put := fun d s => s.set 1 (.val d)) (b := execs Γ 2 [] 0 P.b_is_name_0) (s := []) (fun s => ∃ c, s = [.val (.str (St l)), c]) (fun d => match d with
    | .str x => x.cps.toList.all letB
    | _ => false) (.cl (.val (.bl false))) (l.map fun c => .str (St [c])) [.val (.str (St l)), .un] ⟨_, rfl⟩ fun d s hd ⟨c, hs⟩ => by
      obtain ⟨k, _, rfl⟩ := List.mem_map.mp hd
      subst hs
      have q := isin_letters k
      have e : ((St [k]).cps.toList.all letB) = letB k := by rw [st_list]; simp
      constructor
      · intro h
        have h : (St [k]).cps.toList.all letB = true := h
        rw [e] at h
        rw [h] at q
        exact ⟨[.val (.str (St l)), .val (.str (St [k]))], by simp [P.b_is_name_0, q], _, rfl⟩
      · intro h
        have h : (St [k]).cps.toList.all letB = false := h
        rw [e] at h
        rw [h] at q
        exact ⟨[.val (.str (St l)), .val (.str (St [k]))], by simp [P.b_is_name_0, q]⟩
  have ea : ((l.map fun c => D.str (St [c])).all fun d => match d with
    | .str x => x.cps.toList.all letB
    | _ => false) = l.all letB := by
    rw [List.all_map]
    congr 1
    funext k
    show (St [k]).cps.toList.all letB = letB k
    rw [st_list]; simp
  rw [ea] at fl
  refine rtv_of ?_
  unfold nameOk
  by_cases h1 : 1 ≤ l.length
  · by_cases h2 : l.length ≤ 8
    · by_cases h3 : l ∈ wordsK
      · have i1 : (1 : Int) ≤ (l.length : Int) := by omega
        have i2 : (l.length : Int) ≤ 8 := by omega
        simp [P.b_is_name, h1, h2, h3, hz, hw, i1, i2]
      · have i1 : (1 : Int) ≤ (l.length : Int) := by omega
        have i2 : (l.length : Int) ≤ 8 := by omega
        cases h4 : l.all letB with
        | true =>
          rw [h4, if_pos rfl] at fl
          obtain ⟨s', e, c, rfl⟩ := fl
          simp [P.b_is_name, h1, h2, h3, hz, hw, i1, i2, exec_for, e]
        | false =>
          rw [h4, if_neg Bool.false_ne_true] at fl
          obtain ⟨s', e⟩ := fl
          simp [P.b_is_name, h1, h2, h3, hz, hw, i1, i2, exec_for, e]
    · have i1 : (1 : Int) ≤ (l.length : Int) := by omega
      have i2 : ¬ (l.length : Int) ≤ 8 := by omega
      simp [P.b_is_name, h1, h2, hz, hw, i1, i2]
  · have i1 : ¬ (1 : Int) ≤ (l.length : Int) := by omega
    simp [P.b_is_name, h1, hz, hw, i1]
end Mi
namespace Mi
open PySem
/-! ### what is a node -/
def numOk (i : Int) : Bool := decide ((if i < 0 then -i else i) < 10 ^ 60)
@[simp] theorem bf_abs_int (i : Int) : bfop .abs [.val (.int i)] = some (.val (.int (if i < 0 then -i else i))) := rfl
theorem is_number_run (Γ : Env) (i : Int) : ∃ s, execs Γ 1 [] 0 P.b_is_number [.val (.int i)] = some (.rt (.cl (.val (.bl (numOk i)))) s) := by
  refine rtv_of ?_
  unfold numOk
  generalize hb : (10 : Int) ^ 60 = B
  have hp : binop .pow (.val (.int 10)) (.val (.int 60)) = some (.val (.int B)) := by rw [← hb]; exact bin_pow'
  simp [P.b_is_number, hp]
/-- what the program's own looks are, in the laws -/
structure NdG (Γ : Env) : Prop where
  num : ∀ i : Int, dc Γ 1 [.int i] = some (.ok (.val (.bl (numOk i))))
  nam : ∀ l : List Nat, l.length ≤ 1000 → dc Γ 0 [.str (St l)] = some (.ok (.val (.bl (nameOk l))))
theorem ndG {Q : Nat → Option FD} (h0 : Q 0 = some P.f_is_name) (h1 : Q 1 = some P.f_is_number) (n : Nat) : NdG (envN Q (n + 1)) :=
  ⟨fun i => by
    obtain ⟨s, e⟩ := is_number_run (envN Q n) i
    exact dc_ok h1 rfl rfl rfl e, fun l hl => by
    obtain ⟨s, e⟩ := is_name_run (envN Q n) l hl
    exact dc_ok h0 rfl rfl rfl e⟩
/-- a tree's node, looked at alone -/
def T.rootOk : T → Bool
  | .num i => numOk i
  | .name x => nameOk x.cps.toList
  | .fn x _ => nameOk x.cps.toList
  | .lett x _ _ => nameOk x.cps.toList
  | _ => true
def T.short : T → Prop
  | .name x => x.length ≤ 1000
  | .fn x _ => x.length ≤ 1000
  | .lett x _ _ => x.length ≤ 1000
  | _ => True
theorem isin_cpl (w : Str) : cmpop .isin (.val (.str w)) (.val (.tup [.str "call", .str "plus", .str "less"])) = some (("call" == w) || (("plus" == w) || (("less" == w) || false))) := rfl
theorem nam_str {Γ : Env} (g : NdG Γ) (x : Str) (h : x.length ≤ 1000) : dc Γ 0 [.str x] = some (.ok (.val (.bl (nameOk x.cps.toList)))) := by
  have h' : x.cps.toList.length ≤ 1000 := by rw [Array.length_toList]; exact h
  have := g.nam x.cps.toList h'
  rwa [← st_of] at this
theorem is_node_run {Γ : Env} (g : NdG Γ) (t : T) (h : t.short) : ∃ s, execs Γ 2 [] 0 P.b_is_node [.val t.d, .un] = some (.rt (.cl (.val (.bl t.rootOk))) s) := by
  refine rtv_of ?_
  cases t with
  | num i => simp [P.b_is_node, T.d, T.rootOk, g.num]
  | name x => simp [P.b_is_node, T.d, T.rootOk, nam_str g x h]
  | fn x b => simp [P.b_is_node, T.d, T.rootOk, nam_str g x h]
  | lett x a b => simp [P.b_is_node, T.d, T.rootOk, nam_str g x h]
  | call a b => simp [P.b_is_node, T.d, T.rootOk, isin_cpl]
  | plus a b => simp [P.b_is_node, T.d, T.rootOk, isin_cpl]
  | less a b => simp [P.b_is_node, T.d, T.rootOk, isin_cpl]
  | ite a b c => simp [P.b_is_node, T.d, T.rootOk]
/-! ### need_tree -/
section
variable (Γ : Env)
mutual
/-- d is looked at as a tree: so many nodes; all of them good -/
inductive ND : D → Nat → Bool → Prop
  | node {d : D} {ks : List D} {n : Nat} {b : Bool} : dc Γ 2 [d] = some (.ok (.val (.bl true))) → dc Γ 3 [d] = some (.ok (.lst ks)) → ks.length ≤ 3 → NDs ks n b → ND d (n + 1) b
  | bad {d : D} : dc Γ 2 [d] = some (.ok (.val (.bl false))) → ND d 1 false
inductive NDs : List D → Nat → Bool → Prop
  | nil : NDs [] 0 true
  | cons {d : D} {ks : List D} {n m : Nat} {b c : Bool} : ND d n b → NDs ks m c → NDs (d :: ks) (n + m) (b && c)
end
open Classical in
noncomputable def ndStp (d : D) (m : Nat) : Option (List D × Nat) := if m + 1 > 400 then none else match dc Γ 2 [d] with
  | some (.ok (.val (.bl true))) => (match dc Γ 3 [d] with
    | some (.ok (.lst ks)) => some (ks.reverse, m + 1)
    | _ => none)
  | _ => none
variable {Γ}
/-- how the pile runs over a thing -/
abbrev RunsN := Runs (ndStp Γ)
def NdRun (d : D) (n : Nat) (b : Bool) : Prop := ∀ (l : List D) (m : Nat), if b = true ∧ m + n ≤ 400 then ∀ r, Runs (ndStp Γ) l (m + n) r → Runs (ndStp Γ) (d :: l) m r else ∃ i a, Runs (ndStp Γ) (d :: l) m (.inr (i, a))
def NdsRun (ks : List D) (n : Nat) (b : Bool) : Prop := ∀ (l : List D) (m : Nat), if b = true ∧ m + n ≤ 400 then ∀ r, Runs (ndStp Γ) l (m + n) r → Runs (ndStp Γ) (ks.reverse ++ l) m r else (m ≤ 400 → ∃ i a, Runs (ndStp Γ) (ks.reverse ++ l) m (.inr (i, a)))
theorem stp_node {d : D} {ks : List D} {m : Nat} (h1 : dc Γ 2 [d] = some (.ok (.val (.bl true)))) (h2 : dc Γ 3 [d] = some (.ok (.lst ks))) (hm : m + 1 ≤ 400) : ndStp Γ d m = some (ks.reverse, m + 1) := by
  unfold ndStp
  rw [if_neg (by omega), h1]
  dsimp only
  rw [h2]
theorem stp_over {d : D} {m : Nat} (hm : 400 < m + 1) : ndStp Γ d m = none := by
  unfold ndStp
  rw [if_pos (by omega)]
theorem stp_bad {d : D} {m : Nat} (h1 : dc Γ 2 [d] = some (.ok (.val (.bl false)))) : ndStp Γ d m = none := by
  unfold ndStp
  split
  · rfl
  · rw [h1]
mutual
theorem nd_run : ∀ {d : D} {n : Nat} {b : Bool}, ND Γ d n b → NdRun (Γ := Γ) d n b
  | d, _, b, .node (ks := ks) (n := n) h1 h2 h3 h4 => fun l m => by
    have ih := nds_run h4 l (m + 1)
    by_cases hm : m + 1 ≤ 400
    · have e := stp_node h1 h2 hm
      by_cases hb : b = true ∧ m + (n + 1) ≤ 400
      · rw [if_pos hb]
        rw [if_pos ⟨hb.1, by omega⟩] at ih
        exact fun r hr => .step e (ih r (by rw [show m + 1 + n = m + (n + 1) by omega]; exact hr))
      · rw [if_neg hb]
        rw [if_neg (fun z => hb ⟨z.1, by omega⟩)] at ih
        obtain ⟨i, a, hr⟩ := ih hm
        exact ⟨i, a, .step e hr⟩
    · rw [if_neg (fun z => hm (by omega))]
      exact ⟨d, m, .stop (stp_over (by omega))⟩
  | d, _, _, .bad h1 => fun l m => by
    rw [if_neg (fun z => nomatch z.1)]
    exact ⟨d, m, .stop (stp_bad h1)⟩
theorem nds_run : ∀ {ks : List D} {n : Nat} {b : Bool}, NDs Γ ks n b → NdsRun (Γ := Γ) ks n b
  | _, _, _, .nil => fun l m => by
    by_cases hm : m ≤ 400
    · rw [if_pos ⟨rfl, hm⟩]
      exact fun r hr => hr
    · rw [if_neg (fun z => hm z.2)]
      exact fun z => absurd z hm
  | _, _, _, .cons (d := d) (ks := ks) (n := n) (m := mk) (b := b) (c := c) h1 h2 => fun l m => by
    have i1 := nds_run h2 (d :: l) m
    have i2 := nd_run h1 l (m + mk)
    rw [List.reverse_cons, List.append_assoc]
    show if (b && c) = true ∧ m + (n + mk) ≤ 400 then ∀ r, Runs (ndStp Γ) l (m + (n + mk)) r → Runs (ndStp Γ) (ks.reverse ++ d :: l) m r else m ≤ 400 → ∃ i a, Runs (ndStp Γ) (ks.reverse ++ d :: l) m (.inr (i, a))
    by_cases hc : c = true ∧ m + mk ≤ 400
    · rw [if_pos hc] at i1
      by_cases hb : b = true ∧ m + mk + n ≤ 400
      · rw [if_pos hb] at i2
        rw [if_pos ⟨by rw [hb.1, hc.1]; rfl, by omega⟩]
        exact fun r hr => i1 r (i2 r (by rw [show m + mk + n = m + (n + mk) by omega]; exact hr))
      · rw [if_neg hb] at i2
        rw [if_neg (fun z => hb ⟨(Bool.and_eq_true_iff.mp z.1).1, by omega⟩)]
        obtain ⟨i, a, hr⟩ := i2
        exact fun _ => ⟨i, a, i1 _ hr⟩
    · rw [if_neg hc] at i1
      rw [if_neg (fun z => hc ⟨(Bool.and_eq_true_iff.mp z.1).2, by omega⟩)]
      exact i1
end
theorem nds_mem : ∀ {ks : List D} {n : Nat} {b : Bool}, NDs Γ ks n b → ∀ d ∈ ks, ∃ n b, ND Γ d n b
  | _, _, _, .nil, d, h => nomatch h
  | _, _, _, .cons h1 h2, d, h => by
    rcases List.mem_cons.mp h with rfl | h
    · exact ⟨_, _, h1⟩
    · exact nds_mem h2 d h
/-- the whole look -/
theorem need_run {d : D} {n : Nat} {b : Bool} (h : ND Γ d n b) : if b = true ∧ n ≤ 400 then ∃ s, execs Γ 4 [] 0 P.b_need_tree [.val d, .un, .un, .un] = some (.rt (.cl (.val d)) s) else ∃ s, execs Γ 4 [] 0 P.b_need_tree [.val d, .un, .un, .un] = some (.ex 1 s) := by
  have lr := fun {r} (hr : Runs (ndStp Γ) [d] 0 r) => loop_runs (stp := ndStp Γ) (t := evT Γ (.v 1)) (b := execs Γ 4 [] 0 P.b_need_tree_0) (fun (l : List D) (m : Nat) s => ∃ c3, s = [.val d, .lst l.reverse, .val (.int (m : Int)), c3] ∧ (∀ d ∈ l, ∃ n b, ND Γ d n b) ∧ l.length ≤ 1 + 3 * m ∧ m ≤ 400) (fun _ _ => .inr 1)
    (fun a s ⟨c3, hs, _⟩ => by subst hs; simp)
    (fun i l a s ks a' ⟨c3, hs, hd, hl, hm⟩ e => by
      subst hs
      obtain ⟨n, b, hn⟩ := hd i List.mem_cons_self
      have ha : a + 1 ≤ 400 := by
        rcases Nat.lt_or_ge 400 (a + 1) with z | z
        · rw [stp_over z] at e; cases e
        · exact z
      cases hn with
      | bad h1 => rw [stp_bad h1] at e; cases e
      | @node _ ks' n' _ h1 h2 h3 h4 =>
        rw [stp_node h1 h2 ha] at e
        cases e
        rw [List.length_cons] at hl
        refine ⟨[.val d, .lst (l.reverse ++ ks'), .val (.int ((a + 1 : Nat) : Int)), .val i], by simp, ?_, .val i, by simp, fun x hx => ?_, by rw [List.length_append, List.length_reverse]; omega, ha⟩
        · have z1 : ¬ ((400 : Int) < (a : Int) + 1) := by omega
          have z2 : l.length + ks'.length ≤ sizeLine := Nat.le_trans (show l.length + ks'.length ≤ 100000 by omega) (by decide)
          simp [P.b_need_tree_0, z1, h1, h2, z2]
        · rcases List.mem_append.mp hx with hx | hx
          · exact nds_mem h4 x (List.mem_reverse.mp hx)
          · exact hd x (List.mem_cons_of_mem _ hx))
    (fun i l a s ⟨c3, hs, hd, hl, hm⟩ e => by
      subst hs
      obtain ⟨n, b, hn⟩ := hd i List.mem_cons_self
      refine ⟨[.val d, .lst l.reverse, .val (.int ((a + 1 : Nat) : Int)), .val i], by simp, ?_⟩
      by_cases ha : a + 1 ≤ 400
      · have z1 : ¬ ((400 : Int) < (a : Int) + 1) := by omega
        cases hn with
        | bad h1 => simp [P.b_need_tree_0, z1, h1, outX]
        | node h1 h2 h3 h4 => rw [stp_node h1 h2 ha] at e; cases e
      · have z1 : ((400 : Int) < (a : Int) + 1) := by omega
        simp [P.b_need_tree_0, z1, outX]) hr [.val d, .lst [d], .val (.int 0), .un] ⟨.un, rfl, fun x hx => by rw [List.mem_singleton.mp hx]; exact ⟨_, _, h⟩, by simp, by omega⟩
  have q := nd_run h [] 0
  rw [Nat.zero_add] at q
  by_cases hb : b = true ∧ n ≤ 400
  · rw [if_pos hb] at q ⊢
    obtain ⟨s', e, c3, hs, _⟩ := lr (q _ (.done n))
    subst hs
    refine rtv_of ?_
    simp [P.b_need_tree, exec_whl, e]
  · rw [if_neg hb] at q ⊢
    obtain ⟨i, a, hr⟩ := q
    obtain ⟨s', e⟩ := lr hr
    refine ⟨s', ?_⟩
    simp [P.b_need_tree, exec_whl, e, outX]
theorem need_ok {Q : Nat → Option FD} {m : Nat} (h4 : Q 4 = some P.f_need_tree) {d : D} {n : Nat} (h : ND (envN Q m) d n true) (hn : n ≤ 400) : dc (envN Q (m + 1)) 4 [d] = some (.ok (.val d)) := by
  have q := need_run h
  rw [if_pos ⟨rfl, hn⟩] at q
  obtain ⟨s, e⟩ := q
  exact dc_ok h4 rfl rfl rfl e
theorem need_bad {Q : Nat → Option FD} {m : Nat} (h4 : Q 4 = some P.f_need_tree) {d : D} {n : Nat} {b : Bool} (h : ND (envN Q m) d n b) (hn : b = false ∨ 400 < n) : dc (envN Q (m + 1)) 4 [d] = some (.ex 1) := by
  have q := need_run h
  have hx : ¬ (b = true ∧ n ≤ 400) := fun z => by
    rcases hn with hn | hn
    · rw [hn] at z; exact absurd z.1 Bool.false_ne_true
    · omega
  rw [if_neg hx] at q
  obtain ⟨s, e⟩ := q
  exact dc_ex h4 rfl rfl e
/-- trees of the document, looked at -/
def T.short' : T → Prop
  | .num _ => True
  | .name x => x.length ≤ 1000
  | .fn x b => x.length ≤ 1000 ∧ b.short'
  | .call a b => a.short' ∧ b.short'
  | .plus a b => a.short' ∧ b.short'
  | .less a b => a.short' ∧ b.short'
  | .ite a b c => a.short' ∧ b.short' ∧ c.short'
  | .lett x a b => x.length ≤ 1000 ∧ a.short' ∧ b.short'
/-- a tree of point 2 but for its size -/
def T.good : T → Prop
  | .num i => numOk i = true
  | .name x => nameOk x.cps.toList = true
  | .fn x b => nameOk x.cps.toList = true ∧ b.good
  | .call a b => a.good ∧ b.good
  | .plus a b => a.good ∧ b.good
  | .less a b => a.good ∧ b.good
  | .ite a b c => a.good ∧ b.good ∧ c.good
  | .lett x a b => nameOk x.cps.toList = true ∧ a.good ∧ b.good
theorem nameOk_len {x : Str} (h : nameOk x.cps.toList = true) : x.length ≤ 8 := by
  unfold nameOk at h
  rw [Bool.and_eq_true, decide_eq_true_eq] at h
  have := h.1.2
  rw [Array.length_toList] at this
  exact this
structure NdT (Γ : Env) : Prop where
  g : ∀ t : T, t.short → dc Γ 2 [t.d] = some (.ok (.val (.bl t.rootOk)))
  p : ParG Γ
theorem good_nd (G : NdT Γ) : ∀ t : T, t.good → ND Γ t.d t.size true
  | .num i, h => by
    have := ND.node (G.g (.num i) trivial ▸ (by rw [show T.rootOk (.num i) = true from h])) (G.p (.num i)) (by simp [T.parts]) NDs.nil
    exact this
  | .name x, h => by
    have hx := nameOk_len h
    exact ND.node (by rw [G.g (.name x) (show x.length ≤ 1000 by omega), show T.rootOk (.name x) = true from h]) (G.p (.name x)) (by simp [T.parts]) NDs.nil
  | .fn x b, h => by
    have hx := nameOk_len h.1
    have := ND.node (by rw [G.g (.fn x b) (show x.length ≤ 1000 by omega), show T.rootOk (.fn x b) = true from h.1]) (G.p (.fn x b)) (by simp [T.parts]) (NDs.cons (good_nd G b h.2) NDs.nil)
    simpa [T.size] using this
  | .call a b, h => by
    have := ND.node (by rw [G.g (.call a b) trivial]; rfl) (G.p (.call a b)) (by simp [T.parts]) (NDs.cons (good_nd G a h.1) (NDs.cons (good_nd G b h.2) NDs.nil))
    simpa [T.size] using this
  | .plus a b, h => by
    have := ND.node (by rw [G.g (.plus a b) trivial]; rfl) (G.p (.plus a b)) (by simp [T.parts]) (NDs.cons (good_nd G a h.1) (NDs.cons (good_nd G b h.2) NDs.nil))
    simpa [T.size] using this
  | .less a b, h => by
    have := ND.node (by rw [G.g (.less a b) trivial]; rfl) (G.p (.less a b)) (by simp [T.parts]) (NDs.cons (good_nd G a h.1) (NDs.cons (good_nd G b h.2) NDs.nil))
    simpa [T.size] using this
  | .ite a b c, h => by
    have := ND.node (by rw [G.g (.ite a b c) trivial]; rfl) (G.p (.ite a b c)) (by simp [T.parts]) (NDs.cons (good_nd G a h.1) (NDs.cons (good_nd G b h.2.1) (NDs.cons (good_nd G c h.2.2) NDs.nil)))
    simpa [T.size, Nat.add_assoc] using this
  | .lett x a b, h => by
    have hx := nameOk_len h.1
    have := ND.node (by rw [G.g (.lett x a b) (show x.length ≤ 1000 by omega), show T.rootOk (.lett x a b) = true from h.1]) (G.p (.lett x a b)) (by simp [T.parts]) (NDs.cons (good_nd G a h.2.1) (NDs.cons (good_nd G b h.2.2) NDs.nil))
    simpa [T.size] using this
end
theorem ndT {Q : Nat → Option FD} (h0 : Q 0 = some P.f_is_name) (h1 : Q 1 = some P.f_is_number) (h2 : Q 2 = some P.f_is_node) (h3 : Q 3 = some P.f_parts) (n : Nat) : NdT (envN Q (n + 2)) :=
  ⟨fun t ht => by
    obtain ⟨s, e⟩ := is_node_run (ndG h0 h1 n) t ht
    exact dc_ok h2 rfl rfl rfl e, fun t => by
    obtain ⟨s, e⟩ := parts_run (envN Q (n + 1)) t
    exact dc_ok h3 rfl rfl rfl e⟩
end Mi
namespace Mi
open PySem
/-! ### data of tuples, numbers, texts -/
mutual
def plainD : D → Bool
  | .int _ => true
  | .str _ => true
  | .tup xs => plainDs xs
  | _ => false
def plainDs : List D → Bool
  | [] => true
  | x :: xs => plainD x && plainDs xs
end
mutual
def wD : D → Nat
  | .tup xs => wDs xs + 1
  | _ => 1
def wDs : List D → Nat
  | [] => 0
  | x :: xs => wD x + wDs xs
end
theorem plainDs_mem : ∀ {xs : List D}, plainDs xs = true → ∀ x ∈ xs, plainD x = true
  | y :: xs, h, x, hx => by
    unfold plainDs at h
    rw [Bool.and_eq_true] at h
    rcases List.mem_cons.mp hx with rfl | hx
    · exact h.1
    · exact plainDs_mem h.2 x hx
theorem wDs_sum : ∀ xs : List D, wDs xs = (xs.map wD).sum
  | [] => rfl
  | x :: xs => by unfold wDs; rw [List.map_cons, List.sum_cons, wDs_sum xs]
theorem wD_pos (d : D) : 1 ≤ wD d := by cases d <;> unfold wD <;> omega
theorem len_wD : ∀ xs : List D, xs.length ≤ (xs.map wD).sum
  | [] => Nat.le_refl _
  | x :: xs => by
    have := len_wD xs
    have := wD_pos x
    rw [List.map_cons, List.sum_cons, List.length_cons]; omega
theorem t_plain (t : T) : plainD t.d = true := by
  induction t <;> simp_all [T.d, plainD, plainDs]
theorem t_wD (t : T) : wD t.d ≤ 4 * t.size := by
  induction t <;> simp_all [T.d, wD, wDs, T.size] <;> omega
/-! ### a tree is equal to itself -/
def T.txt : T → Prop
  | .num _ => True
  | .name x => PyData.strOk x = true
  | .fn x b => PyData.strOk x = true ∧ b.txt
  | .call a b => a.txt ∧ b.txt
  | .plus a b => a.txt ∧ b.txt
  | .less a b => a.txt ∧ b.txt
  | .ite a b c => a.txt ∧ b.txt ∧ c.txt
  | .lett x a b => PyData.strOk x = true ∧ a.txt ∧ b.txt
theorem strOk_name {x : Str} (h : nameOk x.cps.toList = true) : PyData.strOk x = true := by
  unfold nameOk at h
  rw [Bool.and_eq_true, Bool.and_eq_true] at h
  unfold PyData.strOk
  rw [← Array.all_toList]
  refine List.all_eq_true.mpr fun c hc => ?_
  have := List.all_eq_true.mp h.2.2 c hc
  unfold letB at this
  have := of_decide_eq_true this
  exact decide_eq_true (by omega)
theorem good_txt : ∀ t : T, t.good → t.txt
  | .num _, _ => trivial
  | .name x, h => strOk_name h
  | .fn x b, h => ⟨strOk_name h.1, good_txt b h.2⟩
  | .call a b, h => ⟨good_txt a h.1, good_txt b h.2⟩
  | .plus a b, h => ⟨good_txt a h.1, good_txt b h.2⟩
  | .less a b, h => ⟨good_txt a h.1, good_txt b h.2⟩
  | .ite a b c, h => ⟨good_txt a h.1, good_txt b h.2.1, good_txt c h.2.2⟩
  | .lett x a b, h => ⟨strOk_name h.1, good_txt a h.2.1, good_txt b h.2.2⟩
def T.p : T → PyData
  | .num i => .tuple [.str "num", .int i]
  | .name x => .tuple [.str "name", .str x]
  | .fn x b => .tuple [.str "fun", .str x, b.p]
  | .call a b => .tuple [.str "call", a.p, b.p]
  | .plus a b => .tuple [.str "plus", a.p, b.p]
  | .less a b => .tuple [.str "less", a.p, b.p]
  | .ite a b c => .tuple [.str "if", a.p, b.p, c.p]
  | .lett x a b => .tuple [.str "let", .str x, a.p, b.p]
theorem toP_t (t : T) : toP t.d = some t.p := by
  induction t <;> simp_all [T.d, T.p, toP, toPs]
theorem ok_words : PyData.strOk "num" = true ∧ PyData.strOk "name" = true ∧ PyData.strOk "fun" = true ∧ PyData.strOk "call" = true ∧ PyData.strOk "plus" = true ∧ PyData.strOk "less" = true ∧ PyData.strOk "if" = true ∧ PyData.strOk "let" = true := by decide +kernel
theorem canLay_t : ∀ t : T, t.txt → t.p.canLay0 = true := by
  obtain ⟨w1, w2, w3, w4, w5, w6, w7, w8⟩ := ok_words
  intro t
  induction t <;> simp_all [T.txt, T.p, PyData.canLay0, PyData.canLayAll0]
theorem depth_t (t : T) : t.p.depth ≤ t.size := by
  induction t <;> simp [T.p, PyData.depth, PyData.depthAll, T.size] <;> omega
theorem eq_t (t : T) (h : t.txt) (hs : t.size ≤ 1000) : cEq (.val t.d) (.val t.d) = some true := by
  have hd : scalD t.d t.d = false := by cases t <;> rfl
  have h1 := canLay_t t h
  have h2 := depth_t t
  show (if scalD t.d t.d = true then some (eqF t.d t.d) else (toP t.d).bind fun p => (toP t.d).bind fun q => deepEq p q) = _
  rw [hd, if_neg Bool.false_ne_true, toP_t, Option.bind_some, Option.bind_some]
  unfold deepEq
  rw [h1, if_pos (by rw [Bool.and_self, Bool.true_and]; exact decide_eq_true (by omega))]
  exact congrArg some (SeqAt.eqv_refl _ h1)
theorem cmp_eq_t (t : T) (h : t.txt) (hs : t.size ≤ 1000) : cmpop .eq (.val t.d) (.val t.d) = some true := eq_t t h hs
theorem cmp_ne_t (t : T) (h : t.txt) (hs : t.size ≤ 1000) : cmpop .ne (.val t.d) (.val t.d) = some false := by
  show (cEq (.val t.d) (.val t.d)).map (fun b => !b) = _
  rw [eq_t t h hs]; rfl
/-! ### two things looked at side by side -/
def sameB1 : List CS := [
    (.exp (.mt .append (.v 2) [(.tup [(.ix (.ix (.v 3) (.c (.int 0))) (.v 4)), (.ix (.ix (.v 3) (.c (.int 1))) (.v 4))])]))]
def sameB0 : List CS := [
    (.asg 3 (.mt .pop (.v 2) [])),
    (.ite (.isi (.ix (.v 3) (.c (.int 0))) .tup) [
      (.ite (.or (.not (.isi (.ix (.v 3) (.c (.int 1))) .tup)) (.cmp .ne (.bf .len [(.ix (.v 3) (.c (.int 0)))]) (.bf .len [(.ix (.v 3) (.c (.int 1)))]))) [
        (.ret (.c (.bl false)))] []),
      (.for 4 .rng (.tup [(.c (.int 0)), (.bf .len [(.ix (.v 3) (.c (.int 0)))])]) sameB1)] [
      (.ite (.or (.isi (.ix (.v 3) (.c (.int 1))) .bool) (.or (.cmp .ne (.isi (.ix (.v 3) (.c (.int 0))) .str) (.isi (.ix (.v 3) (.c (.int 1))) .str)) (.cmp .ne (.ix (.v 3) (.c (.int 0))) (.ix (.v 3) (.c (.int 1)))))) [
        (.ret (.c (.bl false)))] [])])]
def sameB : List CS := [
    (.asg 2 (.lst [(.tup [(.v 0), (.v 1)])])),
    (.whl (.v 2) sameB0),
    (.ret (.c (.bl true)))]
abbrev prD (d : D) : D := .tup [d, d]
def sameStp : D → Unit → Option (List D × Unit)
  | .tup xs, _ => some (xs.reverse, ())
  | _, _ => some ([], ())
mutual
theorem same_d : ∀ (d : D) (l : List D) (r : Sum Unit (D × Unit)), Runs sameStp l () r → Runs sameStp (d :: l) () r
  | .tup xs, l, r, h => .step (ks := xs.reverse) (a' := ()) (by unfold sameStp; rfl) (same_ds xs l r h)
  | .non, l, r, h => .step (ks := []) (a' := ()) (by unfold sameStp; rfl) h
  | .bl _, l, r, h => .step (ks := []) (a' := ()) (by unfold sameStp; rfl) h
  | .int _, l, r, h => .step (ks := []) (a' := ()) (by unfold sameStp; rfl) h
  | .str _, l, r, h => .step (ks := []) (a' := ()) (by unfold sameStp; rfl) h
  | .lst _, l, r, h => .step (ks := []) (a' := ()) (by unfold sameStp; rfl) h
  | .scr _, l, r, h => .step (ks := []) (a' := ()) (by unfold sameStp; rfl) h
  | .kt _, l, r, h => .step (ks := []) (a' := ()) (by unfold sameStp; rfl) h
  | .dct _ _, l, r, h => .step (ks := []) (a' := ()) (by unfold sameStp; rfl) h
  | .obj _ _, l, r, h => .step (ks := []) (a' := ()) (by unfold sameStp; rfl) h
theorem same_ds : ∀ (xs : List D) (l : List D) (r : Sum Unit (D × Unit)), Runs sameStp l () r → Runs sameStp (xs.reverse ++ l) () r
  | [], l, r, h => h
  | x :: xs, l, r, h => by
    rw [List.reverse_cons, List.append_assoc]
    exact same_ds xs (x :: l) r (same_d x l r h)
end
theorem same_for (Γ : Env) (a0 a1 : Cl) (xs todo : List D) (c : Cl) (hb : todo.length + xs.length ≤ 1000000) : ∃ c', forL (fun d s => s.set 4 (.val d)) (execs Γ 5 [] 0 sameB1) (rangeD 0 (xs.length : Int)) [a0, a1, .lst todo, .val (prD (.tup xs)), c] = some (.nx [a0, a1, .lst (todo ++ xs.map prD), .val (prD (.tup xs)), c']) := by
  obtain ⟨c', e⟩ := forL_fn (put := fun d s => s.set 4 (.val d)) (b := execs Γ 5 [] 0 sameB1) (fun k c => [a0, a1, .lst (todo ++ (xs.take k).map prD), .val (prD (.tup xs)), c]) (rangeD 0 (xs.length : Int)) (fun j d c hd => by
    obtain ⟨hj, rfl⟩ := range_get hd
    have hj : j < xs.length := by omega
    rw [Int.zero_add]
    have hx : xs[j]? = some xs[j] := List.getElem?_eq_getElem hj
    have i1 := ix_tup (xs := xs) hx
    have ht : xs.take (j + 1) = xs.take j ++ [xs[j]] := by rw [List.take_succ, hx]; rfl
    have hz : todo.length + j < sizeLine := Nat.lt_of_le_of_lt (show todo.length + j ≤ 1000000 by omega) million
    have hl : min j xs.length = j := by omega
    have hm : (xs.map prD).take (j + 1) = (xs.map prD).take j ++ [.tup [xs[j], xs[j]]] := by
      rw [← List.map_take, ht, List.map_append, List.map_take]; rfl
    simp [sameB1, i1, hz, hl, hm]) c
  refine ⟨c', ?_⟩
  rw [range_len, show (((xs.length : Int) - 0).toNat) = xs.length by omega, List.take_length] at e
  simpa using e
theorem same_run (Γ : Env) (d : D) (hp : plainD d = true) (hw : wD d ≤ 900000) : ∃ s, execs Γ 5 [] 0 sameB [.val d, .val d, .un, .un, .un] = some (.rt (.cl (.val (.bl true))) s) := by
  have q := loop_runs (stp := sameStp) (t := evT Γ (.v 2)) (b := execs Γ 5 [] 0 sameB0) (fun (l : List D) (_ : Unit) s => ∃ c3 c4, s = [.val d, .val d, .lst (l.reverse.map prD), c3, c4] ∧ (∀ x ∈ l, plainD x = true) ∧ (l.map wD).sum ≤ 900000) (fun _ _ => .inr 0)
    (fun a s ⟨c3, c4, hs, _⟩ => by subst hs; simp)
    (fun i l a s ks a' ⟨c3, c4, hs, hd, hl⟩ e => by
      subst hs
      have pi := hd i List.mem_cons_self
      have hl' : l.length ≤ 900000 := by
        have := len_wD l
        rw [List.map_cons, List.sum_cons] at hl
        omega
      rw [List.map_cons, List.sum_cons] at hl
      cases i with
      | tup xs =>
        cases e
        have hx := len_wD xs
        have hwx : wD (.tup xs) = (xs.map wD).sum + 1 := by unfold wD; rw [wDs_sum]
        obtain ⟨c', ef⟩ := same_for Γ (.val d) (.val d) xs (l.reverse.map prD) c4 (by rw [List.length_map, List.length_reverse]; have := len_wD l; omega)
        have rr := fun s => sq_rng 0 (xs.length : Int) s (by omega)
        refine ⟨[.val d, .val d, .lst (l.reverse.map prD ++ xs.map prD), .val (prD (.tup xs)), c'], by simp, ?_, .val (prD (.tup xs)), c', by simp, fun x hx => ?_, by rw [List.map_append, List.sum_append, List.map_reverse, List.sum_reverse]; omega⟩
        · simp only [List.map_reverse] at ef
          simp [sameB0, exec_for, rr, ef]
        · rcases List.mem_append.mp hx with hx | hx
          · unfold plainD at pi
            exact plainDs_mem pi x (List.mem_reverse.mp hx)
          · exact hd x (List.mem_cons_of_mem _ hx)
      | int i =>
        cases e
        refine ⟨[.val d, .val d, .lst (l.reverse.map prD), .val (prD (.int i)), c4], by simp, by simp [sameB0], .val (prD (.int i)), c4, rfl, fun x hx => hd x (List.mem_cons_of_mem _ hx), by show (l.map wD).sum ≤ 900000; omega⟩
      | str i =>
        cases e
        refine ⟨[.val d, .val d, .lst (l.reverse.map prD), .val (prD (.str i)), c4], by simp, by simp [sameB0], .val (prD (.str i)), c4, rfl, fun x hx => hd x (List.mem_cons_of_mem _ hx), by show (l.map wD).sum ≤ 900000; omega⟩
      | _ => cases pi)
    (fun i l a s _ e => by cases i <;> cases e) (same_d d [] _ (.done ())) [.val d, .val d, .lst [prD d], .un, .un] ⟨.un, .un, rfl, fun x hx => by rw [List.mem_singleton.mp hx]; exact hp, by simpa using hw⟩
  obtain ⟨s', e, c3, c4, hs, _⟩ := q
  subst hs
  refine rtv_of ?_
  simp [sameB, exec_whl, e]
end Mi
namespace Mi
open PySem
/-! ### joining; the law's families of names -/
theorem glued_st (L : List (List Nat)) : PySem.Builtin.Str.glued (St []) (L.map St) = St L.flatten := by
  have key : ∀ (L : List (List Nat)) (acc : List Nat), ((L.map St).foldl (fun acc p => acc ++ (St []).cps ++ p.cps) acc.toArray) = (acc ++ L.flatten).toArray := fun L => by
    induction L with
    | nil => intro acc; simp
    | cons a L ih =>
      intro acc
      rw [List.map_cons, List.foldl_cons]
      have e : acc.toArray ++ (St []).cps ++ (St a).cps = (acc ++ a).toArray := by
        show acc.toArray ++ ([] : List Nat).toArray ++ a.toArray = _
        simp
      rw [e, ih, List.flatten_cons, List.append_assoc]
  unfold PySem.Builtin.Str.glued
  cases L with
  | nil => rfl
  | cons a L =>
    have := key L a
    show (⟨(L.map St).foldl _ (St a).cps⟩ : Str) = _
    rw [List.flatten_cons]
    exact congrArg Str.mk this
theorem txts_st : ∀ L : List (List Nat), txts (L.map fun l => .str (St l)) = some (L.map St)
  | [] => rfl
  | a :: L => by
    rw [List.map_cons]
    unfold txts
    rw [txts_st L]; rfl
def strD (L : List (List Nat)) : List D := L.map fun l => .str (St l)
theorem joinop_st (L : List (List Nat)) (h : L.flatten.length ≤ 16777216) : joinop (St []) [.lst (L.map fun l => .str (St l))] = some (.str (St L.flatten)) := by
  show ((txts (L.map fun l => .str (St l))).bind fun zs => if joinLen (St []) zs ≤ 16777216 then some (D.str (Txt.join (St []) zs)) else none) = _
  rw [txts_st, Option.bind_some]
  have e : joinLen (St []) (L.map St) = L.flatten.length := by
    unfold joinLen
    rw [List.map_map]
    have : ((fun x : Str => x.length) ∘ St) = fun l : List Nat => l.length := by funext l; simp
    rw [this, List.length_flatten, show (St []).length = 0 from rfl, Nat.mul_zero, Nat.add_zero]
  rw [e, if_pos h]
  congr 2
  exact glued_st L
def jnR (x : D) (l : List Aa) (s : S) : Option (R Ro) := vl? ((dats l).bind fun ds => txop .join x ds) s
@[simp] theorem isStr_str (x : Str) : isStr (.str x) = true := rfl
@[simp] theorem ev_join (Γ : Env) (s : S) (o : CE) (es : List CE) : ev Γ (.mt .join o es) s = bnd (toV (ev Γ o s)) fun x s => if isStr x then bnd (evA Γ es s) (jnR x) else none := rfl
theorem jn_st (L : List (List Nat)) (s : S) (h : L.flatten.length ≤ 16777216) : jnR (.str (St [])) [.d (.lst (strD L))] s = some (.ok (.fr (.val (.str (St L.flatten)))) s) := by
  show vl? (joinop (St []) [.lst (L.map fun l => .str (St l))]) s = _
  rw [joinop_st L h]; rfl
theorem revR_st (l : List Nat) (s : S) (h : l.length ≤ sizeLine) : revR (.str (St l)) s = some (.ok (.fr (.val (.str (St l.reverse)))) s) := by
  show (if (St l).length ≤ sizeLine then some (R.ok (Ro.fr (.val (.str ⟨(St l).cps.toList.reverse.toArray⟩))) s) else none) = _
  rw [st_len, if_pos h, st_list]; rfl
def kinW (c : Int) : List Nat := (List.range 8).map fun (k : Nat) => ltr (c + 3 * k)
def kinT (c : Int) : List (List Nat) := (List.range 8).map fun k => (kinW c).drop k ++ (kinW c).take k
def kinL (c : Int) (many : Nat) : List (List Nat) := if c / 26 % 2 = 0 ∧ many < 9 then (List.range many).map fun k => (kinW c).take (k + 1) else (kinT c ++ (kinT c).map List.reverse).take many
theorem kinW_len (c : Int) : (kinW c).length = 8 := by simp [kinW]
/-- a function on data that is asked of ints alone -/
def onInt (f : Nat → D) : D → D
  | .int i => f i.toNat
  | d => d
@[simp] theorem onInt_int (f : Nat → D) (k : Nat) : onInt f (.int k) = f k := by simp [onInt]
theorem rangeD_map (n : Nat) (f : Nat → D) : (rangeD 0 (n : Int)).map (onInt f) = (List.range n).map f := by
  unfold rangeD
  rw [Int.sub_zero, Int.toNat_natCast, List.map_map]
  refine List.map_congr_left fun k hk => ?_
  show onInt f (.int (0 + k)) = f k
  rw [Int.zero_add, onInt_int]
theorem mem_rangeD {hi : Int} {d : D} (h : d ∈ rangeD 0 hi) : ∃ k : Nat, (k : Int) < hi ∧ d = .int k := by
  unfold rangeD at h
  obtain ⟨k, hk, e⟩ := List.mem_map.mp h
  have := List.mem_range.mp hk
  refine ⟨k, by omega, by rw [← e]; simp⟩
def onStr (f : List Nat → List Nat) : D → D
  | .str x => .str (St (f x.cps.toList))
  | d => d
@[simp] theorem onStr_str (f : List Nat → List Nat) (l : List Nat) : onStr f (.str (St l)) = .str (St (f l)) := by simp [onStr]
theorem kin_c1 (Γ : Env) (c : Int) (many : Nat) (hm : many ≤ 100) : ∀ s : S, gt s 0 = .val (.int c) → gt s 2 = .val (.str "abcdefghijklmnopqrstuvwxyz") → (gt s 4).own = false → s.length = 7 →
      ev Γ (.comp (.ix (.v 2) (.bin .mod (.bin .add (.v 0) (.bin .mul (.c (.int 3)) (.v 4))) (.c (.int 26)))) 4 (.tup [(.c (.int 0)), (.c (.int 8))]) .rng (.c (.bl true))) s = some (.ok (.fr (.lst (strD ((kinW c).map fun x => [x])))) s) := by
  have rr := fun s => sq_rng 0 8 s (by omega)
  have rm := fun s => sq_rng 0 (many : Int) s (by omega)
  have len8 := kinW_len c
  have z8 : (kinW c).length ≤ sizeLine := size_100 (by omega)
  exact fun s g0 g2 g4 hl => by
    have q := comp_map (Γ := Γ) (e := .ix (.v 2) (.bin .mod (.bin .add (.v 0) (.bin .mul (.c (.int 3)) (.v 4))) (.c (.int 26)))) (x := 4) (it := .tup [(.c (.int 0)), (.c (.int 8))]) (k := .rng) (s := s) (s1 := s) (ds := rangeD 0 8) (onInt fun k => .str (St [ltr (c + 3 * k)])) (by simp [rr]) g4 (by rw [range_len]; decide) fun d hd => by
      obtain ⟨k, hk, rfl⟩ := mem_rangeD hd
      have hc := cmul_l (a := 3) (b := (k : Int)) (by decide) (by decide)
      have n0 : gt (s.set 4 (.val (.int k))) 0 = .val (.int c) := by rw [gt_set, if_neg (by omega)]; exact g0
      have n2 : gt (s.set 4 (.val (.int k))) 2 = .val (.str "abcdefghijklmnopqrstuvwxyz") := by rw [gt_set, if_neg (by omega)]; exact g2
      have n4 : gt (s.set 4 (.val (.int k))) 4 = .val (.int k) := by rw [gt_set, if_pos ⟨rfl, by omega⟩]
      simp [n0, n2, n4, hc, lets_ix]
    rw [q, show ((8 : Int)) = ((8 : Nat) : Int) from rfl, rangeD_map]
    unfold strD kinW
    rw [List.map_map, List.map_map, Function.comp_def]
    rfl
theorem kin_c2 (Γ : Env) (c : Int) (many : Nat) (hm : many ≤ 100) : ∀ s : S, gt s 1 = .val (.int many) → gt s 3 = .val (.str (St (kinW c))) → (gt s 4).own = false → s.length = 7 →
      ev Γ (.comp (.sl (.v 3) (.c .non) (.bin .add (.v 4) (.c (.int 1)))) 4 (.tup [(.c (.int 0)), (.v 1)]) .rng (.c (.bl true))) s = some (.ok (.fr (.lst (strD ((List.range many).map fun k => (kinW c).take (k + 1))))) s) := by
  have rr := fun s => sq_rng 0 8 s (by omega)
  have rm := fun s => sq_rng 0 (many : Int) s (by omega)
  have len8 := kinW_len c
  have z8 : (kinW c).length ≤ sizeLine := size_100 (by omega)
  exact fun s g1 g3 g4 hl => by
    have q := comp_map (Γ := Γ) (e := .sl (.v 3) (.c .non) (.bin .add (.v 4) (.c (.int 1)))) (x := 4) (it := .tup [(.c (.int 0)), (.v 1)]) (k := .rng) (s := s) (s1 := s) (ds := rangeD 0 (many : Int)) (onInt fun k => .str (St ((kinW c).take (k + 1)))) (by simp [rm, g1]) g4 (by rw [range_len]; omega) fun d hd => by
      obtain ⟨k, hk, rfl⟩ := mem_rangeD hd
      have n3 : gt (s.set 4 (.val (.int k))) 3 = .val (.str (St (kinW c))) := by rw [gt_set, if_neg (by omega)]; exact g3
      have n4 : gt (s.set 4 (.val (.int k))) 4 = .val (.int k) := by rw [gt_set, if_pos ⟨rfl, by omega⟩]
      have n5 := sl_to (i := (k : Int) + 1) z8 (by omega)
      rw [show ((k : Int) + 1).toNat = k + 1 by omega] at n5
      simp [n3, n4, n5]
    rw [q, rangeD_map]
    unfold strD
    rw [List.map_map, Function.comp_def]
theorem kin_c3 (Γ : Env) (c : Int) (many : Nat) (hm : many ≤ 100) : ∀ s : S, gt s 3 = .val (.str (St (kinW c))) → (gt s 4).own = false → s.length = 7 →
      ev Γ (.comp (.bin .add (.sl (.v 3) (.v 4) (.c .non)) (.sl (.v 3) (.c .non) (.v 4))) 4 (.tup [(.c (.int 0)), (.c (.int 8))]) .rng (.c (.bl true))) s = some (.ok (.fr (.lst (strD (kinT c)))) s) := by
  have rr := fun s => sq_rng 0 8 s (by omega)
  have rm := fun s => sq_rng 0 (many : Int) s (by omega)
  have len8 := kinW_len c
  have z8 : (kinW c).length ≤ sizeLine := size_100 (by omega)
  exact fun s g3 g4 hl => by
    have q := comp_map (Γ := Γ) (e := .bin .add (.sl (.v 3) (.v 4) (.c .non)) (.sl (.v 3) (.c .non) (.v 4))) (x := 4) (it := .tup [(.c (.int 0)), (.c (.int 8))]) (k := .rng) (s := s) (s1 := s) (ds := rangeD 0 8) (onInt fun k => .str (St ((kinW c).drop k ++ (kinW c).take k))) (by simp [rr]) g4 (by rw [range_len]; decide) fun d hd => by
      obtain ⟨k, hk, rfl⟩ := mem_rangeD hd
      have n3 : gt (s.set 4 (.val (.int k))) 3 = .val (.str (St (kinW c))) := by rw [gt_set, if_neg (by omega)]; exact g3
      have n4 : gt (s.set 4 (.val (.int k))) 4 = .val (.int k) := by rw [gt_set, if_pos ⟨rfl, by omega⟩]
      have n5 := sl_to (i := (k : Int)) z8 (by omega)
      have n6 := sl_from (i := (k : Int)) z8 (by omega)
      rw [Int.toNat_natCast] at n5 n6
      have n7 := bin_addSt ((kinW c).drop k) ((kinW c).take k) (size_100 (by rw [List.length_take, List.length_drop]; omega))
      simp [n3, n4, n5, n6, n7]
    rw [q, show ((8 : Int)) = ((8 : Nat) : Int) from rfl, rangeD_map]
    unfold strD kinT
    rw [List.map_map, Function.comp_def]
theorem kin_c4 (Γ : Env) (c : Int) (many : Nat) (hm : many ≤ 100) : ∀ s : S, gt s 5 = .lst (strD (kinT c)) → (gt s 6).own = false → s.length = 7 →
      ev Γ (.comp (.rev (.v 6)) 6 (.v 5) .seq (.c (.bl true))) s = some (.ok (.fr (.lst (strD ((kinT c).map List.reverse)))) (s.set 5 (.val (.lst (strD (kinT c)))))) := by
  have rr := fun s => sq_rng 0 8 s (by omega)
  have rm := fun s => sq_rng 0 (many : Int) s (by omega)
  have len8 := kinW_len c
  have z8 : (kinW c).length ≤ sizeLine := size_100 (by omega)
  exact fun s g5 g6 hl => by
    have q := comp_map (Γ := Γ) (e := .rev (.v 6)) (x := 6) (it := .v 5) (k := .seq) (s := s) (s1 := s.set 5 (.val (.lst (strD (kinT c))))) (ds := strD (kinT c)) (onStr List.reverse) (by simp [g5]) (by rw [gt_set, if_neg (by omega)]; exact g6) (by simp [kinT, strD]) fun d hd => by
      obtain ⟨l, hl', rfl⟩ := List.mem_map.mp hd
      have n6 : gt ((s.set 5 (.val (.lst (strD (kinT c))))).set 6 (.val (.str (St l)))) 6 = .val (.str (St l)) := by rw [gt_set, if_pos ⟨rfl, by rw [List.length_set]; omega⟩]
      have hz : l.length ≤ sizeLine := by
        unfold kinT at hl'
        obtain ⟨k, hk, rfl⟩ := List.mem_map.mp hl'
        exact size_100 (by rw [List.length_append, List.length_take, List.length_drop]; omega)
      simp [n6, revR_st l _ hz]
    rw [q]
    unfold strD
    rw [List.map_map, List.map_map]
    congr 5
theorem kin_j1 (c : Int) (s : S) : jnR (.str (St [])) [.d (.lst (strD ((kinW c).map fun x => [x])))] s = some (.ok (.fr (.val (.str (St (kinW c))))) s) := by
  have hw : ((kinW c).map fun x => [x]).flatten = kinW c := by
    induction kinW c with
    | nil => rfl
    | cons a l ih => rw [List.map_cons, List.flatten_cons, ih]; rfl
  have len8 := kinW_len c
  have := jn_st ((kinW c).map fun x => [x]) s (by rw [hw, len8]; decide)
  rw [hw] at this
  exact this
theorem kin_run (Γ : Env) (c : Int) (many : Nat) (hm : many ≤ 100) : ∃ s, execs Γ 7 [] 0 P.b_l_kin_by [.val (.int c), .val (.int many), .un, .un, .un, .un, .un] = some (.rt (.cl (.lst (strD (kinL c many)))) s) := by
  refine rtv_of ?_
  have hk8 : (kinT c).length = 8 := by simp [kinT]
  have z16 : (strD (kinT c)).length + (strD ((kinT c).map List.reverse)).length ≤ sizeLine := size_100 (by simp [hk8, strD])
  have hcut : cutL (strD (kinT c) ++ strD ((kinT c).map List.reverse)) none (some (many : Int)) = strD ((kinT c ++ (kinT c).map List.reverse).take many) := by
    rw [cutL_to]
    unfold strD
    rw [List.map_take, List.map_append]
  have d1 := kin_c1 Γ c many hm [.val (.int c), .val (.int many), .val (.str "abcdefghijklmnopqrstuvwxyz"), .un, .un, .un, .un] (by simp) (by simp) (by simp) (by simp)
  have d2 := kin_c2 Γ c many hm [.val (.int c), .val (.int many), .val (.str "abcdefghijklmnopqrstuvwxyz"), .val (.str (St (kinW c))), .un, .un, .un] (by simp) (by simp) (by simp) (by simp)
  have d3 := kin_c3 Γ c many hm [.val (.int c), .val (.int many), .val (.str "abcdefghijklmnopqrstuvwxyz"), .val (.str (St (kinW c))), .un, .un, .un] (by simp) (by simp) (by simp)
  have d4 := kin_c4 Γ c many hm [.val (.int c), .val (.int many), .val (.str "abcdefghijklmnopqrstuvwxyz"), .val (.str (St (kinW c))), .un, .lst (strD (kinT c)), .un] (by simp) (by simp) (by simp)
  unfold kinL
  by_cases h1 : c / 26 % 2 = 0
  · by_cases h2 : many < 9
    · have h2' : (many : Int) < 9 := by omega
      simp [P.b_l_kin_by, empty_st, d1, kin_j1, d2, h1, h2, h2']
    · have h2' : ¬ (many : Int) < 9 := by omega
      simp [P.b_l_kin_by, empty_st, d1, kin_j1, d3, d4, h1, h2, h2', z16, sl_vlst, hcut]
  · simp [P.b_l_kin_by, empty_st, d1, kin_j1, d3, d4, h1, z16, sl_vlst, hcut]
theorem kin_g {Q : Nat → Option FD} {n : Nat} (h : Q 91 = some P.f_l_kin_by) (c : Int) (many : Nat) (hm : many ≤ 100) : dc (envN Q (n + 1)) 91 [.int c, .int many] = some (.ok (.lst (strD (kinL c many)))) := by
  obtain ⟨s, e⟩ := kin_run (envN Q n) c many hm
  exact dc_ok h rfl rfl rfl e
theorem kinL_len (c : Int) (many : Nat) (h : many ≤ 16) : (kinL c many).length = many := by
  unfold kinL
  split
  · simp
  · rw [List.length_take]
    simp [kinT]
    omega
end Mi
namespace Mi
open PySem
/-! ### reckoning try, isinstance of an exception, stepped ranges -/
def tryO (h : Nat → List CH → S → Option Out) (hs : List CH) (o : Option Out) : Option Out := match o with
  | some (.ex c s) => h c hs s
  | o => o
section
variable (Γ : Env) (n : Nat) (lk : List Nat) (oc : Nat) (s : S)
@[simp] theorem exec_tr (b : List CS) (hs : List CH) : exec Γ n lk oc (.tr b hs) s = tryO (handle Γ n lk oc) hs (execs Γ n lk oc b s) := by rw [exec] <;> rfl
@[simp] theorem tryO_ex (h : Nat → List CH → S → Option Out) (hs : List CH) (c : Nat) : tryO h hs (some (.ex c s)) = h c hs s := rfl
@[simp] theorem tryO_nx (h : Nat → List CH → S → Option Out) (hs : List CH) : tryO h hs (some (.nx s)) = some (.nx s) := rfl
@[simp] theorem tryO_rt (h : Nat → List CH → S → Option Out) (hs : List CH) (a : Ag) : tryO h hs (some (.rt a s)) = some (.rt a s) := rfl
@[simp] theorem tryO_bk (h : Nat → List CH → S → Option Out) (hs : List CH) : tryO h hs (some (.bk s)) = some (.bk s) := rfl
@[simp] theorem tryO_ct (h : Nat → List CH → S → Option Out) (hs : List CH) : tryO h hs (some (.ct s)) = some (.ct s) := rfl
@[simp] theorem handle_nil (c : Nat) : handle Γ n lk oc c [] s = some (.ex c s) := by rw [handle]
@[simp] theorem handle_as (c : Nat) (cs ks : List Nat) (i : Nat) (b : List CS) (hs : List CH) : handle Γ n lk oc c (.mk cs ks (some i) b :: hs) s = if ks.contains c then (if takesC c cs then (if i < n ∧ i ∉ lk then wipeO i (execs Γ n lk oc b (s.set i (.exn c))) else none) else handle Γ n lk oc c hs s) else none := by rw [handle] <;> rfl
@[simp] theorem handle_no (c : Nat) (cs ks : List Nat) (b : List CS) (hs : List CH) : handle Γ n lk oc c (.mk cs ks none b :: hs) s = if ks.contains c then (if takesC c cs then noEx (execs Γ n lk oc b s) else handle Γ n lk oc c hs s) else none := by rw [handle] <;> rfl
@[simp] theorem wipe_rt (i : Nat) (c : Cl) : wipeO i (some (.rt (.cl c) s)) = if noX (s.set i .un) then some (.rt (.cl c) (s.set i .un)) else none := rfl
@[simp] theorem wipe_nx (i : Nat) : wipeO i (some (.nx s)) = if noX (s.set i .un) then some (.nx (s.set i .un)) else none := rfl
@[simp] theorem noEx_rt (a : Ag) : noEx (some (.rt a s)) = some (.rt a s) := rfl
@[simp] theorem noEx_nx : noEx (some (.nx s)) = some (.nx s) := rfl
@[simp] theorem noX_nil : noX [] = true := rfl
@[simp] theorem noX_cons (c : Cl) (r : S) : noX (c :: r) = (!isExn c && noX r) := rfl
@[simp] theorem isExn_val (d : D) : isExn (.val d) = false := rfl
@[simp] theorem isExn_un : isExn .un = false := rfl
@[simp] theorem isExn_lst (l : List D) : isExn (.lst l) = false := rfl
@[simp] theorem isExn_dct (ks : List Str) (l : List D) : isExn (.dct ks l) = false := rfl
def isxR (c : Cl) (ts ks : List Nat) (s : S) : Option (R Ro) := match c with
  | .exn c => if ks.contains c then some (.ok (.fr (.val (.bl (ts.contains c)))) s) else none
  | _ => none
@[simp] theorem isxR_exn (c : Nat) (ts ks : List Nat) : isxR (.exn c) ts ks s = if ks.contains c then some (.ok (.fr (.val (.bl (ts.contains c)))) s) else none := rfl
@[simp] theorem ev_isx (i : Nat) (ts ks : List Nat) : ev Γ (.isx i ts ks) s = isxR (gt s i) ts ks s := by
  show (match gt s i with
    | .exn c => if ks.contains c then some (R.ok (Ro.fr (.val (.bl (ts.contains c)))) s) else none
    | _ => none) = _
  unfold isxR
  cases gt s i <;> rfl
@[simp] theorem evT_isx (i : Nat) (ts ks : List Nat) : evT Γ (.isx i ts ks) s = tst (ev Γ (.isx i ts ks)) s := rfl
end
theorem sq_rg3 (lo hi c : Int) (n : Nat) (s : S) (h1 : -(2 ^ 62) ≤ lo ∧ lo < 2 ^ 62 ∧ -(2 ^ 62) ≤ hi ∧ hi < 2 ^ 62) (h2 : stepsC lo hi c = some n) : sq? (forItems .rg3) (.tup [.int lo, .int hi, .int c]) s = some (.ok (rangeC lo c n) s) := by
  show (if big (-(2 ^ 62) ≤ lo ∧ lo < 2 ^ 62 ∧ -(2 ^ 62) ≤ hi ∧ hi < 2 ^ 62) = true then (stepsC lo hi c).map fun n => rangeC lo c n else none).map _ = _
  rw [if_pos (big_iff.mpr h1), h2]; rfl
theorem ix_vl (xs : List D) (i : D) : ixop (.val (.lst xs)) i = ixop (.lst xs) i := by cases i <;> rfl
/-- an item of a list by a place that is in it -/
theorem ix_in {xs : List D} {i : Int} (h0 : 0 ≤ i) (h1 : i < xs.length) : ∃ d ∈ xs, ixop (.lst xs) (.int i) = some d := by
  have hk : i.toNat < xs.length := by omega
  have e : ((i.toNat : Nat) : Int) = i := Int.toNat_of_nonneg h0
  have := ix_lst (xs := xs) (k := i.toNat) (List.getElem?_eq_getElem hk)
  rw [e] at this
  exact ⟨_, List.getElem_mem hk, this⟩
theorem line_eq : sizeLine = 16777216 := by decide
theorem letB_ltr (c : Int) : letB (ltr c) = true := by
  unfold letB ltr
  exact decide_eq_true (by omega)
@[simp] theorem bin_mulS (a : Nat) (j : Int) (h0 : 0 ≤ j) (h1 : j ≤ 1000) : binop .mul (.val (.str (St [a]))) (.val (.int j)) = some (.val (.str (St (List.replicate j.toNat a)))) := by
  show (if 0 ≤ j ∧ j ≤ 1000 ∧ (St [a]).length ≤ 1000 then some (Cl.val (.str ⟨((List.replicate j.toNat (St [a]).cps.toList).flatten).toArray⟩)) else none) = _
  rw [if_pos ⟨h0, h1, by rw [st_len]; simp⟩, st_list]
  congr 3
  show St _ = St _
  congr 1
  induction j.toNat with
  | zero => rfl
  | succ n ih => rw [List.replicate_succ, List.flatten_cons, ih, List.replicate_succ]; rfl
end Mi
namespace Mi
open PySem
/-! ### the names that are free in a tree -/
/-- node by node, as read: the name that stands there and is bound by nothing round it -/
def T.fl : List Str → T → List (Option Str)
  | _, .num _ => [none]
  | bs, .name x => [if x ∈ bs then none else some x]
  | bs, .fn x b => none :: T.fl (bs ++ [x]) b
  | bs, .call a b => none :: (T.fl bs a ++ T.fl bs b)
  | bs, .plus a b => none :: (T.fl bs a ++ T.fl bs b)
  | bs, .less a b => none :: (T.fl bs a ++ T.fl bs b)
  | bs, .ite a b c => none :: (T.fl bs a ++ (T.fl bs b ++ T.fl bs c))
  | bs, .lett x a b => none :: (T.fl bs a ++ T.fl (bs ++ [x]) b)
def addF (found : List Str) : Option Str → List Str
  | some x => if x ∈ found then found else found ++ [x]
  | none => found
def T.freeL (t : T) : List Str := (T.fl [] t).foldl addF []
theorem fl_len (t : T) : ∀ bs, (T.fl bs t).length = t.size := by
  induction t <;> intro bs <;> simp_all [T.fl, T.size] <;> omega
theorem isin_strs (x : Str) (bs : List Str) : cmpop .isin (.val (.str x)) (.val (.lst (bs.map D.str))) = some (decide (x ∈ bs)) := by
  have e2 : ∀ l : List Str, (l.map D.str).all flatD = true := fun l => by
    induction l with
    | nil => rfl
    | cons a l ih => rw [List.map_cons, List.all_cons, ih]; rfl
  show (if (flatD (.str x) && (bs.map D.str).all flatD) = true then some ((bs.map D.str).any fun e => eqF e (.str x)) else deepIn (.str x) (.val (.lst (bs.map D.str)))) = _
  rw [e2, if_pos (by rfl)]
  have e : ∀ (l : List Str), (l.map D.str).any (fun e => eqF e (.str x)) = decide (x ∈ l) := fun l => by
    induction l with
    | nil => simp
    | cons a l ih =>
      rw [List.map_cons, List.any_cons, ih, eqF_str]
      by_cases h : a = x
      · subst h; simp
      · have h' : ¬ x = a := fun z => h z.symm
        simp [h, h']
  rw [e]
theorem isin_strsO (x : Str) (bs : List Str) : cmpop .isin (.val (.str x)) (.lst (bs.map D.str)) = some (decide (x ∈ bs)) := isin_strs x bs
theorem nin_strs (x : Str) (bs : List Str) : cmpop .nin (.val (.str x)) (.val (.lst (bs.map D.str))) = some (!decide (x ∈ bs)) := by
  show (cmpop .isin (.val (.str x)) (.val (.lst (bs.map D.str)))).map (fun b => !b) = _
  rw [isin_strs]; rfl
theorem nin_strsO (x : Str) (bs : List Str) : cmpop .nin (.val (.str x)) (.lst (bs.map D.str)) = some (!decide (x ∈ bs)) := nin_strs x bs
/-- a thing of the pile: a tree and what is bound round it -/
abbrev FI := T × List Str
def fiD (p : FI) : D := .tup [p.1.d, .lst (p.2.map .str)]
def fiK : FI → List FI
  | (.num _, _) => []
  | (.name _, _) => []
  | (.fn x b, bs) => [(b, bs ++ [x])]
  | (.call a b, bs) => [(a, bs), (b, bs)]
  | (.plus a b, bs) => [(a, bs), (b, bs)]
  | (.less a b, bs) => [(a, bs), (b, bs)]
  | (.ite a b c, bs) => [(a, bs), (b, bs), (c, bs)]
  | (.lett x a b, bs) => [(a, bs), (b, bs ++ [x])]
def fiO : FI → Option Str
  | (.name x, bs) => if x ∈ bs then none else some x
  | _ => none
def fiStp (p : FI) (found : List Str) : Option (List FI × List Str) := some (fiK p, addF found (fiO p))
theorem fi_run (t : T) : ∀ (bs : List Str) (l : List FI) (found : List Str) (r : Sum (List Str) (FI × List Str)), Runs fiStp l ((T.fl bs t).foldl addF found) r → Runs fiStp ((t, bs) :: l) found r := by
  induction t with
  | num i => exact fun bs l found r h => .step (ks := []) rfl h
  | name x => exact fun bs l found r h => .step (ks := []) rfl h
  | fn x b ih => exact fun bs l found r h => .step (ks := [(b, bs ++ [x])]) rfl (ih _ _ _ _ h)
  | call a b h1 h2 => exact fun bs l found r h => .step (ks := [(a, bs), (b, bs)]) rfl (h1 _ _ _ _ (h2 _ _ _ _ (by simpa [T.fl, addF, fiO] using h)))
  | plus a b h1 h2 => exact fun bs l found r h => .step (ks := [(a, bs), (b, bs)]) rfl (h1 _ _ _ _ (h2 _ _ _ _ (by simpa [T.fl, addF, fiO] using h)))
  | less a b h1 h2 => exact fun bs l found r h => .step (ks := [(a, bs), (b, bs)]) rfl (h1 _ _ _ _ (h2 _ _ _ _ (by simpa [T.fl, addF, fiO] using h)))
  | ite a b c h1 h2 h3 => exact fun bs l found r h => .step (ks := [(a, bs), (b, bs), (c, bs)]) rfl (h1 _ _ _ _ (h2 _ _ _ _ (h3 _ _ _ _ (by simpa [T.fl, addF, fiO] using h))))
  | lett x a b h1 h2 => exact fun bs l found r h => .step (ks := [(a, bs), (b, bs ++ [x])]) rfl (h1 _ _ _ _ (h2 _ _ _ _ (by simpa [T.fl, addF, fiO] using h)))
section
variable (Γ : Env)
/-- the parts go onto the pile -/
theorem free_push (a0 a1 a3 : Cl) (n : T) (hn : ∀ x a b, n ≠ .lett x a b) (bs : D) (a5 : Cl) : ∀ (rs : List T) (todo : List D) (c8 : Cl), todo.length + rs.length ≤ 1000000 →
    ∃ c8', loop (evT Γ (.v 7)) (execs Γ 9 [] 0 P.b_free_1) [a0, a1, .lst todo, a3, .val n.d, a5, .val bs, .lst (rs.reverse.map T.d), c8] = some (.nx [a0, a1, .lst (todo ++ rs.map fun t => .tup [t.d, bs]), a3, .val n.d, a5, .val bs, .lst [], c8'])
  | [], todo, c8, h => ⟨c8, by rw [loop_end (s1 := [a0, a1, .lst todo, a3, .val n.d, a5, .val bs, .lst [], c8]) (by simp)]; simp⟩
  | k :: rs, todo, c8, h => by
    rw [List.length_cons] at h
    obtain ⟨c8', e⟩ := free_push a0 a1 a3 n hn bs a5 rs (todo ++ [.tup [k.d, bs]]) (.val k.d) (by rw [List.length_append, List.length_singleton]; omega)
    refine ⟨c8', ?_⟩
    have : todo.length < sizeLine := Nat.lt_of_le_of_lt (by omega) million
    rw [loop_turn (s1 := [a0, a1, .lst todo, a3, .val n.d, a5, .val bs, .lst ((k :: rs).reverse.map T.d), c8]) (s2 := [a0, a1, .lst (todo ++ [.tup [k.d, bs]]), a3, .val n.d, a5, .val bs, .lst (rs.reverse.map T.d), .val k.d]) (by simp) ?_, e]
    · simp
    · cases n <;> first | exact absurd rfl (hn _ _ _) | simp [P.b_free_1, T.d, this]
theorem free_push1 (a0 a1 a3 : Cl) (x : Str) (q : T) (ys : List D) (a5 : Cl) (todo : List D) (c8 : Cl) (b : T) (h : todo.length + 1 ≤ 1000000) :
    ∃ c8', loop (evT Γ (.v 7)) (execs Γ 9 [] 0 P.b_free_1) [a0, a1, .lst todo, a3, .val (T.fn x q).d, a5, .lst ys, .lst [b.d], c8] = some (.nx [a0, a1, .lst (todo ++ [.tup [b.d, .lst ys]]), a3, .val (T.fn x q).d, a5, .val (.lst ys), .lst [], c8']) := by
  have h1 : todo.length < sizeLine := Nat.lt_of_le_of_lt (by omega) million
  refine ⟨.val b.d, ?_⟩
  have p2 : [b.d] = [] ++ [b.d] := rfl
  rw [loop_turn (s1 := [a0, a1, .lst todo, a3, .val (T.fn x q).d, a5, .lst ys, .lst [b.d], c8]) (s2 := [a0, a1, .lst (todo ++ [.tup [b.d, .lst ys]]), a3, .val (T.fn x q).d, a5, .val (.lst ys), .lst [], .val b.d]) (by simp) (by rw [p2]; simp [P.b_free_1, T.d, h1]),
    loop_end (s1 := [a0, a1, .lst (todo ++ [.tup [b.d, .lst ys]]), a3, .val (T.fn x q).d, a5, .val (.lst ys), .lst [], .val b.d]) (by simp)]
theorem free_pushl (a0 a1 a3 : Cl) (x : Str) (p q : T) (bs : D) (ys : List D) (todo : List D) (c8 : Cl) (h : todo.length + 2 ≤ 1000000) (a b : T) :
    ∃ c6' c8', loop (evT Γ (.v 7)) (execs Γ 9 [] 0 P.b_free_1) [a0, a1, .lst todo, a3, .val (T.lett x p q).d, .val bs, .lst ys, .lst [a.d, b.d], c8] = some (.nx [a0, a1, .lst (todo ++ [.tup [b.d, .lst ys], .tup [a.d, bs]]), a3, .val (T.lett x p q).d, .val bs, c6', .lst [], c8']) := by
  have h1 : todo.length < sizeLine := Nat.lt_of_le_of_lt (by omega) million
  have h2 : todo.length + 1 < sizeLine := Nat.lt_of_le_of_lt (by omega) million
  refine ⟨.val bs, .val a.d, ?_⟩
  have p1 : [a.d, b.d] = [a.d] ++ [b.d] := rfl
  have p2 : [a.d] = [] ++ [a.d] := rfl
  rw [loop_turn (s1 := [a0, a1, .lst todo, a3, .val (T.lett x p q).d, .val bs, .lst ys, .lst [a.d, b.d], c8]) (s2 := [a0, a1, .lst (todo ++ [.tup [b.d, .lst ys]]), a3, .val (T.lett x p q).d, .val bs, .val (.lst ys), .lst [a.d], .val b.d]) (by simp) (by rw [p1]; simp [P.b_free_1, T.d, h1]),
    loop_turn (s1 := [a0, a1, .lst (todo ++ [.tup [b.d, .lst ys]]), a3, .val (T.lett x p q).d, .val bs, .val (.lst ys), .lst [a.d], .val b.d]) (s2 := [a0, a1, .lst (todo ++ [.tup [b.d, .lst ys]] ++ [.tup [a.d, bs]]), a3, .val (T.lett x p q).d, .val bs, .val bs, .lst [], .val a.d]) (by simp) (by rw [p2]; simp [P.b_free_1, T.d, h2]),
    loop_end (s1 := [a0, a1, .lst (todo ++ [.tup [b.d, .lst ys]] ++ [.tup [a.d, bs]]), a3, .val (T.lett x p q).d, .val bs, .val bs, .lst [], .val a.d]) (by simp)]
  simp
abbrev fsz (l : List FI) : Nat := (l.map fun p => p.1.size).sum
def FiRp (a0 : Cl) (l : List FI) (found : List Str) (s : S) : Prop := ∃ c3 c4 c5 c6 c7 c8, s = [a0, .lst (found.map .str), .lst (l.reverse.map fiD), c3, c4, c5, c6, c7, c8] ∧ fsz l + found.length ≤ 900000 ∧ ∀ p ∈ l, p.2.length + p.1.size ≤ 900000
theorem len_fsz : ∀ l : List FI, l.length ≤ fsz l
  | [] => Nat.le_refl _
  | p :: l => by
    have := len_fsz l
    have := size_pos p.1
    simp only [fsz, List.map_cons, List.sum_cons, List.length_cons] at *
    omega
theorem fi_st {a0 c3 c4 c5 c6 c7 c8 : Cl} {f f' : List Str} {x x' : List D} (h1 : f = f') (h2 : x = x') : ([a0, .lst (f.map .str), .lst x, c3, c4, c5, c6, c7, c8] : S) = [a0, .lst (f'.map .str), .lst x', c3, c4, c5, c6, c7, c8] := by rw [h1, h2]
theorem free_step (h3 : ParG Γ) (a0 : Cl) (i : FI) (l : List FI) (found : List Str) (s : S) (hs : FiRp a0 (i :: l) found s) :
    ∃ s', evT Γ (.v 2) s = some (.ok true s) ∧ execs Γ 9 [] 0 P.b_free_0 s = some (.nx s') ∧ FiRp a0 (fiK i ++ l) (addF found (fiO i)) s' := by
  obtain ⟨c3, c4, c5, c6, c7, c8, rfl, hb, hp⟩ := hs
  have hpi := hp i List.mem_cons_self
  have hl := len_fsz l
  simp only [fsz, List.map_cons, List.sum_cons] at hb hl
  have hz : l.length + 3 ≤ 1000000 := by have := size_pos i.1; omega
  have hf : found.length < sizeLine := Nat.lt_of_le_of_lt (by omega : found.length ≤ 1000000) million
  have hbs : i.2.length + 1 ≤ sizeLine := Nat.le_of_lt (Nat.lt_of_le_of_lt (by have := size_pos i.1; omega : i.2.length + 1 ≤ 1000000) million)
  have top : ∀ xs : List D, evT Γ (.v 2) [a0, .lst (found.map .str), .lst (xs ++ [fiD i]), c3, c4, c5, c6, c7, c8] = some (.ok true [a0, .lst (found.map .str), .lst (xs ++ [fiD i]), c3, c4, c5, c6, c7, c8]) := fun xs => by simp
  have er : (i :: l).reverse.map fiD = l.reverse.map fiD ++ [fiD i] := by simp
  rw [er]
  have hmem : ∀ p ∈ l, p.2.length + p.1.size ≤ 900000 := fun p h => hp p (List.mem_cons_of_mem _ h)
  have q3 := h3 i.1
  obtain ⟨t, bs⟩ := i
  dsimp only at hb hpi hbs q3
  have ll : (l.reverse.map fiD).length + 3 ≤ 1000000 := by rw [List.length_map, List.length_reverse]; exact hz
  cases t with
  | num i =>
    refine ⟨[a0, .lst (found.map .str), .lst (l.reverse.map fiD), .val (fiD (.num i, bs)), .val (T.num i).d, .val (.lst (bs.map .str)), .val (.lst (bs.map .str)), .lst [], c8], top _, ?_, _, _, _, _, _, _, rfl, by simp only [fiK, fiO, addF, List.nil_append, fsz]; omega, hmem⟩
    have e := loop_end (t := evT Γ (.v 7)) (b := execs Γ 9 [] 0 P.b_free_1) (s := [a0, .lst (found.map .str), .lst (l.reverse.map fiD), .val (fiD (.num i, bs)), .val (T.num i).d, .val (.lst (bs.map .str)), .val (.lst (bs.map .str)), .lst [], c8]) (s1 := [a0, .lst (found.map .str), .lst (l.reverse.map fiD), .val (fiD (.num i, bs)), .val (T.num i).d, .val (.lst (bs.map .str)), .val (.lst (bs.map .str)), .lst [], c8]) (by simp)
    simp [T.d, T.parts, fiD] at e q3
    simp [P.b_free_0, exec_whl, T.d, fiD, q3, e]
  | name x =>
    by_cases hx : x ∈ bs
    · refine ⟨[a0, .lst (found.map .str), .lst (l.reverse.map fiD), .val (fiD (.name x, bs)), .val (T.name x).d, .val (.lst (bs.map .str)), .val (.lst (bs.map .str)), .lst [], c8], top _, ?_, _, _, _, _, _, _, fi_st (by simp [fiO, hx, addF]) (by simp [fiK]), by simp only [fiK, fiO, if_pos hx, addF, List.nil_append, fsz]; omega, hmem⟩
      have e := loop_end (t := evT Γ (.v 7)) (b := execs Γ 9 [] 0 P.b_free_1) (s := [a0, .lst (found.map .str), .lst (l.reverse.map fiD), .val (fiD (.name x, bs)), .val (T.name x).d, .val (.lst (bs.map .str)), .val (.lst (bs.map .str)), .lst [], c8]) (s1 := [a0, .lst (found.map .str), .lst (l.reverse.map fiD), .val (fiD (.name x, bs)), .val (T.name x).d, .val (.lst (bs.map .str)), .val (.lst (bs.map .str)), .lst [], c8]) (by simp)
      simp [T.d, T.parts, fiD] at e q3
      simp [P.b_free_0, exec_whl, T.d, fiD, q3, e, nin_strs, hx]
    · by_cases hy : x ∈ found
      · refine ⟨[a0, .lst (found.map .str), .lst (l.reverse.map fiD), .val (fiD (.name x, bs)), .val (T.name x).d, .val (.lst (bs.map .str)), .val (.lst (bs.map .str)), .lst [], c8], top _, ?_, _, _, _, _, _, _, fi_st (by simp [fiO, hx, hy, addF]) (by simp [fiK]), by simp only [fiK, fiO, if_neg hx, addF, if_pos hy, List.nil_append, fsz]; omega, hmem⟩
        have e := loop_end (t := evT Γ (.v 7)) (b := execs Γ 9 [] 0 P.b_free_1) (s := [a0, .lst (found.map .str), .lst (l.reverse.map fiD), .val (fiD (.name x, bs)), .val (T.name x).d, .val (.lst (bs.map .str)), .val (.lst (bs.map .str)), .lst [], c8]) (s1 := [a0, .lst (found.map .str), .lst (l.reverse.map fiD), .val (fiD (.name x, bs)), .val (T.name x).d, .val (.lst (bs.map .str)), .val (.lst (bs.map .str)), .lst [], c8]) (by simp)
        simp [T.d, T.parts, fiD] at e q3
        simp [P.b_free_0, exec_whl, T.d, fiD, q3, e, nin_strs, nin_strsO, hx, hy]
      · refine ⟨[a0, .lst ((found ++ [x]).map .str), .lst (l.reverse.map fiD), .val (fiD (.name x, bs)), .val (T.name x).d, .val (.lst (bs.map .str)), .val (.lst (bs.map .str)), .lst [], c8], top _, ?_, _, _, _, _, _, _, fi_st (by simp [fiO, hx, hy, addF]) (by simp [fiK]), by simp only [fiK, fiO, if_neg hx, addF, if_neg hy, List.nil_append, fsz, List.length_append, List.length_singleton, T.size] at *; omega, hmem⟩
        have e := loop_end (t := evT Γ (.v 7)) (b := execs Γ 9 [] 0 P.b_free_1) (s := [a0, .lst ((found ++ [x]).map .str), .lst (l.reverse.map fiD), .val (fiD (.name x, bs)), .val (T.name x).d, .val (.lst (bs.map .str)), .val (.lst (bs.map .str)), .lst [], c8]) (s1 := [a0, .lst ((found ++ [x]).map .str), .lst (l.reverse.map fiD), .val (fiD (.name x, bs)), .val (T.name x).d, .val (.lst (bs.map .str)), .val (.lst (bs.map .str)), .lst [], c8]) (by simp)
        simp [T.d, T.parts, fiD] at e q3
        simp [P.b_free_0, exec_whl, T.d, fiD, q3, e, nin_strs, nin_strsO, hx, hy, hf]
  | fn x b =>
    obtain ⟨c8', e⟩ := free_push1 Γ a0 (.lst (found.map .str)) (.val (fiD (.fn x b, bs))) x b ((bs ++ [x]).map .str) (.val (.lst (bs.map .str))) (l.reverse.map fiD) c8 b (by omega)
    refine ⟨[a0, .lst (found.map .str), .lst (l.reverse.map fiD ++ [fiD (b, bs ++ [x])]), .val (fiD (.fn x b, bs)), .val (T.fn x b).d, .val (.lst (bs.map .str)), .val (.lst ((bs ++ [x]).map .str)), .lst [], c8'], top _, ?_, _, _, _, _, _, _, fi_st (by simp [fiO, addF]) (by simp [fiK]), by simp only [fiK, fiO, addF, List.cons_append, List.nil_append, fsz, List.map_cons, List.sum_cons, T.size] at *; omega, fun p hp => ?_⟩
    · simp [T.d, T.parts, fiD] at e q3
      simp [P.b_free_0, exec_whl, T.d, fiD, q3, hbs, e]
    · rcases List.mem_cons.mp hp with rfl | hp
      · simp only [T.size, List.length_append, List.length_singleton] at hpi ⊢; omega
      · exact hmem p hp
  | call a b =>
    obtain ⟨c8', e⟩ := free_push Γ a0 (.lst (found.map .str)) (.val (fiD (.call a b, bs))) (.call a b) (by intros; simp) (.lst (bs.map .str)) (.val (.lst (bs.map .str))) [b, a] (l.reverse.map fiD) c8 (by simp; omega)
    refine ⟨[a0, .lst (found.map .str), .lst (l.reverse.map fiD ++ [fiD (b, bs), fiD (a, bs)]), .val (fiD (.call a b, bs)), .val (T.call a b).d, .val (.lst (bs.map .str)), .val (.lst (bs.map .str)), .lst [], c8'], top _, ?_, _, _, _, _, _, _, fi_st (by simp [fiO, addF]) (by simp [fiK]), by simp only [fiK, fiO, addF, List.cons_append, List.nil_append, fsz, List.map_cons, List.sum_cons, T.size] at *; omega, fun p hp => ?_⟩
    · simp [T.d, T.parts, fiD] at e q3
      simp [P.b_free_0, exec_whl, T.d, fiD, q3, hbs, e]
    · simp only [T.size] at hpi
      rcases List.mem_cons.mp hp with rfl | hp
      · show bs.length + a.size ≤ 900000; omega
      · rcases List.mem_cons.mp hp with rfl | hp
        · show bs.length + b.size ≤ 900000; omega
        · exact hmem p hp
  | plus a b =>
    obtain ⟨c8', e⟩ := free_push Γ a0 (.lst (found.map .str)) (.val (fiD (.plus a b, bs))) (.plus a b) (by intros; simp) (.lst (bs.map .str)) (.val (.lst (bs.map .str))) [b, a] (l.reverse.map fiD) c8 (by simp; omega)
    refine ⟨[a0, .lst (found.map .str), .lst (l.reverse.map fiD ++ [fiD (b, bs), fiD (a, bs)]), .val (fiD (.plus a b, bs)), .val (T.plus a b).d, .val (.lst (bs.map .str)), .val (.lst (bs.map .str)), .lst [], c8'], top _, ?_, _, _, _, _, _, _, fi_st (by simp [fiO, addF]) (by simp [fiK]), by simp only [fiK, fiO, addF, List.cons_append, List.nil_append, fsz, List.map_cons, List.sum_cons, T.size] at *; omega, fun p hp => ?_⟩
    · simp [T.d, T.parts, fiD] at e q3
      simp [P.b_free_0, exec_whl, T.d, fiD, q3, hbs, e]
    · simp only [T.size] at hpi
      rcases List.mem_cons.mp hp with rfl | hp
      · show bs.length + a.size ≤ 900000; omega
      · rcases List.mem_cons.mp hp with rfl | hp
        · show bs.length + b.size ≤ 900000; omega
        · exact hmem p hp
  | less a b =>
    obtain ⟨c8', e⟩ := free_push Γ a0 (.lst (found.map .str)) (.val (fiD (.less a b, bs))) (.less a b) (by intros; simp) (.lst (bs.map .str)) (.val (.lst (bs.map .str))) [b, a] (l.reverse.map fiD) c8 (by simp; omega)
    refine ⟨[a0, .lst (found.map .str), .lst (l.reverse.map fiD ++ [fiD (b, bs), fiD (a, bs)]), .val (fiD (.less a b, bs)), .val (T.less a b).d, .val (.lst (bs.map .str)), .val (.lst (bs.map .str)), .lst [], c8'], top _, ?_, _, _, _, _, _, _, fi_st (by simp [fiO, addF]) (by simp [fiK]), by simp only [fiK, fiO, addF, List.cons_append, List.nil_append, fsz, List.map_cons, List.sum_cons, T.size] at *; omega, fun p hp => ?_⟩
    · simp [T.d, T.parts, fiD] at e q3
      simp [P.b_free_0, exec_whl, T.d, fiD, q3, hbs, e]
    · simp only [T.size] at hpi
      rcases List.mem_cons.mp hp with rfl | hp
      · show bs.length + a.size ≤ 900000; omega
      · rcases List.mem_cons.mp hp with rfl | hp
        · show bs.length + b.size ≤ 900000; omega
        · exact hmem p hp
  | ite a b c =>
    obtain ⟨c8', e⟩ := free_push Γ a0 (.lst (found.map .str)) (.val (fiD (.ite a b c, bs))) (.ite a b c) (by intros; simp) (.lst (bs.map .str)) (.val (.lst (bs.map .str))) [c, b, a] (l.reverse.map fiD) c8 (by simp; omega)
    refine ⟨[a0, .lst (found.map .str), .lst (l.reverse.map fiD ++ [fiD (c, bs), fiD (b, bs), fiD (a, bs)]), .val (fiD (.ite a b c, bs)), .val (T.ite a b c).d, .val (.lst (bs.map .str)), .val (.lst (bs.map .str)), .lst [], c8'], top _, ?_, _, _, _, _, _, _, fi_st (by simp [fiO, addF]) (by simp [fiK]), by simp only [fiK, fiO, addF, List.cons_append, List.nil_append, fsz, List.map_cons, List.sum_cons, T.size] at *; omega, fun p hp => ?_⟩
    · simp [T.d, T.parts, fiD] at e q3
      simp [P.b_free_0, exec_whl, T.d, fiD, q3, hbs, e]
    · simp only [T.size] at hpi
      rcases List.mem_cons.mp hp with rfl | hp
      · show bs.length + a.size ≤ 900000; omega
      · rcases List.mem_cons.mp hp with rfl | hp
        · show bs.length + b.size ≤ 900000; omega
        · rcases List.mem_cons.mp hp with rfl | hp
          · show bs.length + c.size ≤ 900000; omega
          · exact hmem p hp
  | lett x a b =>
    obtain ⟨c6', c8', e⟩ := free_pushl Γ a0 (.lst (found.map .str)) (.val (fiD (.lett x a b, bs))) x a b (.lst (bs.map .str)) ((bs ++ [x]).map .str) (l.reverse.map fiD) c8 (by omega) a b
    refine ⟨[a0, .lst (found.map .str), .lst (l.reverse.map fiD ++ [fiD (b, bs ++ [x]), fiD (a, bs)]), .val (fiD (.lett x a b, bs)), .val (T.lett x a b).d, .val (.lst (bs.map .str)), c6', .lst [], c8'], top _, ?_, _, _, _, _, _, _, fi_st (by simp [fiO, addF]) (by simp [fiK]), by simp only [fiK, fiO, addF, List.cons_append, List.nil_append, fsz, List.map_cons, List.sum_cons, T.size] at *; omega, fun p hp => ?_⟩
    · simp [T.d, T.parts, fiD] at e q3
      simp [P.b_free_0, exec_whl, T.d, fiD, q3, hbs, e]
    · simp only [T.size] at hpi
      rcases List.mem_cons.mp hp with rfl | hp
      · show bs.length + a.size ≤ 900000; omega
      · rcases List.mem_cons.mp hp with rfl | hp
        · show (bs ++ [x]).length + b.size ≤ 900000; rw [List.length_append, List.length_singleton]; omega
        · exact hmem p hp
theorem free_run (h3 : ParG Γ) (t : T) (ht : t.size ≤ 400000) : ∃ s, execs Γ 9 [] 0 P.b_free [.val t.d, .un, .un, .un, .un, .un, .un, .un, .un] = some (.rt (.cl (.val (.lst (t.freeL.map .str)))) s) := by
  have q := loop_runs (stp := fiStp) (t := evT Γ (.v 2)) (b := execs Γ 9 [] 0 P.b_free_0) (FiRp (.val t.d)) (fun _ _ => .inr 0)
    (fun a s ⟨c3, c4, c5, c6, c7, c8, hs, _⟩ => by subst hs; simp)
    (fun i l a s ks a' hs e => by cases e; exact free_step Γ h3 _ i l a s hs)
    (fun i l a s hs e => nomatch e) (fi_run t [] [] [] _ (.done _)) [.val t.d, .lst [], .lst [fiD (t, [])], .un, .un, .un, .un, .un, .un]
    ⟨_, _, _, _, _, _, rfl, by simp [fsz]; omega, fun p hp => by rw [List.mem_singleton.mp hp]; simp; omega⟩
  obtain ⟨s', e, c3, c4, c5, c6, c7, c8, hs, _⟩ := q
  subst hs
  refine rtv_of ?_
  simp [fiD] at e
  simp [P.b_free, exec_whl, e]
  rfl
end
theorem free_g {Q : Nat → Option FD} {n : Nat} (h6 : Q 6 = some P.f_free) (h3 : Q 3 = some P.f_parts) (t : T) (ht : t.size ≤ 400000) : dc (envN Q (n + 2)) 6 [t.d] = some (.ok (.val (.lst (t.freeL.map .str)))) := by
  have p : ParG (envN Q (n + 1)) := fun t => by
    obtain ⟨s, e⟩ := parts_run (envN Q n) t
    exact dc_ok h3 rfl rfl rfl e
  obtain ⟨s, e⟩ := free_run (envN Q (n + 1)) p t ht
  exact dc_ok h6 rfl rfl rfl e
end Mi
namespace Mi
open PySem
/-! ### the drawn names are names, no two alike -/
theorem nodup_map {α : Type} {n : Nat} {f : Nat → α} (h : ∀ i j, i < n → j < n → f i = f j → i = j) : ((List.range n).map f).Nodup := by
  refine List.pairwise_map.mpr (List.Pairwise.imp_of_mem (R := fun a b => a < b) (fun {a b} ha hb hab e => ?_) List.pairwise_lt_range)
  have := h a b (List.mem_range.mp ha) (List.mem_range.mp hb) e
  omega
theorem all_ltr (l : List Nat) (h : ∀ c ∈ l, ∃ i, c = ltr i) : l.all letB = true := List.all_eq_true.mpr fun c hc => by
  obtain ⟨i, rfl⟩ := h c hc
  exact letB_ltr i
theorem wordsK_len : ∀ w ∈ wordsK, 2 ≤ w.length := by decide
theorem one_ok (c : Int) : nameOk [ltr c] = true := by
  unfold nameOk
  have : ¬ [ltr c] ∈ wordsK := fun h => by have := wordsK_len _ h; simp at this
  simp [this, letB_ltr]
theorem nameW_len (m c : Int) : (nameW m c).length = (others m c).length + 1 := by
  unfold nameW
  have := List.take_append_drop (nameAt m c) (others m c)
  have := congrArg List.length this
  simp at this ⊢
  omega
theorem name_ok (m c : Int) : nameOk (nameL m c) = true := by
  unfold nameL
  split
  · exact one_ok c
  · rename_i h
    have h : ¬ nameW m c ∈ wordsK := h
    have hl := nameW_len m c
    have ho := others_le m c
    have ha : (nameW m c).all letB = true := all_ltr _ fun x hx => by
      unfold nameW at hx
      have mo : ∀ y ∈ others m c, ∃ i, y = ltr i := fun y hy => by
        unfold others at hy
        obtain ⟨t, _, rfl⟩ := List.mem_map.mp hy
        exact ⟨_, rfl⟩
      rcases List.mem_append.mp hx with hx | hx
      · rcases List.mem_append.mp hx with hx | hx
        · exact mo x (List.mem_of_mem_take hx)
        · exact ⟨c, List.mem_singleton.mp hx⟩
      · exact mo x (List.mem_of_mem_drop hx)
    unfold nameOk
    rw [ha, hl]
    simp [h]
    omega
/-- the cells from which a law draws its names -/
def cellK (c0 j : Int) (k : Nat) : Int := c0 - c0 % 26 + (c0 + j * k) % 26
theorem name_inj (m c0 : Int) (r s : Int) (hr : 0 ≤ r ∧ r < 26) (hs : 0 ≤ s ∧ s < 26) (h : nameL m (c0 - c0 % 26 + r) = nameL m (c0 - c0 % 26 + s)) : r = s := by
  have e1 : ∀ r : Int, 0 ≤ r ∧ r < 26 → (c0 - c0 % 26 + r) / 26 = c0 / 26 := fun r hr => by omega
  have e2 : ∀ r : Int, 0 ≤ r ∧ r < 26 → (c0 - c0 % 26 + r) / 208 = c0 / 208 := fun r hr => by omega
  have eo : ∀ r : Int, 0 ≤ r ∧ r < 26 → others m (c0 - c0 % 26 + r) = others m c0 := fun r hr => by unfold others; rw [e1 r hr, e2 r hr]
  have ea : ∀ r : Int, 0 ≤ r ∧ r < 26 → nameAt m (c0 - c0 % 26 + r) = nameAt m c0 := fun r hr => by unfold nameAt; rw [eo r hr, e2 r hr]
  have ew : ∀ r : Int, 0 ≤ r ∧ r < 26 → nameW m (c0 - c0 % 26 + r) = (others m c0).take (nameAt m c0) ++ [ltr (c0 - c0 % 26 + r)] ++ (others m c0).drop (nameAt m c0) := fun r hr => by unfold nameW; rw [eo r hr, ea r hr]
  have fin : ltr (c0 - c0 % 26 + r) = ltr (c0 - c0 % 26 + s) → r = s := fun z => by unfold ltr at z; omega
  have lw : ∀ r : Int, 0 ≤ r ∧ r < 26 → (nameW m (c0 - c0 % 26 + r)).length = (others m c0).length + 1 := fun r hr => by rw [nameW_len, eo r hr]
  unfold nameL at h
  split at h <;> split at h
  · exact fin (by simpa using h)
  · rename_i h1 h2
    have a := wordsK_len _ h1
    have b : 1 = (others m c0).length + 1 := by rw [← lw s hs]; exact congrArg List.length h
    rw [lw r hr] at a
    omega
  · rename_i h1 h2
    have a := wordsK_len _ h2
    have b : (others m c0).length + 1 = 1 := by rw [← lw r hr]; exact congrArg List.length h
    rw [lw s hs] at a
    omega
  · rw [ew r hr, ew s hs] at h
    have := List.append_cancel_right h
    have := List.append_cancel_left this
    exact fin (by simpa using this)
theorem cell_inj {c0 j : Int} (hj : j = 7 ∨ j = 5) {a b : Nat} (ha : a < 26) (hb : b < 26) (h : (c0 + j * a) % 26 = (c0 + j * b) % 26) : a = b := by
  rcases hj with rfl | rfl <;> omega
theorem names_nodup (m c0 j : Int) (hj : j = 7 ∨ j = 5) (n : Nat) (hn : n ≤ 26) : ((List.range n).map fun k => nameL m (cellK c0 j k)).Nodup := nodup_map fun a b ha hb h => cell_inj hj (by omega) (by omega) (name_inj m c0 _ _ (by omega) (by omega) h)
/-! the family of names -/
def kinW' (r : Nat) : List Nat := (List.range 8).map fun k => 97 + (r + 3 * k) % 26
theorem kinW_eq (c : Int) : kinW c = kinW' (c % 26).toNat := by
  unfold kinW kinW'
  refine List.map_congr_left fun k _ => ?_
  unfold ltr
  omega
def kinT' (r : Nat) : List (List Nat) := (List.range 8).map fun k => (kinW' r).drop k ++ (kinW' r).take k
def kinL' (r : Nat) (p : Bool) (many : Nat) : List (List Nat) := if p && decide (many < 9) then (List.range many).map fun k => (kinW' r).take (k + 1) else (kinT' r ++ (kinT' r).map List.reverse).take many
theorem kinL_eq (c : Int) (many : Nat) : kinL c many = kinL' (c % 26).toNat (decide (c / 26 % 2 = 0)) many := by
  unfold kinL kinL' kinT kinT'
  rw [kinW_eq]
  by_cases h1 : c / 26 % 2 = 0 <;> by_cases h2 : many < 9 <;> simp [h1, h2]
def kinGood (l : List (List Nat)) : Bool := l.all nameOk && decide l.Nodup
theorem kin_all : ∀ r : Fin 26, ∀ p : Bool, kinGood (kinL' r.val p 4) = true ∧ kinGood (kinL' r.val p 6) = true ∧ kinGood (kinL' r.val p 12) = true := by decide +kernel
theorem kin_ok (c : Int) (many : Nat) (h : many = 4 ∨ many = 6 ∨ many = 12) : (∀ x ∈ kinL c many, nameOk x = true) ∧ (kinL c many).Nodup := by
  rw [kinL_eq]
  have := kin_all ⟨(c % 26).toNat, by omega⟩ (decide (c / 26 % 2 = 0))
  dsimp only at this
  have key : kinGood (kinL' (c % 26).toNat (decide (c / 26 % 2 = 0)) many) = true := by rcases h with rfl | rfl | rfl <;> simp [this]
  unfold kinGood at key
  rw [Bool.and_eq_true, decide_eq_true_eq] at key
  exact ⟨List.all_eq_true.mp key.1, key.2⟩
/-! ### a tree of given names -/
def T.inL (L : List (List Nat)) : T → Prop
  | .num i => numOk i = true
  | .name x => ∃ w ∈ L, x = St w
  | .fn x b => (∃ w ∈ L, x = St w) ∧ b.inL L
  | .call a b => a.inL L ∧ b.inL L
  | .plus a b => a.inL L ∧ b.inL L
  | .less a b => a.inL L ∧ b.inL L
  | .ite a b c => a.inL L ∧ b.inL L ∧ c.inL L
  | .lett x a b => (∃ w ∈ L, x = St w) ∧ a.inL L ∧ b.inL L
theorem inL_good {L : List (List Nat)} (hL : ∀ x ∈ L, nameOk x = true) : ∀ t : T, t.inL L → t.good := by
  have k : ∀ x : Str, (∃ w ∈ L, x = St w) → nameOk x.cps.toList = true := fun x ⟨w, hw, e⟩ => by rw [e, st_list]; exact hL w hw
  intro t
  induction t with
  | num i => exact fun h => h
  | name x => exact fun h => k x h
  | fn x b ih => exact fun h => ⟨k x h.1, ih h.2⟩
  | call a b h1 h2 => exact fun h => ⟨h1 h.1, h2 h.2⟩
  | plus a b h1 h2 => exact fun h => ⟨h1 h.1, h2 h.2⟩
  | less a b h1 h2 => exact fun h => ⟨h1 h.1, h2 h.2⟩
  | ite a b c h1 h2 h3 => exact fun h => ⟨h1 h.1, h2 h.2.1, h3 h.2.2⟩
  | lett x a b h1 h2 => exact fun h => ⟨k x h.1, h1 h.2.1, h2 h.2.2⟩
theorem fl_names {L : List (List Nat)} : ∀ (t : T), t.inL L → ∀ bs x, some x ∈ T.fl bs t → ∃ w ∈ L, x = St w := by
  intro t
  induction t with
  | num i => intro h bs x hx; simp [T.fl] at hx
  | name y =>
    intro h bs x hx
    simp only [T.fl, List.mem_singleton] at hx
    split at hx
    · cases hx
    · cases hx; exact h
  | fn y b ih =>
    intro h bs x hx
    simp only [T.fl, List.mem_cons] at hx
    rcases hx with hx | hx
    · cases hx
    · exact ih h.2 _ x hx
  | call a b h1 h2 =>
    intro h bs x hx
    simp only [T.fl, List.mem_cons, List.mem_append] at hx
    rcases hx with hx | hx | hx
    · cases hx
    · exact h1 h.1 _ x hx
    · exact h2 h.2 _ x hx
  | plus a b h1 h2 =>
    intro h bs x hx
    simp only [T.fl, List.mem_cons, List.mem_append] at hx
    rcases hx with hx | hx | hx
    · cases hx
    · exact h1 h.1 _ x hx
    · exact h2 h.2 _ x hx
  | less a b h1 h2 =>
    intro h bs x hx
    simp only [T.fl, List.mem_cons, List.mem_append] at hx
    rcases hx with hx | hx | hx
    · cases hx
    · exact h1 h.1 _ x hx
    · exact h2 h.2 _ x hx
  | ite a b c h1 h2 h3 =>
    intro h bs x hx
    simp only [T.fl, List.mem_cons, List.mem_append] at hx
    rcases hx with hx | hx | hx | hx
    · cases hx
    · exact h1 h.1 _ x hx
    · exact h2 h.2.1 _ x hx
    · exact h3 h.2.2 _ x hx
  | lett y a b h1 h2 =>
    intro h bs x hx
    simp only [T.fl, List.mem_cons, List.mem_append] at hx
    rcases hx with hx | hx | hx
    · cases hx
    · exact h1 h.2.1 _ x hx
    · exact h2 h.2.2 _ x hx
/-! ### where a name stands free first -/
def atO (x : Str) : List (Option Str) → Option Nat
  | [] => none
  | o :: r => if o = some x then some 0 else (atO x r).map (· + 1)
theorem atO_app (x : Str) : ∀ a b : List (Option Str), atO x (a ++ b) = match atO x a with
    | some k => some k
    | none => (atO x b).map (· + a.length)
  | [], b => by show atO x b = (atO x b).map (· + 0); cases atO x b <;> rfl
  | o :: r, b => by
    show (if o = some x then some 0 else (atO x (r ++ b)).map (· + 1)) = match (if o = some x then some 0 else (atO x r).map (· + 1)) with
      | some k => some k
      | none => (atO x b).map (· + (o :: r).length)
    split
    · rfl
    · rw [atO_app x r b]
      cases atO x r with
      | some k => rfl
      | none =>
        simp only [Option.map_none]
        cases atO x b with
        | none => rfl
        | some k => simp only [Option.map_some, List.length_cons]; congr 1
theorem atO_mem {x : Str} : ∀ {l : List (Option Str)}, (atO x l).isSome = true ↔ some x ∈ l
  | [] => by simp [atO]
  | o :: r => by
    unfold atO
    split
    · rename_i h; simp [h]
    · rename_i h
      have ih := atO_mem (x := x) (l := r)
      have h' : ¬ some x = o := fun z => h z.symm
      simp [ih, h']
theorem atO_lt {x : Str} {k : Nat} : ∀ {l : List (Option Str)}, atO x l = some k → k < l.length
  | [], h => nomatch h
  | o :: r, h => by
    unfold atO at h
    split at h
    · cases h; simp
    · cases e : atO x r with
      | none => rw [e] at h; cases h
      | some j =>
        rw [e] at h; cases h
        have := atO_lt e
        simp; omega
theorem atO_get {x : Str} {k : Nat} : ∀ {l : List (Option Str)}, atO x l = some k → l[k]? = some (some x)
  | [], h => nomatch h
  | o :: r, h => by
    unfold atO at h
    split at h
    · rename_i e; cases h; simp [e]
    · cases e : atO x r with
      | none => rw [e] at h; cases h
      | some j =>
        rw [e] at h; cases h
        simpa using atO_get e
theorem snoc_ind {α : Type} {P : List α → Prop} (h0 : P []) (h1 : ∀ l a, P l → P (l ++ [a])) (l : List α) : P l := by
  have : ∀ l : List α, P l.reverse := fun l => by
    induction l with
    | nil => exact h0
    | cons a l ih => rw [List.reverse_cons]; exact h1 _ a ih
  have q := this l.reverse
  rwa [List.reverse_reverse] at q
/-- first come, each once: what has come is in order of its first places -/
theorem addF_fold : ∀ (l : List (Option Str)), (l.foldl addF []).Nodup ∧ (∀ x, x ∈ l.foldl addF [] ↔ some x ∈ l) ∧ (l.foldl addF []).Pairwise fun x y => ∃ i j, atO x l = some i ∧ atO y l = some j ∧ i < j := by
  intro l
  induction l using snoc_ind with
  | h0 => simp
  | h1 l o ih =>
    obtain ⟨h1, h2, h3⟩ := ih
    rw [List.foldl_append]
    show (addF (l.foldl addF []) o).Nodup ∧ _ ∧ _
    have mono : ∀ x i, atO x l = some i → atO x (l ++ [o]) = some i := fun x i h => by rw [atO_app, h]
    have pw : (l.foldl addF []).Pairwise fun x y => ∃ i j, atO x (l ++ [o]) = some i ∧ atO y (l ++ [o]) = some j ∧ i < j := h3.imp fun {x y} ⟨i, j, a, b, c⟩ => ⟨i, j, mono x i a, mono y j b, c⟩
    cases o with
    | none => exact ⟨h1, fun x => by show x ∈ l.foldl addF [] ↔ _; rw [h2]; simp, pw⟩
    | some x =>
      by_cases hx : x ∈ l.foldl addF []
      · have e : addF (l.foldl addF []) (some x) = l.foldl addF [] := if_pos hx
        show (addF (l.foldl addF []) (some x)).Nodup ∧ (∀ y, y ∈ addF (l.foldl addF []) (some x) ↔ _) ∧ (addF (l.foldl addF []) (some x)).Pairwise _
        rw [e]
        refine ⟨h1, fun y => ?_, pw⟩
        rw [h2]
        simp only [List.mem_append, List.mem_singleton]
        refine ⟨.inl, fun z => z.elim id fun z => ?_⟩
        cases z
        exact (h2 x).mp hx
      · have e : addF (l.foldl addF []) (some x) = l.foldl addF [] ++ [x] := if_neg hx
        show (addF (l.foldl addF []) (some x)).Nodup ∧ (∀ y, y ∈ addF (l.foldl addF []) (some x) ↔ _) ∧ (addF (l.foldl addF []) (some x)).Pairwise _
        rw [e]
        refine ⟨List.nodup_append.mpr ⟨h1, by simp, fun a ha b hb z => ?_⟩, fun y => ?_, List.pairwise_append.mpr ⟨pw, by simp, fun a ha b hb => ?_⟩⟩
        · rw [List.mem_singleton.mp hb] at z
          subst z
          exact hx ha
        · simp only [List.mem_append, List.mem_singleton, h2]
          constructor
          · rintro (z | rfl)
            · exact .inl z
            · exact .inr rfl
          · rintro (z | z)
            · exact .inl z
            · cases z; exact .inr rfl
        · rw [List.mem_singleton.mp hb]
          obtain ⟨i, hi⟩ := Option.isSome_iff_exists.mp (atO_mem.mpr ((h2 a).mp ha))
          have hn : atO x l = none := by
            cases q : atO x l with
            | none => rfl
            | some k => exact absurd ((h2 x).mpr (atO_mem.mp (by rw [q]; rfl))) hx
          exact ⟨i, l.length, mono a i hi, by rw [atO_app, hn]; show (atO x [some x]).map (· + l.length) = _; simp [atO], atO_lt hi⟩
end Mi
namespace Mi
open PySem
/-! ### piles of trees -/
theorem list_end {α : Type} (l : List α) : l = [] ∨ ∃ i t, l = i ++ [t] := by
  rcases List.eq_nil_or_concat l with h | ⟨i, t, h⟩
  · exact .inl h
  · exact .inr ⟨i, t, by rw [h, List.concat_eq_append]⟩
abbrev szs (l : List T) : Nat := (l.map T.size).sum
/-- a name of the list, by any place -/
theorem ix_names {L : List (List Nat)} {n : Int} (h : n = L.length) (h0 : 0 < n) (i : Int) : ∃ x, ixop (.val (.lst (strD L))) (.int (i % n)) = some (.str (St x)) ∧ x ∈ L := by
  have b0 := Int.emod_nonneg i (Int.ne_of_gt h0)
  have b1 := Int.emod_lt_of_pos i h0
  have e : ((i % n).toNat : Int) = i % n := Int.toNat_of_nonneg b0
  have hk : (i % n).toNat < L.length := by omega
  refine ⟨L[(i % n).toNat], ?_, List.getElem_mem hk⟩
  have q := ix_vlst (xs := strD L) (k := (i % n).toNat) (x := .str (St L[(i % n).toNat])) (by unfold strD; rw [List.getElem?_map, List.getElem?_eq_getElem hk]; rfl)
  rw [e] at q
  exact q
theorem strD_len (L : List (List Nat)) : (strD L).length = L.length := by unfold strD; rw [List.length_map]
/-- a number of up to sixty figures, by any cell -/
theorem wide_num {B : Int} (hB : ∀ i : Int, -B < i ∧ i < B → numOk i = true) (h0 : 0 < B) (c : Int) : numOk (c % (2 * B - 1) - B + 1) = true := by
  have m1 : 0 ≤ c % (2 * B - 1) := Int.emod_nonneg _ (by omega)
  have m2 : c % (2 * B - 1) < 2 * B - 1 := Int.emod_lt_of_pos _ (by omega)
  exact hB _ (by omega)
theorem mod_num {B : Int} (hB : ∀ i : Int, -B < i ∧ i < B → numOk i = true) (h0 : 0 < B) (c : Int) : numOk (c % B) = true := by
  have m1 : 0 ≤ c % B := Int.emod_nonneg _ (by omega)
  have m2 : c % B < B := Int.emod_lt_of_pos _ (by omega)
  exact hB _ (by omega)
theorem small_num {B : Int} (hB : ∀ i : Int, -B < i ∧ i < B → numOk i = true) (h0 : 1000 < B) {i : Int} (h : -1000 ≤ i ∧ i ≤ 1000) : numOk i = true := hB i (by omega)
theorem numB : (∀ i : Int, -(10 ^ 60) < i ∧ i < 10 ^ 60 → numOk i = true) ∧ (1000 : Int) < 10 ^ 60 := by
  refine ⟨fun i h => ?_, by decide⟩
  unfold numOk
  refine decide_eq_true ?_
  split <;> omega
def inLs (L : List (List Nat)) (l : List T) : Prop := ∀ t ∈ l, t.inL L
theorem inLs_app {L : List (List Nat)} {a b : List T} : inLs L (a ++ b) ↔ inLs L a ∧ inLs L b := by
  unfold inLs
  simp only [List.mem_append]
  exact ⟨fun h => ⟨fun t z => h t (.inl z), fun t z => h t (.inr z)⟩, fun h t z => z.elim (h.1 t) (h.2 t)⟩
theorem inLs_one {L : List (List Nat)} {t : T} : inLs L [t] ↔ t.inL L := by unfold inLs; simp
theorem inLs_cons {L : List (List Nat)} {t : T} {l : List T} : inLs L (t :: l) ↔ t.inL L ∧ inLs L l := by unfold inLs; simp
theorem inLs_nil {L : List (List Nat)} : inLs L [] := by unfold inLs; simp
section
variable {L : List (List Nat)} {x : Str} {a b c : T}
theorem iNa (h : ∃ w ∈ L, x = St w) : (T.name x).inL L := h
theorem iNu {i : Int} (h : numOk i = true) : (T.num i).inL L := h
theorem iFn (h : ∃ w ∈ L, x = St w) (hb : b.inL L) : (T.fn x b).inL L := ⟨h, hb⟩
theorem iCa (ha : a.inL L) (hb : b.inL L) : (T.call a b).inL L := ⟨ha, hb⟩
theorem iPl (ha : a.inL L) (hb : b.inL L) : (T.plus a b).inL L := ⟨ha, hb⟩
theorem iLe (ha : a.inL L) (hb : b.inL L) : (T.less a b).inL L := ⟨ha, hb⟩
theorem iIf (ha : a.inL L) (hb : b.inL L) (hc : c.inL L) : (T.ite a b c).inL L := ⟨ha, hb, hc⟩
theorem iLt (h : ∃ w ∈ L, x = St w) (ha : a.inL L) (hb : b.inL L) : (T.lett x a b).inL L := ⟨h, ha, hb⟩
end
end Mi
namespace Mi
open PySem
/-! ### nodes are counted -/
def cnStp (t : T) (k : Nat) : Option (List T × Nat) := some (t.parts.reverse, k + 1)
theorem cn_run (t : T) : ∀ (l : List T) (k : Nat) (r : Sum Nat (T × Nat)), Runs cnStp l (k + t.size) r → Runs cnStp (t :: l) k r := by
  have two : ∀ {n a b : T}, n.parts = [a, b] → n.size = a.size + b.size + 1 → (∀ (l : List T) (k : Nat) (r : Sum Nat (T × Nat)), Runs cnStp l (k + a.size) r → Runs cnStp (a :: l) k r) → (∀ (l : List T) (k : Nat) (r : Sum Nat (T × Nat)), Runs cnStp l (k + b.size) r → Runs cnStp (b :: l) k r) → ∀ (l : List T) (k : Nat) (r : Sum Nat (T × Nat)), Runs cnStp l (k + n.size) r → Runs cnStp (n :: l) k r := fun {n a b} hp hs ha hb l k r h => by
    refine .step (ks := [b, a]) (by unfold cnStp; rw [hp]; rfl) ?_
    exact hb _ _ _ (ha _ _ _ (by rw [show k + 1 + b.size + a.size = k + n.size by omega]; exact h))
  induction t with
  | num i => exact fun l k r h => .step (ks := []) rfl h
  | name x => exact fun l k r h => .step (ks := []) rfl h
  | fn x b ih => exact fun l k r h => .step (ks := [b]) rfl (ih _ _ _ (by rw [show k + 1 + b.size = k + (T.fn x b).size by simp only [T.size]; omega]; exact h))
  | call a b h1 h2 => exact two rfl rfl h1 h2
  | plus a b h1 h2 => exact two rfl rfl h1 h2
  | less a b h1 h2 => exact two rfl rfl h1 h2
  | lett x a b h1 h2 => exact two rfl rfl h1 h2
  | ite a b c h1 h2 h3 => exact fun l k r h => .step (ks := [c, b, a]) rfl (h3 _ _ _ (h2 _ _ _ (h1 _ _ _ (by rw [show k + 1 + c.size + b.size + a.size = k + (T.ite a b c).size by simp only [T.size]; omega]; exact h))))
theorem sz_parts (t : T) : szs t.parts.reverse + 1 = t.size := by
  cases t <;> simp [T.parts, szs, T.size] <;> omega
theorem len_szs : ∀ l : List T, l.length ≤ szs l
  | [] => Nat.le_refl _
  | p :: l => by
    have := len_szs l
    have := size_pos p
    simp only [szs, List.map_cons, List.sum_cons, List.length_cons] at *
    omega
theorem szs_app (a b : List T) : szs (a ++ b) = szs a + szs b := by simp [szs]
def NoRp (a0 : Cl) (l : List T) (k : Nat) (s : S) : Prop := s = [a0, .lst (l.reverse.map T.d), .val (.int k)] ∧ szs l ≤ 900000
theorem nodes_step (Γ : Env) (h3 : ParG Γ) (a0 : Cl) (i : T) (l : List T) (k : Nat) (s : S) (hs : NoRp a0 (i :: l) k s) :
    ∃ s', evT Γ (.v 1) s = some (.ok true s) ∧ execs Γ 3 [] 0 P.b_nodes_0 s = some (.nx s') ∧ NoRp a0 (i.parts.reverse ++ l) (k + 1) s' := by
  obtain ⟨rfl, hb⟩ := hs
  have hl := len_szs l
  have hp := parts_le i
  have sp := sz_parts i
  simp only [szs, List.map_cons, List.sum_cons] at hb hl
  have e1 : (i :: l).reverse.map T.d = l.reverse.map T.d ++ [i.d] := by simp
  have h1 : (l.reverse.map T.d ++ i.parts.map T.d).length ≤ sizeLine := Nat.le_of_lt (Nat.lt_of_le_of_lt (by simp; omega : _ ≤ 1000000) million)
  rw [e1]
  refine ⟨[a0, .lst (l.reverse.map T.d ++ i.parts.map T.d), .val (.int ((k + 1 : Nat) : Int))], by simp, ?_, by simp, by rw [szs_app]; simp only [szs] at *; omega⟩
  simp at h1
  simp [P.b_nodes_0, h3 i, h1]
theorem nodes_g {Q : Nat → Option FD} {n : Nat} (h5 : Q 5 = some P.f_nodes) (h3 : Q 3 = some P.f_parts) (t : T) (ht : t.size ≤ 400000) : dc (envN Q (n + 2)) 5 [t.d] = some (.ok (.val (.int (t.size : Nat)))) := by
  have p : ParG (envN Q (n + 1)) := par_g h3
  have q := loop_runs (stp := cnStp) (t := evT (envN Q (n + 1)) (.v 1)) (b := execs (envN Q (n + 1)) 3 [] 0 P.b_nodes_0) (NoRp (.val t.d)) (fun _ _ => .inr 0)
    (fun a s ⟨hs, _⟩ => by subst hs; simp)
    (fun i l a s ks a' hs e => by cases e; exact nodes_step _ p _ i l a s hs)
    (fun i l a s hs e => nomatch e) (cn_run t [] 0 _ (.done _)) [.val t.d, .lst [t.d], .val (.int 0)] ⟨by simp, by simp [szs]; omega⟩
  obtain ⟨s', e, hs, _⟩ := q
  subst hs
  obtain ⟨s, e⟩ := rtv_of (o := execs (envN Q (n + 1)) 3 [] 0 P.b_nodes [.val t.d, .un, .un]) (a := .cl (.val (.int (t.size : Nat)))) (by
    rw [Nat.zero_add] at e
    simp at e
    simp [P.b_nodes, exec_whl, e])
  exact dc_ok h5 rfl rfl rfl e
end Mi
namespace Mi
open PySem
/-! ### methods, as simp reckons them -/
theorem lent_dat : ∀ (ds : List D) (i : Nat), lent (datA ds) i = []
  | [], i => rfl
  | d :: ds, i => by show (if (Cl.val d).own = true then _ else lent (datA ds) (i + 1)) = []; rw [if_neg (by intro z; cases z)]; exact lent_dat ds (i + 1)
theorem cls_dat : ∀ ds : List D, clsOf (datA ds) = some (ds.map Cl.val)
  | [] => rfl
  | d :: ds => by
    show (clsOf (datA ds)).map (fun cs => Cl.val d :: cs) = _
    rw [cls_dat ds]; rfl
theorem ok_dat (n : Nat) (s : S) : ∀ (ds : List D) (i : Nat), okOuts n s (datA ds) i = true
  | [], i => rfl
  | d :: ds, i => by show (true && okOuts n s (datA ds) (i + 1)) = true; rw [ok_dat n s ds]; rfl
abbrev mEntry (fd : FD) (xs : List Cl) (ds : List D) : S := .un :: ds.map Cl.val ++ List.replicate (fd.n - fd.np) .un ++ (xs ++ List.replicate (fd.nf - xs.length) .un)
section
variable {P : Nat → Option FD} {n f : Nat} {fd : FD} {xs : List Cl} {ds : List D} {s : S}
theorem meth_entry (hm : fd.meth = true) (hl : ds.length + 1 = fd.np) (hx : xs.length ≤ fd.nf) : entry fd (.obj fd.oc xs :: datA ds) = some (mEntry fd xs ds) := by
  unfold entry
  rw [hm]
  dsimp only
  rw [cls_dat, Option.bind_some, if_pos ⟨rfl, hx, by rw [List.length_map]; exact hl⟩]
theorem meth_lent : lent (.obj fd.oc xs :: datA ds) 0 = [0] := by
  show 0 :: lent (datA ds) 1 = [0]
  rw [lent_dat]
theorem meth_nx (hf : P f = some fd) (hm : fd.meth = true) (hl : ds.length + 1 = fd.np) (hx : xs.length ≤ fd.nf) (h : execs (envN P n) fd.n [0] fd.oc fd.body (mEntry fd xs ds) = some (.nx s)) (hz : ((ghosts fd.n s).all fun c => c.fz.isSome) = true) :
    ∃ o, envN P (n + 1) f (.obj fd.oc xs :: datA ds) = some (.ok (.cl (.val .non)) (.obj fd.oc (ghosts fd.n s) :: o)) := by
  refine ⟨outs s (fd.np - 1) 1, ?_⟩
  show (P f).bind (fun fd => runF (envN P n) fd _) = _
  rw [hf, Option.bind_some]
  unfold runF
  rw [meth_entry hm hl hx, Option.bind_some, meth_lent, h]
  dsimp only
  have e : okOuts fd.n s (.obj fd.oc xs :: datA ds) 0 = true := by
    show (((ghosts fd.n s).all fun c => c.fz.isSome) && okOuts fd.n s (datA ds) 1) = true
    rw [hz, ok_dat]; rfl
  rw [e, if_pos rfl]
  unfold outsOf
  rw [hm]
theorem meth_ex {k : Nat} (hf : P f = some fd) (hm : fd.meth = true) (hl : ds.length + 1 = fd.np) (hx : xs.length ≤ fd.nf) (h : execs (envN P n) fd.n [0] fd.oc fd.body (mEntry fd xs ds) = some (.ex k s)) :
    envN P (n + 1) f (.obj fd.oc xs :: datA ds) = some (.ex k) := by
  show (P f).bind (fun fd => runF (envN P n) fd _) = _
  rw [hf, Option.bind_some]
  unfold runF
  rw [meth_entry hm hl hx, Option.bind_some, meth_lent, h]
end
@[simp] theorem isi_obj (xs : List D) (t : Ty) : isi (.val (.obj 0 xs)) t = some (t == .cls 0) := rfl
/-! ### values -/
inductive Va where
  | num (i : Int)
  | fn (x : Str) (b : T) (ns : List Str) (hs : List Va)
def Va.d : Va → D
  | .num i => .int i
  | .fn x b ns hs => .obj 0 [.str x, b.d, .lst (ns.map .str), .lst (hs.attach.map fun ⟨v, _⟩ => v.d)]
@[simp] theorem Va.d_num (i : Int) : (Va.num i).d = .int i := by rw [Va.d]
theorem Va.d_fn (x : Str) (b : T) (ns : List Str) (hs : List Va) : (Va.fn x b ns hs).d = .obj 0 [.str x, b.d, .lst (ns.map .str), .lst (hs.map Va.d)] := by
  rw [Va.d]
  have e : (hs.attach.map fun (q : { v // v ∈ hs }) => match q with | ⟨v, _⟩ => v.d) = hs.map Va.d := by
    conv => rhs; rw [← List.attach_map_subtype_val hs, List.map_map]
    rfl
  rw [e]
/-- what a name stands for: the innermost one counts -/
def lkp (x : Str) : List Str → List Va → Option Va
  | n :: ns, h :: hs => match lkp x ns hs with
    | some v => some v
    | none => if n = x then some h else none
  | _, _ => none
theorem lkp_snoc (x : Str) (h : Va) : ∀ (ns : List Str) (hs : List Va) (y : Str), ns.length = hs.length → lkp x (ns ++ [y]) (hs ++ [h]) = if y = x then some h else lkp x ns hs
  | [], [], y, _ => by simp [lkp]
  | n :: ns, k :: hs, y, hl => by
    rw [List.cons_append, List.cons_append]
    show (match lkp x (ns ++ [y]) (hs ++ [h]) with | some v => some v | none => if n = x then some k else none) = _
    rw [lkp_snoc x h ns hs y (by simpa using hl)]
    by_cases e : y = x
    · rw [if_pos e, if_pos e]
    · rw [if_neg e, if_neg e]; rfl
  | [], _ :: _, _, hl => by simp at hl
  | _ :: _, [], _, hl => by simp at hl
theorem lkp_some {x : Str} : ∀ {ns : List Str} {hs : List Va}, ns.length = hs.length → x ∈ ns → ∃ v, lkp x ns hs = some v ∧ v ∈ hs
  | n :: ns, h :: hs, hl, hx => by
    show ∃ v, (match lkp x ns hs with | some v => some v | none => if n = x then some h else none) = some v ∧ _
    cases e : lkp x ns hs with
    | some v =>
      by_cases hn : x ∈ ns
      · obtain ⟨v', e', hv⟩ := lkp_some (x := x) (ns := ns) (hs := hs) (by simpa using hl) hn
        rw [e] at e'; cases e'
        exact ⟨v, rfl, List.mem_cons_of_mem _ hv⟩
      · exfalso
        have key : ∀ (ns : List Str) (hs : List Va), x ∉ ns → lkp x ns hs = none := fun ns => by
          induction ns with
          | nil => intro hs _; cases hs <;> rfl
          | cons m ns ih =>
            intro hs hm
            cases hs with
            | nil => rfl
            | cons k hs =>
              show (match lkp x ns hs with | some v => some v | none => if m = x then some k else none) = none
              rw [ih hs fun z => hm (List.mem_cons_of_mem _ z)]
              exact if_neg fun z => hm (by rw [z]; exact List.mem_cons_self)
        rw [key ns hs hn] at e; cases e
    | none =>
      rcases List.mem_cons.mp hx with rfl | hn
      · exact ⟨h, if_pos rfl, List.mem_cons_self⟩
      · obtain ⟨v', e', _⟩ := lkp_some (x := x) (ns := ns) (hs := hs) (by simpa using hl) hn
        rw [e] at e'; cases e'
  | [], _, _, hx => nomatch hx
/-! ### looked -/
section
variable (Γ : Env)
theorem looked_loop (x : Str) (v : Va) : ∀ (k : Nat) (ns ms : List Str) (hs gs : List Va), ms.length = k → ns.length = hs.length → ms.length = gs.length → lkp x (ns ++ ms) (hs ++ gs) = some v → x ∈ ns ++ ms → x ∉ ms → ns ≠ [] →
    ∃ j : Nat, loop (evT Γ (.cmp .ne (.ix (.v 1) (.v 3)) (.v 0))) (execs Γ 4 [] 0 P.b_looked_0) [.val (.str x), .val (.lst ((ns ++ ms).map .str)), .val (.lst ((hs ++ gs).map Va.d)), .val (.int ((ns.length : Int) - 1))] = some (.nx [.val (.str x), .val (.lst ((ns ++ ms).map .str)), .val (.lst ((hs ++ gs).map Va.d)), .val (.int j)]) ∧ (hs ++ gs)[j]? = some v := by
  intro k ns
  induction ns using snoc_ind generalizing k with
  | h0 => exact fun ms hs gs _ _ _ _ _ _ hn => absurd rfl hn
  | h1 ns y ih =>
    intro ms hs gs hk hl hl2 hv hx hm _
    rcases list_end hs with rfl | ⟨hs, h, rfl⟩
    · simp at hl
    rw [List.length_append, List.length_append, List.length_singleton, List.length_singleton] at hl
    have hl' : ns.length = hs.length := by omega
    have gy : ((ns ++ [y] ++ ms).map D.str)[ns.length]? = some (.str y) := by
      rw [List.getElem?_map, List.append_assoc, List.getElem?_append_right (Nat.le_refl _), Nat.sub_self]; rfl
    have iy := ix_vlst gy
    have e1 : ((ns ++ [y]).length : Int) - 1 = (ns.length : Nat) := by rw [List.length_append, List.length_singleton]; omega
    rw [e1]
    by_cases e : y = x
    · subst e
      refine ⟨ns.length, loop_end ?_, ?_⟩
      · simp at iy
        simp [iy]
      · have gone : ∀ (ms : List Str) (gs : List Va), ms.length = gs.length → y ∉ ms → lkp y (ns ++ [y] ++ ms) (hs ++ [h] ++ gs) = lkp y (ns ++ [y]) (hs ++ [h]) := fun ms => by
          induction ms using snoc_ind with
          | h0 => intro gs hl _; cases gs with
            | nil => rw [List.append_nil, List.append_nil]
            | cons _ _ => simp at hl
          | h1 ms z ihm =>
            intro gs hl hm
            rcases list_end gs with rfl | ⟨gs, g, rfl⟩
            · simp at hl
            rw [← List.append_assoc, ← List.append_assoc, lkp_snoc _ _ _ _ _ (by simp at hl ⊢; omega), if_neg (fun z' => hm (by rw [z']; simp)), ihm gs (by simp at hl; omega) fun z' => hm (List.mem_append_left _ z')]
        rw [gone ms gs hl2 hm, lkp_snoc _ _ _ _ _ hl', if_pos rfl] at hv
        cases hv
        rw [List.append_assoc, List.getElem?_append_right (by omega), show ns.length - hs.length = 0 by omega]; rfl
    · have hne : ns ≠ [] := by
        rintro rfl
        simp only [List.nil_append, List.mem_append, List.mem_singleton] at hx
        rcases hx with z | z
        · exact e z.symm
        · exact hm z
      obtain ⟨j, q1, q2⟩ := ih (k + 1) (y :: ms) hs (h :: gs) (by rw [List.length_cons, hk]) hl' (by rw [List.length_cons, List.length_cons, hl2]) (by simpa using hv) (by simpa using hx) (fun z => by
        rcases List.mem_cons.mp z with z | z
        · exact e z.symm
        · exact hm z) hne
      have a1 : ns ++ [y] ++ ms = ns ++ y :: ms := by simp
      have a2 : hs ++ [h] ++ gs = hs ++ h :: gs := by simp
      rw [a1] at iy ⊢
      rw [a2]
      refine ⟨j, ?_, q2⟩
      rw [← q1]
      have e' : (y == x) = false := by simp [e]
      refine loop_turn (s1 := [.val (.str x), .val (.lst ((ns ++ y :: ms).map .str)), .val (.lst ((hs ++ h :: gs).map Va.d)), .val (.int (ns.length : Nat))]) ?_ ?_
      · simp at iy
        simp [iy, e, e']
      · simp [P.b_looked_0]
theorem looked_run (x : Str) (ns : List Str) (hs : List Va) (v : Va) (hl : ns.length = hs.length) (hx : x ∈ ns) (hv : lkp x ns hs = some v) (hn : ns.length ≤ 1000000) :
    ∃ s, execs Γ 4 [] 0 P.b_looked [.val (.str x), .val (.lst (ns.map .str)), .val (.lst (hs.map Va.d)), .un] = some (.rt (.cl (.val v.d)) s) := by
  obtain ⟨j, e, g⟩ := looked_loop Γ x v 0 ns [] hs [] rfl hl rfl (by simpa using hv) (by simpa using hx) (fun z => nomatch z) (fun z => by rw [z] at hx; cases hx)
  rw [List.append_nil, List.append_nil] at e
  rw [List.append_nil] at g
  have gj : (hs.map Va.d)[j]? = some v.d := by rw [List.getElem?_map, g]; rfl
  have ij := ix_vlst gj
  refine rtv_of ?_
  simp [P.b_looked, exec_whl, e, ij]
end
theorem looked_g {Q : Nat → Option FD} {n : Nat} (h : Q 17 = some P.f_looked) (x : Str) (ns : List Str) (hs : List Va) (v : Va) (hl : ns.length = hs.length) (hx : x ∈ ns) (hv : lkp x ns hs = some v) (hn : ns.length ≤ 1000000) :
    dc (envN Q (n + 1)) 17 [.str x, .lst (ns.map .str), .lst (hs.map Va.d)] = some (.ok (.val v.d)) := by
  obtain ⟨s, e⟩ := looked_run (envN Q n) x ns hs v hl hx hv hn
  exact dc_ok h rfl rfl rfl e
end Mi
namespace Mi
open PySem
theorem setO_ge {n i : Nat} {lk : List Nat} {c : Cl} {s : S} (h : n ≤ i) : setO n lk i c s = if i - n ≤ (ghosts n s).length ∧ i < s.length then some (.nx (s.set i c)) else none := by
  unfold setO
  rw [if_neg (by omega)]
/-! ### a Kept is made -/
theorem kept_init {Q : Nat → Option FD} {n : Nat} (h : Q 40 = some P.f_Kept_init) (a b c d : D) : ∃ o, envN Q (n + 1) 40 (.obj 0 [] :: datA [a, b, c, d]) = some (.ok (.cl (.val .non)) (.obj 0 [.val a, .val b, .val c, .val d] :: o)) :=
  meth_nx (fd := P.f_Kept_init) (xs := []) (ds := [a, b, c, d]) (s := [.un, .val a, .val b, .val c, .val d, .val a, .val b, .val c, .val d]) h rfl rfl (Nat.zero_le _)
    (by
      show execs (envN Q n) 5 [0] 0 P.b_Kept_init [.un, .val a, .val b, .val c, .val d, .un, .un, .un, .un] = _
      simp [P.b_Kept_init, setO_ge, ghosts]) rfl
theorem ev_make4 {Γ : Env} {f : Nat} {es : List CE} {s s1 : S} {a b c d : D} {o : List Ag} (h1 : evA Γ es s = some (.ok [.d a, .d b, .d c, .d d] s1)) (h2 : Γ f (.obj 0 [] :: datA [a, b, c, d]) = some (.ok (.cl (.val .non)) (.obj 0 [.val a, .val b, .val c, .val d] :: o))) :
    ev Γ (.make 0 f es) s = some (.ok (.fr (.val (.obj 0 [a, b, c, d]))) s1) := by

  show (bnd (evA Γ es s) fun l s => (dats l).bind fun ds => match Γ f (.obj 0 [] :: ds.map fun d => .cl (.val d)) with
    | some (.ok (.cl (.val .non)) (.obj c' xs :: _)) => if c' = 0 ∧ 0 = 0 ∧ xs.length = 4 then (xs.mapM Cl.vl).map fun ds => Mi.R.ok (Ro.fr (.val (.obj 0 ds))) s else none
    | _ => none) = _
  rw [h1, bnd_ok]
  have e : dats [.d a, .d b, .d c, .d d] = some [a, b, c, d] := rfl
  rw [e, Option.bind_some]
  show (match Γ f (.obj 0 [] :: datA [a, b, c, d]) with
    | some (.ok (.cl (.val .non)) (.obj c' xs :: _)) => if c' = 0 ∧ 0 = 0 ∧ xs.length = 4 then (xs.mapM Cl.vl).map fun ds => Mi.R.ok (Ro.fr (.val (.obj 0 ds))) s1 else none
    | _ => none) = _
  rw [show Γ f (.obj 0 [] :: datA [a, b, c, d]) = _ from h2]
  rfl
theorem addF_len : ∀ (l : List (Option Str)) (acc : List Str), (l.foldl addF acc).length ≤ acc.length + l.length
  | [], acc => by simp
  | o :: l, acc => by
    rw [List.foldl_cons, List.length_cons]
    have h := addF_len l (addF acc o)
    have h2 : (addF acc o).length ≤ acc.length + 1 := by
      unfold addF
      split
      · split
        · omega
        · rw [List.length_append, List.length_singleton]; omega
      · omega
    omega
theorem freeL_len (t : T) : t.freeL.length ≤ t.size := by
  have h := addF_len (T.fl [] t) []
  rw [fl_len, List.length_nil, Nat.zero_add] at h
  exact h
def wsOf (F ns : List Str) (hs : List Va) : List Va := F.map fun y => (lkp y ns hs).getD (.num 0)
def keptV (x : Str) (b : T) (ns : List Str) (hs : List Va) : Va := .fn x b (T.fn x b).freeL (wsOf (T.fn x b).freeL ns hs)
theorem kept_by_g {Q : Nat → Option FD} {n : Nat} (h18 : Q 18 = some P.f_kept_by) (h17 : Q 17 = some P.f_looked) (h40 : Q 40 = some P.f_Kept_init) (h6 : Q 6 = some P.f_free) (h3 : Q 3 = some P.f_parts) (x : Str) (b : T) (ns : List Str) (hs : List Va) (hl : ns.length = hs.length) (hn : ns.length ≤ 1000000) (hF : ∀ y ∈ (T.fn x b).freeL, y ∈ ns) (hb : b.size ≤ 300000) :
    dc (envN Q (n + 3)) 18 [(T.fn x b).d, .lst (ns.map .str), .lst (hs.map Va.d)] = some (.ok (.val (keptV x b ns hs).d)) := by
  have fg := free_g (n := n) h6 h3 (T.fn x b) (by simp only [T.size]; omega)
  have hlen := freeL_len (T.fn x b)
  generalize hFe : (T.fn x b).freeL = F at fg hlen hF
  have lg := fun (y : Str) (v : Va) (hy : y ∈ ns) (hv : lkp y ns hs = some v) => looked_g (n := n + 1) h17 y ns hs v hl hy hv hn
  obtain ⟨o, ki⟩ := kept_init (n := n + 1) h40 (.str x) b.d (.lst (F.map .str)) (.lst ((wsOf F ns hs).map Va.d))
  have comp : ∀ s : S, gt s 1 = .val (.lst (ns.map .str)) → gt s 2 = .val (.lst (hs.map Va.d)) → gt s 3 = .val (.lst (F.map .str)) → (gt s 4).own = false → s.length = 5 → ev (envN Q (n + 2)) (.comp (.call 17 [(.v 4), (.v 1), (.v 2)]) 4 (.v 3) .seq (.c (.bl true))) s = some (.ok (.fr (.lst ((wsOf F ns hs).map Va.d))) s) := fun s e1 e2 e3 e4 e5 => by
    have q := comp_map (Γ := envN Q (n + 2)) (e := .call 17 [(.v 4), (.v 1), (.v 2)]) (x := 4) (it := .v 3) (k := .seq) (s := s) (s1 := s) (ds := F.map .str) (fun d => match d with
      | .str y => ((lkp y ns hs).getD (.num 0)).d
      | d => d) (by simp [e3]) e4 (by rw [List.length_map]; simp only [T.size] at hlen; omega) fun d hd => by
        obtain ⟨y, hy, rfl⟩ := List.mem_map.mp hd
        obtain ⟨v, hv, _⟩ := lkp_some hl (hF y hy)
        have m1 : gt (s.set 4 (.val (.str y))) 1 = .val (.lst (ns.map .str)) := by rw [gt_set, if_neg (by omega)]; exact e1
        have m2 : gt (s.set 4 (.val (.str y))) 2 = .val (.lst (hs.map Va.d)) := by rw [gt_set, if_neg (by omega)]; exact e2
        have m4 : gt (s.set 4 (.val (.str y))) 4 = .val (.str y) := by rw [gt_set, if_pos ⟨rfl, by omega⟩]
        have := lg y v (hF y hy) hv
        simp [m1, m2, m4, this, hv]
    rw [q]
    unfold wsOf
    rw [List.map_map, List.map_map]
    rfl
  have c0 := comp [.val (T.fn x b).d, .val (.lst (ns.map .str)), .val (.lst (hs.map Va.d)), .val (.lst (F.map .str)), .un] rfl rfl rfl rfl rfl
  have ea : evA (envN Q (n + 2)) [(.ix (.v 0) (.c (.int 1))), (.ix (.v 0) (.c (.int 2))), (.v 3), (.comp (.call 17 [(.v 4), (.v 1), (.v 2)]) 4 (.v 3) .seq (.c (.bl true)))] [.val (T.fn x b).d, .val (.lst (ns.map .str)), .val (.lst (hs.map Va.d)), .val (.lst (F.map .str)), .un] =
      some (.ok [.d (.str x), .d b.d, .d (.lst (F.map .str)), .d (.lst ((wsOf F ns hs).map Va.d))] [.val (T.fn x b).d, .val (.lst (ns.map .str)), .val (.lst (hs.map Va.d)), .val (.lst (F.map .str)), .un]) := by
    simp [T.d] at c0
    simp [T.d, c0]
  have em := ev_make4 ea ki
  obtain ⟨s, e⟩ := rtv_of (o := execs (envN Q (n + 2)) 5 [] 0 P.b_kept_by [.val (T.fn x b).d, .val (.lst (ns.map .str)), .val (.lst (hs.map Va.d)), .un, .un]) (a := .cl (.val (keptV x b ns hs).d)) (by
    unfold keptV
    rw [hFe, Va.d_fn]
    simp [P.b_kept_by, fg, em])
  exact dc_ok h18 rfl rfl rfl e
theorem number_g {Q : Nat → Option FD} {n : Nat} (h : Q 19 = some P.f_need_number) (v : Va) : dc (envN Q (n + 1)) 19 [v.d] = match v with
    | .num i => some (.ok (.val (.int i)))
    | .fn _ _ _ _ => some (.ex 4) := by
  cases v with
  | num i =>
    obtain ⟨s, e⟩ := rtv_of (o := execs (envN Q n) 1 [] 0 P.b_need_number [.val (.int i)]) (a := .cl (.val (.int i))) (by simp [P.b_need_number])
    rw [Va.d_num]
    exact dc_ok h rfl rfl rfl e
  | fn x b ns hs =>
    rw [Va.d_fn]
    have : ∃ s, execs (envN Q n) 1 [] 0 P.b_need_number [.val (.obj 0 [.str x, b.d, .lst (ns.map .str), .lst (hs.map Va.d)])] = some (.ex 4 s) := ⟨_, by simp [P.b_need_number]; rfl⟩
    obtain ⟨s, e⟩ := this
    exact dc_ex h rfl rfl e
end Mi
namespace Mi
open PySem
/-! ### the mill -/
abbrev Row := Bool × T × List Str × List Va
def Row.d (r : Row) : D := .tup [.bl r.1, r.2.1.d, .lst (r.2.2.1.map .str), .lst (r.2.2.2.map Va.d)]
structure MS where
  todo : List Row
  done : List Va
  deeds : Nat
  made : List Va
def MS.f (m : MS) (most : Int) : List Cl := [.val (.int most), .lst (m.todo.reverse.map Row.d), .lst (m.done.reverse.map Va.d), .val (.int m.deeds), .lst (m.made.map Va.d)]
def seeM (t : T) (ns : List Str) (hs : List Va) (m : MS) : MS := match t with
  | .num i => { m with done := .num i :: m.done }
  | .name x => { m with done := ((lkp x ns hs).getD (.num 0)) :: m.done }
  | .fn x b => { m with made := m.made ++ [keptV x b ns hs], done := keptV x b ns hs :: m.done }
  | .lett x a b => { m with todo := (true, a, ns, hs) :: (false, .lett x a b, ns, hs) :: m.todo }
  | .ite a b c => { m with todo := (true, a, ns, hs) :: (false, .ite a b c, ns, hs) :: m.todo }
  | .call a b => { m with todo := (true, a, ns, hs) :: (true, b, ns, hs) :: (false, .call a b, ns, hs) :: m.todo }
  | .plus a b => { m with todo := (true, a, ns, hs) :: (true, b, ns, hs) :: (false, .plus a b, ns, hs) :: m.todo }
  | .less a b => { m with todo := (true, a, ns, hs) :: (true, b, ns, hs) :: (false, .less a b, ns, hs) :: m.todo }
def seeOk (t : T) (ns : List Str) : Prop := match t with
  | .name x => x ∈ ns
  | .fn x b => ∀ y ∈ (T.fn x b).freeL, y ∈ ns
  | _ => True
/-- the defs that the mill calls -/
structure MillQ (Q : Nat → Option FD) : Prop where
  p3 : Q 3 = some P.f_parts
  p6 : Q 6 = some P.f_free
  p17 : Q 17 = some P.f_looked
  p18 : Q 18 = some P.f_kept_by
  p19 : Q 19 = some P.f_need_number
  p40 : Q 40 = some P.f_Kept_init
  p41 : Q 41 = some P.f_Mill_init
  p42 : Q 42 = some P.f_Mill_see
  p43 : Q 43 = some P.f_Mill_turn
theorem see_g {Q : Nat → Option FD} (M : MillQ Q) {n : Nat} (t : T) (ns : List Str) (hs : List Va) (m : MS) (most : Int) (ho : seeOk t ns) (hl : ns.length = hs.length) (hn : ns.length ≤ 1000000) (ht : t.size ≤ 300000) (h1 : m.todo.length + 3 ≤ 1000000) (h2 : m.done.length + 1 ≤ 1000000) (h3 : m.made.length + 1 ≤ 1000000) :
    ∃ o, envN Q (n + 4) 42 (.obj 1 (m.f most) :: datA [t.d, .lst (ns.map .str), .lst (hs.map Va.d)]) = some (.ok (.cl (.val .non)) (.obj 1 ((seeM t ns hs m).f most) :: o)) := by
  have z1 : m.todo.length < sizeLine := Nat.lt_of_le_of_lt (by omega : m.todo.length ≤ 1000000) million
  have z2 : m.todo.length + 1 < sizeLine := Nat.lt_of_le_of_lt (by omega : m.todo.length + 1 ≤ 1000000) million
  have z3 : m.todo.length + 2 < sizeLine := Nat.lt_of_le_of_lt (by omega : m.todo.length + 2 ≤ 1000000) million
  have z4 : m.done.length < sizeLine := Nat.lt_of_le_of_lt (by omega : m.done.length ≤ 1000000) million
  have z5 : m.made.length < sizeLine := Nat.lt_of_le_of_lt (by omega : m.made.length ≤ 1000000) million
  have key : ∀ (c4 : Cl), execs (envN Q (n + 3)) 5 [0] 1 P.b_Mill_see [.un, .val t.d, .val (.lst (ns.map .str)), .val (.lst (hs.map Va.d)), .un, .val (.int most), .lst (m.todo.reverse.map Row.d), .lst (m.done.reverse.map Va.d), .val (.int m.deeds), .lst (m.made.map Va.d)] =
      some (.nx (.un :: .val t.d :: .val (.lst (ns.map .str)) :: .val (.lst (hs.map Va.d)) :: c4 :: (seeM t ns hs m).f most)) →
      ∃ o, envN Q (n + 4) 42 (.obj 1 (m.f most) :: datA [t.d, .lst (ns.map .str), .lst (hs.map Va.d)]) = some (.ok (.cl (.val .non)) (.obj 1 ((seeM t ns hs m).f most) :: o)) := fun c4 e =>
    meth_nx (fd := P.f_Mill_see) (xs := m.f most) (ds := [t.d, .lst (ns.map .str), .lst (hs.map Va.d)]) M.p42 rfl rfl (Nat.le_refl _) e rfl
  have hkb := fun x b hF hb => kept_by_g (n := n) M.p18 M.p17 M.p40 M.p6 M.p3 x b ns hs hl hn hF hb
  have hlk := fun x v hx hv => looked_g (n := n + 2) M.p17 x ns hs v hl hx hv hn
  cases t with
  | num i => exact key .un (by simp [P.b_Mill_see, T.d, seeM, MS.f, z4])
  | name x =>
    obtain ⟨v, hv, _⟩ := lkp_some hl ho
    have := hlk x v ho hv
    exact key .un (by simp [P.b_Mill_see, T.d, seeM, MS.f, z4, this, hv])
  | fn x b =>
    have := hkb x b ho (by simp only [T.size] at ht; omega)
    simp [T.d] at this
    exact key .un (by simp [P.b_Mill_see, T.d, seeM, MS.f, z4, z5, this])
  | lett x a b => exact key (.val (.int 2)) (by simp [P.b_Mill_see, T.d, seeM, MS.f, z1, z2, Row.d])
  | ite a b c => exact key (.val (.int 1)) (by simp [P.b_Mill_see, T.d, seeM, MS.f, z1, z2, Row.d])
  | call a b => exact key (.val (.int 1)) (by simp [P.b_Mill_see, T.d, seeM, MS.f, z1, z2, z3, Row.d])
  | plus a b => exact key (.val (.int 1)) (by simp [P.b_Mill_see, T.d, seeM, MS.f, z1, z2, z3, Row.d])
  | less a b => exact key (.val (.int 1)) (by simp [P.b_Mill_see, T.d, seeM, MS.f, z1, z2, z3, Row.d])
end Mi
namespace Mi
open PySem
/-! ### a deed of the mill -/
def turnB (t : T) (ns : List Str) (hs : List Va) (m : MS) : Sum Nat MS := match t, m.done with
  | .lett x _ b, v :: dn => .inr ⟨(true, b, ns ++ [x], hs ++ [v]) :: m.todo, dn, m.deeds + 1, m.made⟩
  | .ite _ b c, .num i :: dn => .inr ⟨(true, (if i = 0 then c else b), ns, hs) :: m.todo, dn, m.deeds + 1, m.made⟩
  | .ite _ _ _, .fn _ _ _ _ :: _ => .inl 4
  | .call _ _, v :: .fn x b ns' hs' :: dn => .inr ⟨(true, b, ns' ++ [x], hs' ++ [v]) :: m.todo, dn, m.deeds + 1, m.made⟩
  | .call _ _, _ :: .num _ :: _ => .inl 5
  | .plus _ _, _ :: .fn _ _ _ _ :: _ => .inl 4
  | .plus _ _, .fn _ _ _ _ :: .num _ :: _ => .inl 4
  | .plus _ _, .num j :: .num i :: dn => .inr ⟨m.todo, .num (i + j) :: dn, m.deeds + 1, m.made⟩
  | .less _ _, _ :: .fn _ _ _ _ :: _ => .inl 4
  | .less _ _, .fn _ _ _ _ :: .num _ :: _ => .inl 4
  | .less _ _, .num j :: .num i :: dn => .inr ⟨m.todo, .num (i - j) :: dn, m.deeds + 1, m.made⟩
  | _, _ => .inl 99
def turnM (t : T) (ns : List Str) (hs : List Va) (most : Int) (m : MS) : Sum Nat MS := if (m.deeds : Int) = most then .inl 6 else turnB t ns hs m
def turnOk (t : T) (k : Nat) : Prop := match t with
  | .lett _ _ _ => 1 ≤ k
  | .ite _ _ _ => 1 ≤ k
  | .call _ _ => 2 ≤ k
  | .plus _ _ => 2 ≤ k
  | .less _ _ => 2 ≤ k
  | _ => False
def TurnIs (Q : Nat → Option FD) (n : Nat) (t : T) (ns : List Str) (hs : List Va) (most : Int) (m : MS) : Prop := match turnM t ns hs most m with
  | .inl k => envN Q (n + 3) 43 (.obj 1 (m.f most) :: datA [t.d, .lst (ns.map .str), .lst (hs.map Va.d)]) = some (.ex k)
  | .inr m' => ∃ o, envN Q (n + 3) 43 (.obj 1 (m.f most) :: datA [t.d, .lst (ns.map .str), .lst (hs.map Va.d)]) = some (.ok (.cl (.val .non)) (.obj 1 (m'.f most) :: o))
theorem turn_g {Q : Nat → Option FD} (M : MillQ Q) {n : Nat} (t : T) (ns : List Str) (hs : List Va) (m : MS) (most : Int) (ho : turnOk t m.done.length) (hn : ns.length + 1 ≤ 1000000) (hh : hs.length + 1 ≤ 1000000) (h1 : m.todo.length + 1 ≤ 1000000) (h2 : m.done.length + 1 ≤ 1000000)
    (hv : ∀ v ∈ m.done, match v with
      | .num _ => True
      | .fn _ _ ns' hs' => ns'.length + 1 ≤ 1000000 ∧ hs'.length + 1 ≤ 1000000) : TurnIs Q n t ns hs most m := by
  have z1 : m.todo.length < sizeLine := Nat.lt_of_le_of_lt (by omega : m.todo.length ≤ 1000000) million
  have z2 : ns.length + 1 ≤ sizeLine := Nat.le_of_lt (Nat.lt_of_le_of_lt hn million)
  have z3 : hs.length + 1 ≤ sizeLine := Nat.le_of_lt (Nat.lt_of_le_of_lt hh million)
  have ng := fun v => number_g (n := n + 1) M.p19 v
  have ng0 := fun i : Int => ng (.num i)
  have ng1 := fun (x : Str) (b : T) (ns : List Str) (hs : List Va) => ng (.fn x b ns hs)
  simp only [Va.d_num, Va.d_fn] at ng0 ng1
  have E : ∀ (k : Nat) (s : S), turnM t ns hs most m = .inl k → execs (envN Q (n + 2)) 7 [0] 1 P.b_Mill_turn [.un, .val t.d, .val (.lst (ns.map .str)), .val (.lst (hs.map Va.d)), .un, .un, .un, .val (.int most), .lst (m.todo.reverse.map Row.d), .lst (m.done.reverse.map Va.d), .val (.int m.deeds), .lst (m.made.map Va.d)] = some (.ex k s) → TurnIs Q n t ns hs most m := fun k s e1 e => by
    unfold TurnIs
    rw [e1]
    exact meth_ex (fd := P.f_Mill_turn) (xs := m.f most) (ds := [t.d, .lst (ns.map .str), .lst (hs.map Va.d)]) M.p43 rfl rfl (Nat.le_refl _) e
  have N : ∀ (m' : MS) (c4 c5 c6 : Cl), turnM t ns hs most m = .inr m' → execs (envN Q (n + 2)) 7 [0] 1 P.b_Mill_turn [.un, .val t.d, .val (.lst (ns.map .str)), .val (.lst (hs.map Va.d)), .un, .un, .un, .val (.int most), .lst (m.todo.reverse.map Row.d), .lst (m.done.reverse.map Va.d), .val (.int m.deeds), .lst (m.made.map Va.d)] =
      some (.nx (.un :: .val t.d :: .val (.lst (ns.map .str)) :: .val (.lst (hs.map Va.d)) :: c4 :: c5 :: c6 :: m'.f most)) → TurnIs Q n t ns hs most m := fun m' c4 c5 c6 e1 e => by
    unfold TurnIs
    rw [e1]
    exact meth_nx (fd := P.f_Mill_turn) (xs := m.f most) (ds := [t.d, .lst (ns.map .str), .lst (hs.map Va.d)]) M.p43 rfl rfl (Nat.le_refl _) e rfl
  by_cases hm : (m.deeds : Int) = most
  · exact E 6 [.un, .val t.d, .val (.lst (ns.map .str)), .val (.lst (hs.map Va.d)), .un, .un, .un, .val (.int most), .lst (m.todo.reverse.map Row.d), .lst (m.done.reverse.map Va.d), .val (.int m.deeds), .lst (m.made.map Va.d)] (by unfold turnM; rw [if_pos hm]) (by simp [P.b_Mill_turn, hm])
  obtain ⟨todo, done, deeds, made⟩ := m
  dsimp only at *
  have tm : ∀ t, turnM t ns hs most ⟨todo, done, deeds, made⟩ = turnB t ns hs ⟨todo, done, deeds, made⟩ := fun t => if_neg hm
  cases t with
  | num i => exact ho.elim
  | name x => exact ho.elim
  | fn x b => exact ho.elim
  | lett x a b =>
    match done, ho, h2, tm with
    | v :: dn, _, _, tm => exact N _ (.val v.d) .un .un (tm _) (by simp [P.b_Mill_turn, T.d, hm, setO_ge, ghosts, MS.f, Row.d, z1, z2, z3])
  | ite a b c =>
    match done, ho, h2, tm with
    | .num i :: dn, _, _, tm =>
      by_cases hi : i = 0
      · exact N ⟨(true, c, ns, hs) :: todo, dn, deeds + 1, made⟩ (.val (.int i)) .un .un (by rw [tm]; simp [turnB, hi]) (by simp [P.b_Mill_turn, T.d, hm, setO_ge, ghosts, MS.f, Row.d, z1, ng0, hi])
      · exact N ⟨(true, b, ns, hs) :: todo, dn, deeds + 1, made⟩ (.val (.int i)) .un .un (by rw [tm]; simp [turnB, hi]) (by simp [P.b_Mill_turn, T.d, hm, setO_ge, ghosts, MS.f, Row.d, z1, ng0, hi])
    | .fn y e ns' hs' :: dn, _, _, tm =>
      exact E 4 _ (tm _) (by simp [P.b_Mill_turn, T.d, hm, setO_ge, ghosts, Va.d_fn, ng1]; rfl)
  | call a b =>
    match done, ho, h2, tm, hv with
    | v :: .num i :: dn, _, _, tm, _ => exact E 5 _ (tm _) (by simp [P.b_Mill_turn, T.d, hm, setO_ge, ghosts]; rfl)
    | v :: .fn y e ns' hs' :: dn, _, _, tm, hv =>
      obtain ⟨w1, w2⟩ := hv (.fn y e ns' hs') (List.mem_cons_of_mem _ List.mem_cons_self)
      have w1 : ns'.length + 1 ≤ sizeLine := Nat.le_of_lt (Nat.lt_of_le_of_lt w1 million)
      have w2 : hs'.length + 1 ≤ sizeLine := Nat.le_of_lt (Nat.lt_of_le_of_lt w2 million)
      exact N _ (.val v.d) (.val (Va.fn y e ns' hs').d) .un (tm _) (by simp [P.b_Mill_turn, T.d, hm, setO_ge, ghosts, MS.f, Row.d, z1, Va.d_fn, w1, w2])
  | plus a b =>
    match done, ho, h2, tm with
    | v :: .fn y e ns' hs' :: dn, _, _, tm => exact E 4 _ (tm _) (by simp [P.b_Mill_turn, T.d, hm, setO_ge, ghosts, Va.d_fn, ng1]; rfl)
    | .fn y e ns' hs' :: .num i :: dn, _, _, tm => exact E 4 _ (tm _) (by simp [P.b_Mill_turn, T.d, hm, setO_ge, ghosts, Va.d_fn, ng1, ng0]; rfl)
    | .num j :: .num i :: dn, _, h2, tm =>
      rw [List.length_cons, List.length_cons] at h2
      have q : dn.length < sizeLine := Nat.lt_of_le_of_lt (by omega : dn.length ≤ 1000000) million
      exact N _ (.val (.int j)) (.val (.int i)) (.val (.int j)) (tm _) (by simp [P.b_Mill_turn, T.d, hm, setO_ge, ghosts, MS.f, ng0, q])
  | less a b =>
    match done, ho, h2, tm with
    | v :: .fn y e ns' hs' :: dn, _, _, tm => exact E 4 _ (tm _) (by simp [P.b_Mill_turn, T.d, hm, setO_ge, ghosts, Va.d_fn, ng1]; rfl)
    | .fn y e ns' hs' :: .num i :: dn, _, _, tm => exact E 4 _ (tm _) (by simp [P.b_Mill_turn, T.d, hm, setO_ge, ghosts, Va.d_fn, ng1, ng0]; rfl)
    | .num j :: .num i :: dn, _, h2, tm =>
      rw [List.length_cons, List.length_cons] at h2
      have q : dn.length < sizeLine := Nat.lt_of_le_of_lt (by omega : dn.length ≤ 1000000) million
      exact N _ (.val (.int j)) (.val (.int i)) (.val (.int j)) (tm _) (by simp [P.b_Mill_turn, T.d, hm, setO_ge, ghosts, MS.f, ng0, q])
end Mi
namespace Mi
open PySem
/-! ### the mill's run -/
theorem mill_init {Q : Nat → Option FD} (M : MillQ Q) {n : Nat} (most : Int) : ∃ o, envN Q (n + 1) 41 (.obj 1 [] :: datA [.int most]) = some (.ok (.cl (.val .non)) (.obj 1 ((⟨[], [], 0, []⟩ : MS).f most) :: o)) :=
  meth_nx (fd := P.f_Mill_init) (xs := []) (ds := [.int most]) (s := .un :: .val (.int most) :: (⟨[], [], 0, []⟩ : MS).f most) M.p41 rfl rfl (Nat.zero_le _)
    (by
      show execs (envN Q n) 2 [0] 1 P.b_Mill_init [.un, .val (.int most), .un, .un, .un, .un, .un] = _
      simp [P.b_Mill_init, setO_ge, ghosts, MS.f]) rfl
section
variable {Γ : Env} {n oc f : Nat} {lk : List Nat} {es : List CE} {s s1 : S} {l : List Aa} {ds : List D} {xs : List Cl} {o : List Ag} {res : Ag}
theorem exec_me_nx (hg : (ghosts n s).isEmpty = false) (ha : evA Γ es s = some (.ok l s1)) (hz : ((ghosts n s1).all fun c => c.fz.isSome) = true) (hd : dats l = some ds) (h : Γ f (.obj oc (ghosts n s1) :: datA ds) = some (.ok res (.obj oc xs :: o))) (hl : xs.length ≤ nfl oc) : exec Γ n lk oc (.me f es) s = some (.nx (setG n s1 xs)) := by
  have e : exec Γ n lk oc (.me f es) s = (if (ghosts n s).isEmpty then none else outR (evA Γ es s) fun l s => if (ghosts n s).all fun c => c.fz.isSome then (dats l).bind fun ds => match Γ f (.obj oc (ghosts n s) :: datA ds) with
    | some (.ok _ (.obj c xs :: _)) => if c = oc ∧ xs.length ≤ nfl c then some (.nx (setG n s xs)) else none
    | some (.ex c) => some (.ex c (setG n s []))
    | _ => none
    else none) := by rw [exec] <;> rfl
  rw [e, hg, if_neg Bool.false_ne_true, ha, outR_ok, hz, if_pos rfl, hd, Option.bind_some, h]
  exact if_pos ⟨rfl, hl⟩
theorem exec_me_ex {k : Nat} (hg : (ghosts n s).isEmpty = false) (ha : evA Γ es s = some (.ok l s1)) (hz : ((ghosts n s1).all fun c => c.fz.isSome) = true) (hd : dats l = some ds) (h : Γ f (.obj oc (ghosts n s1) :: datA ds) = some (.ex k)) : exec Γ n lk oc (.me f es) s = some (.ex k (setG n s1 [])) := by
  have e : exec Γ n lk oc (.me f es) s = (if (ghosts n s).isEmpty then none else outR (evA Γ es s) fun l s => if (ghosts n s).all fun c => c.fz.isSome then (dats l).bind fun ds => match Γ f (.obj oc (ghosts n s) :: datA ds) with
    | some (.ok _ (.obj c xs :: _)) => if c = oc ∧ xs.length ≤ nfl c then some (.nx (setG n s xs)) else none
    | some (.ex c) => some (.ex c (setG n s []))
    | _ => none
    else none) := by rw [exec] <;> rfl
  rw [e, hg, if_neg Bool.false_ne_true, ha, outR_ok, hz, if_pos rfl, hd, Option.bind_some, h]
theorem exec_mk {i : Nat} (ha : evA Γ es s = some (.ok l s1)) (hd : dats l = some ds) (h : Γ f (.obj oc [] :: datA ds) = some (.ok (.cl (.val .non)) (.obj oc xs :: o))) (hl : xs.length ≤ nfl oc) (hi : i < n) (hk : i ∉ lk) (hn : n ≤ s1.length) : exec Γ n lk oc (.mk i oc f es) s = some (.nx (setG n (s1.set i .un) xs)) := by
  have e : exec Γ n lk oc (.mk i oc f es) s = (outR (evA Γ es s) fun l s => (dats l).bind fun ds => match Γ f (.obj oc [] :: datA ds) with
    | some (.ok (.cl (.val .non)) (.obj c' xs :: _)) => if c' = oc ∧ oc = oc ∧ xs.length ≤ nfl oc ∧ i < n ∧ i ∉ lk ∧ n ≤ s.length then some (.nx (setG n (s.set i .un) xs)) else none
    | _ => none) := by rw [exec] <;> rfl
  rw [e, ha, outR_ok, hd, Option.bind_some, h]
  exact if_pos ⟨rfl, rfl, hl, hi, hk, hn⟩
theorem exec_oc_nx {i : Nat} (ha : evA Γ es s = some (.ok l s1)) (hd : dats l = some ds) (h : Γ f (datA ds) = some (.ok (.obj oc xs) o)) (hl : xs.length ≤ nfl oc) (hi : i < n) (hk : i ∉ lk) (hn : n ≤ s1.length) : exec Γ n lk oc (.oc i f es) s = some (.nx (setG n (s1.set i .un) xs)) := by
  have e : exec Γ n lk oc (.oc i f es) s = (outR (evA Γ es s) fun l s => (dats l).bind fun ds => match Γ f (datA ds) with
    | some (.ok (.obj c xs) _) => if c = oc ∧ xs.length ≤ nfl c ∧ i < n ∧ i ∉ lk ∧ n ≤ s.length then some (.nx (setG n (s.set i .un) xs)) else none
    | some (.ex c) => some (.ex c s)
    | _ => none) := by rw [exec] <;> rfl
  rw [e, ha, outR_ok, hd, Option.bind_some, h]
  exact if_pos ⟨rfl, hl, hi, hk, hn⟩
theorem exec_oc_ex {i k : Nat} (ha : evA Γ es s = some (.ok l s1)) (hd : dats l = some ds) (h : Γ f (datA ds) = some (.ex k)) : exec Γ n lk oc (.oc i f es) s = some (.ex k s1) := by
  have e : exec Γ n lk oc (.oc i f es) s = (outR (evA Γ es s) fun l s => (dats l).bind fun ds => match Γ f (datA ds) with
    | some (.ok (.obj c xs) _) => if c = oc ∧ xs.length ≤ nfl c ∧ i < n ∧ i ∉ lk ∧ n ≤ s.length then some (.nx (setG n (s.set i .un) xs)) else none
    | some (.ex c) => some (.ex c s)
    | _ => none) := by rw [exec] <;> rfl
  rw [e, ha, outR_ok, hd, Option.bind_some, h]
theorem exec_rcf_nx {j : Nat} {c : Cl} (ha : evA Γ es s = some (.ok l s1)) (hd : dats l = some ds) (h : Γ f (datA ds) = some (.ok (.obj oc xs) o)) (hj : xs[j]? = some c) (hz : c.fz.isSome = true) : exec Γ n lk oc (.rcf f es j) s = some (.rt (.cl c) s1) := by
  have e : exec Γ n lk oc (.rcf f es j) s = (outR (evA Γ es s) fun l s => (dats l).bind fun ds => match Γ f (datA ds) with
    | some (.ok (.obj c xs) _) => if c = oc then (xs[j]?).bind fun c => if c.fz.isSome then some (.rt (.cl c) s) else none else none
    | some (.ex c) => some (.ex c s)
    | _ => none) := by rw [exec] <;> rfl
  rw [e, ha, outR_ok, hd, Option.bind_some, h]
  show (if oc = oc then _ else _) = _
  rw [if_pos rfl, hj, Option.bind_some, hz]; rfl
theorem exec_rcf_ex {j k : Nat} (ha : evA Γ es s = some (.ok l s1)) (hd : dats l = some ds) (h : Γ f (datA ds) = some (.ex k)) : exec Γ n lk oc (.rcf f es j) s = some (.ex k s1) := by
  have e : exec Γ n lk oc (.rcf f es j) s = (outR (evA Γ es s) fun l s => (dats l).bind fun ds => match Γ f (datA ds) with
    | some (.ok (.obj c xs) _) => if c = oc then (xs[j]?).bind fun c => if c.fz.isSome then some (.rt (.cl c) s) else none else none
    | some (.ex c) => some (.ex c s)
    | _ => none) := by rw [exec] <;> rfl
  rw [e, ha, outR_ok, hd, Option.bind_some, h]
end
/-- one row -/
def rowM (most : Int) (m : MS) : Sum Nat MS := match m.todo with
  | [] => .inr m
  | (true, t, ns, hs) :: rest => .inr (seeM t ns hs { m with todo := rest })
  | (false, t, ns, hs) :: rest => turnM t ns hs most { m with todo := rest }
def vaOk (v : Va) : Prop := match v with
  | .num _ => True
  | .fn _ _ ns hs => ns.length + 1 ≤ 1000000 ∧ hs.length + 1 ≤ 1000000
def RowOk (m : MS) : Prop := match m.todo with
  | [] => False
  | (true, t, ns, hs) :: rest => seeOk t ns ∧ ns.length = hs.length ∧ ns.length ≤ 1000000 ∧ t.size ≤ 300000 ∧ rest.length + 3 ≤ 1000000 ∧ m.done.length + 1 ≤ 1000000 ∧ m.made.length + 1 ≤ 1000000
  | (false, t, ns, hs) :: rest => turnOk t m.done.length ∧ ns.length + 1 ≤ 1000000 ∧ hs.length + 1 ≤ 1000000 ∧ rest.length + 1 ≤ 1000000 ∧ m.done.length + 1 ≤ 1000000 ∧ ∀ v ∈ m.done, vaOk v
inductive MRun (most : Int) : MS → Sum Nat MS → Prop
  | done {m : MS} (h : m.todo = []) : MRun most m (.inr m)
  | stop {m : MS} {k : Nat} (h : RowOk m) (e : rowM most m = .inl k) : MRun most m (.inl k)
  | step {m m' : MS} {r : Sum Nat MS} (h : RowOk m) (e : rowM most m = .inr m') (q : MRun most m' r) : MRun most m r
abbrev mSt (c0 c1 c3 : Cl) (m : MS) (most : Int) : S := c0 :: c1 :: .un :: c3 :: m.f most
theorem setG_mSt (c0 c1 c3 : Cl) (m m' : MS) (most : Int) : setG 4 (mSt c0 c1 c3 m most) (m'.f most) = mSt c0 c1 c3 m' most := rfl
theorem mill_row {Q : Nat → Option FD} (M : MillQ Q) {n : Nat} (most : Int) (m : MS) (h : RowOk m) (c0 c1 c3 : Cl) : evT (envN Q (n + 4)) (.v 5) (mSt c0 c1 c3 m most) = some (.ok true (mSt c0 c1 c3 m most)) ∧ match rowM most m with
    | .inl k => ∃ s, execs (envN Q (n + 4)) 4 [] 1 P.b_milled_0 (mSt c0 c1 c3 m most) = some (.ex k s)
    | .inr m' => ∃ c3', execs (envN Q (n + 4)) 4 [] 1 P.b_milled_0 (mSt c0 c1 c3 m most) = some (.nx (mSt c0 c1 c3' m' most)) := by
  obtain ⟨todo, done, deeds, made⟩ := m
  cases todo with
  | nil => exact h.elim
  | cons r rest =>
    obtain ⟨b, t, ns, hs⟩ := r
    have er : ((b, t, ns, hs) :: rest).reverse.map Row.d = rest.reverse.map Row.d ++ [Row.d (b, t, ns, hs)] := by simp
    have top : evT (envN Q (n + 4)) (.v 5) (mSt c0 c1 c3 ⟨(b, t, ns, hs) :: rest, done, deeds, made⟩ most) = some (.ok true (mSt c0 c1 c3 ⟨(b, t, ns, hs) :: rest, done, deeds, made⟩ most)) := by
      unfold mSt MS.f
      rw [er]
      simp
    refine ⟨top, ?_⟩
    have pop : ∀ b, exec (envN Q (n + 4)) 4 [] 1 (.asg 3 (.mt .pop (.v 5) [])) (mSt c0 c1 c3 ⟨(b, t, ns, hs) :: rest, done, deeds, made⟩ most) = some (.nx (mSt c0 c1 (.val (Row.d (b, t, ns, hs))) ⟨rest, done, deeds, made⟩ most)) := fun b => by
      unfold mSt MS.f
      simp
    have ea : ∀ b, evA (envN Q (n + 4)) [(.ix (.v 3) (.c (.int 1))), (.ix (.v 3) (.c (.int 2))), (.ix (.v 3) (.c (.int 3)))] (mSt c0 c1 (.val (Row.d (b, t, ns, hs))) ⟨rest, done, deeds, made⟩ most) =
        some (.ok [.d t.d, .d (.lst (ns.map .str)), .d (.lst (hs.map Va.d))] (mSt c0 c1 (.val (Row.d (b, t, ns, hs))) ⟨rest, done, deeds, made⟩ most)) := fun b => by
      unfold mSt MS.f Row.d
      simp
    have tst : ∀ b, evT (envN Q (n + 4)) (.ix (.v 3) (.c (.int 0))) (mSt c0 c1 (.val (Row.d (b, t, ns, hs))) ⟨rest, done, deeds, made⟩ most) = some (.ok b (mSt c0 c1 (.val (Row.d (b, t, ns, hs))) ⟨rest, done, deeds, made⟩ most)) := fun b => by
      unfold mSt MS.f Row.d
      simp
    cases b with
    | true =>
      obtain ⟨h1, h2, h3, h4, h5, h6, h7⟩ := h
      obtain ⟨o, e⟩ := see_g M (n := n) t ns hs ⟨rest, done, deeds, made⟩ most h1 h2 h3 h4 h5 h6 h7
      have em := exec_me_nx (n := 4) (lk := []) (s := mSt c0 c1 (.val (Row.d (true, t, ns, hs))) ⟨rest, done, deeds, made⟩ most) rfl (ea true) rfl rfl e (Nat.le_refl 5)
      rw [setG_mSt] at em
      refine ⟨.val (Row.d (true, t, ns, hs)), ?_⟩
      unfold P.b_milled_0
      rw [execs_cons, pop, nxt_nx, execs_cons, exec_ite, tst, outR_ok, if_pos rfl, execs_cons, em, nxt_nx, execs_nil, nxt_nx, execs_nil]
    | false =>
      obtain ⟨h1, h2, h3, h4, h5, h6⟩ := h
      have e := turn_g M (n := n + 1) t ns hs ⟨rest, done, deeds, made⟩ most h1 h2 h3 h4 h5 (fun v hv => by have := h6 v hv; cases v <;> exact this)
      unfold TurnIs at e
      show match turnM t ns hs most ⟨rest, done, deeds, made⟩ with
        | .inl k => _
        | .inr m' => _
      cases q : turnM t ns hs most ⟨rest, done, deeds, made⟩ with
      | inl k =>
        rw [q] at e
        have em := exec_me_ex (n := 4) (lk := []) (s := mSt c0 c1 (.val (Row.d (false, t, ns, hs))) ⟨rest, done, deeds, made⟩ most) rfl (ea false) rfl rfl e
        refine ⟨setG 4 (mSt c0 c1 (.val (Row.d (false, t, ns, hs))) ⟨rest, done, deeds, made⟩ most) [], ?_⟩
        unfold P.b_milled_0
        rw [execs_cons, pop, nxt_nx, execs_cons, exec_ite, tst, outR_ok, if_neg Bool.false_ne_true, execs_cons, em, nxt_ex, nxt_ex]
      | inr m' =>
        rw [q] at e
        obtain ⟨o, e⟩ := e
        have em := exec_me_nx (n := 4) (lk := []) (s := mSt c0 c1 (.val (Row.d (false, t, ns, hs))) ⟨rest, done, deeds, made⟩ most) rfl (ea false) rfl rfl e (Nat.le_refl 5)
        rw [setG_mSt] at em
        refine ⟨.val (Row.d (false, t, ns, hs)), ?_⟩
        unfold P.b_milled_0
        rw [execs_cons, pop, nxt_nx, execs_cons, exec_ite, tst, outR_ok, if_neg Bool.false_ne_true, execs_cons, em, nxt_nx, execs_nil, nxt_nx, execs_nil]
theorem mill_loop {Q : Nat → Option FD} (M : MillQ Q) {n : Nat} {most : Int} {m : MS} {r : Sum Nat MS} (h : MRun most m r) (c0 c1 : Cl) : ∀ c3, match r with
    | .inl k => ∃ s, loop (evT (envN Q (n + 4)) (.v 5)) (execs (envN Q (n + 4)) 4 [] 1 P.b_milled_0) (mSt c0 c1 c3 m most) = some (.ex k s)
    | .inr m' => ∃ c3', loop (evT (envN Q (n + 4)) (.v 5)) (execs (envN Q (n + 4)) 4 [] 1 P.b_milled_0) (mSt c0 c1 c3 m most) = some (.nx (mSt c0 c1 c3' m' most)) := by
  induction h with
  | @done m h =>
    intro c3
    refine ⟨c3, loop_end ?_⟩
    obtain ⟨todo, done, deeds, made⟩ := m
    have h : todo = [] := h
    subst h
    unfold mSt MS.f
    simp
  | @stop m k h e =>
    intro c3
    obtain ⟨t, q⟩ := mill_row M (n := n) most m h c0 c1 c3
    rw [e] at q
    obtain ⟨s, q⟩ := q
    exact ⟨s, loop_ex t q⟩
  | @step m m' r h e _ ih =>
    intro c3
    obtain ⟨t, q⟩ := mill_row M (n := n) most m h c0 c1 c3
    rw [e] at q
    obtain ⟨c3', q⟩ := q
    have el := loop_turn t q
    have := ih c3'
    cases r with
    | inl k => obtain ⟨s, w⟩ := this; exact ⟨s, el.trans w⟩
    | inr m2 => obtain ⟨c, w⟩ := this; exact ⟨c, el.trans w⟩
end Mi
namespace Mi
open PySem
theorem run_n {Γ : Env} {fd : FD} {ds : List D} {s : S} (hm : fd.meth = false) (hl : ds.length = fd.np) (h : execs Γ fd.n [] fd.oc fd.body (ds.map Cl.val ++ List.replicate (fd.n - fd.np) .un ++ List.replicate fd.nf .un) = some (.nx s)) :
    ∃ o, runF Γ fd (datA ds) = some (.ok (.cl (.val .non)) o) := by
  unfold runF entry
  rw [hm]
  dsimp only
  rw [cls_dat, Option.bind_some, if_pos (by rw [List.length_map]; exact hl), Option.bind_some, lent_dat, h]
  dsimp only
  rw [ok_dat]
  exact ⟨_, rfl⟩
theorem run_o {Γ : Env} {fd : FD} {ds : List D} {s : S} {c : Nat} {xs : List Cl} (hm : fd.meth = false) (hl : ds.length = fd.np) (hz : (xs.all fun c => c.fz.isSome) = true) (h : execs Γ fd.n [] fd.oc fd.body (ds.map Cl.val ++ List.replicate (fd.n - fd.np) .un ++ List.replicate fd.nf .un) = some (.rt (.obj c xs) s)) :
    ∃ o, runF Γ fd (datA ds) = some (.ok (.obj c xs) o) := by
  unfold runF entry
  rw [hm]
  dsimp only
  rw [cls_dat, Option.bind_some, if_pos (by rw [List.length_map]; exact hl), Option.bind_some, lent_dat, h]
  dsimp only
  rw [ok_dat]
  have e : okResM false (.obj c xs) = true := by show (!false && xs.all fun c => c.fz.isSome) = true; rw [hz]; rfl
  rw [e]
  exact ⟨_, rfl⟩
theorem dc_nx {P : Nat → Option FD} {n f : Nat} {fd : FD} {ds : List D} {s : S} (hf : P f = some fd) (hm : fd.meth = false) (hl : ds.length = fd.np) (h : execs (envN P n) fd.n [] fd.oc fd.body (ds.map Cl.val ++ List.replicate (fd.n - fd.np) .un ++ List.replicate fd.nf .un) = some (.nx s)) :
    dc (envN P (n + 1)) f ds = some (.ok (.val .non)) := by
  obtain ⟨o, ho⟩ := run_n hm hl h
  have e : envN P (n + 1) f (ds.map fun d => .cl (.val d)) = some (.ok (.cl (.val .non)) o) := by
    show (P f).bind (fun fd => runF (envN P n) fd _) = _
    rw [hf]; exact ho
  unfold dc
  rw [e]
  rfl
structure WorkQ (Q : Nat → Option FD) : Prop where
  p0 : Q 0 = some P.f_is_name
  p1 : Q 1 = some P.f_is_number
  p2 : Q 2 = some P.f_is_node
  p4 : Q 4 = some P.f_need_tree
  p7 : Q 7 = some P.f_need_work
/-- what is asked of a tree and a count -/
structure Work (t : T) (most : Int) : Prop where
  good : t.good
  size : t.size ≤ 400
  closed : t.freeL = []
  lo : 0 ≤ most
  hi : most ≤ 1000
theorem need_work_g {Q : Nat → Option FD} (M : MillQ Q) (W : WorkQ Q) {n : Nat} {t : T} {most : Int} (w : Work t most) : dc (envN Q (n + 4)) 7 [t.d, .int most] = some (.ok (.val .non)) := by
  have nd := good_nd (ndT W.p0 W.p1 W.p2 M.p3 n) t w.good
  have ng := need_ok (m := n + 2) W.p4 nd w.size
  have fg := free_g (n := n + 1) M.p6 M.p3 t (by have := w.size; omega)
  rw [w.closed] at fg
  have l := w.lo
  have h := w.hi
  have : ∃ s, execs (envN Q (n + 3)) 2 [] 0 P.b_need_work [.val t.d, .val (.int most)] = some (.nx s) := ⟨_, by
    simp at fg
    simp [P.b_need_work, ng, fg, l, h]
    rfl⟩
  obtain ⟨s, e⟩ := this
  exact dc_nx W.p7 rfl rfl e
abbrev mill0 (t : T) : MS := seeM t [] [] ⟨[], [], 0, []⟩
theorem closed_see {t : T} (h : t.freeL = []) : seeOk t [] := by
  cases t with
  | name x => have h : [x] = [] := h; cases h
  | fn x b => intro y hy; rw [h] at hy; cases hy
  | _ => trivial
theorem milled_g {Q : Nat → Option FD} (M : MillQ Q) (W : WorkQ Q) (h20 : Q 20 = some P.f_milled) {n : Nat} {t : T} {most : Int} (w : Work t most) {r : Sum Nat MS} (h : MRun most (mill0 t) r) : match r with
    | .inl k => envN Q (n + 5) 20 (datA [t.d, .int most]) = some (.ex k)
    | .inr m => ∃ o, envN Q (n + 5) 20 (datA [t.d, .int most]) = some (.ok (.obj 1 (m.f most)) o) := by
  have nw := need_work_g M W (n := n) w
  obtain ⟨o1, mi⟩ := mill_init M (n := n + 3) most
  have hs := w.size
  obtain ⟨o2, sg⟩ := see_g M (n := n) t [] [] ⟨[], [], 0, []⟩ most (closed_see w.closed) rfl (Nat.zero_le _) (by omega) (by decide) (by decide) (by decide)
  have lp := mill_loop M (n := n) h (.val t.d) (.val (.int most)) .un
  have x1 : exec (envN Q (n + 4)) 4 [] 1 (.exp (.call 7 [(.v 0), (.v 1)])) [.val t.d, .val (.int most), .un, .un, .un, .un, .un, .un, .un] = some (.nx [.val t.d, .val (.int most), .un, .un, .un, .un, .un, .un, .un]) := by simp [nw]
  have x2 := exec_mk (Γ := envN Q (n + 4)) (n := 4) (oc := 1) (f := 41) (lk := []) (es := [(.v 1)]) (s := [.val t.d, .val (.int most), .un, .un, .un, .un, .un, .un, .un]) (s1 := [.val t.d, .val (.int most), .un, .un, .un, .un, .un, .un, .un]) (l := [.d (.int most)]) (ds := [.int most]) (i := 2) (by simp) rfl mi (Nat.le_refl 5) (by decide) (by simp) (by simp)
  have x2' : exec (envN Q (n + 4)) 4 [] 1 (.mk 2 1 41 [(.v 1)]) [.val t.d, .val (.int most), .un, .un, .un, .un, .un, .un, .un] = some (.nx (mSt (.val t.d) (.val (.int most)) .un ⟨[], [], 0, []⟩ most)) := x2
  have x3 := exec_me_nx (Γ := envN Q (n + 4)) (n := 4) (oc := 1) (f := 42) (lk := []) (es := [(.v 0), (.lst []), (.lst [])]) (s := mSt (.val t.d) (.val (.int most)) .un ⟨[], [], 0, []⟩ most) (s1 := mSt (.val t.d) (.val (.int most)) .un ⟨[], [], 0, []⟩ most) (l := [.d t.d, .d (.lst []), .d (.lst [])]) (ds := [t.d, .lst [], .lst []]) rfl (by simp [mSt]) rfl rfl sg (Nat.le_refl 5)
  rw [setG_mSt] at x3
  cases r with
  | inl k =>
    obtain ⟨s, lp⟩ := lp
    have e : execs (envN Q (n + 4)) 4 [] 1 P.b_milled [.val t.d, .val (.int most), .un, .un, .un, .un, .un, .un, .un] = some (.ex k s) := by
      unfold P.b_milled
      rw [execs_cons, x1, nxt_nx, execs_cons, x2', nxt_nx, execs_cons, x3, nxt_nx, execs_cons, exec_whl, lp, nxt_ex]
    show (Q 20).bind (fun fd => runF (envN Q (n + 4)) fd _) = _
    rw [h20]
    exact run_x (fd := P.f_milled) (ds := [t.d, .int most]) rfl rfl e
  | inr m =>
    obtain ⟨c3, lp⟩ := lp
    have x5 : exec (envN Q (n + 4)) 4 [] 1 .reto (mSt (.val t.d) (.val (.int most)) c3 m most) = some (.rt (.obj 1 (m.f most)) (mSt (.val t.d) (.val (.int most)) c3 m most)) := by
      rw [exec]; rfl
    have e : execs (envN Q (n + 4)) 4 [] 1 P.b_milled [.val t.d, .val (.int most), .un, .un, .un, .un, .un, .un, .un] = some (.rt (.obj 1 (m.f most)) (mSt (.val t.d) (.val (.int most)) c3 m most)) := by
      unfold P.b_milled
      rw [execs_cons, x1, nxt_nx, execs_cons, x2', nxt_nx, execs_cons, x3, nxt_nx, execs_cons, exec_whl, lp, nxt_nx, execs_cons, x5, nxt_rt]
    obtain ⟨o, ho⟩ := run_o (fd := P.f_milled) (ds := [t.d, .int most]) rfl rfl rfl e
    refine ⟨o, ?_⟩
    show (Q 20).bind (fun fd => runF (envN Q (n + 4)) fd _) = _
    rw [h20]
    exact ho
theorem run_g {Q : Nat → Option FD} (M : MillQ Q) (W : WorkQ Q) (h20 : Q 20 = some P.f_milled) (h21 : Q 21 = some P.f_run) {n : Nat} {t : T} {most : Int} (w : Work t most) {r : Sum Nat MS} (h : MRun most (mill0 t) r) : match r with
    | .inl k => dc (envN Q (n + 6)) 21 [t.d, .int most] = some (.ex k)
    | .inr m => ∀ v, m.done = [v] → dc (envN Q (n + 6)) 21 [t.d, .int most] = some (.ok (.val (.tup [v.d, .int m.deeds]))) := by
  have q := milled_g M W h20 (n := n) w h
  cases r with
  | inl k =>
    have x1 := exec_oc_ex (Γ := envN Q (n + 5)) (n := 3) (oc := 1) (f := 20) (lk := []) (es := [(.v 0), (.v 1)]) (s := [.val t.d, .val (.int most), .un, .un, .un, .un, .un, .un]) (s1 := [.val t.d, .val (.int most), .un, .un, .un, .un, .un, .un]) (l := [.d t.d, .d (.int most)]) (ds := [t.d, .int most]) (i := 2) (by simp) rfl q
    exact dc_ex (fd := P.f_run) h21 rfl rfl (by
      show execs (envN Q (n + 5)) 3 [] 1 P.b_run [.val t.d, .val (.int most), .un, .un, .un, .un, .un, .un] = _
      unfold P.b_run
      rw [execs_cons, x1, nxt_ex])
  | inr m =>
    intro v hv
    obtain ⟨o, q⟩ := q
    have x1 := exec_oc_nx (Γ := envN Q (n + 5)) (n := 3) (oc := 1) (f := 20) (lk := []) (es := [(.v 0), (.v 1)]) (s := [.val t.d, .val (.int most), .un, .un, .un, .un, .un, .un]) (s1 := [.val t.d, .val (.int most), .un, .un, .un, .un, .un, .un]) (l := [.d t.d, .d (.int most)]) (ds := [t.d, .int most]) (i := 2) (by simp) rfl q (Nat.le_refl 5) (by decide) (by simp) (by simp)
    have x2 : exec (envN Q (n + 5)) 3 [] 1 (.ret (.tup [(.ix (.v 5) (.c (.int 0))), (.v 6)])) (.val t.d :: .val (.int most) :: .un :: m.f most) = some (.rt (.cl (.val (.tup [v.d, .int m.deeds]))) (.val t.d :: .val (.int most) :: .un :: m.f most)) := by
      unfold MS.f
      rw [hv]
      simp
    refine dc_ok (fd := P.f_run) (c := .val (.tup [v.d, .int m.deeds])) (s := .val t.d :: .val (.int most) :: .un :: m.f most) h21 rfl rfl rfl ?_
    show execs (envN Q (n + 5)) 3 [] 1 P.b_run [.val t.d, .val (.int most), .un, .un, .un, .un, .un, .un] = _
    unfold P.b_run
    rw [execs_cons, x1, nxt_nx, execs_cons]
    show nxt (exec (envN Q (n + 5)) 3 [] 1 (.ret (.tup [(.ix (.v 5) (.c (.int 0))), (.v 6)])) (.val t.d :: .val (.int most) :: .un :: m.f most)) _ = _
    rw [x2, nxt_rt]
theorem made_g {Q : Nat → Option FD} (M : MillQ Q) (W : WorkQ Q) (h20 : Q 20 = some P.f_milled) (h22 : Q 22 = some P.f_made) {n : Nat} {t : T} {most : Int} (w : Work t most) {r : Sum Nat MS} (h : MRun most (mill0 t) r) : match r with
    | .inl k => dc (envN Q (n + 6)) 22 [t.d, .int most] = some (.ex k)
    | .inr m => dc (envN Q (n + 6)) 22 [t.d, .int most] = some (.ok (.lst (m.made.map Va.d))) := by
  have q := milled_g M W h20 (n := n) w h
  cases r with
  | inl k =>
    have x1 := exec_rcf_ex (Γ := envN Q (n + 5)) (n := 2) (oc := 1) (f := 20) (lk := []) (es := [(.v 0), (.v 1)]) (s := [.val t.d, .val (.int most)]) (s1 := [.val t.d, .val (.int most)]) (l := [.d t.d, .d (.int most)]) (ds := [t.d, .int most]) (j := 4) (by simp) rfl q
    exact dc_ex (fd := P.f_made) h22 rfl rfl (by
      show execs (envN Q (n + 5)) 2 [] 1 P.b_made [.val t.d, .val (.int most)] = _
      unfold P.b_made
      rw [execs_cons, x1, nxt_ex])
  | inr m =>
    obtain ⟨o, q⟩ := q
    have x1 := exec_rcf_nx (Γ := envN Q (n + 5)) (n := 2) (oc := 1) (f := 20) (lk := []) (es := [(.v 0), (.v 1)]) (s := [.val t.d, .val (.int most)]) (s1 := [.val t.d, .val (.int most)]) (l := [.d t.d, .d (.int most)]) (ds := [t.d, .int most]) (j := 4) (c := .lst (m.made.map Va.d)) (by simp) rfl q rfl rfl
    refine dc_ok (fd := P.f_made) (c := .lst (m.made.map Va.d)) (s := [.val t.d, .val (.int most)]) h22 rfl rfl rfl ?_
    show execs (envN Q (n + 5)) 2 [] 1 P.b_made [.val t.d, .val (.int most)] = _
    unfold P.b_made
    rw [execs_cons, x1, nxt_rt]
end Mi
namespace Mi
open PySem
/-! ### what holds in the mill all along -/
inductive T.Sub (t0 : T) : T → Prop
  | refl : T.Sub t0 t0
  | part {u v : T} (h : T.Sub t0 u) (hv : v ∈ u.parts) : T.Sub t0 v
theorem sub_size {t0 u : T} (h : T.Sub t0 u) : u.size ≤ t0.size := by
  induction h with
  | refl => exact Nat.le_refl _
  | @part u v h hv ih =>
    refine Nat.le_trans ?_ ih
    cases u <;> simp [T.parts, T.size] at *
    · subst hv; omega
    · rcases hv with rfl | rfl <;> omega
    · rcases hv with rfl | rfl <;> omega
    · rcases hv with rfl | rfl <;> omega
    · rcases hv with rfl | rfl | rfl <;> omega
    · rcases hv with rfl | rfl <;> omega
theorem fl_mem (y : Str) (t : T) : ∀ bs, some y ∈ T.fl bs t ↔ (some y ∈ T.fl [] t ∧ y ∉ bs) := by
  induction t with
  | num i => intro bs; simp [T.fl]
  | name x =>
    intro bs
    simp only [T.fl, List.mem_singleton, List.not_mem_nil, if_false]
    by_cases h : x ∈ bs
    · rw [if_pos h]
      constructor
      · intro z; cases z
      · rintro ⟨z, hn⟩; cases z; exact absurd h hn
    · rw [if_neg h]
      constructor
      · intro z; cases z; exact ⟨rfl, h⟩
      · exact fun z => z.1
  | fn x b ih =>
    intro bs
    simp only [T.fl, List.mem_cons, reduceCtorEq, false_or, List.nil_append]
    rw [ih (bs ++ [x]), ih [x]]
    simp only [List.mem_append, List.mem_singleton, not_or]
    exact ⟨fun ⟨a, b, c⟩ => ⟨⟨a, c⟩, b⟩, fun ⟨⟨a, c⟩, b⟩ => ⟨a, b, c⟩⟩
  | call a b h1 h2 =>
    intro bs
    simp only [T.fl, List.mem_cons, List.mem_append, reduceCtorEq, false_or]
    rw [h1 bs, h2 bs]
    exact ⟨fun h => h.elim (fun z => ⟨.inl z.1, z.2⟩) fun z => ⟨.inr z.1, z.2⟩, fun ⟨h, z⟩ => h.elim (fun w => .inl ⟨w, z⟩) fun w => .inr ⟨w, z⟩⟩
  | plus a b h1 h2 =>
    intro bs
    simp only [T.fl, List.mem_cons, List.mem_append, reduceCtorEq, false_or]
    rw [h1 bs, h2 bs]
    exact ⟨fun h => h.elim (fun z => ⟨.inl z.1, z.2⟩) fun z => ⟨.inr z.1, z.2⟩, fun ⟨h, z⟩ => h.elim (fun w => .inl ⟨w, z⟩) fun w => .inr ⟨w, z⟩⟩
  | less a b h1 h2 =>
    intro bs
    simp only [T.fl, List.mem_cons, List.mem_append, reduceCtorEq, false_or]
    rw [h1 bs, h2 bs]
    exact ⟨fun h => h.elim (fun z => ⟨.inl z.1, z.2⟩) fun z => ⟨.inr z.1, z.2⟩, fun ⟨h, z⟩ => h.elim (fun w => .inl ⟨w, z⟩) fun w => .inr ⟨w, z⟩⟩
  | ite a b c h1 h2 h3 =>
    intro bs
    simp only [T.fl, List.mem_cons, List.mem_append, reduceCtorEq, false_or]
    rw [h1 bs, h2 bs, h3 bs]
    constructor
    · rintro (z | z | z)
      · exact ⟨.inl z.1, z.2⟩
      · exact ⟨.inr (.inl z.1), z.2⟩
      · exact ⟨.inr (.inr z.1), z.2⟩
    · rintro ⟨z | z | z, w⟩
      · exact .inl ⟨z, w⟩
      · exact .inr (.inl ⟨z, w⟩)
      · exact .inr (.inr ⟨z, w⟩)
  | lett x a b h1 h2 =>
    intro bs
    simp only [T.fl, List.mem_cons, List.mem_append, reduceCtorEq, false_or, List.nil_append]
    rw [h1 bs, h2 (bs ++ [x]), h2 [x]]
    simp only [List.mem_append, List.mem_singleton, not_or]
    constructor
    · rintro (z | z)
      · exact ⟨.inl z.1, z.2⟩
      · exact ⟨.inr ⟨z.1, z.2.2⟩, z.2.1⟩
    · rintro ⟨z | z, w⟩
      · exact .inl ⟨z, w⟩
      · exact .inr ⟨z.1, w, z.2⟩
/-- y stands free in t -/
abbrev FreeIn (y : Str) (t : T) : Prop := some y ∈ T.fl [] t
theorem freeL_iff (y : Str) (t : T) : y ∈ t.freeL ↔ FreeIn y t := (addF_fold (T.fl [] t)).2.1 y
theorem free_fn {y x : Str} {b : T} : FreeIn y (.fn x b) ↔ (FreeIn y b ∧ y ≠ x) := by
  show some y ∈ none :: T.fl ([] ++ [x]) b ↔ _
  rw [List.mem_cons, List.nil_append, fl_mem y b [x], List.mem_singleton]
  simp
theorem free_let {y x : Str} {a b : T} : FreeIn y (.lett x a b) ↔ (FreeIn y a ∨ (FreeIn y b ∧ y ≠ x)) := by
  show some y ∈ none :: (T.fl [] a ++ T.fl ([] ++ [x]) b) ↔ _
  rw [List.mem_cons, List.mem_append, List.nil_append, fl_mem y b [x], List.mem_singleton]
  simp
/-! the invariant -/
def rowW : Row → Nat
  | (true, t, _, _) => 2 * t.size
  | (false, _, _, _) => 1
def msW (most : Nat) (m : MS) : Nat := (most - m.deeds) * 1000 + (m.todo.map rowW).sum
def arity : Row → Nat
  | (true, _, _, _) => 0
  | (false, t, _, _) => match t with
    | .lett _ _ _ => 1
    | .ite _ _ _ => 1
    | _ => 2
def bal : List Row → Nat → Prop
  | [], k => k = 1
  | r :: rest, k => arity r ≤ k ∧ bal rest (k - arity r + 1)
def inner : T → Prop
  | .num _ => False
  | .name _ => False
  | .fn _ _ => False
  | _ => True
def goodV (made : List Va) (v : Va) : Prop := (∃ i, v = .num i) ∨ v ∈ made
structure RowI (t0 : T) (made : List Va) (B : Nat) (r : Row) : Prop where
  held : ∀ h ∈ r.2.2.2, goodV made h
  len : r.2.2.1.length = r.2.2.2.length
  sub : T.Sub t0 r.2.1
  free : ∀ y, FreeIn y r.2.1 → y ∈ r.2.2.1
  inn : r.1 = false → inner r.2.1
  bnd : r.2.2.1.length ≤ B
structure MadeI (t0 : T) (made : List Va) (v : Va) : Prop where
  ex : ∃ x b hs, v = .fn x b (T.fn x b).freeL hs ∧ hs.length = (T.fn x b).freeL.length ∧ (∀ h ∈ hs, goodV made h) ∧ T.Sub t0 (.fn x b)
structure MI (t0 : T) (most B : Nat) (m : MS) : Prop where
  done : ∀ v ∈ m.done, goodV m.made v
  todo : ∀ r ∈ m.todo, RowI t0 m.made (B - msW most m) r
  made : ∀ v ∈ m.made, MadeI t0 m.made v
  bal : bal m.todo m.done.length
  deeds : m.deeds ≤ most
  b0 : msW most m + 1000 ≤ B
  b1 : m.done.length + msW most m ≤ B
  b2 : m.made.length + msW most m ≤ B
theorem goodV.mono {made : List Va} {v w : Va} (h : goodV made v) : goodV (made ++ [w]) v := h.elim .inl fun z => .inr (List.mem_append_left _ z)
theorem RowI.mono {t0 : T} {made : List Va} {B B' : Nat} {r : Row} {l : List Va} (h : RowI t0 made B r) (hl : ∀ v, goodV made v → goodV l v) (hB : B ≤ B') : RowI t0 l B' r := ⟨fun v hv => hl v (h.held v hv), h.len, h.sub, h.free, h.inn, Nat.le_trans h.bnd hB⟩
theorem MadeI.mono {t0 : T} {made l : List Va} {v : Va} (h : MadeI t0 made v) (hl : ∀ v, goodV made v → goodV l v) : MadeI t0 l v := by
  obtain ⟨x, b, hs, e, h1, h2, h3⟩ := h.ex
  exact ⟨x, b, hs, e, h1, fun w hw => hl w (h2 w hw), h3⟩
theorem sum_rows (l : List Row) : l.length ≤ (l.map rowW).sum := by
  induction l with
  | nil => exact Nat.le_refl _
  | cons r l ih =>
    rw [List.length_cons, List.map_cons, List.sum_cons]
    have : 1 ≤ rowW r := by
      obtain ⟨b, t, ns, hs⟩ := r
      cases b with
      | true => have := size_pos t; show 1 ≤ 2 * t.size; omega
      | false => exact Nat.le_refl _
    omega
/-- a look keeps it -/
theorem see_keeps {t0 : T} {most B : Nat} {t : T} {ns : List Str} {hs : List Va} {rest : List Row} {done made : List Va} {deeds : Nat} (ht0 : t0.size ≤ 400) (h : MI t0 most B ⟨(true, t, ns, hs) :: rest, done, deeds, made⟩) :
    MI t0 most B (seeM t ns hs ⟨rest, done, deeds, made⟩) ∧ msW most (seeM t ns hs ⟨rest, done, deeds, made⟩) < msW most ⟨(true, t, ns, hs) :: rest, done, deeds, made⟩ := by
  obtain ⟨i1, i2, i3, i4, i5, i6, i7, i8⟩ := h
  have r0 := i2 _ List.mem_cons_self
  have rr : ∀ r ∈ rest, RowI t0 made (B - msW most ⟨(true, t, ns, hs) :: rest, done, deeds, made⟩) r := fun r hr => i2 r (List.mem_cons_of_mem _ hr)
  have w0 : msW most ⟨(true, t, ns, hs) :: rest, done, deeds, made⟩ = (most - deeds) * 1000 + (2 * t.size + (rest.map rowW).sum) := by
    unfold msW
    rw [List.map_cons, List.sum_cons]; rfl
  rw [w0] at i6 i7 i8 r0 rr ⊢
  dsimp only at i1 i3 i5 i7 i8
  have b0 : bal rest (done.length + 1) := i4.2
  have tp := size_pos t
  have leaf : ∀ (v : Va), goodV made v → MI t0 most B ⟨rest, v :: done, deeds, made⟩ ∧ msW most ⟨rest, v :: done, deeds, made⟩ < (most - deeds) * 1000 + (2 * t.size + (rest.map rowW).sum) := fun v hv => by
    have w1 : msW most ⟨rest, v :: done, deeds, made⟩ = (most - deeds) * 1000 + (rest.map rowW).sum := rfl
    refine ⟨⟨fun u hu => ?_, fun r hr => (rr r hr).mono (fun _ z => z) (by rw [w1]; omega), i3, b0, i5, by rw [w1]; omega, by rw [w1, List.length_cons]; omega, by rw [w1]; dsimp only; omega⟩, by rw [w1]; omega⟩
    rcases List.mem_cons.mp hu with rfl | hu
    · exact hv
    · exact i1 u hu
  -- rows that are pushed: parts of t, and t itself
  have two : ∀ (a : T), inner t → a ∈ t.parts → a.size + 1 ≤ t.size → (∀ y, FreeIn y a → FreeIn y t) → arity (false, t, ns, hs) = 1 →
      MI t0 most B ⟨(true, a, ns, hs) :: (false, t, ns, hs) :: rest, done, deeds, made⟩ ∧ msW most ⟨(true, a, ns, hs) :: (false, t, ns, hs) :: rest, done, deeds, made⟩ < (most - deeds) * 1000 + (2 * t.size + (rest.map rowW).sum) := fun a hin ha hsz hfr har => by
    have w1 : msW most ⟨(true, a, ns, hs) :: (false, t, ns, hs) :: rest, done, deeds, made⟩ = (most - deeds) * 1000 + (2 * a.size + (1 + (rest.map rowW).sum)) := by
      unfold msW
      rw [List.map_cons, List.sum_cons, List.map_cons, List.sum_cons]; rfl
    refine ⟨⟨i1, fun r hr => ?_, i3, ⟨Nat.zero_le _, by rw [har]; show 1 ≤ done.length - 0 + 1; omega, by rw [har]; exact b0⟩, i5, by rw [w1]; omega, by rw [w1]; dsimp only; omega, by rw [w1]; dsimp only; omega⟩, by rw [w1]; omega⟩
    rw [w1]
    rcases List.mem_cons.mp hr with rfl | hr
    · exact ⟨r0.held, r0.len, .part r0.sub ha, fun y hy => r0.free y (hfr y hy), (fun z => nomatch z), Nat.le_trans r0.bnd (by omega)⟩
    · rcases List.mem_cons.mp hr with rfl | hr
      · exact ⟨r0.held, r0.len, r0.sub, r0.free, fun _ => hin, Nat.le_trans r0.bnd (by omega)⟩
      · exact (rr r hr).mono (fun _ z => z) (by omega)
  have three : ∀ (a b : T), inner t → a ∈ t.parts → b ∈ t.parts → a.size + b.size + 1 ≤ t.size → (∀ y, FreeIn y a → FreeIn y t) → (∀ y, FreeIn y b → FreeIn y t) → arity (false, t, ns, hs) = 2 →
      MI t0 most B ⟨(true, a, ns, hs) :: (true, b, ns, hs) :: (false, t, ns, hs) :: rest, done, deeds, made⟩ ∧ msW most ⟨(true, a, ns, hs) :: (true, b, ns, hs) :: (false, t, ns, hs) :: rest, done, deeds, made⟩ < (most - deeds) * 1000 + (2 * t.size + (rest.map rowW).sum) := fun a b hin ha hb hsz hfa hfb har => by
    have w1 : msW most ⟨(true, a, ns, hs) :: (true, b, ns, hs) :: (false, t, ns, hs) :: rest, done, deeds, made⟩ = (most - deeds) * 1000 + (2 * a.size + (2 * b.size + (1 + (rest.map rowW).sum))) := by
      unfold msW
      rw [List.map_cons, List.sum_cons, List.map_cons, List.sum_cons, List.map_cons, List.sum_cons]; rfl
    refine ⟨⟨i1, fun r hr => ?_, i3, ⟨Nat.zero_le _, Nat.zero_le _, by rw [har]; show 2 ≤ done.length - 0 + 1 - 0 + 1; omega, by rw [har]; exact b0⟩, i5, by rw [w1]; omega, by rw [w1]; dsimp only; omega, by rw [w1]; dsimp only; omega⟩, by rw [w1]; omega⟩
    rw [w1]
    rcases List.mem_cons.mp hr with rfl | hr
    · exact ⟨r0.held, r0.len, .part r0.sub ha, fun y hy => r0.free y (hfa y hy), (fun z => nomatch z), Nat.le_trans r0.bnd (by omega)⟩
    · rcases List.mem_cons.mp hr with rfl | hr
      · exact ⟨r0.held, r0.len, .part r0.sub hb, fun y hy => r0.free y (hfb y hy), (fun z => nomatch z), Nat.le_trans r0.bnd (by omega)⟩
      · rcases List.mem_cons.mp hr with rfl | hr
        · exact ⟨r0.held, r0.len, r0.sub, r0.free, fun _ => hin, Nat.le_trans r0.bnd (by omega)⟩
        · exact (rr r hr).mono (fun _ z => z) (by omega)
  have held : ∀ y ∈ ns, goodV made ((lkp y ns hs).getD (.num 0)) := fun y hy => by
    obtain ⟨v, e, hv⟩ := lkp_some r0.len hy
    rw [e]
    exact r0.held v hv
  cases t with
  | num i => exact leaf _ (.inl ⟨i, rfl⟩)
  | name x => exact leaf _ (held x (r0.free x (by show some x ∈ T.fl [] (.name x); simp [T.fl])))
  | fn x b =>
    have w1 : msW most ⟨rest, keptV x b ns hs :: done, deeds, made ++ [keptV x b ns hs]⟩ = (most - deeds) * 1000 + (rest.map rowW).sum := rfl
    have gn : goodV (made ++ [keptV x b ns hs]) (keptV x b ns hs) := .inr (by simp)
    have up : ∀ v, goodV made v → goodV (made ++ [keptV x b ns hs]) v := fun v h => h.mono
    have sz : (T.fn x b).size = b.size + 1 := rfl
    refine ⟨⟨fun u hu => ?_, fun r hr => (rr r hr).mono up (by show _ ≤ B - msW most ⟨rest, keptV x b ns hs :: done, deeds, made ++ [keptV x b ns hs]⟩; rw [w1]; omega), fun u hu => ?_, b0, i5, by show msW most ⟨rest, keptV x b ns hs :: done, deeds, made ++ [keptV x b ns hs]⟩ + 1000 ≤ B; rw [w1]; omega, by show (keptV x b ns hs :: done).length + msW most ⟨rest, keptV x b ns hs :: done, deeds, made ++ [keptV x b ns hs]⟩ ≤ B; rw [w1, List.length_cons]; omega, by show (made ++ [keptV x b ns hs]).length + msW most ⟨rest, keptV x b ns hs :: done, deeds, made ++ [keptV x b ns hs]⟩ ≤ B; rw [w1, List.length_append, List.length_singleton]; omega⟩, by show msW most ⟨rest, keptV x b ns hs :: done, deeds, made ++ [keptV x b ns hs]⟩ < _; rw [w1]; omega⟩
    · rcases List.mem_cons.mp hu with rfl | hu
      · exact gn
      · exact up u (i1 u hu)
    · rcases List.mem_append.mp hu with hu | hu
      · exact (i3 u hu).mono up
      · rw [List.mem_singleton.mp hu]
        refine ⟨x, b, _, rfl, by unfold wsOf; rw [List.length_map], fun h hh => ?_, r0.sub⟩
        obtain ⟨y, hy, rfl⟩ := List.mem_map.mp hh
        exact up _ (held y (r0.free y ((freeL_iff y _).mp hy)))
  | lett x a b => exact two a trivial (by simp [T.parts]) (by simp only [T.size]; omega) (fun y hy => free_let.mpr (.inl hy)) rfl
  | ite a b c => exact two a trivial (by simp [T.parts]) (by simp only [T.size]; omega) (fun y hy => by show some y ∈ T.fl [] (.ite a b c); simp [T.fl, hy]) rfl
  | call a b => exact three a b trivial (by simp [T.parts]) (by simp [T.parts]) (by simp only [T.size]; omega) (fun y hy => by show some y ∈ T.fl [] (.call a b); simp [T.fl, hy]) (fun y hy => by show some y ∈ T.fl [] (.call a b); simp [T.fl, hy]) rfl
  | plus a b => exact three a b trivial (by simp [T.parts]) (by simp [T.parts]) (by simp only [T.size]; omega) (fun y hy => by show some y ∈ T.fl [] (.plus a b); simp [T.fl, hy]) (fun y hy => by show some y ∈ T.fl [] (.plus a b); simp [T.fl, hy]) rfl
  | less a b => exact three a b trivial (by simp [T.parts]) (by simp [T.parts]) (by simp only [T.size]; omega) (fun y hy => by show some y ∈ T.fl [] (.less a b); simp [T.fl, hy]) (fun y hy => by show some y ∈ T.fl [] (.less a b); simp [T.fl, hy]) rfl
end Mi
namespace Mi
open PySem
theorem made_of {t0 : T} {made : List Va} {x : Str} {b : T} {ns : List Str} {hs : List Va} (h3 : ∀ v ∈ made, MadeI t0 made v) (h : goodV made (.fn x b ns hs)) : ns = (T.fn x b).freeL ∧ hs.length = ns.length ∧ (∀ h ∈ hs, goodV made h) ∧ T.Sub t0 (.fn x b) := by
  rcases h with ⟨i, h⟩ | h
  · cases h
  · obtain ⟨x', b', hs', e, h1, h2, h4⟩ := (h3 _ h).ex
    cases e
    exact ⟨rfl, h1, h2, h4⟩
/-- a deed keeps it -/
theorem turn_keeps {t0 : T} {most B : Nat} {t : T} {ns : List Str} {hs : List Va} {rest : List Row} {done made : List Va} {deeds : Nat} (ht0 : t0.size ≤ 400) (h : MI t0 most B ⟨(false, t, ns, hs) :: rest, done, deeds, made⟩) :
    match turnM t ns hs (most : Int) ⟨rest, done, deeds, made⟩ with
    | .inl k => k = 4 ∨ k = 5 ∨ k = 6
    | .inr m' => MI t0 most B m' ∧ msW most m' < msW most ⟨(false, t, ns, hs) :: rest, done, deeds, made⟩ := by
  obtain ⟨i1, i2, i3, i4, i5, i6, i7, i8⟩ := h
  have r0 := i2 _ List.mem_cons_self
  have rr : ∀ r ∈ rest, RowI t0 made (B - msW most ⟨(false, t, ns, hs) :: rest, done, deeds, made⟩) r := fun r hr => i2 r (List.mem_cons_of_mem _ hr)
  have w0 : msW most ⟨(false, t, ns, hs) :: rest, done, deeds, made⟩ = (most - deeds) * 1000 + (1 + (rest.map rowW).sum) := by
    unfold msW
    rw [List.map_cons, List.sum_cons]; rfl
  rw [w0] at i6 i7 i8 r0 rr ⊢
  dsimp only at i1 i3 i5 i7 i8 i4
  by_cases hd : (deeds : Int) = most
  · have e : turnM t ns hs (most : Int) ⟨rest, done, deeds, made⟩ = .inl 6 := if_pos hd
    rw [e]
    exact .inr (.inr rfl)
  have e : turnM t ns hs (most : Int) ⟨rest, done, deeds, made⟩ = turnB t ns hs ⟨rest, done, deeds, made⟩ := if_neg hd
  rw [e]
  have hlt : deeds + 1 ≤ most := by omega
  have hw : (most - (deeds + 1)) * 1000 + 1000 = (most - deeds) * 1000 := by
    have : most - deeds = (most - (deeds + 1)) + 1 := by omega
    rw [this, Nat.add_mul]
  have inn := r0.inn rfl
  have b1 : bal rest (done.length - arity (false, t, ns, hs) + 1) := i4.2
  have b0 : arity (false, t, ns, hs) ≤ done.length := i4.1
  have push : ∀ (u : T) (ns2 : List Str) (hs2 : List Va) (dn : List Va), T.Sub t0 u → (∀ h ∈ hs2, goodV made h) → ns2.length = hs2.length → (∀ y, FreeIn y u → y ∈ ns2) → (ns2.length ≤ ns.length + 1 ∨ ns2.length ≤ 500) → (∀ v ∈ dn, v ∈ done) → dn.length + arity (false, t, ns, hs) = done.length →
      MI t0 most B ⟨(true, u, ns2, hs2) :: rest, dn, deeds + 1, made⟩ ∧ msW most ⟨(true, u, ns2, hs2) :: rest, dn, deeds + 1, made⟩ < (most - deeds) * 1000 + (1 + (rest.map rowW).sum) := fun u ns2 hs2 dn hsub hh hl hf hb hdn hlen => by
    have us := sub_size hsub
    have w1 : msW most ⟨(true, u, ns2, hs2) :: rest, dn, deeds + 1, made⟩ = (most - (deeds + 1)) * 1000 + (2 * u.size + (rest.map rowW).sum) := by
      unfold msW
      rw [List.map_cons, List.sum_cons]; rfl
    have bn := r0.bnd
    dsimp only at bn
    refine ⟨⟨fun v hv => i1 v (hdn v hv), fun r hr => ?_, i3, ⟨Nat.zero_le _, ?_⟩, hlt, by rw [w1]; omega, by rw [w1]; dsimp only; omega, by rw [w1]; dsimp only; omega⟩, by rw [w1]; omega⟩
    · rw [w1]
      rcases List.mem_cons.mp hr with rfl | hr
      · exact ⟨hh, hl, hsub, hf, (fun z => nomatch z), by dsimp only; omega⟩
      · exact (rr r hr).mono (fun _ z => z) (by omega)
    · show bal rest (dn.length - 0 + 1)
      rw [show dn.length - 0 + 1 = done.length - arity (false, t, ns, hs) + 1 by omega]
      exact b1
  have keep : ∀ (v : Va) (dn : List Va), goodV made v → (∀ v ∈ dn, v ∈ done) → dn.length + arity (false, t, ns, hs) = done.length →
      MI t0 most B ⟨rest, v :: dn, deeds + 1, made⟩ ∧ msW most ⟨rest, v :: dn, deeds + 1, made⟩ < (most - deeds) * 1000 + (1 + (rest.map rowW).sum) := fun v dn hv hdn hlen => by
    have w1 : msW most ⟨rest, v :: dn, deeds + 1, made⟩ = (most - (deeds + 1)) * 1000 + (rest.map rowW).sum := rfl
    refine ⟨⟨fun u hu => ?_, fun r hr => ?_, i3, ?_, hlt, by rw [w1]; omega, by rw [w1]; dsimp only; rw [List.length_cons]; omega, by rw [w1]; dsimp only; omega⟩, by rw [w1]; omega⟩
    · rcases List.mem_cons.mp hu with rfl | hu
      · exact hv
      · exact i1 u (hdn u hu)
    · rw [w1]
      exact (rr r hr).mono (fun _ z => z) (by omega)
    · show bal rest (dn.length + 1)
      rw [show dn.length + 1 = done.length - arity (false, t, ns, hs) + 1 by omega]
      exact b1
  have ls : ns.length = hs.length := r0.len
  cases t with
  | num i => exact inn.elim
  | name x => exact inn.elim
  | fn x b => exact inn.elim
  | lett x a b =>
    match done, b0, i1, push with
    | [], b0, _, _ => exact absurd b0 (by show ¬ 1 ≤ 0; omega)
    | v :: dn, _, i1, push =>
      refine push b (ns ++ [x]) (hs ++ [v]) dn (.part r0.sub (by simp [T.parts])) (fun h hh => ?_) (by rw [List.length_append, List.length_append, ls]; rfl) (fun y hy => ?_) (.inl (by simp)) (fun v hv => List.mem_cons_of_mem _ hv) rfl
      · rcases List.mem_append.mp hh with hh | hh
        · exact r0.held h hh
        · rw [List.mem_singleton.mp hh]; exact i1 v List.mem_cons_self
      · by_cases e : y = x
        · simp [e]
        · exact List.mem_append_left _ (r0.free y (free_let.mpr (.inr ⟨hy, e⟩)))
  | ite a b c =>
    match done, b0, i1, push with
    | [], b0, _, _ => exact absurd b0 (by show ¬ 1 ≤ 0; omega)
    | .num i :: dn, _, i1, push =>
      refine push (if i = 0 then c else b) ns hs dn (.part r0.sub (by split <;> simp [T.parts])) r0.held ls (fun y hy => r0.free y ?_) (.inl (by omega)) (fun v hv => List.mem_cons_of_mem _ hv) rfl
      show some y ∈ T.fl [] (.ite a b c)
      split at hy <;> simp [T.fl, hy]
    | .fn y e ns' hs' :: dn, _, _, _ => exact .inl rfl
  | call a b =>
    match done, b0, i1, push with
    | [], b0, _, _ => exact absurd b0 (by show ¬ 2 ≤ 0; omega)
    | [_], b0, _, _ => exact absurd b0 (by show ¬ 2 ≤ 1; omega)
    | v :: .num i :: dn, _, _, _ => exact .inr (.inl rfl)
    | v :: .fn y e ns' hs' :: dn, _, i1, push =>
      obtain ⟨m1, m2, m3, m4⟩ := made_of i3 (i1 (.fn y e ns' hs') (List.mem_cons_of_mem _ List.mem_cons_self))
      have sz := sub_size m4
      have fl := freeL_len (T.fn y e)
      refine push e (ns' ++ [y]) (hs' ++ [v]) dn (.part m4 (by simp [T.parts])) (fun h hh => ?_) (by rw [List.length_append, List.length_append, m2]; rfl) (fun z hz => ?_) (.inr (by rw [List.length_append, List.length_singleton, m1]; omega)) (fun v hv => List.mem_cons_of_mem _ (List.mem_cons_of_mem _ hv)) rfl
      · rcases List.mem_append.mp hh with hh | hh
        · exact m3 h hh
        · rw [List.mem_singleton.mp hh]; exact i1 v List.mem_cons_self
      · by_cases e' : z = y
        · simp [e']
        · refine List.mem_append_left _ ?_
          rw [m1]
          exact (freeL_iff z _).mpr (free_fn.mpr ⟨hz, e'⟩)
  | plus a b =>
    match done, b0, i1, keep with
    | [], b0, _, _ => exact absurd b0 (by show ¬ 2 ≤ 0; omega)
    | [_], b0, _, _ => exact absurd b0 (by show ¬ 2 ≤ 1; omega)
    | v :: .fn y e ns' hs' :: dn, _, _, _ => cases v <;> exact .inl rfl
    | .fn y e ns' hs' :: .num i :: dn, _, _, _ => exact .inl rfl
    | .num j :: .num i :: dn, _, _, keep => exact keep (.num (i + j)) dn (.inl ⟨_, rfl⟩) (fun v hv => List.mem_cons_of_mem _ (List.mem_cons_of_mem _ hv)) rfl
  | less a b =>
    match done, b0, i1, keep with
    | [], b0, _, _ => exact absurd b0 (by show ¬ 2 ≤ 0; omega)
    | [_], b0, _, _ => exact absurd b0 (by show ¬ 2 ≤ 1; omega)
    | v :: .fn y e ns' hs' :: dn, _, _, _ => cases v <;> exact .inl rfl
    | .fn y e ns' hs' :: .num i :: dn, _, _, _ => exact .inl rfl
    | .num j :: .num i :: dn, _, _, keep => exact keep (.num (i - j)) dn (.inl ⟨_, rfl⟩) (fun v hv => List.mem_cons_of_mem _ (List.mem_cons_of_mem _ hv)) rfl
/-- it is as the mill wants it -/
theorem row_ok {t0 : T} {most B : Nat} {m : MS} (ht0 : t0.size ≤ 400) (hB : B ≤ 999000) (h : MI t0 most B m) (hne : m.todo ≠ []) : RowOk m := by
  obtain ⟨todo, done, deeds, made⟩ := m
  cases todo with
  | nil => exact absurd rfl hne
  | cons r rest =>
    obtain ⟨b, t, ns, hs⟩ := r
    obtain ⟨i1, i2, i3, i4, i5, i6, i7, i8⟩ := h
    have r0 := i2 _ List.mem_cons_self
    have sz := sub_size r0.sub
    have bn := r0.bnd
    have ln := r0.len
    dsimp only at bn ln sz i7 i8
    have sr := sum_rows rest
    have w : (rest.map rowW).sum ≤ msW most ⟨(b, t, ns, hs) :: rest, done, deeds, made⟩ := by
      unfold msW
      rw [List.map_cons, List.sum_cons]
      omega
    cases b with
    | true =>
      refine ⟨?_, ln, by omega, by omega, by omega, by dsimp only; omega, by dsimp only; omega⟩
      cases t with
      | name x => exact r0.free x (by show some x ∈ T.fl [] (.name x); simp [T.fl])
      | fn x b => exact fun y hy => r0.free y ((freeL_iff y _).mp hy)
      | _ => trivial
    | false =>
      refine ⟨?_, by omega, by omega, by omega, by dsimp only; omega, fun v hv => ?_⟩
      · have inn := r0.inn rfl
        have b0 : arity (false, t, ns, hs) ≤ done.length := i4.1
        cases t <;> first | exact inn.elim | exact b0
      · have gv := i1 v hv
        cases v with
        | num i => trivial
        | fn x e ns' hs' =>
          obtain ⟨m1, m2, m3, m4⟩ := made_of i3 gv
          have sz := sub_size m4
          have fl := freeL_len (T.fn x e)
          rw [← m1] at fl
          exact ⟨by omega, by omega⟩
def FinI (t0 : T) (most B : Nat) : Sum Nat MS → Prop
  | .inl k => k = 4 ∨ k = 5 ∨ k = 6
  | .inr m => MI t0 most B m ∧ m.todo = []
theorem mill_ends {t0 : T} {most B : Nat} (ht0 : t0.size ≤ 400) (hB : B ≤ 999000) : ∀ (w : Nat) (m : MS), msW most m ≤ w → MI t0 most B m → ∃ r, MRun (most : Int) m r ∧ FinI t0 most B r := by
  intro w
  induction w with
  | zero =>
    intro m hw h
    have e : m.todo = [] := by
      have := sum_rows m.todo
      unfold msW at hw
      exact List.eq_nil_of_length_eq_zero (by omega)
    exact ⟨.inr m, .done e, h, e⟩
  | succ w ih =>
    intro m hw h
    by_cases e : m.todo = []
    · exact ⟨.inr m, .done e, h, e⟩
    have ro := row_ok ht0 hB h e
    obtain ⟨todo, done, deeds, made⟩ := m
    cases todo with
    | nil => exact absurd rfl e
    | cons r rest =>
      obtain ⟨b, t, ns, hs⟩ := r
      cases b with
      | true =>
        obtain ⟨k1, k2⟩ := see_keeps ht0 h
        obtain ⟨r, q1, q2⟩ := ih _ (by omega) k1
        exact ⟨r, .step ro rfl q1, q2⟩
      | false =>
        have k := turn_keeps ht0 h
        cases q : turnM t ns hs (most : Int) ⟨rest, done, deeds, made⟩ with
        | inl k' =>
          rw [q] at k
          exact ⟨.inl k', .stop ro q, k⟩
        | inr m' =>
          rw [q] at k
          obtain ⟨r, q1, q2⟩ := ih m' (by omega) k.1
          exact ⟨r, .step ro q q1, q2⟩
/-- the mill comes to an end -/
theorem mill_total {t : T} {most : Nat} (w : Work t most) (hm : most ≤ 900) : ∃ r B, MRun (most : Int) (mill0 t) r ∧ FinI t most B r := by
  have hs := w.size
  have w0 : msW most ⟨[(true, t, [], [])], [], 0, []⟩ = most * 1000 + 2 * t.size := by
    unfold msW rowW
    simp
  have i0 : MI t most (most * 1000 + 2 * t.size + 1000) ⟨[(true, t, [], [])], [], 0, []⟩ := by
    refine ⟨(fun v hv => nomatch hv), fun r hr => ?_, (fun v hv => nomatch hv), ⟨Nat.zero_le _, rfl⟩, Nat.zero_le _, by rw [w0]; exact Nat.le_refl _, by rw [w0]; simp, by rw [w0]; simp⟩
    rw [List.mem_singleton.mp hr]
    exact ⟨fun h hh => (nomatch hh), rfl, .refl, fun y hy => by rw [← freeL_iff, w.closed] at hy; exact hy, (fun z => nomatch z), Nat.zero_le _⟩
  obtain ⟨k1, k2⟩ := see_keeps hs i0
  obtain ⟨r, q1, q2⟩ := mill_ends hs (by omega) _ _ (Nat.le_refl _) k1
  exact ⟨r, _, q1, q2⟩
theorem fin_one {t0 : T} {most B : Nat} {m : MS} (h : FinI t0 most B (.inr m)) : ∃ v, m.done = [v] ∧ goodV m.made v := by
  obtain ⟨h, e⟩ := h
  have b := h.bal
  rw [e] at b
  have b : m.done.length = 1 := b
  match q : m.done, b with
  | [v], _ => exact ⟨v, rfl, h.done v (by rw [q]; exact List.mem_cons_self)⟩
end Mi
namespace Mi
open PySem
/-! ### lists of names side by side -/
theorem toPs_strs : ∀ F : List Str, toPs (F.map D.str) = some (F.map PyData.str)
  | [] => rfl
  | x :: r => by
    rw [List.map_cons]
    show (toP (.str x)).bind (fun p => (toPs (r.map D.str)).map fun ps => p :: ps) = _
    rw [toPs_strs r]; rfl
theorem lay_strs : ∀ F : List Str, (∀ x ∈ F, PyData.strOk x = true) → PyData.canLayAll0 (F.map PyData.str) = true
  | [], _ => rfl
  | x :: r, h => by
    rw [List.map_cons]
    have h1 := h x List.mem_cons_self
    have h2 := lay_strs r fun y hy => h y (List.mem_cons_of_mem _ hy)
    simp [PyData.canLayAll0, PyData.canLay0, h1, h2]
theorem dep_strs : ∀ F : List Str, PyData.depthAll (F.map PyData.str) ≤ 1
  | [] => by simp [PyData.depthAll]
  | x :: r => by
    have := dep_strs r
    simp [PyData.depthAll, PyData.depth]
    try omega
theorem strs_cmp {F G : List Str} (hF : ∀ x ∈ F, PyData.strOk x = true) (hG : ∀ x ∈ G, PyData.strOk x = true) : ∃ b, cEq (.val (.lst (F.map .str))) (.val (.lst (G.map .str))) = some b ∧ (F = G → b = true) := by
  have l1 : (PyData.list (F.map PyData.str)).canLay0 = true := by simp [PyData.canLay0, lay_strs F hF]
  have l2 : (PyData.list (G.map PyData.str)).canLay0 = true := by simp [PyData.canLay0, lay_strs G hG]
  have d1 : (PyData.list (F.map PyData.str)).depth ≤ 1000 := by
    have := dep_strs F
    simp [PyData.depth]
    omega
  refine ⟨PyData.eqv (.list (F.map .str)) (.list (G.map .str)), ?_, fun e => ?_⟩
  · show (if scalD (.lst (F.map .str)) (.lst (G.map .str)) = true then some (eqF (.lst (F.map .str)) (.lst (G.map .str))) else ((toPs (F.map D.str)).map PyData.list).bind fun p => ((toPs (G.map D.str)).map PyData.list).bind fun q => deepEq p q) = _
    rw [if_neg (by exact Bool.false_ne_true), toPs_strs, toPs_strs]
    show deepEq (.list (F.map .str)) (.list (G.map .str)) = _
    unfold deepEq
    rw [l1, l2, if_pos (by rw [Bool.and_self, Bool.true_and]; exact decide_eq_true d1)]
  · subst e
    exact SeqAt.eqv_refl _ l1
theorem strs_ne {F : List Str} (hF : ∀ x ∈ F, PyData.strOk x = true) : cEq (.val (.lst (F.map .str))) (.val (.lst (F.map .str))) = some true := by
  obtain ⟨b, e, h⟩ := strs_cmp hF hF
  rw [e, h rfl]
/-- data that are laid out are equal to themselves -/
theorem eq_self {d : D} {p : PyData} (hd : scalD d d = false) (h : toP d = some p) (h1 : p.canLay0 = true) (h2 : p.depth ≤ 1000) : cEq (.val d) (.val d) = some true := by
  show (if scalD d d = true then some (eqF d d) else (toP d).bind fun p => (toP d).bind fun q => deepEq p q) = _
  rw [hd, if_neg Bool.false_ne_true, h, Option.bind_some, Option.bind_some]
  unfold deepEq
  rw [h1, if_pos (by rw [Bool.and_self, Bool.true_and]; exact decide_eq_true h2)]
  exact congrArg some (SeqAt.eqv_refl _ h1)
end Mi
namespace Mi.K12
open PySem Mi
/-! ### the bodies, the names each once -/
def bodyP (n : Int) : List Str → T
  | [] => .num n
  | x :: r => .plus (.name x) (bodyP n r)
theorem bodyP_size (n : Int) : ∀ r : List Str, (bodyP n r).size = 2 * r.length + 1
  | [] => rfl
  | x :: r => by rw [bodyP, T.size, bodyP_size n r, List.length_cons]; simp only [T.size]; omega
theorem bodyP_fold (n : Int) : ∀ r : List Str, r.reverse.foldl (fun t x => T.plus (.name x) t) (.num n) = bodyP n r := by
  intro r
  induction r with
  | nil => rfl
  | cons x r ih => rw [List.reverse_cons, List.foldl_append, ih]; rfl
theorem body_loop (Γ : Env) (a0 a1 : Cl) : ∀ (xs : List Str) (t : T) (c3 : Cl),
    ∃ c3', forL (fun d s => s.set 3 (.val d)) (execs Γ 4 [] 0 b_l_body_0) (xs.map .str) [a0, a1, .val t.d, c3] = some (.nx [a0, a1, .val (xs.foldl (fun t x => T.plus (.name x) t) t).d, c3'])
  | [], t, c3 => ⟨c3, rfl⟩
  | x :: xs, t, c3 => by
    obtain ⟨c3', e⟩ := body_loop Γ a0 a1 xs (.plus (.name x) t) (.val (.str x))
    refine ⟨c3', ?_⟩
    rw [List.map_cons, forL_cons, List.foldl_cons]
    have e1 : execs Γ 4 [] 0 b_l_body_0 ((fun (d : D) (s : S) => s.set 3 (.val d)) (.str x) [a0, a1, .val t.d, c3]) = some (.nx [a0, a1, .val (T.plus (.name x) t).d, .val (.str x)]) := by
      simp [b_l_body_0, T.d]
    rw [e1]
    exact e
theorem body_g (n : Nat) (row : List Str) (k : Int) : dc (prg.env (n + 1)) 101 [.lst (row.map .str), .int k] = some (.ok (.val (bodyP k row).d)) := by
  obtain ⟨c3, e⟩ := body_loop (prg.env n) (.val (.lst (row.map .str))) (.val (.int k)) row.reverse (.num k) .un
  rw [bodyP_fold, List.map_reverse] at e
  obtain ⟨s, q⟩ := rtv_of (o := execs (prg.env n) 4 [] 0 b_l_body [.val (.lst (row.map .str)), .val (.int k), .un, .un]) (a := .cl (.val (bodyP k row).d)) (by
    simp only [T.d] at e
    simp [b_l_body, exec_for, e])
  exact dc_ok (P := prg.fds) (n := n) (fd := f_l_body) (by rfl) rfl rfl rfl q
def onceS (wo : Str) (acc : List Str) (x : Str) : List Str := if x ∉ acc ∧ x ≠ wo then acc ++ [x] else acc
def once (row : List Str) (wo : Str) : List Str := row.foldl (onceS wo) []
theorem once_loop (Γ : Env) (a0 : Cl) (wo : Str) : ∀ (xs acc : List Str) (c3 : Cl), acc.length + xs.length ≤ 1000 →
    ∃ c3', forL (fun d s => s.set 3 (.val d)) (execs Γ 4 [] 0 b_l_once_0) (xs.map .str) [a0, .val (.str wo), .lst (acc.map .str), c3] = some (.nx [a0, .val (.str wo), .lst ((xs.foldl (onceS wo) acc).map .str), c3'])
  | [], acc, c3, _ => ⟨c3, rfl⟩
  | x :: xs, acc, c3, hl => by
    rw [List.length_cons] at hl
    have hz : acc.length < sizeLine := Nat.lt_of_le_of_lt (by omega : acc.length ≤ 1000000) million
    have hd : (onceS wo acc x).length ≤ acc.length + 1 := by unfold onceS; split <;> simp
    obtain ⟨c3', e⟩ := once_loop Γ a0 wo xs (onceS wo acc x) (.val (.str x)) (by omega)
    refine ⟨c3', ?_⟩
    rw [List.map_cons, forL_cons, List.foldl_cons]
    have e1 : execs Γ 4 [] 0 b_l_once_0 ((fun (d : D) (s : S) => s.set 3 (.val d)) (.str x) [a0, .val (.str wo), .lst (acc.map .str), c3]) = some (.nx [a0, .val (.str wo), .lst ((onceS wo acc x).map .str), .val (.str x)]) := by
      have hn := nin_strsO x acc
      unfold onceS
      by_cases h2 : x ∈ acc
      · simp [b_l_once_0, h2, hn]
      · by_cases h : x = wo
        · simp [b_l_once_0, h2, hn, h]
          subst h
          simp [h2, hn]
        · have h' : (x == wo) = false := by simp [h]
          simp [b_l_once_0, h2, hn, h, h', hz]
    rw [e1]
    exact e
theorem once_g (n : Nat) (row : List Str) (wo : Str) (hl : row.length ≤ 900) : dc (prg.env (n + 1)) 103 [.lst (row.map .str), .str wo] = some (.ok (.val (.lst ((once row wo).map .str)))) := by
  obtain ⟨c3, e⟩ := once_loop (prg.env n) (.val (.lst (row.map .str))) wo row [] .un (by simp; omega)
  obtain ⟨s, q⟩ := rtv_of (o := execs (prg.env n) 4 [] 0 b_l_once [.val (.lst (row.map .str)), .val (.str wo), .un, .un]) (a := .cl (.val (.lst ((once row wo).map .str)))) (by
    simp only [List.map_nil] at e
    unfold once
    simp [b_l_once, exec_for, e])
  exact dc_ok (P := prg.fds) (n := n) (fd := f_l_once) (by rfl) rfl rfl rfl q
theorem once_mem (wo : Str) : ∀ (xs acc : List Str) (y : Str), y ∈ xs.foldl (onceS wo) acc ↔ (y ∈ acc ∨ (y ∈ xs ∧ y ≠ wo))
  | [], acc, y => by simp
  | x :: xs, acc, y => by
    rw [List.foldl_cons, once_mem wo xs (onceS wo acc x) y]
    unfold onceS
    by_cases h : x ∉ acc ∧ x ≠ wo
    · rw [if_pos h, List.mem_append, List.mem_singleton, List.mem_cons]
      constructor
      · rintro ((z | z) | z)
        · exact .inl z
        · exact .inr ⟨.inl z, by rw [z]; exact h.2⟩
        · exact .inr ⟨.inr z.1, z.2⟩
      · rintro (z | ⟨z | z, w⟩)
        · exact .inl (.inl z)
        · exact .inl (.inr z)
        · exact .inr ⟨z, w⟩
    · rw [if_neg h, List.mem_cons]
      constructor
      · rintro (z | z)
        · exact .inl z
        · exact .inr ⟨.inr z.1, z.2⟩
      · rintro (z | ⟨z | z, w⟩)
        · exact .inl z
        · subst z
          by_cases h2 : y ∈ acc
          · exact .inl h2
          · exact absurd ⟨h2, w⟩ h
        · exact .inr ⟨z, w⟩
theorem once_len (wo : Str) : ∀ (xs acc : List Str), (xs.foldl (onceS wo) acc).length ≤ acc.length + xs.length
  | [], acc => Nat.le_add_right _ _
  | x :: xs, acc => by
    rw [List.foldl_cons, List.length_cons]
    have := once_len wo xs (onceS wo acc x)
    have hd : (onceS wo acc x).length ≤ acc.length + 1 := by unfold onceS; split <;> simp
    omega
theorem fl_body (bs : List Str) (n : Int) (wo : Str) : ∀ (r acc : List Str), (∀ x ∈ r, (x ∈ bs ↔ x = wo)) → (T.fl bs (bodyP n r)).foldl addF acc = r.foldl (onceS wo) acc
  | [], acc, _ => rfl
  | x :: r, acc, h => by
    have hx := h x List.mem_cons_self
    show (none :: ((if x ∈ bs then (none : Option Str) else some x) :: T.fl bs (bodyP n r))).foldl addF acc = _
    rw [List.foldl_cons, List.foldl_cons, List.foldl_cons, ← fl_body bs n wo r _ fun y hy => h y (List.mem_cons_of_mem _ hy)]
    congr 1
    unfold onceS
    by_cases e : x ∈ bs
    · rw [if_pos e, if_neg fun z => z.2 (hx.mp e)]; rfl
    · have e2 : x ≠ wo := fun z => e (hx.mpr z)
      rw [if_neg e]
      show (if x ∈ acc then acc else acc ++ [x]) = _
      by_cases e3 : x ∈ acc
      · rw [if_pos e3, if_neg fun z => z.1 e3]
      · rw [if_neg e3, if_pos ⟨e3, e2⟩]
/-- the names that are free in an inner function -/
theorem free_inner {p : Str} {n : Int} {row : List Str} (h : p ∉ row) (h0 : ("" : Str) ∉ row) : (T.fn p (bodyP n row)).freeL = once row "" := by
  show (none :: T.fl ([] ++ [p]) (bodyP n row)).foldl addF [] = _
  rw [List.foldl_cons, List.nil_append]
  exact fl_body [p] n "" row [] fun x hx => ⟨fun z => absurd (List.mem_singleton.mp z ▸ hx) h, fun z => absurd (z ▸ hx) h0⟩
theorem free_outer {o p : Str} {n : Int} {row : List Str} (h : p ∉ row) : (T.fn o (.fn p (bodyP n row))).freeL = once row o := by
  show (none :: (none :: T.fl (([] ++ [o]) ++ [p]) (bodyP n row))).foldl addF [] = _
  rw [List.foldl_cons, List.foldl_cons]
  exact fl_body [o, p] n o row [] fun x hx => ⟨fun z => by
    rcases List.mem_cons.mp z with z | z
    · exact z
    · exact absurd (List.mem_singleton.mp z ▸ hx) h, fun z => by rw [z]; exact List.mem_cons_self⟩
end Mi.K12
namespace Mi
open PySem
/-! ### a run, forward -/
theorem mrun_nx {most : Int} {m m' : MS} {r : Sum Nat MS} (h : MRun most m r) (hn : m.todo ≠ []) (e : rowM most m = .inr m') : MRun most m' r := by
  cases h with
  | done h => exact absurd h hn
  | stop h e2 => rw [e] at e2; cases e2
  | step h e2 q => rw [e] at e2; cases e2; exact q
theorem mrun_x {most : Int} {m : MS} {k : Nat} {r : Sum Nat MS} (h : MRun most m r) (hn : m.todo ≠ []) (e : rowM most m = .inl k) : r = .inl k := by
  cases h with
  | done h => exact absurd h hn
  | stop h e2 => rw [e] at e2; cases e2; rfl
  | step h e2 q => rw [e] at e2; cases e2
theorem mrun_end {most : Int} {m : MS} {r : Sum Nat MS} (h : MRun most m r) (e : m.todo = []) : r = .inr m := by
  cases h with
  | done _ => rfl
  | stop h _ => unfold RowOk at h; rw [e] at h; exact h.elim
  | step h _ _ => unfold RowOk at h; rw [e] at h; exact h.elim
theorem mrun_see {most : Int} {t : T} {ns : List Str} {hs : List Va} {todo : List Row} {done made : List Va} {deeds : Nat} {r : Sum Nat MS} (h : MRun most ⟨(true, t, ns, hs) :: todo, done, deeds, made⟩ r) : MRun most (seeM t ns hs ⟨todo, done, deeds, made⟩) r :=
  mrun_nx h (by simp) rfl
theorem mrun_turn {most : Nat} {t : T} {ns : List Str} {hs : List Va} {todo : List Row} {done made : List Va} {deeds : Nat} {m' : MS} {r : Sum Nat MS} (h : MRun (most : Int) ⟨(false, t, ns, hs) :: todo, done, deeds, made⟩ r) (hd : deeds < most) (e : turnB t ns hs ⟨todo, done, deeds, made⟩ = .inr m') : MRun (most : Int) m' r := by
  refine mrun_nx h (by simp) ?_
  show turnM t ns hs (most : Int) ⟨todo, done, deeds, made⟩ = _
  unfold turnM
  rw [if_neg (show ¬ (deeds : Int) = (most : Int) by omega)]
  exact e
/-- the free names of a good tree are names -/
theorem good_free {y : Str} : ∀ (t : T) (bs : List Str), t.good → some y ∈ T.fl bs t → nameOk y.cps.toList = true := by
  intro t
  induction t with
  | num i => intro bs h hx; simp [T.fl] at hx
  | name x =>
    intro bs h hx
    simp only [T.fl, List.mem_singleton] at hx
    split at hx
    · cases hx
    · cases hx; exact h
  | fn x b ih =>
    intro bs h hx
    simp only [T.fl, List.mem_cons, reduceCtorEq, false_or] at hx
    exact ih _ h.2 hx
  | call a b h1 h2 =>
    intro bs h hx
    simp only [T.fl, List.mem_cons, List.mem_append, reduceCtorEq, false_or] at hx
    exact hx.elim (h1 _ h.1) (h2 _ h.2)
  | plus a b h1 h2 =>
    intro bs h hx
    simp only [T.fl, List.mem_cons, List.mem_append, reduceCtorEq, false_or] at hx
    exact hx.elim (h1 _ h.1) (h2 _ h.2)
  | less a b h1 h2 =>
    intro bs h hx
    simp only [T.fl, List.mem_cons, List.mem_append, reduceCtorEq, false_or] at hx
    exact hx.elim (h1 _ h.1) (h2 _ h.2)
  | ite a b c h1 h2 h3 =>
    intro bs h hx
    simp only [T.fl, List.mem_cons, List.mem_append, reduceCtorEq, false_or] at hx
    rcases hx with hx | hx | hx
    · exact h1 _ h.1 hx
    · exact h2 _ h.2.1 hx
    · exact h3 _ h.2.2 hx
  | lett x a b h1 h2 =>
    intro bs h hx
    simp only [T.fl, List.mem_cons, List.mem_append, reduceCtorEq, false_or] at hx
    exact hx.elim (h1 _ h.2.1) (h2 _ h.2.2)
theorem sub_good {t u : T} (h : T.Sub t u) (hi : t.good) : u.good := by
  induction h with
  | refl => exact hi
  | @part u v h hv ih =>
    have ih := ih
    cases u <;> simp only [T.parts, List.mem_cons, List.not_mem_nil, or_false] at hv
    · subst hv; exact ih.2
    · rcases hv with rfl | rfl; exact ih.1; exact ih.2
    · rcases hv with rfl | rfl; exact ih.1; exact ih.2
    · rcases hv with rfl | rfl; exact ih.1; exact ih.2
    · rcases hv with rfl | rfl | rfl; exact ih.1; exact ih.2.1; exact ih.2.2
    · rcases hv with rfl | rfl; exact ih.2.1; exact ih.2.2
end Mi
namespace Mi.K12
open PySem Mi
/-! ### what is made, let by let -/
def Ev (most : Nat) (ns : List Str) (hs : List Va) (t : T) (v : Va) (mk : List Va) (dd : Nat) : Prop := ∀ (todo : List Row) (deeds : Nat) (made : List Va) (r : Sum Nat MS), deeds + dd ≤ most → MRun (most : Int) ⟨(true, t, ns, hs) :: todo, [], deeds, made⟩ r → MRun (most : Int) ⟨todo, [v], deeds + dd, made ++ mk⟩ r
theorem ev_num (most : Nat) (ns : List Str) (hs : List Va) (i : Int) : Ev most ns hs (.num i) (.num i) [] 0 := fun todo deeds made r hd h => by
  rw [List.append_nil]
  exact mrun_see h
theorem ev_fn (most : Nat) (ns : List Str) (hs : List Va) (x : Str) (b : T) : Ev most ns hs (.fn x b) (keptV x b ns hs) [keptV x b ns hs] 0 := fun todo deeds made r hd h => mrun_see h
/-- a call of a function that gives a function -/
theorem ev_end (most : Nat) (ns : List Str) (hs : List Va) (a b : T) (o p : Str) (body : T) (F : List Str) (held : List Va) (w : Int) (todo : List Row) (deeds : Nat) (made : List Va) (r : Sum Nat MS) (hd : deeds + 1 ≤ most)
    (h : MRun (most : Int) ⟨(true, .num w, ns, hs) :: (false, .call a b, ns, hs) :: todo, [.fn o (.fn p body) F held], deeds, made⟩ r) :
    MRun (most : Int) ⟨todo, [keptV p body (F ++ [o]) (held ++ [.num w])], deeds + 1, made ++ [keptV p body (F ++ [o]) (held ++ [.num w])]⟩ r := by
  have h1 : MRun (most : Int) ⟨(false, .call a b, ns, hs) :: todo, [.num w, .fn o (.fn p body) F held], deeds, made⟩ r := mrun_see h
  have h2 : MRun (most : Int) ⟨(true, .fn p body, F ++ [o], held ++ [.num w]) :: todo, [], deeds + 1, made⟩ r := mrun_turn h1 (by omega) rfl
  exact mrun_see h2
theorem ev_callfn (most : Nat) (ns : List Str) (hs : List Va) (o p : Str) (body : T) (w : Int) :
    Ev most ns hs (.call (.fn o (.fn p body)) (.num w)) (keptV p body ((T.fn o (.fn p body)).freeL ++ [o]) (wsOf (T.fn o (.fn p body)).freeL ns hs ++ [.num w])) [keptV o (.fn p body) ns hs, keptV p body ((T.fn o (.fn p body)).freeL ++ [o]) (wsOf (T.fn o (.fn p body)).freeL ns hs ++ [.num w])] 1 := fun todo deeds made r hd h => by
  have h1 : MRun (most : Int) ⟨(true, .fn o (.fn p body), ns, hs) :: (true, .num w, ns, hs) :: (false, .call (.fn o (.fn p body)) (.num w), ns, hs) :: todo, [], deeds, made⟩ r := mrun_see h
  have h2 := ev_end most ns hs _ _ o p body _ _ w todo deeds _ r hd (mrun_see h1)
  rw [show ∀ a b : Va, made ++ [a, b] = (made ++ [a]) ++ [b] from fun a b => by simp]
  exact h2
theorem ev_callnm (most : Nat) (ns : List Str) (hs : List Va) (m o p : Str) (body : T) (F : List Str) (held : List Va) (w : Int) (hm : lkp m ns hs = some (.fn o (.fn p body) F held)) :
    Ev most ns hs (.call (.name m) (.num w)) (keptV p body (F ++ [o]) (held ++ [.num w])) [keptV p body (F ++ [o]) (held ++ [.num w])] 1 := fun todo deeds made r hd h => by
  have h1 : MRun (most : Int) ⟨(true, .name m, ns, hs) :: (true, .num w, ns, hs) :: (false, .call (.name m) (.num w), ns, hs) :: todo, [], deeds, made⟩ r := mrun_see h
  have h2 : MRun (most : Int) ⟨(true, .num w, ns, hs) :: (false, .call (.name m) (.num w), ns, hs) :: todo, [((lkp m ns hs).getD (.num 0))], deeds, made⟩ r := mrun_see h1
  rw [hm] at h2
  exact ev_end most ns hs _ _ o p body F held w todo deeds made r hd h2
structure Ln where
  x : Str
  t : T
  v : Va
  ms : List Va
  dd : Nat
def letsN : List Ln → T
  | [] => .num 7
  | i :: r => .lett i.x i.t (letsN r)
inductive Lets (most : Nat) : List Str → List Va → List Ln → Prop
  | nil (ns : List Str) (hs : List Va) : Lets most ns hs []
  | cons {ns : List Str} {hs : List Va} {i : Ln} {r : List Ln} (h : Ev most ns hs i.t i.v i.ms i.dd) (q : Lets most (ns ++ [i.x]) (hs ++ [i.v]) r) : Lets most ns hs (i :: r)
def cost (l : List Ln) : Nat := (l.map fun i => i.dd + 1).sum
def mks (l : List Ln) : List Va := (l.map Ln.ms).flatten
theorem lets_run {most : Nat} : ∀ {l : List Ln} {ns : List Str} {hs : List Va}, Lets most ns hs l → ∀ (deeds : Nat) (made : List Va) (r : Sum Nat MS), deeds + cost l ≤ most → MRun (most : Int) (seeM (letsN l) ns hs ⟨[], [], deeds, made⟩) r → r = .inr ⟨[], [.num 7], deeds + cost l, made ++ mks l⟩ := by
  intro l ns hs h
  induction h with
  | nil ns hs =>
    intro deeds made r hd h
    have := mrun_end h rfl
    rw [this]
    simp [cost, mks, letsN, seeM]
  | @cons ns hs i l h q ih =>
    intro deeds made r hd hr
    have ec : cost (i :: l) = i.dd + 1 + cost l := by simp [cost]
    rw [ec] at hd
    have h1 : MRun (most : Int) ⟨(true, i.t, ns, hs) :: [(false, .lett i.x i.t (letsN l), ns, hs)], [], deeds, made⟩ r := hr
    have h2 := h _ deeds made r (by omega) h1
    have h3 : MRun (most : Int) ⟨[(true, letsN l, ns ++ [i.x], hs ++ [i.v])], [], deeds + i.dd + 1, made ++ i.ms⟩ r := mrun_turn h2 (by omega) rfl
    have h4 := ih (deeds + i.dd + 1) (made ++ i.ms) r (by omega) (mrun_see h3)
    rw [h4]
    congr 2
    · rw [ec]; omega
    · simp [mks]
/-! ### what the law tells of them -/
def desc : Va → D
  | .num i => .int i
  | .fn x b _ _ => .tup [.str x, b.d]
def dueD : Va → D
  | .num i => .int i
  | .fn x b F hs => .tup [.str x, b.d, .lst (F.map .str), .lst (hs.map desc)]
/-- the look at one -/
theorem held_right_g (n : Nat) (h : Va) (hg : match h with
    | .num _ => True
    | .fn _ b _ _ => b.txt ∧ b.size ≤ 900) : dc (prg.env (n + 2)) 105 [h.d, desc h] = some (.ok (.val (.bl true))) := by
  cases h with
  | num i =>
    have w : dc (prg.env (n + 1)) 104 [.int i] = some (.ok (.val (.bl true))) := by
      obtain ⟨s, e⟩ := rtv_of (o := execs (prg.env n) 1 [] 0 b_l_whole [.val (.int i)]) (a := .cl (.val (.bl true))) (by simp [b_l_whole])
      exact dc_ok (P := prg.fds) (n := n) (fd := f_l_whole) (by rfl) rfl rfl rfl e
    rw [Va.d_num]
    obtain ⟨s, e⟩ := rtv_of (o := execs (prg.env (n + 1)) 2 [] 0 b_l_held_right [.val (.int i), .val (.int i)]) (a := .cl (.val (.bl true))) (by simp [b_l_held_right, w])
    exact dc_ok (P := prg.fds) (n := n + 1) (fd := f_l_held_right) (by rfl) rfl rfl rfl e
  | fn x b F hs =>
    obtain ⟨h1, h2⟩ := hg
    have ce := cmp_eq_t b h1 (by omega)
    rw [Va.d_fn]
    obtain ⟨s, e⟩ := rtv_of (o := execs (prg.env (n + 1)) 2 [] 0 b_l_held_right [.val (.obj 0 [.str x, b.d, .lst (F.map .str), .lst (hs.map Va.d)]), .val (.tup [.str x, b.d])]) (a := .cl (.val (.bl true))) (by simp [b_l_held_right, ce])
    exact dc_ok (P := prg.fds) (n := n + 1) (fd := f_l_held_right) (by rfl) rfl rfl rfl e
def zO (n : Nat) (lk : List Nat) (x y : Nat) (b : S → Option Out) (l : List Aa) (s : S) : Option Out := if x < n ∧ x ∉ lk ∧ y < n ∧ y ∉ lk then
      (match l with
      | [.d (.lst xs), .d (.lst ys)] => if xs.length = ys.length then forL (fun p s => match p with
          | .tup [d, e] => (s.set x (.val d)).set y (.val e)
          | _ => s) b (List.zipWith (fun d e => .tup [d, e]) xs ys) s else none
      | _ => none) else none
theorem exec_forz (Γ : Env) (n : Nat) (lk : List Nat) (oc : Nat) (x y : Nat) (d e : CE) (b : List CS) (s : S) : exec Γ n lk oc (.forz x y d e b) s = outR (evA Γ [d, e] s) (zO n lk x y (execs Γ n lk oc b)) := by rw [exec] <;> rfl
theorem zO_ok {n : Nat} {x y : Nat} {b : S → Option Out} {xs ys : List D} {s : S} (h : x < n) (h2 : y < n) (hl : xs.length = ys.length) : zO n [] x y b [.d (.lst xs), .d (.lst ys)] s = forL (fun p s => match p with
          | .tup [d, e] => (s.set x (.val d)).set y (.val e)
          | _ => s) b (List.zipWith (fun d e => .tup [d, e]) xs ys) s := by
  unfold zO
  rw [if_pos ⟨h, by simp, h2, by simp⟩]
  exact if_pos hl
theorem kept_right_g (n : Nat) (x : Str) (b : T) (F : List Str) (hs : List Va) (hb : b.txt ∧ b.size ≤ 900) (hF : ∀ y ∈ F, PyData.strOk y = true) (hh : ∀ h ∈ hs, match h with
    | .num _ => True
    | .fn _ b _ _ => b.txt ∧ b.size ≤ 900) : dc (prg.env (n + 3)) 106 [(Va.fn x b F hs).d, dueD (.fn x b F hs)] = some (.ok (.val (.bl true))) := by
  have ce := cmp_ne_t b hb.1 (by omega)
  have cf : cmpop .ne (.val (.lst (F.map .str))) (.val (.lst (F.map .str))) = some false := by
    show (cEq _ _).map (fun b => !b) = _
    rw [strs_ne hF]; rfl
  rw [Va.d_fn]
  have lp : ∀ (hs : List Va) (a0 a1 c2 c3 : Cl), (∀ h ∈ hs, match h with
      | .num _ => True
      | .fn _ b _ _ => b.txt ∧ b.size ≤ 900) → ∃ c2' c3', forL (fun p s => match p with
          | .tup [d, e] => (s.set 2 (.val d)).set 3 (.val e)
          | _ => s) (fun s => execs (prg.env (n + 2)) 4 [] 0 b_l_kept_right_0 s) (List.zipWith (fun d e => .tup [d, e]) (hs.map Va.d) (hs.map desc)) [a0, a1, c2, c3] = some (.nx [a0, a1, c2', c3']) := by
    intro hs a0 a1
    induction hs with
    | nil => exact fun c2 c3 _ => ⟨c2, c3, rfl⟩
    | cons h hs ih =>
      intro c2 c3 hh
      obtain ⟨c2', c3', e⟩ := ih (.val h.d) (.val (desc h)) fun k hk => hh k (List.mem_cons_of_mem _ hk)
      have g := held_right_g n h (hh h List.mem_cons_self)
      refine ⟨c2', c3', ?_⟩
      rw [List.map_cons, List.map_cons, List.zipWith_cons_cons, forL_cons]
      have e1 : execs (prg.env (n + 2)) 4 [] 0 b_l_kept_right_0 [a0, a1, .val h.d, .val (desc h)] = some (.nx [a0, a1, .val h.d, .val (desc h)]) := by
        simp [b_l_kept_right_0, g]
      show fnx (execs (prg.env (n + 2)) 4 [] 0 b_l_kept_right_0 [a0, a1, .val h.d, .val (desc h)]) _ = _
      rw [e1, fnx_nx]
      exact e
  obtain ⟨c2, c3, e⟩ := lp hs (.val (.obj 0 [.str x, b.d, .lst (F.map .str), .lst (hs.map Va.d)])) (.val (dueD (.fn x b F hs))) .un .un hh
  have ez := zO_ok (n := 4) (x := 2) (y := 3) (b := execs (prg.env (n + 2)) 4 [] 0 b_l_kept_right_0) (xs := hs.map Va.d) (ys := hs.map desc) (s := [.val (.obj 0 [.str x, b.d, .lst (F.map .str), .lst (hs.map Va.d)]), .val (dueD (.fn x b F hs)), .un, .un]) (by decide) (by decide) (by rw [List.length_map, List.length_map])
  have e := ez.trans e
  obtain ⟨s, q⟩ := rtv_of (o := execs (prg.env (n + 2)) 4 [] 0 b_l_kept_right [.val (.obj 0 [.str x, b.d, .lst (F.map .str), .lst (hs.map Va.d)]), .val (dueD (.fn x b F hs)), .un, .un]) (a := .cl (.val (.bl true))) (by
    simp only [dueD] at e ⊢
    simp [b_l_kept_right, ce, cf, exec_forz, e])
  exact dc_ok (P := prg.fds) (n := n + 2) (fd := f_l_kept_right) (by rfl) rfl rfl rfl q
end Mi.K12
namespace Mi.K12
open PySem Mi
/-! ### a call that lends -/
theorem cls_cl : ∀ cs : List Cl, clsOf (cs.map Ag.cl) = some cs
  | [] => rfl
  | c :: cs => by
    show (clsOf (cs.map Ag.cl)).map (fun r => c :: r) = _
    rw [cls_cl cs]; rfl
theorem cl_rf {P : Nat → Option FD} {n f : Nat} {fd : FD} {s s1 : S} {l : List Aa} {c : Cl} (cs : List Cl) (hf : P f = some fd) (hm : fd.meth = false) (hcs : l.map (Aa.ag s) = cs.map Ag.cl) (hl : cs.length = fd.np) (nd : (rfs l).Nodup) (ow : ((rfs l).all fun i => (gt s i).own) = true)
    (he : execs (envN P n) fd.n (lent (cs.map Ag.cl) 0) fd.oc fd.body (cs ++ List.replicate (fd.n - fd.np) .un ++ List.replicate fd.nf .un) = some (.rt (.cl c) s1)) (ok : okOuts fd.n s1 (cs.map Ag.cl) 0 = true) (hz : c.fz.isSome = true) :
    cl? (envN P (n + 1)) f l s = some (.ok (.fr c) (back s l (outs s1 fd.np 0))) := by
  unfold cl?
  rw [if_pos ⟨nd, ow⟩, hcs]
  have e : envN P (n + 1) f (cs.map Ag.cl) = some (.ok (.cl c) (outs s1 fd.np 0)) := by
    show (P f).bind (fun fd => runF (envN P n) fd _) = _
    rw [hf, Option.bind_some]
    unfold runF entry
    rw [hm]
    dsimp only
    rw [cls_cl, Option.bind_some, if_pos hl, Option.bind_some, he]
    dsimp only
    rw [ok]
    unfold outsOf
    rw [hm]
    rfl
  rw [e]
  dsimp only
  rw [if_pos hz]
/-! ### a row of names -/
theorem wide6 (k : Nat) (h : k < 6) : ∃ p : Int, 0 < p ∧ p < 1073741824 ∧ ixop (.val (.lst [.int 1, .int 3, .int 9, .int 27, .int 81, .int 243])) (.int k) = some (.int p) := by
  match k, h with
  | 0, _ => exact ⟨1, by decide, by decide, ix_vlst (k := 0) rfl⟩
  | 1, _ => exact ⟨3, by decide, by decide, ix_vlst (k := 1) rfl⟩
  | 2, _ => exact ⟨9, by decide, by decide, ix_vlst (k := 2) rfl⟩
  | 3, _ => exact ⟨27, by decide, by decide, ix_vlst (k := 3) rfl⟩
  | 4, _ => exact ⟨81, by decide, by decide, ix_vlst (k := 4) rfl⟩
  | 5, _ => exact ⟨243, by decide, by decide, ix_vlst (k := 5) rfl⟩
theorem ix_any {A : List Str} (h0 : 0 < A.length) (i : Int) : ∃ x ∈ A, ixop (.val (.lst (A.map D.str))) (.int (i % (A.length : Int))) = some (.str x) := by
  have b0 := Int.emod_nonneg i (show (A.length : Int) ≠ 0 by omega)
  have b1 := Int.emod_lt_of_pos i (show (0 : Int) < A.length by omega)
  have e : ((i % (A.length : Int)).toNat : Int) = i % (A.length : Int) := Int.toNat_of_nonneg b0
  have hk : (i % (A.length : Int)).toNat < A.length := by omega
  refine ⟨A[(i % (A.length : Int)).toNat], List.getElem_mem hk, ?_⟩
  have q := ix_vlst (xs := A.map D.str) (k := (i % (A.length : Int)).toNat) (x := .str A[(i % (A.length : Int)).toNat]) (by rw [List.getElem?_map, List.getElem?_eq_getElem hk]; rfl)
  rw [e] at q
  exact q
theorem row_g (n : Nat) (c : Int) (A : List Str) (h0 : 0 < A.length) : ∃ row : List Str, row.length ≤ 6 ∧ (∀ x ∈ row, x ∈ A) ∧ dc (prg.env (n + 1)) 102 [.int c, .lst (A.map .str)] = some (.ok (.val (.lst (row.map .str)))) := by
  have hm : c % 7 = ((c % 7).toNat : Int) := by omega
  have hm2 : (c % 7).toNat ≤ 6 := by omega
  generalize hM : (c % 7).toNat = m at hm hm2
  have rr := fun s => sq_rng 0 (m : Int) s (by omega)
  obtain ⟨s', e, row, c3, h1, h2, hs'⟩ := forL_rel (put := fun d s => s.set 3 (.val d)) (b := execs (prg.env n) 4 [] 0 b_l_row_0) (fun k s => ∃ (row : List Str) (c3 : Cl), row.length = k ∧ (∀ x ∈ row, x ∈ A) ∧ s = [.val (.int c), .val (.lst (A.map .str)), .lst (row.map .str), c3]) (rangeD 0 m) 0 (fun j d s hd ⟨row, c3, h1, h2, hs⟩ => by
    subst hs
    obtain ⟨hj, rfl⟩ := range_get hd
    have hj : j < 6 := by omega
    obtain ⟨p, p1, p2, p3⟩ := wide6 j hj
    have fd := bin_fdiv' (c / 7) p p1 p2
    obtain ⟨x, mx, hx⟩ := ix_any h0 (c / 7 / p)
    have hmod := bin_modP (c / 7 / p) (A.length : Int) (by omega)
    have hz : row.length < sizeLine := Nat.lt_of_le_of_lt (by omega : row.length ≤ 1000000) million
    rw [Int.zero_add]
    refine ⟨[.val (.int c), .val (.lst (A.map .str)), .lst ((row ++ [x]).map .str), .val (.int j)], ?_, row ++ [x], .val (.int j), by simp [h1], fun y hy => ?_, rfl⟩
    · simp [b_l_row_0, p3, fd, hmod, hx, hz]
    · rcases List.mem_append.mp hy with hy | hy
      · exact h2 y hy
      · rw [List.mem_singleton.mp hy]; exact mx) [.val (.int c), .val (.lst (A.map .str)), .lst [], .un] ⟨[], .un, rfl, fun _ h => (by cases h), rfl⟩
  subst hs'
  rw [range_len] at h1
  refine ⟨row, by omega, h2, ?_⟩
  obtain ⟨s, q⟩ := rtv_of (o := execs (prg.env n) 4 [] 0 b_l_row [.val (.int c), .val (.lst (A.map .str)), .un, .un]) (a := .cl (.val (.lst (row.map .str)))) (by
    simp [b_l_row, hm, rr, exec_for, e])
  exact dc_ok (P := prg.fds) (n := n) (fd := f_l_row) (by rfl) rfl rfl rfl q
/-! ### what the names of a row stand for -/
def stD (o : Str) (w : D) (f : Str → D) (y : Str) : D := if y = o then w else f y
theorem values_ex (n : Nat) (lk : List Nat) (hlk : lk = [] ∨ lk = [1]) (row : List Str) (hrow : row.length ≤ 20) (stc : Cl) (ks : List Str) (xs : List D) (hst : stc = .dct ks xs ∨ stc = .val (.dct ks xs)) (o : Str) (w : Int) (f : Str → D) (hf : ∀ y ∈ row, y ≠ o → dlook y ks xs = some (f y)) :
    execs (prg.env (n + 1)) 6 lk 0 b_l_values [.val (.lst (row.map .str)), stc, .val (.str o), .val (.int w), .un, .un] = some (.rt (.cl (.val (.tup [.lst ((once row "").map .str), .lst ((once row "").map (stD o (.int w) f))]))) [.val (.lst (row.map .str)), stc, .val (.str o), .val (.int w), .val (.lst ((once row "").map .str)), .un]) := by
  have og := once_g n row "" (by omega)
  have h4 : (4 : Nat) ∉ lk := by rcases hlk with rfl | rfl <;> simp
  have hol := once_len "" row []
  have hmem : ∀ y ∈ once row "", y ∈ row := fun y hy => by
    rcases (once_mem "" row [] y).mp hy with z | z
    · cases z
    · exact z.1
  have hol : (once row "").length ≤ row.length := by simpa [once] using hol
  generalize once row "" = F at og hol hmem
  have comp : ev (prg.env (n + 1)) (.comp (.ifx (.cmp .eq (.v 5) (.v 2)) (.v 3) (.dix (.v 1) (.v 5))) 5 (.v 4) .seq (.c (.bl true))) [.val (.lst (row.map .str)), stc, .val (.str o), .val (.int w), .val (.lst (F.map .str)), .un] =
      some (.ok (.fr (.lst (F.map (stD o (.int w) f)))) [.val (.lst (row.map .str)), stc, .val (.str o), .val (.int w), .val (.lst (F.map .str)), .un]) := by
    have q := comp_map (Γ := prg.env (n + 1)) (e := .ifx (.cmp .eq (.v 5) (.v 2)) (.v 3) (.dix (.v 1) (.v 5))) (x := 5) (it := .v 4) (k := .seq) (s := [.val (.lst (row.map .str)), stc, .val (.str o), .val (.int w), .val (.lst (F.map .str)), .un]) (s1 := [.val (.lst (row.map .str)), stc, .val (.str o), .val (.int w), .val (.lst (F.map .str)), .un]) (ds := F.map .str) (fun d => match d with
      | .str y => stD o (.int w) f y
      | d => d) (by simp) rfl (by rw [List.length_map]; omega) fun d hd => by
        obtain ⟨y, hy, rfl⟩ := List.mem_map.mp hd
        by_cases e : y = o
        · subst e
          simp [stD]
        · have e' : (y == o) = false := by simp [e]
          have hl := hf y (hmem y hy) e
          rcases hst with rfl | rfl <;> simp [stD, e, e', hl]
    rw [q, List.map_map]
    rfl
  have hso : ∀ (c : Cl) (s : S), setO 6 lk 4 c s = some (.nx (s.set 4 c)) := fun c s => setO_lt 6 lk s (by decide) h4
  simp only [hso, b_l_values, execs_cons, exec_asg, execs_nil, exec_ret, ev_call, evA_v, ev_v, gt_0, rd_val, toV_val, bnd_ok, evA_c, ev_c, evA_nil', cl2, og, dcR_ok, toW_fr, outR_ok, nxt_nx]
  have ec : evA (prg.env (n + 1)) [(.v 4), (.comp (.ifx (.cmp .eq (.v 5) (.v 2)) (.v 3) (.dix (.v 1) (.v 5))) 5 (.v 4) .seq (.c (.bl true)))] [.val (.lst (row.map .str)), stc, .val (.str o), .val (.int w), .val (.lst (F.map .str)), .un] = some (.ok [.d (.lst (F.map .str)), .d (.lst (F.map (stD o (.int w) f)))] [.val (.lst (row.map .str)), stc, .val (.str o), .val (.int w), .val (.lst (F.map .str)), .un]) := by
    simp [comp]
  have es : (List.set [Cl.val (D.lst (row.map .str)), stc, .val (.str o), .val (.int w), .un, .un] 4 (.val (.lst (F.map .str)))) = [.val (.lst (row.map .str)), stc, .val (.str o), .val (.int w), .val (.lst (F.map .str)), .un] := rfl
  rw [es, ev_tup, ec]
  simp
end Mi.K12
namespace Mi.K12
open PySem Mi
/-! ### one let of the law -/
structure NmOk (Nm : List Str) : Prop where
  len : Nm.length = 12
  ok : ∀ x ∈ Nm, nameOk x.cps.toList = true
  ne : ∀ i j x y, Nm[i]? = some x → Nm[j]? = some y → i < j → x = y → i = 0 ∧ j ≤ 9
theorem nm_ne0 {x : Str} (h : nameOk x.cps.toList = true) : x ≠ "" := by
  intro z
  subst z
  exact absurd h (by decide +kernel)
theorem prefix_ex (n : Nat) (c : Int) (k : Nat) (hk : 1 ≤ k ∧ k ≤ 9) (Nm : List Str) (hN : NmOk Nm) (o p : Str) (ho : Nm[10]? = some o) (hp : Nm[11]? = some p) (a3 a4 a5 : Cl) (w : Int) (hw : c * 48271 % 1999 - 999 = w) :
    ∃ row : List Str, row.length ≤ 6 ∧ (∀ x ∈ row, x ∈ Nm.take k ∨ (x = o ∧ (c % 4 = 1 ∨ c % 4 = 2))) ∧
    execs (prg.env (n + 2)) 15 [3, 4, 5] 0 (b_l_let.take 5) [.val (.int c), .val (.int k), .val (.lst (Nm.map .str)), a3, a4, a5, .un, .un, .un, .un, .un, .un, .un, .un, .un] =
      some (.nx [.val (.int c), .val (.int k), .val (.lst (Nm.map .str)), a3, a4, a5, .val (.int (c % 4)), .val (.int w), .val (.str o), .val (.lst (row.map .str)), .val (T.fn p (bodyP k row)).d, .un, .un, .un, .un]) := by
  have hlen := hN.len
  have i10 : ixop (.val (.lst (Nm.map D.str))) (.int 10) = some (.str o) := ix_vlst (xs := Nm.map D.str) (k := 10) (x := .str o) (by rw [List.getElem?_map, ho]; rfl)
  have i11 : ixop (.val (.lst (Nm.map D.str))) (.int 11) = some (.str p) := ix_vlst (xs := Nm.map D.str) (k := 11) (x := .str p) (by rw [List.getElem?_map, hp]; rfl)
  have hmul := bin_mulI c 48271 (cmul_r (by decide) (by decide))
  have sl : slop (.val (.lst (Nm.map D.str))) none (some (k : Int)) = some (.lst ((Nm.take k).map .str)) := by
    rw [sl_vlst, cutL_to, List.map_take]
  have isw : cmpop .isin (.val (.int (c % 4))) (.val (.tup [.int 1, .int 2])) = some (decide (c % 4 = 1 ∨ c % 4 = 2)) := by
    show some ([D.int 1, D.int 2].any fun e => eqF e (.int (c % 4))) = _
    congr 1
    show (((1 : Int) == c % 4) || (((2 : Int) == c % 4) || false)) = _
    by_cases h1 : c % 4 = 1
    · simp [h1]
    · by_cases h2 : c % 4 = 2
      · simp [h2]
      · have e1 : ((1 : Int) == c % 4) = false := by rw [beq_eq_false_iff_ne]; exact fun z => h1 z.symm
        have e2 : ((2 : Int) == c % 4) = false := by rw [beq_eq_false_iff_ne]; exact fun z => h2 z.symm
        simp [h1, h2, e1, e2]
  have rep : ∀ b : Bool, binop .mul (.val (.lst [.str o])) (.val (.int (if b then 1 else 0))) = some (.lst (if b then [.str o] else [])) := fun b => by
    cases b with
    | true =>
      show (if big (0 ≤ (1 : Int) ∧ (1 : Int) < 2 ^ 63) = true ∧ [D.str o].length * (1 : Int).toNat ≤ sizeLine then some (Cl.lst (List.replicate (1 : Int).toNat [D.str o]).flatten) else none) = _
      rw [if_pos ⟨big_iff.mpr ⟨by decide, by decide⟩, by show 1 ≤ sizeLine; decide⟩]; rfl
    | false =>
      show (if big (0 ≤ (0 : Int) ∧ (0 : Int) < 2 ^ 63) = true ∧ [D.str o].length * (0 : Int).toNat ≤ sizeLine then some (Cl.lst (List.replicate (0 : Int).toNat [D.str o]).flatten) else none) = _
      rw [if_pos ⟨big_iff.mpr ⟨by decide, by decide⟩, Nat.zero_le _⟩]; rfl
  let A : List Str := Nm.take k ++ (if c % 4 = 1 ∨ c % 4 = 2 then [o] else [])
  have hA : (Nm.take k).map D.str ++ (if decide (c % 4 = 1 ∨ c % 4 = 2) = true then [D.str o] else []) = A.map .str := by
    show _ = (Nm.take k ++ (if c % 4 = 1 ∨ c % 4 = 2 then [o] else [])).map D.str
    rw [List.map_append]
    by_cases h : c % 4 = 1 ∨ c % 4 = 2
    · simp [h]
    · simp [h]
  have hAl : 0 < A.length := by
    show 0 < (Nm.take k ++ _).length
    rw [List.length_append, List.length_take]
    omega
  obtain ⟨row, r1, r2, rg⟩ := row_g (n + 1) (c / 4) A hAl
  have bg : dc (prg.env (n + 2)) 101 [.lst (row.map .str), .int k] = some (.ok (.val (bodyP k row).d)) := body_g (n + 1) row k
  have rg : dc (prg.env (n + 2)) 102 [.int (c / 4), .lst (A.map .str)] = some (.ok (.val (.lst (row.map .str)))) := rg
  refine ⟨row, r1, fun x hx => ?_, ?_⟩
  · have := r2 x hx
    rcases List.mem_append.mp this with z | z
    · exact .inl z
    · split at z
      · rename_i h
        exact .inr ⟨List.mem_singleton.mp z, h⟩
      · cases z
  · have hz : k ≤ sizeLine := Nat.le_trans (by omega : k ≤ 9) (by decide)
    have hz1 : ((Nm.take k).map D.str).length + ((if decide (c % 4 = 1 ∨ c % 4 = 2) = true then [D.str o] else []) : List D).length ≤ sizeLine := by
      rw [List.length_map, List.length_take]
      refine Nat.le_trans (show _ ≤ 11 from ?_) (by decide)
      split <;> simp <;> omega
    have rep' := rep (decide (c % 4 = 1 ∨ c % 4 = 2))
    have bi : bfop .int [.val (.bl (decide (c % 4 = 1 ∨ c % 4 = 2)))] = some (.val (.int (if decide (c % 4 = 1 ∨ c % 4 = 2) = true then 1 else 0))) := rfl
    generalize decide (c % 4 = 1 ∨ c % 4 = 2) = bb at isw rep' hA hz1 bi
    generalize A = AA at rg hA
    generalize hR : (if bb = true then [D.str o] else []) = RR at rep' hA hz1
    generalize hJ : (if bb = true then (1 : Int) else 0) = JJ at rep' bi
    subst hw
    simp only [List.map_take, List.length_take, List.length_map] at hA hz1
    simp [b_l_let, hmul, i10, i11, sl, isw, bi, rep', hA, hz1, rg, bg, T.d]
end Mi.K12
namespace Mi.K12
open PySem Mi
theorem dl_put (y j : Str) (d : D) : ∀ (ks : List Str) (xs : List D), ks.length = xs.length → dlook y (dkeys j ks) (dput j d ks xs) = if j = y then some d else dlook y ks xs
  | [], [], _ => rfl
  | k' :: ks, x :: xs, hl => by
    have ih := dl_put y j d ks xs (by simpa using hl)
    unfold dkeys at ih ⊢
    rw [dput]
    by_cases hk : k' = j
    · subst hk
      rw [if_pos rfl, if_pos List.mem_cons_self]
      unfold dlook
      by_cases h2 : k' = y
      · rw [if_pos h2, if_pos h2]
      · rw [if_neg h2, if_neg h2, if_neg h2]
    · have hm : j ∈ k' :: ks ↔ j ∈ ks := by
        rw [List.mem_cons]
        exact ⟨fun z => z.elim (fun w => absurd w.symm hk) id, .inr⟩
      rw [if_neg hk]
      by_cases hj : j ∈ ks
      · rw [if_pos (hm.mpr hj)]
        rw [if_pos hj] at ih
        unfold dlook
        by_cases h2 : k' = y
        · rw [if_pos h2, if_pos h2, if_neg (fun z => hk (h2.trans z.symm))]
        · rw [if_neg h2, if_neg h2, ih]
      · rw [if_neg fun z => hj (hm.mp z)]
        rw [if_neg hj] at ih
        rw [List.cons_append]
        unfold dlook
        by_cases h2 : k' = y
        · rw [if_pos h2, if_pos h2, if_neg (fun z => hk (h2.trans z.symm))]
        · rw [if_neg h2, if_neg h2, ih]
theorem dp_len (j : Str) (d : D) : ∀ (ks : List Str) (xs : List D), ks.length = xs.length → (dkeys j ks).length = (dput j d ks xs).length
  | [], [], _ => rfl
  | k' :: ks, x :: xs, hl => by
    have ih := dp_len j d ks xs (by simpa using hl)
    unfold dkeys at ih ⊢
    rw [dput]
    by_cases hk : k' = j
    · subst hk
      rw [if_pos rfl, if_pos List.mem_cons_self]
      simpa using hl
    · have hm : j ∈ k' :: ks ↔ j ∈ ks := by
        rw [List.mem_cons]
        exact ⟨fun z => z.elim (fun w => absurd w.symm hk) id, .inr⟩
      rw [if_neg hk]
      by_cases hj : j ∈ ks
      · rw [if_pos (hm.mpr hj)]
        rw [if_pos hj] at ih
        simpa using ih
      · rw [if_neg fun z => hj (hm.mp z)]
        rw [if_neg hj] at ih
        simpa using ih
theorem dk_len (j : Str) (ks : List Str) : (dkeys j ks).length ≤ ks.length + 1 := by
  unfold dkeys
  split <;> simp
theorem lkp_ws {ns : List Str} {hs : List Va} {y : Str} : ∀ F : List Str, y ∈ F → lkp y F (wsOf F ns hs) = some ((lkp y ns hs).getD (.num 0))
  | x :: F, h => by
    show (match lkp y F (wsOf F ns hs) with | some v => some v | none => if x = y then some ((lkp x ns hs).getD (.num 0)) else none) = _
    by_cases hy : y ∈ F
    · rw [lkp_ws F hy]
    · have : lkp y F (wsOf F ns hs) = none := by
        have key : ∀ (ns : List Str) (hs : List Va), y ∉ ns → lkp y ns hs = none := fun ns => by
          induction ns with
          | nil => intro hs _; cases hs <;> rfl
          | cons m ns ih =>
            intro hs hm
            cases hs with
            | nil => rfl
            | cons h hs =>
              show (match lkp y ns hs with | some v => some v | none => if m = y then some h else none) = none
              rw [ih hs fun z => hm (List.mem_cons_of_mem _ z)]
              exact if_neg fun z => hm (by rw [z]; exact List.mem_cons_self)
        exact key _ _ hy
      rw [this]
      rcases List.mem_cons.mp h with rfl | z
      · exact if_pos rfl
      · exact absurd z hy
/-! ### what stands where -/
def gk (dl : Str → Option D) (y : Str) : D := (dl y).getD .non
theorem ws_desc0 {F ns : List Str} {hs : List Va} {f : Str → D} (h : ∀ y ∈ F, ∃ v, lkp y ns hs = some v ∧ f y = desc v) : (wsOf F ns hs).map desc = F.map f := by
  unfold wsOf
  rw [List.map_map]
  refine List.map_congr_left fun y hy => ?_
  obtain ⟨v, e, e2⟩ := h y hy
  rw [e2]
  simp [e]
theorem ws_desc1 {F ns : List Str} {hs : List Va} {f : Str → D} {o : Str} {w : Int} (hl : ns.length = hs.length) (h : ∀ y ∈ F, y ≠ o → ∃ v, lkp y ns hs = some v ∧ f y = desc v) : (wsOf F (ns ++ [o]) (hs ++ [.num w])).map desc = F.map (stD o (.int w) f) := by
  unfold wsOf
  rw [List.map_map]
  refine List.map_congr_left fun y hy => ?_
  unfold stD
  show desc ((lkp y (ns ++ [o]) (hs ++ [.num w])).getD (.num 0)) = _
  rw [lkp_snoc y (.num w) ns hs o hl]
  by_cases e : y = o
  · rw [if_pos e, if_pos e.symm]; rfl
  · obtain ⟨v, e1, e2⟩ := h y hy e
    rw [if_neg e, if_neg fun z => e z.symm, e1, e2]; rfl
structure Mk where
  m : Str
  row : List Str
  k : Int
  ks : List Str
  xs : List D
def mkD (p : Str) (q : Mk) : D := .tup [.str q.m, .lst (q.row.map .str), (T.fn p (bodyP q.k q.row)).d, .dct q.ks q.xs]
/-! ### the rest of the let -/
def s15 (c : Int) (k : Nat) (Nm : List Str) (ks : List Str) (xs : List D) (M : List D) (due : List D) (q w : Int) (o : Str) (row : List Str) (t : T) : S := [.val (.int c), .val (.int k), .val (.lst (Nm.map .str)), .dct ks xs, .lst M, .lst due, .val (.int q), .val (.int w), .val (.str o), .val (.lst (row.map .str)), .val t.d, .un, .un, .un, .un]
theorem ds3 {ks : List Str} {xs : List D} (h : ks.length ≤ 900) (x : Str) (d : D) (c0 c1 c2 : Cl) (r : S) : dsubO d 3 (.str x) (c0 :: c1 :: c2 :: .dct ks xs :: r) = some (.nx (c0 :: c1 :: c2 :: .dct (dkeys x ks) (dput x d ks xs) :: r)) :=
  dsubO_ok (s := c0 :: c1 :: c2 :: .dct ks xs :: r) rfl (by omega)
section
variable {n : Nat} {c : Int} {k : Nat} {Nm ks : List Str} {xs M due : List D} {w : Int} {o p x : Str} {row : List Str}
theorem way3 (hM : M.length ≤ 900) (hdue : due.length ≤ 900) (hks : ks.length ≤ 900) (hp : Nm[11]? = some p) (hx : Nm[k]? = some x) (t : T) (mk : Mk) (hix : ixop (.lst M) (.int (w % (M.length : Int))) = some (mkD p mk)) (h0 : M ≠ []) (f : Str → D) (hf : ∀ y ∈ mk.row, y ≠ o → dlook y mk.ks mk.xs = some (f y)) (hr : mk.row.length ≤ 20) :
    ∃ s', execs (prg.env (n + 2)) 15 [3, 4, 5] 0 (b_l_let.drop 5) (s15 c k Nm ks xs M due 3 w o row t) = some (.rt (.cl (.val (T.call (.name mk.m) (.num w)).d)) s') ∧
      gt s' 3 = .dct (dkeys x ks) (dput x (.tup [.str p, (bodyP mk.k mk.row).d]) ks xs) ∧ gt s' 4 = .lst M ∧ gt s' 5 = .lst (due ++ [.tup [.str p, (bodyP mk.k mk.row).d, .lst ((once mk.row "").map .str), .lst ((once mk.row "").map (stD o (.int w) f))]]) := by
  have i11 : ixop (.val (.lst (Nm.map D.str))) (.int 11) = some (.str p) := ix_vlst (xs := Nm.map D.str) (k := 11) (x := .str p) (by rw [List.getElem?_map, hp]; rfl)
  have ik : ixop (.val (.lst (Nm.map D.str))) (.int (k : Int)) = some (.str x) := ix_vlst (xs := Nm.map D.str) (k := k) (x := .str x) (by rw [List.getElem?_map, hx]; rfl)
  have vg : dc (prg.env (n + 2)) 107 [.lst (mk.row.map .str), .dct mk.ks mk.xs, .str o, .int w] = some (.ok (.val (.tup [.lst ((once mk.row "").map .str), .lst ((once mk.row "").map (stD o (.int w) f))]))) :=
    dc_ok (P := prg.fds) (n := n + 1) (fd := f_l_values) (by rfl) rfl rfl rfl (values_ex n [] (.inl rfl) mk.row hr (.val (.dct mk.ks mk.xs)) mk.ks mk.xs (.inr rfl) o w f hf)
  have hmod := bin_modP w (M.length : Int) (by cases M with | nil => exact absurd rfl h0 | cons a M => simp)
  have hz : due.length < sizeLine := Nat.lt_of_le_of_lt (by omega : due.length ≤ 1000000) million
  have ht : M.isEmpty = false := by cases M with | nil => exact absurd rfl h0 | cons a M => rfl
  have hd := fun (d : D) => ds3 (xs := xs) hks x d
  unfold mkD at hix
  simp only [T.d] at hix
  refine ⟨[.val (.int c), .val (.int k), .val (.lst (Nm.map .str)), .dct (dkeys x ks) (dput x (.tup [.str p, (bodyP mk.k mk.row).d]) ks xs), .lst M, .lst (due ++ [.tup [.str p, (bodyP mk.k mk.row).d, .lst ((once mk.row "").map .str), .lst ((once mk.row "").map (stD o (.int w) f))]]), .val (.int 3), .val (.int w), .val (.str o), .val (.lst (row.map .str)), .val t.d, .val (.tup [.str mk.m, .lst (mk.row.map .str), .tup [.str "fun", .str p, (bodyP mk.k mk.row).d], .dct mk.ks mk.xs]), .val (.tup [.lst ((once mk.row "").map .str), .lst ((once mk.row "").map (stD o (.int w) f))]), .un, .un], ?_, rfl, rfl, rfl⟩
  simp [b_l_let, s15, hmod, hix, vg, i11, ik, hz, ht, T.d, hd]
theorem way2 (hM : M.length ≤ 900) (hdue : due.length ≤ 900) (hks : ks.length ≤ 900) (hx : Nm[k]? = some x) (kn : Int) (f : Str → D) (hf : ∀ y ∈ once row o, dlook y ks xs = some (f y)) (hr : row.length ≤ 20) :
    ∃ s', execs (prg.env (n + 2)) 15 [3, 4, 5] 0 (b_l_let.drop 5) (s15 c k Nm ks xs M due 2 w o row (.fn p (bodyP kn row))) = some (.rt (.cl (.val (T.fn o (.fn p (bodyP kn row))).d)) s') ∧
      gt s' 3 = .dct (dkeys x ks) (dput x (.tup [.str o, (T.fn p (bodyP kn row)).d]) ks xs) ∧ gt s' 4 = .lst (M ++ [mkD p ⟨x, row, kn, ks, xs⟩]) ∧ gt s' 5 = .lst (due ++ [.tup [.str o, (T.fn p (bodyP kn row)).d, .lst ((once row o).map .str), .lst ((once row o).map f)]]) := by
  have ik : ixop (.val (.lst (Nm.map D.str))) (.int (k : Int)) = some (.str x) := ix_vlst (xs := Nm.map D.str) (k := k) (x := .str x) (by rw [List.getElem?_map, hx]; rfl)
  have og : dc (prg.env (n + 2)) 103 [.lst (row.map .str), .str o] = some (.ok (.val (.lst ((once row o).map .str)))) := once_g (n + 1) row o (by omega)
  have hz : due.length < sizeLine := Nat.lt_of_le_of_lt (by omega : due.length ≤ 1000000) million
  have hzM : M.length < sizeLine := Nat.lt_of_le_of_lt (by omega : M.length ≤ 1000000) million
  have hd := fun (d : D) => ds3 (xs := xs) hks x d
  have hol := once_len o row []
  have hol : (once row o).length ≤ row.length := by simpa [once] using hol
  generalize once row o = F at *
  generalize hb : (bodyP kn row).d = b
  have comp : ev (prg.env (n + 2)) (.comp (.dix (.v 3) (.v 14)) 14 (.v 13) .seq (.c (.bl true))) [.val (.int c), .val (.int k), .val (.lst (Nm.map .str)), .dct ks xs, .lst M, .lst due, .val (.int 2), .val (.int w), .val (.str o), .val (.lst (row.map .str)), .val (.tup [.str "fun", .str p, b]), .un, .un, .val (.lst (F.map .str)), .un] =
      some (.ok (.fr (.lst (F.map f))) [.val (.int c), .val (.int k), .val (.lst (Nm.map .str)), .dct ks xs, .lst M, .lst due, .val (.int 2), .val (.int w), .val (.str o), .val (.lst (row.map .str)), .val (.tup [.str "fun", .str p, b]), .un, .un, .val (.lst (F.map .str)), .un]) := by
    have q := comp_map (Γ := prg.env (n + 2)) (e := .dix (.v 3) (.v 14)) (x := 14) (it := .v 13) (k := .seq) (s := [.val (.int c), .val (.int k), .val (.lst (Nm.map .str)), .dct ks xs, .lst M, .lst due, .val (.int 2), .val (.int w), .val (.str o), .val (.lst (row.map .str)), .val (.tup [.str "fun", .str p, b]), .un, .un, .val (.lst (F.map .str)), .un]) (s1 := [.val (.int c), .val (.int k), .val (.lst (Nm.map .str)), .dct ks xs, .lst M, .lst due, .val (.int 2), .val (.int w), .val (.str o), .val (.lst (row.map .str)), .val (.tup [.str "fun", .str p, b]), .un, .un, .val (.lst (F.map .str)), .un]) (ds := F.map .str) (fun d => match d with
      | .str y => f y
      | d => d) (by simp) rfl (by rw [List.length_map]; omega) fun d hd => by
        obtain ⟨y, hy, rfl⟩ := List.mem_map.mp hd
        have hl := hf y hy
        simp [hl]
    rw [q, List.map_map]
    rfl
  refine ⟨[.val (.int c), .val (.int k), .val (.lst (Nm.map .str)), .dct (dkeys x ks) (dput x (.tup [.str o, .tup [.str "fun", .str p, b]]) ks xs), .lst (M ++ [.tup [.str x, .lst (row.map .str), .tup [.str "fun", .str p, b], .dct ks xs]]), .lst (due ++ [.tup [.str o, .tup [.str "fun", .str p, b], .lst (F.map .str), .lst (F.map f)]]), .val (.int 2), .val (.int w), .val (.str o), .val (.lst (row.map .str)), .val (.tup [.str "fun", .str p, b]), .un, .un, .val (.lst (F.map .str)), .un], ?_, by rw [← hb]; rfl, by rw [← hb]; rfl, by rw [← hb]; rfl⟩
  have bd : bfop .dict [.dct ks xs] = some (.dct ks xs) := rfl
  simp [b_l_let, s15, og, comp, ik, hz, hzM, T.d, hd, hb, bd]
/-- the same, where an inner function is made of what stands here -/
theorem way01 (hM : M.length ≤ 900) (hdue : due.length ≤ 900) (hks : ks.length ≤ 900) (hp : Nm[11]? = some p) (hx : Nm[k]? = some x) (kn q : Int) (hq : q = 0 ∨ (q = 3 ∧ M = [])) (f : Str → D) (hf : ∀ y ∈ row, y ≠ o → dlook y ks xs = some (f y)) (hr : row.length ≤ 20) :
    ∃ s', execs (prg.env (n + 2)) 15 [3, 4, 5] 0 (b_l_let.drop 5) (s15 c k Nm ks xs M due q w o row (.fn p (bodyP kn row))) = some (.rt (.cl (.val (T.fn p (bodyP kn row)).d)) s') ∧
      gt s' 3 = .dct (dkeys x ks) (dput x (.tup [.str p, (bodyP kn row).d]) ks xs) ∧ gt s' 4 = .lst M ∧ gt s' 5 = .lst (due ++ [.tup [.str p, (bodyP kn row).d, .lst ((once row "").map .str), .lst ((once row "").map (stD o (.int w) f))]]) := by
  have i11 : ixop (.val (.lst (Nm.map D.str))) (.int 11) = some (.str p) := ix_vlst (xs := Nm.map D.str) (k := 11) (x := .str p) (by rw [List.getElem?_map, hp]; rfl)
  have ik : ixop (.val (.lst (Nm.map D.str))) (.int (k : Int)) = some (.str x) := ix_vlst (xs := Nm.map D.str) (k := k) (x := .str x) (by rw [List.getElem?_map, hx]; rfl)
  have hz : due.length < sizeLine := Nat.lt_of_le_of_lt (by omega : due.length ≤ 1000000) million
  have hd := fun (d : D) => ds3 (xs := xs) hks x d
  generalize hb : (bodyP kn row).d = b
  have cg : cl? (prg.env (n + 2)) 107 [.d (.lst (row.map .str)), .rf 3, .d (.str o), .d (.int w)] [.val (.int c), .val (.int k), .val (.lst (Nm.map .str)), .dct ks xs, .lst M, .lst due, .val (.int q), .val (.int w), .val (.str o), .val (.lst (row.map .str)), .val (.tup [.str "fun", .str p, b]), .un, .un, .un, .un] = some (.ok (.fr (.val (.tup [.lst ((once row "").map .str), .lst ((once row "").map (stD o (.int w) f))]))) [.val (.int c), .val (.int k), .val (.lst (Nm.map .str)), .dct ks xs, .lst M, .lst due, .val (.int q), .val (.int w), .val (.str o), .val (.lst (row.map .str)), .val (.tup [.str "fun", .str p, b]), .un, .un, .un, .un]) :=
    cl_rf (P := prg.fds) (n := n + 1) (fd := f_l_values) [.val (.lst (row.map .str)), .dct ks xs, .val (.str o), .val (.int w)] (by rfl) rfl rfl rfl (by simp [rfs]) rfl (values_ex n [1] (.inr rfl) row hr (.dct ks xs) ks xs (.inl rfl) o w f hf) rfl rfl
  generalize once row "" = F at *
  refine ⟨[.val (.int c), .val (.int k), .val (.lst (Nm.map .str)), .dct (dkeys x ks) (dput x (.tup [.str p, b]) ks xs), .lst M, .lst (due ++ [.tup [.str p, b, .lst (F.map .str), .lst (F.map (stD o (.int w) f))]]), .val (.int q), .val (.int w), .val (.str o), .val (.lst (row.map .str)), .val (.tup [.str "fun", .str p, b]), .un, .val (.tup [.lst (F.map .str), .lst (F.map (stD o (.int w) f))]), .un, .un], ?_, rfl, rfl, rfl⟩
  rcases hq with rfl | ⟨rfl, rfl⟩
  · simp [b_l_let, s15, cg, i11, ik, hz, T.d, hd, hb]
  · simp [b_l_let, s15, cg, i11, ik, hz, T.d, hd, hb]
theorem way1 (hM : M.length ≤ 900) (hdue : due.length ≤ 900) (hks : ks.length ≤ 900) (hp : Nm[11]? = some p) (hx : Nm[k]? = some x) (kn : Int) (f : Str → D) (hf : ∀ y ∈ row, y ≠ o → dlook y ks xs = some (f y)) (hr : row.length ≤ 20) :
    ∃ s', execs (prg.env (n + 2)) 15 [3, 4, 5] 0 (b_l_let.drop 5) (s15 c k Nm ks xs M due 1 w o row (.fn p (bodyP kn row))) = some (.rt (.cl (.val (T.call (.fn o (.fn p (bodyP kn row))) (.num w)).d)) s') ∧
      gt s' 3 = .dct (dkeys x ks) (dput x (.tup [.str p, (bodyP kn row).d]) ks xs) ∧ gt s' 4 = .lst M ∧ gt s' 5 = .lst (due ++ [.tup [.str o, (T.fn p (bodyP kn row)).d, .lst ((once row o).map .str), .lst ((once row o).map f)], .tup [.str p, (bodyP kn row).d, .lst ((once row "").map .str), .lst ((once row "").map (stD o (.int w) f))]]) := by
  have i11 : ixop (.val (.lst (Nm.map D.str))) (.int 11) = some (.str p) := ix_vlst (xs := Nm.map D.str) (k := 11) (x := .str p) (by rw [List.getElem?_map, hp]; rfl)
  have ik : ixop (.val (.lst (Nm.map D.str))) (.int (k : Int)) = some (.str x) := ix_vlst (xs := Nm.map D.str) (k := k) (x := .str x) (by rw [List.getElem?_map, hx]; rfl)
  have hz : due.length < sizeLine := Nat.lt_of_le_of_lt (by omega : due.length ≤ 1000000) million
  have hz1 : due.length + 1 < sizeLine := Nat.lt_of_le_of_lt (by omega : due.length + 1 ≤ 1000000) million
  have hd := fun (d : D) => ds3 (xs := xs) hks x d
  have og : dc (prg.env (n + 2)) 103 [.lst (row.map .str), .str o] = some (.ok (.val (.lst ((once row o).map .str)))) := once_g (n + 1) row o (by omega)
  have hol := once_len o row []
  have hol : (once row o).length ≤ row.length := by simpa [once] using hol
  have hfo : ∀ y ∈ once row o, dlook y ks xs = some (f y) := fun y hy => by
    rcases (once_mem o row [] y).mp hy with z | z
    · cases z
    · exact hf y z.1 z.2
  generalize hb : (bodyP kn row).d = b
  have cg : ∀ (due : List D) (c13 : Cl), cl? (prg.env (n + 2)) 107 [.d (.lst (row.map .str)), .rf 3, .d (.str o), .d (.int w)] [.val (.int c), .val (.int k), .val (.lst (Nm.map .str)), .dct ks xs, .lst M, .lst due, .val (.int 1), .val (.int w), .val (.str o), .val (.lst (row.map .str)), .val (.tup [.str "fun", .str p, b]), .un, .un, c13, .un] = some (.ok (.fr (.val (.tup [.lst ((once row "").map .str), .lst ((once row "").map (stD o (.int w) f))]))) [.val (.int c), .val (.int k), .val (.lst (Nm.map .str)), .dct ks xs, .lst M, .lst due, .val (.int 1), .val (.int w), .val (.str o), .val (.lst (row.map .str)), .val (.tup [.str "fun", .str p, b]), .un, .un, c13, .un]) := fun due c13 =>
    cl_rf (P := prg.fds) (n := n + 1) (fd := f_l_values) [.val (.lst (row.map .str)), .dct ks xs, .val (.str o), .val (.int w)] (by rfl) rfl rfl rfl (by simp [rfs]) rfl (values_ex n [1] (.inr rfl) row hr (.dct ks xs) ks xs (.inl rfl) o w f hf) rfl rfl
  generalize once row "" = G at *
  generalize once row o = F at *
  have comp : ev (prg.env (n + 2)) (.comp (.dix (.v 3) (.v 14)) 14 (.v 13) .seq (.c (.bl true))) [.val (.int c), .val (.int k), .val (.lst (Nm.map .str)), .dct ks xs, .lst M, .lst due, .val (.int 1), .val (.int w), .val (.str o), .val (.lst (row.map .str)), .val (.tup [.str "fun", .str p, b]), .un, .un, .val (.lst (F.map .str)), .un] =
      some (.ok (.fr (.lst (F.map f))) [.val (.int c), .val (.int k), .val (.lst (Nm.map .str)), .dct ks xs, .lst M, .lst due, .val (.int 1), .val (.int w), .val (.str o), .val (.lst (row.map .str)), .val (.tup [.str "fun", .str p, b]), .un, .un, .val (.lst (F.map .str)), .un]) := by
    have q := comp_map (Γ := prg.env (n + 2)) (e := .dix (.v 3) (.v 14)) (x := 14) (it := .v 13) (k := .seq) (s := [.val (.int c), .val (.int k), .val (.lst (Nm.map .str)), .dct ks xs, .lst M, .lst due, .val (.int 1), .val (.int w), .val (.str o), .val (.lst (row.map .str)), .val (.tup [.str "fun", .str p, b]), .un, .un, .val (.lst (F.map .str)), .un]) (s1 := [.val (.int c), .val (.int k), .val (.lst (Nm.map .str)), .dct ks xs, .lst M, .lst due, .val (.int 1), .val (.int w), .val (.str o), .val (.lst (row.map .str)), .val (.tup [.str "fun", .str p, b]), .un, .un, .val (.lst (F.map .str)), .un]) (ds := F.map .str) (fun d => match d with
      | .str y => f y
      | d => d) (by simp) rfl (by rw [List.length_map]; omega) fun d hd => by
        obtain ⟨y, hy, rfl⟩ := List.mem_map.mp hd
        have hl := hfo y hy
        simp [hl]
    rw [q, List.map_map]
    rfl
  refine ⟨[.val (.int c), .val (.int k), .val (.lst (Nm.map .str)), .dct (dkeys x ks) (dput x (.tup [.str p, b]) ks xs), .lst M, .lst (due ++ [.tup [.str o, .tup [.str "fun", .str p, b], .lst (F.map .str), .lst (F.map f)], .tup [.str p, b, .lst (G.map .str), .lst (G.map (stD o (.int w) f))]]), .val (.int 1), .val (.int w), .val (.str o), .val (.lst (row.map .str)), .val (.tup [.str "fun", .str p, b]), .un, .val (.tup [.lst (G.map .str), .lst (G.map (stD o (.int w) f))]), .val (.lst (F.map .str)), .un], ?_, by rfl, by rfl, by rw [← hb]; rfl⟩
  simp [b_l_let, s15, cg, comp, og, i11, ik, hz, hz1, T.d, hd, hb]
end
end Mi.K12
namespace Mi
open PySem
/-! ### one deed after the other -/
def T.isV : T → Bool
  | .num _ => true
  | .fn _ _ => true
  | _ => false
/-- the place of the part that comes next -/
def wnT : T → Nat
  | .lett _ a _ => if a.isV then 0 else 2
  | .ite a _ _ => if a.isV then 0 else 1
  | .call a b => if a.isV then (if b.isV then 0 else 2) else 1
  | .plus a b => if a.isV then (if b.isV then 0 else 2) else 1
  | .less a b => if a.isV then (if b.isV then 0 else 2) else 1
  | _ => 0
def deedT : T → Sum Nat T
  | .name _ => .inl 2
  | .lett x a b => .inr (T.put x a b)
  | .call (.num _) _ => .inl 5
  | .call (.fn x b) v => .inr (T.put x v b)
  | .ite (.num i) b c => .inr (if i = 0 then c else b)
  | .ite (.fn _ _) _ _ => .inl 4
  | .plus (.fn _ _) _ => .inl 4
  | .plus (.num _) (.fn _ _) => .inl 4
  | .plus (.num i) (.num j) => .inr (.num (i + j))
  | .less (.fn _ _) _ => .inl 4
  | .less (.num _) (.fn _ _) => .inl 4
  | .less (.num i) (.num j) => .inr (.num (i - j))
  | _ => .inl 99
def redT : T → T
  | .lett x a b => if a.isV then .lett x a b else redT a
  | .ite a b c => if a.isV then .ite a b c else redT a
  | .call a b => if a.isV then (if b.isV then .call a b else redT b) else redT a
  | .plus a b => if a.isV then (if b.isV then .plus a b else redT b) else redT a
  | .less a b => if a.isV then (if b.isV then .less a b else redT b) else redT a
  | t => t
def plugT : T → T → T
  | .lett x a b, f => if a.isV then f else .lett x (plugT a f) b
  | .ite a b c, f => if a.isV then f else .ite (plugT a f) b c
  | .call a b, f => if a.isV then (if b.isV then f else .call a (plugT b f)) else .call (plugT a f) b
  | .plus a b, f => if a.isV then (if b.isV then f else .plus a (plugT b f)) else .plus (plugT a f) b
  | .less a b, f => if a.isV then (if b.isV then f else .less a (plugT b f)) else .less (plugT a f) b
  | _, f => f
def stepT (t : T) : Sum Nat T := match deedT (redT t) with
  | .inl k => .inl k
  | .inr f => .inr (plugT t f)
abbrev wayD (p : T × Nat) : D := .tup [p.1.d, .int p.2]
def wayT : T → List (T × Nat)
  | .lett x a b => if a.isV then [] else (.lett x a b, 2) :: wayT a
  | .ite a b c => if a.isV then [] else (.ite a b c, 1) :: wayT a
  | .call a b => if a.isV then (if b.isV then [] else (.call a b, 2) :: wayT b) else (.call a b, 1) :: wayT a
  | .plus a b => if a.isV then (if b.isV then [] else (.plus a b, 2) :: wayT b) else (.plus a b, 1) :: wayT a
  | .less a b => if a.isV then (if b.isV then [] else (.less a b, 2) :: wayT b) else (.less a b, 1) :: wayT a
  | _ => []
theorem way_hgt : ∀ t : T, (wayT t).length ≤ t.hgt
  | .num _ => by simp [wayT]
  | .name _ => by simp [wayT]
  | .fn _ _ => by simp [wayT]
  | .lett x a b => by
    have := way_hgt a
    unfold wayT
    split <;> simp [T.hgt] <;> omega
  | .ite a b c => by
    have := way_hgt a
    unfold wayT
    split <;> simp [T.hgt] <;> omega
  | .call a b => by
    have := way_hgt a
    have := way_hgt b
    unfold wayT
    split
    · split <;> simp [T.hgt] <;> omega
    · simp [T.hgt]; omega
  | .plus a b => by
    have := way_hgt a
    have := way_hgt b
    unfold wayT
    split
    · split <;> simp [T.hgt] <;> omega
    · simp [T.hgt]; omega
  | .less a b => by
    have := way_hgt a
    have := way_hgt b
    unfold wayT
    split
    · split <;> simp [T.hgt] <;> omega
    · simp [T.hgt]; omega
/-! the program's own -/
section
variable {Q : Nat → Option FD} {n : Nat}
theorem isv_g (h : Q 8 = some P.f_is_value) (t : T) : dc (envN Q (n + 1)) 8 [t.d] = some (.ok (.val (.bl t.isV))) := by
  obtain ⟨s, e⟩ := rtv_of (o := execs (envN Q n) 1 [] 0 P.b_is_value [.val t.d]) (a := .cl (.val (.bl t.isV))) (by
    cases t <;> simp [P.b_is_value, T.d, T.isV])
  exact dc_ok h rfl rfl rfl e
theorem wn_g (h : Q 11 = some P.f_worked_next) (h8 : Q 8 = some P.f_is_value) (t : T) (hv : t.isV = false) : dc (envN Q (n + 2)) 11 [t.d] = some (.ok (.val (.int (wnT t)))) := by
  have i8 := fun t => isv_g (n := n) h8 t
  obtain ⟨s, e⟩ := rtv_of (o := execs (envN Q (n + 1)) 1 [] 0 P.b_worked_next [.val t.d]) (a := .cl (.val (.int (wnT t)))) (by
    cases t with
    | num i => cases hv
    | fn x b => cases hv
    | name x => simp [P.b_worked_next, T.d, wnT]
    | lett x a b => cases ha : a.isV <;> simp [P.b_worked_next, T.d, wnT, i8, ha]
    | ite a b c => cases ha : a.isV <;> simp [P.b_worked_next, T.d, wnT, i8, ha]
    | call a b => cases ha : a.isV <;> cases hb : b.isV <;> simp [P.b_worked_next, T.d, wnT, i8, ha, hb]
    | plus a b => cases ha : a.isV <;> cases hb : b.isV <;> simp [P.b_worked_next, T.d, wnT, i8, ha, hb]
    | less a b => cases ha : a.isV <;> cases hb : b.isV <;> simp [P.b_worked_next, T.d, wnT, i8, ha, hb])
  exact dc_ok h rfl rfl rfl e
theorem numof_g (h : Q 12 = some P.f_number_of) (i : Int) : dc (envN Q (n + 1)) 12 [(T.num i).d] = some (.ok (.val (.int i))) := by
  obtain ⟨s, e⟩ := rtv_of (o := execs (envN Q n) 1 [] 0 P.b_number_of [.val (T.num i).d]) (a := .cl (.val (.int i))) (by
    simp [P.b_number_of, T.d])
  exact dc_ok h rfl rfl rfl e
theorem numof_x (h : Q 12 = some P.f_number_of) (x : Str) (b : T) : dc (envN Q (n + 1)) 12 [(T.fn x b).d] = some (.ex 4) := by
  have : ∃ s, execs (envN Q n) 1 [] 0 P.b_number_of [.val (T.fn x b).d] = some (.ex 4 s) := ⟨_, by simp [P.b_number_of, T.d]; rfl⟩
  obtain ⟨s, e⟩ := this
  exact dc_ex h rfl rfl e
structure StepQ (Q : Nat → Option FD) : Prop where
  p3 : Q 3 = some P.f_parts
  p8 : Q 8 = some P.f_is_value
  p9 : Q 9 = some P.f_remade
  p10 : Q 10 = some P.f_put
  p11 : Q 11 = some P.f_worked_next
  p12 : Q 12 = some P.f_number_of
  p13 : Q 13 = some P.f_deed
  p14 : Q 14 = some P.f_step
theorem deed_g (Z : StepQ Q) (t : T) (hv : t.isV = false) (hw : wnT t = 0) (hh : t.hgt ≤ 100000) : match deedT t with
    | .inl k => dc (envN Q (n + 3)) 13 [t.d] = some (.ex k)
    | .inr f => dc (envN Q (n + 3)) 13 [t.d] = some (.ok (.val f.d)) := by
  have pg := fun t v x ht => put_gh (n := n) Z.p3 Z.p9 Z.p10 t v x ht
  have ng := fun i => numof_g (n := n + 1) Z.p12 i
  have nx := fun x b => numof_x (n := n + 1) Z.p12 x b
  have X : ∀ k, (∃ s, execs (envN Q (n + 2)) 3 [] 0 P.b_deed [.val t.d, .un, .un] = some (.ex k s)) → dc (envN Q (n + 3)) 13 [t.d] = some (.ex k) := fun k ⟨s, e⟩ => dc_ex Z.p13 rfl rfl e
  have K : ∀ f : T, rtv (execs (envN Q (n + 2)) 3 [] 0 P.b_deed [.val t.d, .un, .un]) = some (.cl (.val f.d)) → dc (envN Q (n + 3)) 13 [t.d] = some (.ok (.val f.d)) := fun f h => by
    obtain ⟨s, e⟩ := rtv_of h
    exact dc_ok Z.p13 rfl rfl rfl e
  cases t with
  | num i => cases hv
  | fn x b => cases hv
  | name x => exact X 2 ⟨_, by simp [P.b_deed, T.d]; rfl⟩
  | lett x a b =>
    have := pg b a x (by simp only [T.hgt] at hh; omega)
    exact K _ (by simp [P.b_deed, T.d, this])
  | call a b =>
    cases a with
    | num i => exact X 5 ⟨_, by simp [P.b_deed, T.d]; rfl⟩
    | fn x c =>
      have := pg c b x (by simp only [T.hgt] at hh; omega)
      exact K _ (by simp [P.b_deed, T.d, this])
    | _ => simp [wnT, T.isV] at hw
  | ite a b c =>
    cases a with
    | num i =>
      have := ng i
      simp only [T.d] at this
      by_cases h0 : i = 0
      · subst h0
        exact K _ (by simp [P.b_deed, T.d, this])
      · exact K _ (by simp [P.b_deed, T.d, this, h0])
    | fn x b' =>
      have := nx x b'
      simp only [T.d] at this
      exact X 4 ⟨_, by simp [P.b_deed, T.d, this]; rfl⟩
    | _ => simp [wnT, T.isV] at hw
  | plus a b =>
    cases a with
    | num i =>
      have n1 := ng i
      simp only [T.d] at n1
      cases b with
      | num j =>
        have n2 := ng j
        simp only [T.d] at n2
        exact K _ (by simp [P.b_deed, T.d, n1, n2])
      | fn x b' =>
        have n2 := nx x b'
        simp only [T.d] at n2
        exact X 4 ⟨_, by simp [P.b_deed, T.d, n1, n2]; rfl⟩
      | _ => simp [wnT, T.isV] at hw
    | fn x b' =>
      have := nx x b'
      simp only [T.d] at this
      exact X 4 ⟨_, by simp [P.b_deed, T.d, this]; rfl⟩
    | _ => simp [wnT, T.isV] at hw
  | less a b =>
    cases a with
    | num i =>
      have n1 := ng i
      simp only [T.d] at n1
      cases b with
      | num j =>
        have n2 := ng j
        simp only [T.d] at n2
        exact K _ (by simp [P.b_deed, T.d, n1, n2])
      | fn x b' =>
        have n2 := nx x b'
        simp only [T.d] at n2
        exact X 4 ⟨_, by simp [P.b_deed, T.d, n1, n2]; rfl⟩
      | _ => simp [wnT, T.isV] at hw
    | fn x b' =>
      have := nx x b'
      simp only [T.d] at this
      exact X 4 ⟨_, by simp [P.b_deed, T.d, this]; rfl⟩
    | _ => simp [wnT, T.isV] at hw
end
theorem red_wn : ∀ t : T, t.isV = false → (redT t).isV = false ∧ wnT (redT t) = 0 ∧ (redT t).hgt ≤ t.hgt
  | .num _, h => by cases h
  | .fn _ _, h => by cases h
  | .name x, _ => ⟨rfl, rfl, Nat.le_refl _⟩
  | .lett x a b, _ => by
    unfold redT
    cases h : a.isV with
    | true => exact ⟨rfl, by simp [wnT, h], Nat.le_refl _⟩
    | false => obtain ⟨h1, h2, h3⟩ := red_wn a h; exact ⟨h1, h2, by simp only [T.hgt]; simp; omega⟩
  | .ite a b c, _ => by
    unfold redT
    cases h : a.isV with
    | true => exact ⟨rfl, by simp [wnT, h], Nat.le_refl _⟩
    | false => obtain ⟨h1, h2, h3⟩ := red_wn a h; exact ⟨h1, h2, by simp only [T.hgt]; simp; omega⟩
  | .call a b, _ => by
    unfold redT
    cases h : a.isV with
    | true =>
      cases hb : b.isV with
      | true => exact ⟨rfl, by simp [wnT, h, hb], Nat.le_refl _⟩
      | false => obtain ⟨h1, h2, h3⟩ := red_wn b hb; exact ⟨h1, h2, by simp only [T.hgt]; simp; omega⟩
    | false => obtain ⟨h1, h2, h3⟩ := red_wn a h; exact ⟨h1, h2, by simp only [T.hgt]; simp; omega⟩
  | .plus a b, _ => by
    unfold redT
    cases h : a.isV with
    | true =>
      cases hb : b.isV with
      | true => exact ⟨rfl, by simp [wnT, h, hb], Nat.le_refl _⟩
      | false => obtain ⟨h1, h2, h3⟩ := red_wn b hb; exact ⟨h1, h2, by simp only [T.hgt]; simp; omega⟩
    | false => obtain ⟨h1, h2, h3⟩ := red_wn a h; exact ⟨h1, h2, by simp only [T.hgt]; simp; omega⟩
  | .less a b, _ => by
    unfold redT
    cases h : a.isV with
    | true =>
      cases hb : b.isV with
      | true => exact ⟨rfl, by simp [wnT, h, hb], Nat.le_refl _⟩
      | false => obtain ⟨h1, h2, h3⟩ := red_wn b hb; exact ⟨h1, h2, by simp only [T.hgt]; simp; omega⟩
    | false => obtain ⟨h1, h2, h3⟩ := red_wn a h; exact ⟨h1, h2, by simp only [T.hgt]; simp; omega⟩
/-! ### the way down and back -/
theorem slt (xs : List D) (k : Nat) : slop (.val (.tup xs)) none (some (k : Int)) = some (.val (.tup (xs.take k))) := by rw [sl_tup, cutL_to]
theorem slf (xs : List D) (k : Nat) : slop (.val (.tup xs)) (some (k : Int)) none = some (.val (.tup (xs.drop k))) := by rw [sl_tup, cutL_from]
section
variable {Q : Nat → Option FD} {n : Nat} (Z : StepQ Q)
noncomputable abbrev downL (Γ : Env) := loop (evT Γ (.cmp .gt (.v 3) (.c (.int 0)))) (execs Γ 6 [] 0 P.b_step_0)
noncomputable abbrev upL (Γ : Env) := loop (evT Γ (.v 1)) (execs Γ 6 [] 0 P.b_step_1)
include Z
theorem down_one (a0 c4 c5 : Cl) (way : List D) (t u : T) (k : Nat) (hw : wnT t = k + 1) (hu : ixop (.val t.d) (.int ((k : Int) + 1)) = some u.d) (hv : u.isV = false) (hl : way.length < 1000000) :
    downL (envN Q (n + 2)) [a0, .lst way, .val t.d, .val (.int (wnT t)), c4, c5] = downL (envN Q (n + 2)) [a0, .lst (way ++ [wayD (t, wnT t)]), .val u.d, .val (.int (wnT u)), c4, c5] := by
  have hz : way.length < sizeLine := Nat.lt_of_lt_of_le hl (Nat.le_of_lt million)
  have w := wn_g (n := n) Z.p11 Z.p8 u hv
  refine loop_turn (s1 := [a0, .lst way, .val t.d, .val (.int (wnT t)), c4, c5]) ?_ ?_
  · simp [hw]
  · simp [P.b_step_0, hw, hz, hu, w]
theorem down_run (a0 c4 c5 : Cl) : ∀ (t : T) (way : List D), t.isV = false → way.length + t.hgt ≤ 1000000 →
    downL (envN Q (n + 2)) [a0, .lst way, .val t.d, .val (.int (wnT t)), c4, c5] = some (.nx [a0, .lst (way ++ (wayT t).map wayD), .val (redT t).d, .val (.int 0), c4, c5]) := by
  have fin : ∀ (t : T) (way : List D), wnT t = 0 → downL (envN Q (n + 2)) [a0, .lst way, .val t.d, .val (.int (wnT t)), c4, c5] = some (.nx [a0, .lst (way ++ ([] : List (T × Nat)).map wayD), .val t.d, .val (.int 0), c4, c5]) := fun t way h => by
    rw [h, List.map_nil, List.append_nil]
    exact loop_end (by simp)
  have nxt : ∀ (t u : T) (k : Nat) (way : List D), wnT t = k + 1 → ixop (.val t.d) (.int ((k : Int) + 1)) = some u.d → u.isV = false → u.hgt + 1 ≤ t.hgt → way.length + t.hgt ≤ 1000000 → wayT t = (t, k + 1) :: wayT u → redT t = redT u →
      (∀ way : List D, way.length + u.hgt ≤ 1000000 → downL (envN Q (n + 2)) [a0, .lst way, .val u.d, .val (.int (wnT u)), c4, c5] = some (.nx [a0, .lst (way ++ (wayT u).map wayD), .val (redT u).d, .val (.int 0), c4, c5])) →
      downL (envN Q (n + 2)) [a0, .lst way, .val t.d, .val (.int (wnT t)), c4, c5] = some (.nx [a0, .lst (way ++ (wayT t).map wayD), .val (redT t).d, .val (.int 0), c4, c5]) := fun t u k way h1 h2 h3 h4 h5 h6 h7 ih => by
    rw [down_one Z a0 c4 c5 way t u k h1 h2 h3 (by have := hgt_pos t; omega), ih _ (by rw [List.length_append, List.length_singleton]; omega), h6, h7, h1]
    simp
  intro t
  induction t with
  | num i => intro way h; cases h
  | fn x b => intro way h; cases h
  | name x => intro way _ _; exact fin _ _ rfl
  | lett x a b iha _ =>
    intro way _ hl
    cases h : a.isV with
    | true =>
      have := fin (.lett x a b) way (by simp [wnT, h])
      unfold wayT redT
      rw [h, if_pos rfl, if_pos rfl]
      exact this
    | false => exact nxt (.lett x a b) a 1 way (by simp [wnT, h]) (ix_tup_2 _ _ _ _) h (by simp only [T.hgt]; omega) hl (by rw [wayT, h]; rfl) (by rw [redT, h]; rfl) (fun w hw => iha w h hw)
  | ite a b c iha _ _ =>
    intro way _ hl
    cases h : a.isV with
    | true =>
      have := fin (.ite a b c) way (by simp [wnT, h])
      unfold wayT redT
      rw [h, if_pos rfl, if_pos rfl]
      exact this
    | false => exact nxt (.ite a b c) a 0 way (by simp [wnT, h]) (ix_tup_1 _ _ _) h (by simp only [T.hgt]; omega) hl (by rw [wayT, h]; rfl) (by rw [redT, h]; rfl) (fun w hw => iha w h hw)
  | call a b iha ihb =>
    intro way _ hl
    cases h : a.isV with
    | true =>
      cases hb : b.isV with
      | true =>
        have := fin (.call a b) way (by simp [wnT, h, hb])
        unfold wayT redT
        rw [h, hb, if_pos rfl, if_pos rfl]
        exact this
      | false => exact nxt (.call a b) b 1 way (by simp [wnT, h, hb]) (ix_tup_2 _ _ _ _) hb (by simp only [T.hgt]; omega) hl (by rw [wayT, h, hb]; rfl) (by rw [redT, h, hb]; rfl) (fun w hw => ihb w hb hw)
    | false => exact nxt (.call a b) a 0 way (by simp [wnT, h]) (ix_tup_1 _ _ _) h (by simp only [T.hgt]; omega) hl (by rw [wayT, h]; rfl) (by rw [redT, h]; rfl) (fun w hw => iha w h hw)
  | plus a b iha ihb =>
    intro way _ hl
    cases h : a.isV with
    | true =>
      cases hb : b.isV with
      | true =>
        have := fin (.plus a b) way (by simp [wnT, h, hb])
        unfold wayT redT
        rw [h, hb, if_pos rfl, if_pos rfl]
        exact this
      | false => exact nxt (.plus a b) b 1 way (by simp [wnT, h, hb]) (ix_tup_2 _ _ _ _) hb (by simp only [T.hgt]; omega) hl (by rw [wayT, h, hb]; rfl) (by rw [redT, h, hb]; rfl) (fun w hw => ihb w hb hw)
    | false => exact nxt (.plus a b) a 0 way (by simp [wnT, h]) (ix_tup_1 _ _ _) h (by simp only [T.hgt]; omega) hl (by rw [wayT, h]; rfl) (by rw [redT, h]; rfl) (fun w hw => iha w h hw)
  | less a b iha ihb =>
    intro way _ hl
    cases h : a.isV with
    | true =>
      cases hb : b.isV with
      | true =>
        have := fin (.less a b) way (by simp [wnT, h, hb])
        unfold wayT redT
        rw [h, hb, if_pos rfl, if_pos rfl]
        exact this
      | false => exact nxt (.less a b) b 1 way (by simp [wnT, h, hb]) (ix_tup_2 _ _ _ _) hb (by simp only [T.hgt]; omega) hl (by rw [wayT, h, hb]; rfl) (by rw [redT, h, hb]; rfl) (fun w hw => ihb w hb hw)
    | false => exact nxt (.less a b) a 0 way (by simp [wnT, h]) (ix_tup_1 _ _ _) h (by simp only [T.hgt]; omega) hl (by rw [wayT, h]; rfl) (by rw [redT, h]; rfl) (fun w hw => iha w h hw)
omit Z
/-- one node on the way back -/
theorem up_one (Γ : Env) (a0 c2 c3 c5 : Cl) (way : List D) (t f r : T) (k : Nat) (xs : List D) (ht : t.d = .tup xs) (hr : r.d = .tup (xs.take k ++ [f.d] ++ xs.drop (k + 1))) (hl : xs.length ≤ 10) :
    upL Γ [a0, .lst (way ++ [wayD (t, k)]), c2, c3, .val f.d, c5] = upL Γ [a0, .lst way, c2, c3, .val r.d, .val (wayD (t, k))] := by
  have e1 := slt xs k
  have e2 := slf xs (k + 1)
  have z1 : (xs.take k).length + 1 ≤ sizeLine := Nat.le_trans (by rw [List.length_take]; omega : _ ≤ 1000000) (Nat.le_of_lt million)
  have z2 : (xs.take k ++ [f.d]).length + (xs.drop (k + 1)).length ≤ sizeLine := Nat.le_trans (by rw [List.length_append, List.length_take, List.length_drop, List.length_singleton]; omega : _ ≤ 1000000) (Nat.le_of_lt million)
  refine loop_turn (s1 := [a0, .lst (way ++ [wayD (t, k)]), c2, c3, .val f.d, c5]) (by simp) ?_
  rw [hr]
  generalize hA : xs.take k = A at *
  generalize hB : xs.drop (k + 1) = B at *
  have e2' : slop (.val (.tup xs)) (some ((k : Int) + 1)) none = some (.val (.tup B)) := by
    rw [← e2]; congr 1
  have z2' : A.length + (B.length + 1) ≤ sizeLine := by
    rw [List.length_append, List.length_singleton] at z2; omega
  have z2'' : A.length + 1 + B.length ≤ sizeLine := by omega
  simp [P.b_step_1, ht, e1, e2', z1, z2', z2'']
theorem up_run (Γ : Env) (a0 c2 c3 : Cl) (f : T) : ∀ (t : T) (way : List D) (c5 : Cl), t.isV = false → ∃ c5', upL Γ [a0, .lst (way ++ (wayT t).map wayD), c2, c3, .val f.d, c5] = upL Γ [a0, .lst way, c2, c3, .val (plugT t f).d, c5'] := by
  have nxt : ∀ (t u : T) (k : Nat) (way : List D) (c5 : Cl) (xs : List D), t.d = .tup xs → xs.length ≤ 10 → wayT t = (t, k) :: wayT u → (plugT t f).d = .tup (xs.take k ++ [(plugT u f).d] ++ xs.drop (k + 1)) →
      (∀ (way : List D) (c5 : Cl), ∃ c5', upL Γ [a0, .lst (way ++ (wayT u).map wayD), c2, c3, .val f.d, c5] = upL Γ [a0, .lst way, c2, c3, .val (plugT u f).d, c5']) →
      ∃ c5', upL Γ [a0, .lst (way ++ (wayT t).map wayD), c2, c3, .val f.d, c5] = upL Γ [a0, .lst way, c2, c3, .val (plugT t f).d, c5'] := fun t u k way c5 xs h1 h2 h3 h4 ih => by
    obtain ⟨c5', e⟩ := ih (way ++ [wayD (t, k)]) c5
    refine ⟨.val (wayD (t, k)), ?_⟩
    rw [← up_one Γ a0 c2 c3 c5' way t (plugT u f) (plugT t f) k xs h1 h4 h2, ← e, h3]
    simp
  intro t
  induction t with
  | num i => intro way c5 h; cases h
  | fn x b => intro way c5 h; cases h
  | name x => intro way c5 _; exact ⟨c5, by simp [wayT, plugT]⟩
  | lett x a b iha _ =>
    intro way c5 _
    cases h : a.isV with
    | true => exact ⟨c5, by simp [wayT, plugT, h]⟩
    | false => exact nxt (.lett x a b) a 2 way c5 _ rfl (by simp) (by rw [wayT, h]; rfl) (by rw [plugT, h]; rfl) (fun w c => iha w c h)
  | ite a b c iha _ _ =>
    intro way c5 _
    cases h : a.isV with
    | true => exact ⟨c5, by simp [wayT, plugT, h]⟩
    | false => exact nxt (.ite a b c) a 1 way c5 _ rfl (by simp) (by rw [wayT, h]; rfl) (by rw [plugT, h]; rfl) (fun w c => iha w c h)
  | call a b iha ihb =>
    intro way c5 _
    cases h : a.isV with
    | true =>
      cases hb : b.isV with
      | true => exact ⟨c5, by simp [wayT, plugT, h, hb]⟩
      | false => exact nxt (.call a b) b 2 way c5 _ rfl (by simp) (by rw [wayT, h, hb]; rfl) (by rw [plugT, h, hb]; rfl) (fun w c => ihb w c hb)
    | false => exact nxt (.call a b) a 1 way c5 _ rfl (by simp) (by rw [wayT, h]; rfl) (by rw [plugT, h]; rfl) (fun w c => iha w c h)
  | plus a b iha ihb =>
    intro way c5 _
    cases h : a.isV with
    | true =>
      cases hb : b.isV with
      | true => exact ⟨c5, by simp [wayT, plugT, h, hb]⟩
      | false => exact nxt (.plus a b) b 2 way c5 _ rfl (by simp) (by rw [wayT, h, hb]; rfl) (by rw [plugT, h, hb]; rfl) (fun w c => ihb w c hb)
    | false => exact nxt (.plus a b) a 1 way c5 _ rfl (by simp) (by rw [wayT, h]; rfl) (by rw [plugT, h]; rfl) (fun w c => iha w c h)
  | less a b iha ihb =>
    intro way c5 _
    cases h : a.isV with
    | true =>
      cases hb : b.isV with
      | true => exact ⟨c5, by simp [wayT, plugT, h, hb]⟩
      | false => exact nxt (.less a b) b 2 way c5 _ rfl (by simp) (by rw [wayT, h, hb]; rfl) (by rw [plugT, h, hb]; rfl) (fun w c => ihb w c hb)
    | false => exact nxt (.less a b) a 1 way c5 _ rfl (by simp) (by rw [wayT, h]; rfl) (by rw [plugT, h]; rfl) (fun w c => iha w c h)
theorem step_g (Z : StepQ Q) (t : T) (hv : t.isV = false) (hh : t.hgt ≤ 100000) : match stepT t with
    | .inl k => dc (envN Q (n + 4)) 14 [t.d] = some (.ex k)
    | .inr u => dc (envN Q (n + 4)) 14 [t.d] = some (.ok (.val u.d)) := by
  have iv := isv_g (n := n + 2) Z.p8 t
  rw [hv] at iv
  have w := wn_g (n := n + 1) Z.p11 Z.p8 t hv
  obtain ⟨r1, r2, r3⟩ := red_wn t hv
  have dn := down_run (n := n + 1) Z (.val t.d) .un .un t [] hv (by simp; omega)
  have dg := deed_g (n := n) Z (redT t) r1 r2 (by omega)
  rw [List.nil_append] at dn
  unfold stepT
  cases hd : deedT (redT t) with
  | inl k =>
    rw [hd] at dg
    have : ∃ s, execs (envN Q (n + 3)) 6 [] 0 P.b_step [.val t.d, .un, .un, .un, .un, .un] = some (.ex k s) := ⟨_, by
      simp [downL] at dn
      simp [P.b_step, iv, w, exec_whl, dn, dg]
      rfl⟩
    obtain ⟨s, e⟩ := this
    exact dc_ex Z.p14 rfl rfl e
  | inr f =>
    rw [hd] at dg
    obtain ⟨c5, up⟩ := up_run (envN Q (n + 3)) (.val t.d) (.val (redT t).d) (.val (.int 0)) f t [] .un hv
    rw [List.nil_append] at up
    have ed : upL (envN Q (n + 3)) [.val t.d, .lst [], .val (redT t).d, .val (.int 0), .val (plugT t f).d, c5] = some (.nx [.val t.d, .lst [], .val (redT t).d, .val (.int 0), .val (plugT t f).d, c5]) := loop_end (by simp)
    rw [ed] at up
    obtain ⟨s, e⟩ := rtv_of (o := execs (envN Q (n + 3)) 6 [] 0 P.b_step [.val t.d, .un, .un, .un, .un, .un]) (a := .cl (.val (plugT t f).d)) (by
      simp [downL] at dn
      simp [upL] at up
      simp [P.b_step, iv, w, exec_whl, dn, dg, up])
    exact dc_ok Z.p14 rfl rfl rfl e
theorem step_v (Z : StepQ Q) (t : T) (hv : t.isV = true) : dc (envN Q (n + 4)) 14 [t.d] = some (.ok (.val .non)) := by
  have iv := isv_g (n := n + 2) Z.p8 t
  rw [hv] at iv
  obtain ⟨s, e⟩ := rtv_of (o := execs (envN Q (n + 3)) 6 [] 0 P.b_step [.val t.d, .un, .un, .un, .un, .un]) (a := .cl (.val .non)) (by
    simp [P.b_step, iv])
  exact dc_ok Z.p14 rfl rfl rfl e
end
end Mi
namespace Mi
open PySem
/-! ### told: the tree of a value -/
def putAll : T → List Str → List T → T
  | t, n :: ns, v :: vs => putAll (T.put n v t) ns vs
  | t, _, _ => t
def PutOk : T → List Str → List T → Prop
  | t, n :: ns, v :: vs => t.hgt ≤ 100000 ∧ PutOk (T.put n v t) ns vs
  | _, _, _ => True
def toldT : Va → T
  | .num i => .num i
  | .fn x b ns hs => putAll (.fn x b) ns (hs.attach.map fun ⟨v, _⟩ => toldT v)
theorem toldT_fn (x : Str) (b : T) (ns : List Str) (hs : List Va) : toldT (.fn x b ns hs) = putAll (.fn x b) ns (hs.map toldT) := by
  rw [toldT]
  congr 1
  conv => rhs; rw [← List.attach_map_subtype_val hs, List.map_map]
  rfl
/-- it can be told, so deep at most -/
inductive ToldOk : Nat → Va → Prop
  | num (k : Nat) (i : Int) : ToldOk (k + 1) (.num i)
  | fn {k : Nat} {x : Str} {b : T} {ns : List Str} {hs : List Va} : hs.length = ns.length → hs.length ≤ 1000 → PutOk (.fn x b) ns (hs.map toldT) → (∀ v ∈ hs, ToldOk k v) → ToldOk (k + 1) (.fn x b ns hs)
section
variable (Γ : Env)
def PutG (Γ : Env) : Prop := ∀ (t v : T) (x : Str), t.hgt ≤ 100000 → dc Γ 10 [t.d, .str x, v.d] = some (.ok (.val (T.put x v t).d))
abbrev tit (k : Bool) (v : Va) : D := .tup [.bl k, v.d]
theorem told_pop (hp : PutG Γ) (a0 a1 c3 c4 c5 : Cl) (done : List D) : ∀ (ns : List Str) (vs : List T) (t : T) (c7 : Cl), vs.length = ns.length → PutOk t ns vs →
    ∃ c7', forL (fun d s => s.set 7 (.val d)) (execs Γ 8 [] 0 P.b_told_2) (ns.map .str) [a0, a1, .lst (done ++ vs.reverse.map T.d), c3, c4, c5, .val t.d, c7] = some (.nx [a0, a1, .lst done, c3, c4, c5, .val (putAll t ns vs).d, c7'])
  | [], [], t, c7, _, _ => ⟨c7, by simp [forL_nil, putAll]⟩
  | [], _ :: _, _, _, l, _ => by cases l
  | n :: ns, [], _, _, l, _ => by cases l
  | n :: ns, v :: vs, t, c7, l, ok => by
    obtain ⟨o1, o2⟩ := ok
    obtain ⟨c7', e⟩ := told_pop hp a0 a1 c3 c4 c5 done ns vs (T.put n v t) (.val (.str n)) (by simpa using l) o2
    refine ⟨c7', ?_⟩
    rw [List.map_cons, forL_cons]
    have ed : done ++ (v :: vs).reverse.map T.d = (done ++ vs.reverse.map T.d) ++ [v.d] := by simp
    have h := hp t v n o1
    have e1 : execs Γ 8 [] 0 P.b_told_2 ((fun (d : D) (s : S) => s.set 7 (.val d)) (.str n) [a0, a1, .lst (done ++ (v :: vs).reverse.map T.d), c3, c4, c5, .val t.d, c7]) = some (.nx [a0, a1, .lst (done ++ vs.reverse.map T.d), c3, c4, c5, .val (T.put n v t).d, .val (.str n)]) := by
      rw [ed]
      simp [P.b_told_2, h]
    rw [e1]
    exact e
theorem told_push (a0 a2 c3 c4 c6 c7 : Cl) : ∀ (hs : List Va) (todo : List D) (c5 : Cl), todo.length + hs.length ≤ 1000000 →
    ∃ c5', forL (fun d s => s.set 5 (.val d)) (execs Γ 8 [] 0 P.b_told_1) (hs.map Va.d) [a0, .lst todo, a2, c3, c4, c5, c6, c7] = some (.nx [a0, .lst (todo ++ hs.map (tit true)), a2, c3, c4, c5', c6, c7])
  | [], todo, c5, _ => ⟨c5, by simp [forL_nil]⟩
  | h :: hs, todo, c5, z => by
    rw [List.length_cons] at z
    obtain ⟨c5', e⟩ := told_push a0 a2 c3 c4 c6 c7 hs (todo ++ [tit true h]) (.val h.d) (by rw [List.length_append, List.length_singleton]; omega)
    refine ⟨c5', ?_⟩
    rw [List.map_cons, forL_cons]
    have zt : todo.length < sizeLine := Nat.lt_of_le_of_lt (by omega) million
    have e1 : execs Γ 8 [] 0 P.b_told_1 ((fun (d : D) (s : S) => s.set 5 (.val d)) h.d [a0, .lst todo, a2, c3, c4, c5, c6, c7]) = some (.nx [a0, .lst (todo ++ [tit true h]), a2, c3, c4, .val h.d, c6, c7]) := by
      simp [P.b_told_1, zt]
    rw [e1]
    refine e.trans ?_
    simp
noncomputable abbrev toldL := loop (evT Γ (.v 1)) (execs Γ 8 [] 0 P.b_told_0)
/-- a thing on the pile gives a tree -/
def Gt (a0 : Cl) (i : D) (r : T) (n : Nat) : Prop := ∀ (todo done : List D) (c3 c4 c5 c6 c7 : Cl), todo.length + n ≤ 900000 → done.length + n ≤ 900000 →
  ∃ c3' c4' c5' c6' c7', toldL Γ [a0, .lst (todo ++ [i]), .lst done, c3, c4, c5, c6, c7] = toldL Γ [a0, .lst todo, .lst (done ++ [r.d]), c3', c4', c5', c6', c7']
theorem gt_list (a0 : Cl) (B : Nat) : ∀ (vs : List Va), (∀ v ∈ vs, Gt Γ a0 (tit true v) (toldT v) B) → ∀ (todo done : List D) (c3 c4 c5 c6 c7 : Cl), todo.length + vs.length + B ≤ 900000 → done.length + vs.length + B ≤ 900000 →
    ∃ c3' c4' c5' c6' c7', toldL Γ [a0, .lst (todo ++ vs.reverse.map (tit true)), .lst done, c3, c4, c5, c6, c7] = toldL Γ [a0, .lst todo, .lst (done ++ vs.map fun v => (toldT v).d), c3', c4', c5', c6', c7']
  | [], _, todo, done, c3, c4, c5, c6, c7, _, _ => ⟨c3, c4, c5, c6, c7, by simp⟩
  | v :: vs, h, todo, done, c3, c4, c5, c6, c7, h1, h2 => by
    rw [List.length_cons] at h1 h2
    obtain ⟨d3, d4, d5, d6, d7, e1⟩ := h v List.mem_cons_self (todo ++ vs.reverse.map (tit true)) done c3 c4 c5 c6 c7 (by rw [List.length_append, List.length_map, List.length_reverse]; omega) (by omega)
    obtain ⟨f3, f4, f5, f6, f7, e2⟩ := gt_list a0 B vs (fun q hq => h q (List.mem_cons_of_mem _ hq)) todo (done ++ [(toldT v).d]) d3 d4 d5 d6 d7 (by omega) (by rw [List.length_append, List.length_singleton]; omega)
    refine ⟨f3, f4, f5, f6, f7, ?_⟩
    rw [List.reverse_cons, List.map_append, ← List.append_assoc]
    rw [show ([v].map (tit true)) = [tit true v] from rfl, e1, e2, List.map_cons]
    simp
theorem gt_val (hp : PutG Γ) (a0 : Cl) : ∀ {k : Nat} {v : Va}, ToldOk k v → Gt Γ a0 (tit true v) (toldT v) (1001 * k) := by
  intro k v ok
  induction ok with
  | num k i =>
    intro todo done c3 c4 c5 c6 c7 h1 h2
    have hd : done.length < sizeLine := Nat.lt_of_le_of_lt (show done.length ≤ 1000000 by omega) million
    refine ⟨.val (tit true (.num i)), .val (.int i), c5, c6, c7, loop_turn (s1 := [a0, .lst (todo ++ [tit true (.num i)]), .lst done, c3, c4, c5, c6, c7]) (by simp) ?_⟩
    simp [P.b_told_0, hd, toldT, T.d]
  | @fn k x b ns hs hl hw hk hall ih =>
    intro todo done c3 c4 c5 c6 c7 h1 h2
    have hd : done.length < sizeLine := Nat.lt_of_le_of_lt (show done.length ≤ 1000000 by omega) million
    have ht : todo.length < sizeLine := Nat.lt_of_le_of_lt (show todo.length ≤ 1000000 by omega) million
    obtain ⟨p5, ep⟩ := told_push Γ a0 (.lst done) (.val (tit true (.fn x b ns hs))) (.val (Va.fn x b ns hs).d) c6 c7 hs (todo ++ [tit false (.fn x b ns hs)]) c5 (by rw [List.length_append, List.length_singleton]; omega)
    have e1 : toldL Γ [a0, .lst (todo ++ [tit true (.fn x b ns hs)]), .lst done, c3, c4, c5, c6, c7] = toldL Γ [a0, .lst ((todo ++ [tit false (.fn x b ns hs)]) ++ hs.map (tit true)), .lst done, .val (tit true (.fn x b ns hs)), .val (Va.fn x b ns hs).d, p5, c6, c7] := by
      refine loop_turn (s1 := [a0, .lst (todo ++ [tit true (.fn x b ns hs)]), .lst done, c3, c4, c5, c6, c7]) (by simp) ?_
      simp only [tit, Va.d_fn] at ep ⊢
      simp [P.b_told_0, ht, exec_for, ep]
    obtain ⟨d3, d4, d5, d6, d7, e2⟩ := gt_list Γ a0 (1001 * k) hs.reverse (fun v hv => ih v (List.mem_reverse.mp hv)) (todo ++ [tit false (.fn x b ns hs)]) done (.val (tit true (.fn x b ns hs))) (.val (Va.fn x b ns hs).d) p5 c6 c7
      (by rw [List.length_append, List.length_singleton, List.length_reverse]; omega) (by rw [List.length_reverse]; omega)
    rw [List.reverse_reverse] at e2
    obtain ⟨q7, eq⟩ := told_pop Γ hp a0 (.lst todo) (.val (tit false (.fn x b ns hs))) (.val (Va.fn x b ns hs).d) d5 done ns (hs.map toldT) (.fn x b) d7 (by rw [List.length_map]; exact hl) hk
    refine ⟨.val (tit false (.fn x b ns hs)), .val (Va.fn x b ns hs).d, d5, .val (toldT (.fn x b ns hs)).d, q7, ?_⟩
    rw [e1, e2]
    refine loop_turn (s1 := [a0, .lst (todo ++ [tit false (.fn x b ns hs)]), .lst (done ++ hs.reverse.map fun v => (toldT v).d), d3, d4, d5, d6, d7]) (by simp) ?_
    have em : (hs.reverse.map fun v => (toldT v).d) = (hs.map toldT).reverse.map T.d := by simp [Function.comp_def]
    rw [em, toldT_fn]
    simp only [tit, Va.d_fn, T.d] at eq ⊢
    generalize (hs.map toldT).reverse.map T.d = z at eq ⊢
    simp [P.b_told_0, hd, exec_for, eq]
theorem told_run (hp : PutG Γ) {k : Nat} {v : Va} (ok : ToldOk k v) (hw : k ≤ 800) : ∃ s, execs Γ 8 [] 0 P.b_told [.val v.d, .un, .un, .un, .un, .un, .un, .un] = some (.rt (.cl (.val (toldT v).d)) s) := by
  obtain ⟨c3, c4, c5, c6, c7, e⟩ := gt_val Γ hp (.val v.d) ok [] [] .un .un .un .un .un (by simp; omega) (by simp; omega)
  have e2 : toldL Γ [.val v.d, .lst [], .lst [(toldT v).d], c3, c4, c5, c6, c7] = some (.nx [.val v.d, .lst [], .lst [(toldT v).d], c3, c4, c5, c6, c7]) := loop_end (by simp)
  simp only [List.nil_append] at e
  rw [e2] at e
  refine rtv_of ?_
  simp [P.b_told, exec_whl, e]
end
theorem told_g {Q : Nat → Option FD} {n : Nat} (h3 : Q 3 = some P.f_parts) (h9 : Q 9 = some P.f_remade) (h10 : Q 10 = some P.f_put) (h28 : Q 28 = some P.f_told) {k : Nat} {v : Va} (ok : ToldOk k v) (hw : k ≤ 800) : dc (envN Q (n + 3)) 28 [v.d] = some (.ok (.val (toldT v).d)) := by
  obtain ⟨s, e⟩ := told_run (envN Q (n + 2)) (fun t v x ht => put_gh h3 h9 h10 t v x ht) ok hw
  exact dc_ok h28 rfl rfl rfl e
end Mi
namespace Mi
open PySem
/-! ### values put in, all at once -/
abbrev En := Str → Option T
def En.off (f : En) (x : Str) : En := fun y => if y = x then none else f y
def En.or (f g : En) : En := fun y => match f y with
  | some v => some v
  | none => g y
def En.one (x : Str) (v : T) : En := fun y => if y = x then some v else none
def T.sub : T → En → T
  | .num i, _ => .num i
  | .name x, f => (f x).getD (.name x)
  | .fn x b, f => .fn x (b.sub (f.off x))
  | .call a b, f => .call (a.sub f) (b.sub f)
  | .plus a b, f => .plus (a.sub f) (b.sub f)
  | .less a b, f => .less (a.sub f) (b.sub f)
  | .ite a b c, f => .ite (a.sub f) (b.sub f) (c.sub f)
  | .lett x a b, f => .lett x (a.sub f) (b.sub (f.off x))
def T.closed (t : T) : Prop := ∀ y, ¬ FreeIn y t
section
variable {y x : Str} {a b c : T}
theorem free_num {i : Int} : ¬ FreeIn y (.num i) := fun h => by
  have h : some y ∈ [(none : Option Str)] := h
  simp at h
theorem free_name : FreeIn y (.name x) ↔ y = x := by
  show some y ∈ [if x ∈ ([] : List Str) then none else some x] ↔ _
  simp
theorem free_call : FreeIn y (.call a b) ↔ (FreeIn y a ∨ FreeIn y b) := by
  show some y ∈ none :: (T.fl [] a ++ T.fl [] b) ↔ _
  rw [List.mem_cons, List.mem_append]; simp
theorem free_plus : FreeIn y (.plus a b) ↔ (FreeIn y a ∨ FreeIn y b) := by
  show some y ∈ none :: (T.fl [] a ++ T.fl [] b) ↔ _
  rw [List.mem_cons, List.mem_append]; simp
theorem free_less : FreeIn y (.less a b) ↔ (FreeIn y a ∨ FreeIn y b) := by
  show some y ∈ none :: (T.fl [] a ++ T.fl [] b) ↔ _
  rw [List.mem_cons, List.mem_append]; simp
theorem free_ite : FreeIn y (.ite a b c) ↔ (FreeIn y a ∨ FreeIn y b ∨ FreeIn y c) := by
  have e : T.fl [] (.ite a b c) = none :: (T.fl [] a ++ T.fl [] b ++ T.fl [] c) ∨ T.fl [] (.ite a b c) = none :: (T.fl [] a ++ (T.fl [] b ++ T.fl [] c)) := by
    first | exact .inl rfl | exact .inr rfl
  show some y ∈ T.fl [] (.ite a b c) ↔ _
  rcases e with e | e <;> rw [e] <;> simp [or_assoc]
end
theorem sub_congr : ∀ (t : T) (f g : En), (∀ y, FreeIn y t → f y = g y) → t.sub f = t.sub g
  | .num _, _, _, _ => rfl
  | .name x, f, g, h => by rw [T.sub, T.sub, h x (free_name.mpr rfl)]
  | .fn x b, f, g, h => by
    rw [T.sub, T.sub, sub_congr b (f.off x) (g.off x) fun y hy => ?_]
    unfold En.off
    by_cases e : y = x
    · rw [if_pos e, if_pos e]
    · rw [if_neg e, if_neg e]; exact h y (free_fn.mpr ⟨hy, e⟩)
  | .call a b, f, g, h => by rw [T.sub, T.sub, sub_congr a f g fun y hy => h y (free_call.mpr (.inl hy)), sub_congr b f g fun y hy => h y (free_call.mpr (.inr hy))]
  | .plus a b, f, g, h => by rw [T.sub, T.sub, sub_congr a f g fun y hy => h y (free_plus.mpr (.inl hy)), sub_congr b f g fun y hy => h y (free_plus.mpr (.inr hy))]
  | .less a b, f, g, h => by rw [T.sub, T.sub, sub_congr a f g fun y hy => h y (free_less.mpr (.inl hy)), sub_congr b f g fun y hy => h y (free_less.mpr (.inr hy))]
  | .ite a b c, f, g, h => by rw [T.sub, T.sub, sub_congr a f g fun y hy => h y (free_ite.mpr (.inl hy)), sub_congr b f g fun y hy => h y (free_ite.mpr (.inr (.inl hy))), sub_congr c f g fun y hy => h y (free_ite.mpr (.inr (.inr hy)))]
  | .lett x a b, f, g, h => by
    rw [T.sub, T.sub, sub_congr a f g fun y hy => h y (free_let.mpr (.inl hy)), sub_congr b (f.off x) (g.off x) fun y hy => ?_]
    unfold En.off
    by_cases e : y = x
    · rw [if_pos e, if_pos e]
    · rw [if_neg e, if_neg e]; exact h y (free_let.mpr (.inr ⟨hy, e⟩))
theorem off_none (x : Str) : En.off (fun _ => none) x = fun _ => none := by
  funext y
  unfold En.off
  split <;> rfl
theorem sub_none : ∀ t : T, t.sub (fun _ => none) = t
  | .num _ => rfl
  | .name x => rfl
  | .fn x b => by rw [T.sub, off_none, sub_none b]
  | .call a b => by rw [T.sub, sub_none a, sub_none b]
  | .plus a b => by rw [T.sub, sub_none a, sub_none b]
  | .less a b => by rw [T.sub, sub_none a, sub_none b]
  | .ite a b c => by rw [T.sub, sub_none a, sub_none b, sub_none c]
  | .lett x a b => by rw [T.sub, off_none, sub_none a, sub_none b]
theorem sub_closed {t : T} (h : t.closed) (f : En) : t.sub f = t := by
  rw [sub_congr t f (fun _ => none) fun y hy => absurd hy (h y), sub_none]
theorem off_one_eq (x : Str) (v : T) : En.off (En.one x v) x = fun _ => none := by
  funext y
  unfold En.off En.one
  split <;> rfl
theorem off_one_ne {x z : Str} (h : z ≠ x) (v : T) : En.off (En.one x v) z = En.one x v := by
  funext y
  unfold En.off En.one
  by_cases e : y = z
  · rw [if_pos e, if_neg (fun w => h (e.symm.trans w))]
  · rw [if_neg e]
theorem put_sub (x : Str) (v : T) : ∀ t : T, T.put x v t = t.sub (En.one x v)
  | .num _ => rfl
  | .name y => by
    rw [T.put, T.sub]
    unfold En.one
    by_cases e : y = x
    · rw [if_pos e, if_pos e]; rfl
    · rw [if_neg e, if_neg e]; rfl
  | .fn y b => by
    rw [T.put, T.sub]
    by_cases e : y = x
    · rw [if_pos e, e, off_one_eq, sub_none]
    · rw [if_neg e, off_one_ne e, put_sub x v b]
  | .call a b => by rw [T.put, T.sub, put_sub x v a, put_sub x v b]
  | .plus a b => by rw [T.put, T.sub, put_sub x v a, put_sub x v b]
  | .less a b => by rw [T.put, T.sub, put_sub x v a, put_sub x v b]
  | .ite a b c => by rw [T.put, T.sub, put_sub x v a, put_sub x v b, put_sub x v c]
  | .lett y a b => by
    rw [T.put, T.sub, put_sub x v a]
    by_cases e : y = x
    · rw [if_pos e, e, off_one_eq, sub_none]
    · rw [if_neg e, off_one_ne e, put_sub x v b]
def En.cl (f : En) : Prop := ∀ y v, f y = some v → v.closed
theorem off_cl {f : En} (h : f.cl) (x : Str) : (f.off x).cl := fun y v e => by
  unfold En.off at e
  split at e
  · cases e
  · exact h y v e
theorem or_cl {f g : En} (h : f.cl) (hg : g.cl) : (f.or g).cl := fun y v e => by
  unfold En.or at e
  cases q : f y with
  | some w => rw [q] at e; cases e; exact h y _ q
  | none => rw [q] at e; exact hg y v e
theorem one_cl {x : Str} {v : T} (h : v.closed) : (En.one x v).cl := fun y w e => by
  unfold En.one at e
  split at e
  · cases e; exact h
  · cases e
theorem off_or (f g : En) (x : Str) : (f.or g).off x = (f.off x).or (g.off x) := by
  funext y
  unfold En.off En.or
  by_cases e : y = x
  · simp [e]
  · simp [e]
theorem sub_sub : ∀ (t : T) (f g : En), f.cl → (t.sub f).sub g = t.sub (f.or g)
  | .num _, _, _, _ => rfl
  | .name x, f, g, h => by
    rw [T.sub, T.sub]
    unfold En.or
    cases e : f x with
    | none => rfl
    | some v => exact sub_closed (h x v e) g
  | .fn x b, f, g, h => by rw [T.sub, T.sub, T.sub, sub_sub b _ _ (off_cl h x), off_or]
  | .call a b, f, g, h => by rw [T.sub, T.sub, T.sub, sub_sub a f g h, sub_sub b f g h]
  | .plus a b, f, g, h => by rw [T.sub, T.sub, T.sub, sub_sub a f g h, sub_sub b f g h]
  | .less a b, f, g, h => by rw [T.sub, T.sub, T.sub, sub_sub a f g h, sub_sub b f g h]
  | .ite a b c, f, g, h => by rw [T.sub, T.sub, T.sub, sub_sub a f g h, sub_sub b f g h, sub_sub c f g h]
  | .lett x a b, f, g, h => by rw [T.sub, T.sub, T.sub, sub_sub a f g h, sub_sub b _ _ (off_cl h x), off_or]
theorem free_sub {y : Str} : ∀ (t : T) (f : En), f.cl → FreeIn y (t.sub f) → FreeIn y t ∧ f y = none
  | .num _, _, _, h => absurd h free_num
  | .name x, f, hf, h => by
    rw [T.sub] at h
    cases e : f x with
    | none =>
      rw [e] at h
      have := free_name.mp h
      subst this
      exact ⟨free_name.mpr rfl, e⟩
    | some v => rw [e] at h; exact absurd h (hf x v e y)
  | .fn x b, f, hf, h => by
    rw [T.sub] at h
    obtain ⟨h1, h2⟩ := free_fn.mp h
    obtain ⟨h3, h4⟩ := free_sub b _ (off_cl hf x) h1
    unfold En.off at h4
    rw [if_neg h2] at h4
    exact ⟨free_fn.mpr ⟨h3, h2⟩, h4⟩
  | .call a b, f, hf, h => by
    rw [T.sub] at h
    rcases free_call.mp h with h | h
    · obtain ⟨h1, h2⟩ := free_sub a f hf h; exact ⟨free_call.mpr (.inl h1), h2⟩
    · obtain ⟨h1, h2⟩ := free_sub b f hf h; exact ⟨free_call.mpr (.inr h1), h2⟩
  | .plus a b, f, hf, h => by
    rw [T.sub] at h
    rcases free_plus.mp h with h | h
    · obtain ⟨h1, h2⟩ := free_sub a f hf h; exact ⟨free_plus.mpr (.inl h1), h2⟩
    · obtain ⟨h1, h2⟩ := free_sub b f hf h; exact ⟨free_plus.mpr (.inr h1), h2⟩
  | .less a b, f, hf, h => by
    rw [T.sub] at h
    rcases free_less.mp h with h | h
    · obtain ⟨h1, h2⟩ := free_sub a f hf h; exact ⟨free_less.mpr (.inl h1), h2⟩
    · obtain ⟨h1, h2⟩ := free_sub b f hf h; exact ⟨free_less.mpr (.inr h1), h2⟩
  | .ite a b c, f, hf, h => by
    rw [T.sub] at h
    rcases free_ite.mp h with h | h | h
    · obtain ⟨h1, h2⟩ := free_sub a f hf h; exact ⟨free_ite.mpr (.inl h1), h2⟩
    · obtain ⟨h1, h2⟩ := free_sub b f hf h; exact ⟨free_ite.mpr (.inr (.inl h1)), h2⟩
    · obtain ⟨h1, h2⟩ := free_sub c f hf h; exact ⟨free_ite.mpr (.inr (.inr h1)), h2⟩
  | .lett x a b, f, hf, h => by
    rw [T.sub] at h
    rcases free_let.mp h with h | ⟨h, hx⟩
    · obtain ⟨h1, h2⟩ := free_sub a f hf h; exact ⟨free_let.mpr (.inl h1), h2⟩
    · obtain ⟨h3, h4⟩ := free_sub b _ (off_cl hf x) h
      unfold En.off at h4
      rw [if_neg hx] at h4
      exact ⟨free_let.mpr (.inr ⟨h3, hx⟩), h4⟩
def En.hb (f : En) (H : Nat) : Prop := ∀ y v, f y = some v → v.hgt ≤ H
theorem off_hb {f : En} {H : Nat} (h : f.hb H) (x : Str) : (f.off x).hb H := fun y v e => by
  unfold En.off at e
  split at e
  · cases e
  · exact h y v e
theorem hgt_sub {H : Nat} : ∀ (t : T) (f : En), f.hb H → (t.sub f).hgt ≤ t.hgt + H
  | .num _, _, _ => by simp [T.sub, T.hgt]
  | .name x, f, hf => by
    rw [T.sub]
    cases e : f x with
    | none => simp [T.hgt]
    | some v => have := hf x v e; simp [T.hgt]; omega
  | .fn x b, f, hf => by have := hgt_sub b _ (off_hb hf x); simp only [T.sub, T.hgt]; omega
  | .call a b, f, hf => by have := hgt_sub a f hf; have := hgt_sub b f hf; simp only [T.sub, T.hgt]; omega
  | .plus a b, f, hf => by have := hgt_sub a f hf; have := hgt_sub b f hf; simp only [T.sub, T.hgt]; omega
  | .less a b, f, hf => by have := hgt_sub a f hf; have := hgt_sub b f hf; simp only [T.sub, T.hgt]; omega
  | .ite a b c, f, hf => by have := hgt_sub a f hf; have := hgt_sub b f hf; have := hgt_sub c f hf; simp only [T.sub, T.hgt]; omega
  | .lett x a b, f, hf => by have := hgt_sub a f hf; have := hgt_sub b _ (off_hb hf x); simp only [T.sub, T.hgt]; omega
/-! ### what the names stand for, as trees -/
def envF (ns : List Str) (hs : List Va) : En := fun y => (lkp y ns hs).map toldT
theorem lkp_none {x : Str} : ∀ (ns : List Str) (hs : List Va), x ∉ ns → lkp x ns hs = none
  | [], hs, _ => by cases hs <;> rfl
  | n :: ns, [], _ => rfl
  | n :: ns, h :: hs, hx => by
    show (match lkp x ns hs with | some v => some v | none => if n = x then some h else none) = none
    rw [lkp_none ns hs fun z => hx (List.mem_cons_of_mem _ z)]
    exact if_neg fun z => hx (by rw [z]; exact List.mem_cons_self)
theorem lkp_mem {x : Str} {v : Va} : ∀ {ns : List Str} {hs : List Va}, lkp x ns hs = some v → v ∈ hs
  | [], hs, h => by cases hs <;> cases h
  | n :: ns, [], h => by cases h
  | n :: ns, k :: hs, h => by
    have h : (match lkp x ns hs with | some v => some v | none => if n = x then some k else none) = some v := h
    cases e : lkp x ns hs with
    | some w => rw [e] at h; cases h; exact List.mem_cons_of_mem _ (lkp_mem e)
    | none =>
      rw [e] at h
      dsimp only at h
      split at h
      · cases h; exact List.mem_cons_self
      · cases h
theorem env_cl {ns : List Str} {hs : List Va} (h : ∀ v ∈ hs, (toldT v).closed) : (envF ns hs).cl := fun y v e => by
  unfold envF at e
  cases q : lkp y ns hs with
  | none => rw [q] at e; cases e
  | some w => rw [q] at e; cases e; exact h w (lkp_mem q)
theorem env_hb {ns : List Str} {hs : List Va} {H : Nat} (h : ∀ v ∈ hs, (toldT v).hgt ≤ H) : (envF ns hs).hb H := fun y v e => by
  unfold envF at e
  cases q : lkp y ns hs with
  | none => rw [q] at e; cases e
  | some w => rw [q] at e; cases e; exact h w (lkp_mem q)
/-- one after the other is all at once -/
theorem putAll_sub : ∀ (ns : List Str) (hs : List Va) (t : T), ns.Nodup → (∀ v ∈ hs, (toldT v).closed) → putAll t ns (hs.map toldT) = t.sub (envF ns hs)
  | [], hs, t, _, _ => by
    have : envF [] hs = fun _ => none := by funext y; unfold envF; cases hs <;> rfl
    rw [this, sub_none]
    cases hs <;> rfl
  | n :: ns, [], t, _, _ => by
    have : envF (n :: ns) [] = fun _ => none := by funext y; rfl
    rw [this, sub_none]; rfl
  | n :: ns, h :: hs, t, nd, hc => by
    rw [List.map_cons, putAll, putAll_sub ns hs _ (List.nodup_cons.mp nd).2 fun v hv => hc v (List.mem_cons_of_mem _ hv), put_sub, sub_sub _ _ _ (one_cl (hc h List.mem_cons_self))]
    congr 1
    funext y
    unfold En.or En.one
    show _ = (match lkp y ns hs with | some v => some v | none => if n = y then some h else none).map toldT
    by_cases e : y = n
    · subst e
      rw [if_pos rfl, lkp_none ns hs (List.nodup_cons.mp nd).1]
      simp
    · rw [if_neg e]
      dsimp only
      unfold envF
      cases lkp y ns hs with
      | some v => rfl
      | none => dsimp only; rw [if_neg fun z => e z.symm]
theorem told_sub {x : Str} {b : T} {ns : List Str} {hs : List Va} (nd : ns.Nodup) (hc : ∀ v ∈ hs, (toldT v).closed) : toldT (.fn x b ns hs) = (T.fn x b).sub (envF ns hs) := by
  rw [toldT_fn, putAll_sub ns hs _ nd hc]
/-- the puts keep to the bound -/
theorem putOk_sub {H : Nat} : ∀ (ns : List Str) (hs : List Va) (t0 : T) (f : En), f.cl → f.hb H → (∀ v ∈ hs, (toldT v).closed ∧ (toldT v).hgt ≤ H) → t0.hgt + H ≤ 100000 → PutOk (t0.sub f) ns (hs.map toldT)
  | [], hs, t0, f, _, _, _, _ => by cases hs <;> trivial
  | n :: ns, [], t0, f, _, _, _, _ => trivial
  | n :: ns, h :: hs, t0, f, h1, h2, h3, h4 => by
    rw [List.map_cons]
    refine ⟨Nat.le_trans (hgt_sub t0 f h2) h4, ?_⟩
    rw [put_sub, sub_sub _ _ _ h1]
    have h0 := h3 h List.mem_cons_self
    refine putOk_sub ns hs t0 _ (or_cl h1 (one_cl h0.1)) (fun y v e => ?_) (fun v hv => h3 v (List.mem_cons_of_mem _ hv)) h4
    unfold En.or at e
    cases q : f y with
    | some w => rw [q] at e; cases e; exact h2 y _ q
    | none =>
      rw [q] at e
      have e : En.one n (toldT h) y = some v := e
      unfold En.one at e
      split at e
      · cases e; exact h0.2
      · cases e
/-! ### values that the mill holds -/
inductive VOk (N : Nat) : Nat → Va → Prop
  | num (d : Nat) (i : Int) : VOk N d (.num i)
  | fn {d : Nat} {x : Str} {b : T} {hs : List Va} (hl : hs.length = (T.fn x b).freeL.length) (hb : b.hgt ≤ N) (hz : b.size ≤ 900) (h : ∀ v ∈ hs, VOk N d v) : VOk N (d + 1) (.fn x b (T.fn x b).freeL hs)
theorem VOk.mono {N d e : Nat} {v : Va} (h : VOk N d v) (hd : d ≤ e) : VOk N e v := by
  induction h generalizing e with
  | num d i => exact .num e i
  | @fn d x b hs hl hb hz h ih =>
    cases e with
    | zero => omega
    | succ e => exact .fn hl hb hz fun v hv => ih v hv (by omega)
theorem freeL_nodup (t : T) : t.freeL.Nodup := (addF_fold (T.fl [] t)).1
theorem VOk.closed {N d : Nat} {v : Va} (h : VOk N d v) : (toldT v).closed := by
  induction h with
  | num d i => intro y hy; rw [toldT] at hy; exact free_num hy
  | @fn d x b hs hl hb hz h ih =>
    intro y hy
    rw [told_sub (freeL_nodup _) ih] at hy
    obtain ⟨h1, h2⟩ := free_sub _ _ (env_cl ih) hy
    obtain ⟨v, e, _⟩ := lkp_some (hs := hs) hl.symm ((freeL_iff y _).mpr h1)
    unfold envF at h2
    rw [e] at h2
    cases h2
theorem VOk.hgt {N d : Nat} {v : Va} (h : VOk N d v) : (toldT v).hgt ≤ (N + 1) * d + 1 := by
  induction h with
  | num d i => rw [toldT]; simp [T.hgt]
  | @fn d x b hs hl hb hz h ih =>
    rw [told_sub (freeL_nodup _) fun v hv => (h v hv).closed]
    have q := hgt_sub (T.fn x b) (envF (T.fn x b).freeL hs) (env_hb ih)
    simp only [T.hgt] at q
    rw [Nat.mul_succ]
    simp only [T.sub, T.hgt] at q ⊢
    omega
theorem VOk.told {N d : Nat} {v : Va} (h : VOk N d v) : (N + 1) * d + 1 + N ≤ 90000 → ToldOk (d + 1) v := by
  induction h with
  | num d i => exact fun _ => .num _ i
  | @fn d x b hs hl hb hz h ih =>
    intro hN
    rw [Nat.mul_succ] at hN
    have fl := freeL_len (T.fn x b)
    simp only [T.size] at fl
    refine .fn hl (by omega) ?_ fun v hv => ih v hv (by omega)
    have q := putOk_sub (H := (N + 1) * d + 1) (T.fn x b).freeL hs (T.fn x b) (fun _ => none) (fun _ _ e => nomatch e) (fun _ _ e => nomatch e) (fun v hv => ⟨(h v hv).closed, (h v hv).hgt⟩) (by simp only [T.hgt]; omega)
    rwa [sub_none] at q
theorem VOk.isV {N d : Nat} {v : Va} (h : VOk N d v) : (toldT v).isV = true := by
  cases h with
  | num d i => rw [toldT]; rfl
  | @fn d x b hs hl hb hz h =>
    rw [told_sub (freeL_nodup _) fun v hv => (h v hv).closed]
    rfl
end Mi
namespace Mi.K12
open PySem Mi
theorem gk_eq {dl : Str → Option D} {y : Str} {d : D} (h : dl y = some d) : gk dl y = d := by unfold gk; rw [h]; rfl
theorem gk_so {dl : Str → Option D} {y : Str} {d : D} (h : dl y = some d) : dl y = some (gk dl y) := by rw [gk_eq h]; exact h
theorem dueD_fn (x : Str) (b : T) (F : List Str) (hs : List Va) : dueD (.fn x b F hs) = .tup [.str x, b.d, .lst (F.map .str), .lst (hs.map desc)] := rfl
def hvV : Va → Prop
  | .num _ => True
  | .fn _ b _ _ => b.txt ∧ b.size ≤ 900
def kvV : Va → Prop
  | .num _ => False
  | .fn _ b F hs => (b.txt ∧ b.size ≤ 900) ∧ (∀ y ∈ F, PyData.strOk y = true) ∧ ∀ h ∈ hs, hvV h
theorem kv_hv {v : Va} (h : kvV v) : hvV v := by
  cases v with
  | num i => exact trivial
  | fn x b F hs => exact h.1
theorem nm_lt {Nm : List Str} (hN : NmOk Nm) {k j : Nat} {y z : Str} (hz : z ∈ Nm.take k) (hj : Nm[j]? = some y) (hk : k ≤ j) (h10 : 10 ≤ j) : z ≠ y := fun e => by
  obtain ⟨i, hi, e2⟩ := List.getElem_of_mem hz
  rw [List.length_take] at hi
  rw [List.getElem_take] at e2
  have := hN.ne i j z y (by rw [List.getElem?_eq_getElem (by omega), e2]) hj (by omega) e
  omega
theorem bodyP_good {k : Int} (hk : 0 ≤ k ∧ k ≤ 9) : ∀ {row : List Str}, (∀ y ∈ row, nameOk y.cps.toList = true) → (bodyP k row).good
  | [], _ => numB.1 k (by have := numB.2; generalize (10 : Int) ^ 60 = B at this; omega)
  | x :: r, h => ⟨h x List.mem_cons_self, bodyP_good hk fun y hy => h y (List.mem_cons_of_mem _ hy)⟩
theorem bodyP_free {k : Int} {y : Str} : ∀ {row : List Str}, FreeIn y (bodyP k row) → y ∈ row
  | [], h => absurd h free_num
  | x :: r, h => (free_plus.mp h).elim (fun z => by rw [free_name.mp z]; exact List.mem_cons_self) fun z => List.mem_cons_of_mem _ (bodyP_free z)
theorem ws_hv {F ns : List Str} {hs : List Va} (hl : ns.length = hs.length) (h : ∀ v ∈ hs, hvV v) : ∀ v ∈ wsOf F ns hs, hvV v := fun v hv => by
  obtain ⟨y, _, rfl⟩ := List.mem_map.mp hv
  cases e : lkp y ns hs with
  | none => exact trivial
  | some v =>
    by_cases hy : y ∈ ns
    · obtain ⟨v', e', hv'⟩ := lkp_some hl hy
      rw [e] at e'; cases e'
      exact h v hv'
    · exfalso
      have key : ∀ (ns : List Str) (hs : List Va), y ∉ ns → lkp y ns hs = none := fun ns => by
        induction ns with
        | nil => intro hs _; cases hs <;> rfl
        | cons m ns ih =>
          intro hs hm
          cases hs with
          | nil => rfl
          | cons h hs =>
            show (match lkp y ns hs with | some v => some v | none => if m = y then some h else none) = none
            rw [ih hs fun z => hm (List.mem_cons_of_mem _ z)]
            exact if_neg fun z => hm (by rw [z]; exact List.mem_cons_self)
      rw [key _ _ hy] at e
      cases e
theorem kept_kv {x : Str} {b : T} {ns : List Str} {hs : List Va} (hl : ns.length = hs.length) (hb : b.good) (hz : b.size ≤ 900) (h : ∀ v ∈ hs, hvV v) : kvV (keptV x b ns hs) :=
  ⟨⟨good_txt b hb, hz⟩, fun y hy => strOk_name (good_free b [] hb (by
    have := (freeL_iff y (.fn x b)).mp hy
    exact (free_fn.mp this).1)), ws_hv hl h⟩
structure MkOk (Nm : List Str) (p o : Str) (ns : List Str) (hs : List Va) (q : Mk) : Prop where
  nm : ∃ i, 1 ≤ i ∧ i < ns.length ∧ Nm[i]? = some q.m
  held : ∃ (F0 : List Str) (held : List Va), lkp q.m ns hs = some (.fn o (.fn p (bodyP q.k q.row)) F0 held) ∧ F0.length = held.length ∧ (∀ h ∈ held, hvV h) ∧ ∀ y ∈ q.row, y ≠ o → ∃ v, lkp y F0 held = some v ∧ dlook y q.ks q.xs = some (desc v)
  rl : q.row.length ≤ 6
  rp : p ∉ q.row
  rn : ∀ y ∈ q.row, nameOk y.cps.toList = true
  kk : 0 ≤ q.k ∧ q.k ≤ 9
structure LI (Nm : List Str) (p o : Str) (ns : List Str) (hs : List Va) (ks : List Str) (xs : List D) (Ms : List Mk) : Prop where
  hl : ns.length = hs.length
  kl : ks.length = xs.length
  kb : ks.length ≤ ns.length
  lk : ∀ y ∈ ns, ∃ v, lkp y ns hs = some v ∧ dlook y ks xs = some (desc v)
  gv : ∀ v ∈ hs, hvV v
  mks : ∀ q ∈ Ms, MkOk Nm p o ns hs q
/-- one name more -/
theorem li_put {Nm : List Str} (hN : NmOk Nm) {k : Nat} (hk : 1 ≤ k ∧ k ≤ 9) {p o : Str} {hs : List Va} {ks : List Str} {xs : List D} {Ms : List Mk} (I : LI Nm p o (Nm.take k) hs ks xs Ms) {x : Str} (hx : Nm[k]? = some x) (v : Va) (hv : hvV v) :
    LI Nm p o (Nm.take k ++ [x]) (hs ++ [v]) (dkeys x ks) (dput x (desc v) ks xs) Ms := by
  have hl := I.hl
  refine ⟨by rw [List.length_append, List.length_append, I.hl]; rfl, dp_len _ _ _ _ I.kl, Nat.le_trans (dk_len x ks) (by rw [List.length_append, List.length_singleton]; exact Nat.succ_le_succ I.kb), fun y hy => ?_, fun w hw => ?_, fun q hq => ?_⟩
  · rw [lkp_snoc y v _ hs x hl, dl_put y x _ ks xs I.kl]
    by_cases e : x = y
    · rw [if_pos e, if_pos e]; exact ⟨v, rfl, rfl⟩
    · rw [if_neg e, if_neg e]
      rcases List.mem_append.mp hy with z | z
      · exact I.lk y z
      · exact absurd (List.mem_singleton.mp z).symm e
  · rcases List.mem_append.mp hw with z | z
    · exact I.gv w z
    · rw [List.mem_singleton.mp z]; exact hv
  · have M := I.mks q hq
    obtain ⟨i, i1, i2, i3⟩ := M.nm
    have hne : x ≠ q.m := fun e => by
      rw [List.length_take] at i2
      have := hN.ne i k q.m x i3 hx (by omega) e.symm
      omega
    refine ⟨⟨i, i1, by rw [List.length_append, List.length_singleton]; omega, i3⟩, ?_, M.rl, M.rp, M.rn, M.kk⟩
    rw [lkp_snoc q.m v _ hs x hl, if_neg hne]
    exact M.held
structure LetR (Nm : List Str) (p o x : Str) (ns : List Str) (hs : List Va) (ks : List Str) (xs : List D) (Ms : List Mk) (i : Ln) (ks' : List Str) (xs' : List D) (Ms' : List Mk) : Prop where
  nm : i.x = x
  ev : ∀ most, Ev most ns hs i.t i.v i.ms i.dd
  inv : LI Nm p o (ns ++ [x]) (hs ++ [i.v]) ks' xs' Ms'
  ml : Ms'.length ≤ Ms.length + 1
  dl : i.ms.length ≤ 2
  dd : i.dd ≤ i.ms.length
  kv : ∀ v ∈ i.ms, kvV v
  good : i.t.good
  size : i.t.size ≤ 20
  free : ∀ y, FreeIn y i.t → y ∈ ns
theorem let_ex (n : Nat) (c : Int) (k : Nat) (hk : 1 ≤ k ∧ k ≤ 9) (Nm : List Str) (hN : NmOk Nm) (o p x : Str) (ho : Nm[10]? = some o) (hp : Nm[11]? = some p) (hx : Nm[k]? = some x) (hs : List Va) (ks : List Str) (xs : List D) (Ms : List Mk) (due : List D) (I : LI Nm p o (Nm.take k) hs ks xs Ms) (hd : due.length ≤ 100) (hM : Ms.length ≤ 100) :
    ∃ (i : Ln) (ks' : List Str) (xs' : List D) (Ms' : List Mk), LetR Nm p o x (Nm.take k) hs ks xs Ms i ks' xs' Ms' ∧
      ∃ s', execs (prg.env (n + 2)) 15 [3, 4, 5] 0 b_l_let [.val (.int c), .val (.int k), .val (.lst (Nm.map .str)), .dct ks xs, .lst (Ms.map (mkD p)), .lst due, .un, .un, .un, .un, .un, .un, .un, .un, .un] = some (.rt (.cl (.val i.t.d)) s') ∧
        gt s' 3 = .dct ks' xs' ∧ gt s' 4 = .lst (Ms'.map (mkD p)) ∧ gt s' 5 = .lst (due ++ i.ms.map dueD) := by
  generalize hw : c * 48271 % 1999 - 999 = w
  have hwo : numOk w = true := by
    have h1 := Int.emod_nonneg (c * 48271) (show (1999 : Int) ≠ 0 by decide)
    have h2 := Int.emod_lt_of_pos (c * 48271) (show (0 : Int) < 1999 by decide)
    exact numB.1 w (by have := numB.2; generalize (10 : Int) ^ 60 = B at this; omega)
  obtain ⟨row, r1, r2, pe⟩ := prefix_ex n c k hk Nm hN o p ho hp (.dct ks xs) (.lst (Ms.map (mkD p))) (.lst due) w hw
  have ex : ∀ {r : Option Out}, execs (prg.env (n + 2)) 15 [3, 4, 5] 0 (b_l_let.drop 5) (s15 c k Nm ks xs (Ms.map (mkD p)) due (c % 4) w o row (.fn p (bodyP k row))) = r → execs (prg.env (n + 2)) 15 [3, 4, 5] 0 b_l_let [.val (.int c), .val (.int k), .val (.lst (Nm.map .str)), .dct ks xs, .lst (Ms.map (mkD p)), .lst due, .un, .un, .un, .un, .un, .un, .un, .un, .un] = r := fun h => by
    have e1 : b_l_let = b_l_let.take 5 ++ b_l_let.drop 5 := rfl
    rw [e1, execs_app, pe, nxt_nx]
    exact h
  have hMl : (Ms.map (mkD p)).length ≤ 900 := by rw [List.length_map]; omega
  have hlen := hN.len
  have hns : (Nm.take k).length = k := by rw [List.length_take]; omega
  have hkl : ks.length ≤ 900 := by have := I.kb; omega
  have okN : ∀ y, y ∈ Nm.take k → nameOk y.cps.toList = true := fun y hy => hN.ok y (List.mem_of_mem_take hy)
  have hoo : nameOk o.cps.toList = true := hN.ok o (List.mem_of_getElem? ho)
  have hpo : nameOk p.cps.toList = true := hN.ok p (List.mem_of_getElem? hp)
  have hop : o ≠ p := fun e => by
    have := hN.ne 10 11 o p ho hp (by omega) e
    omega
  have rp : p ∉ row := fun z => by
    rcases r2 p z with z | z
    · exact nm_lt hN z hp (by omega) (by omega) rfl
    · exact hop z.1.symm
  have rn : ∀ y ∈ row, nameOk y.cps.toList = true := fun y hy => by
    rcases r2 y hy with z | z
    · exact okN y z
    · rw [z.1]; exact hoo
  have r0 : ("" : Str) ∉ row := fun z => nm_ne0 (rn _ z) rfl
  have hrow : row.length ≤ 20 := by omega
  have kk : 0 ≤ (k : Int) ∧ (k : Int) ≤ 9 := by omega
  have bg := bodyP_good kk rn
  have bz := bodyP_size (k : Int) row
  have hf : ∀ y ∈ row, y ≠ o → ∃ v, lkp y (Nm.take k) hs = some v ∧ gk (fun y => dlook y ks xs) y = desc v ∧ dlook y ks xs = some (gk (fun y => dlook y ks xs) y) := fun y hy hyo => by
    rcases r2 y hy with z | z
    · obtain ⟨v, e1, e2⟩ := I.lk y z
      exact ⟨v, e1, gk_eq e2, gk_so (dl := fun y => dlook y ks xs) e2⟩
    · exact absurd z.1 hyo
  have onm : ∀ y ∈ once row "", y ∈ row := fun y hy => by
    rcases (once_mem "" row [] y).mp hy with z | z
    · cases z
    · exact z.1
  have oom : ∀ y ∈ once row o, y ∈ row ∧ y ≠ o := fun y hy => by
    rcases (once_mem o row [] y).mp hy with z | z
    · cases z
    · exact z
  have moo : ∀ y ∈ row, y ≠ o → y ∈ once row o := fun y hy hyo => (once_mem o row [] y).mpr (.inr ⟨hy, hyo⟩)
  have fi := free_inner (n := (k : Int)) rp r0
  have fo := free_outer (o := o) (n := (k : Int)) rp
  have hinner : kvV (keptV p (bodyP k row) (Nm.take k) hs) := kept_kv I.hl bg (by omega) I.gv
  have houter : kvV (keptV o (.fn p (bodyP k row)) (Nm.take k) hs) := kept_kv I.hl ⟨hpo, bg⟩ (by simp only [T.size]; omega) I.gv
  have hm4 := Int.emod_nonneg c (show (4 : Int) ≠ 0 by decide)
  have hm4' := Int.emod_lt_of_pos c (show (0 : Int) < 4 by decide)
  have oNo : o ∉ Nm.take k := fun z => nm_lt hN z ho (by omega) (by omega) rfl
  have dueo : dueD (keptV o (.fn p (bodyP k row)) (Nm.take k) hs) = .tup [.str o, (T.fn p (bodyP k row)).d, .lst ((once row o).map .str), .lst ((once row o).map (gk fun y => dlook y ks xs))] := by
    unfold keptV
    rw [fo, dueD_fn, ws_desc0 fun y hy => ?_]
    obtain ⟨v, e1, e2, _⟩ := hf y (oom y hy).1 (oom y hy).2
    exact ⟨v, e1, e2⟩
  by_cases h3 : c % 4 = 3 ∧ Ms ≠ []
  · -- a call of one that was let ahead
    obtain ⟨h3, hne⟩ := h3
    rw [h3] at ex
    have hl0 : 0 < Ms.length := by cases Ms with | nil => exact absurd rfl hne | cons a M => simp
    have b0 := Int.emod_nonneg w (show (Ms.length : Int) ≠ 0 by omega)
    have b1 := Int.emod_lt_of_pos w (show (0 : Int) < Ms.length by omega)
    have e : ((w % (Ms.length : Int)).toNat : Int) = w % (Ms.length : Int) := Int.toNat_of_nonneg b0
    have hj : (w % (Ms.length : Int)).toNat < Ms.length := by omega
    have hix : ixop (.lst (Ms.map (mkD p))) (.int (w % ((Ms.map (mkD p)).length : Int))) = some (mkD p Ms[(w % (Ms.length : Int)).toNat]) := by
      have q := ix_lst (xs := Ms.map (mkD p)) (k := (w % (Ms.length : Int)).toNat) (x := mkD p Ms[(w % (Ms.length : Int)).toNat]) (by rw [List.getElem?_map, List.getElem?_eq_getElem hj]; rfl)
      rw [e] at q
      rw [List.length_map]
      exact q
    have MO := I.mks _ (List.getElem_mem hj)
    generalize Ms[(w % (Ms.length : Int)).toNat] = mk at hix MO
    obtain ⟨F0, held, q1, q2, q3, q4⟩ := MO.held
    have m0 : ("" : Str) ∉ mk.row := fun z => nm_ne0 (MO.rn _ z) rfl
    have mfi := free_inner (n := mk.k) MO.rp m0
    have mom : ∀ y ∈ once mk.row "", y ∈ mk.row := fun y hy => by
      rcases (once_mem "" mk.row [] y).mp hy with z | z
      · cases z
      · exact z.1
    have mbg := bodyP_good MO.kk MO.rn
    have mbz := bodyP_size mk.k mk.row
    have mrl := MO.rl
    obtain ⟨s', e1, e2, e3, e4⟩ := way3 (n := n) (c := c) (k := k) (Nm := Nm) (ks := ks) (xs := xs) (M := Ms.map (mkD p)) (due := due) (w := w) (o := o) (p := p) (x := x) (row := row) hMl (by omega) hkl hp hx (.fn p (bodyP k row)) mk hix (fun z => hne (List.map_eq_nil_iff.mp z)) (gk fun y => dlook y mk.ks mk.xs) (fun y hy hyo => by
      obtain ⟨v, _, z⟩ := q4 y hy hyo
      exact gk_so (dl := fun y => dlook y mk.ks mk.xs) z) (by omega)
    obtain ⟨im, im1, im2, im3⟩ := MO.nm
    have mNm : mk.m ∈ Nm.take k := by
      rw [hns] at im2
      exact List.mem_iff_getElem?.mpr ⟨im, by rw [List.getElem?_take, if_pos im2]; exact im3⟩
    have hv : kvV (keptV p (bodyP mk.k mk.row) (F0 ++ [o]) (held ++ [.num w])) := kept_kv (by rw [List.length_append, List.length_append, q2]; rfl) mbg (by omega) fun v hv => by
      rcases List.mem_append.mp hv with z | z
      · exact q3 v z
      · rw [List.mem_singleton.mp z]; exact trivial
    refine ⟨⟨x, .call (.name mk.m) (.num w), keptV p (bodyP mk.k mk.row) (F0 ++ [o]) (held ++ [.num w]), [keptV p (bodyP mk.k mk.row) (F0 ++ [o]) (held ++ [.num w])], 1⟩, _, _, Ms, ⟨rfl, fun most => ev_callnm most _ hs mk.m o p _ F0 held w q1, li_put hN hk I hx _ (kv_hv hv), by omega, by simp, by simp, fun v hv' => by rw [List.mem_singleton.mp hv']; exact hv, ⟨okN _ mNm, hwo⟩, by simp only [T.size]; omega, fun y hy => ?_⟩, s', ex e1, e2, e3, ?_⟩
    · rcases free_call.mp hy with z | z
      · rw [free_name.mp z]; exact mNm
      · exact absurd z free_num
    · rw [e4]
      unfold keptV
      rw [mfi, List.map_cons, List.map_nil, dueD_fn, ws_desc1 q2 fun y hy hyo => ?_]
      obtain ⟨v, z1, z2⟩ := q4 y (mom y hy) hyo
      exact ⟨v, z1, gk_eq z2⟩
  · by_cases h2 : c % 4 = 2
    · -- a maker
      rw [h2] at ex
      obtain ⟨s', e1, e2, e3, e4⟩ := way2 (n := n) (c := c) (k := k) (Nm := Nm) (ks := ks) (xs := xs) (M := Ms.map (mkD p)) (due := due) (w := w) (o := o) (p := p) (x := x) (row := row) hMl (by omega) hkl hx k (gk fun y => dlook y ks xs) (fun y hy => by
        obtain ⟨v, _, _, z⟩ := hf y (oom y hy).1 (oom y hy).2
        exact z) hrow
      have li := li_put hN hk I hx (keptV o (.fn p (bodyP k row)) (Nm.take k) hs) (kv_hv houter)
      refine ⟨⟨x, .fn o (.fn p (bodyP k row)), keptV o (.fn p (bodyP k row)) (Nm.take k) hs, [keptV o (.fn p (bodyP k row)) (Nm.take k) hs], 0⟩, _, _, Ms ++ [⟨x, row, k, ks, xs⟩], ⟨rfl, fun most => ev_fn most _ hs o _, ⟨li.hl, li.kl, li.kb, li.lk, li.gv, fun q hq => ?_⟩, by simp, by simp, by simp, fun v hv' => by rw [List.mem_singleton.mp hv']; exact houter, ⟨hoo, hpo, bg⟩, by simp only [T.size]; omega, fun y hy => ?_⟩, s', ex e1, e2, ?_, ?_⟩
      · rcases List.mem_append.mp hq with z | z
        · exact li.mks q z
        · rw [List.mem_singleton.mp z]
          refine ⟨⟨k, hk.1, by rw [List.length_append, List.length_singleton, hns]; omega, hx⟩, ⟨once row o, wsOf (once row o) (Nm.take k) hs, ?_, by unfold wsOf; rw [List.length_map], ws_hv I.hl I.gv, fun y hy hyo => ?_⟩, by dsimp only; omega, rp, rn, kk⟩
          · show lkp x _ _ = _
            rw [lkp_snoc x _ _ hs x I.hl, if_pos rfl]
            unfold keptV
            rw [fo]
          · obtain ⟨v, z1, z2, z3⟩ := hf y hy hyo
            exact ⟨v, by rw [lkp_ws _ (moo y hy hyo), z1]; rfl, by rw [← z2]; exact z3⟩
      · obtain ⟨z, zo⟩ := free_fn.mp hy
        rcases r2 y (bodyP_free (free_fn.mp z).1) with z | z
        · exact z
        · exact absurd z.1 zo
      · rw [e3, List.map_append]; rfl
      · rw [e4, List.map_cons, List.map_nil, dueo]
    · by_cases h1 : c % 4 = 1
      · rw [h1] at ex
        obtain ⟨s', e1, e2, e3, e4⟩ := way1 (n := n) (c := c) (k := k) (Nm := Nm) (ks := ks) (xs := xs) (M := Ms.map (mkD p)) (due := due) (w := w) (o := o) (p := p) (x := x) (row := row) hMl (by omega) hkl hp hx k (gk fun y => dlook y ks xs) (fun y hy hyo => by
          obtain ⟨v, _, _, z⟩ := hf y hy hyo
          exact z) hrow
        have q2 : (once row o).length = (wsOf (once row o) (Nm.take k) hs).length := by unfold wsOf; rw [List.length_map]
        have hv : kvV (keptV p (bodyP k row) (once row o ++ [o]) (wsOf (once row o) (Nm.take k) hs ++ [.num w])) := kept_kv (by rw [List.length_append, List.length_append, q2]; rfl) bg (by omega) fun v hv => by
          rcases List.mem_append.mp hv with z | z
          · exact ws_hv I.hl I.gv v z
          · rw [List.mem_singleton.mp z]; exact trivial
        have ev1 := fun most => ev_callfn most (Nm.take k) hs o p (bodyP k row) w
        rw [fo] at ev1
        refine ⟨⟨x, .call (.fn o (.fn p (bodyP k row))) (.num w), _, _, 1⟩, _, _, Ms, ⟨rfl, ev1, li_put hN hk I hx _ (kv_hv hv), by omega, by simp, by simp, fun v hv' => ?_, ⟨⟨hoo, hpo, bg⟩, hwo⟩, by simp only [T.size]; omega, fun y hy => ?_⟩, s', ex e1, e2, e3, ?_⟩
        · rcases List.mem_cons.mp hv' with rfl | z
          · exact houter
          · rw [List.mem_singleton.mp z]; exact hv
        · rcases free_call.mp hy with z | z
          · obtain ⟨z, zo⟩ := free_fn.mp z
            rcases r2 y (bodyP_free (free_fn.mp z).1) with z | z
            · exact z
            · exact absurd z.1 zo
          · exact absurd z free_num
        · rw [e4, List.map_cons, List.map_cons, List.map_nil, dueo]
          unfold keptV
          rw [fi, dueD_fn, ws_desc1 q2 fun y hy hyo => ?_]
          obtain ⟨v, z1, z2, z3⟩ := hf y (onm y hy) hyo
          exact ⟨v, by rw [lkp_ws _ (moo y (onm y hy) hyo), z1]; rfl, z2⟩
      · have hq : c % 4 = 0 ∨ (c % 4 = 3 ∧ Ms.map (mkD p) = []) := by
          by_cases h0 : c % 4 = 0
          · exact .inl h0
          · have : c % 4 = 3 := by omega
            refine .inr ⟨this, ?_⟩
            by_cases hne : Ms = []
            · rw [hne]; rfl
            · exact absurd ⟨this, hne⟩ h3
        obtain ⟨s', e1, e2, e3, e4⟩ := way01 (n := n) (c := c) (k := k) (Nm := Nm) (ks := ks) (xs := xs) (M := Ms.map (mkD p)) (due := due) (w := w) (o := o) (p := p) (x := x) (row := row) hMl (by omega) hkl hp hx k (c % 4) hq (gk fun y => dlook y ks xs) (fun y hy hyo => by
          obtain ⟨v, _, _, z⟩ := hf y hy hyo
          exact z) hrow
        have rno : ∀ y ∈ row, y ∈ Nm.take k := fun y hy => by
          rcases r2 y hy with z | z
          · exact z
          · omega
        refine ⟨⟨x, .fn p (bodyP k row), keptV p (bodyP k row) (Nm.take k) hs, [keptV p (bodyP k row) (Nm.take k) hs], 0⟩, _, _, Ms, ⟨rfl, fun most => ev_fn most _ hs p _, li_put hN hk I hx _ (kv_hv hinner), by omega, by simp, by simp, fun v hv' => by rw [List.mem_singleton.mp hv']; exact hinner, ⟨hpo, bg⟩, by simp only [T.size]; omega, fun y hy => rno y (bodyP_free (free_fn.mp hy).1)⟩, s', ex e1, e2, e3, ?_⟩
        rw [e4, List.map_cons, List.map_nil]
        unfold keptV
        rw [fi, dueD_fn]
        have e5 : (once row "").map (stD o (.int w) (gk fun y => dlook y ks xs)) = (once row "").map (gk fun y => dlook y ks xs) := List.map_congr_left fun y hy => by
          unfold stD
          exact if_neg fun z => oNo (by rw [← z]; exact rno y (onm y hy))
        rw [e5, ws_desc0 fun y hy => ?_]
        obtain ⟨v, z1, z2, _⟩ := hf y (onm y hy) fun z => oNo (by rw [← z]; exact rno y (onm y hy))
        exact ⟨v, z1, z2⟩
end Mi.K12
namespace Mi.K12
open PySem Mi
noncomputable abbrev G19 : Env := prg.env 19
theorem nd_inj {L : List Str} (nd : L.Nodup) {a b : Nat} (ha : a < L.length) (hb : b < L.length) (e : L[a] = L[b]) : a = b := by
  rcases Nat.lt_trichotomy a b with h | h | h
  · exact absurd e (List.pairwise_iff_getElem.mp nd a b ha hb h)
  · exact h
  · exact absurd e.symm (List.pairwise_iff_getElem.mp nd b a hb ha h)
theorem nmok_of {L : List Str} (h : L.length = 12) (ok : ∀ x ∈ L, nameOk x.cps.toList = true) (nd : L.Nodup) : NmOk L := ⟨h, ok, fun i j x y hi hj hij e => by
  obtain ⟨i1, i2⟩ := List.getElem?_eq_some_iff.mp hi
  obtain ⟨j1, j2⟩ := List.getElem?_eq_some_iff.mp hj
  have := nd_inj nd i1 j1 (by rw [i2, j2, e])
  omega⟩
theorem nmok_set {L : List Str} (h : L.length = 12) (ok : ∀ x ∈ L, nameOk x.cps.toList = true) (nd : L.Nodup) (d : Nat) (hd : 1 ≤ d ∧ d ≤ 9) (x0 : Str) (h0 : L[0]? = some x0) : NmOk (L.set d x0) := ⟨by rw [List.length_set]; exact h, fun x hx => by
  rcases List.mem_or_eq_of_mem_set hx with z | z
  · exact ok x z
  · rw [z]; exact ok x0 (List.mem_of_getElem? h0), fun i j x y hi hj hij e => by
  have key : ∀ a z, (L.set d x0)[a]? = some z → L[if a = d then 0 else a]? = some z := fun a z hz => by
    rw [List.getElem?_set] at hz
    by_cases e : d = a
    · rw [if_pos e] at hz
      rw [if_pos e.symm]
      split at hz
      · rw [h0]; exact hz
      · cases hz
    · rw [if_neg e] at hz
      rw [if_neg fun z => e z.symm]
      exact hz
  have hi := key i x hi
  have hj := key j y hj
  obtain ⟨i1, i2⟩ := List.getElem?_eq_some_iff.mp hi
  obtain ⟨j1, j2⟩ := List.getElem?_eq_some_iff.mp hj
  have := nd_inj nd i1 j1 (by rw [i2, j2, e])
  split at this <;> split at this <;> omega⟩
theorem names_a (ns : List Int) : ∃ (Nm : List Str), NmOk Nm ∧ execs G19 16 [] 0 (b_law.take 4) [.val (.scr ns), .un, .un, .un, .un, .un, .un, .un, .un, .un, .un, .un, .un, .un, .un, .un] =
    some (.nx [.val (.scr ns), .val (.int (ns.getD 0 0)), .val (.int (ns.getD 1 0)), .lst (Nm.map .str), .un, .un, .un, .un, .un, .un, .un, .un, .un, .un, .un, .un]) := by
  generalize hc0 : ns.getD 0 0 = c0
  generalize hc1 : ns.getD 1 0 = c1
  have g0 : dc G19 90 [.scr ns, .int 0] = some (.ok (.val (.int c0))) := by rw [← hc0]; exact cell_g (n := 18) (by rfl) ns 0
  have g1 : dc G19 90 [.scr ns, .int 1] = some (.ok (.val (.int c1))) := by rw [← hc1]; exact cell_g (n := 18) (by rfl) ns 1
  have gn : ∀ c, dc G19 100 [.int c] = some (.ok (.val (.str (St (nameL 19 c))))) := fun c => name_g (n := 18) (fd := f_l_name_by) 19 false (by decide) (by rfl) (by rfl) c
  have rr := fun s => sq_rng 0 12 s (by omega)
  let L0 : List (List Nat) := (List.range 12).map fun (k : Nat) => nameL 19 (cellK c0 7 k)
  have comp : ∀ s : S, gt s 1 = .val (.int c0) → (gt s 4).own = false → s.length = 16 →
      ev G19 (.comp (.call 100 [(.bin .add (.bin .sub (.v 1) (.bin .mod (.v 1) (.c (.int 26)))) (.bin .mod (.bin .add (.v 1) (.bin .mul (.c (.int 7)) (.v 4))) (.c (.int 26))))]) 4 (.tup [(.c (.int 0)), (.c (.int 12))]) .rng (.c (.bl true))) s = some (.ok (.fr (.lst (strD L0))) s) := fun s n1 n4 hl => by
    have q := comp_map (Γ := G19) (e := .call 100 [(.bin .add (.bin .sub (.v 1) (.bin .mod (.v 1) (.c (.int 26)))) (.bin .mod (.bin .add (.v 1) (.bin .mul (.c (.int 7)) (.v 4))) (.c (.int 26))))]) (x := 4) (it := .tup [(.c (.int 0)), (.c (.int 12))]) (k := .rng) (s := s) (s1 := s) (ds := rangeD 0 12) (onInt fun k => .str (St (nameL 19 (cellK c0 7 k)))) (by simp [rr]) n4 (by rw [range_len]; decide) fun d hd => by
      obtain ⟨k, hk, rfl⟩ := mem_rangeD hd
      have hc := cmul_l (a := 7) (b := (k : Int)) (by decide) (by decide)
      have m1 : gt (s.set 4 (.val (.int k))) 1 = .val (.int c0) := by rw [gt_set, if_neg (by omega)]; exact n1
      have m4 : gt (s.set 4 (.val (.int k))) 4 = .val (.int k) := by rw [gt_set, if_pos ⟨rfl, by omega⟩]
      simp [m1, m4, hc, gn, cellK]
    rw [q, show ((12 : Int)) = ((12 : Nat) : Int) from rfl, rangeD_map]
    show _ = some (R.ok (Ro.fr (.lst (strD ((List.range 12).map fun (k : Nat) => nameL 19 (cellK c0 7 k))))) s)
    unfold strD
    rw [List.map_map, Function.comp_def]
  have d1 := comp [.val (.scr ns), .val (.int c0), .val (.int c1), .un, .un, .un, .un, .un, .un, .un, .un, .un, .un, .un, .un, .un] (by simp) (by simp) (by simp)
  have hs0 : strD L0 = (L0.map St).map .str := by unfold strD; rw [List.map_map]; rfl
  have hl0 : (L0.map St).length = 12 := by show (((List.range 12).map _).map St : List Str).length = 12; simp
  have hok : ∀ x ∈ L0.map St, nameOk x.cps.toList = true := fun x hx => by
    obtain ⟨w, hw, rfl⟩ := List.mem_map.mp hx
    obtain ⟨k, _, rfl⟩ := List.mem_map.mp hw
    rw [st_list]
    exact name_ok 19 _
  have hnd : (L0.map St).Nodup := (List.pairwise_map (f := St) (l := L0)).mpr ((names_nodup 19 c0 7 (.inl rfl) 12 (by omega)).imp fun {a b} h z => h (st_inj.mp z))
  rw [hs0] at d1
  generalize L0.map St = L at *
  by_cases h : c0 / 1000 % 4 = 0
  · have hj : 1 + c1 % 9 = ((1 + c1 % 9).toNat : Int) := by omega
    have hj2 : 1 ≤ (1 + c1 % 9).toNat ∧ (1 + c1 % 9).toNat ≤ 9 := by omega
    generalize (1 + c1 % 9).toNat = j at hj hj2
    have h0 : L[0]? = some L[0] := List.getElem?_eq_getElem (by omega)
    have i0 := ix_lst (xs := L.map D.str) (k := 0) (x := .str L[0]) (by rw [List.getElem?_map, h0]; rfl)
    have ixn : L2.ixN (L.map D.str).length (j : Int) = some j := by
      unfold L2.ixN
      rw [List.length_map, hl0, if_pos (by omega), if_pos (by omega)]; simp
    refine ⟨L.set j L[0], nmok_set hl0 hok hnd j hj2 L[0] h0, ?_⟩
    have hc : ∀ (d : D) (s : S), subC d 3 (.int (j : Int)) (.lst (L.map .str)) s = some (.nx (s.set 3 (.lst ((L.map .str).set j d)))) := fun d s => by
      unfold subC
      dsimp only
      rw [ixn]; rfl
    rw [List.map_set]
    generalize L[0] = x0 at *
    have i0 : ixop (.lst (L.map D.str)) (.int 0) = some (.str x0) := i0
    simp [b_law, g0, g1, d1, h, i0, hj, hc]
  · refine ⟨L, nmok_of hl0 hok hnd, ?_⟩
    simp [b_law, g0, g1, d1, h]
/-! ### the lets -/
theorem lets_snoc {most : Nat} : ∀ {l : List Ln} {ns : List Str} {hs : List Va} {i : Ln}, Lets most ns hs l → Ev most (ns ++ l.map Ln.x) (hs ++ l.map Ln.v) i.t i.v i.ms i.dd → Lets most ns hs (l ++ [i]) := by
  intro l ns hs i h
  induction h with
  | nil ns hs =>
    intro e
    simp at e
    exact .cons e (.nil _ _)
  | @cons ns hs j r h q ih =>
    intro e
    refine .cons h (ih ?_)
    simpa using e
def Cld : List Str → List Ln → Prop
  | _, [] => True
  | ns, i :: r => (∀ y, FreeIn y i.t → y ∈ ns) ∧ Cld (ns ++ [i.x]) r
theorem cld_snoc : ∀ {l : List Ln} {ns : List Str} {i : Ln}, Cld ns l → (∀ y, FreeIn y i.t → y ∈ ns ++ l.map Ln.x) → Cld ns (l ++ [i])
  | [], ns, i, _, h => ⟨by simpa using h, trivial⟩
  | j :: l, ns, i, h, e => ⟨h.1, cld_snoc h.2 (by simpa using e)⟩
theorem cld_free : ∀ {l : List Ln} {ns : List Str} {y : Str}, Cld ns l → FreeIn y (letsN l) → y ∈ ns
  | [], ns, y, _, h => absurd h free_num
  | i :: l, ns, y, h, e => by
    rcases free_let.mp e with z | ⟨z, zn⟩
    · exact h.1 y z
    · rcases List.mem_append.mp (cld_free h.2 z) with w | w
      · exact w
      · exact absurd (List.mem_singleton.mp w) zn
def lnD (i : Ln) : D := .tup [.str i.x, i.t.d]
structure LnOk (i : Ln) : Prop where
  nm : nameOk i.x.cps.toList = true
  good : i.t.good
  size : i.t.size ≤ 20
  dd : i.dd ≤ i.ms.length
  dl : i.ms.length ≤ 2
  kv : ∀ v ∈ i.ms, kvV v
theorem letsN_good : ∀ {l : List Ln}, (∀ i ∈ l, LnOk i) → (letsN l).good ∧ (letsN l).size ≤ 21 * l.length + 1
  | [], _ => ⟨numB.1 7 (by have := numB.2; generalize (10 : Int) ^ 60 = B at this; omega), by simp [letsN, T.size]⟩
  | i :: l, h => by
    have a := h i List.mem_cons_self
    obtain ⟨b, c⟩ := letsN_good (l := l) fun j hj => h j (List.mem_cons_of_mem _ hj)
    have := a.size
    exact ⟨⟨a.nm, a.good, b⟩, by simp only [letsN, T.size, List.length_cons]; omega⟩
theorem cost_le : ∀ {l : List Ln}, (∀ i ∈ l, LnOk i) → cost l ≤ l.length + (mks l).length ∧ (mks l).length ≤ 2 * l.length
  | [], _ => ⟨Nat.le_refl _, Nat.le_refl _⟩
  | i :: l, h => by
    have a := h i List.mem_cons_self
    obtain ⟨b, c⟩ := cost_le (l := l) fun j hj => h j (List.mem_cons_of_mem _ hj)
    have e1 : cost (i :: l) = i.dd + 1 + cost l := by simp [cost]
    have e2 : (mks (i :: l)).length = i.ms.length + (mks l).length := by simp [mks]
    have := a.dd
    have := a.dl
    rw [e1, e2, List.length_cons]
    omega
theorem mks_kv {l : List Ln} (h : ∀ i ∈ l, LnOk i) : ∀ v ∈ mks l, kvV v := fun v hv => by
  unfold mks at hv
  obtain ⟨ms, h1, h2⟩ := List.mem_flatten.mp hv
  obtain ⟨i, h3, rfl⟩ := List.mem_map.mp h1
  exact (h i h3).kv v h2
theorem mks_snoc (l : List Ln) (i : Ln) : mks (l ++ [i]) = mks l ++ i.ms := by simp [mks]
theorem lets_loop (ns : List Int) (a1 a2 : Cl) (Nm : List Str) (hN : NmOk Nm) (o p : Str) (ho : Nm[10]? = some o) (hp : Nm[11]? = some p) (num : Int) (hnum : numOk num = true) (x0 : Str) (h0 : Nm[0]? = some x0) (m : Nat) (hm : m ≤ 9) (a11 a12 a13 a14 a15 : Cl) :
    ∃ (l : List Ln) (c3 c4 c10 c7 c8 : Cl), l.length = m + 1 ∧ (∀ i ∈ l, LnOk i) ∧ (∀ most, Lets most [] [] l) ∧ Cld [] l ∧
      forL (fun d s => s.set 4 (.val d)) (execs G19 16 [] 0 b_law_0) (rangeD 1 ((1 : Int) + m)) [.val (.scr ns), a1, a2, .lst (Nm.map .str), .un, .val (.int num), .lst [.tup [.str x0, (T.num num).d]], .dct [x0] [.int num], .lst [], .lst [], .un, a11, a12, a13, a14, a15] =
        some (.nx [.val (.scr ns), a1, a2, c3, c4, .val (.int num), .lst (l.map lnD), c7, c8, .lst ((mks l).map dueD), c10, a11, a12, a13, a14, a15]) := by
  have hlen := hN.len
  obtain ⟨s', e, l, hs, ks, xs, Ms, c3, c4, c10, q1, q2, q3, q4, q5, q6, q7, q8, q9, q10⟩ := forL_rel (put := fun d s => s.set 4 (.val d)) (b := execs G19 16 [] 0 b_law_0) (fun k s => ∃ (l : List Ln) (hs : List Va) (ks : List Str) (xs : List D) (Ms : List Mk) (c3 c4 c10 : Cl), l.length = k + 1 ∧ (∀ i ∈ l, LnOk i) ∧ (∀ most, Lets most [] [] l) ∧ Cld [] l ∧ l.map Ln.x = Nm.take (k + 1) ∧ l.map Ln.v = hs ∧ LI Nm p o (Nm.take (k + 1)) hs ks xs Ms ∧ Ms.length ≤ k ∧ (c3 = .lst (Nm.map .str) ∨ c3 = .val (.lst (Nm.map .str))) ∧
      s = [.val (.scr ns), a1, a2, c3, c4, .val (.int num), .lst (l.map lnD), .dct ks xs, .lst (Ms.map (mkD p)), .lst ((mks l).map dueD), c10, a11, a12, a13, a14, a15]) (rangeD 1 ((1 : Int) + m)) 0 (fun j d s hd ⟨l, hs, ks, xs, Ms, c3, c4, c10, q1, q2, q3, q4, q5, q6, q7, q8, q9, q10⟩ => by
    subst q10
    rw [Nat.zero_add] at q1 q5 q7 q8 ⊢
    obtain ⟨hj, rfl⟩ := range_get hd
    have hj : j < m := by omega
    obtain ⟨cl1, cl2⟩ := cost_le q2
    have hx : Nm[j + 1]? = some Nm[j + 1] := List.getElem?_eq_getElem (by omega)
    have hxo : nameOk (Nm[j + 1]).cps.toList = true := hN.ok _ (List.getElem_mem _)
    generalize Nm[j + 1] = x at hx hxo
    have hk1 : 1 ≤ j + 1 ∧ j + 1 ≤ 9 := by omega
    have cg : dc G19 90 [.scr ns, .int (1 + (1 + (j : Int)))] = some (.ok (.val (.int (ns.getD (2 + j) 0)))) := by
      have q := cell_g (Q := prg.fds) (n := 18) (by rfl) ns (2 + j)
      rw [show ((2 + j : Nat) : Int) = 1 + (1 + (j : Int)) by omega] at q
      exact q
    generalize ns.getD (2 + j) 0 = c at cg
    obtain ⟨i, ks', xs', Ms', R, s1, f1, f2, f3, f4⟩ := let_ex 16 c (j + 1) hk1 Nm hN o p x ho hp hx hs ks xs Ms ((mks l).map dueD) q7 (by rw [List.length_map]; omega) (by omega)
    have ek : ((j + 1 : Nat) : Int) = 1 + (j : Int) := by omega
    rw [ek] at f1
    have ik : ∀ c3 : Cl, (c3 = .lst (Nm.map .str) ∨ c3 = .val (.lst (Nm.map .str))) → ixop c3 (.int (1 + (j : Int))) = some (.str x) := fun c3 h => by
      rw [← ek]
      rcases h with rfl | rfl
      · exact ix_lst (by rw [List.getElem?_map, hx]; rfl)
      · exact ix_vlst (by rw [List.getElem?_map, hx]; rfl)
    have ok : okOuts 15 s1 ([.val (.int c), .val (.int (1 + (j : Int))), .val (.lst (Nm.map .str)), .dct ks xs, .lst (Ms.map (mkD p)), .lst ((mks l).map dueD)].map Ag.cl) 0 = true := by
      simp only [okOuts, List.map_cons, List.map_nil, f2, f3, f4, Nat.zero_add]
      rfl
    have cl := cl_rf (P := prg.fds) (n := 18) (f := 108) (fd := f_l_let) (s := [.val (.scr ns), a1, a2, .val (.lst (Nm.map .str)), .val (.int (1 + (j : Int))), .val (.int num), .lst (l.map lnD), .dct ks xs, .lst (Ms.map (mkD p)), .lst ((mks l).map dueD), c10, a11, a12, a13, a14, a15]) (s1 := s1) (l := [.d (.int c), .d (.int (1 + (j : Int))), .d (.lst (Nm.map .str)), .rf 7, .rf 8, .rf 9]) (c := .val i.t.d) [.val (.int c), .val (.int (1 + (j : Int))), .val (.lst (Nm.map .str)), .dct ks xs, .lst (Ms.map (mkD p)), .lst ((mks l).map dueD)] (by rfl) rfl rfl rfl (by simp [rfs]) rfl f1 ok rfl
    have bk : back [.val (.scr ns), a1, a2, .val (.lst (Nm.map .str)), .val (.int (1 + (j : Int))), .val (.int num), .lst (l.map lnD), .dct ks xs, .lst (Ms.map (mkD p)), .lst ((mks l).map dueD), c10, a11, a12, a13, a14, a15] [.d (.int c), .d (.int (1 + (j : Int))), .d (.lst (Nm.map .str)), .rf 7, .rf 8, .rf 9] (outs s1 6 0) = [.val (.scr ns), a1, a2, .val (.lst (Nm.map .str)), .val (.int (1 + (j : Int))), .val (.int num), .lst (l.map lnD), .dct ks' xs', .lst (Ms'.map (mkD p)), .lst ((mks (l ++ [i])).map dueD), c10, a11, a12, a13, a14, a15] := by
      rw [mks_snoc, List.map_append, ← f4, ← f3, ← f2]
      rfl
    have bk : back _ _ (outs s1 f_l_let.np 0) = _ := bk
    rw [bk] at cl
    clear bk ok f1
    have hz : l.length < sizeLine := Nat.lt_of_le_of_lt (by omega : l.length ≤ 1000000) million
    refine ⟨[.val (.scr ns), a1, a2, .val (.lst (Nm.map .str)), .val (.int (1 + (j : Int))), .val (.int num), .lst ((l ++ [i]).map lnD), .dct ks' xs', .lst (Ms'.map (mkD p)), .lst ((mks (l ++ [i])).map dueD), .val i.t.d, a11, a12, a13, a14, a15], ?_, l ++ [i], hs ++ [i.v], ks', xs', Ms', _, _, _, by rw [List.length_append, q1]; rfl, fun i' hi' => ?_, fun most => lets_snoc (q3 most) (by rw [q5, q6]; exact R.ev most), cld_snoc q4 (by rw [q5]; exact R.free), by rw [List.map_append, q5, List.map_cons, List.map_nil, R.nm, List.take_succ (i := j + 1), hx]; rfl, by rw [List.map_append, q6]; rfl, ?_, by have := R.ml; omega, .inr rfl, rfl⟩
    · rcases q9 with rfl | rfl
      · simp [b_law_0, cg, ik, cl, hz, lnD, R.nm]
      · simp [b_law_0, cg, ik, cl, hz, lnD, R.nm]
    · rcases List.mem_append.mp hi' with z | z
      · exact q2 i' z
      · rw [List.mem_singleton.mp z]
        exact ⟨by rw [R.nm]; exact hxo, R.good, R.size, R.dd, R.dl, R.kv⟩
    · have := R.inv
      rw [show Nm.take (j + 1 + 1) = Nm.take (j + 1) ++ [x] by rw [List.take_succ, hx]; rfl]
      exact this) [.val (.scr ns), a1, a2, .lst (Nm.map .str), .un, .val (.int num), .lst [.tup [.str x0, (T.num num).d]], .dct [x0] [.int num], .lst [], .lst [], .un, a11, a12, a13, a14, a15] ⟨[⟨x0, .num num, .num num, [], 0⟩], [.num num], [x0], [.int num], [], .lst (Nm.map .str), .un, .un, rfl, fun i hi => by
    rw [List.mem_singleton.mp hi]
    exact ⟨hN.ok _ (List.mem_of_getElem? h0), hnum, by simp [T.size], Nat.le_refl _, by simp, fun v hv => nomatch hv⟩, fun most => .cons (ev_num most _ _ _) (.nil _ _), ⟨fun y hy => absurd hy free_num, trivial⟩, by rw [List.take_succ, h0]; rfl, rfl, by
    rw [show Nm.take (0 + 1) = [x0] by rw [List.take_succ, h0]; rfl]
    refine ⟨rfl, rfl, Nat.le_refl _, fun y hy => ?_, fun v hv => by rw [List.mem_singleton.mp hv]; exact trivial, fun q hq => nomatch hq⟩
    rw [List.mem_singleton.mp hy]
    exact ⟨.num num, by simp [lkp], by simp [dlook, desc]⟩, Nat.le_refl _, .inl rfl, rfl⟩
  subst q10
  rw [range_len] at q1
  exact ⟨l, c3, c4, c10, _, _, by rw [q1]; omega, q2, q3, q4, e⟩
end Mi.K12
namespace Mi.K12
open PySem Mi
theorem mq : MillQ prg.fds := ⟨by rfl, by rfl, by rfl, by rfl, by rfl, by rfl, by rfl, by rfl, by rfl⟩
theorem wq : WorkQ prg.fds := ⟨by rfl, by rfl, by rfl, by rfl, by rfl⟩
theorem tree_loop (Γ : Env) (a0 a1 a2 a3 a4 a5 a6 a7 a8 a9 a10 a13 a14 a15 : Cl) : ∀ (ps : List Ln) (t : T) (c12 : Cl),
    ∃ c12', forL (fun d s => s.set 12 (.val d)) (execs Γ 16 [] 0 b_law_1) (ps.map lnD) [a0, a1, a2, a3, a4, a5, a6, a7, a8, a9, a10, .val t.d, c12, a13, a14, a15] =
      some (.nx [a0, a1, a2, a3, a4, a5, a6, a7, a8, a9, a10, .val (ps.foldl (fun t i => T.lett i.x i.t t) t).d, c12', a13, a14, a15])
  | [], t, c12 => ⟨c12, rfl⟩
  | p :: ps, t, c12 => by
    obtain ⟨c12', e⟩ := tree_loop Γ a0 a1 a2 a3 a4 a5 a6 a7 a8 a9 a10 a13 a14 a15 ps (.lett p.x p.t t) (.val (lnD p))
    refine ⟨c12', ?_⟩
    rw [List.map_cons, forL_cons, List.foldl_cons]
    have e1 : execs Γ 16 [] 0 b_law_1 ((fun (d : D) (s : S) => s.set 12 (.val d)) (lnD p) [a0, a1, a2, a3, a4, a5, a6, a7, a8, a9, a10, .val t.d, c12, a13, a14, a15]) =
        some (.nx [a0, a1, a2, a3, a4, a5, a6, a7, a8, a9, a10, .val (T.lett p.x p.t t).d, .val (lnD p), a13, a14, a15]) := by
      simp [b_law_1, lnD, T.d]
    rw [e1]
    exact e
theorem letsN_fold : ∀ ps : List Ln, ps.reverse.foldl (fun t i => T.lett i.x i.t t) (.num 7) = letsN ps := by
  intro ps
  induction ps with
  | nil => rfl
  | cons p ps ih => rw [List.reverse_cons, List.foldl_append, ih]; rfl
theorem kept_ok (v : Va) (h : kvV v) : dc G19 106 [v.d, dueD v] = some (.ok (.val (.bl true))) := by
  cases v with
  | num i => exact h.elim
  | fn x b F hs =>
    refine kept_right_g 16 x b F hs h.1 h.2.1 fun w hw => ?_
    have := h.2.2 w hw
    cases w with
    | num i => exact trivial
    | fn y b F hs => exact this
theorem look_loop (a0 a1 a2 a3 a4 a5 a6 a7 a8 a9 a10 a11 a12 a13 : Cl) : ∀ (vs : List Va), (∀ v ∈ vs, kvV v) → ∀ c14 c15 : Cl, ∃ c14' c15', forL (fun p s => match p with
          | .tup [d, e] => (s.set 14 (.val d)).set 15 (.val e)
          | _ => s) (execs G19 16 [] 0 b_law_2) (List.zipWith (fun d e => .tup [d, e]) (vs.map Va.d) (vs.map dueD)) [a0, a1, a2, a3, a4, a5, a6, a7, a8, a9, a10, a11, a12, a13, c14, c15] = some (.nx [a0, a1, a2, a3, a4, a5, a6, a7, a8, a9, a10, a11, a12, a13, c14', c15'])
  | [], _, c14, c15 => ⟨c14, c15, rfl⟩
  | v :: vs, h, c14, c15 => by
    obtain ⟨c14', c15', e⟩ := look_loop a0 a1 a2 a3 a4 a5 a6 a7 a8 a9 a10 a11 a12 a13 vs (fun w hw => h w (List.mem_cons_of_mem _ hw)) (.val v.d) (.val (dueD v))
    have g := kept_ok v (h v List.mem_cons_self)
    refine ⟨c14', c15', ?_⟩
    rw [List.map_cons, List.map_cons, List.zipWith_cons_cons, forL_cons]
    have e1 : execs G19 16 [] 0 b_law_2 [a0, a1, a2, a3, a4, a5, a6, a7, a8, a9, a10, a11, a12, a13, .val v.d, .val (dueD v)] = some (.nx [a0, a1, a2, a3, a4, a5, a6, a7, a8, a9, a10, a11, a12, a13, .val v.d, .val (dueD v)]) := by
      simp [b_law_2, g]
    show fnx (execs G19 16 [] 0 b_law_2 [a0, a1, a2, a3, a4, a5, a6, a7, a8, a9, a10, a11, a12, a13, .val v.d, .val (dueD v)]) _ = _
    rw [e1, fnx_nx]
    exact e
theorem made_ok {l : List Ln} (hl : l.length ≤ 10) (h1 : ∀ i ∈ l, LnOk i) (h2 : ∀ most, Lets most [] [] l) (h3 : Cld [] l) : dc G19 22 [(letsN l).d, .int ((l.length : Int) + ((mks l).length : Int))] = some (.ok (.lst ((mks l).map Va.d))) := by
  obtain ⟨c1, c2⟩ := cost_le h1
  obtain ⟨g1, g2⟩ := letsN_good h1
  have w : Work (letsN l) ((l.length + (mks l).length : Nat) : Int) := ⟨g1, by omega, List.eq_nil_iff_forall_not_mem.mpr fun y hy => by
    have z := cld_free h3 ((freeL_iff _ _).mp hy); exact (nomatch z), by omega, by omega⟩
  obtain ⟨r, B, m1, m2⟩ := mill_total w (by omega)
  have e := lets_run (h2 (l.length + (mks l).length)) 0 [] r (by omega) m1
  subst e
  have q := made_g mq wq (by rfl) (by rfl) (n := 13) w m1
  have em : ([] ++ mks l : List Va) = mks l := List.nil_append _
  have q : dc G19 22 _ = some (.ok (.lst (([] ++ mks l : List Va).map Va.d))) := q
  rw [em] at q
  rw [show (l.length : Int) + ((mks l).length : Int) = ((l.length + (mks l).length : Nat) : Int) by omega]
  exact q
theorem law_true (ns : List Int) (h : ns.length ≤ 63) : ∃ o, prg.env 20 109 [.cl (.val (.scr ns))] = some (.ok (.cl (.val (.bl true))) o) := by
  obtain ⟨Nm, hN, ea⟩ := names_a ns
  generalize ns.getD 0 0 = c0 at ea
  generalize ns.getD 1 0 = c1 at ea
  have hlen := hN.len
  have ho : Nm[10]? = some Nm[10] := List.getElem?_eq_getElem (by omega)
  have hp : Nm[11]? = some Nm[11] := List.getElem?_eq_getElem (by omega)
  have h0 : Nm[0]? = some Nm[0] := List.getElem?_eq_getElem (by omega)
  have i0 : ixop (.lst (Nm.map D.str)) (.int 0) = some (.str Nm[0]) := ix_lst (xs := Nm.map D.str) (k := 0) (x := .str Nm[0]) (by rw [List.getElem?_map, h0]; rfl)
  generalize Nm[0] = x0 at h0 i0
  obtain ⟨hB, hB2⟩ := numB
  have hpw := bin_pow'
  have hnum : ∃ num : Int, numOk num = true ∧ num = c1 / 9 % (2 * 10 ^ 60 - 1) - 10 ^ 60 + 1 := ⟨_, wide_num hB (by generalize (10 : Int) ^ 60 = B at hB2; omega) (c1 / 9), rfl⟩
  obtain ⟨num, hnum, en⟩ := hnum
  generalize (10 : Int) ^ 60 = B at hB2 hpw en
  have hm2 := bin_mulI 2 B (cmul_l (by decide) (by decide))
  have hmod2 := bin_modP (c1 / 9) (2 * B - 1) (by omega)
  have hm : c1 / 3 % 10 = ((c1 / 3 % 10).toNat : Int) := by omega
  have hm9 : (c1 / 3 % 10).toNat ≤ 9 := by omega
  generalize (c1 / 3 % 10).toNat = m at hm hm9
  obtain ⟨l, c3, c4, c10, c7, c8, l1, l2, l3, l4, ll⟩ := lets_loop ns (.val (.int c0)) (.val (.int c1)) Nm hN _ _ ho hp num hnum x0 h0 m hm9 .un .un .un .un .un
  have rr := fun s => sq_rng 1 ((1 : Int) + m) s (by omega)
  obtain ⟨c12, tl⟩ := tree_loop G19 (.val (.scr ns)) (.val (.int c0)) (.val (.int c1)) c3 c4 (.val (.int num)) (.val (.lst (l.map lnD))) c7 c8 (.lst ((mks l).map dueD)) c10 .un .un .un l.reverse (.num 7) .un
  rw [letsN_fold, List.map_reverse] at tl
  have mg := made_ok (by omega) l2 l3 l4
  obtain ⟨c14, c15, lo⟩ := look_loop (.val (.scr ns)) (.val (.int c0)) (.val (.int c1)) c3 c4 (.val (.int num)) (.val (.lst (l.map lnD))) c7 c8 (.val (.lst ((mks l).map dueD))) c10 (.val (letsN l).d) c12 (.val (.lst ((mks l).map Va.d))) (mks l) (mks_kv l2) .un .un
  have ez := zO_ok (n := 16) (x := 14) (y := 15) (b := execs G19 16 [] 0 b_law_2) (xs := (mks l).map Va.d) (ys := (mks l).map dueD) (s := [.val (.scr ns), .val (.int c0), .val (.int c1), c3, c4, .val (.int num), .val (.lst (l.map lnD)), c7, c8, .val (.lst ((mks l).map dueD)), c10, .val (letsN l).d, c12, .val (.lst ((mks l).map Va.d)), .un, .un]) (by decide) (by decide) (by rw [List.length_map, List.length_map])
  have lo := ez.trans lo
  have whole : ∃ s, execs G19 16 [] 0 b_law [.val (.scr ns), .un, .un, .un, .un, .un, .un, .un, .un, .un, .un, .un, .un, .un, .un, .un] = some (.rt (.cl (.val (.bl true))) s) := by
    have e1 : b_law = b_law.take 4 ++ b_law.drop 4 := rfl
    rw [e1, execs_app, ea, nxt_nx]
    refine rtv_of ?_
    simp only [T.d] at ll tl
    clear e1 ea
    simp [b_law, i0, hpw, hm2, hmod2, ← en, hm, rr, exec_for, exec_forz, ll, tl, mg, lo]
  obtain ⟨s, e⟩ := whole
  exact run_d (fd := f_law) (ds := [.scr ns]) rfl rfl e
end Mi.K12
open PySem PySem.W PySem.Calls PyProof.Rows
theorem PySem.Challenge.cw_closuremill_k12_functions_made_in_turn_holds : PySem.Challenge.rw_closuremill_k12_functions_made_in_turn.Holds := by
  w_on; o_law
  refine HandSHeadRun.head_any (r := OpenLaw.row PySem.Challenge.rw_closuremill_k12_functions_made_in_turn) (q := view (OpenLaw.row PySem.Challenge.rw_closuremill_k12_functions_made_in_turn).prog [39]) (H := Mi.K12.hk) (ob := Mi.K12.ob) (M := 4000) (loose := [("is_name" : PySem.Str), ("is_number" : PySem.Str), ("is_node" : PySem.Str), ("parts" : PySem.Str), ("need_tree" : PySem.Str), ("free" : PySem.Str), ("need_work" : PySem.Str), ("looked" : PySem.Str), ("kept_by" : PySem.Str), ("need_number" : PySem.Str), ("milled" : PySem.Str), ("made" : PySem.Str), ("_law_cell_at" : PySem.Str), ("_law_name_by" : PySem.Str), ("_law_body" : PySem.Str), ("_law_row" : PySem.Str), ("_law_once" : PySem.Str), ("_law_whole" : PySem.Str), ("_law_held_right" : PySem.Str), ("_law_kept_right" : PySem.Str), ("_law_values" : PySem.Str), ("_law_let" : PySem.Str), ("WORDS" : PySem.Str), ("LETTERS" : PySem.Str), ("MOST_NODES" : PySem.Str), ("MOST_DEEDS" : PySem.Str), ("MillError" : PySem.Str), ("NoTree" : PySem.Str), ("NotClosed" : PySem.Str), ("BadMost" : PySem.Str), ("NoNumber" : PySem.Str), ("NoFunction" : PySem.Str), ("Dry" : PySem.Str), ("Kept" : PySem.Str), ("Mill" : PySem.Str)]) (d := HandSHeadRun.topDef (OpenLaw.row PySem.Challenge.rw_closuremill_k12_functions_made_in_turn).prog 39) (kwd := []) Mi.K12.ob_eq
    (by kernel_rfl) (fun s => by kernel_rfl) Mi.K12.run (by kernel_rfl) (by kernel_rfl) (by kernel_rfl) (by rfl) (by first | assumption | decide +kernel) (by decide +kernel) ⟨rfl, rfl, rfl, rfl, rfl, by decide +kernel⟩ ?hw ?hc
  case hw => w_witness2
  case hc =>
    refine L2.walk_ofE (l := PySem.Challenge.rw_closuremill_k12_functions_made_in_turn) (n := 63) (k := 90) (x := "_law_script") (CX := L2.CX0) rfl (by decide) (by kernel_rfl) ⟨rfl, by decide, by decide⟩ ?F (fun _ _ _ _ z => z)
    intro w mg fa h Y G hmg0
    obtain ⟨K, KX, c⟩ := Y
    have hmg : mg ("law" : PySem.Str) = some (.ref fa) := by
      have e : (HandSHeadRun.topDef (OpenLaw.row PySem.Challenge.rw_closuremill_k12_functions_made_in_turn).prog 39).name = ("law" : PySem.Str) := by kernel_rfl
      rw [← e]
      exact hmg0
    obtain ⟨h1, h23⟩ := He.ba c.more
    obtain ⟨h2, h3⟩ := He.ba h23
    obtain ⟨fd, hb, hF⟩ := Mi.law_ends (P := (PySem.Challenge.rw_closuremill_k12_functions_made_in_turn).prog) (w := w) (n := 20) (x := "_law_script") (l := "law") Mi.K12.prg_k KX G (fun q hq => List.all_eq_true.mp h1 q hq) h3 (fun e he => c.t.d.defs (d := e.d) (by
      simp only [Mi.K12.prg, List.mem_cons, List.not_mem_nil, or_false] at he
      rcases he with rfl | rfl | rfl | rfl | rfl | rfl | rfl | rfl | rfl | rfl | rfl | rfl | rfl | rfl | rfl | rfl | rfl | rfl | rfl | rfl | rfl | rfl | rfl | rfl | rfl | rfl | rfl <;> simp [Mi.K12.fn])) (e := Mi.K12.e_law) (by simp [Mi.K12.prg]) rfl rfl h2 hmg Mi.K12.law_true
    exact ⟨K, fd, Mi.spL K, KX, hb, fun H a ns hl _ hS => ⟨a, ns, rfl, hl, hS, fun _ => rfl⟩, fun base KB GB => Mi.no_exc (hF base KB GB)⟩
