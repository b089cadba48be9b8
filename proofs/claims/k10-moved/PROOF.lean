import PyProof.Rows.All
import HandS.ForMost
import HandS.WordsExc
import HandS.TupAny
import HandS.TupMul
import HandS.Deep
import HandS.IsInst
import HandS.SortInts
import HandS.CallLocal
import HandS.HeadHook3
import HandS.Walk
import HandS.Text
import PyProof.P3In
import PyProof.ReprRoads
import HandS.SortRule
import HandS.Conv
import HandS.More
import KE.KDictSum
import HandS.ExcInit
import HandS.ClsMeth
import HandS.TryMany
import KE.KExcIs
import KE.GoesEnum
import KE.GoesMore
import HandS.DictComp
import HandS.Comp
import HandS.HeadHook4
import HandS.HeadEnd
import HandS.Head2
import PySem.Challenge.RW_onlythedirt_k10_moved
set_option Elab.async false
set_option linter.all false
set_option maxRecDepth 100000
set_option maxHeartbeats 4000000
/-! My own layer, part 1: values, results, the small language and what it computes. -/
namespace OD
open PySem

/-! ### values -/
inductive D where
  | non | bl (b : Bool) | int (i : Int) | str (x : Str)
  | tup (ds : List D) | lst (ds : List D) | scr (ns : List Int)
  | ref (n : Nat) | fn (i : Nat) | cls (i : Nat) | ins (c : Nat) (ds : List D) | exv (c : Nat) (fs : List D)
  | dct (b : Bool) (ks : List (List Int))
deriving Inhabited

/-- mutable things -/
inductive MO where
  | lst (ds : List D)
/-- the mutable store; the number of writes so far -/
structure MS where
  objs : List MO
  w : Nat
inductive Res (α : Type) where
  | ok (a : α) (m : MS) | exc (c : Nat) (fs : List D) (m : MS) | bad
/-- how a value is held: shared (never changes any more), owned (a list that nobody else holds), borrowed (what an owning name holds) -/
inductive Kd where
  | sh | own | bor
deriving DecidableEq

def bindR {α β : Type} (r : Res α) (f : α → MS → Res β) : Res β := match r with
  | .ok a m => f a m
  | .exc c fs m => .exc c fs m
  | .bad => .bad
def condR {α : Type} (b : Bool) (f g : Unit → Res α) : Res α := match b with
  | true => f ()
  | false => g ()
/-- a value of a partial function -/
def optR {α : Type} (o : Option α) (m : MS) : Res α := match o with
  | some a => .ok a m
  | none => .bad
/-- goes on where a condition holds -/
def needR {α : Type} (b : Prop) [Decidable b] (f : Unit → Res α) : Res α := if b then f () else .bad
/-- no exception leaves -/
def noX {α : Type} (r : Res α) : Res α := match r with
  | .exc _ _ _ => .bad
  | r => r

mutual
def D.py : D → PyData
  | .non => .none | .bl b => .bool b | .int i => .int i | .str x => .str x
  | .tup ds => .tuple (pys ds) | .lst ds => .list (pys ds) | .scr ns => .list (ns.map PyData.int)
  | .ref _ => .dict [] | .fn _ => .dict [] | .cls _ => .dict [] | .ins _ _ => .dict [] | .exv _ _ => .dict [] | .dct _ _ => .dict []
def pys : List D → List PyData
  | [] => []
  | d :: ds => d.py :: pys ds
end
theorem pys_map : ∀ ds : List D, pys ds = ds.map D.py
  | [] => rfl
  | d :: ds => by rw [pys, pys_map ds]; rfl
/-- plain data, of depth below n -/
def okD : Nat → D → Bool
  | _, .non => true | _, .bl _ => true | _, .int _ => true | _, .str x => PyData.strOk x
  | n + 1, .tup ds => ds.all (okD n) | n + 1, .lst ds => ds.all (okD n)
  | _ + 1, .scr _ => true
  | _, _ => false
def eqD (d e : D) : Option Bool := match d, e with
  | .str x, .str y => some (decide (x = y))
  | d, e => if okD 60 d = true ∧ okD 60 e = true then some (PyData.eqv d.py e.py) else none
def seqD : D → Bool
  | .tup _ => true | .lst _ => true
  | _ => false
/-- the shown text of plain data -/
def shD (d : D) : Option Str := if seqD d = true ∧ okD 60 d = true ∧ d.py.showable = true ∧ d.py.shown.length ≤ sizeLine then some d.py.shown else none
def flatD : D → Bool
  | .non => true | .bl _ => true | .int _ => true | .str _ => true
  | _ => false
def intsD : List D → Option (List Int)
  | [] => some []
  | .int i :: ds => (intsD ds).map (i :: ·)
  | _ :: _ => none
/-! a dict's keys: numbers (b = false), tuples of numbers (b = true) -/
def keyD (b : Bool) (k : List Int) : D := match b with
  | true => .tup (k.map D.int)
  | false => .int (k.headD 0)
def keyL (b : Bool) (d : D) : Option (List Int) := match b, d with
  | true, .tup ds => intsD ds
  | false, .int i => some [i]
  | _, _ => none
def keq (b : Bool) (j k : List Int) : Bool := match b with
  | true => decide (j = k)
  | false => decide (j.headD 0 = k.headD 0)
def hasK (b : Bool) (ks : List (List Int)) (k : List Int) : Bool := ks.any fun j => keq b j k
def addK (b : Bool) (ks : List (List Int)) (k : List Int) : List (List Int) := match hasK b ks k with
  | true => ks
  | false => ks ++ [k]
/-- x in e -/
def inD (d e : D) : Option Bool := match e with
  | .lst es => if okD 59 d = true ∧ okD 60 e = true then some (es.any fun x => PyData.eqv x.py d.py) else none
  | .tup es => if flatD d = true ∧ es.all flatD = true then some (es.any fun x => PyData.eqv x.py d.py) else if okD 59 d = true ∧ okD 60 e = true then some (es.any fun x => PyData.eqv x.py d.py) else none
  | .str y => match d with
    | .str x => some (!(Builtin.Str.occurrences y x 0 y.length 1).isEmpty)
    | _ => none
  | .dct b ks => (keyL b d).map fun k => hasK b ks k
  | _ => none
def truD (d : D) (m : MS) : Option Bool := match d with
  | .non => some false
  | .bl b => some b
  | .int i => some (i != 0)
  | .str x => if x.length ≤ sizeLine then some ((x.length : Int) != 0) else none
  | .tup ds => some (!ds.isEmpty)
  | .lst ds => some (!ds.isEmpty)
  | .scr ns => some (!ns.isEmpty)
  | .ref n => match m.objs[n]? with
    | some (.lst ds) => some (!ds.isEmpty)
    | _ => none
  | _ => none
/-- the items of a sequence -/
def itemsD (d : D) (m : MS) : Option (List D) := match d with
  | .tup ds => some ds
  | .lst ds => some ds
  | .scr ns => some (ns.map D.int)
  | .ref n => match m.objs[n]? with
    | some (.lst ds) => some ds
    | _ => none
  | _ => none
/-- what list() makes of it -/
def itemsL (d : D) (m : MS) : Option (List D) := match d with
  | .dct b ks => some (ks.map (keyD b))
  | d => itemsD d m
def lenD (d : D) (m : MS) : Option Nat := match d with
  | .str x => if x.length ≤ sizeLine then some x.length else none
  | _ => (itemsD d m).map List.length
def idxD (d i : D) (m : MS) : Option D := match i with
  | .int k => match d with
    | .str x => if x.length ≤ sizeLine then (L2.atI x.cps.toList k).map fun c => D.str ⟨#[c]⟩ else none
    | _ => (itemsD d m).bind fun ds => L2.atI ds k
  | _ => none
def cutD (ds : List D) (lo hi : Option Int) : List D := (ds.drop (HT.sIx ds.length 0 lo)).take (HT.sIx ds.length ds.length hi - HT.sIx ds.length 0 lo)
def slcD (d : D) (l h : Option Int) : Option (D × Kd) := match d with
  | .tup ds => some (.tup (cutD ds l h), .sh)
  | .lst ds => some (.lst (cutD ds l h), .own)
  | .scr ns => some (.lst (cutD (ns.map D.int) l h), .own)
  | .str z => if z.length ≤ sizeLine then some (.str (L2.cutS z l h), .sh) else none
  | _ => none

/-! ### the small language -/
inductive BO where
  | add | sub | mul | fdiv | mod | pow
deriving DecidableEq
inductive CO where
  | eq | ne | lt | le | gt | ge | inn | nin | iss | nis
deriving DecidableEq
inductive BF where
  | len | abs | min2 | max2 | minl | maxl | int | any | all | sum | list | tuple | sorted | repr
deriving DecidableEq
inductive TY where
  | int | bool | str | tuple | list
deriving DecidableEq
inductive T where
  | non | tru | fls | int (i : Int) | str (x : Str)
  | var (i : Nat) | bvar (i : Nat) | glob (j : Nat) | gfn (i : Nat)
  | bin (o : BO) (a b : T) | neg (a : T) | cmp (o : CO) (a b : T) | chn (o p : CO) (a b c : T)
  | ban (as : T) | bor (as : T) | not (a : T) | ite (c a b : T)
  | tup (as : T) | lst (as : T) | olst (as : T)
  | idx (a i : T) | slc (a lo hi : T)
  | call (f : Nat) (as : T) | callv (i : Nat) (as : T) | blt (f : BF) (as : T) | isi (a : T) (t : TY)
  | lc (e c tg it : T) (own : List Nat)
  | lc2 (e c tg it tg2 it2 : T) (own own2 : List Nat)
  | sd2 (e tg it tg2 it2 : T) (own own2 : List Nat)
  | lc3 (e tg it tg2 it2 tg3 it3 : T) (own own2 own3 : List Nat) | lnd (i : Nat) (c : T)
  | nil | cons (a as : T) | one (a : T) | tst (a : T) | prt (a : T)
  | itv (a : T) | rg1 (a : T) | rg2 (a b : T) | rg3 (a b c : T) | enu (a : T)
  | tn (i : Nat) | tt (ts : T)
  | asg (tg e : T) | asgc (i : Nat) (e : T) | par (i j : Nat) (a b : T)
  | ret (e : T) | retm (i : Nat) | retn | exp (e : T)
  | app (i : Nat) (e : T) | seti (i : Nat) (k e : T) | oset (o k e : T)
  | iff (c a b : T) | for_ (tg it body : T) | shr (i : Nat)
  | seq (a b : T) | skip | stk
  | jn (x : Str) (a : T) | ext (i : Nat) (e : T) | xat (j : Nat) (a : T) | xis (y : Nat) (a : T) | rai (c : Nat) (w : Str) (a : T) | tryy (a b : T) | hnd (y i : Nat) (a b : T) | hnb (y : Nat) (a b : T)
  | dnw (i : Nat) (b : Bool) | dst (i : Nat) (e : T) | dtt (i : Nat) (a : T) | opn (i : Nat) | oap (i : Nat) (e : T) | inz (i : Nat) (a : T)
deriving Inhabited

/-! ### operations -/
def binI (o : BO) (i j : Int) : Option Int := match o with
  | .add => some (i + j)
  | .sub => some (i - j)
  | .mul => if (-(2 ^ 64) < i ∧ i < 2 ^ 64) ∨ (-(2 ^ 64) < j ∧ j < 2 ^ 64) then some (i * j) else none
  | .fdiv => if j ≠ 0 ∧ j.natAbs < 1073741824 then some (i.fdiv j) else none
  | .mod => if j ≠ 0 then some (i.fmod j) else none
  | .pow => if 0 ≤ j ∧ j ≤ 1000000 ∧ i.natAbs < 2 ^ 64 then some (i ^ j.toNat) else none
def binD (o : BO) (d e : D) : Option (D × Kd) := match d, e with
  | .int i, .int j => (binI o i j).map fun k => (D.int k, Kd.sh)
  | .lst xs, .lst ys => match o with
    | .add => if xs.length + ys.length ≤ sizeLine then some (.lst (xs ++ ys), .own) else none
    | _ => none
  | .tup xs, .tup ys => match o with
    | .add => if xs.length + ys.length ≤ sizeLine then some (.tup (xs ++ ys), .sh) else none
    | _ => none
  | .str x, .str y => match o with
    | .add => if x.length + y.length ≤ sizeLine then some (.str (x ++ y), .sh) else none
    | _ => none
  | .tup xs, .int k => match o with
    | .mul => if xs ≠ [] ∧ 1 ≤ k ∧ k ≤ 1000 ∧ xs.length ≤ 1000 then some (.tup (List.replicate k.toNat xs).flatten, .sh) else none
    | _ => none
  | _, _ => none
def cmpI (o : CO) (i j : Int) : Option Bool := match o with
  | .lt => some (decide (i < j))
  | .le => some (decide (i ≤ j))
  | .gt => some (decide (j < i))
  | .ge => some (decide (j ≤ i))
  | _ => none
def isNon : D → Bool
  | .non => true
  | _ => false
def cmpN (o : CO) (d e : D) : Option Bool := match d, e with
  | .int i, .int j => cmpI o i j
  | _, _ => none
def cmpD (o : CO) (d e : D) : Option Bool := match o with
  | .eq => eqD d e
  | .ne => (eqD d e).map not
  | .inn => inD d e
  | .nin => (inD d e).map not
  | .iss => if isNon e = true then some (isNon d) else none
  | .nis => if isNon e = true then some (!isNon d) else none
  | .lt => cmpN .lt d e
  | .le => cmpN .le d e
  | .gt => cmpN .gt d e
  | .ge => cmpN .ge d e
def blsD : List D → Option (List Bool)
  | [] => some []
  | .bl b :: ds => (blsD ds).map (b :: ·)
  | _ :: _ => none
def listOf : D → Option (List D)
  | .lst ds => some ds
  | .scr ns => some (ns.map D.int)
  | _ => none
def strsD : List D → Option (List Str)
  | [] => some []
  | .str x :: ds => (strsD ds).map (x :: ·)
  | _ :: _ => none
/-- each number once, where it stood first -/
def ddI (ns : List Int) : List Int := ns.foldl (fun a n => if n ∈ a then a else a ++ [n]) []
/-- the keys of a dict in order -/
def sdD (ys : List D) : Option (D × Kd) := (intsD ys).bind fun ns => if (ddI ns).length < sizeLine then some (.lst (((ddI ns).mergeSort (fun a b => decide (a ≤ b))).map D.int), .own) else none
/-- x.join(d) -/
def joinD (x : Str) (d : D) : Option D := (listOf d).bind fun ds => (strsD ds).bind fun ys => if (ys.map (·.length)).sum + ys.length * x.length ≤ 16777216 then some (.str (PySem.Txt.join x ys)) else none
/-- the items that a list gets more -/
def extD : D → Option (List D)
  | .lst es => some es
  | .tup es => some es
  | _ => none
def minL : List Int → Int
  | [] => 0
  | x :: xs => xs.foldl min x
def maxL : List Int → Int
  | [] => 0
  | x :: xs => xs.foldl max x
/-! pairs of numbers -/
def prD (p : Int × Int) : D := .tup [.int p.1, .int p.2]
def prsD : List D → Option (List (Int × Int))
  | [] => some []
  | .tup [.int i, .int j] :: ds => (prsD ds).map ((i, j) :: ·)
  | _ :: _ => none
def prsK : List (List Int) → Option (List (Int × Int))
  | [] => some []
  | [i, j] :: ks => (prsK ks).map ((i, j) :: ·)
  | _ :: _ => none
def sortP (ps : List (Int × Int)) : List (Int × Int) := ps.mergeSort fun a b => !SrtO.lexB b a
def srtI (ns : List Int) : D × Kd := (.lst ((ns.mergeSort (fun a b => decide (a ≤ b))).map D.int), .own)
def srtP (ps : List (Int × Int)) : D × Kd := (.lst ((sortP ps).map prD), .own)
def srtD : D → Option (D × Kd)
  | .dct false ks => some (srtI (ks.map fun k => k.headD 0))
  | .dct true ks => (prsK ks).map srtP
  | d => (listOf d).bind fun xs => match intsD xs with
    | some ns => some (srtI ns)
    | none => (prsD xs).map srtP
def bltD (f : BF) (ds : List D) (m : MS) : Option (D × Kd) := match f, ds with
  | .len, [d] => (lenD d m).map fun n => (D.int n, Kd.sh)
  | .abs, [.int i] => some (.int (if i < 0 then -i else i), .sh)
  | .min2, [.int i, .int j] => some (.int (if j < i then j else i), .sh)
  | .max2, [.int i, .int j] => some (.int (if j > i then j else i), .sh)
  | .minl, [d] => (listOf d).bind fun xs => (intsD xs).bind fun ns => if 0 < ns.length then some (.int (minL ns), .sh) else none
  | .maxl, [d] => (listOf d).bind fun xs => (intsD xs).bind fun ns => if 0 < ns.length then some (.int (maxL ns), .sh) else none
  | .int, [.int i] => some (.int i, .sh)
  | .any, [d] => (listOf d).bind fun xs => (blsD xs).map fun bs => (D.bl (bs.any id), Kd.sh)
  | .all, [d] => (listOf d).bind fun xs => (blsD xs).map fun bs => (D.bl (bs.all id), Kd.sh)
  | .sum, [d] => (listOf d).bind fun xs => (intsD xs).map fun ns => (D.int ns.sum, Kd.sh)
  | .list, [d] => (itemsL d m).map fun xs => (D.lst xs, Kd.own)
  | .tuple, [d] => (itemsD d m).map fun xs => (D.tup xs, Kd.sh)
  | .repr, [d] => (shD d).map fun x => (D.str x, Kd.sh)
  | .sorted, [d] => srtD d
  | _, _ => none
def isiD (t : TY) (d : D) (m : MS) : Option Bool := match d with
  | .non => some false
  | .bl _ => some (t == .bool || t == .int)
  | .int _ => some (t == .int)
  | .str _ => some (t == .str)
  | .tup _ => some (t == .tuple)
  | .lst _ => some (t == .list)
  | .ref n => match m.objs[n]? with
    | some (.lst _) => some (t == .list)
    | _ => none
  | _ => none

/-! ### exceptions -/
/-- class 0 is the base of all; 1000 stands for ValueError -/
def subX (c y : Nat) : Bool := Nat.beq y 0 || Nat.beq y 1000 || Nat.beq y c
mutual
/-- no exception in it -/
def cln : D → Bool
  | .exv _ _ => false | .tup ds => clns ds | .lst ds => clns ds | .ins _ ds => clns ds
  | _ => true
def clns : List D → Bool
  | [] => true
  | d :: ds => cln d && clns ds
end
/-! ### names -/
abbrev Slot := Option (D × Bool)
abbrev Sto := List Slot
def getS (S : Sto) (i : Nat) : Slot := S.getD i none
/-- owned lists left out -/
def strS : Slot → Slot
  | some (d, false) => some (d, false)
  | _ => none
def wipeS (S : Sto) : List Nat → Sto
  | [] => S
  | v :: vs => (wipeS S vs).set v none
mutual
/-- a target gets a value -/
def tgT : T → D → Kd → Sto → Option Sto
  | .tn i, d, k, S => match k with
    | .sh => some (S.set i (some (d, false)))
    | .own => some (S.set i (some (d, true)))
    | .bor => none
  | .tt ts, d, _, S => match d with
    | .tup ds => tgTs ts ds S
    | _ => none
  | _, _, _, _ => none
def tgTs : T → List D → Sto → Option Sto
  | .nil, ds, S => match ds with
    | [] => some S
    | _ => none
  | .cons t ts, ds, S => match ds with
    | d :: ds => (tgT t d .sh S).bind (tgTs ts ds)
    | _ => none
  | _, _, _ => none
end

/-! ### what a term computes -/
inductive Fl where
  | nx | rt (d : D) (k : Kd) | xc (c : Nat) (fs : List D)
/-- a statement's result: where it went, the names, the store; an exception goes with the names as they stand -/
def bindS {α : Type} (S : Sto) (r : Res α) (f : α → MS → Res (Fl × Sto)) : Res (Fl × Sto) := match r with
  | .ok a m => f a m
  | .exc c fs m => .ok (.xc c fs, S) m
  | .bad => .bad
/-- out of an except clause -/
def exitR (m : MS) (r : Res (Fl × Sto)) : Res (Fl × Sto) := match r with
  | .ok (.rt d k, S) m2 => match k with
    | .bor => .bad
    | k => needR (cln d = true ∧ m2.w = m.w ∧ m2.objs.length = m.objs.length) fun _ => .ok (.rt d k, S) m
  | _ => .bad
/-- behind a test to which a list was lent: nothing was written -/
def lndR (m : MS) (r : Res Bool) : Res Bool := match r with
  | .ok b m2 => needR (m2.w = m.w ∧ m2.objs.length = m.objs.length) fun _ => .ok b m
  | _ => .bad
/-- the next statement -/
def thenS (r : Res (Fl × Sto)) (f : Sto → MS → Res (Fl × Sto)) : Res (Fl × Sto) := match r with
  | .ok (.nx, S) m => f S m
  | r => r
def condS (b : Bool) (f g : Unit → Res (Fl × Sto)) : Res (Fl × Sto) := match b with
  | true => f ()
  | false => g ()
def mapR (f : D → MS → Res (Option D)) : List D → MS → Res (List D)
  | [], m => .ok [] m
  | d :: ds, m => bindR (f d m) fun o m1 => bindR (mapR f ds m1) fun ys m2 => .ok (o.toList ++ ys) m2
def map2R (f : D → MS → Res (List D)) : List D → MS → Res (List D)
  | [], m => .ok [] m
  | d :: ds, m => bindR (f d m) fun o m1 => bindR (map2R f ds m1) fun ys m2 => .ok (o ++ ys) m2
def loopR (f : D → Sto → MS → Res (Fl × Sto)) : List D → Sto → MS → Res (Fl × Sto)
  | [], S, m => .ok (.nx, S) m
  | d :: ds, S, m => thenS (f d S m) fun S1 m1 => loopR f ds S1 m1
/-- a value that may be kept by others -/
def toV (x : D × Kd) (m : MS) : Res D := match x.2 with
  | .bor => .bad
  | _ => .ok x.1 m
def setO (m : MS) (n : Nat) (o : MO) : MS := ⟨m.objs.set n o, m.w + 1⟩
def rangeL (lo hi : Int) : List D := (List.range (hi - lo).toNat).map fun i => D.int (lo + (i : Nat))
def inR (i : Int) : Prop := -(2 ^ 62) ≤ i ∧ i < 2 ^ 62
instance (i : Int) : Decidable (inR i) := by unfold inR; infer_instance
instance (i j c : Int) (n : Nat) : Decidable (L2.RgC i j c n) := by unfold L2.RgC; infer_instance
def enumL (k : Nat) : List D → List D
  | [] => []
  | d :: ds => .tup [.int k, d] :: enumL (k + 1) ds

section
variable (gl : List D) (cf : Nat → List D → MS → Res (D × Kd))
mutual
def evE : T → Sto → MS → Res (D × Kd)
  | .non, _, m => .ok (.non, .sh) m
  | .tru, _, m => .ok (.bl true, .sh) m
  | .fls, _, m => .ok (.bl false, .sh) m
  | .int i, _, m => .ok (.int i, .sh) m
  | .str x, _, m => .ok (.str x, .sh) m
  | .var i, S, m => match getS S i with
    | some (d, false) => .ok (d, .sh) m
    | _ => .bad
  | .bvar i, S, m => match getS S i with
    | some (.lst ds, true) => .ok (.lst ds, .bor) m
    | _ => .bad
  | .glob j, _, m => optR (gl[j]?.map fun d => (d, Kd.sh)) m
  | .gfn i, _, m => .ok (.fn i, .sh) m
  | .bin o a b, S, m => bindR (evE a S m) fun x m1 => bindR (evE b S m1) fun y m2 => optR (binD o x.1 y.1) m2
  | .neg a, S, m => bindR (evE a S m) fun x m1 => match x.1 with
    | .int i => .ok (.int (-i), .sh) m1
    | _ => .bad
  | .cmp o a b, S, m => bindR (evE a S m) fun x m1 => bindR (evE b S m1) fun y m2 => bindR (optR (cmpD o x.1 y.1) m2) fun c m3 => .ok (.bl c, .sh) m3
  | .chn o p a b c, S, m => bindR (evE a S m) fun x m1 => bindR (evE b S m1) fun y m2 => bindR (optR (cmpD o x.1 y.1) m2) fun k m3 =>
      condR k (fun _ => bindR (evE c S m3) fun z m4 => bindR (optR (cmpD p y.1 z.1) m4) fun k2 m5 => .ok (.bl k2, .sh) m5) (fun _ => .ok (.bl false, .sh) m3)
  | .ban as, S, m => evAndV as S m
  | .bor as, S, m => evOrV as S m
  | .not a, S, m => bindR (evE a S m) fun x m1 => match x.1 with
    | .bl b => .ok (.bl (!b), .sh) m1
    | _ => .bad
  | .ite c a b, S, m => bindR (evB c S m) fun k m1 => condR k (fun _ => evE a S m1) (fun _ => evE b S m1)
  | .tup as, S, m => bindR (evA as S m) fun ds m1 => needR (ds.length ≤ sizeLine) fun _ => .ok (.tup ds, .sh) m1
  | .lst as, S, m => bindR (evA as S m) fun ds m1 => needR (ds.length ≤ sizeLine) fun _ => .ok (.lst ds, .own) m1
  | .olst as, S, m => bindR (evA as S m) fun ds m1 => needR (ds.length ≤ sizeLine) fun _ => .ok (.ref m1.objs.length, .sh) ⟨m1.objs ++ [.lst ds], m1.w⟩
  | .idx a i, S, m => bindR (evE a S m) fun x m1 => bindR (evE i S m1) fun y m2 => optR ((idxD x.1 y.1 m2).map fun d => (d, Kd.sh)) m2
  | .slc a lo hi, S, m => bindR (evE a S m) fun x m1 => bindR (evP lo S m1) fun l m2 => bindR (evP hi S m2) fun h m3 => optR (slcD x.1 l h) m3
  | .call f as, S, m => bindR (evA as S m) fun ds m1 => cf f ds m1
  | .callv i as, S, m => match getS S i with
    | some (.fn f, false) => bindR (evA as S m) fun ds m1 => cf f ds m1
    | _ => .bad
  | .blt f as, S, m => bindR (evW as S m) fun ds m1 => optR (bltD f ds m1) m1
  | .isi a t, S, m => bindR (evE a S m) fun x m1 => bindR (optR (isiD t x.1 m1) m1) fun b m2 => .ok (.bl b, .sh) m2
  | .lc e c tg it own, S, m => noX (bindR (evI it S m) fun ds m1 => bindR (mapR (fun d m => bindR (optR (tgT tg d .sh (wipeS S own)) m) fun S1 m1 => bindR (evB c S1 m1) fun b m2 =>
      condR b (fun _ => bindR (evE e S1 m2) fun y m3 => bindR (toV y m3) fun v m4 => .ok (some v) m4) (fun _ => .ok none m2)) ds m1) fun ys m2 => .ok (.lst ys, .own) m2)
  | .lc2 e c tg it tg2 it2 own own2, S, m => noX (bindR (evI it S m) fun ds m1 => bindR (map2R (fun d m => bindR (optR (tgT tg d .sh (wipeS S own)) m) fun S1 m1 => bindR (evI it2 S1 m1) fun es m2 =>
      mapR (fun d m => bindR (optR (tgT tg2 d .sh (wipeS S1 own2)) m) fun S2 m1 => bindR (evB c S2 m1) fun b m2 =>
      condR b (fun _ => bindR (evE e S2 m2) fun y m3 => bindR (toV y m3) fun v m4 => .ok (some v) m4) (fun _ => .ok none m2)) es m2) ds m1) fun ys m2 => needR (ys.length ≤ sizeLine) fun _ => .ok (.lst ys, .own) m2)
  | .sd2 e tg it tg2 it2 own own2, S, m => noX (bindR (evI it S m) fun ds m1 => bindR (map2R (fun d m => bindR (optR (tgT tg d .sh (wipeS S own)) m) fun S1 m1 => bindR (evI it2 S1 m1) fun es m2 =>
      mapR (fun d m => bindR (optR (tgT tg2 d .sh (wipeS S1 own2)) m) fun S2 m1 => bindR (evE e S2 m1) fun y m3 => bindR (toV y m3) fun v m4 => .ok (some v) m4) es m2) ds m1) fun ys m2 => optR (sdD ys) m2)
  | .lc3 e tg it tg2 it2 tg3 it3 own own2 own3, S, m => noX (bindR (evI it S m) fun ds m1 => bindR (map2R (fun d m => bindR (optR (tgT tg d .sh (wipeS S own)) m) fun S1 m1 => bindR (evI it2 S1 m1) fun es m2 =>
      map2R (fun d m => bindR (optR (tgT tg2 d .sh (wipeS S1 own2)) m) fun S2 m1 => bindR (evI it3 S2 m1) fun fs m2 =>
      mapR (fun d m => bindR (optR (tgT tg3 d .sh (wipeS S2 own3)) m) fun S3 m1 => bindR (evE e S3 m1) fun y m3 => bindR (toV y m3) fun v m4 => .ok (some v) m4) fs m2) es m2) ds m1) fun ys m2 => needR (ys.length ≤ sizeLine) fun _ => .ok (.lst ys, .own) m2)
  | .jn s a, S, m => bindR (evE a S m) fun x m1 => optR ((joinD s x.1).map fun d => (d, Kd.sh)) m1
  | .xat j a, S, m => bindR (evE a S m) fun x m1 => match x.1 with
    | .exv _ fs => optR (fs[j]?.map fun d => (d, Kd.sh)) m1
    | _ => .bad
  | .xis y a, S, m => bindR (evE a S m) fun x m1 => match x.1 with
    | .exv c _ => .ok (.bl (subX c y), .sh) m1
    | _ => .bad
  | _, _, _ => .bad
/-- a bound of a slice -/
def evP : T → Sto → MS → Res (Option Int)
  | .non, _, m => .ok none m
  | .prt a, S, m => bindR (evE a S m) fun x m1 => match x.1 with
    | .int i => .ok (some i) m1
    | _ => .bad
  | _, _, _ => .bad
/-- arguments, items: values that may be kept -/
def evA : T → Sto → MS → Res (List D)
  | .nil, _, m => .ok [] m
  | .cons a as, S, m => bindR (evE a S m) fun x m1 => bindR (toV x m1) fun v m2 => bindR (evA as S m2) fun vs m3 => .ok (v :: vs) m3
  | _, _, _ => .bad
/-- arguments that are only looked at -/
def evW : T → Sto → MS → Res (List D)
  | .nil, _, m => .ok [] m
  | .cons a as, S, m => bindR (evE a S m) fun x m1 => bindR (evW as S m1) fun vs m3 => .ok (x.1 :: vs) m3
  | _, _, _ => .bad
def evAndV : T → Sto → MS → Res (D × Kd)
  | .one a, S, m => evE a S m
  | .cons a as, S, m => bindR (evE a S m) fun x m1 => match x.1 with
    | .bl b => condR b (fun _ => evAndV as S m1) (fun _ => .ok (.bl false, .sh) m1)
    | _ => .bad
  | _, _, _ => .bad
def evOrV : T → Sto → MS → Res (D × Kd)
  | .one a, S, m => evE a S m
  | .cons a as, S, m => bindR (evE a S m) fun x m1 => match x.1 with
    | .bl b => condR b (fun _ => .ok (.bl true, .sh) m1) (fun _ => evOrV as S m1)
    | _ => .bad
  | _, _, _ => .bad
/-- tests -/
def evB : T → Sto → MS → Res Bool
  | .ban as, S, m => evAndB as S m
  | .bor as, S, m => evOrB as S m
  | .not a, S, m => bindR (evB a S m) fun b m1 => .ok (!b) m1
  | .cmp o a b, S, m => bindR (evE a S m) fun x m1 => bindR (evE b S m1) fun y m2 => optR (cmpD o x.1 y.1) m2
  | .chn o p a b c, S, m => bindR (evE a S m) fun x m1 => bindR (evE b S m1) fun y m2 => bindR (optR (cmpD o x.1 y.1) m2) fun k m3 =>
      condR k (fun _ => bindR (evE c S m3) fun z m4 => optR (cmpD p y.1 z.1) m4) (fun _ => .ok false m3)
  | .tst a, S, m => bindR (evE a S m) fun x m1 => optR (truD x.1 m1) m1
  | .lnd i c, S, m => match getS S i with
    | some (.lst ds, true) => lndR m (evB c ((S.map strS).set i (some (.lst ds, false))) m)
    | _ => .bad
  | .tru, _, m => .ok true m
  | _, _, _ => .bad
def evAndB : T → Sto → MS → Res Bool
  | .one a, S, m => evB a S m
  | .cons a as, S, m => bindR (evB a S m) fun b m1 => condR b (fun _ => evAndB as S m1) (fun _ => .ok false m1)
  | _, _, _ => .bad
def evOrB : T → Sto → MS → Res Bool
  | .one a, S, m => evB a S m
  | .cons a as, S, m => bindR (evB a S m) fun b m1 => condR b (fun _ => .ok true m1) (fun _ => evOrB as S m1)
  | _, _, _ => .bad
/-- what a loop walks: the items, all of them known ahead -/
def evI : T → Sto → MS → Res (List D)
  | .itv a, S, m => bindR (evE a S m) fun x m1 => bindR (toV x m1) fun v m2 => match v with
    | .tup ds => .ok ds m2
    | .lst ds => .ok ds m2
    | .scr ns => .ok (ns.map D.int) m2
    | .dct b ks => .ok (ks.map (keyD b)) m2
    | .str x => needR (x.cps.size ≤ sizeLine) fun _ => .ok (x.cps.toList.map fun c => D.str ⟨#[c]⟩) m2
    | _ => .bad
  | .rg1 a, S, m => bindR (evE a S m) fun x m1 => match x.1 with
    | .int j => needR (inR j ∧ j.toNat ≤ sizeLine) fun _ => .ok (rangeL 0 j) m1
    | _ => .bad
  | .rg2 a b, S, m => bindR (evE a S m) fun x m1 => bindR (evE b S m1) fun y m2 => match x.1, y.1 with
    | .int i, .int j => needR (inR i ∧ inR j ∧ (j - i).toNat ≤ sizeLine) fun _ => .ok (rangeL i j) m2
    | _, _ => .bad
  | .rg3 a b c, S, m => bindR (evE a S m) fun x m1 => bindR (evE b S m1) fun y m2 => bindR (evE c S m2) fun z m3 => match x.1, y.1, z.1 with
    | .int i, .int j, .int c => needR (L2.RgC i j c (Builtin.Range.rangeSize i j c).toNat ∧ (Builtin.Range.rangeSize i j c).toNat ≤ sizeLine) fun _ => .ok ((List.range (Builtin.Range.rangeSize i j c).toNat).map fun k => D.int (i + (k : Nat) * c)) m3
    | _, _, _ => .bad
  | .enu a, S, m => bindR (evE a S m) fun x m1 => bindR (toV x m1) fun v m2 => match v with
    | .lst ds => .ok (enumL 0 ds) m2
    | .tup ds => .ok (enumL 0 ds) m2
    | _ => .bad
  | _, _, _ => .bad
def evS : T → Sto → MS → Res (Fl × Sto)
  | .skip, S, m => .ok (.nx, S) m
  | .seq a b, S, m => thenS (evS a S m) fun S1 m1 => evS b S1 m1
  | .asg tg e, S, m => bindS S (evE e S m) fun x m1 => bindS S (optR (tgT tg x.1 x.2 S) m1) fun S1 m2 => .ok (.nx, S1) m2
  | .asgc i e, S, m => bindS S (evE e S m) fun x m1 => bindS S (optR (tgT (.tn i) x.1 x.2 S) m1) fun S1 m2 => .ok (.nx, S1) m2
  | .par i j a b, S, m => bindS S (evA (.cons a (.cons b .nil)) S m) fun ds m1 => match ds with
    | [x, y] => .ok (.nx, (S.set i (some (x, false))).set j (some (y, false))) m1
    | _ => .bad
  | .ret e, S, m => bindS S (evE e S m) fun x m1 => match x.2 with
    | .bor => .bad
    | k => .ok (.rt x.1 k, S) m1
  | .retm i, S, m => match getS S i with
    | some (.lst ds, true) => .ok (.rt (.lst ds) .own, S) m
    | _ => .bad
  | .retn, S, m => .ok (.rt .non .sh, S) m
  | .exp e, S, m => bindS S (evE e S m) fun _ m1 => .ok (.nx, S) m1
  | .app i e, S, m => match getS S i with
    | some (.lst ds, true) => bindS S (evE e S m) fun x m1 => bindS S (toV x m1) fun v m2 => needR (ds.length < sizeLine) fun _ => .ok (.nx, S.set i (some (.lst (ds ++ [v]), true))) m2
    | _ => .bad
  | .ext i e, S, m => match getS S i with
    | some (.lst ds, true) => bindS S (evE e S m) fun x m1 => bindS S (optR (extD x.1) m1) fun es m2 => needR (ds.length + es.length ≤ sizeLine) fun _ => .ok (.nx, S.set i (some (.lst (ds ++ es), true))) m2
    | _ => .bad
  | .seti i k e, S, m => bindS S (evE e S m) fun x m1 => bindS S (toV x m1) fun v m2 => match getS S i with
    | some (.lst ds, true) => bindS S (evE k S m2) fun y m3 => match y.1 with
      | .int j => match L2.ixN ds.length j with
        | some p => .ok (.nx, S.set i (some (.lst (ds.set p v), true))) m3
        | none => .bad
      | _ => .bad
    | _ => .bad
  | .oset o k e, S, m => bindS S (evE e S m) fun x m1 => bindS S (toV x m1) fun v m2 => bindS S (evE o S m2) fun r m3 => bindS S (evE k S m3) fun y m4 => match r.1, y.1 with
    | .ref n, .int j => match m4.objs[n]? with
      | some (.lst ds) => match L2.ixN ds.length j with
        | some p => .ok (.nx, S) (setO m4 n (.lst (ds.set p v)))
        | none => .bad
      | _ => .bad
    | _, _ => .bad
  | .iff c a b, S, m => bindS S (evB c S m) fun k m1 => condS k (fun _ => evS a S m1) (fun _ => evS b S m1)
  | .for_ tg it body, S, m => bindS S (evI it S m) fun ds m1 => loopR (fun d S m => bindS S (optR (tgT tg d .sh S) m) fun S1 m1 => evS body S1 m1) ds S m1
  | .shr i, S, m => match getS S i with
    | some (d, _) => .ok (.nx, S.set i (some (d, false))) m
    | none => .bad
  | .dnw i b, S, m => .ok (.nx, S.set i (some (.dct b [], true))) m
  | .dst i e, S, m => match getS S i with
    | some (.dct false ks, true) => bindS S (evE e S m) fun x m1 => bindS S (optR (keyL false x.1) m1) fun k m2 => needR (ks.length < sizeLine) fun _ => .ok (.nx, S.set i (some (.dct false (addK false ks k), true))) m2
    | _ => .bad
  | .dtt i a, S, m => match getS S i with
    | some (.dct true ks, true) => bindS S (evA a S m) fun ds m1 => bindS S (optR (intsD ds) m1) fun k m2 => needR (ks.length < sizeLine ∧ ds.length ≤ sizeLine) fun _ => .ok (.nx, S.set i (some (.dct true (addK true ks k), true))) m2
    | _ => .bad
  | .opn i, S, m => match getS S i with
    | some (.lst ds, true) => .ok (.nx, S.set i (some (.ref m.objs.length, false))) ⟨m.objs ++ [.lst ds], m.w⟩
    | _ => .bad
  | .oap i e, S, m => match getS S i with
    | some (.ref n, false) => bindS S (evE e S m) fun x m1 => bindS S (toV x m1) fun v m2 => match m2.objs[n]? with
      | some (.lst ds) => needR (ds.length < sizeLine) fun _ => .ok (.nx, S) (setO m2 n (.lst (ds ++ [v])))
      | _ => .bad
    | _ => .bad
  | .inz i a, S, m => match getS S i with
    | some (.lst ds, true) => bindS S (evA a S m) fun vs m1 => match vs with
      | [.int j, v] => needR (ds.length < sizeLine ∧ 0 ≤ j ∧ j < 2 ^ 63) fun _ => .ok (.nx, S.set i (some (.lst (ds.take j.toNat ++ [v] ++ ds.drop j.toNat), true))) m1
      | _ => .bad
    | _ => .bad
  | .rai c w a, S, m => bindS S (evE a S m) fun x m1 => bindS S (toV x m1) fun v m2 => .ok (.xc c [v, .str w], S) m2
  | .tryy a b, S, m => match evS a S m with
    | .ok (.xc c fs, S1) m1 => evH b c fs S1 m1
    | r => r
  | _, _, _ => .bad
/-- except clauses -/
def evH : T → Nat → List D → Sto → MS → Res (Fl × Sto)
  | .hnd y i a b, c, fs, S, m => condS (subX c y) (fun _ => exitR m (evS a ((S.map strS).set i (some (.exv c fs, false))) m)) (fun _ => evH b c fs S m)
  | .hnb y a b, c, fs, S, m => condS (subX c y) (fun _ => exitR m (evS a (S.map strS) m)) (fun _ => evH b c fs S m)
  | .nil, c, fs, S, m => .ok (.xc c fs, S) m
  | _, _, _, _, _ => .bad
end
end

/-- one def: the number of its parameters, of its names, its body -/
structure Fn where
  ar : Nat
  sz : Nat
  body : T
def callF (gl : List D) (tab : List Fn) : Nat → Nat → List D → MS → Res (D × Kd)
  | 0, _, _, _ => .bad
  | n + 1, f, ds, m => match tab[f]? with
    | some F => needR (ds.length = F.ar) fun _ => bindR (noX (evS gl (callF gl tab n) F.body (ds.map (fun d => some (d, false)) ++ List.replicate (F.sz - F.ar) none) m)) fun r m1 => match r.1 with
      | .nx => .ok (.non, .sh) m1
      | .rt d k => .ok (d, k) m1
      | .xc c fs => .exc c fs m1
    | none => .bad
end OD

set_option Elab.async false
set_option autoImplicit false
set_option linter.all false
set_option maxRecDepth 100000
set_option maxHeartbeats 4000000
/-! My own layer, part 2: how values lie in the heap. -/
namespace OD
open PySem PySem.Spec PyProof.Rows L2

/-- the written part; where defs and classes stand; a class's attributes in order -/
structure Wd where
  K : PySem.W.Frag
  fnA : Nat → Option Addr
  clA : Nat → Option Addr
  clF : Nat → List Str
  xv : Option (Addr × Nat × Addr)
/-- the frozen addresses; where the mutable things stand -/
structure Gh where
  fz : Addr → Prop
  ρ : List Addr
def Kal (K : PySem.W.Frag) (a : Addr) (xs : List V) : Prop := ∃ (o : Obj) (its : Array Value) (n : Nat), K.lookup a = some o ∧ o.cls = .type "list" ∧ o.dict = none ∧ o.data = .seq its n ∧ its.size ≤ sizeLine ∧ Vals xs its.toList
/-- the script -/
def SqS (K : PySem.W.Frag) (H : Hp) (a : Addr) (xs : List V) : Prop := (∃ o, H a = some (.frz o (.lst xs))) ∨ Kal K a xs
theorem SqS.sq {K : PySem.W.Frag} {H : Hp} {a : Addr} {xs : List V} (h : SqS K H a xs) : SqL K H a xs := by
  rcases h with ⟨o, h⟩ | h
  · exact .inl (.inr ⟨o, h⟩)
  · exact .inr h

/-- a dict of keys that all hold True -/
def kvI (ks : List (List Int)) : List (Key × V) := ks.map fun k => (.inl (k.headD 0), .bl true)
def kvT (ks : List (List Int)) : List (List Key × V) := ks.map fun k => (k.map Sum.inl, .bl true)
def dkO (b : Bool) (ks : List (List Int)) : HO := match b with
  | true => .dT (kvT ks)
  | false => .dK (kvI ks)
mutual
inductive RelD (W : Wd) (g : Gh) (H : Hp) : D → V → Prop
  | non : RelD W g H .non .non
  | bl (b : Bool) : RelD W g H (.bl b) (.bl b)
  | int (i : Int) : RelD W g H (.int i) (.int i)
  | str (x : Str) : RelD W g H (.str x) (.str x)
  | tup {a : Addr} {vs : List V} {ds : List D} : SqT W.K H a vs → RelDs W g H ds vs → RelD W g H (.tup ds) (.ref a)
  | lst {a : Addr} {vs : List V} {ds : List D} : H a = some (.lst vs) → g.fz a → RelDs W g H ds vs → RelD W g H (.lst ds) (.ref a)
  | scr {a : Addr} {ns : List Int} : SqS W.K H a (ns.map V.int) → RelD W g H (.scr ns) (.ref a)
  | ref {n : Nat} {a : Addr} : g.ρ[n]? = some a → RelD W g H (.ref n) (.ref a)
  | fn {i : Nat} {a : Addr} : W.fnA i = some a → RelD W g H (.fn i) (.ref a)
  | cls {i : Nat} {a : Addr} : W.clA i = some a → RelD W g H (.cls i) (.ref a)
  | ins {c : Nat} {a C dx : Addr} {fs : List (Str × V)} {ds : List D} : H a = some (.ins C dx fs) → W.clA c = some C → g.fz a → fs.map (·.1) = W.clF c → RelDs W g H ds (fs.map (·.2)) → RelD W g H (.ins c ds) (.ref a)
  | exv {c : Nat} {a d : Addr} {fv : List (Str × V)} {fs : List D} : W.xv = some (a, c, d) → H d = some (.xd fv) → fv.map (·.1) = W.clF c → RelDs W g H fs (fv.map (·.2)) → RelD W g H (.exv c fs) (.ref a)
  | dct {a : Addr} {o : Obj} {b : Bool} {ks : List (List Int)} : H a = some (.frz o (dkO b ks)) → RelD W g H (.dct b ks) (.ref a)
inductive RelDs (W : Wd) (g : Gh) (H : Hp) : List D → List V → Prop
  | nil : RelDs W g H [] []
  | cons {d : D} {v : V} {ds : List D} {vs : List V} : RelD W g H d v → RelDs W g H ds vs → RelDs W g H (d :: ds) (v :: vs)
end

/-- a mutable thing's object -/
def ObR (W : Wd) (g : Gh) (H : Hp) : MO → Option HO → Prop
  | .lst ds, o => ∃ vs, o = some (.lst vs) ∧ RelDs W g H ds vs
structure GOk (W : Wd) (g : Gh) (H : Hp) (m : MS) : Prop where
  len : g.ρ.length = m.objs.length
  nd : g.ρ.Nodup
  obj : ∀ (i : Nat) (o : MO) (a : Addr), m.objs[i]? = some o → g.ρ[i]? = some a → ObR W g H o (H a)
  fzd : ∀ a, g.fz a → a ∉ g.ρ ∧ ((∃ vs, H a = some (.lst vs)) ∨ ∃ C dx fs, H a = some (.ins C dx fs))
/-- what is told apart: lists that names own -/
def PDom (P : Addr → Prop) (g : Gh) (H : Hp) : Prop := ∀ a, P a → H a ≠ none ∧ ¬ g.fz a ∧ a ∉ g.ρ
/-- what a computation may change -/
structure Ext (P : Addr → Prop) (g g' : Gh) (H H' : Hp) (w w' : Nat) : Prop where
  keep : ∀ a o, H a = some o → a ∉ g.ρ → H' a = some o
  live : ∀ a, H a ≠ none → H' a ≠ none
  fz : ∀ a, g.fz a → g'.fz a
  prot : ∀ a, P a → g'.fz a → g.fz a
  rho : ∃ l, g'.ρ = g.ρ ++ l ∧ ∀ a ∈ l, H a = none
  mono : w ≤ w'
  wr : w' = w → ∀ a ∈ g.ρ, H' a = H a
section
variable {W : Wd} {P : Addr → Prop} {g g' g'' : Gh} {H H' H'' : Hp} {w w' w'' : Nat} {m m' : MS}
theorem Ext.refl : Ext P g g H H w w := ⟨fun _ _ h _ => h, fun _ h => h, fun _ h => h, fun _ _ h => h, ⟨[], by simp, by simp⟩, Nat.le_refl _, fun _ _ _ => rfl⟩
theorem Ext.trans (x : Ext P g g' H H' w w') (y : Ext P g' g'' H' H'' w' w'') : Ext P g g'' H H'' w w'' := by
  obtain ⟨l, e1, f1⟩ := x.rho
  obtain ⟨l2, e2, f2⟩ := y.rho
  refine ⟨fun a o h n => y.keep a o (x.keep a o h n) ?_, fun a h => y.live a (x.live a h), fun a h => y.fz a (x.fz a h), fun a p h => x.prot a p (y.prot a p h), ⟨l ++ l2, by rw [e2, e1, List.append_assoc], fun a ha => ?_⟩, Nat.le_trans x.mono y.mono, fun e a ha => ?_⟩
  · rw [e1, List.mem_append]
    rintro (h1 | h1)
    · exact n h1
    · rw [f1 a h1] at h; cases h
  · rcases List.mem_append.mp ha with h1 | h1
    · exact f1 a h1
    · cases q : H a with
      | none => rfl
      | some o => exact absurd (f2 a h1) (x.live a (by rw [q]; simp))
  · have h1 := x.mono
    have h2 := y.mono
    have e1' : w' = w := by omega
    have e2' : w'' = w' := by omega
    rw [y.wr e2' a (by rw [e1]; exact List.mem_append_left _ ha), x.wr e1' a ha]
theorem Ext.dom (x : Ext P g g' H H' w w') (d : PDom P g H) : PDom P g' H' := fun a p => by
  obtain ⟨h1, h2, h3⟩ := d a p
  obtain ⟨l, e, f⟩ := x.rho
  refine ⟨x.live a h1, fun z => h2 (x.prot a p z), ?_⟩
  rw [e, List.mem_append]
  rintro (z | z)
  · exact h3 z
  · exact h1 (f a z)
/-- less is told apart -/
theorem Ext.less {P' : Addr → Prop} (x : Ext P g g' H H' w w') (h : ∀ a, P' a → P a) : Ext P' g g' H H' w w' := ⟨x.keep, x.live, x.fz, fun a p => x.prot a (h a p), x.rho, x.mono, x.wr⟩

theorem GOk.mut (k : GOk W g H m) {a : Addr} (h : a ∈ g.ρ) : ∃ xs, H a = some (.lst xs) := by
  obtain ⟨i, hi, e⟩ := List.getElem_of_mem h
  have hi' : i < m.objs.length := by rw [← k.len]; exact hi
  have q := k.obj i m.objs[i] a (List.getElem?_eq_getElem hi') (by rw [List.getElem?_eq_getElem hi, e])
  cases q2 : m.objs[i] with
  | lst ds =>
    rw [q2] at q
    obtain ⟨vs, h1, _⟩ := q
    exact ⟨vs, h1⟩
theorem GOk.not (k : GOk W g H m) {a : Addr} {o : HO} (h : H a = some o) (n : ∀ xs, o ≠ .lst xs) : a ∉ g.ρ := fun z => by
  obtain ⟨xs, e⟩ := k.mut z
  rw [h] at e
  exact n xs (Option.some.inj e)
theorem Ext.sqT (x : Ext P g g' H H' w w') (k : GOk W g H m) {K : PySem.W.Frag} {a : Addr} {xs : List V} (h : SqT K H a xs) : SqT K H' a xs := by
  rcases h with (h | ⟨o, h⟩) | h
  · exact .inl (.inl (x.keep a _ h (k.not h (by intro _ z; cases z))))
  · exact .inl (.inr ⟨o, x.keep a _ h (k.not h (by intro _ z; cases z))⟩)
  · exact .inr h
theorem Ext.sqS (x : Ext P g g' H H' w w') (k : GOk W g H m) {K : PySem.W.Frag} {a : Addr} {xs : List V} (h : SqS K H a xs) : SqS K H' a xs := by
  rcases h with ⟨o, h⟩ | h
  · exact .inl ⟨o, x.keep a _ h (k.not h (by intro _ z; cases z))⟩
  · exact .inr h
mutual
theorem RelD.ext (x : Ext P g g' H H' w w') (k : GOk W g H m) : ∀ {d : D} {v : V}, RelD W g H d v → RelD W g' H' d v
  | _, _, .non => .non
  | _, _, .bl b => .bl b
  | _, _, .int i => .int i
  | _, _, .str s => .str s
  | _, _, .tup h r => .tup (x.sqT k h) (RelDs.ext x k r)
  | _, _, .lst h f r => .lst (x.keep _ _ h (k.fzd _ f).1) (x.fz _ f) (RelDs.ext x k r)
  | _, _, .scr h => .scr (x.sqS k h)
  | _, _, .ref h => by
    obtain ⟨l, e, _⟩ := x.rho
    refine .ref ?_
    rw [e]
    obtain ⟨hi, _⟩ := List.getElem?_eq_some_iff.mp h
    rw [List.getElem?_append_left hi]
    exact h
  | _, _, .fn h => .fn h
  | _, _, .cls h => .cls h
  | _, _, .ins h c f e r => .ins (x.keep _ _ h (k.fzd _ f).1) c (x.fz _ f) e (RelDs.ext x k r)
  | _, _, .exv e h c r => .exv e (x.keep _ _ h (k.not h (by intro _ z; cases z))) c (RelDs.ext x k r)
  | _, _, .dct h => .dct (x.keep _ _ h (k.not h (by intro _ z; cases z)))
theorem RelDs.ext (x : Ext P g g' H H' w w') (k : GOk W g H m) : ∀ {ds : List D} {vs : List V}, RelDs W g H ds vs → RelDs W g' H' ds vs
  | _, _, .nil => .nil
  | _, _, .cons r t => .cons (RelD.ext x k r) (RelDs.ext x k t)
end
end
section
variable {W : Wd} {g : Gh} {H : Hp}
theorem RelDs.length : ∀ {ds : List D} {vs : List V}, RelDs W g H ds vs → ds.length = vs.length
  | _, _, .nil => rfl
  | _, _, .cons _ t => by rw [List.length_cons, List.length_cons, t.length]
theorem RelDs.get : ∀ {ds : List D} {vs : List V} {i : Nat} {d : D}, RelDs W g H ds vs → ds[i]? = some d → ∃ v, vs[i]? = some v ∧ RelD W g H d v
  | _, _, _, _, .nil, e => by simp at e
  | _, _, 0, _, .cons r _, e => by
    simp at e; subst e; exact ⟨_, rfl, r⟩
  | _, _, i + 1, d, .cons _ t, e => by
    obtain ⟨v, h1, h2⟩ := RelDs.get (i := i) (d := d) t (by simpa using e)
    exact ⟨v, by simpa using h1, h2⟩
theorem RelDs.getV : ∀ {ds : List D} {vs : List V} {i : Nat} {v : V}, RelDs W g H ds vs → vs[i]? = some v → ∃ d, ds[i]? = some d ∧ RelD W g H d v
  | _, _, _, _, .nil, e => by simp at e
  | _, _, 0, _, .cons r _, e => by
    simp at e; subst e; exact ⟨_, rfl, r⟩
  | _, _, i + 1, v, .cons _ t, e => by
    obtain ⟨d, h1, h2⟩ := RelDs.getV (i := i) (v := v) t (by simpa using e)
    exact ⟨d, by simpa using h1, h2⟩
theorem RelDs.append : ∀ {ds es : List D} {vs us : List V}, RelDs W g H ds vs → RelDs W g H es us → RelDs W g H (ds ++ es) (vs ++ us)
  | _, _, _, _, .nil, s => s
  | _, _, _, _, .cons r t, s => .cons r (t.append s)
theorem RelDs.set {d : D} {v : V} (r : RelD W g H d v) : ∀ {ds : List D} {vs : List V} (i : Nat), RelDs W g H ds vs → RelDs W g H (ds.set i d) (vs.set i v)
  | _, _, _, .nil => .nil
  | _, _, 0, .cons _ t => .cons r t
  | _, _, i + 1, .cons q t => .cons q (RelDs.set r i t)
theorem RelDs.take : ∀ {ds : List D} {vs : List V} (n : Nat), RelDs W g H ds vs → RelDs W g H (ds.take n) (vs.take n)
  | _, _, 0, _ => .nil
  | _, _, _ + 1, .nil => .nil
  | _, _, n + 1, .cons r t => .cons r (t.take n)
theorem RelDs.drop : ∀ {ds : List D} {vs : List V} (n : Nat), RelDs W g H ds vs → RelDs W g H (ds.drop n) (vs.drop n)
  | _, _, 0, r => r
  | _, _, _ + 1, .nil => .nil
  | _, _, n + 1, .cons _ t => t.drop n
theorem RelDs.rep {d : D} {v : V} (r : RelD W g H d v) : ∀ n : Nat, RelDs W g H (List.replicate n d) (List.replicate n v)
  | 0 => .nil
  | n + 1 => .cons r (RelDs.rep r n)
theorem RelDs.flat {ds : List D} {vs : List V} (r : RelDs W g H ds vs) : ∀ n : Nat, RelDs W g H (List.replicate n ds).flatten (List.replicate n vs).flatten
  | 0 => .nil
  | n + 1 => by
    rw [List.replicate_succ, List.replicate_succ, List.flatten_cons, List.flatten_cons]
    exact r.append (r.flat n)
theorem RelDs.ints : ∀ ns : List Int, RelDs W g H (ns.map D.int) (ns.map V.int)
  | [] => .nil
  | n :: ns => .cons (.int n) (RelDs.ints ns)
theorem RelDs.cut {ds : List D} {vs : List V} (r : RelDs W g H ds vs) (lo hi : Option Int) : RelDs W g H (cutD ds lo hi) (cutV vs lo hi) := by
  unfold cutD cutV
  rw [r.length]
  exact (r.drop _).take _
theorem RelDs.atI {ds : List D} {vs : List V} {i : Int} {d : D} (r : RelDs W g H ds vs) (e : L2.atI ds i = some d) : ∃ v, L2.atI vs i = some v ∧ RelD W g H d v := by
  unfold L2.atI at e ⊢
  rw [← r.length]
  cases q : ixN ds.length i with
  | none => rw [q] at e; cases e
  | some j =>
    rw [q] at e
    exact r.get (show ds[j]? = some d from e)
/-- data -/
theorem RelDs.of_ints : ∀ {ds : List D} {vs : List V} {ns : List Int}, RelDs W g H ds vs → intsD ds = some ns → vs = ns.map V.int
  | [], _, ns, .nil, e => by
    cases e; rfl
  | .int i :: ds, _, ns, .cons r t, e => by
    cases r
    cases q : intsD ds with
    | none => rw [intsD, q] at e; cases e
    | some ms =>
      rw [intsD, q] at e
      cases e
      rw [RelDs.of_ints t q]; rfl
  | .non :: _, _, _, _, e => by cases e
  | .bl _ :: _, _, _, _, e => by cases e
  | .str _ :: _, _, _, _, e => by cases e
  | .tup _ :: _, _, _, _, e => by cases e
  | .lst _ :: _, _, _, _, e => by cases e
  | .scr _ :: _, _, _, _, e => by cases e
  | .ref _ :: _, _, _, _, e => by cases e
  | .fn _ :: _, _, _, _, e => by cases e
  | .cls _ :: _, _, _, _, e => by cases e
  | .ins _ _ :: _, _, _, _, e => by cases e
  | .exv _ _ :: _, _, _, _, e => by cases e
  | .dct _ _ :: _, _, _, _, e => by cases e
theorem RelDs.of_bls : ∀ {ds : List D} {vs : List V} {ns : List Bool}, RelDs W g H ds vs → blsD ds = some ns → vs = ns.map V.bl
  | [], _, ns, .nil, e => by
    cases e; rfl
  | .bl i :: ds, _, ns, .cons r t, e => by
    cases r
    cases q : blsD ds with
    | none => rw [blsD, q] at e; cases e
    | some ms =>
      rw [blsD, q] at e
      cases e
      rw [RelDs.of_bls t q]; rfl
  | .non :: _, _, _, _, e => by cases e
  | .int _ :: _, _, _, _, e => by cases e
  | .str _ :: _, _, _, _, e => by cases e
  | .tup _ :: _, _, _, _, e => by cases e
  | .lst _ :: _, _, _, _, e => by cases e
  | .scr _ :: _, _, _, _, e => by cases e
  | .ref _ :: _, _, _, _, e => by cases e
  | .fn _ :: _, _, _, _, e => by cases e
  | .cls _ :: _, _, _, _, e => by cases e
  | .ins _ _ :: _, _, _, _, e => by cases e
  | .exv _ _ :: _, _, _, _, e => by cases e
  | .dct _ _ :: _, _, _, _, e => by cases e
end

/-! ### what frozen values lean on -/
structure FX (g g' : Gh) (H H' : Hp) : Prop where
  fzk : ∀ a, g.fz a → g'.fz a ∧ H' a = H a
  tup : ∀ a xs, H a = some (.tup xs) → H' a = some (.tup xs)
  frz : ∀ a o u, H a = some (.frz o u) → H' a = some (.frz o u)
  xd : ∀ a fv, H a = some (.xd fv) → H' a = some (.xd fv)
  rho : ∃ l, g'.ρ = g.ρ ++ l
section
variable {W : Wd} {P : Addr → Prop} {g g' g'' : Gh} {H H' H'' : Hp} {w w' : Nat} {m : MS}
theorem FX.refl : FX g g H H := ⟨fun _ h => ⟨h, rfl⟩, fun _ _ h => h, fun _ _ _ h => h, fun _ _ h => h, [], by simp⟩
theorem FX.trans (x : FX g g' H H') (y : FX g' g'' H' H'') : FX g g'' H H'' := by
  obtain ⟨l, e1⟩ := x.rho
  obtain ⟨l2, e2⟩ := y.rho
  refine ⟨fun a h => ?_, fun a xs h => y.tup a xs (x.tup a xs h), fun a o u h => y.frz a o u (x.frz a o u h), fun a fv h => y.xd a fv (x.xd a fv h), l ++ l2, by rw [e2, e1, List.append_assoc]⟩
  obtain ⟨h1, h2⟩ := x.fzk a h
  obtain ⟨h3, h4⟩ := y.fzk a h1
  exact ⟨h3, h4.trans h2⟩
theorem Ext.fx (x : Ext P g g' H H' w w') (k : GOk W g H m) : FX g g' H H' := by
  obtain ⟨l, e, _⟩ := x.rho
  refine ⟨fun a h => ⟨x.fz a h, ?_⟩, fun a xs h => x.keep a _ h (k.not h (by intro _ z; cases z)), fun a o u h => x.keep a _ h (k.not h (by intro _ z; cases z)), fun a fv h => x.keep a _ h (k.not h (by intro _ z; cases z)), l, e⟩
  obtain ⟨h1, h2⟩ := k.fzd a h
  rcases h2 with ⟨vs, e⟩ | ⟨C, dx, fs, e⟩
  · rw [e]; exact x.keep a _ e h1
  · rw [e]; exact x.keep a _ e h1
theorem FX.sqT (x : FX g g' H H') {K : PySem.W.Frag} {a : Addr} {xs : List V} (h : SqT K H a xs) : SqT K H' a xs := by
  rcases h with (h | ⟨o, h⟩) | h
  · exact .inl (.inl (x.tup a _ h))
  · exact .inl (.inr ⟨o, x.frz a o _ h⟩)
  · exact .inr h
theorem FX.sqS (x : FX g g' H H') {K : PySem.W.Frag} {a : Addr} {xs : List V} (h : SqS K H a xs) : SqS K H' a xs := by
  rcases h with ⟨o, h⟩ | h
  · exact .inl ⟨o, x.frz a o _ h⟩
  · exact .inr h
mutual
theorem RelD.fx (x : FX g g' H H') : ∀ {d : D} {v : V}, RelD W g H d v → RelD W g' H' d v
  | _, _, .non => .non
  | _, _, .bl b => .bl b
  | _, _, .int i => .int i
  | _, _, .str s => .str s
  | _, _, .tup h r => .tup (x.sqT h) (RelDs.fx x r)
  | _, _, .lst h f r => .lst ((x.fzk _ f).2.trans h) (x.fzk _ f).1 (RelDs.fx x r)
  | _, _, .scr h => .scr (x.sqS h)
  | _, _, .ref h => by
    obtain ⟨l, e⟩ := x.rho
    refine .ref ?_
    rw [e]
    obtain ⟨hi, _⟩ := List.getElem?_eq_some_iff.mp h
    rw [List.getElem?_append_left hi]
    exact h
  | _, _, .fn h => .fn h
  | _, _, .cls h => .cls h
  | _, _, .ins h c f e r => .ins ((x.fzk _ f).2.trans h) c (x.fzk _ f).1 e (RelDs.fx x r)
  | _, _, .exv e h c r => .exv e (x.xd _ _ h) c (RelDs.fx x r)
  | _, _, .dct h => .dct (x.frz _ _ _ h)
theorem RelDs.fx (x : FX g g' H H') : ∀ {ds : List D} {vs : List V}, RelDs W g H ds vs → RelDs W g' H' ds vs
  | _, _, .nil => .nil
  | _, _, .cons r t => .cons (RelD.fx x r) (RelDs.fx x t)
end
end

/-! ### an object more, an object changed -/
section
variable {W : Wd} {P : Addr → Prop} {g : Gh} {H : Hp} {m : MS} {w : Nat}
theorem GOk.nofz (k : GOk W g H m) {p : Addr} (h : H p = none) : ¬ g.fz p := fun z => by
  rcases (k.fzd p z).2 with ⟨_, e⟩ | ⟨_, _, _, e⟩ <;> rw [h] at e <;> cases e
theorem GOk.noρ (k : GOk W g H m) {p : Addr} (h : H p = none) : p ∉ g.ρ := fun z => by
  obtain ⟨_, e⟩ := k.mut z
  rw [h] at e; cases e
theorem ext_new {p : Addr} {o : HO} (h : H p = none) (k : GOk W g H m) : Ext P g g H (upd H p o) w w where
  keep := fun a u e _ => by rw [upd_ne (ne_of_none e h)]; exact e
  live := fun a e => by
    cases q : H a with
    | none => exact absurd q e
    | some u => rw [upd_ne (ne_of_none q h), q]; simp
  fz := fun _ h => h
  prot := fun _ _ h => h
  rho := ⟨[], by simp, by simp⟩
  mono := Nat.le_refl _
  wr := fun _ a ha => upd_ne fun e => k.noρ h (e ▸ ha)
/-- the store stands over a heap that keeps what it speaks of -/
theorem GOk.ext_same {g' : Gh} {H' : Hp} {w' : Nat} (k : GOk W g H m) (x : Ext P g g' H H' w w') (hρ : g'.ρ = g.ρ) (hs : ∀ a ∈ g.ρ, H' a = H a) (hf : ∀ a, g'.fz a → g.fz a ∨ (a ∉ g.ρ ∧ ((∃ vs, H' a = some (.lst vs)) ∨ ∃ C dx fs, H' a = some (.ins C dx fs)))) : GOk W g' H' m where
  len := by rw [hρ]; exact k.len
  nd := by rw [hρ]; exact k.nd
  obj := fun i o a h1 h2 => by
    rw [hρ] at h2
    have h3 := k.obj i o a h1 h2
    rw [← hs a (List.mem_of_getElem? h2)] at h3
    cases o with
    | lst ds =>
      obtain ⟨vs, e, r⟩ := h3
      exact ⟨vs, e, r.ext x k⟩
  fzd := fun a h => by
    rw [hρ]
    rcases hf a h with h | h
    · obtain ⟨h1, h2⟩ := k.fzd a h
      refine ⟨h1, ?_⟩
      rcases h2 with ⟨vs, e⟩ | ⟨C, dx, fs, e⟩
      · exact .inl ⟨vs, x.keep a _ e h1⟩
      · exact .inr ⟨C, dx, fs, x.keep a _ e h1⟩
    · exact h
theorem gok_new {p : Addr} {o : HO} (h : H p = none) (k : GOk W g H m) : GOk W g (upd H p o) m :=
  k.ext_same (P := fun _ => False) (w := 0) (w' := 0) (ext_new h k) rfl (fun a ha => upd_ne fun e => k.noρ h (e ▸ ha)) fun _ z => .inl z
/-- a list that nobody owns is frozen -/
def Gh.frz (g : Gh) (p : Addr) : Gh := { g with fz := fun b => g.fz b ∨ b = p }
theorem ext_frz {p : Addr} (hp : ¬ P p) : Ext P g (g.frz p) H H w w where
  keep := fun _ _ h _ => h
  live := fun _ h => h
  fz := fun _ h => .inl h
  prot := fun a pa h => by
    rcases h with h | h
    · exact h
    · exact absurd (h ▸ pa) hp
  rho := ⟨[], by simp [Gh.frz], by simp⟩
  mono := Nat.le_refl _
  wr := fun _ _ _ => rfl
theorem gok_frz {p : Addr} (k : GOk W g H m) (hr : p ∉ g.ρ) (ho : (∃ vs, H p = some (.lst vs)) ∨ ∃ C dx fs, H p = some (.ins C dx fs)) : GOk W (g.frz p) H m :=
  k.ext_same (P := fun _ => False) (w := 0) (w' := 0) (ext_frz fun z => z) rfl (fun _ _ => rfl) fun a z => by
    rcases z with z | z
    · exact .inl z
    · subst z; exact .inr ⟨hr, ho⟩
/-- a new mutable list -/
def Gh.push (g : Gh) (p : Addr) : Gh := { g with ρ := g.ρ ++ [p] }
theorem ext_push {p : Addr} {o : HO} (h : H p = none) (k : GOk W g H m) : Ext P g (g.push p) H (upd H p o) w w where
  keep := (ext_new (P := P) (w := w) h k).keep
  live := (ext_new (P := P) (w := w) h k).live
  fz := fun _ h => h
  prot := fun _ _ h => h
  rho := ⟨[p], rfl, fun a ha => by rw [List.mem_singleton.mp ha]; exact h⟩
  mono := Nat.le_refl _
  wr := (ext_new (P := P) (w := w) h k).wr
theorem gok_push {p : Addr} {vs : List V} {ds : List D} (h : H p = none) (k : GOk W g H m) (r : RelDs W g H ds vs) : GOk W (g.push p) (upd H p (.lst vs)) ⟨m.objs ++ [.lst ds], m.w⟩ where
  len := by simp [Gh.push, k.len]
  nd := by
    show (g.ρ ++ [p]).Nodup
    rw [List.nodup_append]
    refine ⟨k.nd, by simp, fun a ha b hb => ?_⟩
    rw [List.mem_singleton.mp hb]
    exact fun e => k.noρ h (e ▸ ha)
  obj := fun i o a h1 h2 => by
    have x := ext_push (P := fun _ => False) (w := 0) (o := .lst vs) h k
    have hl := k.len
    by_cases hi : i < m.objs.length
    · rw [List.getElem?_append_left hi] at h1
      have h2' : g.ρ[i]? = some a := by
        have : (g.ρ ++ [p])[i]? = some a := h2
        rwa [List.getElem?_append_left (by omega)] at this
      have h3 := k.obj i o a h1 h2'
      have ea : upd H p (.lst vs) a = H a := upd_ne fun e => k.noρ h (e ▸ List.mem_of_getElem? h2')
      rw [ea]
      cases o with
      | lst es =>
        obtain ⟨us, e, r'⟩ := h3
        exact ⟨us, e, r'.ext x k⟩
    · have hi2 : i = m.objs.length := by
        have := (List.getElem?_eq_some_iff.mp h1).1
        simp at this; omega
      subst hi2
      have e1 : (MO.lst ds) = o := by simpa using h1
      have e2 : p = a := by
        have : (g.ρ ++ [p])[m.objs.length]? = some a := h2
        rw [← hl] at this
        simpa using this
      subst e1 e2
      exact ⟨vs, upd_same, r.ext x k⟩
  fzd := fun a hz => by
    obtain ⟨h1, h2⟩ := k.fzd a hz
    have na : a ≠ p := fun e => by subst e; exact k.nofz h hz
    refine ⟨?_, ?_⟩
    · show a ∉ g.ρ ++ [p]
      rw [List.mem_append, List.mem_singleton]
      exact fun z => z.elim h1 na
    · rw [upd_ne na]; exact h2
/-- a mutable list is changed -/
theorem ext_set {n : Nat} {p : Addr} {o : HO} (hp : g.ρ[n]? = some p) : Ext P g g H (upd H p o) w (w + 1) where
  keep := fun a u e na => by
    have n : a ≠ p := fun z => na (by rw [z]; exact List.mem_of_getElem? hp)
    rw [upd_ne n]; exact e
  live := fun a e => by
    by_cases ha : a = p
    · subst ha; rw [upd_same]; simp
    · rw [upd_ne ha]; exact e
  fz := fun _ h => h
  prot := fun _ _ h => h
  rho := ⟨[], by simp, by simp⟩
  mono := Nat.le_succ _
  wr := fun e => absurd e (by omega)
theorem gok_set {n : Nat} {p : Addr} {vs : List V} {ds : List D} (k : GOk W g H m) (hp : g.ρ[n]? = some p) (r : RelDs W g H ds vs) : GOk W g (upd H p (.lst vs)) (setO m n (.lst ds)) where
  len := by simp [setO, k.len]
  nd := k.nd
  obj := fun i o a h1 h2 => by
    have x := ext_set (P := fun _ => False) (w := 0) (H := H) (o := .lst vs) hp
    have h1 : (m.objs.set n (.lst ds))[i]? = some o := h1
    by_cases hi : i = n
    · subst hi
      rw [hp] at h2
      have ea : p = a := Option.some.inj h2
      subst ea
      have hlt : i < m.objs.length := by
        have := (List.getElem?_eq_some_iff.mp h1).1
        simpa using this
      rw [List.getElem?_set_self hlt] at h1
      have eo := Option.some.inj h1
      subst eo
      exact ⟨vs, upd_same, r.ext x k⟩
    · rw [List.getElem?_set_ne (Ne.symm hi)] at h1
      have h3 := k.obj i o a h1 h2
      have na : a ≠ p := by
        intro e
        subst e
        obtain ⟨b1, c1⟩ := List.getElem?_eq_some_iff.mp h2
        obtain ⟨b2, c2⟩ := List.getElem?_eq_some_iff.mp hp
        exact hi ((List.getElem_inj k.nd).mp (c1.trans c2.symm))
      rw [upd_ne na]
      cases o with
      | lst es =>
        obtain ⟨us, e, r'⟩ := h3
        exact ⟨us, e, r'.ext x k⟩
  fzd := fun a hz => by
    obtain ⟨h1, h2⟩ := k.fzd a hz
    refine ⟨h1, ?_⟩
    have n : a ≠ p := fun z => h1 (by rw [z]; exact List.mem_of_getElem? hp)
    rw [upd_ne n]
    exact h2
end

/-! ### how a result is held -/
/-- a value that is only looked at -/
def RW (W : Wd) (g : Gh) (H : Hp) (d : D) (v : V) : Prop := RelD W g H d v ∨ ∃ ds a vs, d = .lst ds ∧ v = .ref a ∧ H a = some (.lst vs) ∧ RelDs W g H ds vs ∧ a ∉ g.ρ
/-- Hb: the heap from which on an owned list is new -/
def RV (W : Wd) (Hb : Hp) (g : Gh) (H : Hp) (x : D × Kd) (v : V) : Prop := match x.2 with
  | .sh => RelD W g H x.1 v
  | .own => ∃ ds a vs, x.1 = .lst ds ∧ v = .ref a ∧ H a = some (.lst vs) ∧ RelDs W g H ds vs ∧ ¬ g.fz a ∧ a ∉ g.ρ ∧ Hb a = none
  | .bor => ∃ ds a vs, x.1 = .lst ds ∧ v = .ref a ∧ H a = some (.lst vs) ∧ RelDs W g H ds vs ∧ a ∉ g.ρ
section
variable {W : Wd} {P : Addr → Prop} {g g' : Gh} {H H' : Hp} {m : MS} {w w' : Nat}
theorem RV.weak {Hb : Hp} {x : D × Kd} {v : V} (r : RV W Hb g H x v) : RW W g H x.1 v := by
  obtain ⟨d, k⟩ := x
  cases k with
  | sh => exact .inl r
  | own =>
    obtain ⟨ds, a, vs, h1, h2, h3, h4, _, h5, _⟩ := r
    exact .inr ⟨ds, a, vs, h1, h2, h3, h4, h5⟩
  | bor =>
    obtain ⟨ds, a, vs, h1, h2, h3, h4, h5⟩ := r
    exact .inr ⟨ds, a, vs, h1, h2, h3, h4, h5⟩
theorem RW.ext {d : D} {v : V} (x : Ext P g g' H H' w w') (k : GOk W g H m) (r : RW W g H d v) : RW W g' H' d v := by
  rcases r with r | ⟨ds, a, vs, h1, h2, h3, h4, h5⟩
  · exact .inl (r.ext x k)
  · refine .inr ⟨ds, a, vs, h1, h2, x.keep a _ h3 h5, h4.ext x k, ?_⟩
    obtain ⟨l, e, f⟩ := x.rho
    rw [e, List.mem_append]
    rintro (z | z)
    · exact h5 z
    · rw [f a z] at h3; cases h3
/-- .. as a value that is kept -/
theorem RV.keep {Hb : Hp} {x : D × Kd} {v : V} (r : RV W Hb g H x v) (k : GOk W g H m) (hP : ∀ a, P a → Hb a ≠ none) (hk : x.2 ≠ .bor) : ∃ g', Ext P g g' H H w w ∧ GOk W g' H m ∧ RelD W g' H x.1 v := by
  obtain ⟨d, q⟩ := x
  cases q with
  | sh => exact ⟨g, .refl, k, r⟩
  | own =>
    obtain ⟨ds, a, vs, h1, h2, h3, h4, h5, h6, h7⟩ := r
    have h1 : d = .lst ds := h1
    subst h1 h2
    have e : Ext P g (g.frz a) H H w w := ext_frz fun z => hP a z h7
    exact ⟨g.frz a, e, gok_frz k h6 (.inl ⟨vs, h3⟩), .lst h3 (.inr rfl) (h4.ext e k)⟩
  | bor => exact absurd rfl hk
/-- .. from an earlier heap on -/
theorem RV.base {Hb Hb' : Hp} {x : D × Kd} {v : V} (r : RV W Hb g H x v) (h : ∀ a, Hb' a ≠ none → Hb a ≠ none) : RV W Hb' g H x v := by
  obtain ⟨d, k⟩ := x
  cases k with
  | sh => exact r
  | own =>
    obtain ⟨ds, a, vs, h1, h2, h3, h4, h5, h6, h7⟩ := r
    refine ⟨ds, a, vs, h1, h2, h3, h4, h5, h6, ?_⟩
    cases q : Hb' a with
    | none => rfl
    | some o => exact absurd h7 (h a (by rw [q]; simp))
  | bor => exact r
theorem Ext.none {a : Addr} (x : Ext P g g' H H' w w') (h : H' a = none) : H a = none := by
  cases q : H a with
  | none => rfl
  | some o => exact absurd h (x.live a (by rw [q]; simp))
end

/-! ### results -/
def SatR {α : Type} (W : Wd) (P : Addr → Prop) (g : Gh) (H : Hp) (w : Nat) (Ex : Nat → Addr → Hp → Prop) (r : Res α) (ok : α → MS → Gh → Hp → Prop) : Prop := match r with
  | .ok a m' => ∀ g' H', Ext P g g' H H' w m'.w → GOk W g' H' m' → ok a m' g' H'
  | .exc c fs m' => ∀ g' H' d fv, Ext P g g' H H' w m'.w → GOk W g' H' m' → H' d = some (.xd fv) → fv.map (·.1) = W.clF c → RelDs W g' H' fs (fv.map (·.2)) → Ex c d H'
  | .bad => False
section
variable {α β : Type} {W : Wd} {P : Addr → Prop} {g g' : Gh} {H H' : Hp} {w w' : Nat} {m : MS} {Ex : Nat → Addr → Hp → Prop} {r : Res α} {ok ok' : α → MS → Gh → Hp → Prop}
theorem SatR.mono (h : SatR W P g H w Ex r ok) (f : ∀ a m' g' H', Ext P g g' H H' w m'.w → GOk W g' H' m' → ok a m' g' H' → ok' a m' g' H') : SatR W P g H w Ex r ok' := by
  cases r with
  | ok a m' => exact fun g' H' x k => f a m' g' H' x k (h g' H' x k)
  | exc c fs m' => exact h
  | bad => exact h
theorem SatR.ext (h : SatR W P g H w Ex r ok) (x : Ext P g g' H H' w w') : SatR W P g' H' w' Ex r ok := by
  cases r with
  | ok a m' => exact fun g2 H2 y k => h g2 H2 (x.trans y) k
  | exc c fs m' => exact fun g2 H2 d fv y k => h g2 H2 d fv (x.trans y) k
  | bad => exact h
theorem SatR.bind {f : α → MS → Res β} {ok : β → MS → Gh → Hp → Prop} (h : SatR W P g H w Ex (bindR r f) ok) : SatR W P g H w Ex r (fun a m' g' H' => SatR W P g' H' m'.w Ex (f a m') ok) := by
  cases r with
  | ok a m' => exact fun g' H' x k => SatR.ext h x
  | exc c fs m' => exact h
  | bad => exact h
theorem SatR.opt {o : Option α} (h : SatR W P g H m.w Ex (optR o m) ok) (k : GOk W g H m) : ∃ a, o = some a ∧ ok a m g H := by
  cases o with
  | none => exact h.elim
  | some a => exact ⟨a, rfl, h g H .refl k⟩
theorem SatR.optB {o : Option α} {f : α → MS → Res β} {ok : β → MS → Gh → Hp → Prop} (h : SatR W P g H m.w Ex (bindR (optR o m) f) ok) : ∃ a, o = some a ∧ SatR W P g H m.w Ex (f a m) ok := by
  cases o with
  | none => exact h.elim
  | some a => exact ⟨a, rfl, h⟩
theorem SatR.need {b : Prop} [Decidable b] {f : Unit → Res α} (h : SatR W P g H w Ex (needR b f) ok) : b ∧ SatR W P g H w Ex (f ()) ok := by
  unfold needR at h
  split at h
  · exact ⟨by assumption, h⟩
  · exact h.elim
theorem SatR.nox (h : SatR W P g H w Ex (noX r) ok) : SatR W P g H w (fun _ _ _ => False) r ok := by
  cases r with
  | ok a m' => exact h
  | exc c fs m' => exact h.elim
  | bad => exact h
/-- a value that is kept: frozen where need be -/
theorem SatR.toV {Hb : Hp} {x : D × Kd} {v : V} {f : D → MS → Res α} (h : SatR W P g H m.w Ex (bindR (toV x m) f) ok) (r : RV W Hb g H x v) (k : GOk W g H m) (hP : ∀ a, P a → Hb a ≠ none) :
    ∃ g', Ext P g g' H H m.w m.w ∧ GOk W g' H m ∧ RelD W g' H x.1 v ∧ SatR W P g' H m.w Ex (f x.1 m) ok := by
  obtain ⟨d, q⟩ := x
  by_cases hq : q = .bor
  · subst hq; exact h.elim
  · obtain ⟨g', e, k', r'⟩ := r.keep (w := m.w) k hP hq
    refine ⟨g', e, k', r', SatR.ext (w := m.w) ?_ e⟩
    cases q with
    | sh => exact h
    | own => exact h
    | bor => exact absurd rfl hq

/-- a result that is there -/
theorem SatR.of {a : α} (e : r = .ok a m) : SatR W P g H w Ex r (fun b m' g' H' => b = a ∧ m' = m ∧ Ext P g g' H H' w m.w ∧ GOk W g' H' m) := by
  subst e
  exact fun g' H' x k => ⟨rfl, rfl, x, k⟩
end

/-! ### the names -/
/-- what an owned thing holds: a list's items, a dict's keys -/
inductive Ct (W : Wd) (g : Gh) (H : Hp) : D → HO → Prop
  | lst {ds : List D} {vs : List V} : RelDs W g H ds vs → Ct W g H (.lst ds) (.lst vs)
  | dct {b : Bool} {ks : List (List Int)} : Ct W g H (.dct b ks) (dkO b ks)
theorem Ct.ext {W : Wd} {P : Addr → Prop} {g g' : Gh} {H H' : Hp} {w w' : Nat} {m : MS} {d : D} {u : HO} (x : Ext P g g' H H' w w') (k : GOk W g H m) : Ct W g H d u → Ct W g' H' d u
  | .lst r => .lst (r.ext x k)
  | .dct => .dct
theorem Ct.fx {W : Wd} {g g' : Gh} {H H' : Hp} {d : D} {u : HO} (x : FX g g' H H') : Ct W g H d u → Ct W g' H' d u
  | .lst r => .lst (r.fx x)
  | .dct => .dct
def SlotR (W : Wd) (P : Addr → Prop) (g : Gh) (H : Hp) : Slot → Option V → Prop
  | none, _ => True
  | some (d, false), o => ∃ v, o = some v ∧ RelD W g H d v
  | some (d, true), o => ∃ a u, o = some (.ref a) ∧ H a = some u ∧ Ct W g H d u ∧ P a
structure StI (W : Wd) (P : Addr → Prop) (g : Gh) (H : Hp) (S : Sto) (m : MS) (σ : L2.St) : Prop where
  ok : GOk W g H m
  dom : PDom P g H
  slot : ∀ i, SlotR W P g H (getS S i) (σ.getD i none)
  len : S.length = σ.length
section
variable {W : Wd} {P : Addr → Prop} {g g' : Gh} {H H' : Hp} {w w' : Nat} {m m' : MS} {S : Sto} {σ : L2.St}
theorem SlotR.ext {s : Slot} {o : Option V} (x : Ext P g g' H H' w w') (k : GOk W g H m) (d : PDom P g H) (h : SlotR W P g H s o) : SlotR W P g' H' s o := by
  cases s with
  | none => trivial
  | some p =>
    obtain ⟨e, b⟩ := p
    cases b with
    | false =>
      obtain ⟨v, h1, h2⟩ := h
      exact ⟨v, h1, h2.ext x k⟩
    | true =>
      obtain ⟨a, u, h2, h3, h4, h5⟩ := h
      exact ⟨a, u, h2, x.keep a _ h3 (d a h5).2.2, h4.ext x k, h5⟩
theorem StI.ext (h : StI W P g H S m σ) (x : Ext P g g' H H' w w') (k : GOk W g' H' m') : StI W P g' H' S m' σ :=
  ⟨k, x.dom h.dom, fun i => (h.slot i).ext x h.ok h.dom, h.len⟩
end
end OD

set_option Elab.async false
set_option autoImplicit false
set_option linter.all false
set_option maxRecDepth 100000
set_option maxHeartbeats 4000000
/-! My own layer, part 3: each construct does what the small language says. -/
namespace OD
open PySem PySem.Spec PyProof.Rows L2

/-! ### what a value looks like -/
section
variable {W : Wd} {P : Addr → Prop} {g : Gh} {H : Hp} {m : MS} {v : V}
theorem RW.non_ (r : RW W g H .non v) : v = .non := by
  rcases r with r | ⟨ds, a, vs, h, _⟩
  · cases r; rfl
  · cases h
theorem RW.bl_ {b : Bool} (r : RW W g H (.bl b) v) : v = .bl b := by
  rcases r with r | ⟨ds, a, vs, h, _⟩
  · cases r; rfl
  · cases h
theorem RW.int_ {i : Int} (r : RW W g H (.int i) v) : v = .int i := by
  rcases r with r | ⟨ds, a, vs, h, _⟩
  · cases r; rfl
  · cases h
theorem RW.str_ {x : Str} (r : RW W g H (.str x) v) : v = .str x := by
  rcases r with r | ⟨ds, a, vs, h, _⟩
  · cases r; rfl
  · cases h
theorem RW.tup_ {ds : List D} (r : RW W g H (.tup ds) v) : ∃ a vs, v = .ref a ∧ SqT W.K H a vs ∧ RelDs W g H ds vs := by
  rcases r with r | ⟨ds, a, vs, h, _⟩
  · cases r with
    | tup h1 h2 => exact ⟨_, _, rfl, h1, h2⟩
  · cases h
theorem RW.lst_ {ds : List D} (r : RW W g H (.lst ds) v) : ∃ a vs, v = .ref a ∧ H a = some (.lst vs) ∧ RelDs W g H ds vs := by
  rcases r with r | ⟨ds, a, vs, h, h2, h3, h4, _⟩
  · cases r with
    | lst h1 _ h2 => exact ⟨_, _, rfl, h1, h2⟩
  · cases h
    exact ⟨_, _, h2, h3, h4⟩
theorem RW.scr_ {ns : List Int} (r : RW W g H (.scr ns) v) : ∃ a, v = .ref a ∧ SqS W.K H a (ns.map V.int) := by
  rcases r with r | ⟨ds, a, vs, h, _⟩
  · cases r with
    | scr h1 => exact ⟨_, rfl, h1⟩
  · cases h
theorem RW.ref_ {n : Nat} (r : RW W g H (.ref n) v) : ∃ a, v = .ref a ∧ g.ρ[n]? = some a := by
  rcases r with r | ⟨ds, a, vs, h, _⟩
  · cases r with
    | ref h1 => exact ⟨_, rfl, h1⟩
  · cases h
theorem RW.refO {n : Nat} {ds : List D} (r : RW W g H (.ref n) v) (k : GOk W g H m) (h : m.objs[n]? = some (.lst ds)) : ∃ a vs, v = .ref a ∧ g.ρ[n]? = some a ∧ H a = some (.lst vs) ∧ RelDs W g H ds vs := by
  obtain ⟨a, h1, h2⟩ := r.ref_
  obtain ⟨vs, h3, h4⟩ := k.obj n _ a h h2
  exact ⟨a, vs, h1, h2, h3, h4⟩
theorem RW.dct_ {b : Bool} {ks : List (List Int)} (r : RW W g H (.dct b ks) v) : ∃ a o, v = .ref a ∧ H a = some (.frz o (dkO b ks)) := by
  rcases r with r | ⟨_, _, _, h, _⟩
  · cases r with
    | dct h1 => exact ⟨_, _, rfl, h1⟩
  · cases h
/-- a sequence and its items -/
theorem RW.seq {d : D} {ds : List D} (r : RW W g H d v) (k : GOk W g H m) (h : itemsD d m = some ds) : ∃ a vs, v = .ref a ∧ (SqL W.K H a vs ∨ SqT W.K H a vs) ∧ RelDs W g H ds vs := by
  cases d with
  | tup es =>
    cases h
    obtain ⟨a, vs, h1, h2, h3⟩ := r.tup_
    exact ⟨a, vs, h1, .inr h2, h3⟩
  | lst es =>
    cases h
    obtain ⟨a, vs, h1, h2, h3⟩ := r.lst_
    exact ⟨a, vs, h1, .inl (.of h2), h3⟩
  | scr ns =>
    cases h
    obtain ⟨a, h1, h2⟩ := r.scr_
    exact ⟨a, _, h1, .inl h2.sq, .ints ns⟩
  | ref n =>
    simp only [itemsD] at h
    split at h
    · rename_i es he
      cases h
      obtain ⟨a, vs, h1, _, h3, h4⟩ := r.refO k he
      exact ⟨a, vs, h1, .inl (.of h3), h4⟩
    · cases h
  | _ => cases h
/-- a list that is no mutable one -/
theorem RW.listOf {d : D} {ds : List D} (r : RW W g H d v) (h : OD.listOf d = some ds) : ∃ a vs, v = .ref a ∧ SqL W.K H a vs ∧ RelDs W g H ds vs := by
  cases d with
  | lst es =>
    cases h
    obtain ⟨a, vs, h1, h2, h3⟩ := r.lst_
    exact ⟨a, vs, h1, .of h2, h3⟩
  | scr ns =>
    cases h
    obtain ⟨a, h1, h2⟩ := r.scr_
    exact ⟨a, _, h1, h2.sq, .ints ns⟩
  | _ => cases h
end
/-! ### data -/
theorem depth_int : ∀ ns : List Int, PyData.depthAll (ns.map PyData.int) = 0
  | [] => by simp [PyData.depthAll]
  | n :: ns => by simp [PyData.depthAll, PyData.depth, depth_int ns]
theorem lay_int : ∀ ns : List Int, PyData.canLayAll0 (ns.map PyData.int) = true
  | [] => by simp [PyData.canLayAll0]
  | n :: ns => by simp [PyData.canLayAll0, PyData.canLay0, lay_int ns]
mutual
theorem okD_lay : ∀ {d : D} {n : Nat}, okD n d = true → d.py.canLay0 = true ∧ d.py.depth ≤ n
  | .non, n, _ => by simp [D.py, PyData.canLay0, PyData.depth]
  | .bl _, n, _ => by simp [D.py, PyData.canLay0, PyData.depth]
  | .int _, n, _ => by simp [D.py, PyData.canLay0, PyData.depth]
  | .str x, n, h => by
    have h' : PyData.strOk x = true := by cases n <;> simpa [okD] using h
    simp [D.py, PyData.canLay0, PyData.depth, h']
  | .tup ds, 0, h => by simp [okD] at h
  | .tup ds, n + 1, h => by
    have h' : ds.all (okD n) = true := by simpa only [okD] using h
    obtain ⟨h1, h2⟩ := okDs_lay h'
    simp only [D.py, PyData.canLay0, PyData.depth]
    exact ⟨h1, by omega⟩
  | .lst ds, 0, h => by simp [okD] at h
  | .lst ds, n + 1, h => by
    have h' : ds.all (okD n) = true := by simpa only [okD] using h
    obtain ⟨h1, h2⟩ := okDs_lay h'
    simp only [D.py, PyData.canLay0, PyData.depth]
    exact ⟨h1, by omega⟩
  | .scr ns, 0, h => by simp [okD] at h
  | .scr ns, n + 1, h => by
    simp only [D.py, PyData.canLay0, PyData.depth, depth_int, lay_int]
    exact ⟨trivial, by omega⟩
  | .ref _, n, h => by cases n <;> simp [okD] at h
  | .fn _, n, h => by cases n <;> simp [okD] at h
  | .cls _, n, h => by cases n <;> simp [okD] at h
  | .ins _ _, n, h => by cases n <;> simp [okD] at h
  | .exv _ _, n, h => by cases n <;> simp [okD] at h
  | .dct _ _, n, h => by cases n <;> simp [okD] at h
theorem okDs_lay : ∀ {ds : List D} {n : Nat}, ds.all (okD n) = true → PyData.canLayAll0 (pys ds) = true ∧ PyData.depthAll (pys ds) ≤ n
  | [], n, _ => by simp [pys, PyData.canLayAll0, PyData.depthAll]
  | d :: ds, n, h => by
    rw [List.all_cons, Bool.and_eq_true] at h
    obtain ⟨h1, h2⟩ := okD_lay h.1
    obtain ⟨h3, h4⟩ := okDs_lay h.2
    simp only [pys, PyData.canLayAll0, PyData.depthAll, h1, h3, Bool.and_self]
    exact ⟨trivial, by omega⟩
end
theorem okD_shaped {d : D} {n : Nat} (h : okD n d = true) (hn : n ≤ 64) : SeqAt.shaped d.py = true := by
  obtain ⟨h1, h2⟩ := okD_lay h
  show (d.py.canLay0 && decide (d.py.depth ≤ 64)) = true
  rw [h1, Bool.true_and]
  exact decide_eq_true (by omega)
section
variable {W : Wd} {P : Addr → Prop} {g : Gh} {H : Hp} {m : MS} {v : V}
theorem dp_ints : ∀ ns : List Int, DpAll W.K H (ns.map V.int) (ns.map PyData.int)
  | [] => .nil
  | n :: ns => .cons (.int n) (dp_ints ns)
mutual
theorem RelD.dp : ∀ {d : D} {v : V} {n : Nat}, okD n d = true → RelD W g H d v → Dp W.K H v d.py
  | _, _, n, _, .non => by rw [D.py]; exact .non
  | _, _, n, _, .bl b => by rw [D.py]; exact .bl b
  | _, _, n, _, .int b => by rw [D.py]; exact .int b
  | _, _, n, _, .str b => by rw [D.py]; exact .str b
  | .tup ds, _, 0, h, .tup _ _ => by simp [okD] at h
  | .tup ds, _, n + 1, h, .tup h1 h2 => by
    rw [D.py]
    exact .tup h1 (RelDs.dp (by simpa only [okD] using h) h2)
  | .lst ds, _, 0, h, .lst _ _ _ => by simp [okD] at h
  | .lst ds, _, n + 1, h, .lst h1 _ h2 => by
    rw [D.py]
    exact .lst (.of h1) (RelDs.dp (by simpa only [okD] using h) h2)
  | .scr ns, _, n, h, .scr h1 => by
    rw [D.py]
    exact .lst h1.sq (dp_ints ns)
  | .ref _, _, n, h, _ => by cases n <;> simp [okD] at h
  | .fn _, _, n, h, _ => by cases n <;> simp [okD] at h
  | .cls _, _, n, h, _ => by cases n <;> simp [okD] at h
  | .ins _ _, _, n, h, _ => by cases n <;> simp [okD] at h
  | .exv _ _, _, n, h, _ => by cases n <;> simp [okD] at h
  | .dct _ _, _, n, h, _ => by cases n <;> simp [okD] at h
theorem RelDs.dp : ∀ {ds : List D} {vs : List V} {n : Nat}, ds.all (okD n) = true → RelDs W g H ds vs → DpAll W.K H vs (pys ds)
  | _, _, n, _, .nil => by rw [pys]; exact .nil
  | _, _, n, h, .cons r t => by
    rw [List.all_cons, Bool.and_eq_true] at h
    rw [pys]
    exact .cons (RelD.dp h.1 r) (RelDs.dp h.2 t)
end
theorem RW.dp {d : D} {n : Nat} (h : okD n d = true) (r : RW W g H d v) : Dp W.K H v d.py := by
  rcases r with r | ⟨ds, a, vs, rfl, rfl, h1, h2, _⟩
  · exact r.dp h
  · cases n with
    | zero => simp [okD] at h
    | succ n =>
      rw [D.py]
      exact .lst (.of h1) (h2.dp (by simpa only [okD] using h))
theorem flat_rel {d : D} (f : flatD d = true) (r : RelD W g H d v) : flatV v = true := by
  cases r <;> first | rfl | cases f
theorem flat_rels : ∀ {ds : List D} {vs : List V}, ds.all flatD = true → RelDs W g H ds vs → vs.all flatV = true
  | _, _, _, .nil => rfl
  | _, _, h, .cons r t => by
    rw [List.all_cons, Bool.and_eq_true] at h
    rw [List.all_cons, flat_rel h.1 r, flat_rels h.2 t]; rfl
theorem eqV_py {d e : D} {u : V} (f : flatD d = true) (f' : flatD e = true) (r : RelD W g H d v) (r' : RelD W g H e u) : eqV u v = PyData.eqv e.py d.py := by
  cases r <;> first
    | (exfalso; revert f; simp [flatD]; done)
    | (cases r' <;> first
        | (exfalso; revert f'; simp [flatD]; done)
        | (simp only [D.py, eqV, PyData.eqv]; done)
        | rfl)
theorem inV_py {d : D} (f : flatD d = true) (r : RelD W g H d v) : ∀ {es : List D} {us : List V}, es.all flatD = true → RelDs W g H es us → inV v us = es.any fun x => PyData.eqv x.py d.py
  | _, _, _, .nil => rfl
  | _, _, h, .cons r1 t => by
    rw [List.all_cons, Bool.and_eq_true] at h
    have ih := inV_py f r h.2 t
    unfold inV at ih ⊢
    rw [List.any_cons, List.any_cons, ih, eqV_py f h.1 r r1]
end

/-! ### readings -/
theorem _root_.L2.PE.impI {X : Cx} {e : Expr} {t t' : TE} (h : PE X e t) (f : ∀ (pins : List (Addr × Obj)) (s : Shared) (σ : L2.St) (H : Hp) (Q : VK), Inv X pins σ H s → t' σ H Q → t σ H Q) : PE X e t' := ⟨fun pins s σ H Q I q => h.run pins s σ H Q I (f pins s σ H Q I q)⟩
theorem _root_.L2.PE.imp {X : Cx} {e : Expr} {t t' : TE} (h : PE X e t) (f : ∀ (σ : L2.St) (H : Hp) (Q : VK), t' σ H Q → t σ H Q) : PE X e t' := h.impI fun _ _ σ H Q _ => f σ H Q
theorem _root_.L2.PT.imp {X : Cx} {e : Expr} {t t' : TT} (h : PT X e t) (f : ∀ (σ : L2.St) (H : Hp) (Q : Bool → Hp → Prop), t' σ H Q → t σ H Q) : PT X e t' := ⟨fun pins s σ H Q I q => h.run pins s σ H Q I (f σ H Q q)⟩
theorem _root_.L2.PW.imp {X : Cx} {e : Expr} {t t' : TT} (h : PW X e t) (f : ∀ (σ : L2.St) (H : Hp) (Q : Bool → Hp → Prop), t' σ H Q → t σ H Q) : PW X e t' := ⟨fun wh pins s σ H Q I q => h.run wh pins s σ H Q I (f σ H Q q)⟩
theorem _root_.L2.PA.imp {X : Cx} {e : List Expr} {t t' : TA} (h : PA X e t) (f : ∀ (σ : L2.St) (H : Hp) (Q : List V → Hp → Prop), t' σ H Q → t σ H Q) : PA X e t' := ⟨fun p pins s σ H Q I q => h.run p pins s σ H Q I (f σ H Q q)⟩
theorem _root_.L2.PS.imp {X : Cx} {e : Stmt} {t t' : TS} (h : PS X e t) (f : ∀ (D : Ends) (σ : L2.St) (H : Hp), t' D σ H → t D σ H) : PS X e t' := ⟨fun pins s σ H D I q => h.run pins s σ H D I (f D σ H q)⟩
theorem _root_.L2.PSs.imp {X : Cx} {e : List Stmt} {t t' : TS} (h : PSs X e t) (f : ∀ (D : Ends) (σ : L2.St) (H : Hp), t' D σ H → t D σ H) : PSs X e t' := ⟨fun pins s σ H D I q => h.run pins s σ H D I (f D σ H q)⟩

/-- the constants of the module, the calls, what is wanted of an exception -/
structure En where
  W : Wd
  gl : List D
  cf : Nat → List D → MS → Res (D × Kd)
  Wx : WX
def En.ex (E : En) (σ : L2.St) : Nat → Addr → Hp → Prop := fun c d H' => ∀ C, E.W.clA c = some C → E.Wx (.ref C) (some d) σ H'
def TEo (E : En) (t : T) : TE := fun σ H Q => ∃ P g S m, StI E.W P g H S m σ ∧ SatR E.W P g H m.w (E.ex σ) (evE E.gl E.cf t S m) fun x _ g' H' => ∀ v, RV E.W H g' H' x v → Q v H'
def TBo (E : En) (t : T) : TT := fun σ H Q => ∃ P g S m, StI E.W P g H S m σ ∧ SatR E.W P g H m.w (E.ex σ) (evB E.gl E.cf t S m) fun b _ _ H' => Q b H'
def TPo (E : En) (t : T) : TO := fun σ H Q => ∃ P g S m, StI E.W P g H S m σ ∧ SatR E.W P g H m.w (E.ex σ) (evP E.gl E.cf t S m) fun b _ _ H' => Q b H'
def TAo (E : En) (t : T) : TA := fun σ H Q => ∃ P g S m, StI E.W P g H S m σ ∧ SatR E.W P g H m.w (E.ex σ) (evA E.gl E.cf t S m) fun ds _ g' H' => ∀ vs, RelDs E.W g' H' ds vs → Q vs H'
inductive RWs (W : Wd) (g : Gh) (H : Hp) : List D → List V → Prop
  | nil : RWs W g H [] []
  | cons {d : D} {v : V} {ds : List D} {vs : List V} : RW W g H d v → RWs W g H ds vs → RWs W g H (d :: ds) (v :: vs)
def TWo (E : En) (t : T) : TA := fun σ H Q => ∃ P g S m, StI E.W P g H S m σ ∧ SatR E.W P g H m.w (E.ex σ) (evW E.gl E.cf t S m) fun ds m' g' H' => GOk E.W g' H' m' → PDom P g' H' → ∀ vs, RWs E.W g' H' ds vs → Q vs H'

section
variable {X : Cx} {E : En} {e e1 e2 e3 : Expr} {es : List Expr} {a b c : T} {pos : Pos}
/-! ### constants, names -/
theorem sn_non {j : Nat} : PE X (.Constant .none j pos) (TEo E .non) := pe_non.imp fun σ H Q ⟨P, g, S, m, hS, h⟩ => h g H .refl hS.ok _ .non
theorem sn_bl {b : Bool} {j : Nat} : PE X (.Constant (.bool b) j pos) (TEo E (if b = true then .tru else .fls)) := pe_bl.imp fun σ H Q ⟨P, g, S, m, hS, h⟩ => by
  cases b with
  | true => exact h g H .refl hS.ok _ (.bl true)
  | false => exact h g H .refl hS.ok _ (.bl false)
theorem sn_int {i : Int} {j : Nat} : PE X (.Constant (.int i) j pos) (TEo E (.int i)) := pe_int.imp fun σ H Q ⟨P, g, S, m, hS, h⟩ => h g H .refl hS.ok _ (.int i)
theorem sn_str {x : Str} {j : Nat} : PE X (.Constant (.str x) j pos) (TEo E (.str x)) := pe_str.imp fun σ H Q ⟨P, g, S, m, hS, h⟩ => h g H .refl hS.ok _ (.str x)
theorem getD_some {σ : L2.St} {i : Nat} {v : V} (h : σ.getD i none = some v) : σ[i]? = some (some v) := by
  rw [List.getD_eq_getElem?_getD] at h
  cases q : σ[i]? with
  | none => rw [q] at h; cases h
  | some o => rw [q] at h; exact congrArg some h
theorem sn_var {i : Nat} {x : Str} (hN : X.N[i]? = some x) (hv : Vis X.env.scope x) (hd : (x == ("__debug__" : Str)) = false) (hcd : (x == ("__classdict__" : Str)) = false) : PE X (.Name x pos) (TEo E (.var i)) :=
  (pe_var hN hv hd hcd).imp fun σ H Q ⟨P, g, S, m, hS, h⟩ => by
    have hs := hS.slot i
    simp only [evE] at h
    split at h
    · rename_i d hg
      rw [hg] at hs
      obtain ⟨v, h1, h2⟩ := hs
      exact ⟨v, getD_some h1, h g H .refl hS.ok v h2⟩
    · exact h.elim
theorem sn_bvar {i : Nat} {x : Str} (hN : X.N[i]? = some x) (hv : Vis X.env.scope x) (hd : (x == ("__debug__" : Str)) = false) (hcd : (x == ("__classdict__" : Str)) = false) : PE X (.Name x pos) (TEo E (.bvar i)) :=
  (pe_var hN hv hd hcd).imp fun σ H Q ⟨P, g, S, m, hS, h⟩ => by
    have hs := hS.slot i
    simp only [evE] at h
    split at h
    · rename_i d hg
      rw [hg] at hs
      obtain ⟨p, u, h2, h3, h4, h5⟩ := hs
      cases h4 with
      | lst h4 => exact ⟨.ref p, getD_some h2, h g H .refl hS.ok _ ⟨_, p, _, rfl, rfl, h3, h4, (hS.dom p h5).2.2⟩⟩
    · exact h.elim
/-- a constant of the module -/
theorem sn_glob {j : Nat} {x : Str} {v : V} {u : Value} (hg : Gl X x) (hm : X.mg x = some u) (r : RelV v u) (hd : (x == ("__debug__" : Str)) = false)
    (hj : ∀ d, E.gl[j]? = some d → ∀ g H, RelD E.W g H d v) : PE X (.Name x pos) (TEo E (.glob j)) :=
  (pe_glob hg hm r hd).imp fun σ H Q ⟨P, g, S, m, hS, h⟩ => by
    simp only [evE] at h
    obtain ⟨y, h1, h2⟩ := h.opt hS.ok
    cases q : E.gl[j]? with
    | none => rw [q] at h1; cases h1
    | some d =>
      rw [q] at h1
      cases h1
      exact h2 v (hj d q g H)
theorem sn_gfn {i : Nat} {x : Str} {f : Addr} (hg : Gl X x) (hm : X.mg x = some (.ref f)) (hd : (x == ("__debug__" : Str)) = false) (hf : E.W.fnA i = some f) : PE X (.Name x pos) (TEo E (.gfn i)) :=
  (pe_glob (v := .ref f) hg hm rfl hd).imp fun σ H Q ⟨P, g, S, m, hS, h⟩ => h g H .refl hS.ok _ (.fn hf)

/-! ### arguments -/
theorem sn_nil : PA X [] (TAo E .nil) := pa_nil.imp fun σ H Q ⟨P, g, S, m, hS, h⟩ => h g H .refl hS.ok _ .nil
theorem sn_cons {as : T} (ha : PE X e (TEo E a)) (hr : PA X es (TAo E as)) (hs : starEach (e :: es) X.env = (false, eval e X.env) :: starEach es X.env) : PA X (e :: es) (TAo E (.cons a as)) :=
  (pa_cons ha hr hs).imp fun σ H Q ⟨P, g, S, m, hS, h⟩ => by
    simp only [evA] at h
    refine ⟨P, g, S, m, hS, h.bind.mono fun x m1 g1 H1 x1 k1 h1 v hv => ?_⟩
    obtain ⟨g2, x2, k2, r2, h2⟩ := h1.toV hv k1 fun a p => (hS.dom a p).1
    refine ⟨P, g2, S, m1, (hS.ext x1 k1).ext x2 k2, h2.bind.mono fun vs m3 g3 H3 x3 k3 h3 us hus => ?_⟩
    exact h3 g3 H3 .refl k3 _ (.cons (r2.ext x3 k2) hus)
theorem sn_wnil : PA X [] (TWo E .nil) := pa_nil.imp fun σ H Q ⟨P, g, S, m, hS, h⟩ => h g H .refl hS.ok hS.ok hS.dom _ .nil
theorem sn_wcons {as : T} (ha : PE X e (TEo E a)) (hr : PA X es (TWo E as)) (hs : starEach (e :: es) X.env = (false, eval e X.env) :: starEach es X.env) : PA X (e :: es) (TWo E (.cons a as)) :=
  (pa_cons ha hr hs).imp fun σ H Q ⟨P, g, S, m, hS, h⟩ => by
    simp only [evW] at h
    refine ⟨P, g, S, m, hS, h.bind.mono fun x m1 g1 H1 x1 k1 h1 v hv => ?_⟩
    have hS1 := hS.ext x1 k1
    refine ⟨P, g1, S, m1, hS1, h1.bind.mono fun vs m3 g3 H3 x3 k3 h3 _ d3 us hus => ?_⟩
    exact h3 g3 H3 .refl k3 k3 d3 _ (.cons (hv.weak.ext x3 k1) hus)
theorem sn_tup {as : T} {j : Nat} (h : PA X es (TAo E as)) : PE X (.Tuple es j pos) (TEo E (.tup as)) := (pe_tup h).imp fun σ H Q ⟨P, g, S, m, hS, h⟩ => by
  simp only [evE] at h
  refine ⟨P, g, S, m, hS, h.bind.mono fun ds m1 g1 H1 x1 k1 h1 vs hv => ?_⟩
  obtain ⟨hl, h2⟩ := h1.need
  refine ⟨by rw [← hv.length]; exact hl, fun p hp => ?_⟩
  have x2 := ext_new (P := P) (w := m1.w) (o := .tup vs) hp k1
  exact h2 g1 _ x2 (gok_new hp k1) _ (.tup (.of upd_same) (hv.ext x2 k1))
theorem sn_lst {as : T} (h : PA X es (TAo E as)) : PE X (.List es pos) (TEo E (.lst as)) := (pe_lst h).imp fun σ H Q ⟨P, g, S, m, hS, h⟩ => by
  simp only [evE] at h
  refine ⟨P, g, S, m, hS, h.bind.mono fun ds m1 g1 H1 x1 k1 h1 vs hv => ?_⟩
  obtain ⟨hl, h2⟩ := h1.need
  refine ⟨by rw [← hv.length]; exact hl, fun p hp => ?_⟩
  have x2 := ext_new (P := P) (w := m1.w) (o := .lst vs) hp k1
  exact h2 g1 _ x2 (gok_new hp k1) _ ⟨ds, p, vs, rfl, rfl, upd_same, hv.ext x2 k1, k1.nofz hp, k1.noρ hp, x1.none hp⟩
theorem sn_olst {as : T} (h : PA X es (TAo E as)) : PE X (.List es pos) (TEo E (.olst as)) := (pe_lst h).imp fun σ H Q ⟨P, g, S, m, hS, h⟩ => by
  simp only [evE] at h
  refine ⟨P, g, S, m, hS, h.bind.mono fun ds m1 g1 H1 x1 k1 h1 vs hv => ?_⟩
  obtain ⟨hl, h2⟩ := h1.need
  refine ⟨by rw [← hv.length]; exact hl, fun p hp => ?_⟩
  have x2 := ext_push (P := P) (w := m1.w) (o := .lst vs) hp k1
  refine h2 (g1.push p) _ x2 (gok_push hp k1 hv) _ (.ref ?_)
  show (g1.ρ ++ [p])[m1.objs.length]? = some p
  rw [← k1.len]
  simp

/-! ### operators -/
theorem tup_mul1 (l : Addr) (items : Array Value) (n : Nat) (dd : Option Addr) (sl : Array (Option Value)) (u : Tok) :
    Meets (Builtin.«tuple.__mul__» ⟨[.ref l, .int 1 u], []⟩) (fun _ R s => s.heap.get? l = some { cls := .type "tuple", dict := dd, data := .seq items n, slots := sl } ∧ R (.ok (.ret (.ref l))) s) :=
  .of_wp fun prog w A R s h => by
    obtain ⟨hp, g, d, tk, os⟩ := s
    obtain ⟨at0, h⟩ := h
    have f1 := AutoSeq1.idx_int
    wp_walk using wpAny_loadPart' at0
    exact ⟨_, rfl, h⟩
/-- a tuple taken once -/
def rRep1 (K : PySem.W.Frag) : R2 := fun x y H Q => ∃ l xs, x = .ref l ∧ y = .int 1 ∧ SqT K H l xs ∧ Q (.ref l) H
theorem op_rep1 : OpR X (binaryOp .Mult) (rRep1 X.K) := by
  intro pins s σ H x y v u Q I rx ry ⟨l, xs, e1, e2, hT, q⟩
  subst e1 e2
  cases rx
  obtain ⟨t, rfl⟩ := ry
  obtain ⟨its, r, ⟨⟨cls, dd, data, sl⟩, at0, hc, n, hd⟩, hs⟩ := I.tuple hT
  cases (show cls = _ from hc)
  cases (show data = _ from hd)
  exact wpAny_binaryOp_repeat_ref (T := "tuple") (U := "int") (by decide) ⟨_, at0, rfl⟩ (fun s' => typeIs_int s' 1 t) noFill_tuple_mul F.fills_int_mul F.slot_int_rmul repeat_tuple F.slot_int_index.lookup
    (call_meets F.slot_int_rmul (typeIs_int s 1 t) F.entry_int_rmul (F.args_int_rmul_2 _ _) (int_rmul_tuple 1 t l its.toArray n dd sl) ⟨at0, rfl, ⟨_, at0, rfl⟩, call_meets F.slot_tuple_mul ⟨_, at0, rfl⟩ F.entry_tuple_mul (F.args_tuple_mul_2 _ _) (tup_mul1 l its.toArray n dd sl t) ⟨at0, ⟨.ref l, H, I, rfl, q⟩⟩⟩)
def rBin (K : PySem.W.Frag) : BO → R2
  | .add => fun x y H Q => rI0 (fun i j => .int (i + j)) x y H Q ∨ (rCat x y H Q ∨ (rCatA K x y H Q ∨ (fun x y H Q => ∃ i j, x = .str i ∧ y = .str j ∧ i.length + j.length ≤ sizeLine ∧ Q (.str (i ++ j)) H) x y H Q))
  | .sub => rI0 fun i j => .int (i - j)
  | .mul => fun x y H Q => rI CMul (fun i j => .int (i * j)) x y H Q ∨ (rRepT K x y H Q ∨ rRep1 K x y H Q)
  | .fdiv => rI CDivN fun i j => .int (i.fdiv j)
  | .mod => rI (fun _ j => j ≠ 0) fun i j => .int (i.fmod j)
  | .pow => rI CPow fun i j => .int (i ^ j.toNat)
def opOf : BO → Operator
  | .add => .Add | .sub => .Sub | .mul => .Mult | .fdiv => .FloorDiv | .mod => .Mod | .pow => .Pow
theorem op_bin : ∀ o : BO, OpR X (binaryOp (opOf o)) (rBin X.K o)
  | .add => op_add.or (op_cat.or (op_catA.or op_add_str))
  | .sub => op_sub
  | .mul => op_mul.or (op_repT.or op_rep1)
  | .fdiv => op_fdivN
  | .mod => op_modN
  | .pow => op_pow
section
variable {W : Wd} {P : Addr → Prop} {g : Gh} {H : Hp} {m : MS} {v u : V} {d f : D} {x : D × Kd} {Q : VK}
theorem binI_ok {o : BO} {i j k : Int} (h : binI o i j = some k) (q : Q (.int k) H) : rBin W.K o (.int i) (.int j) H Q := by
  cases o with
  | add => cases h; exact .inl ⟨i, j, rfl, rfl, q⟩
  | sub => cases h; exact ⟨i, j, rfl, rfl, q⟩
  | mul =>
    simp only [binI] at h
    split at h
    · cases h; exact .inl ⟨i, j, rfl, rfl, by assumption, q⟩
    · cases h
  | fdiv =>
    simp only [binI] at h
    split at h
    · cases h; exact ⟨i, j, rfl, rfl, by assumption, q⟩
    · cases h
  | mod =>
    simp only [binI] at h
    split at h
    · cases h; exact ⟨i, j, rfl, rfl, by assumption, q⟩
    · cases h
  | pow =>
    simp only [binI] at h
    split at h
    · cases h; exact ⟨i, j, rfl, rfl, by assumption, q⟩
    · cases h
theorem cat_ok {xs ys : List D} (hl : xs.length + ys.length ≤ sizeLine) (r1 : RW W g H (.tup xs) v) (r2 : RW W g H (.tup ys) u) (k : GOk W g H m)
    (q : ∀ g' H' z, Ext P g g' H H' m.w m.w → GOk W g' H' m → RelD W g' H' (.tup (xs ++ ys)) z → Q z H') : rCatA W.K v u H Q := by
  obtain ⟨a, vs, rfl, h1, h2⟩ := r1.tup_
  obtain ⟨b, us, rfl, h3, h4⟩ := r2.tup_
  refine ⟨a, b, vs, us, rfl, rfl, h1, h3, by rw [← h2.length, ← h4.length]; exact hl, fun e => ?_, fun _ e => ?_, fun _ _ p hp => ?_⟩
  · have e' : xs = [] := by
      have := h2.length
      rw [e] at this
      exact List.eq_nil_of_length_eq_zero this
    rw [e'] at q
    exact q g H _ .refl k (.tup h3 h4)
  · have e' : ys = [] := by
      have := h4.length
      rw [e] at this
      exact List.eq_nil_of_length_eq_zero this
    rw [e', List.append_nil] at q
    exact q g H _ .refl k (.tup h1 h2)
  · have x2 := ext_new (P := P) (w := m.w) (o := .tup (vs ++ us)) hp k
    exact q g _ _ x2 (gok_new hp k) (.tup (.of upd_same) ((h2.append h4).ext x2 k))
theorem binD_ok {o : BO} (h : binD o d f = some x) (r1 : RW W g H d v) (r2 : RW W g H f u) (k : GOk W g H m) {Hb : Hp} (dm : ∀ a, H a = none → Hb a = none)
    (q : ∀ g' H' z, Ext P g g' H H' m.w m.w → GOk W g' H' m → RV W Hb g' H' x z → Q z H') : rBin W.K o v u H Q := by
  unfold binD at h
  split at h
  · rename_i i j
    have e1 := r1.int_
    have e2 := r2.int_
    subst e1 e2
    cases hk : binI o i j with
    | none => rw [hk] at h; cases h
    | some n =>
      rw [hk] at h
      cases h
      exact binI_ok hk (q g H _ .refl k (.int n))
  · rename_i xs ys
    cases o with
    | add =>
      simp only at h
      split at h
      · cases h
        obtain ⟨a, vs, rfl, h1, h2⟩ := r1.lst_
        obtain ⟨b, us, rfl, h3, h4⟩ := r2.lst_
        refine .inr (.inl ⟨a, b, vs, us, rfl, rfl, h1, h3, by rw [← h2.length, ← h4.length]; assumption, fun p hp => ?_⟩)
        have x2 := ext_new (P := P) (w := m.w) (o := .lst (vs ++ us)) hp k
        exact q g _ _ x2 (gok_new hp k) ⟨_, p, _, rfl, rfl, upd_same, (h2.append h4).ext x2 k, k.nofz hp, k.noρ hp, dm p hp⟩
      · cases h
    | _ => cases h
  · rename_i xs ys
    cases o with
    | add =>
      simp only at h
      split at h
      · cases h
        exact .inr (.inr (.inl (cat_ok (by assumption) r1 r2 k q)))
      · cases h
    | _ => cases h
  · rename_i xs ys
    cases o with
    | add =>
      simp only at h
      split at h
      · cases h
        have e1 := r1.str_
        have e2 := r2.str_
        subst e1 e2
        exact .inr (.inr (.inr ⟨_, _, rfl, rfl, by assumption, q g H _ .refl k (.str _)⟩))
      · cases h
    | _ => cases h
  · rename_i xs n
    cases o with
    | mul =>
      simp only at h
      split at h
      · rename_i hc
        cases h
        have e2 := r2.int_
        subst e2
        obtain ⟨a, vs, rfl, h1, h2⟩ := r1.tup_
        obtain ⟨c1, c2, c3, c4⟩ := hc
        by_cases n1 : n = 1
        · subst n1
          have e1 : (List.replicate (1 : Int).toNat xs).flatten = xs := by show (xs ++ [] : List D) = xs; rw [List.append_nil]
          rw [e1] at q
          exact .inr (.inr ⟨a, vs, rfl, rfl, h1, q g H _ .refl k (.tup h1 h2)⟩)
        · refine .inr (.inl ⟨a, n, vs, rfl, rfl, h1, fun e => ?_, by omega, c3, by rw [← h2.length]; exact c4, fun p hp => ?_⟩)
          · have := h2.length
            rw [e] at this
            exact c1 (List.eq_nil_of_length_eq_zero this)
          · have x2 := ext_new (P := P) (w := m.w) (o := .tup (List.replicate n.toNat vs).flatten) hp k
            exact q g _ _ x2 (gok_new hp k) (.tup (.of upd_same) ((h2.flat _).ext x2 k))
      · cases h
    | _ => cases h
  · cases h
end
theorem sn_bin {o : BO} (hK : X.K = E.W.K) (ha : PE X e1 (TEo E a)) (hb : PE X e2 (TEo E b)) : PE X (.BinOp e1 (opOf o) e2 pos) (TEo E (.bin o a b)) :=
  (pe_op (op_bin o) ha hb).imp fun σ H Q ⟨P, g, S, m, hS, h⟩ => by
    simp only [evE] at h
    refine ⟨P, g, S, m, hS, h.bind.mono fun x m1 g1 H1 x1 k1 h1 v hv => ⟨P, g1, S, m1, hS.ext x1 k1, h1.bind.mono fun y m2 g2 H2 x2 k2 h2 u hu => ?_⟩⟩
    cases hr : binD o x.1 y.1 with
    | none => rw [hr] at h2; exact h2.elim
    | some z =>
      rw [hr] at h2
      rw [hK]
      exact binD_ok (P := P) hr (hv.weak.ext x2 k1) hu.weak k2 (fun a => (x1.trans x2).none) fun g' H' z x3 k3 r => h2 g' H' x3 k3 z r
theorem sn_neg (ha : PE X e (TEo E a)) : PE X (.UnaryOp .USub e pos) (TEo E (.neg a)) := (pe_un un_neg ha).imp fun σ H Q ⟨P, g, S, m, hS, h⟩ => by
  simp only [evE] at h
  refine ⟨P, g, S, m, hS, h.bind.mono fun x m1 g1 H1 x1 k1 h1 v hv => ?_⟩
  split at h1
  · rename_i i hi
    have e1 : v = .int i := by
      have := hv.weak
      rw [hi] at this
      exact this.int_
    exact ⟨i, e1, h1 g1 H1 .refl k1 _ (.int _)⟩
  · exact h1.elim
end
end OD

set_option Elab.async false
set_option autoImplicit false
set_option linter.all false
set_option maxRecDepth 100000
set_option maxHeartbeats 4000000
/-! My own layer, part 4: comparisons, tests, built-ins, slices. -/
namespace OD
open PySem PySem.Spec PyProof.Rows L2
theorem SatR.rv {W : Wd} {P : Addr → Prop} {g : Gh} {H Hb H1 : Hp} {w : Nat} {Ex : Nat → Addr → Hp → Prop} {r : Res (D × Kd)} {Q : VK}
    (h : SatR W P g H w Ex r (fun x _ g' H' => ∀ v, RV W Hb g' H' x v → Q v H')) (l : ∀ a, Hb a ≠ none → H1 a ≠ none) : SatR W P g H w Ex r (fun x _ g' H' => ∀ v, RV W H1 g' H' x v → Q v H') :=
  h.mono fun _ _ _ _ _ _ q v hv => q v (hv.base l)

/-! ### comparisons -/
/-- x in a tuple of data -/
def rInT (K : PySem.W.Frag) (neg : Bool) : R2 := fun x y H Q => ∃ d ds, Dp K H x d ∧ Dp K H y (.tuple ds) ∧ SeqAt.shaped d = true ∧ SeqAt.shaped (.tuple ds) = true ∧ Q (.bl (if neg = true then !ds.any fun z => PyData.eqv z d else ds.any fun z => PyData.eqv z d)) H
theorem op_inT {X : Cx} (hu : X.A.units + 65 < cLine) : OpR X (compareOp .In) (rInT X.K false) := by
  intro pins s σ H x y v u Q I rx ry ⟨d, ds, h1, h2, s1, s2, q⟩
  obtain ⟨as, r1⟩ := Dp.reads I d x v h1 rx
  obtain ⟨bs, r2⟩ := Dp.reads I (.tuple ds) y u h2 ry
  exact SeqAt.in_tuple_reads r2 r1 (SeqAt.canLay_of_shaped s2) (SeqAt.canLay_of_shaped s1) (room_in_shaped s1 hu) ⟨.bl _, H, I, rfl, q⟩
theorem op_ninT {X : Cx} (hu : X.A.units + 65 < cLine) : OpR X (compareOp .NotIn) (rInT X.K true) := by
  intro pins s σ H x y v u Q I rx ry ⟨d, ds, h1, h2, s1, s2, q⟩
  obtain ⟨as, r1⟩ := Dp.reads I d x v h1 rx
  obtain ⟨bs, r2⟩ := Dp.reads I (.tuple ds) y u h2 ry
  exact SeqAt.notIn_tuple_reads r2 r1 (SeqAt.canLay_of_shaped s2) (SeqAt.canLay_of_shaped s1) (room_in_shaped s1 hu) ⟨.bl _, H, I, rfl, q⟩
/-! a dict's keys -/
theorem map_inl {k : List Int} : (k.map (Sum.inl (β := Str))).map kV = k.map V.int := by
  rw [List.map_map]
  rfl
theorem inl_inj {j k : List Int} : (j.map (Sum.inl (β := Str)) = k.map Sum.inl) ↔ j = k := by
  constructor
  · intro h
    have := congrArg (List.map fun x : Key => match x with | .inl i => i | .inr _ => 0) h
    simpa [List.map_map, Function.comp_def] using this
  · rintro rfl; rfl
theorem has_I {ks : List (List Int)} {k : List Int} : (valV (kvI ks) (Sum.inl (k.headD 0) : Key)).isSome = hasK false ks k := by
  rw [← valV_any]
  unfold kvI hasK
  rw [List.any_map]
  congr 1
  funext j
  show decide ((Sum.inl (j.headD 0) : Key) = Sum.inl (k.headD 0)) = decide (j.headD 0 = k.headD 0)
  rw [decide_eq_decide]
  exact ⟨fun z => by injection z, fun z => by rw [z]⟩
theorem has_T {ks : List (List Int)} {k : List Int} : (valV (kvT ks) (k.map (Sum.inl (β := Str)))).isSome = hasK true ks k := by
  rw [← valV_any]
  unfold kvT hasK
  rw [List.any_map]
  congr 1
  funext j
  show decide (j.map (Sum.inl (β := Str)) = k.map Sum.inl) = decide (j = k)
  rw [decide_eq_decide]
  exact inl_inj
/-- what stands for a key -/
def KeyV (K : PySem.W.Frag) (H : Hp) : Bool → List Int → V → Prop
  | true, k, x => ∃ c, x = .ref c ∧ SqT K H c (k.map V.int)
  | false, k, x => x = .int (k.headD 0)
def rInK (K : PySem.W.Frag) (neg : Bool) : R2 := fun x y H Q => ∃ a b ks k, y = .ref a ∧ Rd H a (dkO b ks) ∧ KeyV K H b k x ∧ Q (.bl (if neg = true then !hasK b ks k else hasK b ks k)) H
theorem is_key {X : Cx} {pins : List (Addr × Obj)} {σ : L2.St} {H : Hp} {s : Shared} {c : Addr} {k : List Int} (I : Inv X pins σ H s) (h : SqT X.K H c (k.map V.int)) : (tupleKind (mixKind X.prog X.w)).is s.heap (k.map Sum.inl) c := by
  obtain ⟨us, rv, tu, _⟩ := I.tuple h
  obtain ⟨ob, g1, g2, cap, g3⟩ := tu
  rw [← map_inl] at rv
  exact ⟨ob, us.toArray, cap, g1, g2, g3, by simpa using items_are (P := X.prog) (w := X.w) rv⟩
theorem op_inK {X : Cx} (hu : X.A.units + 1 < cLine) : OpR X (compareOp .In) (rInK X.K false) := by
  intro pins s σ H x y v u Q I rx ry ⟨a, b, ks, k, ey, hd, kx, q⟩
  subst ey
  cases (show u = Value.ref a from ry)
  cases b with
  | false =>
    have kx : x = .int (k.headD 0) := kx
    subst kx
    refine d_in hu I (y := kV (.inl (k.headD 0))) (.inl ⟨kvI ks, _, hd, rfl, rfl⟩) rx fun s' I' => ⟨.bl (valV (kvI ks) _).isSome, H, I', rfl, ?_⟩
    rw [has_I]; exact q
  | true =>
    obtain ⟨c, rfl, hc⟩ := kx
    cases (show v = Value.ref c from rx)
    obtain ⟨_, lo, es, rel, dd⟩ := dt_rd I.hok (show Rd H a (.dT (kvT ks)) from hd)
    refine wpAny_in_heap (tupleKind_room_in1 hu) (is_key I hc) lo dd ⟨.bl (atKey es (k.map Sum.inl)).isSome, H, I.tok _, rfl, ?_⟩
    have e := (rel.val (k.map Sum.inl)).isSome_eq
    rw [Option.isSome_map, has_T] at e
    rw [← e]; exact q
theorem op_ninK {X : Cx} (hu : X.A.units + 1 < cLine) : OpR X (compareOp .NotIn) (rInK X.K true) := by
  intro pins s σ H x y v u Q I rx ry ⟨a, b, ks, k, ey, hd, kx, q⟩
  subst ey
  cases (show u = Value.ref a from ry)
  cases b with
  | false =>
    have kx : x = .int (k.headD 0) := kx
    subst kx
    refine d_notIn hu I (y := kV (.inl (k.headD 0))) (.inl ⟨kvI ks, _, hd, rfl, rfl⟩) rx fun s' I' => ⟨.bl (!(valV (kvI ks) _).isSome), H, I', rfl, ?_⟩
    rw [has_I]; exact q
  | true =>
    obtain ⟨c, rfl, hc⟩ := kx
    cases (show v = Value.ref c from rx)
    obtain ⟨_, lo, es, rel, dd⟩ := dt_rd I.hok (show Rd H a (.dT (kvT ks)) from hd)
    refine wpAny_notIn_heap (tupleKind_room_in1 hu) (is_key I hc) lo dd ⟨.bl (!(atKey es (k.map Sum.inl)).isSome), H, I.tok _, rfl, ?_⟩
    have e := (rel.val (k.map Sum.inl)).isSome_eq
    rw [Option.isSome_map, has_T] at e
    rw [← e]; exact q
def rCm0 (K : PySem.W.Frag) : CO → R2
  | .inn => fun x y H Q => rInT K false x y H Q ∨ (rInD K x y H Q ∨ (rIn K false x y H Q ∨ (fun x y H Q => ∃ i j, x = .str i ∧ y = .str j ∧ Q (.bl (!(Builtin.Str.occurrences j i 0 j.length 1).isEmpty)) H) x y H Q))
  | .nin => fun x y H Q => rInT K true x y H Q ∨ (rNotInD K x y H Q ∨ (rIn K true x y H Q ∨ (fun x y H Q => ∃ i j, x = .str i ∧ y = .str j ∧ Q (.bl (!(!(Builtin.Str.occurrences j i 0 j.length 1).isEmpty))) H) x y H Q))
  | _ => fun _ _ _ _ => False
def rCm (K : PySem.W.Frag) : CO → R2
  | .eq => fun x y H Q => rEqD K x y H Q ∨ rEq x y H Q
  | .ne => fun x y H Q => rNeD K x y H Q ∨ rNe x y H Q
  | .lt => rI0 fun i j => .bl (decide (i < j))
  | .le => rI0 fun i j => .bl (decide (i ≤ j))
  | .gt => rI0 fun i j => .bl (decide (j < i))
  | .ge => rI0 fun i j => .bl (decide (j ≤ i))
  | .inn => fun x y H Q => rCm0 K .inn x y H Q ∨ rInK K false x y H Q
  | .nin => fun x y H Q => rCm0 K .nin x y H Q ∨ rInK K true x y H Q
  | .iss => fun x y H Q => y = .non ∧ Q (.bl (decide (x = .non))) H
  | .nis => fun x y H Q => y = .non ∧ Q (.bl (!decide (x = .non))) H
def coOf : CO → CmpOp
  | .eq => .Eq | .ne => .NotEq | .lt => .Lt | .le => .LtE | .gt => .Gt | .ge => .GtE | .inn => .In | .nin => .NotIn | .iss => .Is | .nis => .IsNot
theorem op_cmp {X : Cx} (hu : X.A.units + 65 < cLine) : ∀ o : CO, OpR X (compareOp (coOf o)) (rCm X.K o)
  | .eq => (op_eqD (by omega)).or op_eq
  | .ne => (op_neD (by omega)).or op_ne
  | .lt => op_lt
  | .le => op_le
  | .gt => op_gt
  | .ge => op_ge
  | .inn => ((op_inT hu).or ((op_inD hu).or (op_in_seq.or op_in_str))).or (op_inK (by omega))
  | .nin => ((op_ninT hu).or ((op_notInD hu).or (op_notIn_seq.or op_notin_str))).or (op_ninK (by omega))
  | .iss => op_isN
  | .nis => op_notN
section
variable {W : Wd} {P : Addr → Prop} {g : Gh} {H : Hp} {m : MS} {v u : V} {d f : D} {Q : VK}
theorem RW.isNon (r : RW W g H d v) : decide (v = .non) = OD.isNon d := by
  cases d with
  | non => rw [r.non_]; rfl
  | bl b => rw [r.bl_]; rfl
  | int b => rw [r.int_]; rfl
  | str b => rw [r.str_]; rfl
  | tup ds => obtain ⟨a, _, e, _⟩ := r.tup_; rw [e]; rfl
  | lst ds => obtain ⟨a, _, e, _⟩ := r.lst_; rw [e]; rfl
  | scr ns => obtain ⟨a, e, _⟩ := r.scr_; rw [e]; rfl
  | ref n => obtain ⟨a, e, _⟩ := r.ref_; rw [e]; rfl
  | fn i =>
    rcases r with r | ⟨_, _, _, h, _⟩
    · cases r; rfl
    · cases h
  | cls i =>
    rcases r with r | ⟨_, _, _, h, _⟩
    · cases r; rfl
    · cases h
  | ins i ds =>
    rcases r with r | ⟨_, _, _, h, _⟩
    · cases r; rfl
    · cases h
  | exv i ds =>
    rcases r with r | ⟨_, _, _, h, _⟩
    · cases r; rfl
    · cases h
  | dct b ks => obtain ⟨a, _, e, _⟩ := r.dct_; rw [e]; rfl
theorem inD_old {b neg : Bool} (h : inD d f = some b) (hn : ∀ b ks, f ≠ .dct b ks) (r1 : RW W g H d v) (r2 : RW W g H f u) (q : Q (.bl (if neg = true then !b else b)) H) : rCm0 W.K (if neg = true then .nin else .inn) v u H Q := by
  unfold inD at h
  split at h
  · rename_i es
    split at h
    · rename_i hc
      have e := Option.some.inj h
      have s2 : SeqAt.shaped (D.lst es).py = true := okD_shaped hc.2 (by decide)
      have p2 := r2.dp hc.2
      rw [D.py] at s2 p2
      have hany : (pys es).any (fun z => PyData.eqv z d.py) = b := by
        rw [pys_map, List.any_map]; exact e
      have s1 := okD_shaped hc.1 (by decide)
      have p1 := r1.dp hc.1
      cases neg with
      | false => exact .inr (.inl ⟨d.py, pys es, p1, p2, s1, s2, by rw [hany]; exact q⟩)
      | true => exact .inr (.inl ⟨d.py, pys es, p1, p2, s1, s2, by rw [hany]; exact q⟩)
    · cases h
  · rename_i es
    split at h
    · rename_i hc
      have e := Option.some.inj h
      obtain ⟨a, us, rfl, h1, h2⟩ := r2.tup_
      have r1' : RelD W g H d v := by
        rcases r1 with r | ⟨ds, _, _, h, _⟩
        · exact r
        · subst h; exact absurd hc.1 (by simp [flatD])
      have hin : inV v us = b := (inV_py hc.1 r1' hc.2 h2).trans e
      cases neg with
      | false => exact .inr (.inr (.inl ⟨a, us, rfl, .inr h1, flat_rel hc.1 r1', flat_rels hc.2 h2, by rw [hin]; exact q⟩))
      | true => exact .inr (.inr (.inl ⟨a, us, rfl, .inr h1, flat_rel hc.1 r1', flat_rels hc.2 h2, by rw [hin]; exact q⟩))
    · split at h
      · rename_i hc
        have e := Option.some.inj h
        have s2 : SeqAt.shaped (D.tup es).py = true := okD_shaped hc.2 (by decide)
        have p2 := r2.dp hc.2
        rw [D.py] at s2 p2
        have hany : (pys es).any (fun z => PyData.eqv z d.py) = b := by
          rw [pys_map, List.any_map]; exact e
        have s1 := okD_shaped hc.1 (by decide)
        have p1 := r1.dp hc.1
        refine (?_ : rInT W.K neg v u H Q → _) ⟨d.py, pys es, p1, p2, s1, s2, by rw [hany]; exact q⟩
        cases neg with
        | false => exact fun z => .inl z
        | true => exact fun z => .inl z
      · cases h
  · split at h
    · rename_i y x
      have e := Option.some.inj h
      have e1 := r1.str_
      have e2 := r2.str_
      subst e1 e2
      cases neg with
      | false => exact .inr (.inr (.inr ⟨_, _, rfl, rfl, by rw [e]; exact q⟩))
      | true => exact .inr (.inr (.inr ⟨_, _, rfl, rfl, by rw [e]; exact q⟩))
    · cases h
  · exact absurd rfl (hn _ _)
  · cases h
theorem keyL_ok {b : Bool} {k : List Int} (h : keyL b d = some k) (r : RW W g H d v) : KeyV W.K H b k v := by
  cases b with
  | true =>
    cases d with
    | tup ds =>
      obtain ⟨a, us, rfl, h1, h2⟩ := r.tup_
      rw [h2.of_ints h] at h1
      exact ⟨a, rfl, h1⟩
    | _ => cases h
  | false =>
    cases d with
    | int i => cases h; exact r.int_
    | _ => cases h
theorem inD_ok {b neg : Bool} (h : inD d f = some b) (r1 : RW W g H d v) (r2 : RW W g H f u) (q : Q (.bl (if neg = true then !b else b)) H) : rCm W.K (if neg = true then .nin else .inn) v u H Q := by
  by_cases hf : ∃ b ks, f = .dct b ks
  · obtain ⟨c, ks, rfl⟩ := hf
    obtain ⟨a, o, rfl, ha⟩ := r2.dct_
    obtain ⟨k, hk, rfl⟩ := Option.map_eq_some_iff.mp (show (keyL c d).map (fun k => hasK c ks k) = some b from h)
    have z : rInK W.K neg v (.ref a) H Q := ⟨a, c, ks, k, rfl, .inr ⟨o, ha⟩, keyL_ok hk r1, q⟩
    cases neg with
    | false => exact .inr z
    | true => exact .inr z
  · have z := inD_old (neg := neg) h (fun b ks e => hf ⟨b, ks, e⟩) r1 r2 q
    cases neg with
    | false => exact .inl z
    | true => exact .inl z
theorem dec_strV {x y : Str} : decide (V.str x = V.str y) = decide (x = y) := by
  rw [Bool.eq_iff_iff]; simp
theorem cmpD_ok {o : CO} {b : Bool} (h : cmpD o d f = some b) (r1 : RW W g H d v) (r2 : RW W g H f u) (q : Q (.bl b) H) : rCm W.K o v u H Q := by
  have eqc : ∀ {b : Bool}, eqD d f = some b → (∃ x y : Str, d = .str x ∧ f = .str y ∧ decide (x = y) = b) ∨ (Dp W.K H v d.py ∧ Dp W.K H u f.py ∧ SeqAt.shaped d.py = true ∧ SeqAt.shaped f.py = true ∧ PyData.eqv d.py f.py = b) := fun {b} h => by
    unfold eqD at h
    split at h
    · exact .inl ⟨_, _, rfl, rfl, Option.some.inj h⟩
    · split at h
      · rename_i hc
        exact .inr ⟨r1.dp hc.1, r2.dp hc.2, okD_shaped hc.1 (by decide), okD_shaped hc.2 (by decide), Option.some.inj h⟩
      · cases h
  have twoI : ∀ {o : CO}, cmpN o d f = some b → ∃ i j, d = .int i ∧ f = .int j ∧ cmpI o i j = some b := fun {o} h => by
    unfold cmpN at h
    split at h
    · exact ⟨_, _, rfl, rfl, h⟩
    · cases h
  cases o with
  | eq =>
    rcases eqc h with ⟨x, y, rfl, rfl, h5⟩ | ⟨h1, h2, h3, h4, h5⟩
    · have e1 := r1.str_
      have e2 := r2.str_
      subst e1 e2
      exact .inr ⟨rfl, by rw [dec_strV, h5]; exact q⟩
    · exact .inl ⟨_, _, h1, h2, h3, h4, by rw [h5]; exact q⟩
  | ne =>
    have h : (eqD d f).map not = some b := h
    cases he : eqD d f with
    | none => rw [he] at h; cases h
    | some c =>
      rw [he] at h
      have hb : (!c) = b := Option.some.inj h
      rcases eqc he with ⟨x, y, rfl, rfl, h5⟩ | ⟨h1, h2, h3, h4, h5⟩
      · have e1 := r1.str_
        have e2 := r2.str_
        subst e1 e2
        exact .inr ⟨rfl, by rw [dec_strV, h5, hb]; exact q⟩
      · exact .inl ⟨_, _, h1, h2, h3, h4, by rw [h5, hb]; exact q⟩
  | inn => exact inD_ok (neg := false) h r1 r2 q
  | nin =>
    have h : (inD d f).map not = some b := h
    cases he : inD d f with
    | none => rw [he] at h; cases h
    | some c =>
      rw [he] at h
      exact inD_ok (neg := true) he r1 r2 (by rw [if_pos rfl, show (!c) = b from Option.some.inj h]; exact q)
  | iss =>
    have h : (if isNon f = true then some (isNon d) else none) = some b := h
    split at h
    · rename_i hc
      rw [← r2.isNon] at hc
      exact ⟨of_decide_eq_true hc, by rw [r1.isNon, Option.some.inj h]; exact q⟩
    · cases h
  | nis =>
    have h : (if isNon f = true then some (!isNon d) else none) = some b := h
    split at h
    · rename_i hc
      rw [← r2.isNon] at hc
      exact ⟨of_decide_eq_true hc, by rw [r1.isNon, Option.some.inj h]; exact q⟩
    · cases h
  | lt =>
    obtain ⟨i, j, rfl, rfl, e⟩ := twoI (o := .lt) h
    exact ⟨i, j, r1.int_, r2.int_, by show Q (.bl (decide (i < j))) H; rw [show decide (i < j) = b from Option.some.inj e]; exact q⟩
  | le =>
    obtain ⟨i, j, rfl, rfl, e⟩ := twoI (o := .le) h
    exact ⟨i, j, r1.int_, r2.int_, by show Q (.bl (decide (i ≤ j))) H; rw [show decide (i ≤ j) = b from Option.some.inj e]; exact q⟩
  | gt =>
    obtain ⟨i, j, rfl, rfl, e⟩ := twoI (o := .gt) h
    exact ⟨i, j, r1.int_, r2.int_, by show Q (.bl (decide (j < i))) H; rw [show decide (j < i) = b from Option.some.inj e]; exact q⟩
  | ge =>
    obtain ⟨i, j, rfl, rfl, e⟩ := twoI (o := .ge) h
    exact ⟨i, j, r1.int_, r2.int_, by show Q (.bl (decide (j ≤ i))) H; rw [show decide (j ≤ i) = b from Option.some.inj e]; exact q⟩
end
section
variable {X : Cx} {E : En} {e e1 e2 e3 : Expr} {es rest : List Expr} {a b c : T} {pos : Pos}
theorem sn_cmp {o : CO} (hK : X.K = E.W.K) (hu : X.A.units + 65 < cLine) (ha : PE X e1 (TEo E a)) (hb : PE X e2 (TEo E b)) (hm : behindInMarks (coOf o) e2 = false) : PE X (.Compare e1 [coOf o] [e2] pos) (TEo E (.cmp o a b)) :=
  (pe_cmpR (op_cmp hu o) ha hb hm).imp fun σ H Q ⟨P, g, S, m, hS, h⟩ => by
    simp only [evE] at h
    refine ⟨P, g, S, m, hS, h.bind.mono fun x m1 g1 H1 x1 k1 h1 v hv => ⟨P, g1, S, m1, hS.ext x1 k1, h1.bind.mono fun y m2 g2 H2 x2 k2 h2 u hu => ?_⟩⟩
    obtain ⟨b, e, h3⟩ := h2.optB
    rw [hK]
    exact cmpD_ok e (hv.weak.ext x2 k1) hu.weak (h3 g2 H2 .refl k2 _ (.bl b))
theorem st_cmp {o : CO} (hK : X.K = E.W.K) (hu : X.A.units + 65 < cLine) (ha : PE X e1 (TEo E a)) (hb : PE X e2 (TEo E b)) (hm : behindInMarks (coOf o) e2 = false) : PT X (.Compare e1 [coOf o] [e2] pos) (TBo E (.cmp o a b)) :=
  (pt_cmpR (op_cmp hu o) ha hb hm).imp fun σ H Q ⟨P, g, S, m, hS, h⟩ => by
    simp only [evB] at h
    refine ⟨P, g, S, m, hS, h.bind.mono fun x m1 g1 H1 x1 k1 h1 v hv => ⟨P, g1, S, m1, hS.ext x1 k1, h1.bind.mono fun y m2 g2 H2 x2 k2 h2 u hu => ?_⟩⟩
    obtain ⟨b, e, h3⟩ := h2.opt k2
    rw [hK]
    exact cmpD_ok e (hv.weak.ext x2 k1) hu.weak ⟨b, rfl, h3⟩
theorem sn_chn {o p : CO} (hK : X.K = E.W.K) (hu : X.A.units + 65 < cLine) (ha : PE X e1 (TEo E a)) (hb : PE X e2 (TEo E b)) (hc : PE X e3 (TEo E c)) (hm : lastMarks [coOf o, coOf p] [e2, e3] = false) :
    PE X (.Compare e1 [coOf o, coOf p] [e2, e3] pos) (TEo E (.chn o p a b c)) :=
  (pe_chain (op_cmp hu o) (op_cmp hu p) ha hb hc hm).imp fun σ H Q ⟨P, g, S, m, hS, h⟩ => by
    simp only [evE] at h
    refine ⟨P, g, S, m, hS, h.bind.mono fun x m1 g1 H1 x1 k1 h1 v hv => ⟨P, g1, S, m1, hS.ext x1 k1, h1.bind.mono fun y m2 g2 H2 x2 k2 h2 u hu => ?_⟩⟩
    obtain ⟨b, e, h3⟩ := h2.optB
    rw [hK]
    refine cmpD_ok e (hv.weak.ext x2 k1) hu.weak ⟨b, rfl, ?_⟩
    cases b with
    | false => exact iteF (h3 g2 H2 .refl k2 _ (.bl _))
    | true =>
      have h3 : SatR E.W P g2 H2 m2.w (E.ex σ) (bindR (evE E.gl E.cf c S m2) _) _ := h3
      refine iteT ⟨P, g2, S, m2, (hS.ext x1 k1).ext x2 k2, h3.bind.mono fun z m3 g3 H3 x3 k3 h4 t ht => ?_⟩
      obtain ⟨b, e, h5⟩ := h4.optB
      exact cmpD_ok e (hu.weak.ext x3 k2) ht.weak (h5 g3 H3 .refl k3 _ (.bl b))
theorem st_chn {o p : CO} (hK : X.K = E.W.K) (hu : X.A.units + 65 < cLine) (ha : PE X e1 (TEo E a)) (hb : PE X e2 (TEo E b)) (hc : PE X e3 (TEo E c)) (hm : lastMarks [coOf o, coOf p] [e2, e3] = false) :
    PT X (.Compare e1 [coOf o, coOf p] [e2, e3] pos) (TBo E (.chn o p a b c)) :=
  (pt_chain (op_cmp hu o) (op_cmp hu p) ha hb hc hm).imp fun σ H Q ⟨P, g, S, m, hS, h⟩ => by
    simp only [evB] at h
    refine ⟨P, g, S, m, hS, h.bind.mono fun x m1 g1 H1 x1 k1 h1 v hv => ⟨P, g1, S, m1, hS.ext x1 k1, h1.bind.mono fun y m2 g2 H2 x2 k2 h2 u hu => ?_⟩⟩
    obtain ⟨b, e, h3⟩ := h2.optB
    rw [hK]
    refine cmpD_ok e (hv.weak.ext x2 k1) hu.weak ⟨b, rfl, ?_⟩
    cases b with
    | false => exact iteF ⟨false, rfl, h3 g2 H2 .refl k2⟩
    | true =>
      have h3 : SatR E.W P g2 H2 m2.w (E.ex σ) (bindR (evE E.gl E.cf c S m2) _) _ := h3
      refine iteT ⟨P, g2, S, m2, (hS.ext x1 k1).ext x2 k2, h3.bind.mono fun z m3 g3 H3 x3 k3 h4 t ht => ?_⟩
      obtain ⟨b, e, h5⟩ := h4.opt k3
      exact cmpD_ok e (hu.weak.ext x3 k2) ht.weak ⟨b, rfl, h5⟩

/-! ### truth -/
theorem truD_ok {W : Wd} {g : Gh} {H : Hp} {m : MS} {v : V} {d : D} {b : Bool} (h : truD d m = some b) (r : RW W g H d v) (k : GOk W g H m) : TruV W.K v H b := by
  have emp : ∀ {ds : List D} {vs : List V}, RelDs W g H ds vs → (!ds.isEmpty) = !vs.isEmpty := fun r => by cases r <;> rfl
  cases d with
  | non => rw [r.non_]; exact (Option.some.inj h).symm
  | bl c => rw [r.bl_]; exact (Option.some.inj h).symm
  | int i => rw [r.int_]; exact (Option.some.inj h).symm
  | str x =>
    rw [r.str_]
    simp only [truD] at h
    split at h
    · exact ⟨by assumption, (Option.some.inj h).symm⟩
    · cases h
  | tup ds =>
    obtain ⟨a, vs, rfl, h1, h2⟩ := r.tup_
    exact .inr (.inl ⟨vs, h1, by rw [← emp h2]; exact (Option.some.inj h).symm⟩)
  | lst ds =>
    obtain ⟨a, vs, rfl, h1, h2⟩ := r.lst_
    exact .inl ⟨vs, .of h1, by rw [← emp h2]; exact (Option.some.inj h).symm⟩
  | scr ns =>
    obtain ⟨a, rfl, h1⟩ := r.scr_
    refine .inl ⟨_, h1.sq, ?_⟩
    rw [← Option.some.inj h]
    cases ns <;> rfl
  | ref n =>
    simp only [truD] at h
    split at h
    · rename_i es he
      obtain ⟨a, vs, rfl, _, h1, h2⟩ := r.refO k he
      exact .inl ⟨vs, .of h1, by rw [← emp h2]; exact (Option.some.inj h).symm⟩
    · cases h
  | _ => cases h
/-- whose truth is its value's -/
def plainT : Expr → Bool
  | .UnaryOp .Not _ _ => false
  | .BoolOp _ _ _ => false
  | .IfExp _ _ _ _ => false
  | .Compare _ _ _ _ => false
  | _ => true
theorem plainT_ok {env : Env} (h : plainT e = true) (whole : Sem Value) : isTrue e env whole = (do let v ← whole; standAt e.pos; holding [v] (truthy v)) := by
  cases e with
  | UnaryOp op x p => cases op <;> first | rfl | cases h
  | BoolOp op vs p => cases h
  | IfExp a b c p => cases h
  | Compare a b c p => cases h
  | _ => rfl
theorem st_tst (hK : X.K = E.W.K) (ha : PE X e (TEo E a)) (hp : plainT e = true) : PT X e (TBo E (.tst a)) := (pt_truth ha (plainT_ok hp)).imp fun σ H Q ⟨P, g, S, m, hS, h⟩ => by
  simp only [evB] at h
  refine ⟨P, g, S, m, hS, h.bind.mono fun x m1 g1 H1 x1 k1 h1 v hv => ?_⟩
  obtain ⟨b, e, h2⟩ := h1.opt k1
  rw [hK]
  exact ⟨b, truD_ok e hv.weak k1, h2⟩
theorem st_tru {k : Nat} : PT X (.Constant (.bool true) k pos) (TBo E .tru) := (pt_val pe_bl (fun _ => rfl)).imp fun σ H Q ⟨P, g, S, m, hS, h⟩ => ⟨true, rfl, h g H .refl hS.ok⟩

/-! ### and, or, not -/
theorem st_not (ha : PT X e (TBo E a)) : PT X (.UnaryOp .Not e pos) (TBo E (.not a)) := (pt_not ha).imp fun σ H Q ⟨P, g, S, m, hS, h⟩ => by
  simp only [evB] at h
  exact ⟨P, g, S, m, hS, h.bind.mono fun b m1 g1 H1 x1 k1 h1 => h1 g1 H1 .refl k1⟩
theorem sn_not (ha : PE X e (TEo E a)) : PE X (.UnaryOp .Not e pos) (TEo E (.not a)) := (pe_not ha).imp fun σ H Q ⟨P, g, S, m, hS, h⟩ => by
  simp only [evE] at h
  refine ⟨P, g, S, m, hS, h.bind.mono fun x m1 g1 H1 x1 k1 h1 v hv => ?_⟩
  split at h1
  · rename_i b hb
    have := hv.weak
    rw [hb] at this
    exact ⟨b, this.bl_, h1 g1 H1 .refl k1 _ (.bl _)⟩
  · exact h1.elim
def TAnd (E : En) (t : T) : TT := fun σ H Q => ∃ P g S m, StI E.W P g H S m σ ∧ SatR E.W P g H m.w (E.ex σ) (evAndB E.gl E.cf t S m) fun b _ _ H' => Q b H'
def TOr (E : En) (t : T) : TT := fun σ H Q => ∃ P g S m, StI E.W P g H S m σ ∧ SatR E.W P g H m.w (E.ex σ) (evOrB E.gl E.cf t S m) fun b _ _ H' => Q b H'
def TAndV (E : En) (t : T) : TE := fun σ H Q => ∃ P g S m, StI E.W P g H S m σ ∧ SatR E.W P g H m.w (E.ex σ) (evAndV E.gl E.cf t S m) fun x _ g' H' => ∀ v, RV E.W H g' H' x v → Q v H'
def TOrV (E : En) (t : T) : TE := fun σ H Q => ∃ P g S m, StI E.W P g H S m σ ∧ SatR E.W P g H m.w (E.ex σ) (evOrV E.gl E.cf t S m) fun x _ g' H' => ∀ v, RV E.W H g' H' x v → Q v H'
theorem sw_and1 (ha : PT X e (TBo E a)) : PW X (.BoolOp .And [e] pos) (TAnd E (.one a)) := (pw_and1 ha).imp fun σ H Q ⟨P, g, S, m, hS, h⟩ => ⟨P, g, S, m, hS, by simpa only [evAndB] using h⟩
theorem sw_or1 (ha : PT X e (TBo E a)) : PW X (.BoolOp .Or [e] pos) (TOr E (.one a)) := (pw_or1 ha).imp fun σ H Q ⟨P, g, S, m, hS, h⟩ => ⟨P, g, S, m, hS, by simpa only [evOrB] using h⟩
theorem sw_and {as : T} (ha : PT X e (TBo E a)) (hb : PW X (.BoolOp .And (e1 :: rest) pos) (TAnd E as)) : PW X (.BoolOp .And (e :: e1 :: rest) pos) (TAnd E (.cons a as)) := (pw_and ha hb).imp fun σ H Q ⟨P, g, S, m, hS, h⟩ => by
  simp only [evAndB] at h
  refine ⟨P, g, S, m, hS, h.bind.mono fun b m1 g1 H1 x1 k1 h1 => ?_⟩
  cases b with
  | true => exact iteT ⟨P, g1, S, m1, hS.ext x1 k1, h1⟩
  | false => exact iteF (h1 g1 H1 .refl k1)
theorem sw_or {as : T} (ha : PT X e (TBo E a)) (hb : PW X (.BoolOp .Or (e1 :: rest) pos) (TOr E as)) : PW X (.BoolOp .Or (e :: e1 :: rest) pos) (TOr E (.cons a as)) := (pw_or ha hb).imp fun σ H Q ⟨P, g, S, m, hS, h⟩ => by
  simp only [evOrB] at h
  refine ⟨P, g, S, m, hS, h.bind.mono fun b m1 g1 H1 x1 k1 h1 => ?_⟩
  cases b with
  | true => exact iteT (h1 g1 H1 .refl k1)
  | false => exact iteF ⟨P, g1, S, m1, hS.ext x1 k1, h1⟩
theorem st_ban {as : T} (h : PW X (.BoolOp .And rest pos) (TAnd E as)) : PT X (.BoolOp .And rest pos) (TBo E (.ban as)) := h.pt.imp fun σ H Q ⟨P, g, S, m, hS, h⟩ => ⟨P, g, S, m, hS, by simpa only [evB] using h⟩
theorem st_bor {as : T} (h : PW X (.BoolOp .Or rest pos) (TOr E as)) : PT X (.BoolOp .Or rest pos) (TBo E (.bor as)) := h.pt.imp fun σ H Q ⟨P, g, S, m, hS, h⟩ => ⟨P, g, S, m, hS, by simpa only [evB] using h⟩
theorem sv_and1 (ha : PE X e (TEo E a)) : PE X (.BoolOp .And [e] pos) (TAndV E (.one a)) := (pe_one ha).imp fun σ H Q ⟨P, g, S, m, hS, h⟩ => ⟨P, g, S, m, hS, by simpa only [evAndV] using h⟩
theorem sv_or1 (ha : PE X e (TEo E a)) : PE X (.BoolOp .Or [e] pos) (TOrV E (.one a)) := (pe_one ha).imp fun σ H Q ⟨P, g, S, m, hS, h⟩ => ⟨P, g, S, m, hS, by simpa only [evOrV] using h⟩
theorem sv_and {as : T} (ha : PE X e (TEo E a)) (hb : PE X (.BoolOp .And (e1 :: rest) pos) (TAndV E as)) : PE X (.BoolOp .And (e :: e1 :: rest) pos) (TAndV E (.cons a as)) := (pe_and ha hb).imp fun σ H Q ⟨P, g, S, m, hS, h⟩ => by
  simp only [evAndV] at h
  refine ⟨P, g, S, m, hS, h.bind.mono fun x m1 g1 H1 x1 k1 h1 v hv => ?_⟩
  split at h1
  · rename_i b hb
    have := hv.weak
    rw [hb] at this
    refine ⟨b, this.bl_, ?_⟩
    cases b with
    | true => exact iteT ⟨P, g1, S, m1, hS.ext x1 k1, SatR.rv (show SatR E.W P g1 H1 m1.w (E.ex σ) (evAndV E.gl E.cf as S m1) _ from h1) x1.live⟩
    | false => exact iteF (h1 g1 H1 .refl k1 _ (.bl _))
  · exact h1.elim
theorem sv_or {as : T} (ha : PE X e (TEo E a)) (hb : PE X (.BoolOp .Or (e1 :: rest) pos) (TOrV E as)) : PE X (.BoolOp .Or (e :: e1 :: rest) pos) (TOrV E (.cons a as)) := (pe_or ha hb).imp fun σ H Q ⟨P, g, S, m, hS, h⟩ => by
  simp only [evOrV] at h
  refine ⟨P, g, S, m, hS, h.bind.mono fun x m1 g1 H1 x1 k1 h1 v hv => ?_⟩
  split at h1
  · rename_i b hb
    have := hv.weak
    rw [hb] at this
    refine ⟨b, this.bl_, ?_⟩
    cases b with
    | true => exact iteT (h1 g1 H1 .refl k1 _ (.bl _))
    | false => exact iteF ⟨P, g1, S, m1, hS.ext x1 k1, SatR.rv (show SatR E.W P g1 H1 m1.w (E.ex σ) (evOrV E.gl E.cf as S m1) _ from h1) x1.live⟩
  · exact h1.elim
theorem sn_ban {as : T} (h : PE X (.BoolOp .And rest pos) (TAndV E as)) : PE X (.BoolOp .And rest pos) (TEo E (.ban as)) := h.imp fun σ H Q ⟨P, g, S, m, hS, h⟩ => ⟨P, g, S, m, hS, by simpa only [evE] using h⟩
theorem sn_bor {as : T} (h : PE X (.BoolOp .Or rest pos) (TOrV E as)) : PE X (.BoolOp .Or rest pos) (TEo E (.bor as)) := h.imp fun σ H Q ⟨P, g, S, m, hS, h⟩ => ⟨P, g, S, m, hS, by simpa only [evE] using h⟩
theorem sn_ite (hc : PT X e (TBo E c)) (ha : PE X e1 (TEo E a)) (hb : PE X e2 (TEo E b)) : PE X (.IfExp e e1 e2 pos) (TEo E (.ite c a b)) := (pe_ifExp hc ha hb).imp fun σ H Q ⟨P, g, S, m, hS, h⟩ => by
  simp only [evE] at h
  refine ⟨P, g, S, m, hS, h.bind.mono fun k m1 g1 H1 x1 k1 h1 => ?_⟩
  cases k with
  | true => exact iteT ⟨P, g1, S, m1, hS.ext x1 k1, SatR.rv (show SatR E.W P g1 H1 m1.w (E.ex σ) (evE E.gl E.cf a S m1) _ from h1) x1.live⟩
  | false => exact iteF ⟨P, g1, S, m1, hS.ext x1 k1, SatR.rv (show SatR E.W P g1 H1 m1.w (E.ex σ) (evE E.gl E.cf b S m1) _ from h1) x1.live⟩

/-! ### items, slices -/
theorem atI_ints {ns : List Int} {k : Int} {d : D} (h : atI (ns.map D.int) k = some d) : ∃ n, d = .int n ∧ atI (ns.map V.int) k = some (.int n) := by
  unfold atI at h ⊢
  rw [List.length_map] at h ⊢
  cases q : ixN ns.length k with
  | none => rw [q] at h; cases h
  | some j =>
    rw [q] at h
    have h : (ns.map D.int)[j]? = some d := h
    rw [List.getElem?_map] at h
    cases z : ns[j]? with
    | none => rw [z] at h; cases h
    | some n =>
      rw [z] at h
      refine ⟨n, (Option.some.inj h).symm, ?_⟩
      show (ns.map V.int)[j]? = _
      rw [List.getElem?_map, z]; rfl
theorem sn_idx (hK : X.K = E.W.K) (ha : PE X e1 (TEo E a)) (hb : PE X e2 (TEo E b)) (hs : PlainIx e2) : PE X (.Subscript e1 e2 pos) (TEo E (.idx a b)) := (pe_ix ix_seq ha hb hs).imp fun σ H Q ⟨P, g, S, m, hS, h⟩ => by
  simp only [evE] at h
  refine ⟨P, g, S, m, hS, h.bind.mono fun x m1 g1 H1 x1 k1 h1 v hv => ⟨P, g1, S, m1, hS.ext x1 k1, h1.bind.mono fun y m2 g2 H2 x2 k2 h2 u hu => ?_⟩⟩
  obtain ⟨z, e, h3⟩ := h2.opt k2
  have r1 := hv.weak.ext x2 k1
  have r2 := hu.weak
  rw [hK]
  cases hi : idxD x.1 y.1 m2 with
  | none => rw [hi] at e; cases e
  | some d =>
    rw [hi] at e
    cases e
    unfold idxD at hi
    split at hi
    · rename_i k hk
      rw [hk] at r2
      have e2 := r2.int_
      subst e2
      split at hi
      · rename_i s hs'
        rw [hs'] at r1
        have e1 := r1.str_
        subst e1
        split at hi
        · cases hc : atI s.cps.toList k with
          | none => rw [hc] at hi; cases hi
          | some c =>
            rw [hc] at hi
            cases hi
            exact .inr (.inr ⟨s, k, c, rfl, rfl, by assumption, hc, h3 _ (.str _)⟩)
        · cases hi
      · cases hit : itemsD x.1 m2 with
        | none => rw [hit] at hi; cases hi
        | some ds =>
          rw [hit] at hi
          have hi : atI ds k = some d := hi
          obtain ⟨p, vs, rfl, hq, hr⟩ := r1.seq k2 hit
          obtain ⟨w', hw, rw'⟩ := hr.atI hi
          rcases hq with hq | hq
          · exact .inl ⟨p, vs, k, w', rfl, rfl, hq, hw, h3 _ rw'⟩
          · exact .inr (.inl ⟨p, vs, k, w', rfl, rfl, hq, hw, h3 _ rw'⟩)
    · cases hi
theorem sn_pnon : PO X none (TPo E .non) := ⟨fun pins s σ H Q I ⟨P, g, S, m, hS, h⟩ => po_none.run pins s σ H Q I (h g H .refl hS.ok)⟩
theorem sn_prt (ha : PE X e (TEo E a)) : PO X (some e) (TPo E (.prt a)) := ⟨fun pins s σ H Q I ⟨P, g, S, m, hS, h⟩ => (po_some ha).run pins s σ H Q I (by
  simp only [evP] at h
  refine ⟨P, g, S, m, hS, h.bind.mono fun x m1 g1 H1 x1 k1 h1 v hv => ?_⟩
  split at h1
  · rename_i i hi
    have := hv.weak
    rw [hi] at this
    exact ⟨i, this.int_, h1 g1 H1 .refl k1⟩
  · exact h1.elim)⟩
theorem sn_slc {lo hi : Option Expr} {tl th : T} {p2 : Pos} (hK : X.K = E.W.K) (ha : PE X e (TEo E a)) (hl : PO X lo (TPo E tl)) (hh : PO X hi (TPo E th)) : PE X (.Subscript e (.Slice lo hi none p2) pos) (TEo E (.slc a tl th)) :=
  (pe_slice (sl_list.or (sl_tupA.or sl_str)) ha hl hh).imp fun σ H Q ⟨P, g, S, m, hS, h⟩ => by
    simp only [evE] at h
    refine ⟨P, g, S, m, hS, h.bind.mono fun x m1 g1 H1 x1 k1 h1 v hv => ⟨P, g1, S, m1, hS.ext x1 k1, h1.bind.mono fun l m2 g2 H2 x2 k2 h2 =>
      ⟨P, g2, S, m2, (hS.ext x1 k1).ext x2 k2, h2.bind.mono fun u m3 g3 H3 x3 k3 h3 => ?_⟩⟩⟩
    have r1 := (hv.weak.ext x2 k1).ext x3 k2
    rw [hK]
    cases hi : slcD x.1 l u with
    | none => rw [hi] at h3; exact h3.elim
    | some z =>
      rw [hi] at h3
      have new : ∀ {vs us : List V} {es : List D}, z = (.lst es, .own) → RelDs E.W g3 H3 es us → ∀ p, H3 p = none → Q (.ref p) (upd H3 p (.lst us)) := fun {vs us es} ez r p hp => by
        subst ez
        have x4 := ext_new (P := P) (w := m3.w) (o := .lst us) hp k3
        exact h3 g3 _ x4 (gok_new hp k3) _ ⟨es, p, us, rfl, rfl, upd_same, r.ext x4 k3, k3.nofz hp, k3.noρ hp, ((x1.trans x2).trans x3).none hp⟩
      unfold slcD at hi
      split at hi
      · rename_i ds hd
        cases hi
        rw [hd] at r1
        obtain ⟨p, vs, rfl, hq, hr⟩ := r1.tup_
        refine .inr (.inl ⟨p, vs, rfl, hq, fun hw => ?_, fun _ q hq' => ?_⟩)
        · refine h3 g3 H3 .refl k3 _ ?_
          have : cutD ds l u = ds := by
            unfold cutD
            rw [hr.length, hw.1, hw.2, List.drop_zero, Nat.sub_zero, ← hr.length, List.take_length]
          show RelD E.W g3 H3 (.tup (cutD ds l u)) _
          rw [this]
          exact .tup hq hr
        · have x4 := ext_new (P := P) (w := m3.w) (o := .tup (cutV vs l u)) hq' k3
          exact h3 g3 _ x4 (gok_new hq' k3) _ (RelD.tup (.of upd_same) ((hr.cut l u).ext x4 k3))
      · rename_i ds hd
        cases hi
        rw [hd] at r1
        obtain ⟨p, vs, rfl, hq, hr⟩ := r1.lst_
        exact .inl ⟨p, vs, rfl, .of hq, new (vs := vs) rfl (hr.cut l u)⟩
      · rename_i ns hd
        cases hi
        rw [hd] at r1
        obtain ⟨p, rfl, hq⟩ := r1.scr_
        exact .inl ⟨p, _, rfl, hq.sq, new (vs := []) rfl ((RelDs.ints ns).cut l u)⟩
      · rename_i z' hd
        split at hi
        · cases hi
          rw [hd] at r1
          rw [r1.str_]
          exact .inr (.inr ⟨z', rfl, by assumption, h3 g3 H3 .refl k3 _ (RelD.str _)⟩)
        · cases hi
      · cases hi
end
end OD

set_option Elab.async false
set_option autoImplicit false
set_option linter.all false
set_option maxRecDepth 100000
set_option maxHeartbeats 4000000
/-! My own layer, part 20: sorted() over dicts and lists, of numbers and of pairs of numbers, any number of them. -/
namespace OD
open PySem PySem.Spec PyProof.Rows L2

/-! ### sorted() over what is collected -/
section
variable {prog : Program} {w : World} {A : Around} {E : Value → Shared → Prop} {s : Shared} {r : Value} {n : Nat} {P : Nat → Value → Prop} {lt : Value → Value → Bool} {Q : Value → Shared → Prop}
/-- the items that come, n of them, each with P at its place -/
def Items (P : Nat → Value → Prop) (n : Nat) (vs : List Value) : Prop := vs.length = n ∧ ∀ (j : Nat) v, vs[j]? = some v → P j v
theorem sorted_items (O : SrtO.Swo lt) (few : n ≤ sizeLine)
    (col : ∀ R : List Value → Shared → Prop, (∀ (h1 : Heap) (tk : Nat) (vs : List Value), (∀ b o, s.heap.get? b = some o → h1.get? b = some o) → Items P n vs → R vs { s with heap := h1, toks := tk }) → wpAny (model prog w) A.in1 (collect r) R E s)
    (can : ∀ (h1 : Heap) (tk : Nat) (a : Addr) (vs : List Value), (∀ b o, s.heap.get? b = some o → b ≠ a ∧ h1.get? b = some o) → h1.get? a = some (seqObj "list" vs.toArray 0) → Items P n vs → 2 ≤ vs.length → SrtO.SortableO prog w A.in1.in1 { s with heap := h1, toks := tk } a vs lt)
    (fin : ∀ (h1 h2 : Heap) (tk : Nat) (vs out : List Value) (c : Nat), (∀ b o, s.heap.get? b = some o → h1.get? b = some o) → (∀ b o, h1.get? b = some o → h2.get? b = some o) → Items P n vs → SrtO.Srtd lt out → SrtO.Stb lt out vs →
      h2.get? h1.objs.size = some (seqObj "list" out.toArray c) → Q (.ref h1.objs.size) { s with heap := h2, toks := tk }) : wpAny (model prog w) A (call (.builtin "sorted") [r]) Q E s := by
  apply Calls.call_function_entry kind_sorted plain_sorted entry_sorted (args_sorted1 _)
  unfold Builtin.«sorted»
  refine wpAny_bind (m := checkCount "sorted" 1 1 _) (wpAny_pure (wpAny_bind (col _ fun h1 tk vs kp it => ?_)))
  have fit : vs.length ≤ sizeLine := by rw [it.1]; exact few
  refine wpAny_bind (wpAny_newList ?_ fit)
  have new : (h1.push (seqObj "list" vs.toArray 0)).get? h1.objs.size = some (seqObj "list" vs.toArray 0) := Heap.get?_push_size _ rfl
  have old : ∀ b o, h1.get? b = some o → b ≠ h1.objs.size ∧ (h1.push (seqObj "list" vs.toArray 0)).get? b = some o := fun b o e => ⟨Nat.ne_of_lt (Heap.lt_size e), Heap.get?_push_of_some _ e⟩
  have srt := SrtO.list_sort_ord (prog := prog) (w := w) (A := A.in1.in1) (E := E) (s := { s with heap := h1.push (seqObj "list" vs.toArray 0), toks := tk }) (a := h1.objs.size) (vs := vs) (n := 0) (ltv := lt)
    (R := fun f s' => ∃ u, f = .done (.ret u) ∧ ∃ out, SrtO.Srtd lt out ∧ SrtO.Stb lt out vs ∧ s' = { s with heap := sortedHeap (h1.push (seqObj "list" vs.toArray 0)) h1.objs.size vs out.toArray, toks := tk })
    O new fit (fun h2 => can _ tk _ vs (fun b o e => old b o (kp b o e)) new it h2) fun out a1 a2 => ⟨_, rfl, out, a1, a2, rfl⟩
  refine wpAny_bind (wpAny_holding (wpAny_call_entry slot_list_sort ⟨_, new, rfl⟩ entry_list_sort (wpAny_mono srt (fun f s' => ?_) fun _ _ z => z) (args_list_sort _)))
  rintro ⟨u, rfl, out, a1, a2, rfl⟩
  refine ⟨u, rfl, wpAny_pure ⟨_, rfl, ?_⟩⟩
  obtain ⟨c, at_⟩ := sortedHeap_at (out := out.toArray) new
  refine fin h1 _ tk vs out c kp (fun b o e => ?_) it a1 a2 at_
  have hb := Heap.lt_size e
  rw [sortedHeap_old (Nat.ne_of_lt hb) (by rw [Heap.size_push]; exact Nat.lt_succ_of_lt hb)]
  exact (old b o e).2
end
/-! ### numbers -/
section
variable {X : Cx}
theorem sorted_dI (calm : X.calm = true) : CallR X (.builtin "sorted") (fun xs H Q => ∃ (a : Addr) (kvs : List (Key × V)) (ks : List Int), xs = [.ref a] ∧ Rd H a (.dK kvs) ∧ kvs.map (·.1) = ks.map Sum.inl ∧
    ∀ (ys : List Int) (p : Addr), ys.Perm ks → ys.Pairwise (· ≤ ·) → H p = none → Q (.ref p) (upd H p (.lst (ys.map V.int)))) := by
  rintro pins s σ H xs us Q I r ⟨a, kvs, ks, rfl, hd, hk, q⟩
  obtain rfl := Vals.ref1 r
  obtain ⟨z, lo, vs, rel, dd⟩ := dk_rd I.hok hd
  obtain ⟨ep, at0⟩ := dd.dictAt
  have keys : vs.map (·.1) = ks.map Sum.inl := by rw [← rel.keys]; exact hk
  have len : vs.length = ks.length := by simpa using congrArg List.length keys
  have fit : vs.length ≤ sizeLine := by rw [← rel.length]; exact z
  have ints_ : ∀ {ws : List Value}, Items (fun i v => ∃ k x, vs[i]? = some (k, x) ∧ (mixKind X.prog X.w).is k v = true) vs.length ws → IntsAre ws ks := fun {ws} it => ints_each (it.1.trans len) fun j v e => by
    obtain ⟨k, x, e1, e2⟩ := it.2 j v e
    have e3 : (ks.map (Sum.inl : Int → Key))[j]? = some k := by rw [← keys, List.getElem?_map, e1]; rfl
    rw [List.getElem?_map] at e3
    obtain ⟨n, e4, rfl⟩ := Option.map_eq_some_iff.mp e3
    rcases keyIs_shape (show keyIs (Sum.inl n) v = true from e2) with ⟨i, t, ek, ev⟩ | ⟨z, t, ek, ev⟩ <;> cases ek
    exact ⟨n, t, e4, ev⟩
  refine sorted_items SrtO.swo_int fit (fun R h => PySem.W.kdu_collect (A := X.A.in1) (PySem.W.kdl_dict (knd := mixKind X.prog X.w) (kvs := vs) (ep := ep) lo) (I.ok.hd calm) at0 fit fun h' tk acc k0 it => h h' tk acc.toList k0 ⟨by rw [Array.length_toList]; exact it.1, fun j v e => it.2 j v (by rw [← Array.getElem?_toList]; exact e)⟩)
    (fun h1 tk b ws kp new it h2 => SrtO.ints_sortable (ints_ it) h2) fun h1 h2 tk ws out c k1 k2 it s1 s2 e2 => ?_
  obtain ⟨x1, x2, x3⟩ := SrtO.ints_out (ints_ it) s1 s2
  have I1 : L2.Inv X pins σ H { s with heap := h1, toks := tk } := I.kept k1
  refine ⟨.ref h1.objs.size, _, I1.laid (t' := tk) (o := .lst ((out.map SrtO.iv).map V.int)) k2 (Nat.le_refl _) ⟨?_, out, c, vals_of_ints x1, e2⟩, rfl, q _ _ x2 x3 (I1.hok.fresh (Nat.le_refl _))⟩
  rw [List.length_map, x2.length_eq, ← len]
  exact fit

/-! ### pairs of numbers -/
def PrV (K : PySem.W.Frag) (H : Hp) (x : V) (p : Int × Int) : Prop := ∃ t, x = .ref t ∧ SqT K H t [.int p.1, .int p.2]
open Classical in
/-- the pair at a value -/
noncomputable def prAt (K : PySem.W.Frag) (H : Hp) (u : Value) : Int × Int := if h : ∃ p, PrV K H (backV u) p then Classical.choose h else (0, 0)
theorem prAt_eq {pins : List (Addr × Obj)} {σ : L2.St} {H : Hp} {s : Shared} (I : L2.Inv X pins σ H s) {u : Value} {p : Int × Int} (h : PrV X.K H (backV u) p) : prAt X.K H u = p := by
  have h0 : ∃ p, PrV X.K H (backV u) p := ⟨p, h⟩
  unfold prAt
  rw [dif_pos h0]
  obtain ⟨t, e, q⟩ := Classical.choose_spec h0
  obtain ⟨t', e', q'⟩ := h
  rw [e] at e'
  cases e'
  have z := I.tuple_inj q q'
  injection z with z1 z2
  injection z2 with z2 _
  injection z1 with z1
  injection z2 with z2
  exact Prod.ext z1 z2
theorem prs_at {pins : List (Addr × Obj)} {σ : L2.St} {H : Hp} {s : Shared} (I : L2.Inv X pins σ H s) : ∀ {xs : List V} {ps : List (Int × Int)} {us : List Value}, Paired (PrV X.K H) xs ps → Vals xs us → us.map (prAt X.K H) = ps ∧ ∀ u ∈ us, (∃ a, u = Value.ref a) ∧ PrV X.K H (backV u) (prAt X.K H u)
  | [], _, _, .nil, .nil => ⟨rfl, fun u hu => by cases hu⟩
  | _ :: _, _, _, .cons h t, .cons r rs => by
    obtain ⟨a, rfl, q⟩ := h
    obtain rfl := r
    obtain ⟨e1, e2⟩ := prs_at I t rs
    have h0 : PrV X.K H (backV (.ref a)) _ := ⟨a, rfl, q⟩
    have e := prAt_eq I h0
    refine ⟨by rw [List.map_cons, e, e1], fun u hu => ?_⟩
    rcases List.mem_cons.mp hu with rfl | hu
    · exact ⟨⟨a, rfl⟩, by rw [e]; exact h0⟩
    · exact e2 u hu
theorem pr_raw {pins : List (Addr × Obj)} {σ : L2.St} {H : Hp} {s : Shared} (I : L2.Inv X pins σ H s) {u : Value} {p : Int × Int} (hu : ∃ a, u = Value.ref a) (h : PrV X.K H (backV u) p) : Srt.IsPair s.heap u p.1 p.2 := by
  obtain ⟨a, rfl⟩ := hu
  obtain ⟨t, e, q⟩ := h
  cases e
  obtain ⟨its, rv, ⟨o, ho, hc, n, hd⟩, _⟩ := I.tuple q
  obtain ⟨u1, u2, rfl, ri, rj⟩ := vals2 rv
  obtain ⟨t1, rfl⟩ := ri
  obtain ⟨t2, rfl⟩ := rj
  exact ⟨a, o, t1, t2, n, rfl, ho, hc, hd⟩
def inOrder (ps : List (Int × Int)) : Prop := ps.Pairwise fun a b => SrtO.lexB b a = false
/-- what sorted() gives of pairs -/
def rPrs (K : PySem.W.Frag) (ps : List (Int × Int)) : Hp → VK → Prop := fun H Q => ∀ (ys : List V) (qs : List (Int × Int)) (p : Addr), Paired (PrV K H) ys qs → qs.Perm ps → inOrder qs → H p = none → Q (.ref p) (upd H p (.lst ys))
theorem prs_out {H : Hp} {us out : List Value} (h : ∀ u ∈ us, (∃ a, u = Value.ref a) ∧ PrV X.K H (backV u) (prAt X.K H u)) : ∀ {out : List Value}, (∀ u ∈ out, u ∈ us) → Paired (PrV X.K H) (out.map backV) (out.map (prAt X.K H))
  | [], _ => .nil
  | u :: out, hs => .cons (h u (hs u List.mem_cons_self)).2 (prs_out (out := out) h fun v hv => hs v (List.mem_cons_of_mem _ hv))
theorem prs_fin {pins : List (Addr × Obj)} {σ : L2.St} {H : Hp} {s : Shared} {Q : VK} {xs : List V} {ps : List (Int × Int)} {us out : List Value} {h1 h2 : Heap} {tk c : Nat} (I : L2.Inv X pins σ H s) (hp : Paired (PrV X.K H) xs ps) (rv : Vals xs us) (fit : us.length ≤ sizeLine)
    (k1 : ∀ b o, s.heap.get? b = some o → h1.get? b = some o) (k2 : ∀ b o, h1.get? b = some o → h2.get? b = some o) (s1 : SrtO.Srtd (fun v u => SrtO.lexB (prAt X.K H v) (prAt X.K H u)) out) (s2 : SrtO.Stb (fun v u => SrtO.lexB (prAt X.K H v) (prAt X.K H u)) out us)
    (e2 : h2.get? h1.objs.size = some (seqObj "list" out.toArray c)) (q : rPrs X.K ps H Q) : EP X pins σ Q (.ref h1.objs.size) { s with heap := h2, toks := tk } := by
  obtain ⟨x1, x2⟩ := prs_at I hp rv
  have I1 : L2.Inv X pins σ H { s with heap := h1, toks := tk } := I.kept k1
  have mem : ∀ u ∈ out, u ∈ us := fun u hu => s2.perm.mem_iff.mp hu
  refine ⟨.ref h1.objs.size, _, I1.laid (t' := tk) (o := .lst (out.map backV)) k2 (Nat.le_refl _) ⟨?_, out, c, vals_back fun u hu => (x2 u (mem u hu)).1, e2⟩, rfl, q _ (out.map (prAt X.K H)) _ (prs_out (us := us) (out := out) x2 mem) ?_ (List.pairwise_map.mpr s1) (I1.hok.fresh (Nat.le_refl _))⟩
  · rw [List.length_map, s2.perm.length_eq]; exact fit
  · rw [← x1]; exact s2.perm.map _
/-- sorted() of a list of pairs -/
theorem sorted_lP : CallR X (.builtin "sorted") (fun xs H Q => ∃ (a : Addr) (ys : List V) (ps : List (Int × Int)), xs = [.ref a] ∧ SqL X.K H a ys ∧ Paired (PrV X.K H) ys ps ∧ rPrs X.K ps H Q) := by
  rintro pins s σ H xs us Q I r ⟨a, ys, ps, rfl, hs, hp, q⟩
  obtain rfl := Vals.ref1 r
  obtain ⟨its, rv, hl, hz⟩ := I.list hs
  have fit : its.length ≤ sizeLine := by rw [← rv.length]; exact hz
  obtain ⟨_, x2⟩ := prs_at I hp rv
  refine SrtO.sorted_ord (SrtO.swo_lex (prAt X.K H)) hl.isList fit (fun two h1 b hb kk => ?_) fun out s1 s2 => ?_
  · refine SrtO.pairs_sortableO (s := { s with heap := h1 }) (by omega) (fun v hv => (pr_raw I (x2 v hv).1 (x2 v hv).2).keeps fun c o e _ => (kk c o e).2) fun o e => ?_
    rw [show h1.get? b = _ from hb] at e
    cases e
    exact fun c => absurd (Value.type.inj c) (by decide)
  · obtain ⟨c, hc⟩ := sortedAll_at s.heap its out.toArray
    obtain ⟨x1, x2⟩ := prs_at I hp rv
    have mem : ∀ u ∈ out, u ∈ its := fun u hu => s2.perm.mem_iff.mp hu
    refine ⟨.ref (s.heap.objs.size + 1), _, I.laid (t' := s.toks) (o := .lst (out.map backV)) (fun b o e => sortedAll_old e) (Nat.le_succ _) ⟨?_, out, c, vals_back fun u hu => (x2 u (mem u hu)).1, hc⟩, rfl, q _ (out.map (prAt X.K H)) _ (prs_out (us := its) (out := out) x2 mem) ?_ (List.pairwise_map.mpr s1) (I.hok.fresh (Nat.le_succ _))⟩
    · rw [List.length_map, s2.perm.length_eq]; exact fit
    · rw [← x1]; exact s2.perm.map _
/-- .. of a dict whose keys are pairs -/
theorem sorted_dP (calm : X.calm = true) : CallR X (.builtin "sorted") (fun xs H Q => ∃ (a : Addr) (kvs : List (List Key × V)) (ps : List (Int × Int)), xs = [.ref a] ∧ Rd H a (.dT kvs) ∧ kvs.map (·.1) = ps.map (fun p => [Sum.inl p.1, Sum.inl p.2]) ∧ rPrs X.K ps H Q) := by
  rintro pins s σ H xs us Q I r ⟨a, kvs, ps, rfl, hd, hk, q⟩
  obtain rfl := Vals.ref1 r
  obtain ⟨z, hs, ks, pr, o, es, ep, ho, hx, hdt, he, hn⟩ := (show ObjOk X.prog X.w H s.heap a (.dT kvs) from hd.ok I.hok)
  have l1 : es.size = ks.length := size_of_entries he
  have l2 : kvs.length = ks.length := Paired.length pr
  have all : ∀ {ws : List Value}, Items (fun i v => ∃ en : DictEntry, es[i]? = some en ∧ v = en.key) es.size ws → ws = (ks.map fun x => x.2.1).map Value.ref := fun {ws} it => by
    apply List.ext_getElem?
    intro j
    rw [List.map_map, List.getElem?_map]
    cases hj : ws[j]? with
    | none =>
      have := List.getElem?_eq_none_iff.mp hj
      rw [List.getElem?_eq_none (by rw [← l1, ← it.1]; exact this)]; rfl
    | some v =>
      obtain ⟨en, e1, e2⟩ := it.2 j v hj
      have e3 := entry_at he j
      rw [e1] at e3
      cases hb : ks[j]? with
      | none => rw [hb] at e3; cases e3
      | some b =>
        rw [hb] at e3
        have e4 : en = entryOfKey (tupleKind (mixKind X.prog X.w)) b := Option.some.inj e3
        rw [e2, e4]; rfl
  have two : ∀ {kvs : List (List Key × V)} {bs : List Addr} {ps : List (Int × Int)}, IsKeys H kvs bs → kvs.map (·.1) = ps.map (fun p => [Sum.inl p.1, Sum.inl p.2]) → Paired (PrV X.K H) (bs.map V.ref) ps := fun {kvs bs ps} k => by
    unfold IsKeys at k
    induction k generalizing ps with
    | nil => intro e; cases ps with
      | nil => exact .nil
      | cons _ _ => cases e
    | cons h t ih =>
      intro e
      cases ps with
      | nil => cases e
      | cons p ps =>
        injection e with e1 e2
        have e1 : (_ : List Key) = _ := e1
        dsimp only at e1
        rw [e1] at h
        exact .cons ⟨_, rfl, .of h⟩ (ih e2)
  have hp := two (isKeys_of pr) hk
  have rv := vals_refs (ks.map fun x => x.2.1)
  have fit : es.size ≤ sizeLine := by omega
  obtain ⟨_, x2⟩ := prs_at I hp rv
  refine sorted_items (SrtO.swo_lex (prAt X.K H)) fit (fun R h => PySem.W.kdu_collect (A := X.A.in1) (kdl_raw hs hx hdt) (I.ok.hd calm) ho fit fun h' tk acc k0 it => h h' tk acc.toList k0 ⟨by rw [Array.length_toList]; exact it.1, fun j v e => it.2 j v (by rw [← Array.getElem?_toList]; exact e)⟩)
    (fun h1 tk b ws kp new it h2 => ?_) fun h1 h2 tk ws out c k1 k2 it s1 s2 e2 => ?_
  · have e := all it
    subst e
    refine SrtO.pairs_sortableO (s := { s with heap := h1, toks := tk }) (by omega) (fun v hv => (pr_raw I (x2 v hv).1 (x2 v hv).2).keeps fun c o e _ => (kp c o e).2) fun o e => ?_
    rw [show h1.get? b = _ from new] at e
    cases e
    exact fun c => absurd (Value.type.inj c) (by decide)
  · have e := all it
    subst e
    exact prs_fin I hp rv (by rw [it.1]; exact fit) k1 k2 s1 s2 e2 q
end
end OD

set_option Elab.async false
set_option autoImplicit false
set_option linter.all false
set_option maxRecDepth 100000
set_option maxHeartbeats 4000000
/-! My own layer, part 4b: a def's promise where no guard is up. -/
namespace OD
open PySem PySem.Spec PyProof.Rows L2
/-- as FnOk, where nothing is being shown -/
structure FnOkG (P : Program) (w : World) (K : PySem.W.Frag) (mg : Str → Option Value) (base : Heap) (CX : CXT) (k : Nat) (f : Addr) (fd : FuncData) (ps : List Str) (sp : Sp) : Prop where
  len : ∀ vs H Q E, sp vs H Q E → vs.length = ps.length
  run : ∀ (A : Around) (outer : List Env) (s : Shared) (H : Hp) (args : Args) (us : List Value) (vs : List V) (Q : VK) (E : XK), Room k A → A.guards = some [] → Env0 P w K mg base A outer s H → BindsTo s fd args (ps.zip us) → Vals vs us → sp vs H Q E →
    codeAny (model P w) A (.call (.ref f) args) (CR CX outer P w H s Q E) s
section
variable {P : Program} {w : World} {K : PySem.W.Frag} {mg : Str → Option Value} {base : Heap} {name : Str} {ar : Arguments} {body : List Stmt} {sc : Scope} {f : Addr} {fd : FuncData} {CX : CXT} {N ps : List Str} {k : Nat} {sp : Sp}
theorem fnOkG_of (F : FunD K name name ar body sc [] [] f fd) (S : FnScope N ps sc) (len : ∀ vs H Q E, sp vs H Q E → vs.length = ps.length)
    (hb : ∀ (cd : Value) (A : Around) (outer : List Env) (s : Shared) (H : Hp) (vs : List V) (Q : VK) (E : XK), Room k (A.deeper (envOfC name sc s.heap.objs.size f cd)) → (A.deeper (envOfC name sc s.heap.objs.size f cd)).guards = some [] → sp vs H Q E →
      ∃ t, PSs (cxOf CX P w K mg base N name sc f cd A outer s H E) body t ∧ t { nx := fun _ H' => Q .non H', rt := Q } (L2.start N vs) H) : FnOkG P w K mg base CX (k + 1) f fd ps sp := by
  obtain ⟨oc, od, dV, kV, doc, pm, an, cd, ct, osl, rfl, lk, hcd, _, _⟩ := F.ex
  refine ⟨len, fun A outer s H args us vs Q E hr hg e0 bt rv hsp => ?_⟩
  have hl := len _ _ _ _ hsp
  have kin : K.In s.heap := e0.mod.kin.keeps fun b o e => (e0.bs b o e).1
  have nolim : s.heap.NoLimit := e0.mod.nolimit.keeps fun b o e => (e0.bs b o e).1
  refine codeAny_call_function hr.depth (kin _ _ lk) rfl S.co S.gen rfl (PySem.W.codeRec_of kin hcd) (bt _ _ _ _ ?_)
  refine wpAny_newFunctionEnv_cells S.kind (fun ⟨n, v⟩ hy => (S.par n (List.of_mem_zip hy).1).imp id fun q => ⟨q, PySem.W.cellsFrom_some _ _ _ (.inl q)⟩) fun env he s1 x => ?_
  subst he
  refine ⟨nolim.keeps x.toInCall.keep, codeAny_func ?_⟩
  obtain ⟨t, ht, hq⟩ := hb cd A outer s H vs Q E (hr.deeper _) hg hsp
  have I0 := inv_start (CX := CX) (E := E) S hr.hd e0 hl rv x
  refine wpAny_mono (ht.run [] s1 _ H _ I0 hq) (fun fl s2 hs => ?_) fun e s2 hs => hs
  cases fl with
  | ret u =>
    obtain ⟨v, σ2, H2, J, r2, q2⟩ := hs
    exact ⟨v, H2, J.os, J.bare, J.base, J.hok, r2, q2⟩
  | next =>
    obtain ⟨σ2, H2, J, q2⟩ := hs
    exact ⟨.non, H2, J.os, J.bare, J.base, J.hok, rfl, q2⟩
  | brk =>
    obtain ⟨_, _, _, q2⟩ := hs
    exact q2.elim
  | cont =>
    obtain ⟨_, _, _, q2⟩ := hs
    exact q2.elim
end
section
variable {X : Cx} {CX : CXT} {k : Nat} {f : Addr} {fd : FuncData} {ps : List Str} {sp : Sp} {E : L2.St → XK} {x : Str} {p pos : Pos} {e : Expr} {es : List Expr} {t : TA}
theorem run_fnG {pins : List (Addr × Obj)} {σ : L2.St} {H : Hp} {s : Shared} {Q : VK} {us : List Value} {vs : List V} (F : FnOkG X.prog X.w X.K X.mg X.base CX k f fd ps sp) (hr : Room k X.A) (hg : X.A.guards = some []) (hb : L2.Binds X.K fd ps []) (hx : PassesAt CX X σ (E σ))
    (I : Inv X pins σ H s) (rv : Vals vs us) (hs : sp vs H Q (E σ)) : wpAny (model X.prog X.w) X.A (call (.ref f) us) (EP X pins σ Q) X.xe s := by
  have bt := hb s us I.kIn (by rw [List.append_nil, ← rv.length]; exact F.len _ _ _ _ hs)
  rw [List.append_nil] at bt
  refine wpAny_call (codeAny_mono (F.run X.A X.stack s H ⟨us, []⟩ us vs Q (E σ) hr hg I.env0 bt rv hs) fun z s2 hz => ?_)
  match z, hz with
  | .ok (.ret u), hz => exact I.after hz
  | .error u, hz => exact hx pins H s u s2 I hz
theorem pe_callG (F : FnOkG X.prog X.w X.K X.mg X.base CX k f fd ps sp) (hr : Room k X.A) (hgu : X.A.guards = some []) (hg : Gl X x) (hm : X.mg x = some (.ref f)) (hk : PySem.W.keepIn X.K (.ref f) = true) (hb : L2.Binds X.K fd ps []) (hx : ∀ σ, PassesAt CX X σ (E σ))
    (ha : PA X (e :: es) t) (hd : (x == ("__debug__" : Str)) = false) (he : starEach (e :: es) X.env = (false, eval e X.env) :: starEach es X.env) (hpl : (backTo pos (starEach es X.env)).any (·.1) = false) : PE X (.Call (.Name x p) (e :: es) [] pos) (tCallS sp E t) :=
  ⟨fun pins s σ H Q I h => wpAny_Call_Name_kw (ld_glob I hg hm (PySem.W.callWith_K (h₀ := X.base) I.ok.mod.kin hk (thn (ha.run pos pins s σ H _ I h) fun us s1 ⟨vs, H1, I1, r, q⟩ => ⟨I1.kIn, run_fnG F hr hgu hb (hx σ) I1 r q⟩) he hpl) hd)⟩
end
end OD

set_option Elab.async false
set_option autoImplicit false
set_option linter.all false
set_option maxRecDepth 100000
set_option maxHeartbeats 4000000
/-! My own layer, part 4c: errors with a word and a place, of classes over one of them. -/
namespace OD
open PySem PySem.Spec PyProof.Rows L2
/-- what the written part says of a class of errors -/
structure ErC (K : PySem.W.Frag) (C : Addr) : Prop where
  oex : OexC K C
  nw : PySem.W.findIn K (.ref C) "word" = some none
  np : PySem.W.findIn K (.ref C) "place" = some none
/-- .. of the base of them, its own __init__ at f -/
structure ErR (K : PySem.W.Frag) (C f : Addr) : Prop where
  rd : PySem.W.readsIn K C (.type "type") = true
  ga : PySem.W.specialIn K (.ref C) "__getattribute__" = some (some (.builtin "type.__getattribute__"))
  at_ : PySem.W.findCls K (.ref C) (.type "type") "__init__" = some (.val (.ref f))
/-- what FilmError.__init__ does -/
def spRoot (K : PySem.W.Frag) : Sp := fun vs H Q _ => ∃ a C w p, vs = [.ref a, w, p] ∧ ErC K C ∧ H a = some (exo a C none) ∧ ∀ d, H d = none → Q .non (upd (upd H d (exd d [("place", p), ("word", w)])) a (exo a C (some d)))
/-- what the __init__ of a class over it does -/
def spInit (K : PySem.W.Frag) (C : Addr) (z : Str) : Sp := fun vs H Q _ => ∃ a p, vs = [.ref a, p] ∧ H a = some (exo a C none) ∧ ∀ d, H d = none → Q .non (upd (upd H d (exd d [("place", p), ("word", .str z)])) a (exo a C (some d)))
section
variable {P : Program} {w : World} {K : PySem.W.Frag} {mg : Str → Option Value} {base : Heap} {CX : CXT}
def rootArgs (d : Arguments) : Prop := True
/-- the text of FilmError.__init__ -/
def rootB : List Stmt → Bool
  | [.Assign [.Attribute (.Name s1 _) w1 _] (.Name v1 _) _, .Assign [.Attribute (.Name s2 _) w2 _] (.Name v2 _) _] => decide (s1 = ("self" : Str)) && decide (w1 = ("word" : Str)) && decide (v1 = ("word" : Str)) && decide (s2 = ("self" : Str)) && decide (w2 = ("place" : Str)) && decide (v2 = ("place" : Str))
  | _ => false
/-- the text of the other ones -/
def initB (z : Str) : List Stmt → Bool
  | [.Expr (.Call (.Attribute (.Name c _) m ap) [.Name s _, .Constant (.str y) _ _, .Name p _] [] cp) _] => (ap.endLine == cp.line) && decide (c = ("FilmError" : Str)) && decide (m = ("__init__" : Str)) && decide (s = ("self" : Str)) && decide (y = z) && decide (p = ("place" : Str))
  | _ => false
theorem upd_two {H : Hp} {a d : Addr} {o1 o2 o3 : HO} (h : d ≠ a) : upd (upd (upd H d o1) a o2) d o3 = upd (upd H d o3) a o2 := by
  funext b
  by_cases h1 : b = d
  · subst h1
    rw [upd_same, upd_ne h, upd_same]
  · rw [upd_ne h1]
    by_cases h2 : b = a
    · subst h2; rw [upd_same, upd_same]
    · rw [upd_ne h2, upd_ne h1, upd_ne h2, upd_ne h1]
theorem root_ok {k : Nat} {name qual : Str} {ar : Arguments} {body : List Stmt} {sc : Scope} {dvs : List V} {f : Addr} {fd : FuncData} (F : FunD K name qual ar body sc dvs [] f fd) (S : FnScope ["self", "word", "place"] ["self", "word", "place"] sc) (hb : rootB body = true)
    (hl : sc.names.lookup ("self" : Str) = some .local ∧ sc.names.lookup ("word" : Str) = some .local ∧ sc.names.lookup ("place" : Str) = some .local) : FnOk P w K mg base CX (k + 1) f fd ["self", "word", "place"] (spRoot K) := by
  refine F.ok (N := ["self", "word", "place"]) S (fun vs H Q E ⟨a, C, w, p, e, _⟩ => by rw [e]; rfl) fun cdv A outer s H vs Q E hr h => ?_
  obtain ⟨a, C, wd, p, rfl, T, ha, q⟩ := h
  unfold rootB at hb
  split at hb
  · simp only [Bool.and_eq_true, decide_eq_true_eq] at hb
    obtain ⟨⟨⟨⟨⟨e1, e2⟩, e3⟩, e4⟩, e5⟩, e6⟩ := hb
    subst e1 e2 e3 e4 e5 e6
    have v0 : Vis sc "self" := .inl hl.1
    have v1 : Vis sc "word" := .inl hl.2.1
    have v2 : Vis sc "place" := .inl hl.2.2
    refine ⟨_, pss_cons (ps_ost (pe_var (i := 0) rfl v0 (by decide) (by decide)) (pe_var (i := 1) rfl v1 (by decide) (by decide)) rfl) (pss_cons (ps_ost (pe_var (i := 0) rfl v0 (by decide) (by decide)) (pe_var (i := 2) rfl v2 (by decide) (by decide)) rfl) pss_nil), ?_⟩
    refine ⟨wd, rfl, .ref a, rfl, a, C, rfl, T.oex, T.nw, .inl ⟨ha, fun d hd hda => ?_⟩⟩
    refine ⟨p, rfl, .ref a, rfl, a, C, rfl, T.oex, T.np, .inr ⟨d, [("word", wd)], upd_same, ?_, ?_, ?_⟩⟩
    · rw [upd_ne hda, upd_same]
    · show 1 ≤ 900; decide
    · show Q .non (upd (upd (upd H d _) a _) d _)
      rw [upd_two hda]
      exact q d hd
  · cases hb
theorem call_form {o : Expr} {name : Str} {apos pos : Pos} {es : List Expr} {env : Env} (hb : attributeBase o name env (eval o env) = eval o env) (hl : (apos.endLine == pos.line) = true) (hf : methodCallForm (es.length + 0) (backTo pos (starEach es env)) (backToKw pos (keywordEach [] env)) = true) :
    eval (.Call (.Attribute o name apos) es [] pos) env = (do
      let ov ← eval o env
      standAt apos.atName
      let (f, first) ← holding [ov] (getMethod ov name (do return (← importBound o env).getD true))
      callWith pos f first (backTo pos (starEach es env)) (backToKw pos (keywordEach [] env))) := by
  show (do
    let ov ← attributeBase o name env (eval o env)
    standAt apos.atName
    methodCall o name apos pos env ov (es.length + 0) (backTo pos (starEach es env)) (backToKw pos (keywordEach [] env))) = _
  rw [hb]
  have hp : methodCallPos true o env apos pos = pure pos := by
    unfold methodCallPos
    rw [hl]; rfl
  refine congrArg (bind (eval o env)) (funext fun ov => congrArg (bind (standAt apos.atName)) (funext fun _ => ?_))
  unfold methodCall
  rw [hf, hp]
  simp only [pure_bind]
  rfl
/-- FilmError.__init__(..) -/
theorem pe_root {X : Cx} {C f : Addr} {fd : FuncData} {ps : List Str} {k : Nat} {r : Str} {e : Expr} {es : List Expr} {t : TA} {E : L2.St → XK} {sp : Sp} {CX : CXT} {p1 p2 pos : Pos} {pl : Sem Bool} (R : ErR X.K C f) (F : FnOk X.prog X.w X.K X.mg X.base CX k f fd ps sp) (kp : PySem.W.keepIn X.K (.ref f) = true) (hr : Room k X.A) (hb : Binds X.K fd ps [])
    (hx : ∀ σ, PassesAt CX X σ (E σ)) (hg : Gl X r) (gC : X.mg r = some (.ref C)) (hd : (r == ("__debug__" : Str)) = false) (ha : PA X (e :: es) t) (he : starEach (e :: es) X.env = (false, eval e X.env) :: starEach es X.env) (hpl : (backTo pos (starEach es X.env)).any (·.1) = false)
    (ht : eval (.Call (.Attribute (.Name r p1) "__init__" p2) (e :: es) [] pos) X.env = (do
      let ov ← eval (.Name r p1) X.env
      standAt p2.atName
      let (f, first) ← holding [ov] (getMethod ov "__init__" pl)
      callWith pos f first (backTo pos (starEach (e :: es) X.env)) (backToKw pos (keywordEach [] X.env)))) :
    PE X (.Call (.Attribute (.Name r p1) "__init__" p2) (e :: es) [] pos) (tCallS sp E t) := by
  refine ⟨fun pins s σ H Q I h => ?_⟩
  refine PySem.W.methodCall_KW (pl := pl) (ld_glob I hg gC ?_ hd) ht
  refine PySem.W.method_cls I.kIn R.ga (PySem.W.cls_value I.kIn R.rd R.at_ rfl ?_)
  exact PySem.W.callWith_K (h₀ := X.base) I.ok.mod.kin kp (thn (ha.run pos pins _ σ H _ (I.tok _) h) fun us s1 ⟨vs, H1, I1, r1, q⟩ => ⟨I1.kIn, run_fnS F hr hb (hx σ) I1 r1 q⟩) he hpl

theorem init_ok {k : Nat} {name qual z : Str} {ar : Arguments} {body : List Stmt} {sc : Scope} {dvs : List V} {f C C0 f0 : Addr} {fd fd0 : FuncData} (F : FunD K name qual ar body sc dvs [] f fd) (S : FnScope ["self", "place"] ["self", "place"] sc) (hb : initB z body = true)
    (hl : sc.names.lookup ("self" : Str) = some .local ∧ sc.names.lookup ("place" : Str) = some .local ∧ sc.names.lookup ("FilmError" : Str) = some .globalImplicit) (R : ErR K C0 f0) (gC : mg "FilmError" = some (.ref C0)) (T : ErC K C)
    (F0 : FnOk P w K mg base (L2.CX P w) k f0 fd0 ["self", "word", "place"] (spRoot K)) (kp : PySem.W.keepIn K (.ref f0) = true) (b0 : Binds K fd0 ["self", "word", "place"] []) : FnOk P w K mg base (L2.CX P w) (k + 1) f fd ["self", "place"] (spInit K C z) := by
  refine F.ok (N := ["self", "place"]) S (fun vs H Q E ⟨a, p, e, _⟩ => by rw [e]; rfl) fun cdv A outer s H vs Q E hr h => ?_
  obtain ⟨a, p, rfl, ha, q⟩ := h
  unfold initB at hb
  split at hb
  · simp only [Bool.and_eq_true, decide_eq_true_eq] at hb
    obtain ⟨⟨⟨⟨⟨e0, e1⟩, e2⟩, e3⟩, e4⟩, e5⟩ := hb
    subst e1 e2 e3 e4 e5
    have v0 : Vis sc "self" := .inl hl.1
    have v1 : Vis sc "place" := .inl hl.2.1
    refine ⟨_, pss_cons (ps_expr (pe_root (E := WE fun _ _ _ _ => False) R F0 kp hr b0 (fun σ => passAt takes0 σ) hl.2.2 gC (by decide) (pa_cons (pe_var (i := 0) rfl v0 (by decide) (by decide)) (pa_cons pe_str (pa_cons (pe_var (i := 1) rfl v1 (by decide) (by decide)) pa_nil rfl) rfl) rfl) (by rfl) (by rfl) (call_form rfl e0 rfl)) rfl) pss_nil, ?_⟩
    refine ⟨.ref a, rfl, p, rfl, ?_⟩
    exact ⟨a, C, _, p, rfl, T, ha, q⟩
  · cases hb
end
section
variable {X : Cx} {x z : Str} {C fI : Addr} {k : Nat} {fd : FuncData} {e : Expr} {te : TE} {p pos : Pos}
/-- X(e) -/
def tMk1 (C : Addr) (z : Str) (te : TE) : L2.St → Hp → XK → Prop := fun σ H Q => te σ H fun v H1 => ∀ d, H1 d = none → Q (.ref C) (some d) (upd H1 d (.xd [("place", v), ("word", .str z)]))
theorem mk_heap {H1 : Hp} {a d : Addr} {u v : HO} {o : HO} (ha : H1 a = none) (hd : d ≠ a) : upd (del (upd (upd (upd H1 a o) d u) a v) a) d (.xd []) = upd H1 d (.xd []) := by
  funext b
  by_cases h1 : b = d
  · subst h1; rw [upd_same, upd_same]
  · rw [upd_ne h1, upd_ne h1]
    by_cases h2 : b = a
    · subst h2; rw [del_same, ha]
    · rw [del_ne h2, upd_ne h2, upd_ne h1, upd_ne h2]
theorem mk_heap' {H1 : Hp} {a d : Addr} {u v : HO} {o : HO} {fs : List (Str × V)} (ha : H1 a = none) (hd : d ≠ a) : upd (del (upd (upd (upd H1 a o) d u) a v) a) d (.xd fs) = upd H1 d (.xd fs) := by
  funext b
  by_cases h1 : b = d
  · subst h1; rw [upd_same, upd_same]
  · rw [upd_ne h1, upd_ne h1]
    by_cases h2 : b = a
    · subst h2; rw [del_same, ha]
    · rw [del_ne h2, upd_ne h2, upd_ne h1, upd_ne h2]
/-- what the maker asks of __init__'s promise -/
theorem sp_mk {H1 : Hp} {v : V} {a : Addr} {Q : XK} (ha : H1 a = none) (q : ∀ d, H1 d = none → Q (.ref C) (some d) (upd H1 d (.xd [("place", v), ("word", .str z)]))) : spInit X.K C z [.ref a, v] (upd H1 a (exo a C none))
    (fun v H2 => v = .non ∧ ∃ (d : Addr) (fs : List (Str × V)), H2 a = some (exo a C (some d)) ∧ H2 d = some (exd d fs) ∧ H1 d = none ∧ Q (.ref C) (some d) (upd (del H2 a) d (.xd fs))) (fun _ _ _ => False) := by
  refine ⟨a, v, rfl, upd_same, fun d hd => ⟨rfl, d, [("place", v), ("word", .str z)], upd_same, ?_, ?_, ?_⟩⟩
  · have hda : d ≠ a := fun e => by rw [e, upd_same] at hd; cases hd
    rw [upd_ne hda, upd_same]
  · have hda : d ≠ a := fun e => by rw [e, upd_same] at hd; cases hd
    rw [upd_ne hda] at hd; exact hd
  · have hda : d ≠ a := fun e => by rw [e, upd_same] at hd; cases hd
    rw [mk_heap' ha hda]
    rw [upd_ne hda] at hd
    exact q d hd
theorem pass_no : Passes (L2.CX X.prog X.w) X (fun _ _ _ => False) := fun _ _ _ _ _ _ _ h => by
  obtain ⟨a, B, H', cls, d, _, _, _, _, _, _, _, z⟩ := h
  exact z.elim
/-- X() -/
theorem pmk_0 {ds : List Value} (T : ErC X.K C) (iC : PySem.W.findIn X.K (.ref C) "__init__" = some (some (.ref fI))) (tI : PySem.W.typeIn X.K (.ref fI) = some (.type "function")) (F1 : FnOk X.prog X.w X.K X.mg X.base (L2.CX X.prog X.w) k fI fd ["self", "place"] (spInit X.K C z))
    (hr : Room (k + 1) X.A) (hb : Binds X.K fd ["self", "place"] ds) (hd : Vals [V.non] ds) (hg : Gl X x) (hm : X.mg x = some (.ref C)) (hdb : (x == ("__debug__" : Str)) = false) :
    PMk X (.Call (.Name x p) [] [] pos) (fun σ H Q => ∀ d, H d = none → Q (.ref C) (some d) (upd H d (.xd [("place", .non), ("word", .str z)]))) := by
  intro pins s σ H Q I h
  obtain ⟨nm, q, N, bs, bm, sn, sub, ab, col, dd, k0, k1, k2, k3, k5, lC, vb⟩ := T.oex.cls
  refine wpAny_Call_Name_kw (ld_glob I hg hm ?_ hdb)
  refine PySem.W.callWith_K0 I.kIn T.oex.kC ?_
  show wpAny _ _ (call (.ref C) []) _ _ _
  obtain ⟨hp, gn, dr, tk, os⟩ := s
  have up1 : hp.objs.size ≤ hp.objs.size + 1 := Nat.le_succ _
  have fr : H (hp.objs.size + 1) = none := I.hok.fresh up1
  have sp := sp_mk (X := X) (C := C) (z := z) (v := .non) (Q := Q) fr h
  have kp : ∀ b o, hp.get? b = some o → ((hp.push (PySem.W.kdv_tup [])).push (PySem.HandSPX.excO C hp.objs.size)).get? b = some o := fun b o e => Heap.get?_push_of_some _ (Heap.get?_push_of_some _ e)
  have at1 : ((hp.push (PySem.W.kdv_tup [])).push (PySem.HandSPX.excO C hp.objs.size)).get? (hp.objs.size + 1) = some (PySem.HandSPX.excO C hp.objs.size) := by heap_get
  have J : Inv X pins σ (upd H (hp.objs.size + 1) (exo (hp.objs.size + 1) C none)) ⟨(hp.push (PySem.W.kdv_tup [])).push (PySem.HandSPX.excO C hp.objs.size), gn, dr, tk, os⟩ :=
    I.laid (t' := tk) (a := hp.objs.size + 1) (o := exo (hp.objs.size + 1) C none) (h' := (hp.push (PySem.W.kdv_tup [])).push (PySem.HandSPX.excO C hp.objs.size)) kp up1 (exo_ok at1)
  have rv : Vals [V.ref (hp.objs.size + 1), .non] (Value.ref (hp.objs.size + 1) :: ds) := .cons rfl hd
  have hl : ([Value.ref (hp.objs.size + 1)] ++ ds).length = ["self", "place"].length := by
    have e := rv.length
    simp only [List.length_cons, List.length_nil, List.length_append] at e ⊢
    omega
  refine wpAny_call (PySem.HandSPX.call_own F.excBase_ValueError (fun Y => PySem.HandSPX.refsVE_contains Y bm vb) (I.kIn _ _ lC) (PySem.W.looks_findIn I.kIn iC) (fun self => PySem.W.bind_fn I.kIn self tI) (by show 0 ≤ sizeLine; omega)
    (codeAny_mono (F1.run _ X.stack _ _ ⟨[Value.ref (hp.objs.size + 1)], []⟩ (Value.ref (hp.objs.size + 1) :: ds) [V.ref (hp.objs.size + 1), .non] _ (fun _ _ _ => False) (hr.make C [] []) (J.env0.make C [] []) (hb _ [Value.ref (hp.objs.size + 1)] J.kIn hl) rv sp) fun r t hq => ?_))
  match r, hq with
  | .error er, hq => exact pass_no pins σ _ _ er t J hq
  | .ok (.ret u), hq =>
    obtain ⟨v, H2, o2, b2, un2, ok2, r2, ev, d, fs, ea, ed, hd1, q2⟩ := hq
    subst ev
    obtain ⟨h2, g2, d2, t2, os'⟩ := t
    exact ⟨r2, mk_end (raises_own T.oex.exC T.oex.tyC) I up1 kp un2 ok2 o2 b2 ea ed hd1 q2⟩
  | .ok .next, hq => exact False.elim hq
  | .ok .brk, hq => exact False.elim hq
  | .ok .cont, hq => exact False.elim hq
end
/-- how the attributes of such an error are read -/
structure ErG (K : PySem.W.Frag) (C : Addr) : Prop where
  ga : PySem.W.findIn K (.ref C) "__getattribute__" = some (some (.builtin "BaseException.__getattribute__"))
  gg : PySem.W.findIn K (.ref C) "__getattr__" = some none
  hd : PySem.W.hasDictIn K C = true
  cl : (PySem.W.clsIn K C).isSome = true
  ca : PySem.W.findIn K (.ref C) "__class__" = some (some (.builtin "object.__class__"))
  mo : PySem.W.mroIn K C (.type "object") = some true
section
variable {X : Cx} {a C dd : Addr} {oe : Obj} {cls : Value} {d : Option Addr} {pn pins : List (Addr × Obj)} {e : Expr} {te : TE} {f : Str} {pos p p2 : Pos} {σ : L2.St} {H : Hp} {s : Shared} {fv : List (Str × V)}
theorem er_at (I : Inv (X.suite a ((a, oe) :: pn)) pins σ H s) (hz : Zc (.ref C) (some dd) oe) (hf : ∃ vs, oe.data = .fields vs) (ed : H dd = some (.xd fv)) :
    ∃ (mA : Str → Option Value) (od : Obj), PySem.W.InstAt s.heap a oe C (some od) ∧ (∀ name, PySem.W.lookIn name od = some (mA name)) ∧ ∀ g, RelO (fv.lookup g) (mA g) := by
  obtain ⟨at1, _⟩ := I.pin (a, oe) (List.mem_append_left _ List.mem_cons_self)
  obtain ⟨vs, hdt⟩ := hf
  obtain ⟨mA, hns, hr⟩ := (show ObjOk X.prog X.w H s.heap dd (.xd fv) from I.hok dd _ ed)
  obtain ⟨od, ho, hl⟩ := lookIn_ns hns
  exact ⟨mA, od, ⟨at1, hz.1, by unfold PySem.W.notCls; rw [hdt], by rw [hz.2]; exact ho⟩, hl, hr⟩
/-- e.f -/
theorem pe_xat (hz : Zc cls d oe) (hf : ∃ vs, oe.data = .fields vs) (he : PE (X.suite a ((a, oe) :: pn)) e te) (hb : attributeBase e f X.env (eval e X.env) = eval e X.env) :
    PE (X.suite a ((a, oe) :: pn)) (.Attribute e f pos) (fun σ H Q => te σ H fun x H1 => x = .ref a ∧ ∃ C dd fv v, cls = .ref C ∧ ErG X.K C ∧ PySem.W.subIn X.K (.ref C) (.type "BaseException") = some true ∧ PySem.W.findIn X.K (.ref C) f = some none ∧ d = some dd ∧ H1 dd = some (.xd fv) ∧ fv.lookup f = some v ∧ Q v H1) := by
  refine ⟨fun pins s σ H Q I h => ?_⟩
  refine attr_of hb (thn (he.run pins s σ H _ I h) fun u s1 ⟨x, H1, I1, rx, ex, C, dd, fv, v, ec, G, sb, nf, ed, e1, e2, q⟩ => ?_)
  subst ex ec ed
  obtain rfl : u = Value.ref a := rx
  obtain ⟨mA, od, J, hl, hr⟩ := er_at I1 hz hf e1
  obtain ⟨w, hw, rw_⟩ := RelO.some_of (v := v) (o := mA f) (by rw [← e2]; exact hr f)
  exact PySem.HandSPX.exc_get I1.kIn J G.ga G.gg sb (PySem.W.findObj_own G.hd nf rfl (by rw [hl, hw])) (handed_of rw_) ⟨v, H1, I1.tok _, rw_, q⟩
/-- isinstance(e, c) -/
theorem call_xis (hz : Zc cls d oe) (hf : ∃ vs, oe.data = .fields vs) : CallR (X.suite a ((a, oe) :: pn)) (.builtin "isinstance") (fun xs H Q => ∃ c C dd fv u b, xs = [.ref a, c] ∧ ClsV c u ∧ cls = .ref C ∧ ErG X.K C ∧ PySem.W.subIn X.K (.ref C) (.type "BaseException") = some true ∧ d = some dd ∧ H dd = some (.xd fv) ∧ PySem.W.kitOne X.K (.ref C) u = some b ∧ Q (.bl b) H) := by
  intro pins s σ H xs us Q I r ⟨c, C, dd, fv, u, b, e1, k, ec, G, sb, ed, e2, e3, q⟩
  subst e1 ec ed
  obtain ⟨u1, u2, rfl, r1, r2⟩ := vals2 r
  have e4 := k.eq r2
  subst e4
  obtain rfl : u1 = Value.ref a := r1
  obtain ⟨mA, od, J, _⟩ := er_at I hz hf e2
  exact PySem.W.kia_one (PySem.W.kitx_exc (od := some od) G.cl G.ga G.gg sb G.ca (by kernel_rfl) (by kernel_rfl) G.mo) I.kIn J e3 (fun z => nomatch z) fun tk => ⟨.bl b, H, I.tok tk, rfl, q⟩
end
/-! ### what is looked at -/
def shapeB (K : PySem.W.Frag) (C : Addr) : Bool := match K.lookup C with
  | some ⟨.type "type", _, .cls cd, sl⟩ => (match cd.mro, sl.toList with
    | .ref C' :: bm, [_, _, _, _, some (.builtin n), _] => C' == C && n == "ValueError.__new__" && !cd.hasDel && cd.hasDict && PySem.HandSPX.refsVE bm
    | _, _ => false)
  | _ => false
theorem shape_ok {K : PySem.W.Frag} {C : Addr} (h : shapeB K C = true) : ∃ nm q N bs bm sn sub ab col dd k0 k1 k2 k3 k5, K.lookup C = some (excClassObj nm q C N bs bm true sn sub ab col dd k0 k1 k2 k3 k5 "ValueError.__new__") ∧ PySem.HandSPX.refsVE bm = true := by
  unfold shapeB at h
  split at h
  · rename_i dd cd sl hk
    split at h
    · rename_i C' bm k0 k1 k2 k3 n k5 hm hs
      simp only [Bool.and_eq_true, beq_iff_eq, Bool.not_eq_true'] at h
      obtain ⟨⟨⟨⟨h1, h2⟩, h3⟩, h4⟩, h5⟩ := h
      obtain ⟨nm, bs, mro, ns, qn, hd, sn, sub, ab, col, del⟩ := cd
      dsimp only at hm h3 h4
      subst h1 h2 hm h3 h4
      have e : sl = #[k0, k1, k2, k3, some (.builtin "ValueError.__new__"), k5] := by
        obtain ⟨l⟩ := sl
        simp only at hs
        rw [hs]
      subst e
      exact ⟨nm, qn, ns, bs, bm, sn, sub, ab, col, dd, k0, k1, k2, k3, k5, hk, h5⟩
    · cases h
  · cases h
def erB (K : PySem.W.Frag) (C : Addr) : Bool := shapeB K C && decide (PySem.W.findIn K (.ref C) "__setattr__" = some (some (.builtin "object.__setattr__"))) && decide (PySem.W.subIn K (.ref C) (.type "BaseException") = some true) && decide (PySem.W.typeIn K (.ref C) = some (.type "type")) && PySem.W.keepIn K (.ref C) &&
  decide (PySem.W.findIn K (.ref C) "word" = some none) && decide (PySem.W.findIn K (.ref C) "place" = some none) && decide (PySem.W.findIn K (.ref C) "__getattribute__" = some (some (.builtin "BaseException.__getattribute__"))) && decide (PySem.W.findIn K (.ref C) "__getattr__" = some none) &&
  PySem.W.hasDictIn K C && (PySem.W.clsIn K C).isSome && decide (PySem.W.findIn K (.ref C) "__class__" = some (some (.builtin "object.__class__"))) && decide (PySem.W.mroIn K C (.type "object") = some true) &&
  decide (PySem.W.findIn K (.ref C) "__init__" = some (some (.ref (He.ma K C "__init__")))) && decide (PySem.W.typeIn K (.ref (He.ma K C "__init__")) = some (.type "function")) && PySem.W.keepIn K (.ref (He.ma K C "__init__"))
structure ErF (K : PySem.W.Frag) (C : Addr) : Prop where
  c : ErC K C
  g : ErG K C
  i : PySem.W.findIn K (.ref C) "__init__" = some (some (.ref (He.ma K C "__init__")))
  t : PySem.W.typeIn K (.ref (He.ma K C "__init__")) = some (.type "function")
  k : PySem.W.keepIn K (.ref (He.ma K C "__init__")) = true
theorem er_ok {K : PySem.W.Frag} {C : Addr} (h : erB K C = true) : ErF K C := by
  unfold erB at h
  simp only [Bool.and_eq_true, decide_eq_true_eq] at h
  obtain ⟨⟨⟨⟨⟨⟨⟨⟨⟨⟨⟨⟨⟨⟨⟨h1, h2⟩, h3⟩, h4⟩, h5⟩, h6⟩, h7⟩, h8⟩, h9⟩, h10⟩, h11⟩, h12⟩, h13⟩, h14⟩, h15⟩, h16⟩ := h
  exact ⟨⟨⟨shape_ok h1, h2, h3, h4, h5⟩, h6, h7⟩, ⟨h8, h9, h10, h11, h12, h13⟩, h14, h15, h16⟩
def cfB (o : Option PySem.W.CFound) (f : Addr) : Bool := match o with
  | some (.val (.ref g)) => g == f
  | _ => false
theorem cfB_ok {o : Option PySem.W.CFound} {f : Addr} (h : cfB o f = true) : o = some (.val (.ref f)) := by
  unfold cfB at h
  split at h
  · rw [beq_iff_eq] at h; rw [h]
  · cases h
def baseB (K : PySem.W.Frag) (C : Addr) : Bool := PySem.W.readsIn K C (.type "type") && decide (PySem.W.specialIn K (.ref C) "__getattribute__" = some (some (.builtin "type.__getattribute__"))) && cfB (PySem.W.findCls K (.ref C) (.type "type") "__init__") (He.ma K C "__init__") && PySem.W.keepIn K (.ref (He.ma K C "__init__"))
theorem base_ok {K : PySem.W.Frag} {C : Addr} (h : baseB K C = true) : ErR K C (He.ma K C "__init__") ∧ PySem.W.keepIn K (.ref (He.ma K C "__init__")) = true := by
  unfold baseB at h
  simp only [Bool.and_eq_true, decide_eq_true_eq] at h
  exact ⟨⟨h.1.1.1, h.1.1.2, cfB_ok h.1.2⟩, h.2⟩
end OD

set_option Elab.async false
set_option autoImplicit false
set_option linter.all false
set_option maxRecDepth 100000
set_option maxHeartbeats 4000000
/-! My own layer, part 5: calls, built-ins, what a loop walks, list comprehensions. -/
namespace OD
open PySem PySem.Spec PyProof.Rows L2

/-! ### a def's promise -/
def spR (W : Wd) (ar : Nat) (r : List D → MS → Res (D × Kd)) : Sp := fun vs H Q Ex => ∃ P g m ds, GOk W g H m ∧ PDom P g H ∧ RelDs W g H ds vs ∧ ds.length = ar ∧
  SatR W P g H m.w (fun c d H' => ∀ C, W.clA c = some C → Ex (.ref C) (some d) H') (r ds m) fun x _ g' H' => ∀ v, RV W H g' H' x v → Q v H'
/-- where the f-th def stands, and that it keeps its promise -/
structure FnI (X : Cx) (W : Wd) (k ar : Nat) (r : List D → MS → Res (D × Kd)) (fa : Addr) : Prop where
  ok : ∃ fd ps, FnOkG X.prog X.w X.K X.mg X.base (L2.CX X.prog X.w) k fa fd ps (spR W ar r) ∧ Binds X.K fd ps []
  kp : PySem.W.keepIn X.K (.ref fa) = true
section
variable {X : Cx} {E : En} {e e1 e2 e3 : Expr} {es rest : List Expr} {a b c as : T} {p pos : Pos}
theorem backTo_no {α : Type} (pos : Pos) : ∀ l : List (Bool × Sem α), True := fun _ => trivial
/-- the argument lists have no stars -/
def noStar : Expr → Bool
  | .Starred _ _ => false
  | _ => true
theorem starEach_cons {env : Env} (h : noStar e = true) : starEach (e :: es) env = (false, eval e env) :: starEach es env := by
  cases e <;> first | rfl | cases h
theorem starEach_no {env : Env} : ∀ {es : List Expr}, es.all noStar = true → (starEach es env).any (·.1) = false
  | [], _ => rfl
  | e :: es, h => by
    rw [List.all_cons, Bool.and_eq_true] at h
    rw [starEach_cons h.1, List.any_cons, starEach_no h.2]; rfl
theorem backTo_any (pos : Pos) : ∀ {l : List (Bool × Sem Value)}, l.any (·.1) = false → (backTo pos l).any (·.1) = false := fun {l} h => by
  rw [← h]
  unfold backTo
  rw [List.any_map]
  rfl
theorem sn_call {k ar f : Nat} {x : Str} {fa : Addr} (hK : X.K = E.W.K) (F : FnI X E.W k ar (E.cf f) fa) (hr : Room k X.A) (hgu : X.A.guards = some []) (hg : Gl X x) (hm : X.mg x = some (.ref fa)) (tk : Takes X E.Wx) (ha : PA X (e :: es) (TAo E as)) (hd : (x == ("__debug__" : Str)) = false)
    (hns : (e :: es).all noStar = true) (har : ∀ ds m, E.cf f ds m ≠ .bad → ds.length = ar) : PE X (.Call (.Name x p) (e :: es) [] pos) (TEo E (.call f as)) := by
  obtain ⟨fd, ps, G, hb⟩ := F.ok
  have h1 := hns
  rw [List.all_cons, Bool.and_eq_true] at h1
  refine (pe_callG (E := WE E.Wx) G hr hgu hg hm F.kp hb (fun σ => passAt tk σ) ha hd (starEach_cons h1.1) (backTo_any pos (starEach_no h1.2))).imp fun σ H Q ⟨P, g, S, m, hS, h⟩ => ?_
  simp only [evE] at h
  refine ⟨P, g, S, m, hS, h.bind.mono fun ds m1 g1 H1 x1 k1 h1 vs hv => ⟨P, g1, m1, ds, k1, x1.dom hS.dom, hv, har ds m1 ?_, SatR.rv h1 x1.live⟩⟩
  intro q
  rw [q] at h1
  exact h1
/-- the slot holds one of the defs -/
def tCallV (i : Nat) (S : Addr → Sp → Prop) (Wx : WX) (t : TA) : TE := fun σ H Q => ∃ f sp, σ[i]? = some (some (.ref f)) ∧ S f sp ∧ t σ H fun vs H1 => sp vs H1 Q (WE Wx σ)
theorem pe_callV {i k : Nat} {x : Str} {S : Addr → Sp → Prop} {Wx : WX} {t : TA} (A : ∀ f sp, S f sp → ∃ fd ps, FnOkG X.prog X.w X.K X.mg X.base (L2.CX X.prog X.w) k f fd ps sp ∧ Binds X.K fd ps [] ∧ PySem.W.keepIn X.K (.ref f) = true) (hr : Room k X.A) (hgu : X.A.guards = some []) (hN : X.N[i]? = some x) (hv : Vis X.env.scope x)
    (tk : Takes X Wx) (ha : PA X (e :: es) t) (hdb : (x == ("__debug__" : Str)) = false) (hcd : (x == ("__classdict__" : Str)) = false) (he : starEach (e :: es) X.env = (false, eval e X.env) :: starEach es X.env) (hpl : (backTo pos (starEach es X.env)).any (·.1) = false) :
    PE X (.Call (.Name x p) (e :: es) [] pos) (tCallV i S Wx t) := by
  refine ⟨fun pins s σ H Q I h => ?_⟩
  obtain ⟨f, sp, hs, hS, ht⟩ := h
  obtain ⟨fd, ps, F, hb, hk⟩ := A f sp hS
  refine wpAny_Call_Name_kw (thn ((pe_var (pos := p) hN hv hdb hcd).run pins s σ H (fun v H1 => v = .ref f ∧ H1 = H) I ⟨.ref f, hs, rfl, rfl⟩) fun u s1 ⟨v, H1, I1, r1, q1⟩ => ?_)
  obtain ⟨rfl, rfl⟩ := q1
  cases r1
  refine PySem.W.callWith_K (h₀ := X.base) I.ok.mod.kin hk (thn (ha.run pos pins s1 σ _ _ I1 ht) fun us s2 ⟨vs, H2, I2, r, q⟩ => ⟨I2.kIn, ?_⟩) he hpl
  exact run_fnG F hr hgu hb (passAt tk σ) I2 r q
theorem sn_callv {k i : Nat} {x : Str} (arity : Nat → Nat) (A : ∀ f fa, E.W.fnA f = some fa → FnI X E.W k (arity f) (E.cf f) fa) (hr : Room k X.A) (hgu : X.A.guards = some []) (hN : X.N[i]? = some x) (hv : Vis X.env.scope x) (tk : Takes X E.Wx) (ha : PA X (e :: es) (TAo E as))
    (hd : (x == ("__debug__" : Str)) = false) (hcd : (x == ("__classdict__" : Str)) = false) (hns : (e :: es).all noStar = true) (har : ∀ f ds m, E.cf f ds m ≠ .bad → ds.length = arity f) : PE X (.Call (.Name x p) (e :: es) [] pos) (TEo E (.callv i as)) := by
  have h1 := hns
  rw [List.all_cons, Bool.and_eq_true] at h1
  refine (pe_callV (i := i) (S := fun f sp => ∃ n, E.W.fnA n = some f ∧ sp = spR E.W (arity n) (E.cf n)) (Wx := E.Wx) (fun f sp ⟨n, h1, h2⟩ => ?_) hr hgu hN hv tk ha hd hcd (starEach_cons h1.1) (backTo_any pos (starEach_no h1.2))).imp fun σ H Q ⟨P, g, S, m, hS, h⟩ => ?_
  · subst h2
    obtain ⟨fd, ps, G, hb⟩ := (A n f h1).ok
    exact ⟨fd, ps, G, hb, (A n f h1).kp⟩
  · simp only [evE] at h
    have hs := hS.slot i
    split at h
    · rename_i n hg
      rw [hg] at hs
      obtain ⟨v, e1, r⟩ := hs
      cases r with
      | fn hf =>
        refine ⟨_, _, getD_some e1, ⟨n, hf, rfl⟩, P, g, S, m, hS, h.bind.mono fun ds m1 g1 H1 x1 k1 h1 vs hv => ⟨P, g1, m1, ds, k1, x1.dom hS.dom, hv, har n ds m1 ?_, SatR.rv h1 x1.live⟩⟩
        intro q
        rw [q] at h1
        exact h1
    · exact h.elim

/-! ### built-ins -/
theorem foldl_min_le (xs : List Int) : ∀ x : Int, (xs.foldl min x ≤ x ∧ ∀ y ∈ xs, xs.foldl min x ≤ y) ∧ (xs.foldl min x = x ∨ xs.foldl min x ∈ xs) := by
  induction xs with
  | nil => intro x; simp
  | cons z xs ih =>
    intro x
    obtain ⟨⟨h1, h2⟩, h3⟩ := ih (min x z)
    rw [List.foldl_cons]
    refine ⟨⟨by omega, fun y hy => ?_⟩, ?_⟩
    · rcases List.mem_cons.mp hy with rfl | hy
      · omega
      · exact h2 y hy
    · rcases h3 with h3 | h3
      · rw [h3]
        by_cases hc : x ≤ z
        · left; omega
        · right; rw [show min x z = z by omega]; exact List.mem_cons_self
      · exact .inr (List.mem_cons_of_mem _ h3)
theorem foldl_max_le (xs : List Int) : ∀ x : Int, (x ≤ xs.foldl max x ∧ ∀ y ∈ xs, y ≤ xs.foldl max x) ∧ (xs.foldl max x = x ∨ xs.foldl max x ∈ xs) := by
  induction xs with
  | nil => intro x; simp
  | cons z xs ih =>
    intro x
    obtain ⟨⟨h1, h2⟩, h3⟩ := ih (max x z)
    rw [List.foldl_cons]
    refine ⟨⟨by omega, fun y hy => ?_⟩, ?_⟩
    · rcases List.mem_cons.mp hy with rfl | hy
      · omega
      · exact h2 y hy
    · rcases h3 with h3 | h3
      · rw [h3]
        by_cases hc : z ≤ x
        · left; omega
        · right; rw [show max x z = z by omega]; exact List.mem_cons_self
      · exact .inr (List.mem_cons_of_mem _ h3)
theorem minL_uniq {ns : List Int} {k : Int} (h : k ∈ ns) (h2 : ∀ y, y ∈ ns → k ≤ y) : k = minL ns := by
  cases ns with
  | nil => cases h
  | cons x xs =>
    obtain ⟨⟨a1, a2⟩, a3⟩ := foldl_min_le xs x
    show k = xs.foldl min x
    have b1 : xs.foldl min x ≤ k := by
      rcases List.mem_cons.mp h with rfl | h
      · exact a1
      · exact a2 k h
    have b2 : k ≤ xs.foldl min x := by
      rcases a3 with a3 | a3
      · rw [a3]; exact h2 x List.mem_cons_self
      · exact h2 _ (List.mem_cons_of_mem _ a3)
    omega
theorem maxL_uniq {ns : List Int} {k : Int} (h : k ∈ ns) (h2 : ∀ y, y ∈ ns → y ≤ k) : k = maxL ns := by
  cases ns with
  | nil => cases h
  | cons x xs =>
    obtain ⟨⟨a1, a2⟩, a3⟩ := foldl_max_le xs x
    show k = xs.foldl max x
    have b1 : k ≤ xs.foldl max x := by
      rcases List.mem_cons.mp h with rfl | h
      · exact a1
      · exact a2 k h
    have b2 : xs.foldl max x ≤ k := by
      rcases a3 with a3 | a3
      · rw [a3]; exact h2 x List.mem_cons_self
      · exact h2 _ (List.mem_cons_of_mem _ a3)
    omega
def sortI (ns : List Int) : List Int := ns.mergeSort (fun a b => decide (a ≤ b))
theorem sortI_uniq {ns ms : List Int} (h : ms.Perm ns) (h2 : ms.Pairwise (· ≤ ·)) : ms = sortI ns := by
  refine List.Perm.eq_of_pairwise (le := (· ≤ ·)) (fun a b _ _ h1 h2 => by omega) h2 ?_ (h.trans (List.mergeSort_perm ns _).symm)
  have := List.pairwise_mergeSort (le := fun a b : Int => decide (a ≤ b)) (fun a b c h1 h2 => by simp at *; omega) (fun a b => by simp; omega) ns
  exact this.imp fun h => by simpa using h

/-- the built-in that stands under a name: a function or a type -/
def bfN : BF → Str
  | .len => "len" | .abs => "abs" | .min2 => "min" | .max2 => "max" | .minl => "min" | .maxl => "max" | .int => "int" | .any => "any" | .all => "all" | .sum => "sum" | .list => "list" | .tuple => "tuple" | .sorted => "sorted" | .repr => "repr"
/-- a dict's keys as a list -/
def rKys : List V → Hp → VK → Prop := fun xs H Q => ∃ p b ks, xs = [V.ref p] ∧ Rd H p (dkO b ks) ∧ ∀ l us, H l = none → (match b with | true => ∃ bs, us = bs.map V.ref ∧ IsKeys H (kvT ks) bs | false => us = (ks.map fun k => V.int (k.headD 0))) → Q (.ref l) (upd H l (.lst us))
theorem call_kys {X : Cx} (hc : X.calm = true) : CallR X (.type "list") rKys := by
  intro pins s σ H xs us Q I r ⟨p, b, ks, ex, hd, q⟩
  cases b with
  | true => exact call_list_dT hc pins s σ H xs us Q I r ⟨p, kvT ks, ex, hd, fun l bs hl hk => q l _ hl ⟨bs, rfl, hk⟩⟩
  | false => exact call_listD hc pins s σ H xs us Q I r ⟨p, kvI ks, ex, hd, fun l hl => q l _ hl (by unfold kvI; rw [List.map_map]; rfl)⟩
/-- what sorted() asks -/
def rSrt (K : PySem.W.Frag) : List V → Hp → VK → Prop := fun xs H Q => (rSortedI K xs H Q ∨ ∃ (a : Addr) (ys : List V) (ps : List (Int × Int)), xs = [.ref a] ∧ SqL K H a ys ∧ Paired (PrV K H) ys ps ∧ rPrs K ps H Q) ∨
  ((∃ (a : Addr) (kvs : List (Key × V)) (ks : List Int), xs = [.ref a] ∧ Rd H a (.dK kvs) ∧ kvs.map (·.1) = ks.map Sum.inl ∧ ∀ (ys : List Int) (p : Addr), ys.Perm ks → ys.Pairwise (· ≤ ·) → H p = none → Q (.ref p) (upd H p (.lst (ys.map V.int)))) ∨
    ∃ (a : Addr) (kvs : List (List Key × V)) (ps : List (Int × Int)), xs = [.ref a] ∧ Rd H a (.dT kvs) ∧ kvs.map (·.1) = ps.map (fun p => [Sum.inl p.1, Sum.inl p.2]) ∧ rPrs K ps H Q)
def rBf (K : PySem.W.Frag) : BF → List V → Hp → VK → Prop
  | .len => fun xs H Q => ∃ x n, xs = [x] ∧ LenV K x H n ∧ Q (.int n) H
  | .abs => fun xs H Q => ∃ i, xs = [.int i] ∧ Q (.int (if i < 0 then -i else i)) H
  | .min2 => fun xs H Q => ∃ i j, xs = [.int i, .int j] ∧ Q (.int (if j < i then j else i)) H
  | .max2 => fun xs H Q => ∃ i j, xs = [.int i, .int j] ∧ Q (.int (if j > i then j else i)) H
  | .minl => rMin K
  | .maxl => rMax K
  | .int => fun xs H Q => (∃ i, xs = [.int i] ∧ Q (.int i) H) ∨ ∃ k, xs = [.bl k] ∧ Q (.int (if k then 1 else 0)) H
  | .any => rAny K
  | .all => rAll K
  | .sum => rSum K
  | .list => fun xs H Q => (∃ p ys, xs = [.ref p] ∧ (SqL K H p ys ∨ SqT K H p ys) ∧ ∀ l, H l = none → Q (.ref l) (upd H l (.lst ys))) ∨ rKys xs H Q
  | .tuple => fun xs H Q => ∃ p ys, xs = [.ref p] ∧ ((SqL K H p ys ∧ ∀ l, H l = none → Q (.ref l) (upd H l (.tup ys))) ∨ (SqT K H p ys ∧ Q (.ref p) H))
  | .sorted => rSrt K
  | .repr => fun xs H Q => ∃ (a : Addr) (d : PyData), xs = [.ref a] ∧ Dp K H (.ref a) d ∧ d.showable = true ∧ d.hasDict = false ∧ d.depth ≤ 60 ∧ d.shown.length ≤ sizeLine ∧ Q (.str d.shown) H
theorem call_reprD (hgu : X.A.guards = some []) (hu : X.A.units + 65 < cLine) : CallR X (.builtin "repr") (rBf X.K .repr) := by
  intro pins s σ H xs us Q I r h
  obtain ⟨a, d, rfl, hd, h1, h2, h3, h4, q⟩ := h
  obtain ⟨u, rfl, rx⟩ := vals1 r
  cases rx
  obtain ⟨as, hr⟩ := Dp.reads I d _ _ hd rfl
  exact repr_of_reads' hr h1 (PyData.noDict_hsm h2) hgu (by omega) (fun _ _ e => e) (fun h' u tk hk => ⟨.str d.shown, H, I.kept hk, ⟨u, rfl⟩, q⟩) h4
theorem pe_bf (hc : X.calm = true) (hgu : X.A.guards = some []) (hu : X.A.units + 65 < cLine) (f : BF) {t : TA} (hg : Gl X (bfN f)) (hm : X.mg (bfN f) = none) (ha : PA X (e :: es) t) (hns : (e :: es).all noStar = true) : PE X (.Call (.Name (bfN f) p) (e :: es) [] pos) (tCB (rBf X.K f) t) := by
  have h1 := hns
  rw [List.all_cons, Bool.and_eq_true] at h1
  have s1 := starEach_cons (es := es) (env := X.env) h1.1
  have s2 := backTo_any pos (starEach_no (env := X.env) h1.2)
  cases f with
  | len => exact pe_callB call_len hg hm boot_len ha (by decide) (by decide) s1 s2
  | abs => exact pe_callB call_abs hg hm (by decide +kernel) ha (by decide) (by decide) s1 s2
  | min2 => exact pe_callB (call_min2 hc) hg hm (by decide +kernel) ha (by decide) (by decide) s1 s2
  | max2 => exact pe_callB (call_max2 hc) hg hm (by decide +kernel) ha (by decide) (by decide) s1 s2
  | minl => exact pe_callB (cr_min hc) hg hm (by decide +kernel) ha (by decide) (by decide) s1 s2
  | maxl => exact pe_callB (cr_max hc) hg hm (by decide +kernel) ha (by decide) (by decide) s1 s2
  | int => exact pe_callTy call_int1 hg hm (by decide +kernel) ha (by decide) (by decide) s1 s2
  | any => exact pe_callB (cr_any hc) hg hm (by decide +kernel) ha (by decide) (by decide) s1 s2
  | all => exact pe_callB (cr_all hc) hg hm (by decide +kernel) ha (by decide) (by decide) s1 s2
  | sum => exact pe_callB (cr_sum hc) hg hm (by decide +kernel) ha (by decide) (by decide) s1 s2
  | list => exact pe_callTy (call_list_of.or (call_kys hc)) hg hm (by decide +kernel) ha (by decide) (by decide) s1 s2
  | tuple => exact pe_callTy call_tuple_of hg hm (by decide +kernel) ha (by decide) (by decide) s1 s2
  | sorted => exact pe_callB ((cr_sortedI.or sorted_lP).or ((sorted_dI hc).or (sorted_dP hc))) hg hm (by decide +kernel) ha (by decide) (by decide) s1 s2
  | repr => exact pe_callB (call_reprD hgu hu) hg hm (by decide +kernel) ha (by decide) (by decide) s1 s2
section
variable {W : Wd} {P : Addr → Prop} {g : Gh} {H : Hp} {m : MS} {vs : List V} {ds : List D} {x : D × Kd} {Q : VK}
theorem RWs.one {d : D} (r : RWs W g H [d] vs) : ∃ v, vs = [v] ∧ RW W g H d v := by
  cases r with
  | cons r t => cases t; exact ⟨_, rfl, r⟩
theorem RWs.two {d e : D} (r : RWs W g H [d, e] vs) : ∃ v u, vs = [v, u] ∧ RW W g H d v ∧ RW W g H e u := by
  cases r with
  | cons r t =>
    cases t with
    | cons r2 t => cases t; exact ⟨_, _, rfl, r, r2⟩
theorem lenD_ok {d : D} {v : V} {n : Nat} (h : lenD d m = some n) (r : RW W g H d v) (k : GOk W g H m) : LenV W.K v H n := by
  have go : ∀ {ds : List D}, itemsD d m = some ds → ds.length = n → LenV W.K v H n := fun {ds} h1 h2 => by
    obtain ⟨a, us, rfl, h3, h4⟩ := r.seq k h1
    rcases h3 with h3 | h3
    · exact .inl ⟨us, h3, by rw [← h4.length]; exact h2.symm⟩
    · exact .inr ⟨us, h3, by rw [← h4.length]; exact h2.symm⟩
  unfold lenD at h
  split at h
  · rw [r.str_]
    split at h
    · exact ⟨by assumption, (Option.some.inj h).symm⟩
    · cases h
  · cases hi : itemsD d m with
    | none => rw [hi] at h; cases h
    | some ds =>
      rw [hi] at h
      exact go hi (Option.some.inj h)
theorem relK : ∀ {ks : List (List Int)} {bs : List Addr}, IsKeys H (kvT ks) bs → RelDs W g H (ks.map (keyD true)) (bs.map V.ref)
  | [], _, h => by
    cases h
    exact .nil
  | k :: ks, _, h => by
    cases h with
    | cons h t =>
      have h : H _ = some (.tup ((k.map Sum.inl).map kV)) := h
      rw [map_inl] at h
      exact .cons (.tup (.of h) (.ints k)) (relK t)
theorem sortP_uniq {ps qs : List (Int × Int)} (h : qs.Perm ps) (h2 : inOrder qs) : qs = sortP ps := by
  refine List.Perm.eq_of_pairwise (le := fun a b => SrtO.lexB b a = false) (fun a b _ _ h1 h2 => ?_) h2 ?_ (h.trans (List.mergeSort_perm ps _).symm)
  · have e1 := SrtO.lexB_no.mp h1
    have e2 := SrtO.lexB_no.mp h2
    exact Prod.ext (by omega) (by omega)
  · have := List.pairwise_mergeSort (le := fun a b : Int × Int => !SrtO.lexB b a) (fun a b c h1 h2 => ?_) (fun a b => ?_) ps
    · exact this.imp fun h => by simpa using h
    · rw [Bool.not_eq_true', SrtO.lexB_no] at *
      omega
    · rw [Bool.or_eq_true, Bool.not_eq_true', Bool.not_eq_true', SrtO.lexB_no, SrtO.lexB_no]
      omega
theorem prs_of : ∀ {ds : List D} {vs : List V} {ps : List (Int × Int)}, RelDs W g H ds vs → prsD ds = some ps → Paired (PrV W.K H) vs ps
  | [], _, ps, .nil, e => by
    cases e; exact .nil
  | .tup [.int i, .int j] :: ds, _, ps, .cons r t, e => by
    cases r with
    | tup h1 h2 =>
      cases q : prsD ds with
      | none => rw [prsD, q] at e; cases e
      | some qs =>
        rw [prsD, q] at e
        cases e
        rw [h2.of_ints (show intsD [.int i, .int j] = some [i, j] from rfl)] at h1
        exact .cons ⟨_, rfl, h1⟩ (prs_of t q)
theorem prs_to : ∀ {vs : List V} {ps : List (Int × Int)}, Paired (PrV W.K H) vs ps → RelDs W g H (ps.map prD) vs
  | _, _, .nil => .nil
  | _, _, .cons h t => by
    obtain ⟨a, rfl, q⟩ := h
    exact .cons (.tup q (.ints [_, _])) (prs_to t)
theorem prsK_of : ∀ {ks : List (List Int)} {ps : List (Int × Int)}, prsK ks = some ps → (kvT ks).map (·.1) = ps.map fun p => [Sum.inl p.1, Sum.inl p.2]
  | [], ps, e => by
    cases e; rfl
  | [i, j] :: ks, ps, e => by
    cases q : prsK ks with
    | none => rw [prsK, q] at e; cases e
    | some qs =>
      rw [prsK, q] at e
      cases e
      exact congrArg (List.cons [Sum.inl i, Sum.inl j]) (prsK_of q)
theorem srtD_ok {d : D} {v : V} (h : srtD d = some x) (r : RW W g H d v) (k : GOk W g H m) {Hb : Hp} (dm : ∀ a, H a = none → Hb a = none)
    (q : ∀ g' H' z, Ext P g g' H H' m.w m.w → GOk W g' H' m → RV W Hb g' H' x z → Q z H') : rSrt W.K [v] H Q := by
  have numbers : ∀ (ns ms : List Int) (p : Addr), x = srtI ns → ms.Perm ns → ms.Pairwise (· ≤ ·) → H p = none → Q (.ref p) (upd H p (.lst (ms.map V.int))) := fun ns ms p ex h3 h4 hp => by
    have x2 := ext_new (P := P) (w := m.w) (o := .lst (ms.map V.int)) hp k
    subst ex
    rw [sortI_uniq h3 h4] at x2 ⊢
    exact q g _ _ x2 (gok_new hp k) ⟨_, p, _, rfl, rfl, upd_same, .ints _, k.nofz hp, k.noρ hp, dm p hp⟩
  have pairs : ∀ ps : List (Int × Int), x = srtP ps → rPrs W.K ps H Q := fun ps ex ys qs p h1 h3 h4 hp => by
    have x2 := ext_new (P := P) (w := m.w) (o := .lst ys) hp k
    have h5 : RelDs W g H (qs.map prD) ys := prs_to h1
    subst ex
    rw [sortP_uniq h3 h4] at h5
    exact q g _ _ x2 (gok_new hp k) ⟨_, p, _, rfl, rfl, upd_same, h5.ext x2 k, k.nofz hp, k.noρ hp, dm p hp⟩
  have lists : ∀ {es : List D}, OD.listOf d = some es → (match intsD es with | some ns => some (srtI ns) | none => (prsD es).map srtP) = some x → rSrt W.K [v] H Q := fun {es} hl h => by
    obtain ⟨a, us, rfl, h1, h2⟩ := r.listOf hl
    cases hi : intsD es with
    | some ns =>
      rw [hi] at h
      rw [h2.of_ints hi] at h1
      exact .inl (.inl ⟨a, ns, rfl, h1, fun ms p h3 h4 hp => numbers ns ms p (Option.some.inj h).symm h3 h4 hp⟩)
    | none =>
      rw [hi] at h
      obtain ⟨ps, hp, e⟩ := Option.map_eq_some_iff.mp h
      exact .inl (.inr ⟨a, us, ps, rfl, h1, prs_of h2 hp, pairs ps e.symm⟩)
  cases d with
  | dct b ks =>
    obtain ⟨a, o, rfl, ha⟩ := r.dct_
    cases b with
    | false => exact .inr (.inl ⟨a, kvI ks, ks.map fun k => k.headD 0, rfl, .inr ⟨o, ha⟩, by unfold kvI; rw [List.map_map, List.map_map]; rfl, fun ms p h3 h4 hp => numbers _ ms p (Option.some.inj h).symm h3 h4 hp⟩)
    | true =>
      obtain ⟨ps, hp, e⟩ := Option.map_eq_some_iff.mp (show (prsK ks).map srtP = some x from h)
      exact .inr (.inr ⟨a, kvT ks, ps, rfl, .inr ⟨o, ha⟩, prsK_of hp, pairs ps e.symm⟩)
  | lst es => exact lists rfl h
  | scr ns => exact lists rfl h
  | _ => cases h
theorem bltD_ok {f : BF} (h : bltD f ds m = some x) (r : RWs W g H ds vs) (k : GOk W g H m) {Hb : Hp} (dm : ∀ a, H a = none → Hb a = none)
    (q : ∀ g' H' z, Ext P g g' H H' m.w m.w → GOk W g' H' m → RV W Hb g' H' x z → Q z H') : rBf W.K f vs H Q := by
  have lo : ∀ {d : D} {es : List D}, RWs W g H [d] vs → OD.listOf d = some es → ∃ a us, vs = [.ref a] ∧ SqL W.K H a us ∧ RelDs W g H es us := fun {d es} r h => by
    obtain ⟨v, rfl, r1⟩ := r.one
    obtain ⟨a, us, rfl, h1, h2⟩ := r1.listOf h
    exact ⟨a, us, rfl, h1, h2⟩
  unfold bltD at h
  split at h
  · -- len
    rename_i d
    obtain ⟨v, rfl, r1⟩ := r.one
    cases hn : lenD d m with
    | none => rw [hn] at h; cases h
    | some n =>
      rw [hn] at h
      cases h
      exact ⟨v, n, rfl, lenD_ok hn r1 k, q g H _ .refl k (.int _)⟩
  · obtain ⟨v, rfl, r1⟩ := r.one
    cases h
    exact ⟨_, by rw [r1.int_], q g H _ .refl k (.int _)⟩
  · obtain ⟨v, u, rfl, r1, r2⟩ := r.two
    cases h
    exact ⟨_, _, by rw [r1.int_, r2.int_], q g H _ .refl k (.int _)⟩
  · obtain ⟨v, u, rfl, r1, r2⟩ := r.two
    cases h
    exact ⟨_, _, by rw [r1.int_, r2.int_], q g H _ .refl k (.int _)⟩
  · -- min
    rename_i d
    cases hl : OD.listOf d with
    | none => rw [hl] at h; cases h
    | some es =>
      rw [hl] at h
      cases hi : intsD es with
      | none =>
        simp only [Option.bind_some, hi, Option.bind_none] at h
        cases h
      | some ns =>
        simp only [Option.bind_some, hi] at h
        split at h
        · cases h
          obtain ⟨a, us, rfl, h1, h2⟩ := lo r hl
          rw [h2.of_ints hi] at h1
          exact ⟨a, ns, rfl, h1, by assumption, fun k' h3 h4 => by rw [minL_uniq h3 h4]; exact q g H _ .refl k (.int _)⟩
        · cases h
  · rename_i d
    cases hl : OD.listOf d with
    | none => rw [hl] at h; cases h
    | some es =>
      rw [hl] at h
      cases hi : intsD es with
      | none =>
        simp only [Option.bind_some, hi, Option.bind_none] at h
        cases h
      | some ns =>
        simp only [Option.bind_some, hi] at h
        split at h
        · cases h
          obtain ⟨a, us, rfl, h1, h2⟩ := lo r hl
          rw [h2.of_ints hi] at h1
          exact ⟨a, ns, rfl, h1, by assumption, fun k' h3 h4 => by rw [maxL_uniq h3 h4]; exact q g H _ .refl k (.int _)⟩
        · cases h
  · obtain ⟨v, rfl, r1⟩ := r.one
    cases h
    exact .inl ⟨_, by rw [r1.int_], q g H _ .refl k (.int _)⟩
  · rename_i d
    cases hl : OD.listOf d with
    | none => rw [hl] at h; cases h
    | some es =>
      rw [hl] at h
      cases hi : blsD es with
      | none =>
        simp only [Option.bind_some, hi, Option.map_none] at h
        cases h
      | some ns =>
        simp only [Option.bind_some, hi, Option.map_some] at h
        cases h
        obtain ⟨a, us, rfl, h1, h2⟩ := lo r hl
        rw [h2.of_bls hi] at h1
        exact ⟨a, ns, rfl, h1, q g H _ .refl k (.bl _)⟩
  · rename_i d
    cases hl : OD.listOf d with
    | none => rw [hl] at h; cases h
    | some es =>
      rw [hl] at h
      cases hi : blsD es with
      | none =>
        simp only [Option.bind_some, hi, Option.map_none] at h
        cases h
      | some ns =>
        simp only [Option.bind_some, hi, Option.map_some] at h
        cases h
        obtain ⟨a, us, rfl, h1, h2⟩ := lo r hl
        rw [h2.of_bls hi] at h1
        exact ⟨a, ns, rfl, h1, q g H _ .refl k (.bl _)⟩
  · rename_i d
    cases hl : OD.listOf d with
    | none => rw [hl] at h; cases h
    | some es =>
      rw [hl] at h
      cases hi : intsD es with
      | none =>
        simp only [Option.bind_some, hi, Option.map_none] at h
        cases h
      | some ns =>
        simp only [Option.bind_some, hi, Option.map_some] at h
        cases h
        obtain ⟨a, us, rfl, h1, h2⟩ := lo r hl
        rw [h2.of_ints hi] at h1
        exact ⟨a, ns, rfl, h1, q g H _ .refl k (.int _)⟩
  · rename_i d
    obtain ⟨v, rfl, r1⟩ := r.one
    by_cases hdc : ∃ b ks, d = .dct b ks
    · obtain ⟨b, ks, rfl⟩ := hdc
      cases h
      obtain ⟨a, o, rfl, ha⟩ := r1.dct_
      refine .inr ⟨a, b, ks, rfl, .inr ⟨o, ha⟩, fun p us hp hu => ?_⟩
      have rl : RelDs W g H (ks.map (keyD b)) us := by
        cases b with
        | true =>
          obtain ⟨bs, rfl, hk⟩ := hu
          exact relK hk
        | false =>
          have hu : us = (ks.map fun k => V.int (k.headD 0)) := hu
          subst hu
          have := RelDs.ints (W := W) (g := g) (H := H) (ks.map fun k => k.headD 0)
          rw [List.map_map, List.map_map] at this
          exact this
      have x2 := ext_new (P := P) (w := m.w) (o := .lst us) hp k
      exact q g _ _ x2 (gok_new hp k) ⟨_, p, us, rfl, rfl, upd_same, rl.ext x2 k, k.nofz hp, k.noρ hp, dm p hp⟩
    refine .inl ?_
    have hL : itemsL d m = itemsD d m := by
      cases d with
      | dct b ks => exact absurd ⟨b, ks, rfl⟩ hdc
      | _ => rfl
    rw [hL] at h
    cases hi : itemsD d m with
    | none => rw [hi] at h; cases h
    | some es =>
      rw [hi] at h
      cases h
      obtain ⟨a, us, rfl, h1, h2⟩ := r1.seq k hi
      refine ⟨a, us, rfl, h1, fun p hp => ?_⟩
      have x2 := ext_new (P := P) (w := m.w) (o := .lst us) hp k
      exact q g _ _ x2 (gok_new hp k) ⟨_, p, us, rfl, rfl, upd_same, h2.ext x2 k, k.nofz hp, k.noρ hp, dm p hp⟩
  · rename_i d
    obtain ⟨v, rfl, r1⟩ := r.one
    cases hi : itemsD d m with
    | none => rw [hi] at h; cases h
    | some es =>
      rw [hi] at h
      cases h
      obtain ⟨a, us, rfl, h1, h2⟩ := r1.seq k hi
      refine ⟨a, us, rfl, ?_⟩
      rcases h1 with h1 | h1
      · refine .inl ⟨h1, fun p hp => ?_⟩
        have x2 := ext_new (P := P) (w := m.w) (o := .tup us) hp k
        exact q g _ _ x2 (gok_new hp k) (RelD.tup (.of upd_same) (h2.ext x2 k))
      · exact .inr ⟨h1, q g H _ .refl k (RelD.tup h1 h2)⟩
  · rename_i d
    obtain ⟨v, rfl, r1⟩ := r.one
    cases hs : shD d with
    | none => rw [hs] at h; cases h
    | some z =>
      rw [hs] at h
      cases h
      unfold shD at hs
      split at hs
      · rename_i hc
        obtain ⟨c1, c2, c3, c4⟩ := hc
        cases hs
        obtain ⟨a, rfl⟩ : ∃ a, v = .ref a := by
          cases d with
          | tup ds => obtain ⟨a, _, e, _⟩ := r1.tup_; exact ⟨a, e⟩
          | lst ds => obtain ⟨a, _, e, _⟩ := r1.lst_; exact ⟨a, e⟩
          | _ => cases c1
        obtain ⟨l1, l2⟩ := okD_lay c2
        exact ⟨a, d.py, rfl, r1.dp c2, c3, PyData.hasDict_of_canLay _ l1, l2, c4, q g H _ .refl k (.str _)⟩
      · cases hs
  · obtain ⟨v, rfl, r1⟩ := r.one
    exact srtD_ok (P := P) h r1 k dm q
  · cases h
end
theorem sn_blt {f : BF} (hK : X.K = E.W.K) (hc : X.calm = true) (hgu : X.A.guards = some []) (hu : X.A.units + 65 < cLine) (hg : Gl X (bfN f)) (hm : X.mg (bfN f) = none) (ha : PA X (e :: es) (TWo E as)) (hns : (e :: es).all noStar = true) : PE X (.Call (.Name (bfN f) p) (e :: es) [] pos) (TEo E (.blt f as)) :=
  (pe_bf hc hgu hu f hg hm ha hns).imp fun σ H Q ⟨P, g, S, m, hS, h⟩ => by
    simp only [evE] at h
    refine ⟨P, g, S, m, hS, h.bind.mono fun ds m1 g1 H1 x1 k1 h1 _ _ vs hv => ?_⟩
    rw [hK]
    cases hb : bltD f ds m1 with
    | none => rw [hb] at h1; exact h1.elim
    | some z =>
      rw [hb] at h1
      exact bltD_ok (P := P) hb hv k1 (fun a => x1.none) fun g' H' z x2 k2 r => h1 g' H' x2 k2 z r
/-! ### texts joined -/
theorem RelDs.of_strs {W : Wd} {g : Gh} {H : Hp} : ∀ {ds : List OD.D} {vs : List V} {ys : List Str}, RelDs W g H ds vs → strsD ds = some ys → vs = ys.map V.str
  | [], _, ns, .nil, e => by
    cases e; rfl
  | .str x :: ds, _, ns, .cons r t, e => by
    cases r
    cases q : strsD ds with
    | none => rw [strsD, q] at e; cases e
    | some ms =>
      rw [strsD, q] at e
      cases e
      rw [RelDs.of_strs t q]; rfl
  | .non :: _, _, _, _, e => by cases e
  | .bl _ :: _, _, _, _, e => by cases e
  | .int _ :: _, _, _, _, e => by cases e
  | .tup _ :: _, _, _, _, e => by cases e
  | .lst _ :: _, _, _, _, e => by cases e
  | .scr _ :: _, _, _, _, e => by cases e
  | .ref _ :: _, _, _, _, e => by cases e
  | .fn _ :: _, _, _, _, e => by cases e
  | .cls _ :: _, _, _, _, e => by cases e
  | .ins _ _ :: _, _, _, _, e => by cases e
  | .exv _ _ :: _, _, _, _, e => by cases e
  | .dct _ _ :: _, _, _, _, e => by cases e
theorem sn_jn {x : Str} {j : Nat} {sp apos : Pos} (hK : X.K = E.W.K) (ha : PE X e (TEo E a)) (hns : noStar e = true) (hl : (apos.endLine == pos.line) = true) : PE X (.Call (.Attribute (.Constant (.str x) j sp) "join" apos) [e] [] pos) (TEo E (.jn x a)) :=
  (pe_join pe_str ha (starEach_cons hns) rfl hl).imp fun σ H Q ⟨P, g, S, m, hS, h⟩ => by
    simp only [evE] at h
    refine ⟨⟨x, rfl⟩, P, g, S, m, hS, h.bind.mono fun q m1 g1 H1 x1 k1 h1 v hv => ?_⟩
    obtain ⟨d, e1, h2⟩ := h1.opt k1
    have h2 := fun v => h2 v
    obtain ⟨d', e2, e3⟩ := Option.map_eq_some_iff.mp e1
    cases e3
    unfold joinD at e2
    cases hl : OD.listOf q.1 with
    | none => rw [hl] at e2; cases e2
    | some ds =>
      rw [hl] at e2
      have e2 : ((strsD ds).bind fun ys => if (ys.map (·.length)).sum + ys.length * x.length ≤ 16777216 then some (OD.D.str (PySem.Txt.join x ys)) else none) = some d' := e2
      cases hs : strsD ds with
      | none => rw [hs] at e2; cases e2
      | some ys =>
        rw [hs] at e2
        have e2 : (if (ys.map (·.length)).sum + ys.length * x.length ≤ 16777216 then some (OD.D.str (PySem.Txt.join x ys)) else none) = some d' := e2
        split at e2
        · rename_i hz
          cases e2
          obtain ⟨p, vs, rfl, r1, r2⟩ := hv.weak.listOf hl
          rw [r2.of_strs hs] at r1
          rw [hK]
          exact ⟨x, p, ys, rfl, rfl, .inl r1, hz, h2 _ (RelD.str _)⟩
        · cases e2
/-! ### isinstance -/
def tyN : TY → String
  | .int => "int" | .bool => "bool" | .str => "str" | .tuple => "tuple" | .list => "list"
theorem sn_isi {t : TY} {p2 : Pos} (hK : X.K = E.W.K) (hg : Gl X "isinstance") (hm : X.mg "isinstance" = none) (hg2 : Gl X (Str.ofString (tyN t))) (hm2 : X.mg (Str.ofString (tyN t)) = none) (ha : PE X e (TEo E a)) (hns : noStar e = true) :
    PE X (.Call (.Name "isinstance" p) [e, .Name (Str.ofString (tyN t)) p2] [] pos) (TEo E (.isi a t)) := by
  have hty : PE X (.Name (Str.ofString (tyN t)) p2) (tC (.ty (tyN t))) := by
    cases t <;> exact pe_bltn hg2 hm2 (by decide +kernel) rfl (by decide) (by decide)
  refine (pe_callB call_isi hg hm (by decide +kernel) (pa_cons ha (pa_cons hty pa_nil rfl) (starEach_cons hns)) (by decide) (by decide) (starEach_cons hns) rfl).imp fun σ H Q ⟨P, g, S, m, hS, h⟩ => ?_
  simp only [evE] at h
  refine ⟨P, g, S, m, hS, h.bind.mono fun x m1 g1 H1 x1 k1 h1 v hv => ?_⟩
  obtain ⟨b, e1, h2⟩ := h1.optB
  have q := h2 g1 H1 .refl k1 _ (.bl b)
  have r := hv.weak
  show ∃ (x c : V) (t u : Value) (b : Bool), [v, V.ty (tyN _)] = [x, c] ∧ ClsV c u ∧ TyX X.K H1 x t ∧ PySem.W.kitOne X.K t u = some b ∧ Q (.bl b) H1
  rw [hK]
  have fin : ∀ {T : String}, TyX E.W.K H1 v (.type T) → kitB T (tyN t) = some b → ∃ (x c : V) (t u : Value) (b : Bool), [v, V.ty (tyN _)] = [x, c] ∧ ClsV c u ∧ TyX E.W.K H1 x t ∧ PySem.W.kitOne E.W.K t u = some b ∧ Q (.bl b) H1 := fun {T} h1 h2 =>
    ⟨v, .ty (tyN t), _, _, b, rfl, .ty _, h1, kit_ty h2, q⟩
  have sqT : ∀ {p : Addr} {us : List V}, v = .ref p → SqT E.W.K H1 p us → TyX E.W.K H1 v (.type "tuple") := fun {p us} e h => by
    subst e
    rcases h with (h | ⟨o, h⟩) | ⟨o, its, n, h, hc, _⟩
    · exact .base (.tup h)
    · exact .fTuple h
    · exact .kTuple h hc
  have tt : ∀ {T : String} {c : Bool}, c = b → kitB T (tyN t) = some c → kitB T (tyN t) = some b := fun {T c} h h2 => by rw [← h]; exact h2
  unfold isiD at e1
  split at e1
  · rename_i hd
    rw [hd] at r
    exact fin (by rw [r.non_]; exact .base .non) (tt (Option.some.inj e1) (by cases t <;> decide +kernel))
  · rename_i y hd
    rw [hd] at r
    exact fin (by rw [r.bl_]; exact .base (.bl _)) (tt (Option.some.inj e1) (by cases t <;> decide +kernel))
  · rename_i y hd
    rw [hd] at r
    exact fin (by rw [r.int_]; exact .base (.int _)) (tt (Option.some.inj e1) (by cases t <;> decide +kernel))
  · rename_i y hd
    rw [hd] at r
    exact fin (by rw [r.str_]; exact .base (.str _)) (tt (Option.some.inj e1) (by cases t <;> decide +kernel))
  · rename_i y hd
    rw [hd] at r
    obtain ⟨q1, us, e2, h3, _⟩ := r.tup_
    exact fin (sqT e2 h3) (tt (Option.some.inj e1) (by cases t <;> decide +kernel))
  · rename_i y hd
    rw [hd] at r
    obtain ⟨q1, us, e2, h3, _⟩ := r.lst_
    exact fin (by rw [e2]; exact .base (.lst h3)) (tt (Option.some.inj e1) (by cases t <;> decide +kernel))
  · rename_i n hd
    rw [hd] at r
    split at e1
    · rename_i es he
      obtain ⟨q1, us, e2, _, h3, _⟩ := r.refO k1 he
      exact fin (by rw [e2]; exact .base (.lst h3)) (tt (Option.some.inj e1) (by cases t <;> decide +kernel))
    · cases e1
  · cases e1
end
end OD

set_option Elab.async false
set_option autoImplicit false
set_option linter.all false
set_option maxRecDepth 100000
set_option maxHeartbeats 4000000
/-! My own layer, part 6b: enumerate over a tuple. -/
namespace OD
open PySem PySem.Spec PyProof.Rows L2
/-- the two new objects of enumerate over a tuple -/
def en2 (tp : Addr) (hp : Heap) : Heap := (hp.push { cls := .type "tuple_iterator", data := .fields #[.ref tp, .int 0 0] }).push { cls := .type "enumerate", data := .fields #[.none, .bool false, .ref hp.objs.size, rawInt 0, .none, .none] }
theorem meets_enT (tp : Addr) (its : Array Value) : Meets (Builtin.«enumerate.__new__» ⟨[.type "enumerate", .ref tp], []⟩) (fun _ R s => s.heap.IsTuple tp its ∧
      R (.ok (.ret (.ref (s.heap.push { cls := .type "tuple_iterator", data := .fields #[.ref tp, .int 0 0] }).objs.size))) { s with heap := en2 tp s.heap }) :=
  .of_wp fun pr wo Ar Re st hyp => by
    obtain ⟨he, ge, dr, to, ou⟩ := st
    obtain ⟨ht, hyp⟩ := hyp
    have hsub := sub_enumerate
    have qi : ∀ {A' : Around} {Ee : Value → Shared → Prop} {Qq : Value → Shared → Prop}, Qq (.ref he.objs.size) ⟨he.push { cls := .type "tuple_iterator", data := .fields #[.ref tp, .int 0 0] }, ge, dr, to, ou⟩ → wpAny (model pr wo) A' (pyIter (.ref tp)) Qq Ee ⟨he, ge, dr, to, ou⟩ :=
      fun q => wpAny_pyIter_tuple ht q
    obtain ⟨ob, hob, hcl, nn, hda⟩ := ht
    obtain ⟨cc, dd, dt, sl⟩ := ob
    have hcl : cc = .type "tuple" := hcl
    subst hcl
    wp_walk using AutoSeq1.wpAny_loadPart' hob
    refine wpAny_stack_any fun sk => wpAny_pure ?_
    split
    · rename_i c5 _ _ _ _ _
      cases (c5 == Value.type "enumerate")
      · wp_walk using AutoSeq1.wpAny_loadPart' hob, qi
        exact ⟨_, rfl, hyp⟩
      · wp_walk using AutoSeq1.wpAny_loadPart' hob, qi
        exact ⟨_, rfl, hyp⟩
    · wp_walk using AutoSeq1.wpAny_loadPart' hob, qi
      exact ⟨_, rfl, hyp⟩
section
variable {prog : Program} {w : World} {A : Around} {E : Value → Shared → Prop} {s : Shared}
theorem call_enT {tp : Addr} {its : Array Value} {Q : Value → Shared → Prop} (ht : s.heap.IsTuple tp its)
    (fin : ∀ h2, IsEnum h2 (s.heap.objs.size + 1) s.heap.objs.size 0 .none → h2.IsTupleIter s.heap.objs.size tp 0 → (∀ b o, s.heap.get? b = some o → h2.get? b = some o) → Q (.ref (s.heap.objs.size + 1)) { s with heap := h2 }) :
    wpAny (model prog w) A (call (.type "enumerate") [.ref tp]) Q E s := by
  have sz : (s.heap.push { cls := .type "tuple_iterator", data := .fields #[.ref tp, .int 0 0] }).objs.size = s.heap.objs.size + 1 := Heap.size_push ..
  have he : IsEnum (en2 tp s.heap) (s.heap.objs.size + 1) s.heap.objs.size 0 .none := by
    have z := Heap.get?_push_size (s.heap.push { cls := .type "tuple_iterator", data := .fields #[.ref tp, .int 0 0] }) (o := { cls := .type "enumerate", data := .fields #[.none, .bool false, .ref s.heap.objs.size, rawInt 0, .none, .none] }) rfl
    rw [sz] at z
    exact z
  refine callType_new F.called_enumerate (by decide) (F.typeCall_enumerate_1 _) (F.newCall_enumerate_1 _) (fun obj => F.args_object_init_2 obj _) F.entry_enumerate_new (meets_enT tp its) ⟨ht, ?_⟩
  show _ ∧ _
  rw [sz]
  exact ⟨⟨_, he, rfl⟩, fin _ he ⟨_, Heap.get?_push_of_some _ (Heap.get?_push_size _ rfl), rfl, rfl⟩ fun b o z => Heap.get?_push_of_some _ (Heap.get?_push_of_some _ z)⟩
end
/-- the tuple at a, each item in a new pair -/
def Iet (K : PySem.W.Frag) (a : Addr) : It :=
  ⟨fun i H => ∃ (xs : List V) (x : V), SqT K H a xs ∧ xs[i]? = some x, fun i H v H' => ∃ T x, v = .ref T ∧ H T = none ∧ H' = upd H T (.tup [.int (i : Nat), x]) ∧ ∀ xs, SqT K H a xs → xs[i]? = some x, fun i H => ∃ xs : List V, SqT K H a xs ∧ xs.length = i⟩
theorem noT {x y : String} (h : Value.type x = Value.type y) (n : x ≠ y) : False := n (by injection h)
theorem turn_enT {P : Program} {w : World} {K : PySem.W.Frag} {elts : List Expr} {kk : Nat} {tpos : Pos} (a e it : Addr) :
    Turn P w K (.Tuple elts kk tpos) (Iet K a) [e, it] e (fun i h => (∃ old, IsEnum h e it ((i : Nat) : Int) old) ∧ h.IsTupleIter it a i ∧ e ≠ it) where
  mem := List.mem_cons_self
  obj := fun i h st b hb => by
    obtain ⟨⟨old, he⟩, ⟨o, ho, hc, hd⟩, _⟩ := st
    rcases (show b = e ∨ b = it by simpa using hb) with rfl | rfl
    · exact ⟨_, he, fun v q => nomatch q⟩
    · exact ⟨o, ho, fun v q => by rw [hd] at q; cases q⟩
  keep := fun i h h' st k => ⟨⟨st.1.choose, k e List.mem_cons_self _ st.1.choose_spec⟩, st.2.1.at fun o q => k it (List.mem_cons_of_mem _ List.mem_cons_self) o q, st.2.2⟩
  item := by
    intro X hP hw hK hc i pins s σ H E I hf st hg
    subst hP hw hK
    obtain ⟨⟨old, he⟩, hit, hne⟩ := st
    obtain ⟨xs, x, hq, hx⟩ := hg
    obtain ⟨its, rv, p, hz⟩ := I.tuple hq
    have p : s.heap.IsTuple a its.toArray := p
    obtain ⟨u, hu, ru⟩ := rv.get hx
    have hel : e < s.heap.objs.size := Heap.lt_size he
    have hil : it < s.heap.objs.size := by obtain ⟨_, q, _⟩ := hit; exact Heap.lt_size q
    have nat_ : a ≠ it := fun z => by
      obtain ⟨o1, e1, c1, _⟩ := p
      obtain ⟨o2, e2, c2, _⟩ := hit
      rw [z, e2] at e1; cases e1
      exact noT (c2.symm.trans c1) (by decide)
    have nae : e ≠ a := fun z => by
      obtain ⟨o1, e1, c1, _⟩ := p
      rw [← z] at e1
      rw [show s.heap.get? e = _ from he] at e1; cases e1
      exact noT c1 (by decide)
    have hil2 : i < its.toArray.size := by
      have := (List.getElem?_eq_some_iff.mp hu).1
      simpa using this
    refine wpAny_pyNext_enum_itemD (Draws.tuple (A := X.A.in1) (I.ok.hd hc) it a nat_ its.toArray) he ⟨hit, p⟩ hil2 hne (by simp [hne, nae]) fun y h2 tk hP ho hst hT hsz hk => ?_
    have ey : y = u := by
      have h1 : its[i]? = some y := by simpa using hP
      exact Option.some.inj (h1.symm.trans hu)
    subst ey
    refine ⟨_, rfl, wpAny_letOwnedTupleGo_enum (s := { s with heap := h2, toks := tk + 1 }) ho fun h3 he3 sb => ?_⟩
    have hT3 : h3.get? s.heap.objs.size = some { cls := .type "tuple", data := .seq #[.int i tk, y] } := (sb.2 _ (Nat.ne_of_gt hel)).trans hT
    have new : ObjOk X.prog X.w (upd H s.heap.objs.size (.tup [.int (i : Nat), x])) h3 s.heap.objs.size (.tup [.int (i : Nat), x]) :=
      ⟨by show 2 ≤ sizeLine; decide, [.int i tk, y], .cons ⟨_, rfl⟩ (.cons ru .nil), ⟨_, hT3, rfl, _, rfl⟩⟩
    have I3 : Inv X pins σ (upd H s.heap.objs.size (.tup [.int (i : Nat), x])) { s with heap := h3, toks := tk + 1 } :=
      I.turnedNew (ch := [e, it]) (fun b ob hb q => (sb.2 b (fun z => hb (by simp [z]))).trans (hk b ob (fun z => hb (by simp [z])) (fun z => hb (by simp [z])) q)) hf (Nat.le_refl _) new
    refine ⟨.ref s.heap.objs.size, _, I3, rfl, ⟨_, x, rfl, I.hok.fresh (Nat.le_refl _), rfl, fun ys hy => by rw [I.tuple_inj hy hq]; exact hx⟩, ⟨⟨y, ?_⟩, hst.1.at fun o q => (sb.2 it (Ne.symm hne)).trans q, hne⟩, fun b hb => ?_⟩
    · rw [show ((i + 1 : Nat) : Int) = (i : Int) + 1 by omega]
      exact he3
    · have hb' : b < s.heap.objs.size := by
        rcases (show b = e ∨ b = it by simpa using hb) with z | z
        · rw [z]; exact hel
        · rw [z]; exact hil
      rw [upd_ne (Nat.ne_of_lt hb')]
      exact (hf b hb).1
  done := by
    intro X hP hw hK hc i pins s σ H E I hf st hg
    subst hP hw hK
    obtain ⟨⟨old, he⟩, hit, hne⟩ := st
    obtain ⟨xs, hq, hx⟩ := hg
    obtain ⟨its, rv, p, hz⟩ := I.tuple hq
    have p : s.heap.IsTuple a its.toArray := p
    obtain ⟨f0, f1, f2, f3, f4, f5⟩ := hf it (by simp)
    have hl := rv.length
    have nat_ : a ≠ it := fun z => by
      obtain ⟨o1, e1, c1, _⟩ := p
      obtain ⟨o2, e2, c2, _⟩ := hit
      rw [z, e2] at e1; cases e1
      exact noT (c2.symm.trans c1) (by decide)
    have ei : i = its.toArray.size := by simp; omega
    subst ei
    exact wpAny_pyNext_enum_endD (Draws.tuple (A := X.A.in1) (I.ok.hd hc) it a nat_ its.toArray) he ⟨hit, p⟩ fun h2 eb => ⟨rfl, I.turned (t' := s.toks) (fun b o hb q => eb b o hb q) f0 f1 f3 f4 f5⟩
  self := fun A i s Q E st h => wpAny_pyIter_enum st.1.choose_spec h
def iEnumT (K : PySem.W.Frag) (ta : TA) : TI := fun σ H R => ta σ H fun vs H1 => ∃ a xs, vs = [.ref a] ∧ SqT K H1 a xs ∧ R (Iet K a) H1
theorem pi_enT {X : Cx} {e : Expr} {ta : TA} {p pos tpos : Pos} {elts : List Expr} {kk : Nat} (hg : Gl X "enumerate") (hm : X.mg "enumerate" = none) (ha : PA X [e] ta) (hs : starEach [e] X.env = [(false, eval e X.env)]) :
    PI X (.Tuple elts kk tpos) (.Call (.Name "enumerate" p) [e] [] pos) (iEnumT X.K ta) := by
  refine ⟨fun pins s σ H R I h => Call_ (ld_blt I hg hm boot_enumerate (PyProof.Rows.callWith_type1 (thn (ha.run pos pins s σ H _ I h) fun us s1 ⟨vs, H1, I1, r1, q1⟩ => ?_) hs rfl))⟩
  obtain ⟨a, xs, rfl, hq, q⟩ := q1
  cases r1 with
  | cons r rr =>
    cases rr
    cases r
    obtain ⟨its, rv, p', hz⟩ := I1.tuple hq
    refine call_enT (its := its.toArray) p' fun h2 he hit hk => wpAny_pyIter_enum he ?_
    have I2 : Inv X pins σ H1 { s1 with heap := h2 } := I1.kept (t' := s1.toks) hk
    refine ⟨s1.heap.objs.size + 1, [s1.heap.objs.size + 1, s1.heap.objs.size], _, _, H1, rfl, I2, turn_enT a (s1.heap.objs.size + 1) s1.heap.objs.size, ⟨⟨.none, he⟩, hit, Nat.succ_ne_self _⟩, fun b hb => ?_, q⟩
    have hle : s1.heap.objs.size ≤ b := by
      rcases (show b = s1.heap.objs.size + 1 ∨ b = s1.heap.objs.size by simpa using hb) with z | z
      · rw [z]; exact Nat.le_add_right _ _
      · rw [z]; exact Nat.le_refl _
    exact I1.fpOk hle (I1.hok.fresh hle)
end OD

set_option Elab.async false
set_option autoImplicit false
set_option linter.all false
set_option maxRecDepth 100000
set_option maxHeartbeats 4000000
/-! My own layer, part 6: targets, what a loop walks, list comprehensions. -/
namespace OD
open PySem PySem.Spec PyProof.Rows L2

/-! ### targets -/
def lenT : T → Nat
  | .cons _ ts => lenT ts + 1
  | _ => 0
mutual
def gT (K : PySem.W.Frag) : T → TG
  | .tn i => gName i
  | .tt ts => gTup K (lenT ts) (gTs K ts)
  | _ => fun _ _ _ _ => False
def gTs (K : PySem.W.Frag) : T → TGs
  | .nil => gNil
  | .cons t ts => gCons (gT K t) (gTs K ts)
  | _ => fun _ _ _ _ => False
/-- the slots that a target fills -/
def slT : T → List Nat
  | .tn i => [i]
  | .tt ts => slTs ts
  | _ => []
def slTs : T → List Nat
  | .nil => []
  | .cons t ts => slT t ++ slTs ts
  | _ => []
end
/-- names get values that are kept -/
structure Fill (W : Wd) (g : Gh) (H : Hp) (is : List Nat) (S S' : Sto) (σ σ' : L2.St) : Prop where
  len : S'.length = S.length ∧ σ'.length = σ.length
  slot : ∀ i, (getS S' i = getS S i ∧ σ'.getD i none = σ.getD i none) ∨ ∃ d v, i ∈ is ∧ getS S' i = some (d, false) ∧ σ'.getD i none = some v ∧ RelD W g H d v
theorem getD_set {α : Type} {l : List (Option α)} {i j : Nat} {x : Option α} : (l.set i x).getD j none = if i = j ∧ i < l.length then x else l.getD j none := by
  rw [List.getD_eq_getElem?_getD, List.getD_eq_getElem?_getD]
  by_cases h : i = j
  · subst h
    by_cases hl : i < l.length
    · rw [if_pos ⟨rfl, hl⟩, List.getElem?_set_self hl]; rfl
    · rw [if_neg (fun z => hl z.2), List.getElem?_eq_none (by simpa using hl), List.getElem?_eq_none (by simpa using hl)]
  · rw [if_neg (fun z => h z.1), List.getElem?_set_ne h]
theorem Fill.refl {W : Wd} {g : Gh} {H : Hp} {is : List Nat} {S : Sto} {σ : L2.St} : Fill W g H is S S σ σ := ⟨⟨rfl, rfl⟩, fun _ => .inl ⟨rfl, rfl⟩⟩
theorem Fill.trans {W : Wd} {g : Gh} {H : Hp} {is js : List Nat} {S S' S'' : Sto} {σ σ' σ'' : L2.St} (x : Fill W g H is S S' σ σ') (y : Fill W g H js S' S'' σ' σ'') : Fill W g H (is ++ js) S S'' σ σ'' := by
  refine ⟨⟨y.len.1.trans x.len.1, y.len.2.trans x.len.2⟩, fun i => ?_⟩
  rcases y.slot i with ⟨h1, h2⟩ | ⟨d, v, h0, h1, h2, h3⟩
  · rcases x.slot i with ⟨h3, h4⟩ | ⟨d, v, h0, h3, h4, h5⟩
    · exact .inl ⟨h1.trans h3, h2.trans h4⟩
    · exact .inr ⟨d, v, List.mem_append_left _ h0, h1.trans h3, h2.trans h4, h5⟩
  · exact .inr ⟨d, v, List.mem_append_right _ h0, h1, h2, h3⟩
theorem Fill.one {W : Wd} {g : Gh} {H : Hp} {S : Sto} {σ : L2.St} {i : Nat} {d : D} {v : V} (hl : S.length = σ.length) (r : RelD W g H d v) : Fill W g H [i] S (S.set i (some (d, false))) σ (σ.set i (some v)) := by
  refine ⟨⟨by simp, by simp⟩, fun j => ?_⟩
  by_cases h : i = j ∧ i < S.length
  · right
    refine ⟨d, v, by simp [h.1], ?_, ?_, r⟩
    · unfold getS; rw [getD_set, if_pos h]
    · rw [getD_set, if_pos ⟨h.1, by omega⟩]
  · left
    refine ⟨?_, ?_⟩
    · unfold getS; rw [getD_set, if_neg h]
    · rw [getD_set, if_neg (fun z => h ⟨z.1, by omega⟩)]
theorem Fill.sti {W : Wd} {P : Addr → Prop} {g : Gh} {H : Hp} {is : List Nat} {S S' : Sto} {σ σ' : L2.St} {m : MS} (x : Fill W g H is S S' σ σ') (h : StI W P g H S m σ) : StI W P g H S' m σ' := by
  refine ⟨h.ok, h.dom, fun i => ?_, by rw [x.len.1, x.len.2, h.len]⟩
  rcases x.slot i with ⟨h1, h2⟩ | ⟨d, v, _, h1, h2, h3⟩
  · rw [h1, h2]; exact h.slot i
  · rw [h1, h2]; exact ⟨v, rfl, h3⟩
mutual
theorem tgT_ok {W : Wd} {g : Gh} {H : Hp} : ∀ {t : T} {d : D} {v : V} {S S' : Sto} {σ : L2.St}, tgT t d .sh S = some S' → RelD W g H d v → S.length = σ.length →
    ∃ σ', Fill W g H (slT t) S S' σ σ' ∧ ∀ Q : L2.St → Hp → Prop, Q σ' H → gT W.K t v σ H Q
  | .tn i, d, v, S, S', σ, h, r, hl => by
    simp only [tgT] at h
    cases h
    exact ⟨σ.set i (some v), by rw [slT]; exact .one hl r, fun Q q => by rw [gT]; exact q⟩
  | .tt ts, d, v, S, S', σ, h, r, hl => by
    simp only [tgT] at h
    split at h
    · rename_i ds
      cases r with
      | tup h1 h2 =>
        obtain ⟨σ', f, k⟩ := tgTs_ok h h2 hl
        refine ⟨σ', by rw [slT]; exact f, fun Q q => ?_⟩
        rw [gT]
        refine ⟨_, _, rfl, h1, ?_, k Q q⟩
        rw [← h2.length]
        exact tgTs_len h
    · cases h
  | .non, _, _, _, _, _, h, _, _ => by simp [tgT] at h
  | .tru, _, _, _, _, _, h, _, _ => by simp [tgT] at h
  | .fls, _, _, _, _, _, h, _, _ => by simp [tgT] at h
  | .int _, _, _, _, _, _, h, _, _ => by simp [tgT] at h
  | .str _, _, _, _, _, _, h, _, _ => by simp [tgT] at h
  | .var _, _, _, _, _, _, h, _, _ => by simp [tgT] at h
  | .bvar _, _, _, _, _, _, h, _, _ => by simp [tgT] at h
  | .dnw _ _, _, _, _, _, _, h, _, _ => by simp [tgT] at h
  | .opn _, _, _, _, _, _, h, _, _ => by simp [tgT] at h
  | .oap _ _, _, _, _, _, _, h, _, _ => by simp [tgT] at h
  | .inz _ _, _, _, _, _, _, h, _, _ => by simp [tgT] at h
  | .dst _ _, _, _, _, _, _, h, _, _ => by simp [tgT] at h
  | .dtt _ _, _, _, _, _, _, h, _, _ => by simp [tgT] at h
  | .glob _, _, _, _, _, _, h, _, _ => by simp [tgT] at h
  | .gfn _, _, _, _, _, _, h, _, _ => by simp [tgT] at h
  | .bin _ _ _, _, _, _, _, _, h, _, _ => by simp [tgT] at h
  | .neg _, _, _, _, _, _, h, _, _ => by simp [tgT] at h
  | .cmp _ _ _, _, _, _, _, _, h, _, _ => by simp [tgT] at h
  | .chn _ _ _ _ _, _, _, _, _, _, h, _, _ => by simp [tgT] at h
  | .ban _, _, _, _, _, _, h, _, _ => by simp [tgT] at h
  | .bor _, _, _, _, _, _, h, _, _ => by simp [tgT] at h
  | .not _, _, _, _, _, _, h, _, _ => by simp [tgT] at h
  | .ite _ _ _, _, _, _, _, _, h, _, _ => by simp [tgT] at h
  | .tup _, _, _, _, _, _, h, _, _ => by simp [tgT] at h
  | .lst _, _, _, _, _, _, h, _, _ => by simp [tgT] at h
  | .olst _, _, _, _, _, _, h, _, _ => by simp [tgT] at h
  | .idx _ _, _, _, _, _, _, h, _, _ => by simp [tgT] at h
  | .slc _ _ _, _, _, _, _, _, h, _, _ => by simp [tgT] at h
  | .call _ _, _, _, _, _, _, h, _, _ => by simp [tgT] at h
  | .callv _ _, _, _, _, _, _, h, _, _ => by simp [tgT] at h
  | .blt _ _, _, _, _, _, _, h, _, _ => by simp [tgT] at h
  | .isi _ _, _, _, _, _, _, h, _, _ => by simp [tgT] at h
  | .lc _ _ _ _ _, _, _, _, _, _, h, _, _ => by simp [tgT] at h
  | .lc2 _ _ _ _ _ _ _ _, _, _, _, _, _, h, _, _ => by simp [tgT] at h
  | .sd2 _ _ _ _ _ _ _, _, _, _, _, _, h, _, _ => by simp [tgT] at h
  | .nil, _, _, _, _, _, h, _, _ => by simp [tgT] at h
  | .cons _ _, _, _, _, _, _, h, _, _ => by simp [tgT] at h
  | .one _, _, _, _, _, _, h, _, _ => by simp [tgT] at h
  | .tst _, _, _, _, _, _, h, _, _ => by simp [tgT] at h
  | .prt _, _, _, _, _, _, h, _, _ => by simp [tgT] at h
  | .itv _, _, _, _, _, _, h, _, _ => by simp [tgT] at h
  | .rg1 _, _, _, _, _, _, h, _, _ => by simp [tgT] at h
  | .rg2 _ _, _, _, _, _, _, h, _, _ => by simp [tgT] at h
  | .rg3 _ _ _, _, _, _, _, _, h, _, _ => by simp [tgT] at h
  | .enu _, _, _, _, _, _, h, _, _ => by simp [tgT] at h
  | .asg _ _, _, _, _, _, _, h, _, _ => by simp [tgT] at h
  | .asgc _ _, _, _, _, _, _, h, _, _ => by simp [tgT] at h
  | .par _ _ _ _, _, _, _, _, _, h, _, _ => by simp [tgT] at h
  | .ret _, _, _, _, _, _, h, _, _ => by simp [tgT] at h
  | .retm _, _, _, _, _, _, h, _, _ => by simp [tgT] at h
  | .retn, _, _, _, _, _, h, _, _ => by simp [tgT] at h
  | .exp _, _, _, _, _, _, h, _, _ => by simp [tgT] at h
  | .app _ _, _, _, _, _, _, h, _, _ => by simp [tgT] at h
  | .seti _ _ _, _, _, _, _, _, h, _, _ => by simp [tgT] at h
  | .oset _ _ _, _, _, _, _, _, h, _, _ => by simp [tgT] at h
  | .iff _ _ _, _, _, _, _, _, h, _, _ => by simp [tgT] at h
  | .for_ _ _ _, _, _, _, _, _, h, _, _ => by simp [tgT] at h
  | .shr _, _, _, _, _, _, h, _, _ => by simp [tgT] at h
  | .seq _ _, _, _, _, _, _, h, _, _ => by simp [tgT] at h
  | .skip, _, _, _, _, _, h, _, _ => by simp [tgT] at h
theorem tgTs_ok {W : Wd} {g : Gh} {H : Hp} : ∀ {t : T} {ds : List D} {vs : List V} {S S' : Sto} {σ : L2.St}, tgTs t ds S = some S' → RelDs W g H ds vs → S.length = σ.length →
    ∃ σ', Fill W g H (slTs t) S S' σ σ' ∧ ∀ Q : L2.St → Hp → Prop, Q σ' H → gTs W.K t vs σ H Q
  | .nil, ds, vs, S, S', σ, h, r, hl => by
    simp only [tgTs] at h
    split at h
    · cases h
      cases r
      exact ⟨σ, .refl, fun Q q => by rw [gTs]; exact ⟨rfl, q⟩⟩
    · cases h
  | .cons t ts, ds, vs, S, S', σ, h, r, hl => by
    simp only [tgTs] at h
    split at h
    · rename_i d ds
      cases r with
      | cons r1 r2 =>
        cases h1 : tgT t d .sh S with
        | none => rw [h1] at h; cases h
        | some S1 =>
          rw [h1] at h
          obtain ⟨σ1, f1, k1⟩ := tgT_ok h1 r1 hl
          obtain ⟨σ2, f2, k2⟩ := tgTs_ok (show tgTs ts ds S1 = some S' from h) r2 (by rw [f1.len.1, f1.len.2, hl])
          refine ⟨σ2, by rw [slTs]; exact f1.trans f2, fun Q q => ?_⟩
          rw [gTs]
          exact ⟨_, _, rfl, k1 _ (k2 Q q)⟩
    · cases h
  | .non, _, _, _, _, _, h, _, _ => by simp [tgTs] at h
  | .tru, _, _, _, _, _, h, _, _ => by simp [tgTs] at h
  | .fls, _, _, _, _, _, h, _, _ => by simp [tgTs] at h
  | .int _, _, _, _, _, _, h, _, _ => by simp [tgTs] at h
  | .str _, _, _, _, _, _, h, _, _ => by simp [tgTs] at h
  | .var _, _, _, _, _, _, h, _, _ => by simp [tgTs] at h
  | .bvar _, _, _, _, _, _, h, _, _ => by simp [tgTs] at h
  | .dnw _ _, _, _, _, _, _, h, _, _ => by simp [tgTs] at h
  | .opn _, _, _, _, _, _, h, _, _ => by simp [tgTs] at h
  | .oap _ _, _, _, _, _, _, h, _, _ => by simp [tgTs] at h
  | .inz _ _, _, _, _, _, _, h, _, _ => by simp [tgTs] at h
  | .dst _ _, _, _, _, _, _, h, _, _ => by simp [tgTs] at h
  | .dtt _ _, _, _, _, _, _, h, _, _ => by simp [tgTs] at h
  | .glob _, _, _, _, _, _, h, _, _ => by simp [tgTs] at h
  | .gfn _, _, _, _, _, _, h, _, _ => by simp [tgTs] at h
  | .bin _ _ _, _, _, _, _, _, h, _, _ => by simp [tgTs] at h
  | .neg _, _, _, _, _, _, h, _, _ => by simp [tgTs] at h
  | .cmp _ _ _, _, _, _, _, _, h, _, _ => by simp [tgTs] at h
  | .chn _ _ _ _ _, _, _, _, _, _, h, _, _ => by simp [tgTs] at h
  | .ban _, _, _, _, _, _, h, _, _ => by simp [tgTs] at h
  | .bor _, _, _, _, _, _, h, _, _ => by simp [tgTs] at h
  | .not _, _, _, _, _, _, h, _, _ => by simp [tgTs] at h
  | .ite _ _ _, _, _, _, _, _, h, _, _ => by simp [tgTs] at h
  | .tup _, _, _, _, _, _, h, _, _ => by simp [tgTs] at h
  | .lst _, _, _, _, _, _, h, _, _ => by simp [tgTs] at h
  | .olst _, _, _, _, _, _, h, _, _ => by simp [tgTs] at h
  | .idx _ _, _, _, _, _, _, h, _, _ => by simp [tgTs] at h
  | .slc _ _ _, _, _, _, _, _, h, _, _ => by simp [tgTs] at h
  | .call _ _, _, _, _, _, _, h, _, _ => by simp [tgTs] at h
  | .callv _ _, _, _, _, _, _, h, _, _ => by simp [tgTs] at h
  | .blt _ _, _, _, _, _, _, h, _, _ => by simp [tgTs] at h
  | .isi _ _, _, _, _, _, _, h, _, _ => by simp [tgTs] at h
  | .lc _ _ _ _ _, _, _, _, _, _, h, _, _ => by simp [tgTs] at h
  | .lc2 _ _ _ _ _ _ _ _, _, _, _, _, _, h, _, _ => by simp [tgTs] at h
  | .sd2 _ _ _ _ _ _ _, _, _, _, _, _, h, _, _ => by simp [tgTs] at h
  | .one _, _, _, _, _, _, h, _, _ => by simp [tgTs] at h
  | .tst _, _, _, _, _, _, h, _, _ => by simp [tgTs] at h
  | .prt _, _, _, _, _, _, h, _, _ => by simp [tgTs] at h
  | .itv _, _, _, _, _, _, h, _, _ => by simp [tgTs] at h
  | .rg1 _, _, _, _, _, _, h, _, _ => by simp [tgTs] at h
  | .rg2 _ _, _, _, _, _, _, h, _, _ => by simp [tgTs] at h
  | .rg3 _ _ _, _, _, _, _, _, h, _, _ => by simp [tgTs] at h
  | .enu _, _, _, _, _, _, h, _, _ => by simp [tgTs] at h
  | .asg _ _, _, _, _, _, _, h, _, _ => by simp [tgTs] at h
  | .asgc _ _, _, _, _, _, _, h, _, _ => by simp [tgTs] at h
  | .par _ _ _ _, _, _, _, _, _, h, _, _ => by simp [tgTs] at h
  | .ret _, _, _, _, _, _, h, _, _ => by simp [tgTs] at h
  | .retm _, _, _, _, _, _, h, _, _ => by simp [tgTs] at h
  | .retn, _, _, _, _, _, h, _, _ => by simp [tgTs] at h
  | .exp _, _, _, _, _, _, h, _, _ => by simp [tgTs] at h
  | .app _ _, _, _, _, _, _, h, _, _ => by simp [tgTs] at h
  | .seti _ _ _, _, _, _, _, _, h, _, _ => by simp [tgTs] at h
  | .oset _ _ _, _, _, _, _, _, h, _, _ => by simp [tgTs] at h
  | .iff _ _ _, _, _, _, _, _, h, _, _ => by simp [tgTs] at h
  | .for_ _ _ _, _, _, _, _, _, h, _, _ => by simp [tgTs] at h
  | .shr _, _, _, _, _, _, h, _, _ => by simp [tgTs] at h
  | .seq _ _, _, _, _, _, _, h, _, _ => by simp [tgTs] at h
  | .skip, _, _, _, _, _, h, _, _ => by simp [tgTs] at h
  | .tn _, _, _, _, _, _, h, _, _ => by simp [tgTs] at h
  | .tt _, _, _, _, _, _, h, _, _ => by simp [tgTs] at h
theorem tgTs_len : ∀ {t : T} {ds : List D} {S S' : Sto}, tgTs t ds S = some S' → ds.length = lenT t
  | .nil, ds, S, S', h => by
    simp only [tgTs] at h
    split at h
    · rfl
    · cases h
  | .cons t ts, ds, S, S', h => by
    simp only [tgTs] at h
    split at h
    · rename_i d ds
      cases h1 : tgT t d .sh S with
      | none => rw [h1] at h; cases h
      | some S1 =>
        rw [h1] at h
        rw [List.length_cons, lenT, tgTs_len (show tgTs ts ds S1 = some S' from h)]
    · cases h
  | .non, _, _, _, h => by simp [tgTs] at h
  | .tru, _, _, _, h => by simp [tgTs] at h
  | .fls, _, _, _, h => by simp [tgTs] at h
  | .int _, _, _, _, h => by simp [tgTs] at h
  | .str _, _, _, _, h => by simp [tgTs] at h
  | .var _, _, _, _, h => by simp [tgTs] at h
  | .bvar _, _, _, _, h => by simp [tgTs] at h
  | .dnw _ _, _, _, _, h => by simp [tgTs] at h
  | .opn _, _, _, _, h => by simp [tgTs] at h
  | .oap _ _, _, _, _, h => by simp [tgTs] at h
  | .inz _ _, _, _, _, h => by simp [tgTs] at h
  | .dst _ _, _, _, _, h => by simp [tgTs] at h
  | .dtt _ _, _, _, _, h => by simp [tgTs] at h
  | .glob _, _, _, _, h => by simp [tgTs] at h
  | .gfn _, _, _, _, h => by simp [tgTs] at h
  | .bin _ _ _, _, _, _, h => by simp [tgTs] at h
  | .neg _, _, _, _, h => by simp [tgTs] at h
  | .cmp _ _ _, _, _, _, h => by simp [tgTs] at h
  | .chn _ _ _ _ _, _, _, _, h => by simp [tgTs] at h
  | .ban _, _, _, _, h => by simp [tgTs] at h
  | .bor _, _, _, _, h => by simp [tgTs] at h
  | .not _, _, _, _, h => by simp [tgTs] at h
  | .ite _ _ _, _, _, _, h => by simp [tgTs] at h
  | .tup _, _, _, _, h => by simp [tgTs] at h
  | .lst _, _, _, _, h => by simp [tgTs] at h
  | .olst _, _, _, _, h => by simp [tgTs] at h
  | .idx _ _, _, _, _, h => by simp [tgTs] at h
  | .slc _ _ _, _, _, _, h => by simp [tgTs] at h
  | .call _ _, _, _, _, h => by simp [tgTs] at h
  | .callv _ _, _, _, _, h => by simp [tgTs] at h
  | .blt _ _, _, _, _, h => by simp [tgTs] at h
  | .isi _ _, _, _, _, h => by simp [tgTs] at h
  | .lc _ _ _ _ _, _, _, _, h => by simp [tgTs] at h
  | .lc2 _ _ _ _ _ _ _ _, _, _, _, h => by simp [tgTs] at h
  | .sd2 _ _ _ _ _ _ _, _, _, _, h => by simp [tgTs] at h
  | .one _, _, _, _, h => by simp [tgTs] at h
  | .tst _, _, _, _, h => by simp [tgTs] at h
  | .prt _, _, _, _, h => by simp [tgTs] at h
  | .itv _, _, _, _, h => by simp [tgTs] at h
  | .rg1 _, _, _, _, h => by simp [tgTs] at h
  | .rg2 _ _, _, _, _, h => by simp [tgTs] at h
  | .rg3 _ _ _, _, _, _, h => by simp [tgTs] at h
  | .enu _, _, _, _, h => by simp [tgTs] at h
  | .asg _ _, _, _, _, h => by simp [tgTs] at h
  | .asgc _ _, _, _, _, h => by simp [tgTs] at h
  | .par _ _ _ _, _, _, _, h => by simp [tgTs] at h
  | .ret _, _, _, _, h => by simp [tgTs] at h
  | .retm _, _, _, _, h => by simp [tgTs] at h
  | .retn, _, _, _, h => by simp [tgTs] at h
  | .exp _, _, _, _, h => by simp [tgTs] at h
  | .app _ _, _, _, _, h => by simp [tgTs] at h
  | .seti _ _ _, _, _, _, h => by simp [tgTs] at h
  | .oset _ _ _, _, _, _, h => by simp [tgTs] at h
  | .iff _ _ _, _, _, _, h => by simp [tgTs] at h
  | .for_ _ _ _, _, _, _, h => by simp [tgTs] at h
  | .shr _, _, _, _, h => by simp [tgTs] at h
  | .seq _ _, _, _, _, h => by simp [tgTs] at h
  | .skip, _, _, _, h => by simp [tgTs] at h
  | .tn _, _, _, _, h => by simp [tgTs] at h
  | .tt _, _, _, _, h => by simp [tgTs] at h
end
end OD

set_option Elab.async false
set_option autoImplicit false
set_option linter.all false
set_option maxRecDepth 100000
set_option maxHeartbeats 4000000
/-! My own layer, part 7: what a loop walks, list comprehensions. -/
namespace OD
open PySem PySem.Spec PyProof.Rows L2

/-! ### what a loop walks -/
/-- J walks the values ds, however the heap goes on -/
structure WkD (W : Wd) (g0 : Gh) (H0 : Hp) (J : It) (ds : List D) : Prop where
  goes : ∀ i g H, FX g0 g H0 H → i < ds.length → J.go i H
  stops : ∀ g H, FX g0 g H0 H → J.stop ds.length H
  yields : ∀ i g H m x H', FX g0 g H0 H → GOk W g H m → i < ds.length → J.yld i H x H' → ∃ d, ds[i]? = some d ∧ (∀ P w, Ext P g g H H' w w) ∧ GOk W g H' m ∧ RelD W g H' d x
def TIo (E : En) (t : T) : TI := fun σ H R => ∃ P g S m, StI E.W P g H S m σ ∧ SatR E.W P g H m.w (E.ex σ) (evI E.gl E.cf t S m) fun ds _ g' H' => ds.length ≤ sizeLine → ∀ J, WkD E.W g' H' J ds → R J H'
section
variable {W : Wd} {g : Gh} {H : Hp} {ds : List D}
theorem wkd_same {J : It} (n : Nat) (G : Hp → Prop) (Y : Nat → Hp → V → Hp → Prop) (w : Walk J n G Y) (hn : n = ds.length) (st : ∀ g' H', FX g g' H H' → G H') (hy : ∀ i g' H' x H'', FX g g' H H' → i < n → Y i H' x H'' → H'' = H' ∧ ∃ d, ds[i]? = some d ∧ RelD W g' H' d x) : WkD W g H J ds := by
  subst hn
  refine ⟨fun i g' H' f hi => w.goes i H' hi (st g' H' f), fun g' H' f => w.stops H' (st g' H' f), fun i g' H' m x H'' f k hi y => ?_⟩
  obtain ⟨e, d, h1, h2⟩ := hy i g' H' x H'' f hi (w.yields i H' x H'' hi (st g' H' f) y)
  subst e
  exact ⟨d, h1, fun _ _ => .refl, k, h2⟩
theorem wkd_list {a : Addr} {vs : List V} (h : H a = some (.lst vs)) (hf : g.fz a) (r : RelDs W g H ds vs) : WkD W g H (Itl W.K a) ds :=
  wkd_same vs.length _ _ walk_list r.length.symm (fun g' H' f => .of ((f.fzk a hf).2.trans h)) fun i g' H' x H'' f hi ⟨e, hx⟩ => by
    obtain ⟨d, h1, h2⟩ := (r.fx f).getV hx
    exact ⟨e, d, h1, h2⟩
theorem wkd_tup {a : Addr} {vs : List V} (h : SqT W.K H a vs) (r : RelDs W g H ds vs) : WkD W g H (Itt W.K a) ds :=
  wkd_same vs.length _ _ walk_tup r.length.symm (fun g' H' f => f.sqT h) fun i g' H' x H'' f hi ⟨e, hx⟩ => by
    obtain ⟨d, h1, h2⟩ := (r.fx f).getV hx
    exact ⟨e, d, h1, h2⟩
theorem wkd_scr {a : Addr} {ns : List Int} (h : SqS W.K H a (ns.map V.int)) : WkD W g H (Itl W.K a) (ns.map D.int) :=
  wkd_same _ _ _ walk_list (by simp) (fun g' H' f => (f.sqS h).sq) fun i g' H' x H'' f hi ⟨e, hx⟩ => by
    obtain ⟨d, h1, h2⟩ := (RelDs.ints (W := W) (g := g') (H := H') ns).getV hx
    exact ⟨e, d, h1, h2⟩
theorem wkd_str {x : Str} : WkD W g H (Its x) (x.cps.toList.map fun c => D.str ⟨#[c]⟩) :=
  wkd_same _ _ _ (walk_str (z := x)) (by simp) (fun g' H' f => trivial) fun i g' H' y H'' f hi ⟨e, c, hc, hy⟩ => by
    refine ⟨e, .str ⟨#[c]⟩, ?_, by rw [hy]; exact .str _⟩
    rw [List.getElem?_map]
    have : x.cps.toList[i]? = some c := by simpa using hc
    rw [this]; rfl
theorem wkd_dct {a : Addr} {o : Obj} {b : Bool} {ks : List (List Int)} (h : H a = some (.frz o (dkO b ks))) : WkD W g H (match b with | true => Itkt a o (kvT ks) | false => Itk a o (kvI ks)) (ks.map (keyD b)) := by
  cases b with
  | true =>
    refine wkd_same _ _ _ (walk_keysT (d := a) (o := o) (kvs := kvT ks)) (by simp [kvT]) (fun g' H' f => f.frz _ _ _ h) fun i g' H' x H'' f hi ⟨e, k, v, q, h1, h2, h3⟩ => ?_
    unfold kvT at h1
    rw [List.getElem?_map] at h1
    cases hk : ks[i]? with
    | none => rw [hk] at h1; cases h1
    | some j =>
      rw [hk] at h1
      cases h1
      rw [map_inl] at h3
      exact ⟨e, _, by rw [List.getElem?_map, hk]; rfl, by rw [h2]; exact .tup (.of h3) (.ints j)⟩
  | false =>
    refine wkd_same _ _ _ (walk_keys (d := a) (o := o) (kvs := kvI ks)) (by simp [kvI]) (fun g' H' f => f.frz _ _ _ h) fun i g' H' x H'' f hi ⟨e, k, v, h1, h2⟩ => ?_
    unfold kvI at h1
    rw [List.getElem?_map] at h1
    cases hk : ks[i]? with
    | none => rw [hk] at h1; cases h1
    | some j =>
      rw [hk] at h1
      cases h1
      exact ⟨e, _, by rw [List.getElem?_map, hk]; rfl, by rw [h2]; exact .int _⟩
theorem wkd_range {lo hi : Int} : WkD W g H (Itr lo (hi - lo).toNat) (rangeL lo hi) :=
  wkd_same _ _ _ walk_range (by simp [rangeL]) (fun g' H' f => trivial) fun i g' H' x H'' f hi ⟨e, hx⟩ => by
    refine ⟨e, .int (lo + (i : Nat)), ?_, by rw [hx]; exact .int _⟩
    unfold rangeL
    rw [List.getElem?_map, List.getElem?_range hi]; rfl
theorem wkd_rangeC {lo c : Int} {n : Nat} : WkD W g H (Itc lo c n) ((List.range n).map fun k => D.int (lo + (k : Nat) * c)) :=
  wkd_same _ _ _ walk_rangeC (by simp) (fun g' H' f => trivial) fun i g' H' x H'' f hi ⟨e, hx⟩ => by
    refine ⟨e, .int (lo + (i : Nat) * c), ?_, by rw [hx]; exact .int _⟩
    rw [List.getElem?_map, List.getElem?_range hi]; rfl
theorem enumL_get : ∀ (ds : List D) (k i : Nat), (enumL k ds)[i]? = ds[i]?.map fun d => D.tup [.int ((k + i : Nat) : Int), d]
  | [], k, i => by simp [enumL]
  | d :: ds, k, 0 => by simp [enumL]
  | d :: ds, k, i + 1 => by
    rw [enumL, List.getElem?_cons_succ, List.getElem?_cons_succ, enumL_get ds (k + 1) i]
    have e : ((k + 1 + i : Nat) : Int) = ((k + (i + 1) : Nat) : Int) := by omega
    rw [e]
theorem enumL_len : ∀ (ds : List D) (k : Nat), (enumL k ds).length = ds.length
  | [], k => rfl
  | d :: ds, k => by rw [enumL, List.length_cons, List.length_cons, enumL_len ds (k + 1)]
theorem wkd_enum {a : Addr} {vs : List V} (h : H a = some (.lst vs)) (hf : g.fz a) (r : RelDs W g H ds vs) : WkD W g H (Ite W.K a) (enumL 0 ds) := by
  have st : ∀ g' H', FX g g' H H' → SqL W.K H' a vs := fun g' H' f => .of ((f.fzk a hf).2.trans h)
  have hl : (enumL 0 ds).length = vs.length := by rw [enumL_len, r.length]
  refine ⟨fun i g' H' f hi => walk_enum.goes i H' (by omega) (st g' H' f), fun g' H' f => by rw [hl]; exact walk_enum.stops H' (st g' H' f), fun i g' H' m x H'' f k hi y => ?_⟩
  obtain ⟨T, p, q, e1, h1, e2, h2, h3⟩ := walk_enum.yields i H' x H'' (by omega) (st g' H' f) y
  subst e1 e2
  obtain ⟨d, h4, h5⟩ := (r.fx f).getV h3
  have x2 : ∀ P w, Ext P g' g' H' (upd H' T (.tup [p, q])) w w := fun P w => ext_new h1 k
  refine ⟨_, by rw [enumL_get, h4]; rfl, x2, gok_new h1 k, .tup (.of upd_same) (.cons ?_ (.cons (h5.ext (x2 (fun _ => False) 0) k) .nil))⟩
  have e3 : p = .int (i : Nat) := (Option.some.inj h2).symm
  rw [e3, Nat.zero_add]
  exact .int _
end
section
variable {X : Cx} {E : En} {tg e e1 e2 e3 : Expr} {a b c : T} {p pos tpos : Pos}
theorem evE_cases {E : En} {t : T} {S : Sto} {m : MS} {P : Addr → Prop} {g : Gh} {H : Hp} {w : Nat} {Ex : Nat → Addr → Hp → Prop} {β : Type} {f : D × Kd → MS → Res β} {ok : β → MS → Gh → Hp → Prop}
    (h : SatR E.W P g H w Ex (bindR (evE E.gl E.cf t S m) f) ok) : (∃ x m1, evE E.gl E.cf t S m = .ok x m1) ∨ ∃ c fs m1, evE E.gl E.cf t S m = .exc c fs m1 := by
  cases q : evE E.gl E.cf t S m with
  | ok x m1 => exact .inl ⟨x, m1, rfl⟩
  | exc c fs m1 => exact .inr ⟨c, fs, m1, rfl⟩
  | bad => rw [q] at h; exact h.elim
theorem toV_ok {x : D × Kd} {m : MS} {P : Addr → Prop} {W : Wd} {g : Gh} {H : Hp} {w : Nat} {Ex : Nat → Addr → Hp → Prop} {β : Type} {f : D → MS → Res β} {ok : β → MS → Gh → Hp → Prop}
    (h : SatR W P g H w Ex (bindR (toV x m) f) ok) : SatR W P g H w Ex (f x.1 m) ok := by
  obtain ⟨d, k⟩ := x
  cases k with
  | sh => exact h
  | own => exact h
  | bor => exact h.elim
/-- the lengths of what stands -/
def SeqLen (K : PySem.W.Frag) (H : Hp) : Prop := ∀ a xs, SqL K H a xs ∨ SqT K H a xs → xs.length ≤ sizeLine
theorem _root_.L2.Inv.seqLen {pins : List (Addr × Obj)} {σ : L2.St} {H : Hp} {s : Shared} (I : Inv X pins σ H s) : SeqLen X.K H := fun a xs h => by
  rcases h with h | h
  · obtain ⟨_, _, _, hl⟩ := I.list h
    exact hl
  · obtain ⟨_, _, _, hl⟩ := I.tuple h
    exact hl
theorem _root_.L2.PE.len {t : TE} (h : PE X e t) : PE X e (fun σ H Q => t σ H fun v H' => SeqLen X.K H' → Q v H') := ⟨fun pins s σ H Q I q => thn (h.run pins s σ H _ I q) fun u s1 ⟨v, H1, I1, r, q1⟩ => ⟨v, H1, I1, r, q1 I1.seqLen⟩⟩
theorem _root_.L2.PA.len {es : List Expr} {t : TA} (h : PA X es t) : PA X es (fun σ H Q => t σ H fun v H' => SeqLen X.K H' → Q v H') := ⟨fun p pins s σ H Q I q => thn (h.run p pins s σ H _ I q) fun u s1 ⟨v, H1, I1, r, q1⟩ => ⟨v, H1, I1, r, q1 I1.seqLen⟩⟩
/-- the number of a dict's keys -/
def DctLen (H : Hp) : Prop := ∀ a o b ks, H a = some (.frz o (dkO b ks)) → ks.length ≤ sizeLine
theorem _root_.L2.Inv.dctLen {pins : List (Addr × Obj)} {σ : L2.St} {H : Hp} {s : Shared} (I : Inv X pins σ H s) : DctLen H := fun a o b ks h => by
  have z := (I.hok a _ h).2
  cases b with
  | true => simpa [kvT] using (show ObjOk X.prog X.w H s.heap a (.dT (kvT ks)) from z).1
  | false => simpa [kvI] using (show ObjOk X.prog X.w H s.heap a (.dK (kvI ks)) from z).1
theorem _root_.L2.PE.dlen {t : TE} (h : PE X e t) : PE X e (fun σ H Q => t σ H fun v H' => DctLen H' → Q v H') := ⟨fun pins s σ H Q I q => thn (h.run pins s σ H _ I q) fun u s1 ⟨v, H1, I1, r, q1⟩ => ⟨v, H1, I1, r, q1 I1.dctLen⟩⟩
theorem sn_itv (hK : X.K = E.W.K) (ha : PE X e (TEo E a)) : PI X tg e (TIo E (.itv a)) := by
  refine ⟨fun pins s σ H R I ⟨P, g, S, m, hS, h⟩ => ?_⟩
  simp only [evI] at h
  have ha0 := ha
  have ha := ha.len
  rcases evE_cases h with ⟨x, m1, q⟩ | ⟨c, fs, m1, q⟩
  · -- a value: which rule hangs on its kind
    have hb := h.bind
    rw [q] at hb
    have step : ∀ g1 H1, Ext P g g1 H H1 m.w m1.w → GOk E.W g1 H1 m1 → ∀ v, RV E.W H g1 H1 x v → ∃ g2, RelD E.W g2 H1 x.1 v ∧ GOk E.W g2 H1 m1 ∧ SatR E.W P g2 H1 m1.w (E.ex σ) (match x.1 with | .tup ds => Res.ok ds m1 | .lst ds => .ok ds m1 | .scr ns => .ok (ns.map D.int) m1 | .dct b ks => .ok (ks.map (keyD b)) m1 | .str x => needR (x.cps.size ≤ sizeLine) fun _ => .ok (x.cps.toList.map fun c => D.str ⟨#[c]⟩) m1 | _ => .bad) fun ds _ g' H' => ds.length ≤ sizeLine → ∀ J, WkD E.W g' H' J ds → R J H' := fun g1 H1 x1 k1 v hv => by
      obtain ⟨g2, x2, k2, r2, h3⟩ := (hb g1 H1 x1 k1).toV hv k1 fun a p => (hS.dom a p).1
      exact ⟨g2, r2, k2, h3⟩
    cases hd : x.1 with
    | tup ds =>
      refine (pi_tup (tg := tg) ha).run pins s σ H R I ⟨P, g, S, m, hS, ?_⟩
      rw [q]
      intro g1 H1 x1 k1 v hv hl
      obtain ⟨g2, r2, k2, h3⟩ := step g1 H1 x1 k1 v hv
      rw [hd] at r2 h3
      cases r2 with
      | tup h4 h5 =>
        rw [hK] at hl ⊢
        exact ⟨_, rfl, ⟨_, h4⟩, h3 g2 H1 .refl k2 (by rw [h5.length]; exact hl _ _ (.inr h4)) _ (wkd_tup h4 h5)⟩
    | lst ds =>
      refine (pi_list (tg := tg) ha).run pins s σ H R I ⟨P, g, S, m, hS, ?_⟩
      rw [q]
      intro g1 H1 x1 k1 v hv hl
      obtain ⟨g2, r2, k2, h3⟩ := step g1 H1 x1 k1 v hv
      rw [hd] at r2 h3
      cases r2 with
      | lst h4 hf h5 =>
        rw [hK] at hl ⊢
        exact ⟨_, rfl, ⟨_, .of h4⟩, h3 g2 H1 .refl k2 (by rw [h5.length]; exact hl _ _ (.inl (.of h4))) _ (wkd_list h4 hf h5)⟩
    | scr ns =>
      refine (pi_list (tg := tg) ha).run pins s σ H R I ⟨P, g, S, m, hS, ?_⟩
      rw [q]
      intro g1 H1 x1 k1 v hv hl
      obtain ⟨g2, r2, k2, h3⟩ := step g1 H1 x1 k1 v hv
      rw [hd] at r2 h3
      cases r2 with
      | scr h4 =>
        rw [hK] at hl ⊢
        refine ⟨_, rfl, ⟨_, h4.sq⟩, h3 g2 H1 .refl k2 ?_ _ (wkd_scr h4)⟩
        have := hl _ _ (.inl h4.sq)
        simpa using this
    | dct b ks =>
      refine (pi_keys (tg := tg) ha0.dlen).run pins s σ H R I ⟨P, g, S, m, hS, ?_⟩
      rw [q]
      intro g1 H1 x1 k1 v hv hl
      obtain ⟨g2, r2, k2, h3⟩ := step g1 H1 x1 k1 v hv
      rw [hd] at r2 h3
      cases r2 with
      | dct h4 =>
        have z := h3 g2 H1 .refl k2 (by rw [List.length_map]; exact hl _ _ _ _ h4) _ (wkd_dct h4)
        cases b with
        | true => exact ⟨_, _, rfl, .inr ⟨_, h4, z⟩⟩
        | false => exact ⟨_, _, rfl, .inl ⟨_, h4, z⟩⟩
    | str z =>
      refine (pi_str (tg := tg) ha).run pins s σ H R I ⟨P, g, S, m, hS, ?_⟩
      rw [q]
      intro g1 H1 x1 k1 v hv hl
      obtain ⟨g2, r2, k2, h3⟩ := step g1 H1 x1 k1 v hv
      rw [hd] at r2 h3
      cases r2 with
      | str _ =>
        obtain ⟨hz, h4⟩ := h3.need
        exact ⟨z, rfl, h4 g2 H1 .refl k2 (by simpa using hz) _ wkd_str⟩
    | _ =>
      refine (pi_str (tg := tg) ha).run pins s σ H R I ⟨P, g, S, m, hS, ?_⟩
      rw [q]
      intro g1 H1 x1 k1 v hv hl
      obtain ⟨g2, r2, k2, h3⟩ := step g1 H1 x1 k1 v hv
      rw [hd] at h3
      exact h3.elim
  · -- an exception: any rule will do
    rw [q] at h
    refine (pi_str (tg := tg) ha).run pins s σ H R I ⟨P, g, S, m, hS, ?_⟩
    rw [q]
    exact h
theorem sn_rg1 (hg : Gl X "range") (hm : X.mg "range" = none) (ha : PE X e (TEo E a)) (hns : noStar e = true) : PI X tg (.Call (.Name "range" p) [e] [] pos) (TIo E (.rg1 a)) := by
  have s1 := starEach_cons (es := []) (env := X.env) hns
  refine ⟨fun pins s σ H R I ⟨P, g, S, m, hS, h⟩ => (pi_range1 hg hm (pa_cons ha pa_nil s1) s1).run pins s σ H R I ?_⟩
  simp only [evI] at h
  refine ⟨P, g, S, m, hS, h.bind.mono fun x m1 g1 H1 x1 k1 h1 v hv => ?_⟩
  split at h1
  · rename_i j hj
    have r := hv.weak
    rw [hj] at r
    obtain ⟨⟨hr, hl⟩, h2⟩ := h1.need
    refine ⟨j, by rw [r.int_], hr.1, hr.2, ?_⟩
    have := wkd_range (W := E.W) (g := g1) (H := H1) (lo := 0) (hi := j)
    rw [Int.sub_zero] at this
    exact h2 g1 H1 .refl k1 (by simpa [rangeL] using hl) _ this
  · exact h1.elim
theorem sn_rg2 (hg : Gl X "range") (hm : X.mg "range" = none) (ha : PE X e1 (TEo E a)) (hb : PE X e2 (TEo E b)) (h1 : noStar e1 = true) (h2 : noStar e2 = true) : PI X tg (.Call (.Name "range" p) [e1, e2] [] pos) (TIo E (.rg2 a b)) := by
  have s2 := starEach_cons (es := []) (env := X.env) h2
  have s1 := starEach_cons (es := [e2]) (env := X.env) h1
  refine ⟨fun pins s σ H R I ⟨P, g, S, m, hS, h⟩ => (pi_range2 hg hm (pa_cons ha (pa_cons hb pa_nil s2) s1) (by rw [s1, s2]; rfl) (by rw [s2]; rfl)).run pins s σ H R I ?_⟩
  simp only [evI] at h
  refine ⟨P, g, S, m, hS, h.bind.mono fun x m1 g1 H1 x1 k1 h1 v hv => ⟨P, g1, S, m1, hS.ext x1 k1, h1.bind.mono fun y m2 g2 H2 x2 k2 h2 u hu => ?_⟩⟩
  split at h2
  · rename_i i j hi hj
    have r := hv.weak
    have r' := hu.weak
    rw [hi] at r
    rw [hj] at r'
    obtain ⟨⟨hr, hr2, hl⟩, h3⟩ := h2.need
    exact ⟨i, j, by rw [r.int_, r'.int_], ⟨hr.1, hr.2, hr2.1, hr2.2⟩, h3 g2 H2 .refl k2 (by simpa [rangeL] using hl) _ wkd_range⟩
  · exact h2.elim
theorem sn_rg3 (hg : Gl X "range") (hm : X.mg "range" = none) (ha : PE X e1 (TEo E a)) (hb : PE X e2 (TEo E b)) (hc : PE X e3 (TEo E c)) (h1 : noStar e1 = true) (h2 : noStar e2 = true) (h3 : noStar e3 = true) : PI X tg (.Call (.Name "range" p) [e1, e2, e3] [] pos) (TIo E (.rg3 a b c)) := by
  have s3 := starEach_cons (es := []) (env := X.env) h3
  have s2 := starEach_cons (es := [e3]) (env := X.env) h2
  have s1 := starEach_cons (es := [e2, e3]) (env := X.env) h1
  refine ⟨fun pins s σ H R I ⟨P, g, S, m, hS, h⟩ => (pi_range3 hg hm (pa_cons ha (pa_cons hb (pa_cons hc pa_nil s3) s2) s1) s1 (by rw [s2, s3]; rfl)).run pins s σ H R I ?_⟩
  simp only [evI] at h
  refine ⟨P, g, S, m, hS, h.bind.mono fun x m1 g1 H1 x1 k1 h1 v hv => ⟨P, g1, S, m1, hS.ext x1 k1, h1.bind.mono fun y m2 g2 H2 x2 k2 h2 u hu => ⟨P, g2, S, m2, (hS.ext x1 k1).ext x2 k2, h2.bind.mono fun z m3 g3 H3 x3 k3 h3 t ht => ?_⟩⟩⟩
  split at h3
  · rename_i i j k hi hj hk
    have r := hv.weak
    have r' := hu.weak
    have r'' := ht.weak
    rw [hi] at r
    rw [hj] at r'
    rw [hk] at r''
    obtain ⟨⟨hr, hl⟩, h4⟩ := h3.need
    exact ⟨i, j, k, _, by rw [r.int_, r'.int_, r''.int_], hr, h4 g3 H3 .refl k3 (by simpa using hl) _ wkd_rangeC⟩
  · exact h3.elim
theorem wkd_enumT {W : Wd} {g : Gh} {H : Hp} {ds : List D} {a : Addr} {vs : List V} (h : SqT W.K H a vs) (r : RelDs W g H ds vs) : WkD W g H (Iet W.K a) (enumL 0 ds) := by
  have hl : (enumL 0 ds).length = vs.length := by rw [enumL_len, r.length]
  refine ⟨fun i g' H' f hi => ?_, fun g' H' f => ⟨vs, f.sqT h, hl.symm⟩, fun i g' H' m x H'' f k hi y => ?_⟩
  · have hv : i < vs.length := by omega
    exact ⟨vs, vs[i], f.sqT h, List.getElem?_eq_getElem hv⟩
  · obtain ⟨T, p, e1, h1, e2, h2⟩ := y
    subst e1 e2
    obtain ⟨d, h4, h5⟩ := (r.fx f).getV (h2 vs (f.sqT h))
    have x2 : ∀ P w, Ext P g' g' H' (upd H' T (.tup [.int (i : Nat), p])) w w := fun P w => ext_new h1 k
    refine ⟨_, by rw [enumL_get, h4]; rfl, x2, gok_new h1 k, .tup (.of upd_same) (.cons ?_ (.cons (h5.ext (x2 (fun _ => False) 0) k) .nil))⟩
    rw [Nat.zero_add]
    exact .int _
theorem sn_enu {elts : List Expr} {kk : Nat} (hK : X.K = E.W.K) (hg : Gl X "enumerate") (hm : X.mg "enumerate" = none) (ha : PE X e (TEo E a)) (hns : noStar e = true) : PI X (.Tuple elts kk tpos) (.Call (.Name "enumerate" p) [e] [] pos) (TIo E (.enu a)) := by
  have s1 := starEach_cons (es := []) (env := X.env) hns
  refine ⟨fun pins s σ H R I ⟨P, g, S, m, hS, h⟩ => ?_⟩
  simp only [evI] at h
  rcases evE_cases h with ⟨x, m1, q⟩ | ⟨c, fs, m1, q⟩
  · have hb := h.bind
    rw [q] at hb
    cases hd : x.1 with
    | tup ds =>
      refine (pi_enT hg hm (pa_cons ha pa_nil s1).len s1).run pins s σ H R I ⟨P, g, S, m, hS, ?_⟩
      rw [q]
      intro g1 H1 x1 k1 v hv hl
      obtain ⟨g2, x2, k2, r2, h3⟩ := (hb g1 H1 x1 k1).toV hv k1 fun a p => (hS.dom a p).1
      rw [hd] at r2 h3
      cases r2 with
      | tup h4 h5 =>
        rw [hK] at hl ⊢
        exact ⟨_, _, rfl, h4, h3 g2 H1 .refl k2 (by rw [enumL_len, h5.length]; exact hl _ _ (.inr h4)) _ (wkd_enumT h4 h5)⟩
    | lst ds =>
      refine (pi_enum hg hm (pa_cons ha pa_nil s1).len s1).run pins s σ H R I ⟨P, g, S, m, hS, ?_⟩
      rw [q]
      intro g1 H1 x1 k1 v hv hl
      obtain ⟨g2, x2, k2, r2, h3⟩ := (hb g1 H1 x1 k1).toV hv k1 fun a p => (hS.dom a p).1
      rw [hd] at r2 h3
      cases r2 with
      | lst h4 hf h5 =>
        rw [hK] at hl ⊢
        exact ⟨_, _, rfl, .of h4, h3 g2 H1 .refl k2 (by rw [enumL_len, h5.length]; exact hl _ _ (.inl (.of h4))) _ (wkd_enum h4 hf h5)⟩
    | _ =>
      refine (pi_enum hg hm (pa_cons ha pa_nil s1).len s1).run pins s σ H R I ⟨P, g, S, m, hS, ?_⟩
      rw [q]
      intro g1 H1 x1 k1 v hv hl
      obtain ⟨g2, x2, k2, r2, h3⟩ := (hb g1 H1 x1 k1).toV hv k1 fun a p => (hS.dom a p).1
      rw [hd] at h3
      exact h3.elim
  · rw [q] at h
    refine (pi_enum hg hm (pa_cons ha pa_nil s1).len s1).run pins s σ H R I ⟨P, g, S, m, hS, ?_⟩
    rw [q]
    exact h
end
end OD

set_option Elab.async false
set_option autoImplicit false
set_option linter.all false
set_option maxRecDepth 100000
set_option maxHeartbeats 4000000
/-! My own layer, part 8: list comprehensions. -/
namespace OD
open PySem PySem.Spec PyProof.Rows L2

theorem _root_.L2.PTs.imp {X : Cx} {e : List Expr} {t t' : TT} (h : PTs X e t) (f : ∀ (σ : L2.St) (H : Hp) (Q : Bool → Hp → Prop), t' σ H Q → t σ H Q) : PTs X e t' := ⟨fun pins s σ H Q I q => h.run pins s σ H Q I (f σ H Q q)⟩
theorem sn_pts_nil {X : Cx} {E : En} : PTs X [] (TBo E .tru) := pts_nil.imp fun σ H Q ⟨P, g, S, m, hS, h⟩ => h g H .refl hS.ok

theorem wipe_get (σ : L2.St) (i : Nat) : ∀ vs : List Nat, (wipe σ vs).getD i none = if i ∈ vs then none else σ.getD i none
  | [] => by simp [wipe]
  | v :: vs => by
    unfold wipe
    rw [getD_set, wipe_get σ i vs]
    by_cases h : v = i
    · subst h
      by_cases hl : v < (wipe σ vs).length
      · rw [if_pos ⟨rfl, hl⟩, if_pos List.mem_cons_self]
      · rw [if_neg (fun z => hl z.2), if_pos List.mem_cons_self]
        split
        · rfl
        · rw [wipe_length] at hl
          rw [List.getD_eq_getElem?_getD, List.getElem?_eq_none (by omega)]; rfl
    · rw [if_neg (fun z => h z.1)]
      by_cases h2 : i ∈ vs
      · rw [if_pos h2, if_pos (List.mem_cons_of_mem _ h2)]
      · rw [if_neg h2, if_neg (fun z => (List.mem_cons.mp z).elim (fun e => h e.symm) h2)]
theorem wipeS_get (S : Sto) (i : Nat) (vs : List Nat) : getS (wipeS S vs) i = if i ∈ vs then none else getS S i := by
  have key : ∀ vs : List Nat, (wipeS S vs).length = S.length ∧ getS (wipeS S vs) i = if i ∈ vs then none else getS S i := by
    intro vs
    induction vs with
    | nil => simp [wipeS]
    | cons v vs ih =>
      obtain ⟨hl, ih⟩ := ih
      unfold wipeS
      refine ⟨by rw [List.length_set, hl], ?_⟩
      unfold getS at ih ⊢
      rw [getD_set, ih]
      by_cases h : v = i
      · subst h
        by_cases hl2 : v < (wipeS S vs).length
        · rw [if_pos ⟨rfl, hl2⟩, if_pos List.mem_cons_self]
        · rw [if_neg (fun z => hl2 z.2), if_pos List.mem_cons_self]
          split
          · rfl
          · rw [List.getD_eq_getElem?_getD, List.getElem?_eq_none (by omega)]; rfl
      · rw [if_neg (fun z => h z.1)]
        by_cases h2 : i ∈ vs
        · rw [if_pos h2, if_pos (List.mem_cons_of_mem _ h2)]
        · rw [if_neg h2, if_neg (fun z => (List.mem_cons.mp z).elim (fun e => h e.symm) h2)]
  exact (key vs).2
theorem wipeS_len (S : Sto) : ∀ vs : List Nat, (wipeS S vs).length = S.length
  | [] => rfl
  | v :: vs => by unfold wipeS; rw [List.length_set, wipeS_len S vs]
theorem ext_getD {α : Type} : ∀ {l l' : List (Option α)}, l.length = l'.length → (∀ i, l.getD i none = l'.getD i none) → l = l'
  | [], [], _, _ => rfl
  | a :: l, b :: l', h, e => by
    have h0 := e 0
    simp at h0
    rw [h0, ext_getD (l := l) (l' := l') (by simpa using h) fun i => by simpa using e (i + 1)]
theorem Fill.wipe {W : Wd} {g : Gh} {H : Hp} {is vs : List Nat} {S S' : Sto} {σ σ' : L2.St} (x : Fill W g H is S S' (wipe σ vs) σ') (h : ∀ i ∈ is, i ∈ vs) : L2.wipe σ' vs = L2.wipe σ vs := by
  refine ext_getD (by rw [wipe_length, x.len.2]) fun i => ?_
  rw [wipe_get, wipe_get]
  split
  · rfl
  · rename_i hi
    rcases x.slot i with ⟨_, h2⟩ | ⟨d, v, h0, _⟩
    · rw [h2, wipe_get, if_neg hi]
    · exact absurd (h i h0) hi
/-- the names of an inner target wiped too -/
theorem wipe_in {σ : L2.St} {vs vs1 : List Nat} (σ2 : L2.St) : True := trivial
theorem StI.wipe {W : Wd} {P : Addr → Prop} {g : Gh} {H : Hp} {S : Sto} {m : MS} {σ : L2.St} (h : StI W P g H S m σ) (vs : List Nat) : StI W P g H (wipeS S vs) m (L2.wipe σ vs) := by
  refine ⟨h.ok, h.dom, fun i => ?_, by rw [wipeS_len, wipe_length, h.len]⟩
  rw [wipeS_get, wipe_get]
  split
  · trivial
  · exact h.slot i

/-! ### a list that grows, told apart from all others -/
/-- what may be written to, by one that knows it alone -/
def grow : HO → Bool
  | .lst _ => true
  | .dK _ => true
  | .dT _ => true
  | _ => false
theorem Ct.grow {W : Wd} {g : Gh} {H : Hp} {d : D} {u : HO} : Ct W g H d u → OD.grow u = true
  | .lst _ => rfl
  | .dct (b := true) => rfl
  | .dct (b := false) => rfl
section
variable {W : Wd} {P P' : Addr → Prop} {g g' : Gh} {H H' : Hp} {w w' : Nat} {m : MS} {S : Sto} {σ : L2.St} {D : Addr} {uo : HO} {o : HO}
theorem fx_own (hf : ¬ g.fz D) (h : H D = some uo) (hu : grow uo = true := by rfl) : FX g g H (upd H D o) where
  fzk := fun a ha => ⟨ha, upd_ne fun e => hf (e ▸ ha)⟩
  tup := fun a xs e => by rw [upd_ne (fun z => by subst z; rw [h] at e; cases e; cases hu)]; exact e
  frz := fun a o u e => by rw [upd_ne (fun z => by subst z; rw [h] at e; cases e; cases hu)]; exact e
  xd := fun a fv e => by rw [upd_ne (fun z => by subst z; rw [h] at e; cases e; cases hu)]; exact e
  rho := ⟨[], by simp⟩
theorem gok_own (k : GOk W g H m) (hf : ¬ g.fz D) (hr : D ∉ g.ρ) (h : H D = some uo) (hu : grow uo = true := by rfl) : GOk W g (upd H D o) m where
  len := k.len
  nd := k.nd
  obj := fun i p a h1 h2 => by
    have h3 := k.obj i p a h1 h2
    rw [upd_ne (show a ≠ D from fun z => hr (z ▸ List.mem_of_getElem? h2))]
    cases p with
    | lst es =>
      obtain ⟨us, e, r⟩ := h3
      exact ⟨us, e, r.fx (fx_own hf h hu)⟩
  fzd := fun a hz => by
    obtain ⟨h1, h2⟩ := k.fzd a hz
    rw [upd_ne (show a ≠ D from fun e => hf (e ▸ hz))]
    exact ⟨h1, h2⟩
theorem dom_own (d : PDom P g H) : PDom P g (upd H D o) := fun a p => by
  obtain ⟨h1, h2, h3⟩ := d a p
  refine ⟨?_, h2, h3⟩
  by_cases e : a = D
  · subst e; rw [upd_same]; simp
  · rw [upd_ne e]; exact h1
theorem sti_own (s : StI W P g H S m σ) (hp : ¬ P D) (hf : ¬ g.fz D) (hr : D ∉ g.ρ) (h : H D = some uo) (hu : grow uo = true := by rfl) : StI W P g (upd H D o) S m σ := by
  refine ⟨gok_own s.ok hf hr h hu, dom_own s.dom, fun i => ?_, s.len⟩
  have hs := s.slot i
  revert hs
  cases getS S i with
  | none => exact fun _ => trivial
  | some p =>
    obtain ⟨d, b⟩ := p
    cases b with
    | false => exact fun ⟨v, h1, h2⟩ => ⟨v, h1, h2.fx (fx_own hf h hu)⟩
    | true => exact fun ⟨a, us, h2, h3, h4, h5⟩ => ⟨a, us, h2, by rw [upd_ne (show a ≠ D from fun e => hp (e ▸ h5))]; exact h3, h4.fx (fx_own hf h hu), h5⟩
/-- a list that is new from H on may change -/
theorem Ext.own (x : Ext P g g' H H' w w') (k : GOk W g H m) (h : H D = Option.none) : Ext P g g' H (upd H' D o) w w' where
  keep := fun a u e n => by rw [upd_ne (ne_of_none e h)]; exact x.keep a u e n
  live := fun a e => by
    by_cases z : a = D
    · subst z; rw [upd_same]; simp
    · rw [upd_ne z]; exact x.live a e
  fz := x.fz
  prot := x.prot
  rho := x.rho
  mono := x.mono
  wr := fun e a ha => by rw [upd_ne (show a ≠ D from fun z => k.noρ h (z ▸ ha))]; exact x.wr e a ha
/-- one more told apart -/
theorem sti_more (s : StI W P g H S m σ) (hf : ¬ g.fz D) (hr : D ∉ g.ρ) (h : H D = some uo) : StI W (fun a => P a ∨ a = D) g H S m σ := by
  refine ⟨s.ok, fun a p => ?_, fun i => ?_, s.len⟩
  · rcases p with p | p
    · exact s.dom a p
    · subst p; exact ⟨by rw [h]; simp, hf, hr⟩
  · have hs := s.slot i
    revert hs
    cases getS S i with
    | none => exact fun _ => trivial
    | some p =>
      obtain ⟨d, b⟩ := p
      cases b with
      | false => exact fun h => h
      | true => exact fun ⟨a, us, h2, h3, h4, h5⟩ => ⟨a, us, h2, h3, h4, .inl h5⟩
end
theorem bindR_assoc {α β γ : Type} (r : Res α) (f : α → MS → Res β) (h : β → MS → Res γ) : bindR (bindR r f) h = bindR r fun a m => bindR (f a m) h := by
  cases r <;> rfl
theorem bindR_ok {α β : Type} {r : Res α} {f : α → MS → Res β} {b : β} {m : MS} (h : bindR r f = .ok b m) : ∃ a m', r = .ok a m' ∧ f a m' = .ok b m := by
  cases r with
  | ok a m' => exact ⟨a, m', rfl, h⟩
  | exc c fs m' => cases h
  | bad => cases h

/-- an item's value -/
def elR (gl : List D) (cf : Nat → List D → MS → Res (D × Kd)) (e c tg : T) (own : List Nat) (S : Sto) : D → MS → Res (Option D) := fun d m => bindR (optR (tgT tg d .sh (wipeS S own)) m) fun S1 m1 => bindR (evB gl cf c S1 m1) fun b m2 =>
  condR b (fun _ => bindR (evE gl cf e S1 m2) fun y m3 => bindR (toV y m3) fun v m4 => .ok (some v) m4) (fun _ => .ok none m2)
theorem evE_lc (gl : List D) (cf : Nat → List D → MS → Res (D × Kd)) (e c tg it : T) (own : List Nat) (S : Sto) (m : MS) : evE gl cf (.lc e c tg it own) S m = noX (bindR (evI gl cf it S m) fun ds m1 => bindR (mapR (elR gl cf e c tg own S) ds m1) fun ys m2 => .ok (.lst ys, .own) m2) := by
  simp only [evE]
  rfl
def En.nox (E : En) : En := { E with Wx := fun _ _ _ _ => False }
/-- the loop over one clause: the list at D grows. Nx: what is reached behind the turn -/
theorem turn_el {E : En} {tg c e : T} {own : List Nat} {P : Addr → Prop} {g1 gi : Gh} {H1 Hi Hy : Hp} {m1 mi m' : MS} {S : Sto} {σ : L2.St} {D : Addr} {vs : List V} {acc : List OD.D} {d : OD.D} {x : V} {o : Option OD.D}
    (hsl : ∀ i ∈ slT tg, i ∈ own) (k1 : GOk E.W g1 H1 m1) (hD1 : H1 D = none) (hP1 : ∀ a, P a → H1 a ≠ none)
    (hF : elR E.gl E.cf e c tg own S d mi = .ok o m') (hx : Ext P g1 gi H1 Hi m1.w mi.w) (hS : StI E.W P gi Hi S mi σ) (hf : ¬ gi.fz D) (hr : D ∉ gi.ρ) (hD : Hi D = some (.lst vs)) (ra : RelDs E.W gi Hi acc vs) (hn : o ≠ none → acc.length < sizeLine)
    (hy : ∀ P w, Ext P gi gi Hi Hy w w) (ky : GOk E.W gi Hy mi) (rd : RelD E.W gi Hy d x) {Nx : Hp → Prop}
    (nx : ∀ g' H' us, Ext P g1 g' H1 H' m1.w m'.w → FX gi g' Hi H' → (∀ S2 σ2, StI E.W P gi Hi S2 mi σ2 → StI E.W P g' H' S2 m' σ2) → ¬ g'.fz D → D ∉ g'.ρ → H' D = some (.lst us) → RelDs E.W g' H' (acc ++ o.toList) us → Nx H') :
    gT E.W.K tg x (wipe σ own) Hy fun σ2 H2 => wipe σ2 own = wipe σ own ∧ TBo E.nox c σ2 H2 fun b H3 =>
      if b = true then TEo E.nox e σ2 H3 fun y H4 => ∃ us, H4 D = some (.lst us) ∧ us.length < sizeLine ∧ Nx (upd H4 D (.lst (us ++ [y]))) else Nx H3 := by
  obtain ⟨S1, e1, hF⟩ : ∃ S1, tgT tg d .sh (wipeS S own) = some S1 ∧ (bindR (evB E.gl E.cf c S1 mi) fun b m2 => condR b (fun _ => bindR (evE E.gl E.cf e S1 m2) fun y m3 => bindR (toV y m3) fun v m4 => .ok (some v) m4) (fun _ => .ok none m2)) = .ok o m' := by
    unfold elR at hF
    cases q : tgT tg d .sh (wipeS S own) with
    | none => rw [q] at hF; cases hF
    | some S1 => rw [q] at hF; exact ⟨S1, rfl, hF⟩
  obtain ⟨b, m2, q2, hF⟩ := bindR_ok hF
  have hSy := (sti_more hS hf hr hD).ext (hy _ mi.w) ky
  have hSw := hSy.wipe own
  obtain ⟨σ2, fl, gk⟩ := tgT_ok (W := E.W) (g := gi) (H := Hy) e1 rd hSw.len
  have hS2 := fl.sti hSw
  refine gk _ ⟨fl.wipe hsl, _, gi, S1, mi, hS2, ?_⟩
  have hdie : P D → False := fun p => hP1 D p hD1
  rw [show evB E.nox.gl E.nox.cf c S1 mi = _ from q2]
  intro g3 H3 x3 k3
  have x13 : Ext P g1 g3 H1 H3 m1.w m2.w := (hx.trans (hy P mi.w)).trans (x3.less fun a p => .inl p)
  have hD3 : H3 D = some (.lst vs) := x3.keep D _ ((hy (fun _ => False) 0).keep D _ hD hr) hr
  have hyD := (hSy.ext x3 k3)
  cases b with
  | false =>
    cases hF
    show Nx H3
    refine nx g3 H3 vs x13 (((hy (fun _ => False) 0).fx hS.ok).trans (x3.fx ky)) (fun S2 σ2 hS => (hS.ext (hy _ mi.w) ky).ext (x3.less fun a p => .inl p) k3) (hyD.dom D (.inr rfl)).2.1 (hyD.dom D (.inr rfl)).2.2 hD3 ?_
    simp only [Option.toList, List.append_nil]
    exact (ra.ext (hy (fun _ => False) 0) hS.ok).ext x3 ky
  | true =>
    show TEo E.nox e σ2 H3 _
    obtain ⟨y, m3, q3, hF⟩ := bindR_ok (show (bindR (evE E.gl E.cf e S1 m2) fun y m3 => bindR (toV y m3) fun v m4 => .ok (some v) m4) = .ok o m' from hF)
    refine ⟨_, g3, S1, m2, hS2.ext x3 k3, ?_⟩
    rw [show evE E.nox.gl E.nox.cf e S1 m2 = _ from q3]
    intro g4 H4 x4 k4 yv ry
    obtain ⟨yd, yk⟩ := y
    have hb : yk ≠ .bor := fun z => by subst z; cases hF
    obtain ⟨g5, x5, k5, r5⟩ := ry.keep (P := fun a => P a ∨ a = D) (w := m3.w) k4 (fun a p => (hyD.dom a p).1) hb
    have eo : o = some yd ∧ m' = m3 := by
      cases yk with
      | sh => cases hF; exact ⟨rfl, rfl⟩
      | own => cases hF; exact ⟨rfl, rfl⟩
      | bor => cases hF
    obtain ⟨rfl, rfl⟩ := eo
    have x35 := x4.trans x5
    have h5 := hyD.ext x35 k5
    obtain ⟨h51, h52, h53⟩ := h5.dom D (.inr rfl)
    have hD5 : H4 D = some (.lst vs) := x35.keep D _ hD3 (hyD.dom D (.inr rfl)).2.2
    have ra5 : RelDs E.W g5 H4 acc vs := ((ra.ext (hy (fun _ => False) 0) hS.ok).ext x3 ky).ext x35 k3
    refine ⟨vs, hD5, by rw [← ra5.length]; exact hn (by simp), ?_⟩
    have fx := fx_own (o := .lst (vs ++ [yv])) h52 hD5
    have sP : ∀ S2 σ2, StI E.W P gi Hi S2 mi σ2 → StI E.W P g5 H4 S2 m' σ2 := fun S2 σ2 hS => ((hS.ext (hy _ mi.w) ky).ext (x3.less fun a p => .inl p) k3).ext (x35.less fun a p => .inl p) k5
    refine nx g5 _ _ ((x13.trans (x35.less fun a p => .inl p)).own k1 hD1) ((((hy (fun _ => False) 0).fx hS.ok).trans (x3.fx ky)).trans ((x35.fx k3).trans fx)) (fun S2 σ2 hS => sti_own (sP S2 σ2 hS) hdie h52 h53 hD5) h52 h53 upd_same ?_
    exact (ra5.fx fx).append (.cons (r5.fx fx) .nil)
section
variable {X : Cx} {E : En} {tg iter elt e : Expr}
theorem lc_ok {e c tg it : T} {own : List Nat} (hsl : ∀ i ∈ slT tg, i ∈ own) (σ : L2.St) (H : Hp) (Q : VK) (h : TEo E (.lc e c tg it own) σ H Q) :
    tLc (TIo E it) (gT E.W.K tg) (TBo E.nox c) (TEo E.nox e) own σ H Q := by
  obtain ⟨P, g, S, m, hS, h⟩ := h
  rw [evE_lc] at h
  refine ⟨P, g, S, m, hS, ?_⟩
  cases q : evI E.gl E.cf it S m with
  | bad => rw [q] at h; exact h.elim
  | exc c fs m1 => rw [q] at h; exact h.elim
  | ok ds m1 =>
    rw [q] at h
    replace h : SatR E.W P g H m.w (E.ex σ) (noX (bindR (mapR (elR E.gl E.cf e c tg own S) ds m1) fun ys m2 => Res.ok (OD.D.lst ys, Kd.own) m2)) fun x _ g' H' => ∀ v, RV E.W H g' H' x v → Q v H' := h
    generalize hR : (bindR (mapR (elR E.gl E.cf e c tg own S) ds m1) fun ys m2 => Res.ok (OD.D.lst ys, Kd.own) m2) = R0 at h
    cases R0 with
    | bad => exact h.elim
    | exc c fs m1 => exact h.elim
    | ok r m2 =>
      intro g1 H1 x1 k1 hl J wk D hD1
      have hS1 := hS.ext x1 k1
      have hP1 : ∀ a, P a → H1 a ≠ none := fun a p => (hS1.dom a p).1
      refine ⟨fun i k Hi => ∃ gi mi acc vs, k = ds.length - i ∧ i ≤ ds.length ∧ acc.length ≤ i ∧ (bindR (mapR (elR E.gl E.cf e c tg own S) (ds.drop i) mi) fun ys m2 => Res.ok (OD.D.lst (acc ++ ys), Kd.own) m2) = Res.ok r m2 ∧
        Ext P g1 gi H1 Hi m1.w mi.w ∧ StI E.W P gi Hi S mi σ ∧ ¬ gi.fz D ∧ D ∉ gi.ρ ∧ Hi D = some (.lst vs) ∧ RelDs E.W gi Hi acc vs, ⟨ds.length, g1, m1, [], [], by simp, by simp, by simp, by simpa using hR, (Ext.refl (g := g1)).own k1 hD1, ?_, k1.nofz hD1, k1.noρ hD1, upd_same, .nil⟩, ?_⟩
      · exact hS1.ext (ext_new (w := m1.w) hD1 k1) (gok_new hD1 k1)
      · rintro i k Hi ⟨gi, mi, acc, vs, rfl, hi, ha, hr, hx, hSi, hf, hp, hD, ra⟩
        have fx : FX g1 gi H1 Hi := hx.fx k1
        by_cases hlt : i < ds.length
        · obtain ⟨d, hd⟩ : ∃ d, ds[i]? = some d := ⟨_, List.getElem?_eq_getElem hlt⟩
          have hdr : ds.drop i = d :: ds.drop (i + 1) := by
            rw [List.drop_eq_getElem_cons hlt]
            congr 1
            exact Option.some.inj ((List.getElem?_eq_getElem hlt).symm.trans hd)
          rw [hdr, mapR, bindR_assoc] at hr
          obtain ⟨o, m', q1, hr⟩ := bindR_ok hr
          rw [bindR_assoc] at hr
          refine .inr ⟨wk.goes i gi Hi fx hlt, fun H' => ∃ k', k' < ds.length - i ∧ _, fun H' z => z, fun x Hy y => ?_⟩
          obtain ⟨d', hd', hy, ky, rd⟩ := wk.yields i gi Hi mi x Hy fx hSi.ok hlt y
          rw [hd] at hd'
          cases hd'
          refine turn_el hsl k1 hD1 hP1 q1 hx hSi hf hp hD ra (fun _ => by omega) hy ky rd fun g' H' us x' _ S' f' r' D' ra' => ⟨ds.length - (i + 1), by omega, g', m', acc ++ o.toList, us, rfl, hlt, ?_, ?_, x', S' _ _ hSi, f', r', D', ra'⟩
          · rw [List.length_append]
            cases o <;> simp [Option.toList] <;> omega
          · rw [← hr]
            congr 1
            funext ys m3
            simp [bindR]
        · have ei : i = ds.length := by omega
          subst ei
          rw [List.drop_length, mapR] at hr
          cases hr
          refine .inl ⟨wk.stops gi Hi fx, ?_⟩
          have h : ∀ g' H', Ext P g g' H H' m.w m2.w → GOk E.W g' H' m2 → ∀ v, RV E.W H g' H' (OD.D.lst (acc ++ []), Kd.own) v → Q v H' := h
          refine h gi Hi (x1.trans hx) hSi.ok _ ⟨acc ++ [], D, vs, rfl, rfl, hD, ?_, hf, hp, x1.none hD1⟩
          rw [List.append_nil]
          exact ra
/-- an outer item's values -/
def el2R (gl : List OD.D) (cf : Nat → List OD.D → MS → Res (OD.D × Kd)) (e c tg tg2 it2 : T) (own own2 : List Nat) (S : Sto) : OD.D → MS → Res (List OD.D) := fun d m => bindR (optR (tgT tg d .sh (wipeS S own)) m) fun S1 m1 => bindR (evI gl cf it2 S1 m1) fun es m2 =>
      mapR (elR gl cf e c tg2 own2 S1) es m2
theorem evE_lc2 (gl : List OD.D) (cf : Nat → List OD.D → MS → Res (OD.D × Kd)) (e c tg it tg2 it2 : T) (own own2 : List Nat) (S : Sto) (m : MS) : evE gl cf (.lc2 e c tg it tg2 it2 own own2) S m = noX (bindR (evI gl cf it S m) fun ds m1 => bindR (map2R (el2R gl cf e c tg tg2 it2 own own2 S) ds m1) fun ys m2 => needR (ys.length ≤ sizeLine) fun _ => .ok (.lst ys, .own) m2) := by
  simp only [evE]
  rfl
theorem needR_ok {α : Type} {b : Prop} [Decidable b] {f : Unit → Res α} {a : α} {m : MS} (h : needR b f = .ok a m) : b ∧ f () = .ok a m := by
  unfold needR at h
  split at h
  · exact ⟨by assumption, h⟩
  · cases h
theorem lc2_ok {e c tg it tg2 it2 : T} {own own2 : List Nat} (hsl : ∀ i ∈ slT tg, i ∈ own) (hsl2 : ∀ i ∈ slT tg2, i ∈ own2) (σ : L2.St) (H : Hp) (Q : VK) (h : TEo E (.lc2 e c tg it tg2 it2 own own2) σ H Q) :
    tLc2 (TIo E it) (gT E.W.K tg) tYes (TIo E.nox it2) (gT E.W.K tg2) (TBo E.nox c) (TEo E.nox e) own own2 σ H Q := by
  obtain ⟨P, g, S, m, hS, h⟩ := h
  rw [evE_lc2] at h
  refine ⟨P, g, S, m, hS, ?_⟩
  cases q : evI E.gl E.cf it S m with
  | bad => rw [q] at h; exact h.elim
  | exc c fs m1 => rw [q] at h; exact h.elim
  | ok ds m1 =>
    rw [q] at h
    replace h : SatR E.W P g H m.w (E.ex σ) (noX (bindR (map2R (el2R E.gl E.cf e c tg tg2 it2 own own2 S) ds m1) fun ys m2 => needR (ys.length ≤ sizeLine) fun _ => Res.ok (OD.D.lst ys, Kd.own) m2)) fun x _ g' H' => ∀ v, RV E.W H g' H' x v → Q v H' := h
    generalize hR : (bindR (map2R (el2R E.gl E.cf e c tg tg2 it2 own own2 S) ds m1) fun ys m2 => needR (ys.length ≤ sizeLine) fun _ => Res.ok (OD.D.lst ys, Kd.own) m2) = R0 at h
    cases R0 with
    | bad => exact h.elim
    | exc c fs m1 => exact h.elim
    | ok r m2 =>
      intro g1 H1 x1 k1 hl J wk D hD1
      have hS1 := hS.ext x1 k1
      have hP1 : ∀ a, P a → H1 a ≠ none := fun a p => (hS1.dom a p).1
      refine ⟨fun i k Hi => ∃ gi mi acc vs, k = ds.length - i ∧ i ≤ ds.length ∧ (bindR (map2R (el2R E.gl E.cf e c tg tg2 it2 own own2 S) (ds.drop i) mi) fun ys m2 => needR ((acc ++ ys).length ≤ sizeLine) fun _ => Res.ok (OD.D.lst (acc ++ ys), Kd.own) m2) = Res.ok r m2 ∧
        Ext P g1 gi H1 Hi m1.w mi.w ∧ StI E.W P gi Hi S mi σ ∧ ¬ gi.fz D ∧ D ∉ gi.ρ ∧ Hi D = some (.lst vs) ∧ RelDs E.W gi Hi acc vs, ⟨ds.length, g1, m1, [], [], by simp, by simp, by simpa using hR, (Ext.refl (g := g1)).own k1 hD1, ?_, k1.nofz hD1, k1.noρ hD1, upd_same, .nil⟩, ?_⟩
      · exact hS1.ext (ext_new (w := m1.w) hD1 k1) (gok_new hD1 k1)
      · rintro i k Hi ⟨gi, mi, acc, vs, rfl, hi, hr, hx, hSi, hf, hp, hD, ra⟩
        have fx : FX g1 gi H1 Hi := hx.fx k1
        by_cases hlt : i < ds.length
        · obtain ⟨d, hd⟩ : ∃ d, ds[i]? = some d := ⟨_, List.getElem?_eq_getElem hlt⟩
          have hdr : ds.drop i = d :: ds.drop (i + 1) := by
            rw [List.drop_eq_getElem_cons hlt]
            congr 1
            exact Option.some.inj ((List.getElem?_eq_getElem hlt).symm.trans hd)
          rw [hdr, map2R, bindR_assoc] at hr
          obtain ⟨o, m', q1, hr⟩ := bindR_ok hr
          rw [bindR_assoc] at hr
          refine .inr ⟨wk.goes i gi Hi fx hlt, fun H' => ∃ k', k' < ds.length - i ∧ _, fun H' z => z, fun x Hy y => ?_⟩
          obtain ⟨d', hd', hy, ky, rd⟩ := wk.yields i gi Hi mi x Hy fx hSi.ok hlt y
          rw [hd] at hd'
          cases hd'
          have hacc : (acc ++ o).length ≤ sizeLine := by
            obtain ⟨ys, m7, _, hz⟩ := bindR_ok hr
            have hz : (needR ((acc ++ (o ++ ys)).length ≤ sizeLine) fun _ => Res.ok (OD.D.lst (acc ++ (o ++ ys)), Kd.own) m7) = Res.ok r m2 := hz
            have := (needR_ok hz).1
            simp at this ⊢
            omega
          -- the outer names
          obtain ⟨S1, e1, q1⟩ : ∃ S1, tgT tg d .sh (wipeS S own) = some S1 ∧ (bindR (evI E.gl E.cf it2 S1 mi) fun es m2 => mapR (elR E.gl E.cf e c tg2 own2 S1) es m2) = .ok o m' := by
            unfold el2R at q1
            cases q : tgT tg d .sh (wipeS S own) with
            | none => rw [q] at q1; cases q1
            | some S1 => rw [q] at q1; exact ⟨S1, rfl, q1⟩
          obtain ⟨es, m3, q3, q1⟩ := bindR_ok q1
          have hSy := (sti_more hSi hf hp hD).ext (hy _ mi.w) ky
          have hSw := hSy.wipe own
          obtain ⟨σ2, fl, gk⟩ := tgT_ok (W := E.W) (g := gi) (H := Hy) e1 rd hSw.len
          refine gk _ ⟨fl.wipe hsl, ?_⟩
          show TIo E.nox it2 σ2 Hy _
          refine ⟨_, gi, S1, mi, fl.sti hSw, ?_⟩
          rw [show evI E.nox.gl E.nox.cf it2 S1 mi = _ from q3]
          intro g3 H3 x3 k3 hl3 J1 wk1
          have x3P := x3.less (P' := P) fun a p => .inl p
          have x13 : Ext P g1 g3 H1 H3 m1.w m3.w := (hx.trans (hy P mi.w)).trans x3P
          have hD3 : H3 D = some (.lst vs) := x3.keep D _ ((hy (fun _ => False) 0).keep D _ hD hp) hp
          have hyD := hSy.ext x3 k3
          have s3 : StI E.W P g3 H3 S m3 σ := (hSi.ext (hy _ mi.w) ky).ext x3P k3
          have s3' : StI E.W P g3 H3 S1 m3 σ2 := (fl.sti ((hSi.ext (hy _ mi.w) ky).wipe own)).ext x3P k3
          have ra3 : RelDs E.W g3 H3 acc vs := (ra.ext (hy (fun _ => False) 0) hSi.ok).ext x3 ky
          refine ⟨fun j k Hj => ∃ gj mj acc2 us, k = es.length - j ∧ j ≤ es.length ∧ (bindR (mapR (elR E.gl E.cf e c tg2 own2 S1) (es.drop j) mj) fun ys m5 => Res.ok (acc2 ++ ys) m5) = Res.ok (acc ++ o) m' ∧
            Ext P g1 gj H1 Hj m1.w mj.w ∧ FX g3 gj H3 Hj ∧ StI E.W P gj Hj S mj σ ∧ StI E.W P gj Hj S1 mj σ2 ∧ ¬ gj.fz D ∧ D ∉ gj.ρ ∧ Hj D = some (.lst us) ∧ RelDs E.W gj Hj acc2 us, ⟨es.length, g3, m3, acc, vs, by simp, by simp, ?_, x13, .refl, s3, s3', (hyD.dom D (.inr rfl)).2.1, (hyD.dom D (.inr rfl)).2.2, hD3, ra3⟩, ?_⟩
          · rw [List.drop_zero, q1]; rfl
          · rintro j k Hj ⟨gj, mj, acc2, us, rfl, hj, hrj, hxj, fxj, hSj, hSj', hfj, hpj, hDj, raj⟩
            by_cases hltj : j < es.length
            · obtain ⟨d2, hd2⟩ : ∃ d, es[j]? = some d := ⟨_, List.getElem?_eq_getElem hltj⟩
              have hdr2 : es.drop j = d2 :: es.drop (j + 1) := by
                rw [List.drop_eq_getElem_cons hltj]
                congr 1
                exact Option.some.inj ((List.getElem?_eq_getElem hltj).symm.trans hd2)
              rw [hdr2, mapR, bindR_assoc] at hrj
              obtain ⟨o2, m6, q6, hrj⟩ := bindR_ok hrj
              rw [bindR_assoc] at hrj
              refine .inr ⟨wk1.goes j gj Hj fxj hltj, fun H' => ∃ k', k' < es.length - j ∧ _, fun H' z => z, fun x2 Hy2 y2 => ?_⟩
              obtain ⟨d', hd', hy2, ky2, rd2⟩ := wk1.yields j gj Hj mj x2 Hy2 fxj hSj.ok hltj y2
              rw [hd2] at hd'
              cases hd'
              refine turn_el hsl2 k1 hD1 hP1 q6 hxj hSj' hfj hpj hDj raj ?_ hy2 ky2 rd2 fun g' H' us' x' fx' S' f' r' D' ra' => ⟨es.length - (j + 1), by omega, g', m6, acc2 ++ o2.toList, us', rfl, hltj, ?_, x', fxj.trans fx', S' _ _ hSj, S' _ _ hSj', f', r', D', ra'⟩
              · intro ho
                obtain ⟨ys, m7, q7, hz⟩ := bindR_ok hrj
                cases o2 with
                | none => exact absurd rfl ho
                | some v2 =>
                  have hz : Res.ok (acc2 ++ ([v2] ++ ys)) m7 = Res.ok (acc ++ o) m' := hz
                  have hz2 : acc2 ++ ([v2] ++ ys) = acc ++ o := by
                    injection hz
                  have := congrArg List.length hz2
                  simp at this
                  simp at hacc
                  omega
              · rw [← hrj]
                congr 1
                funext ys m3
                simp [bindR]
            · have ej : j = es.length := by omega
              subst ej
              rw [List.drop_length, mapR] at hrj
              have hrj : Res.ok (acc2 ++ []) mj = Res.ok (acc ++ o) m' := hrj
              rw [List.append_nil] at hrj
              cases hrj
              refine .inl ⟨wk1.stops gj Hj fxj, ds.length - (i + 1), by omega, gj, _, acc ++ o, us, rfl, hlt, ?_, hxj, hSj, hfj, hpj, hDj, raj⟩
              rw [← hr]
              congr 1
              funext ys m3
              simp [bindR]
        · have ei : i = ds.length := by omega
          subst ei
          rw [List.drop_length, map2R] at hr
          have hr : (needR ((acc ++ []).length ≤ sizeLine) fun _ => Res.ok (OD.D.lst (acc ++ []), Kd.own) mi) = Res.ok r m2 := hr
          obtain ⟨_, hr⟩ := needR_ok hr
          cases hr
          refine .inl ⟨wk.stops gi Hi fx, ?_⟩
          have h : ∀ g' H', Ext P g g' H H' m.w m2.w → GOk E.W g' H' m2 → ∀ v, RV E.W H g' H' (OD.D.lst (acc ++ []), Kd.own) v → Q v H' := h
          refine h gi Hi (x1.trans hx) hSi.ok _ ⟨acc ++ [], D, vs, rfl, rfl, hD, ?_, hf, hp, x1.none hD1⟩
          rw [List.append_nil]
          exact ra
end
end OD

set_option Elab.async false
set_option autoImplicit false
set_option linter.all false
set_option maxRecDepth 100000
set_option maxHeartbeats 4000000
/-! My own layer, part 9: statements. -/
namespace OD
open PySem PySem.Spec PyProof.Rows L2

/-- where a def's run began -/
structure Bs where
  P : Addr → Prop
  g : Gh
  H : Hp
  m : MS
/-- the lists that names own -/
def Own (S : Sto) (σ : L2.St) (a : Addr) : Prop := ∃ i d, getS S i = some (d, true) ∧ σ.getD i none = some (.ref a)
def PO (B : Bs) (S : Sto) (σ : L2.St) : Addr → Prop := fun a => B.P a ∨ Own S σ a
structure BI (W : Wd) (B : Bs) (g : Gh) (H : Hp) (S : Sto) (m : MS) (σ : L2.St) : Prop where
  ok0 : GOk W B.g B.H B.m
  dom0 : PDom B.P B.g B.H
  ext : Ext B.P B.g g B.H H B.m.w m.w
  st : StI W (PO B S σ) g H S m σ
  new : ∀ a, Own S σ a → B.H a = none
  inj : ∀ i j d e a, getS S i = some (d, true) → getS S j = some (e, true) → σ.getD i none = some (.ref a) → σ.getD j none = some (.ref a) → i = j
section
variable {W : Wd} {B : Bs} {g g' : Gh} {H H' : Hp} {S S' : Sto} {m m' : MS} {σ σ' : L2.St}
theorem BI.go (b : BI W B g H S m σ) (x : Ext (PO B S σ) g g' H H' m.w m'.w) (k : GOk W g' H' m') : BI W B g' H' S m' σ :=
  ⟨b.ok0, b.dom0, b.ext.trans (x.less fun a p => .inl p), b.st.ext x k, b.new, b.inj⟩
/-- values that are kept go into names -/
theorem BI.fill {is : List Nat} (b : BI W B g H S m σ) (f : Fill W g H is S S' σ σ') : BI W B g H S' m σ' := by
  have back : ∀ i d a, getS S' i = some (d, true) → σ'.getD i none = some (V.ref a) → getS S i = some (d, true) ∧ σ.getD i none = some (V.ref a) := fun i d a h1 h2 => by
    rcases f.slot i with ⟨h3, h4⟩ | ⟨e, v, _, h3, h4, _⟩
    · rw [h3] at h1; rw [h4] at h2; exact ⟨h1, h2⟩
    · rw [h3] at h1; cases h1
  have own : ∀ a, Own S' σ' a → Own S σ a := fun a ⟨i, d, h1, h2⟩ => by
    obtain ⟨h3, h4⟩ := back i d a h1 h2
    exact ⟨i, d, h3, h4⟩
  refine ⟨b.ok0, b.dom0, b.ext, ⟨b.st.ok, fun a p => b.st.dom a (p.imp_right (own a)), fun i => ?_, by rw [f.len.1, f.len.2, b.st.len]⟩, fun a o => b.new a (own a o), fun i j d e a h1 h2 h3 h4 => ?_⟩
  · rcases f.slot i with ⟨h1, h2⟩ | ⟨d, v, _, h1, h2, h3⟩
    · have hs := b.st.slot i
      rw [h1, h2]
      revert hs
      cases q : getS S i with
      | none => exact fun _ => trivial
      | some p =>
        obtain ⟨d, k⟩ := p
        cases k with
        | false => exact fun h => h
        | true => exact fun ⟨a, u, e2, e3, e4, _⟩ => ⟨a, u, e2, e3, e4, .inr ⟨i, d, by rw [h1, q], by rw [h2, e2]⟩⟩
    · rw [h1, h2]; exact ⟨v, rfl, h3⟩
  · obtain ⟨h5, h6⟩ := back i d a h1 h3
    obtain ⟨h7, h8⟩ := back j e a h2 h4
    exact b.inj i j d e a h5 h7 h6 h8
/-- a name that owns a thing -/
theorem BI.ownedC {i : Nat} {d : D} (b : BI W B g H S m σ) (h : getS S i = some (d, true)) : ∃ a u, σ.getD i none = some (.ref a) ∧ H a = some u ∧ Ct W g H d u ∧ Own S σ a ∧ ¬ g.fz a ∧ a ∉ g.ρ ∧ B.H a = none ∧ ¬ B.P a := by
  have hs := b.st.slot i
  rw [h] at hs
  obtain ⟨a, u, e2, e3, e4, _⟩ := hs
  have o : Own S σ a := ⟨i, d, h, e2⟩
  obtain ⟨_, h2, h3⟩ := b.st.dom a (.inr o)
  exact ⟨a, u, e2, e3, e4, o, h2, h3, b.new a o, fun p => (b.dom0 a p).1 (b.new a o)⟩
theorem BI.owned {i : Nat} {es : List D} (b : BI W B g H S m σ) (h : getS S i = some (.lst es, true)) : ∃ ds a vs, D.lst es = .lst ds ∧ σ.getD i none = some (.ref a) ∧ H a = some (.lst vs) ∧ RelDs W g H ds vs ∧ Own S σ a ∧ ¬ g.fz a ∧ a ∉ g.ρ ∧ B.H a = none ∧ ¬ B.P a := by
  obtain ⟨a, u, e2, e3, e4, r⟩ := b.ownedC h
  cases e4 with
  | lst e4 => exact ⟨_, a, _, rfl, e2, e3, e4, r⟩
/-- a name gets a new list of its own -/
theorem BI.takeC {i : Nat} {d0 : D} {a : Addr} {u0 : HO} (b : BI W B g H S m σ) (hH : H a = some u0) (r : Ct W g H d0 u0) (hf : ¬ g.fz a) (hr : a ∉ g.ρ) (hB : B.H a = none) (hn : ¬ Own S σ a) : BI W B g H (S.set i (some (d0, true))) m (σ.set i (some (.ref a))) := by
  have hl := b.st.len
  have get : ∀ j, (getS (S.set i (some (d0, true))) j = some (d0, true) ∧ (σ.set i (some (.ref a))).getD j none = some (.ref a) ∧ i = j ∧ i < S.length) ∨ (getS (S.set i (some (d0, true))) j = getS S j ∧ (σ.set i (some (.ref a))).getD j none = σ.getD j none ∧ ¬ (i = j ∧ i < S.length)) := fun j => by
    unfold getS
    rw [getD_set, getD_set]
    by_cases h : i = j ∧ i < S.length
    · rw [if_pos h, if_pos ⟨h.1, by omega⟩]; exact .inl ⟨rfl, rfl, h⟩
    · rw [if_neg h, if_neg (fun z => h ⟨z.1, by omega⟩)]; exact .inr ⟨rfl, rfl, h⟩
  have own : ∀ c, Own (S.set i (some (d0, true))) (σ.set i (some (.ref a))) c → c = a ∨ Own S σ c := fun c ⟨j, d, h1, h2⟩ => by
    rcases get j with ⟨g1, g2, _⟩ | ⟨g1, g2, _⟩
    · rw [g2] at h2; cases h2; exact .inl rfl
    · rw [g1] at h1; rw [g2] at h2; exact .inr ⟨j, d, h1, h2⟩
  refine ⟨b.ok0, b.dom0, b.ext, ⟨b.st.ok, fun c p => ?_, fun j => ?_, by simp [hl]⟩, fun c o => ?_, fun j k d e c h1 h2 h3 h4 => ?_⟩
  · rcases p with p | p
    · exact b.st.dom c (.inl p)
    · rcases own c p with rfl | o
      · exact ⟨by rw [hH]; simp, hf, hr⟩
      · exact b.st.dom c (.inr o)
  · rcases get j with ⟨g1, g2, _⟩ | ⟨g1, g2, _⟩
    · rw [g1, g2]; exact ⟨a, u0, rfl, hH, r, .inr ⟨j, _, g1, g2⟩⟩
    · have hs := b.st.slot j
      rw [g1, g2]
      revert hs
      cases q : getS S j with
      | none => exact fun _ => trivial
      | some p =>
        obtain ⟨d, k⟩ := p
        cases k with
        | false => exact fun h => h
        | true => exact fun ⟨c, us, e2, e3, e4, _⟩ => ⟨c, us, e2, e3, e4, .inr ⟨j, d, by rw [g1, q], by rw [g2, e2]⟩⟩
  · rcases own c o with rfl | o
    · exact hB
    · exact b.new c o
  · rcases get j with ⟨g1, g2, e1, _⟩ | ⟨g1, g2, _⟩
    · rcases get k with ⟨g3, g4, e2, _⟩ | ⟨g3, g4, _⟩
      · exact e1.symm.trans e2
      · rw [g2] at h3; cases h3
        rw [g3] at h2; rw [g4] at h4
        exact absurd ⟨k, e, h2, h4⟩ hn
    · rcases get k with ⟨g3, g4, e2, _⟩ | ⟨g3, g4, _⟩
      · rw [g4] at h4; cases h4
        rw [g1] at h1; rw [g2] at h3
        exact absurd ⟨j, d, h1, h3⟩ hn
      · rw [g1] at h1; rw [g2] at h3; rw [g3] at h2; rw [g4] at h4
        exact b.inj j k d e c h1 h2 h3 h4
theorem BI.take {i : Nat} {ds : List D} {a : Addr} {vs : List V} (b : BI W B g H S m σ) (hH : H a = some (.lst vs)) (r : RelDs W g H ds vs) (hf : ¬ g.fz a) (hr : a ∉ g.ρ) (hB : B.H a = none) (hn : ¬ Own S σ a) : BI W B g H (S.set i (some (.lst ds, true))) m (σ.set i (some (.ref a))) := b.takeC hH (.lst r) hf hr hB hn
/-- the list that a name owns is changed -/
theorem BI.putC {i : Nat} {d0 d1 : D} {a : Addr} {us : HO} (b : BI W B g H S m σ) (h : getS S i = some (d0, true)) (ha : σ.getD i none = some (.ref a)) (r : Ct W g H d1 us) :
    FX g g H (upd H a us) ∧ BI W B g (upd H a us) (S.set i (some (d1, true))) m σ := by
  obtain ⟨a', vs, e2, e3, e4, o, hf, hr, hB, hP⟩ := b.ownedC h
  have ea : a' = a := by rw [e2] at ha; cases ha; rfl
  subst ea
  have fx := fx_own (o := us) hf e3 e4.grow
  have hi : i < S.length := by
    by_cases q : i < S.length
    · exact q
    · unfold getS at h
      rw [List.getD_eq_getElem?_getD, List.getElem?_eq_none (by omega)] at h
      cases h
  have get : ∀ j, (getS (S.set i (some (d1, true))) j = some (d1, true) ∧ i = j) ∨ (getS (S.set i (some (d1, true))) j = getS S j ∧ i ≠ j) := fun j => by
    unfold getS
    rw [getD_set]
    by_cases h : i = j
    · rw [if_pos ⟨h, hi⟩]; exact .inl ⟨rfl, h⟩
    · rw [if_neg (fun z => h z.1)]; exact .inr ⟨rfl, h⟩
  have own : ∀ c, Own (S.set i (some (d1, true))) σ c → Own S σ c := fun c ⟨j, d, h1, h2⟩ => by
    rcases get j with ⟨g1, rfl⟩ | ⟨g1, _⟩
    · exact ⟨i, _, h, h2⟩
    · rw [g1] at h1; exact ⟨j, d, h1, h2⟩
  refine ⟨fx, b.ok0, b.dom0, b.ext.own b.ok0 hB, ⟨gok_own b.st.ok hf hr e3 e4.grow, fun c p => ?_, fun j => ?_, by simp [b.st.len]⟩, fun c o => b.new c (own c o), fun j k d e c h1 h2 h3 h4 => ?_⟩
  · obtain ⟨p1, p2, p3⟩ := b.st.dom c (p.imp_right (own c))
    refine ⟨?_, p2, p3⟩
    by_cases q : c = a'
    · subst q; rw [upd_same]; simp
    · rw [upd_ne q]; exact p1
  · rcases get j with ⟨g1, rfl⟩ | ⟨g1, hn⟩
    · rw [g1, ha]; exact ⟨a', us, rfl, upd_same, r.fx fx, .inr ⟨i, _, g1, ha⟩⟩
    · have hs := b.st.slot j
      rw [g1]
      revert hs
      cases q : getS S j with
      | none => exact fun _ => trivial
      | some p =>
        obtain ⟨d, k⟩ := p
        cases k with
        | false => exact fun ⟨v, h1, h2⟩ => ⟨v, h1, h2.fx fx⟩
        | true =>
          rintro ⟨c, ws, f2, f3, f4, _⟩
          refine ⟨c, ws, f2, ?_, f4.fx fx, .inr ⟨j, d, by rw [g1, q], f2⟩⟩
          rw [upd_ne (show c ≠ a' from fun z => hn (b.inj i j _ _ a' h q ha (by rw [f2, z])))]
          exact f3
  · rcases get j with ⟨g1, rfl⟩ | ⟨g1, hn⟩
    · rcases get k with ⟨g3, e2⟩ | ⟨g3, hn2⟩
      · exact e2
      · rw [g3] at h2; exact b.inj i k _ _ c h h2 h3 h4
    · rcases get k with ⟨g3, e2⟩ | ⟨g3, hn2⟩
      · subst e2; rw [g1] at h1; exact b.inj j i _ _ c h1 h h3 h4
      · rw [g1] at h1; rw [g3] at h2; exact b.inj j k _ _ c h1 h2 h3 h4
theorem BI.put {i : Nat} {ds es : List D} {a : Addr} {us : List V} (b : BI W B g H S m σ) (h : getS S i = some (.lst ds, true)) (ha : σ.getD i none = some (.ref a)) (r : RelDs W g H es us) :
    FX g g H (upd H a (.lst us)) ∧ BI W B g (upd H a (.lst us)) (S.set i (some (.lst es, true))) m σ := b.putC h ha (.lst r)
/-- the list that a name owns never changes any more -/
theorem BI.shr {i : Nat} {d : D} {k : Bool} (b : BI W B g H S m σ) (h : getS S i = some (d, k)) (hd : k = true → ∃ es, d = .lst es) : ∃ g', FX g g' H H ∧ BI W B g' H (S.set i (some (d, false))) m σ := by
  cases k with
  | false =>
    refine ⟨g, .refl, ?_⟩
    have hs := b.st.slot i
    rw [h] at hs
    obtain ⟨v, h1, h2⟩ := hs
    have f := Fill.one (W := W) (g := g) (H := H) (i := i) b.st.len h2
    have e : σ.set i (some v) = σ := by
      refine ext_getD (by simp) fun j => ?_
      rw [getD_set]
      split
      · rename_i hc; rw [← hc.1, h1]
      · rfl
    rw [e] at f
    exact b.fill f
  | true =>
    obtain ⟨es, rfl⟩ := hd rfl
    obtain ⟨ds, a, vs, e1, e2, e3, e4, o, hf, hr, hB, hP⟩ := b.owned h
    cases e1
    have fx : FX g (g.frz a) H H := ⟨fun c hc => ⟨.inl hc, rfl⟩, fun _ _ h => h, fun _ _ _ h => h, fun _ _ h => h, [], by simp [Gh.frz]⟩
    have hi : i < S.length := by
      by_cases q : i < S.length
      · exact q
      · unfold getS at h
        rw [List.getD_eq_getElem?_getD, List.getElem?_eq_none (by omega)] at h
        cases h
    have get : ∀ j, (getS (S.set i (some (.lst es, false))) j = some (.lst es, false) ∧ i = j) ∨ (getS (S.set i (some (.lst es, false))) j = getS S j ∧ i ≠ j) := fun j => by
      unfold getS
      rw [getD_set]
      by_cases h : i = j
      · rw [if_pos ⟨h, hi⟩]; exact .inl ⟨rfl, h⟩
      · rw [if_neg (fun z => h z.1)]; exact .inr ⟨rfl, h⟩
    have own : ∀ c, Own (S.set i (some (.lst es, false))) σ c → Own S σ c ∧ c ≠ a := fun c ⟨j, d, h1, h2⟩ => by
      rcases get j with ⟨g1, rfl⟩ | ⟨g1, hn⟩
      · rw [g1] at h1; cases h1
      · rw [g1] at h1
        exact ⟨⟨j, d, h1, h2⟩, fun z => hn (b.inj i j _ _ a h h1 e2 (by rw [h2, z]))⟩
    refine ⟨g.frz a, fx, b.ok0, b.dom0, b.ext.trans (ext_frz hP), ⟨gok_frz b.st.ok hr (.inl ⟨vs, e3⟩), fun c p => ?_, fun j => ?_, by simp [b.st.len]⟩, fun c o => b.new c (own c o).1, fun j k d e c h1 h2 h3 h4 => ?_⟩
    · rcases p with p | p
      · obtain ⟨p1, p2, p3⟩ := b.st.dom c (.inl p)
        exact ⟨p1, fun z => z.elim p2 fun z => hP (z ▸ p), p3⟩
      · obtain ⟨p1, p2, p3⟩ := b.st.dom c (.inr (own c p).1)
        exact ⟨p1, fun z => z.elim p2 (own c p).2, p3⟩
    · rcases get j with ⟨g1, rfl⟩ | ⟨g1, hn⟩
      · rw [g1, e2]; exact ⟨_, rfl, .lst e3 (.inr rfl) (e4.fx fx)⟩
      · have hs := b.st.slot j
        rw [g1]
        revert hs
        cases q : getS S j with
        | none => exact fun _ => trivial
        | some p =>
          obtain ⟨d, k⟩ := p
          cases k with
          | false => exact fun ⟨v, h1, h2⟩ => ⟨v, h1, h2.fx fx⟩
          | true => exact fun ⟨c, ws, f2, f3, f4, _⟩ => ⟨c, ws, f2, f3, f4.fx fx, .inr ⟨j, d, by rw [g1, q], f2⟩⟩
    · rcases get j with ⟨g1, rfl⟩ | ⟨g1, hn⟩
      · rw [g1] at h1; cases h1
      · rcases get k with ⟨g3, e2⟩ | ⟨g3, hn2⟩
        · rw [g3] at h2; cases h2
        · rw [g1] at h1; rw [g3] at h2; exact b.inj j k _ _ c h1 h2 h3 h4
/-- the dict that a name owns never changes any more -/
theorem BI.lock {i : Nat} {b : Bool} {ks : List (List Int)} (n : BI W B g H S m σ) (h : getS S i = some (.dct b ks, true)) : ∃ a, H a = some (dkO b ks) ∧ ∀ od, FX g g H (upd H a (.frz od (dkO b ks))) ∧ BI W B g (upd H a (.frz od (dkO b ks))) (S.set i (some (.dct b ks, false))) m σ := by
  obtain ⟨a, u, e2, e3, e4, o, hf, hr, hB, hP⟩ := n.ownedC h
  have gr := e4.grow
  cases e4
  refine ⟨a, e3, fun od => ?_⟩
  have fx := fx_own (o := .frz od (dkO b ks)) hf e3 gr
  have hi : i < S.length := by
    by_cases q : i < S.length
    · exact q
    · unfold getS at h
      rw [List.getD_eq_getElem?_getD, List.getElem?_eq_none (by omega)] at h
      cases h
  have at_ : ∀ j, (i = j ∧ getS (S.set i (some (.dct b ks, false))) j = some (.dct b ks, false)) ∨ (i ≠ j ∧ getS (S.set i (some (.dct b ks, false))) j = getS S j) := fun j => by
    unfold getS
    rw [getD_set]
    by_cases q : i = j
    · exact .inl ⟨q, by rw [if_pos ⟨q, hi⟩]⟩
    · exact .inr ⟨q, by rw [if_neg fun z => q z.1]⟩
  have mine : ∀ c, Own (S.set i (some (.dct b ks, false))) σ c → Own S σ c ∧ c ≠ a := fun c ⟨j, d, h1, h2⟩ => by
    rcases at_ j with ⟨_, g1⟩ | ⟨ne, g1⟩ <;> rw [g1] at h1
    · cases h1
    · exact ⟨⟨j, d, h1, h2⟩, fun z => ne (n.inj i j _ _ a h h1 e2 (by rw [h2, z]))⟩
  refine ⟨fx, n.ok0, n.dom0, n.ext.own n.ok0 hB, ⟨gok_own n.st.ok hf hr e3 gr, fun c p => ?_, fun j => ?_, by simp [n.st.len]⟩, fun c p => n.new c (mine c p).1, fun j k d e c h1 h2 h3 h4 => ?_⟩
  · obtain ⟨p1, p2, p3⟩ := n.st.dom c (p.imp_right fun z => (mine c z).1)
    refine ⟨?_, p2, p3⟩
    by_cases q : c = a
    · rw [q, upd_same]; exact Option.some_ne_none _
    · rw [upd_ne q]; exact p1
  · rcases at_ j with ⟨rfl, g1⟩ | ⟨ne, g1⟩ <;> rw [g1]
    · exact ⟨_, e2, .dct upd_same⟩
    · have sj := n.st.slot j
      cases q : getS S j with
      | none => exact True.intro
      | some p =>
        rw [q] at sj
        obtain ⟨d, k⟩ := p
        cases k with
        | false =>
          obtain ⟨v, s1, s2⟩ := sj
          exact ⟨v, s1, s2.fx fx⟩
        | true =>
          obtain ⟨c, uc, s1, s2, s3, _⟩ := sj
          have nc : c ≠ a := fun z => ne (n.inj i j _ _ a h q e2 (by rw [s1, z]))
          exact ⟨c, uc, s1, by rw [upd_ne nc]; exact s2, s3.fx fx, .inr ⟨j, d, by rw [g1, q], s1⟩⟩
  · rcases at_ j with ⟨_, g1⟩ | ⟨_, g1⟩ <;> rw [g1] at h1
    · cases h1
    · rcases at_ k with ⟨_, g2⟩ | ⟨_, g2⟩ <;> rw [g2] at h2
      · cases h2
      · exact n.inj j k d e c h1 h2 h3 h4
/-- a list that a name owns becomes a thing of the store -/
theorem BI.opn {i : Nat} {ds : List D} (n : BI W B g H S m σ) (h : getS S i = some (.lst ds, true)) : ∃ a, FX g (g.push a) H H ∧ BI W B (g.push a) H (S.set i (some (.ref m.objs.length, false))) ⟨m.objs ++ [.lst ds], m.w⟩ σ := by
  obtain ⟨a, u, e2, e3, e4, o, hf, hr, hB, hP⟩ := n.ownedC h
  have hl := n.st.ok.len
  cases e4 with
  | @lst _ vs r =>
  have fx : FX g (g.push a) H H := ⟨fun _ z => ⟨z, rfl⟩, fun _ _ z => z, fun _ _ _ z => z, fun _ _ z => z, [a], rfl⟩
  have hi : i < S.length := by
    by_cases q : i < S.length
    · exact q
    · unfold getS at h
      rw [List.getD_eq_getElem?_getD, List.getElem?_eq_none (by omega)] at h
      cases h
  have at_ : ∀ j, (i = j ∧ getS (S.set i (some (.ref m.objs.length, false))) j = some (.ref m.objs.length, false)) ∨ (i ≠ j ∧ getS (S.set i (some (.ref m.objs.length, false))) j = getS S j) := fun j => by
    unfold getS
    rw [getD_set]
    by_cases q : i = j
    · exact .inl ⟨q, by rw [if_pos ⟨q, hi⟩]⟩
    · exact .inr ⟨q, by rw [if_neg fun z => q z.1]⟩
  have mine : ∀ c, Own (S.set i (some (.ref m.objs.length, false))) σ c → Own S σ c ∧ c ≠ a := fun c ⟨j, d, h1, h2⟩ => by
    rcases at_ j with ⟨_, g1⟩ | ⟨ne, g1⟩ <;> rw [g1] at h1
    · cases h1
    · exact ⟨⟨j, d, h1, h2⟩, fun z => ne (n.inj i j _ _ a h h1 e2 (by rw [h2, z]))⟩
  have more : ∀ c, c ∈ (g.push a).ρ → c ∈ g.ρ ∨ c = a := fun c z => (List.mem_append.mp z).imp_right List.mem_singleton.mp
  have xt : Ext B.P B.g (g.push a) B.H H B.m.w m.w := by
    obtain ⟨l, e, f⟩ := n.ext.rho
    exact ⟨n.ext.keep, n.ext.live, n.ext.fz, n.ext.prot, ⟨l ++ [a], by rw [← List.append_assoc, ← e]; rfl, fun c z => (List.mem_append.mp z).elim (f c) fun z => by rw [List.mem_singleton.mp z]; exact hB⟩, n.ext.mono, n.ext.wr⟩
  have ok : GOk W (g.push a) H ⟨m.objs ++ [.lst ds], m.w⟩ := by
    refine ⟨by simp [Gh.push, hl], ?_, fun j p c h1 h2 => ?_, fun c z => ?_⟩
    · show (g.ρ ++ [a]).Nodup
      refine List.nodup_append.mpr ⟨n.st.ok.nd, by simp, fun x hx y hy e => ?_⟩
      rw [List.mem_singleton.mp hy] at e
      exact hr (e ▸ hx)
    · have h2 : (g.ρ ++ [a])[j]? = some c := h2
      have h1 : (m.objs ++ [MO.lst ds])[j]? = some p := h1
      by_cases q : j < m.objs.length
      · rw [List.getElem?_append_left q] at h1
        rw [List.getElem?_append_left (by omega)] at h2
        have z := n.st.ok.obj j p c h1 h2
        cases p with
        | lst es =>
          obtain ⟨us, z1, z2⟩ := z
          exact ⟨us, z1, z2.fx fx⟩
      · have ej : j = m.objs.length := by
          have := (List.getElem?_eq_some_iff.mp h1).1
          rw [List.length_append, List.length_singleton] at this
          omega
        subst ej
        rw [List.getElem?_append_right (Nat.le_refl _), Nat.sub_self] at h1
        rw [← hl, List.getElem?_append_right (Nat.le_refl _), Nat.sub_self] at h2
        cases h1
        cases h2
        exact ⟨vs, e3, r.fx fx⟩
    · obtain ⟨z1, z2⟩ := n.st.ok.fzd c z
      exact ⟨fun y => (more c y).elim z1 fun y => hf (y ▸ z), z2⟩
  refine ⟨a, fx, n.ok0, n.dom0, xt, ⟨ok, fun c p => ?_, fun j => ?_, by simp [n.st.len]⟩, fun c p => n.new c (mine c p).1, fun j k d e c h1 h2 h3 h4 => ?_⟩
  · obtain ⟨p1, p2, p3⟩ := n.st.dom c (p.imp_right fun z => (mine c z).1)
    refine ⟨p1, p2, fun z => (more c z).elim p3 fun z => ?_⟩
    rcases p with p | p
    · exact hP (z ▸ p)
    · exact (mine c p).2 z
  · rcases at_ j with ⟨rfl, g1⟩ | ⟨ne, g1⟩ <;> rw [g1]
    · refine ⟨_, e2, .ref ?_⟩
      show (g.ρ ++ [a])[m.objs.length]? = some a
      rw [← hl, List.getElem?_append_right (Nat.le_refl _), Nat.sub_self]
      rfl
    · have sj := n.st.slot j
      cases q : getS S j with
      | none => exact True.intro
      | some p =>
        rw [q] at sj
        obtain ⟨d, k⟩ := p
        cases k with
        | false =>
          obtain ⟨v, s1, s2⟩ := sj
          exact ⟨v, s1, s2.fx fx⟩
        | true =>
          obtain ⟨c, uc, s1, s2, s3, _⟩ := sj
          exact ⟨c, uc, s1, s2, s3.fx fx, .inr ⟨j, d, by rw [g1, q], s1⟩⟩
  · rcases at_ j with ⟨_, g1⟩ | ⟨_, g1⟩ <;> rw [g1] at h1
    · cases h1
    · rcases at_ k with ⟨_, g2⟩ | ⟨_, g2⟩ <;> rw [g2] at h2
      · cases h2
      · exact n.inj j k d e c h1 h2 h3 h4
end

/-- a statement's result, from g, H on -/
def SatS (E : En) (B : Bs) (g : Gh) (H : Hp) (D : Ends) (r : Res (Fl × Sto)) : Prop := match r with
  | .ok (.nx, S') m' => ∀ g' H' σ', FX g g' H H' → BI E.W B g' H' S' m' σ' → D.nx σ' H'
  | .ok (.rt d k, _) m' => ∀ g' H' v, Ext B.P B.g g' B.H H' B.m.w m'.w → GOk E.W g' H' m' → RV E.W B.H g' H' (d, k) v → D.rt v H'
  | .ok (.xc c fs, S') m' => ∀ g' H' σ' d fv, BI E.W B g' H' S' m' σ' → H' d = some (.xd fv) → fv.map (·.1) = E.W.clF c → RelDs E.W g' H' fs (fv.map (·.2)) → E.ex σ' c d H'
  | _ => False
def TSo (E : En) (B : Bs) (t : T) : TS := fun D σ H => ∃ g S m, BI E.W B g H S m σ ∧ SatS E B g H D (evS E.gl E.cf t S m)
section
variable {X : Cx} {E : En} {B : Bs} {g g' : Gh} {H H' : Hp} {S S' : Sto} {m m' : MS} {σ σ' : L2.St} {D : Ends} {r : Res (Fl × Sto)}
theorem SatS.fx (h : SatS E B g H D r) (x : FX g g' H H') : SatS E B g' H' D r := by
  match r, h with
  | .ok (.nx, S') m', h => exact fun g2 H2 σ2 y b => h g2 H2 σ2 (x.trans y) b
  | .ok (.rt d k, _) m', h => exact h
  | .ok (.xc c fs, S') m', h => exact h
/-- an expression ahead -/
theorem SatS.bind {α : Type} {r : Res α} {f : α → MS → Res (Fl × Sto)} (b : BI E.W B g H S m σ) (h : SatS E B g H D (bindS S r f)) : SatR E.W (PO B S σ) g H m.w (E.ex σ) r fun a m' g' H' => BI E.W B g' H' S m' σ ∧ SatS E B g' H' D (f a m') := by
  cases r with
  | ok a m' => exact fun g' H' x k => ⟨b.go x k, SatS.fx h (x.fx b.st.ok)⟩
  | exc c fs m' => exact fun g' H' d fv x k e1 e2 e3 => h g' H' σ d fv (b.go x k) e1 e2 e3
  | bad => exact h.elim
theorem SatS.opt {α : Type} {o : Option α} {f : α → MS → Res (Fl × Sto)} (h : SatS E B g H D (bindS S (optR o m) f)) : ∃ a, o = some a ∧ SatS E B g H D (f a m) := by
  cases o with
  | none => exact h.elim
  | some a => exact ⟨a, rfl, h⟩
theorem SatS.need {p : Prop} [Decidable p] {f : Unit → Res (Fl × Sto)} (h : SatS E B g H D (needR p f)) : p ∧ SatS E B g H D (f ()) := by
  unfold needR at h
  split at h
  · exact ⟨by assumption, h⟩
  · exact h.elim
theorem toV_okS {x : OD.D × Kd} {f : OD.D → MS → Res (Fl × Sto)} (h : SatS E B g H D (bindS S (toV x m) f)) : x.2 ≠ .bor ∧ SatS E B g H D (f x.1 m) := by
  obtain ⟨d, k⟩ := x
  cases k with
  | sh => exact ⟨by simp, h⟩
  | own => exact ⟨by simp, h⟩
  | bor => exact h.elim
theorem SatS.then {r : Res (Fl × Sto)} {f : Sto → MS → Res (Fl × Sto)} (h : SatS E B g H D (thenS r f)) : SatS E B g H { D with nx := fun σ' H' => ∃ g' S' m', FX g g' H H' ∧ BI E.W B g' H' S' m' σ' ∧ SatS E B g' H' D (f S' m') } r := by
  match r, h with
  | .ok (.nx, S') m', h => exact fun g' H' σ' x b => ⟨g', S', m', x, b, SatS.fx h x⟩
  | .ok (.rt d k, _) m', h => exact h
  | .ok (.xc c fs, S') m', h => exact h

/-! ### rules -/
variable {e e1 e2 : Expr} {sts rest : List Stmt} {st : Stmt} {a t u c tg it : T} {pos pos' : Pos}
theorem ss_skip : PSs X [] (TSo E B .skip) := pss_nil.imp fun D σ H ⟨g, S, m, b, h⟩ => by
  simp only [evS] at h
  exact h g H σ .refl b
theorem ss_pass : PS X (.Pass pos) (TSo E B .skip) := ps_pass.imp fun D σ H ⟨g, S, m, b, h⟩ => by
  simp only [evS] at h
  exact h g H σ .refl b
theorem ss_doc {x : Str} {j : Nat} : PS X (.Expr (.Constant (.str x) j pos) pos') (TSo E B .skip) := ps_doc.imp fun D σ H ⟨g, S, m, b, h⟩ => by
  simp only [evS] at h
  exact h g H σ .refl b
theorem ss_seq (h1 : PS X st (TSo E B t)) (h2 : PSs X rest (TSo E B u)) : PSs X (st :: rest) (TSo E B (.seq t u)) := by
  refine (pss_cons h1 h2).imp fun D σ H ⟨g, S, m, b, h⟩ => ?_
  simp only [evS] at h
  refine ⟨g, S, m, b, ?_⟩
  have h := SatS.then h
  generalize evS E.gl E.cf t S m = r at h ⊢
  match r, h with
  | .ok (.nx, S') m', h =>
    intro g' H' σ' x b'
    obtain ⟨g2, S2, m2, _, b2, s2⟩ := h g' H' σ' x b'
    exact ⟨g2, S2, m2, b2, s2⟩
  | .ok (.rt d k, _) m', h => exact h
  | .ok (.xc c fs, S') m', h => exact h
theorem ss_one (h : PS X st (TSo E B t)) : PSs X [st] (TSo E B t) := pss_one h
/-- ahead of a suite a dict may be frozen -/
theorem pss_lock (h : PSs X sts (TSo E B t)) : PSs X sts (fun D σ H => TSo E B t D σ H ∨ ∃ d u, H d = some u ∧ Mut (some u) ∧ ∀ od, TSo E B t D σ (upd H d (.frz od u))) := ⟨fun pins s σ H D I q => by
  rcases q with q | ⟨d, u, e1, e2, q⟩
  · exact h.run pins s σ H D I q
  · obtain ⟨od, I2⟩ := I.lock e1 e2
    exact h.run pins s σ _ D I2 (q od)⟩
/-- a mark that what a name owns never changes any more -/
theorem ss_shr {i : Nat} (h : PSs X sts (TSo E B t)) : PSs X sts (TSo E B (.seq (.shr i) t)) := (pss_lock h).imp fun D σ H ⟨g, S, m, b, h⟩ => by
  simp only [evS] at h
  split at h
  · rename_i d k hg
    have h : SatS E B g H D (evS E.gl E.cf t (S.set i (some (d, false))) m) := h
    by_cases hl : k = true → ∃ es, d = .lst es
    · obtain ⟨g', fx, b'⟩ := b.shr hg hl
      exact .inl ⟨g', _, m, b', SatS.fx h fx⟩
    · cases k with
      | false => exact absurd (fun z => by cases z) hl
      | true =>
        obtain ⟨a, u, _, _, c, _⟩ := b.ownedC hg
        cases c with
        | lst _ => exact absurd (fun _ => ⟨_, rfl⟩) hl
        | @dct c ks =>
          obtain ⟨a, e3, fin⟩ := b.lock hg
          refine .inr ⟨a, _, e3, by cases c <;> exact True.intro, fun od => ?_⟩
          obtain ⟨fx, b'⟩ := fin od
          exact ⟨g, _, m, b', SatS.fx h fx⟩
  · exact h.elim
theorem ss_opn {i : Nat} (h : PSs X sts (TSo E B t)) : PSs X sts (TSo E B (.seq (.opn i) t)) := h.imp fun D σ H ⟨g, S, m, b, h⟩ => by
  simp only [evS] at h
  split at h
  · rename_i ds hg
    obtain ⟨a, fx, b'⟩ := b.opn hg
    exact ⟨_, _, _, b', SatS.fx (show SatS E B g H D (evS E.gl E.cf t _ _) from h) fx⟩
  · exact h.elim
/-! a dict that a name owns -/
theorem ss_dnw {i : Nat} {x : Str} {c : Bool} {dp : Pos} (hN : X.N.Nodup) (hi : X.N[i]? = some x) (hx : Loc X.env.scope x) (hf : X.fn x = true ∨ X.env.scope.names.lookup x = some .local) (hs : swapsWith (.Dict [] [] dp) (some (.Name x pos')) pos.line X.env = pure false) :
    PS X (.Assign [.Name x pos'] (.Dict [] [] dp) pos) (TSo E B (.dnw i c)) := by
  have rule : ∃ te : TE, PE X (.Dict [] [] dp) te ∧ ∀ σ H Q, (∀ p, H p = none → Q (V.ref p) (upd H p (dkO c []))) → te σ H Q := by
    cases c with
    | true => exact ⟨_, pe_dnewT, fun _ _ _ q => q⟩
    | false => exact ⟨_, pe_dnewK, fun _ _ _ q => q⟩
  obtain ⟨te, h1, h2⟩ := rule
  refine (ps_set hN hi hx h1 hs hf).imp fun D σ H ⟨g, S, m, b, h⟩ => h2 _ _ _ fun p hp => ?_
  simp only [evS] at h
  have x2 := ext_new (P := PO B S σ) (w := m.w) (o := dkO c []) hp b.st.ok
  have b2 := b.go x2 (gok_new hp b.st.ok)
  exact h g _ _ (x2.fx b.st.ok) (b2.takeC upd_same .dct (b.st.ok.nofz hp) (b.st.ok.noρ hp) (b.ext.none hp) fun o => (b.st.dom p (.inr o)).1 hp)
theorem put_I {ks : List (List Int)} {k : List Int} : putK (kvI ks) (Sum.inl (k.headD 0) : Key) (.bl true) = kvI (addK false ks k) := by
  unfold putK addK
  have e := has_I (ks := ks) (k := k)
  rw [← valV_any] at e
  rw [e]
  cases hasK false ks k with
  | false => rw [if_neg Bool.false_ne_true]; unfold kvI; rw [List.map_append]; rfl
  | true =>
    rw [if_pos rfl]
    unfold kvI
    rw [List.map_map]
    refine List.map_congr_left fun j _ => ?_
    show (if (Sum.inl (j.headD 0) : Key) = _ then _ else _) = _
    split <;> rfl
theorem put_T {ks : List (List Int)} {k : List Int} : putK (kvT ks) (k.map (Sum.inl (β := Str))) (.bl true) = kvT (addK true ks k) := by
  unfold putK addK
  have e := has_T (ks := ks) (k := k)
  rw [← valV_any] at e
  rw [e]
  cases hasK true ks k with
  | false => rw [if_neg Bool.false_ne_true]; unfold kvT; rw [List.map_append]; rfl
  | true =>
    rw [if_pos rfl]
    unfold kvT
    rw [List.map_map]
    refine List.map_congr_left fun j _ => ?_
    show (if j.map (Sum.inl (β := Str)) = _ then _ else _) = _
    split <;> rfl
theorem ss_dst {i : Nat} {x : Str} {ke : Expr} {npos bp : Pos} {j : Nat} (hu : X.A.units + 1 < cLine) (hN : X.N[i]? = some x) (hv : Vis X.env.scope x) (hd : (x == ("__debug__" : Str)) = false) (hcd : (x == ("__classdict__" : Str)) = false) (ha : PE X ke (TEo E a)) (hs : swapsWith (.Constant (.bool true) j bp) (some (.Subscript (.Name x npos) ke pos')) pos.line X.env = pure false) :
    PS X (.Assign [.Subscript (.Name x npos) ke pos'] (.Constant (.bool true) j bp) pos) (TSo E B (.dst i a)) := by
  refine (ps_dput hu (pe_var hN hv hd hcd) ha pe_bl hs).imp fun D σ H ⟨g, S, m, b, h⟩ => ?_
  simp only [evS] at h
  split at h
  · rename_i ks hg
    obtain ⟨p, u, e2, e3, e4, o, hf, hr, hB, hP⟩ := b.ownedC hg
    cases e4
    refine ⟨_, getD_some e2, _, g, S, m, b.st, (SatS.bind b h).mono fun y m1 g1 H1 x1 k1 ⟨b1, h1⟩ v hv => ?_⟩
    obtain ⟨k, hk, h1⟩ := SatS.opt h1
    obtain ⟨hl, h1⟩ := SatS.need h1
    have e3' : H1 p = some (.dK (kvI ks)) := x1.keep p _ e3 hr
    have kx : v = .int (k.headD 0) := keyL_ok hk hv.weak
    obtain ⟨fx, b3⟩ := b1.putC hg e2 (Ct.dct (b := false) (ks := addK false ks k))
    have put := DPut.k (k := (Sum.inl (k.headD 0) : Key)) (v := V.bl true) e3' (by unfold kvI; rw [List.length_map]; exact hl)
    rw [put_I] at put
    exact ⟨p, _, rfl, by rw [kx]; exact put, h1 g1 _ σ fx b3⟩
  · exact h.elim
theorem ss_dtt {i : Nat} {x : Str} {es : List Expr} {npos bp tp : Pos} {j jt : Nat} (hu : X.A.units + 1 < cLine) (hN : X.N[i]? = some x) (hv : Vis X.env.scope x) (hd : (x == ("__debug__" : Str)) = false) (hcd : (x == ("__classdict__" : Str)) = false) (ha : PA X es (TAo E a)) (hs : swapsWith (.Constant (.bool true) j bp) (some (.Subscript (.Name x npos) (.Tuple es jt tp) pos')) pos.line X.env = pure false) :
    PS X (.Assign [.Subscript (.Name x npos) (.Tuple es jt tp) pos'] (.Constant (.bool true) j bp) pos) (TSo E B (.dtt i a)) := by
  refine (ps_dput hu (pe_var hN hv hd hcd) (pe_tup ha) pe_bl hs).imp fun D σ H ⟨g, S, m, b, h⟩ => ?_
  simp only [evS] at h
  split at h
  · rename_i ks hg
    obtain ⟨p, u, e2, e3, e4, o, hf, hr, hB, hP⟩ := b.ownedC hg
    cases e4
    refine ⟨_, getD_some e2, _, g, S, m, b.st, (SatS.bind b h).mono fun ds m1 g1 H1 x1 k1 ⟨b1, h1⟩ vs hv => ?_⟩
    obtain ⟨k, hk, h1⟩ := SatS.opt h1
    obtain ⟨⟨hl, hl2⟩, h1⟩ := SatS.need h1
    have kx := hv.of_ints hk
    refine ⟨by rw [← hv.length]; exact hl2, fun q hq => ?_⟩
    have x2 := ext_new (P := PO B S σ) (w := m1.w) (o := .tup vs) hq k1
    have b2 := b1.go x2 (gok_new hq k1)
    have e3' : upd H1 q (.tup vs) p = some (.dT (kvT ks)) := x2.keep p _ (x1.keep p _ e3 hr) (b1.st.dom p (.inr o)).2.2
    obtain ⟨fx, b3⟩ := b2.putC hg e2 (Ct.dct (b := true) (ks := addK true ks k))
    have put := DPut.t (k := k.map (Sum.inl (β := Str))) (b := q) (v := V.bl true) e3' (by rw [map_inl, ← kx]; exact upd_same) (by unfold kvT; rw [List.length_map]; exact hl)
    rw [put_T] at put
    exact ⟨p, _, rfl, put, h1 g1 _ σ ((x2.fx k1).trans fx) b3⟩
  · exact h.elim
/-- a target gets a value -/
theorem tgt_ok {tg : T} {x : OD.D × Kd} {v : V} {Hb : Hp} {S' : Sto} (b : BI E.W B g H S m σ) (r : RV E.W Hb g H x v) (hb : ∀ a, Own S σ a → Hb a ≠ none) (hB : ∀ a, B.H a ≠ none → Hb a ≠ none) (h : tgT tg x.1 x.2 S = some S')
    (hs : SatS E B g H D (.ok (.nx, S') m)) : gT E.W.K tg v σ H D.nx := by
  obtain ⟨d, k⟩ := x
  cases k with
  | sh =>
    obtain ⟨σ', f, q⟩ := tgT_ok h r b.st.len
    exact q _ (hs g H σ' .refl (b.fill f))
  | bor =>
    obtain ⟨ds, a, vs, e1, _⟩ := r
    have e1 : d = .lst ds := e1
    subst e1
    cases tg <;> simp [tgT] at h
  | own =>
    obtain ⟨ds, a, vs, e1, rfl, e3, e4, e5, e6, e7⟩ := r
    have e1 : d = .lst ds := e1
    subst e1
    cases tg <;> simp [tgT] at h
    rename_i i
    subst h
    rw [gT]
    refine hs g H _ .refl (b.take e3 e4 e5 e6 ?_ fun o => hb a o e7)
    cases q : B.H a with
    | none => rfl
    | some o => exact absurd e7 (hB a (by rw [q]; simp))
theorem asg_ok {tg : T} {x : OD.D × Kd} {v : V} {H0 : Hp} (b0 : BI E.W B g' H0 S m' σ) (hx : ∀ a, H0 a ≠ none → H a ≠ none) (b : BI E.W B g H S m σ) (r : RV E.W H0 g H x v) (hs : SatS E B g H D (bindS S (optR (tgT tg x.1 x.2 S) m) fun S1 m2 => .ok (.nx, S1) m2)) : gT E.W.K tg v σ H D.nx := by
  obtain ⟨S', h1, h2⟩ := SatS.opt hs
  exact tgt_ok b r (fun a o => (b0.st.dom a (.inr o)).1) b0.ext.live h1 h2
theorem asg_read {te : TE} (σ : L2.St) (H : Hp) (D : Ends) (ht : ∀ Q, TEo E a σ H Q → te σ H Q) (h : TSo E B (.asg tg a) D σ H) : tAsg te (gT E.W.K tg) D σ H := by
  obtain ⟨g, S, m, b, h⟩ := h
  simp only [evS] at h
  refine ht _ ⟨_, g, S, m, b.st, (SatS.bind b h).mono fun x m1 g1 H1 x1 k1 ⟨b1, h1⟩ v hv => ?_⟩
  exact asg_ok b x1.live b1 hv h1
theorem ss_asg {tge : Expr} (ha : PE X e (TEo E a)) (hg : PG X tge (gT E.W.K tg)) (hs : swapsWithSole [tge] e pos.line X.env = pure false) (hw : swappedStores [tge] e X.env = pure none) (h1 : (assignEach [tge] X.env).map (·.2) = [assign tge X.env]) :
    PS X (.Assign [tge] e pos) (TSo E B (.asg tg a)) := (ps_asg ha hg hs hw h1).imp fun D σ H h => asg_read σ H D (fun _ q => q) h
theorem ss_set {i : Nat} {x : Str} (hN : X.N.Nodup) (hi : X.N[i]? = some x) (hx : Loc X.env.scope x) (ha : PE X e (TEo E a)) (hs : swapsWith e (some (.Name x pos')) pos.line X.env = pure false) (hf : X.fn x = true ∨ X.env.scope.names.lookup x = some .local) :
    PS X (.Assign [.Name x pos'] e pos) (TSo E B (.asg (.tn i) a)) := (ps_set hN hi hx ha hs hf).imp fun D σ H h => by
  have := asg_read σ H D (te := TEo E a) (fun _ q => q) h
  rw [gT] at this
  exact this
theorem ss_setc {i : Nat} {te : TE} (hp : PS X st (tAsg te (gName i))) (ht : ∀ σ H Q, TEo E a σ H Q → te σ H Q) : PS X st (TSo E B (.asgc i a)) := hp.imp fun D σ H h => by
  have h : TSo E B (.asg (.tn i) a) D σ H := by
    obtain ⟨g, S, m, b, h⟩ := h
    simp only [evS] at h
    exact ⟨g, S, m, b, by simp only [evS]; exact h⟩
  have := asg_read σ H D (te := te) (ht σ H) h
  rw [gT] at this
  exact this
theorem ss_par {i j : Nat} {x y : Str} {a b : T} {px py pt : Pos} {kt k2 : Nat} {pt2 : Pos} (hp : PS X st (tPar i j (TAo E (.cons a (.cons b .nil))))) : PS X st (TSo E B (.par i j a b)) := hp.imp fun D σ H ⟨g, S, m, b0, h⟩ => by
  simp only [evS] at h
  refine ⟨_, g, S, m, b0.st, (SatS.bind b0 h).mono fun ds m1 g1 H1 x1 k1 ⟨b1, h1⟩ vs hv => ?_⟩
  split at h1
  · cases hv with
    | cons r1 t1 =>
      cases t1 with
      | cons r2 t2 =>
        cases t2
        refine ⟨_, _, rfl, ?_⟩
        have f1 := Fill.one (W := E.W) (g := g1) (H := H1) (i := i) b1.st.len r1
        have b2 := b1.fill f1
        have f2 := Fill.one (W := E.W) (g := g1) (H := H1) (i := j) b2.st.len r2
        exact h1 g1 H1 _ .refl (b2.fill f2)
  · exact h1.elim
theorem ss_ret (ha : PE X e (TEo E a)) : PS X (.Return (some e) pos) (TSo E B (.ret a)) := (ps_ret ha).imp fun D σ H ⟨g, S, m, b, h⟩ => by
  simp only [evS] at h
  refine ⟨_, g, S, m, b.st, (SatS.bind b h).mono fun x m1 g1 H1 x1 k1 ⟨b1, h1⟩ v hv => ?_⟩
  obtain ⟨d, k⟩ := x
  cases k with
  | bor => exact h1.elim
  | sh => exact h1 g1 H1 v b1.ext k1 (hv.base b.ext.live)
  | own => exact h1 g1 H1 v b1.ext k1 (hv.base b.ext.live)
theorem ss_retm {i : Nat} {x : Str} (hN : X.N[i]? = some x) (hv : Vis X.env.scope x) (hd : (x == ("__debug__" : Str)) = false) (hcd : (x == ("__classdict__" : Str)) = false) : PS X (.Return (some (.Name x pos')) pos) (TSo E B (.retm i)) := (ps_ret (pe_var hN hv hd hcd)).imp fun D σ H ⟨g, S, m, b, h⟩ => by
  simp only [evS] at h
  split at h
  · rename_i d hg
    obtain ⟨ds, a, vs, e1, e2, e3, e4, o, hf, hr, hB, hP⟩ := b.owned hg
    cases e1
    exact ⟨.ref a, getD_some e2, h g H _ b.ext b.st.ok ⟨_, a, vs, rfl, rfl, e3, e4, hf, hr, hB⟩⟩
  · exact h.elim
theorem ss_retn : PS X (.Return none pos) (TSo E B .retn) := ps_retN.imp fun D σ H ⟨g, S, m, b, h⟩ => by
  simp only [evS] at h
  exact h g H _ b.ext b.st.ok .non
theorem ss_exp (ha : PE X e (TEo E a)) (hs : swapsWith e none pos.line X.env = pure false) : PS X (.Expr e pos) (TSo E B (.exp a)) := (ps_expr ha hs).imp fun D σ H ⟨g, S, m, b, h⟩ => by
  simp only [evS] at h
  exact ⟨_, g, S, m, b.st, (SatS.bind b h).mono fun x m1 g1 H1 x1 k1 ⟨b1, h1⟩ v hv => h1 g1 H1 σ .refl b1⟩
theorem ss_if {x y : List Stmt} (hc : PT X e (TBo E c)) (ha : PSs X x (TSo E B t)) (hb : PSs X y (TSo E B u)) : PS X (.If e x y pos) (TSo E B (.iff c t u)) := (ps_if hc ha hb).imp fun D σ H ⟨g, S, m, b, h⟩ => by
  simp only [evS] at h
  refine ⟨_, g, S, m, b.st, (SatS.bind b h).mono fun k m1 g1 H1 x1 k1 ⟨b1, h1⟩ => ?_⟩
  cases k with
  | true => exact ⟨g1, S, m1, b1, h1⟩
  | false => exact ⟨g1, S, m1, b1, h1⟩
/-- a list that a name owns gets one item more -/
theorem ss_app {i : Nat} {x : Str} {apos cpos npos : Pos} (hN : X.N[i]? = some x) (hv : Vis X.env.scope x) (hd : (x == ("__debug__" : Str)) = false) (hcd : (x == ("__classdict__" : Str)) = false) (ha : PE X e (TEo E a)) (hns : noStar e = true)
    (hline : (apos.endLine == cpos.line) = true) (hs : swapsWith (.Call (.Attribute (.Name x npos) "append" apos) [e] [] cpos) none pos.line X.env = pure false)
    (hbase : attributeBase (.Name x npos) "append" X.env (eval (.Name x npos) X.env) = eval (.Name x npos) X.env)
    (hfew : ((backTo cpos (starEach [e] X.env)).all (fun x => !x.1) && (backToKw cpos (keywordEach [] X.env)).all (fun x => x.1.isSome)
      && decide ([e].length + ([] : List Keyword).length + (if ([] : List Keyword).isEmpty then 0 else 1) < 30)) = true) :
    PS X (.Expr (.Call (.Attribute (.Name x npos) "append" apos) [e] [] cpos) pos) (TSo E B (.app i a)) := by
  have s1 := starEach_cons (es := []) (env := X.env) hns
  refine (ps_expr (pe_bm PySem.F.plainAttrs_list PySem.F.slot_list_append PySem.F.type_list_append mt_append (pe_var hN hv hd hcd) (pa_cons ha pa_nil s1) hbase hfew hline s1 rfl) hs).imp fun D σ H ⟨g, S, m, b, h⟩ => ?_
  simp only [evS] at h
  split at h
  · rename_i ds hg
    obtain ⟨ds', p, vs, e1, e2, e3, e4, o, hf, hr, hB, hP⟩ := b.owned hg
    cases e1
    refine ⟨_, getD_some e2, .inl ⟨rfl, vs, .of e3⟩, ?_⟩
    refine ⟨_, g, S, m, b.st, (SatS.bind b h).mono fun y m1 g1 H1 x1 k1 ⟨b1, h1⟩ v hv => ?_⟩
    obtain ⟨hk, h1⟩ := toV_okS h1
    obtain ⟨hl, h1⟩ := SatS.need h1
    obtain ⟨g2, x2, k2, r2⟩ := hv.keep (P := PO B S σ) (w := m1.w) k1 (fun a p => (b.st.dom a p).1) hk
    have b2 := b1.go x2 k2
    have e3' : H1 p = some (.lst vs) := x1.keep p _ e3 hr
    have e4' : RelDs E.W g2 H1 ds vs := (e4.ext x1 b.st.ok).ext x2 k1
    obtain ⟨fx, b3⟩ := b2.put hg e2 (e4'.append (.cons r2 .nil))
    exact ⟨p, vs, v, rfl, rfl, e3', by rw [← e4.length]; exact hl, h1 g2 _ σ ((x2.fx k1).trans fx) b3⟩
  · exact h.elim
/-- a list that a name owns gets an item at a place -/
theorem ss_inz {i : Nat} {x : Str} {apos cpos npos : Pos} (hN : X.N[i]? = some x) (hv : Vis X.env.scope x) (hd : (x == ("__debug__" : Str)) = false) (hcd : (x == ("__classdict__" : Str)) = false) (ha : PA X [e1, e2] (TAo E a)) (hns : noStar e1 = true) (hns2 : noStar e2 = true)
    (hline : (apos.endLine == cpos.line) = true) (hs : swapsWith (.Call (.Attribute (.Name x npos) "insert" apos) [e1, e2] [] cpos) none pos.line X.env = pure false)
    (hbase : attributeBase (.Name x npos) "insert" X.env (eval (.Name x npos) X.env) = eval (.Name x npos) X.env)
    (hfew : ((backTo cpos (starEach [e1, e2] X.env)).all (fun x => !x.1) && (backToKw cpos (keywordEach [] X.env)).all (fun x => x.1.isSome)
      && decide ([e1, e2].length + ([] : List Keyword).length + (if ([] : List Keyword).isEmpty then 0 else 1) < 30)) = true) :
    PS X (.Expr (.Call (.Attribute (.Name x npos) "insert" apos) [e1, e2] [] cpos) pos) (TSo E B (.inz i a)) := by
  have s1 := starEach_cons (es := [e2]) (env := X.env) hns
  have s2 := starEach_cons (es := []) (env := X.env) hns2
  refine (ps_expr (pe_bm PySem.F.plainAttrs_list PySem.F.slot_list_insert PySem.F.type_list_insert mt_insert (pe_var hN hv hd hcd) ha hbase hfew hline s1 (by rw [s2]; rfl)) hs).imp fun D σ H ⟨g, S, m, b, h⟩ => ?_
  simp only [evS] at h
  split at h
  · rename_i ds hg
    obtain ⟨ds', p, vs, q1, e2, e3, e4, o, hf, hr, hB, hP⟩ := b.owned hg
    cases q1
    refine ⟨_, getD_some e2, .inl ⟨rfl, vs, .of e3⟩, ?_⟩
    refine ⟨_, g, S, m, b.st, (SatS.bind b h).mono fun xs m1 g1 H1 x1 k1 ⟨b1, h1⟩ us hv => ?_⟩
    split at h1
    · rename_i j v _
      obtain ⟨⟨hl, j0, j1⟩, h1⟩ := SatS.need h1
      cases hv with
      | cons r1 t1 =>
      cases t1 with
      | cons r2 t2 =>
      cases t2
      cases r1
      have e3' : H1 p = some (.lst vs) := x1.keep p _ e3 hr
      have e4' : RelDs E.W g1 H1 ds vs := e4.ext x1 b.st.ok
      obtain ⟨fx, b3⟩ := b1.put hg e2 (((e4'.take j.toNat).append (.cons r2 .nil)).append (e4'.drop j.toNat))
      exact ⟨p, vs, j, _, rfl, rfl, e3', by rw [← e4.length]; exact hl, j0, j1, h1 g1 _ σ fx b3⟩
    · exact h1.elim
  · exact h.elim
/-- a list of the store gets one item more -/
theorem ss_oap {i : Nat} {x : Str} {apos cpos npos : Pos} (hN : X.N[i]? = some x) (hv : Vis X.env.scope x) (hd : (x == ("__debug__" : Str)) = false) (hcd : (x == ("__classdict__" : Str)) = false) (ha : PE X e (TEo E a)) (hns : noStar e = true)
    (hline : (apos.endLine == cpos.line) = true) (hs : swapsWith (.Call (.Attribute (.Name x npos) "append" apos) [e] [] cpos) none pos.line X.env = pure false)
    (hbase : attributeBase (.Name x npos) "append" X.env (eval (.Name x npos) X.env) = eval (.Name x npos) X.env)
    (hfew : ((backTo cpos (starEach [e] X.env)).all (fun x => !x.1) && (backToKw cpos (keywordEach [] X.env)).all (fun x => x.1.isSome)
      && decide ([e].length + ([] : List Keyword).length + (if ([] : List Keyword).isEmpty then 0 else 1) < 30)) = true) :
    PS X (.Expr (.Call (.Attribute (.Name x npos) "append" apos) [e] [] cpos) pos) (TSo E B (.oap i a)) := by
  have s1 := starEach_cons (es := []) (env := X.env) hns
  refine (ps_expr (pe_bm PySem.F.plainAttrs_list PySem.F.slot_list_append PySem.F.type_list_append mt_append (pe_var hN hv hd hcd) (pa_cons ha pa_nil s1) hbase hfew hline s1 rfl) hs).imp fun D σ H ⟨g, S, m, b, h⟩ => ?_
  simp only [evS] at h
  split at h
  · rename_i n hg
    have sl := b.st.slot i
    rw [hg] at sl
    obtain ⟨_, e2, rn⟩ := sl
    cases rn with
    | @ref _ p rn =>
    -- the thing is there already: the store only grows
    have ln : n < m.objs.length := by rw [← b.st.ok.len]; exact (List.getElem?_eq_some_iff.mp rn).1
    have hm : m.objs[n]? = some m.objs[n] := List.getElem?_eq_getElem ln
    obtain ⟨us0, e3⟩ : ∃ us, H p = some (.lst us) := b.st.ok.mut (List.mem_of_getElem? rn)
    refine ⟨_, getD_some e2, .inl ⟨rfl, us0, .of e3⟩, ?_⟩
    refine ⟨_, g, S, m, b.st, (SatS.bind b h).mono fun y m1 g1 H1 x1 k1 ⟨b1, h1⟩ v hv => ?_⟩
    obtain ⟨hk, h1⟩ := toV_okS h1
    obtain ⟨g2, x2, k2, r2⟩ := hv.keep (P := PO B S σ) (w := m1.w) k1 (fun a p => (b.st.dom a p).1) hk
    have b2 := b1.go x2 k2
    have h1 := SatS.fx h1 (x2.fx k1)
    split at h1
    · rename_i ds hds
      obtain ⟨hl, h1⟩ := SatS.need h1
      have rw' : RW E.W g2 H1 (.ref n) (.ref p) := (RW.ext x2 k1 (RW.ext x1 b.st.ok (.inl (.ref rn))))
      obtain ⟨p', vs, e4, e5, e6, e7⟩ := rw'.refO k2 hds
      cases e4
      have x5 : Ext (PO B S σ) g2 g2 H1 (upd H1 p (.lst (vs ++ [v]))) m1.w (m1.w + 1) := ext_set e5
      exact ⟨p, vs, v, rfl, rfl, e6, by rw [← e7.length]; exact hl, h1 g2 _ σ (x5.fx k2) (b2.go x5 (gok_set k2 e5 (e7.append (.cons r2 .nil))))⟩
    · exact h1.elim
  · exact h.elim
/-! a list gets the items of another -/
theorem extend_tup (l : Addr) (items : Array Value) (n : Nat) (b : Addr) (more : Array Value) (n2 : Nat) (dd : Option Addr) (sl : Array (Option Value)) (h0 : ¬ (!items.isEmpty && Builtin.List.listTooLong (items.size + more.size)) = true) (h1 : items.size ≤ sizeLine) (h2 : items.size + more.size ≤ sizeLine + 1) :
    Meets (Builtin.«list.extend» ⟨[.ref l, .ref b], []⟩) (fun _ R s => s.heap.get? l = some { cls := .type "list", dict := none, data := .seq items n, slots := #[] } ∧ s.heap.get? b = some { cls := .type "tuple", dict := dd, data := .seq more n2, slots := sl } ∧ R (.ok (.ret Value.none)) { s with heap := s.heap.update l (Obj.mapSeq fun x => x ++ more), toks := s.toks }) :=
  .of_wp fun prog w A R s h => by
    obtain ⟨hp, g, d, tk, os⟩ := s
    obtain ⟨at0, at1, h⟩ := h
    have f1 := AutoSeq1.idx_int
    have f2 := AutoSeq1.sub_tuple_tuple
    have f3 := AutoSeq1.sub_list_list
    have f4 := AutoSeq1.sub_tuple_list
    have f5 := AutoSeq1.sub_list_tuple
    have hz' : (items ++ more).size ≤ sizeLine + 1 := by rw [Array.size_append]; exact h2
    wp_walk using (wpAny_updateSeq at0 rfl (hz := h1) (_hz' := hz')), wpAny_loadPart' at0, wpAny_loadPart' at1
    exact ⟨_, rfl, h⟩
def rExt (K : PySem.W.Frag) : V → List V → Hp → VK → Prop := fun x vs H Q => rExtend x vs H Q ∨ ∃ l b xs zs, x = .ref l ∧ vs = [.ref b] ∧ H l = some (.lst xs) ∧ SqT K H b zs ∧ xs.length + zs.length ≤ sizeLine ∧ Q .non (upd H l (.lst (xs ++ zs)))
theorem mt_ext {X : Cx} : MtM X "list.extend" (rExt X.K) := by
  intro pins s σ H x vs v us Q I rx rv h
  rcases h with h | ⟨l, b, xs, zs, rfl, rfl, hH, hB, hz, q⟩
  · exact mt_extend pins s σ H x vs v us Q I rx rv h
  · cases rx
    obtain ⟨u, rfl, ru⟩ := rv.one
    cases ru
    obtain ⟨z, its, n, r, hl, e⟩ := I.lstM hH
    obtain ⟨its2, r2, ⟨⟨cls, dd, data, sl⟩, at1, hc, n2, hd⟩, hl2⟩ := I.tuple hB
    cases (show cls = _ from hc)
    cases (show data = _ from hd)
    have e1 := r.length
    have e2 := r2.length
    have size : its.toArray.size + its2.toArray.size ≤ sizeLine := by rw [List.size_toArray, List.size_toArray]; omega
    have short : ¬ (!its.toArray.isEmpty && Builtin.List.listTooLong (its.toArray.size + its2.toArray.size)) = true := by
      rw [notLongL size, Bool.and_false]
      exact Bool.false_ne_true
    refine call_meets F.slot_list_extend ⟨_, e, rfl⟩ F.entry_list_extend (F.args_list_extend_2 _ _) (extend_tup l its.toArray n b its2.toArray n2 dd sl short (by rw [List.size_toArray]; omega) (by omega)) ⟨e, at1, ?_⟩
    refine ⟨.non, _, I.lset (its' := its ++ its2) hH e (by simp) (r.append r2) ?_, rfl, q⟩
    rw [List.length_append]
    omega
theorem ss_ext {i : Nat} {x : Str} {apos cpos npos : Pos} (hK : X.K = E.W.K) (hN : X.N[i]? = some x) (hv : Vis X.env.scope x) (hd : (x == ("__debug__" : Str)) = false) (hcd : (x == ("__classdict__" : Str)) = false) (ha : PE X e (TEo E a)) (hns : noStar e = true)
    (hline : (apos.endLine == cpos.line) = true) (hs : swapsWith (.Call (.Attribute (.Name x npos) "extend" apos) [e] [] cpos) none pos.line X.env = pure false)
    (hbase : attributeBase (.Name x npos) "extend" X.env (eval (.Name x npos) X.env) = eval (.Name x npos) X.env)
    (hfew : ((backTo cpos (starEach [e] X.env)).all (fun x => !x.1) && (backToKw cpos (keywordEach [] X.env)).all (fun x => x.1.isSome)
      && decide ([e].length + ([] : List Keyword).length + (if ([] : List Keyword).isEmpty then 0 else 1) < 30)) = true) :
    PS X (.Expr (.Call (.Attribute (.Name x npos) "extend" apos) [e] [] cpos) pos) (TSo E B (.ext i a)) := by
  have s1 := starEach_cons (es := []) (env := X.env) hns
  refine (ps_expr (pe_bm PySem.F.plainAttrs_list PySem.F.slot_list_extend PySem.F.type_list_extend mt_ext (pe_var hN hv hd hcd) (pa_cons ha pa_nil s1) hbase hfew hline s1 rfl) hs).imp fun D σ H ⟨g, S, m, b, h⟩ => ?_
  simp only [evS] at h
  split at h
  · rename_i ds hg
    obtain ⟨ds', p, vs, e1, e2, e3, e4, o, hf, hr, hB, hP⟩ := b.owned hg
    cases e1
    refine ⟨_, getD_some e2, .inl ⟨rfl, vs, .of e3⟩, ?_⟩
    refine ⟨_, g, S, m, b.st, (SatS.bind b h).mono fun y m1 g1 H1 x1 k1 ⟨b1, h1⟩ v hv => ?_⟩
    obtain ⟨es, hes, h1⟩ := SatS.opt h1
    obtain ⟨hl, h1⟩ := SatS.need h1
    have e3' : H1 p = some (.lst vs) := x1.keep p _ e3 hr
    have e4' : RelDs E.W g1 H1 ds vs := e4.ext x1 b.st.ok
    have fin : ∀ us, RelDs E.W g1 H1 es us → D.nx σ (upd H1 p (.lst (vs ++ us))) := fun us r => by
      obtain ⟨fx, b3⟩ := b1.put hg e2 (e4'.append r)
      exact h1 g1 _ σ fx b3
    rw [hK]
    have l1 := e4.length
    obtain ⟨d, kk⟩ := y
    cases d with
    | lst es' =>
      cases hes
      obtain ⟨q, us, rfl, r1, r2⟩ := hv.weak.lst_
      exact .inl ⟨p, q, vs, us, rfl, rfl, e3', r1, by rw [← l1, ← r2.length]; exact hl, fin us r2⟩
    | tup es' =>
      cases hes
      obtain ⟨q, us, rfl, r1, r2⟩ := hv.weak.tup_
      exact .inr ⟨p, q, vs, us, rfl, rfl, e3', r1, by rw [← l1, ← r2.length]; exact hl, fin us r2⟩
    | _ => cases hes
  · exact h.elim
theorem pm_for {tge itE : Expr} {body : List Stmt} (hp : PassesOwn (model X.prog X.w) X.A X.env X.xe) (hc : X.calm = true) (hi : PI X tge itE (TIo E it)) (hg : PG X tge (gT E.W.K tg)) (hb : PSs X body (TSo E B t)) (hs : ∀ x, foldedSetIterable itE X.env x = pure x) :
    PS X (.For tge itE body [] pos) (TSo E B (.for_ tg it t)) := (ps_for hp hc hi hg hb hs).imp fun D σ H ⟨g, S, m, b, h⟩ => by
  simp only [evS] at h
  refine ⟨_, g, S, m, b.st, (SatS.bind b h).mono fun ds m1 g1 H1 x1 k1 ⟨b1, h1⟩ hl J wk => ?_⟩
  generalize hf : (fun d S m => bindS S (optR (tgT tg d .sh S) m) fun S1 m1 => evS E.gl E.cf t S1 m1) = f at h1
  generalize hr0 : loopR f ds S m1 = r0 at h1
  refine ⟨fun i k σ' H' => ∃ g' S' m', k = ds.length - i ∧ i ≤ ds.length ∧ loopR f (ds.drop i) S' m' = r0 ∧ FX g1 g' H1 H' ∧ BI E.W B g' H' S' m' σ', ⟨ds.length, g1, S, m1, by simp, by simp, by simpa using hr0, .refl, b1⟩, ?_⟩
  rintro i k σ2 H2 ⟨g2, S2, m2, rfl, hi, hr, fx, b2⟩
  have h2 := SatS.fx h1 fx
  by_cases hlt : i < ds.length
  · obtain ⟨d, hd⟩ : ∃ d, ds[i]? = some d := ⟨_, List.getElem?_eq_getElem hlt⟩
    have hdr : ds.drop i = d :: ds.drop (i + 1) := by
      rw [List.drop_eq_getElem_cons hlt]
      congr 1
      exact Option.some.inj ((List.getElem?_eq_getElem hlt).symm.trans hd)
    rw [hdr, loopR] at hr
    refine .inr ⟨wk.goes i g2 H2 fx hlt, fun σ' H' => ∃ k', k' < ds.length - i ∧ _, fun σ' H' z => z, fun x Hy y => ?_⟩
    obtain ⟨d', hd', hy, ky, rd⟩ := wk.yields i g2 H2 m2 x Hy fx b2.st.ok hlt y
    rw [hd] at hd'
    cases hd'
    have by_ := b2.go (hy _ _) ky
    have fy : FX g2 g2 H2 Hy := (hy (fun _ => False) 0).fx b2.st.ok
    rw [← hr] at h2
    have h3 := SatS.fx (SatS.then h2) fy
    subst hf
    obtain ⟨S3, e3, h4⟩ := SatS.opt h3
    obtain ⟨σ3, fl, q⟩ := tgT_ok (W := E.W) (g := g2) (H := Hy) e3 rd by_.st.len
    refine q _ ⟨g2, S3, m2, by_.fill fl, ?_⟩
    generalize hr3 : evS E.gl E.cf t S3 m2 = r3 at h4
    have hr : thenS r3 (fun S1 m1 => loopR (fun d S m => bindS S (optR (tgT tg d .sh S) m) fun S1 m1 => evS E.gl E.cf t S1 m1) (ds.drop (i + 1)) S1 m1) = r0 := by
      rw [← hr, ← hr3]
      show _ = thenS (bindS S2 (optR (tgT tg d .sh S2) m2) fun S1 m1 => evS E.gl E.cf t S1 m1) _
      rw [e3]; rfl
    match r3, h4, hr with
    | .ok (.nx, S') m', h4, hr => exact fun g' H' σ' x b' => ⟨ds.length - (i + 1), by omega, g', S', m', rfl, hlt, hr, (fx.trans fy).trans x, b'⟩
    | .ok (.rt d k, _) m', h4, hr => exact h4
    | .ok (.xc c fs, S') m', h4, hr => exact h4
  · have ei : i = ds.length := by omega
    subst ei
    rw [List.drop_length, loopR] at hr
    rw [← hr] at h2
    exact .inl ⟨wk.stops g2 H2 fx, h2 g2 H2 σ2 .refl b2⟩
end
end OD

set_option Elab.async false
set_option autoImplicit false
set_option linter.all false
set_option maxRecDepth 100000
set_option maxHeartbeats 8000000
/-! My own layer, part 9b: raise, try with except clauses. -/
namespace OD
open PySem PySem.Spec PyProof.Rows L2
/-! ### into an except suite and out of it -/
def Wd.su (W : Wd) (x : Addr × Nat × Addr) : Wd := { W with xv := some x }
section
variable {W : Wd} {g : Gh} {H : Hp} {x : Addr × Nat × Addr} {m : MS}
mutual
theorem RelD.into (n : W.xv = none) : ∀ {d : D} {v : V}, RelD W g H d v → RelD (W.su x) g H d v
  | _, _, .non => .non
  | _, _, .bl b => .bl b
  | _, _, .int i => .int i
  | _, _, .str s => .str s
  | _, _, .tup h r => .tup h (RelDs.into n r)
  | _, _, .lst h f r => .lst h f (RelDs.into n r)
  | _, _, .scr h => .scr h
  | _, _, .ref h => .ref h
  | _, _, .fn h => .fn h
  | _, _, .cls h => .cls h
  | _, _, .ins h c f e r => .ins h c f e (RelDs.into n r)
  | _, _, .exv e _ _ _ => by rw [n] at e; cases e
  | _, _, .dct h => .dct h
theorem RelDs.into (n : W.xv = none) : ∀ {ds : List D} {vs : List V}, RelDs W g H ds vs → RelDs (W.su x) g H ds vs
  | _, _, .nil => .nil
  | _, _, .cons r t => .cons (RelD.into n r) (RelDs.into n t)
end
mutual
theorem RelD.outof : ∀ {d : D} {v : V}, cln d = true → RelD (W.su x) g H d v → RelD W g H d v
  | _, _, _, .non => .non
  | _, _, _, .bl b => .bl b
  | _, _, _, .int i => .int i
  | _, _, _, .str s => .str s
  | _, _, k, .tup h r => .tup h (RelDs.outof (by simpa only [cln] using k) r)
  | _, _, k, .lst h f r => .lst h f (RelDs.outof (by simpa only [cln] using k) r)
  | _, _, _, .scr h => .scr h
  | _, _, _, .ref h => .ref h
  | _, _, _, .fn h => .fn h
  | _, _, _, .cls h => .cls h
  | _, _, k, .ins h c f e r => .ins h c f e (RelDs.outof (by simpa only [cln] using k) r)
  | _, _, k, .exv _ _ _ _ => by simp [cln] at k
  | _, _, _, .dct h => .dct h
theorem RelDs.outof : ∀ {ds : List D} {vs : List V}, clns ds = true → RelDs (W.su x) g H ds vs → RelDs W g H ds vs
  | _, _, _, .nil => .nil
  | _, _, k, .cons r t => by
    simp only [clns, Bool.and_eq_true] at k
    exact .cons (RelD.outof k.1 r) (RelDs.outof k.2 t)
end
theorem GOk.into (n : W.xv = none) (k : GOk W g H m) : GOk (W.su x) g H m where
  len := k.len
  nd := k.nd
  obj := fun i o a h1 h2 => by
    have h := k.obj i o a h1 h2
    cases o with
    | lst ds =>
      obtain ⟨vs, e, r⟩ := h
      exact ⟨vs, e, r.into n⟩
  fzd := k.fzd
end
theorem getS_str {S : Sto} (i : Nat) : getS (S.map strS) i = strS (getS S i) := by
  unfold getS
  rw [List.getD_eq_getElem?_getD, List.getD_eq_getElem?_getD, List.getElem?_map]
  cases S[i]? <;> rfl
theorem strS_no {s : Slot} {d : D} : strS s ≠ some (d, true) := by
  cases s with
  | none => exact fun h => by cases h
  | some p =>
    obtain ⟨e, b⟩ := p
    cases b with
    | false => exact fun h => by cases h
    | true => exact fun h => by cases h
def inN (o : Option Nat) (a : Addr) (σ : L2.St) : L2.St := match o with
  | some i => σ.set i (some (.ref a))
  | none => σ
def suS (o : Option Nat) (x : D) (S : Sto) : Sto := match o with
  | some i => (S.map strS).set i (some (x, false))
  | none => S.map strS
/-- the state at an except suite's begin -/
theorem BI.suite {W : Wd} {B : Bs} {g : Gh} {H : Hp} {S : Sto} {m : MS} {σ : L2.St} {a d : Addr} {c : Nat} {o : Option Nat} {fv : List (Str × V)} {fs : List D} (b : BI W B g H S m σ) (n : W.xv = none) (hd : H d = some (.xd fv)) (hk : fv.map (·.1) = W.clF c) (hr : RelDs W g H fs (fv.map (·.2))) :
    BI (W.su (a, c, d)) ⟨PO B S σ, g, H, m⟩ g H (suS o (.exv c fs) S) m (inN o a σ) := by
  have hl := b.st.len
  have get : ∀ j, (getS (suS o (.exv c fs) S) j = some (.exv c fs, false) ∧ (inN o a σ).getD j none = some (.ref a)) ∨ (getS (suS o (.exv c fs) S) j = strS (getS S j) ∧ (inN o a σ).getD j none = σ.getD j none) := fun j => by
    cases o with
    | none => exact .inr ⟨getS_str j, rfl⟩
    | some i =>
      unfold suS inN
      by_cases h : i = j ∧ i < S.length
      · left
        unfold getS
        rw [getD_set, getD_set, if_pos ⟨h.1, by simpa using h.2⟩, if_pos ⟨h.1, by omega⟩]
        exact ⟨rfl, rfl⟩
      · right
        refine ⟨?_, ?_⟩
        · unfold getS
          rw [getD_set, if_neg (fun z => h ⟨z.1, by simpa using z.2⟩)]
          exact getS_str j
        · rw [getD_set, if_neg (fun z => h ⟨z.1, by omega⟩)]
  have no : ∀ c', ¬ Own (suS o (.exv c fs) S) (inN o a σ) c' := fun c' ⟨j, e, h1, _⟩ => by
    rcases get j with ⟨h2, _⟩ | ⟨h2, _⟩
    · rw [h2] at h1; cases h1
    · rw [h2] at h1; exact strS_no h1
  refine ⟨b.st.ok.into n, b.st.dom, .refl, ⟨b.st.ok.into n, fun c' p => p.elim (b.st.dom c') fun z => absurd z (no c'), fun j => ?_, ?_⟩, fun c' z => absurd z (no c'), fun j l e e' c' h1 _ h3 _ => absurd ⟨j, e, h1, h3⟩ (no c')⟩
  · rcases get j with ⟨h1, h2⟩ | ⟨h1, h2⟩
    · rw [h1, h2]
      exact ⟨_, rfl, .exv rfl hd hk (hr.into n)⟩
    · rw [h1, h2]
      have hs := b.st.slot j
      revert hs
      cases getS S j with
      | none => exact fun _ => trivial
      | some p =>
        obtain ⟨e, k⟩ := p
        cases k with
        | false => exact fun ⟨v, h1, h2⟩ => ⟨v, h1, h2.into n⟩
        | true => exact fun _ => trivial
  · cases o with
    | none => simp [suS, inN, hl]
    | some i => simp [suS, inN, hl]
/-- what comes out of an except suite -/
theorem SatS.exit {E E' : En} {B : Bs} {g : Gh} {H : Hp} {S : Sto} {m : MS} {σ : L2.St} {D D' : Ends} {x : Addr × Nat × Addr} {r : Res (Fl × Sto)} {g0 : Gh} {H0 : Hp} (b : BI E.W B g H S m σ) (hW : E'.W = E.W.su x) (hD : D'.rt = D.rt) (h : SatS E B g0 H0 D (exitR m r)) :
    SatS E' ⟨PO B S σ, g, H, m⟩ g H D' r := by
  match r, h with
  | .ok (.nx, S') m2, h => exact h.elim
  | .ok (.rt d k, S') m2, h =>
    intro g2 H2 v xx kk hv
    rw [hW] at kk hv
    have fin : k ≠ .bor → cln d = true → m2.w = m.w → m2.objs.length = m.objs.length → SatS E B g0 H0 D (.ok (.rt d k, S') m) → D'.rt v H2 := fun h0 h1 h2 h3 h4 => by
      have x1 : Ext (PO B S σ) g g2 H H2 m.w m.w := by
        have := xx
        simp only [h2] at this
        exact this
      have hρ : g2.ρ = g.ρ := by
        obtain ⟨l, e, _⟩ := x1.rho
        have e1 := kk.len
        have e2 := b.st.ok.len
        have : l = [] := by
          have := congrArg List.length e
          rw [List.length_append] at this
          exact List.eq_nil_of_length_eq_zero (by omega)
        rw [e, this, List.append_nil]
      have k2 : GOk E.W g2 H2 m := b.st.ok.ext_same x1 hρ (fun a ha => x1.wr rfl a ha) fun a ha => .inr (by
        have := kk.fzd a ha
        rw [hρ] at this
        exact this)
      rw [hD]
      refine h4 g2 H2 v (b.ext.trans (x1.less fun a p => .inl p)) k2 ?_
      cases k with
      | sh => exact RelD.outof h1 hv
      | own =>
        obtain ⟨ds, a, vs, e1, e2, e3, e4, e5, e6, e7⟩ := hv
        have e1 : d = .lst ds := e1
        subst e1
        refine ⟨ds, a, vs, rfl, e2, e3, RelDs.outof (by simpa only [cln] using h1) e4, e5, e6, ?_⟩
        have e7 : H a = none := e7
        exact b.ext.none e7
      | bor => exact absurd rfl h0
    cases k with
    | bor => exact h.elim
    | sh =>
      have h : SatS E B g0 H0 D (needR (cln d = true ∧ m2.w = m.w ∧ m2.objs.length = m.objs.length) fun _ => .ok (.rt d .sh, S') m) := h
      obtain ⟨⟨h1, h2, h3⟩, h4⟩ := SatS.need h
      exact fin (by simp) h1 h2 h3 h4
    | own =>
      have h : SatS E B g0 H0 D (needR (cln d = true ∧ m2.w = m.w ∧ m2.objs.length = m.objs.length) fun _ => .ok (.rt d .own, S') m) := h
      obtain ⟨⟨h1, h2, h3⟩, h4⟩ := SatS.need h
      exact fin (by simp) h1 h2 h3 h4
  | .ok (.xc c fs, S') m2, h => exact h.elim
  | .exc c fs m2, h => exact h.elim
  | .bad, h => exact h.elim

/-! ### what is known of the classes of errors -/
def pwK : List Str := ["place", "word"]
structure ExI (P : Program) (w : World) (K : PySem.W.Frag) (mg : Str → Option Value) (base : Heap) (clA : Nat → Option Addr) (clF : Nat → List Str) (cls : List (Str × Str)) : Prop where
  cr : ∀ (c : Nat) (x z : Str), cls[c]? = some (x, z) → 0 < c → ∃ Ca, mg x = some (.ref Ca) ∧ clA c = some Ca ∧ ErF K Ca ∧ clF c = pwK ∧ ∃ fd, FnOk P w K mg base (L2.CX P w) 2 (He.ma K Ca "__init__") fd ["self", "place"] (spInit K Ca z) ∧ Binds K fd ["self", "place"] [] ∧ Binds K fd ["self", "place"] [.none]
  rt : ∀ (c : Nat) (x z : Str), cls[c]? = some (x, z) → ∃ Ca, mg x = some (.ref Ca)
  un : ∀ c Ca, clA c = some Ca → 0 < c ∧ ∃ x z, cls[c]? = some (x, z) ∧ mg x = some (.ref Ca)
  sub : ∀ (c y : Nat) Ca (x z : Str) Da, clA c = some Ca → cls[y]? = some (x, z) → mg x = some (.ref Da) → PySem.W.exmOne K (.ref Ca) (.ref Da) = some (subX c y) ∧ PySem.W.kitOne K (.ref Ca) (.ref Da) = some (subX c y)
  subV : ∀ (c : Nat) Ca, clA c = some Ca → PySem.W.exmOne K (.ref Ca) (.type "ValueError") = some true ∧ PySem.W.kitOne K (.ref Ca) (.type "ValueError") = some true
  ve : mg "ValueError" = none
theorem ExI.cl {P : Program} {w : World} {K : PySem.W.Frag} {mg : Str → Option Value} {base : Heap} {clA : Nat → Option Addr} {clF : Nat → List Str} {cls : List (Str × Str)} (I : ExI P w K mg base clA clF cls) {c : Nat} {Ca : Addr} (h : clA c = some Ca) : ErF K Ca ∧ clF c = pwK := by
  obtain ⟨h0, x, z, h1, h2⟩ := I.un c Ca h
  obtain ⟨Cb, h3, h4, h5, h6, _⟩ := I.cr c x z h1 h0
  rw [h] at h4
  cases h4
  exact ⟨h5, h6⟩
theorem RV.exv_ {W : Wd} {Hb H : Hp} {g : Gh} {c : Nat} {fs : List D} {k : Kd} {v : V} (r : RV W Hb g H (.exv c fs, k) v) : ∃ a d fv, v = .ref a ∧ W.xv = some (a, c, d) ∧ H d = some (.xd fv) ∧ fv.map (·.1) = W.clF c ∧ RelDs W g H fs (fv.map (·.2)) := by
  cases k with
  | sh =>
    have r : RelD W g H (.exv c fs) v := r
    cases r with
    | exv h1 h2 h3 h4 => exact ⟨_, _, _, rfl, h1, h2, h3, h4⟩
  | own =>
    obtain ⟨_, _, _, e, _⟩ := r
    cases e
  | bor =>
    obtain ⟨_, _, _, e, _⟩ := r
    cases e
section
variable {X : Cx} {E : En} {B : Bs} {e : Expr} {t : T} {a dd Ca : Addr} {oe : Obj} {pn : List (Addr × Obj)} {c j : Nat} {f x y z : Str} {p p1 p2 pos cpos : Pos}
theorem xd_two {fv : List (Str × V)} (h : fv.map (·.1) = pwK) : ∃ u v, fv = [(("place" : Str), u), (("word" : Str), v)] := by
  unfold pwK at h
  match fv, h with
  | [(k1, u), (k2, v)], h =>
    simp only [List.map_cons, List.map_nil, List.cons.injEq, and_true] at h
    obtain ⟨rfl, rfl⟩ := h
    exact ⟨u, v, rfl⟩
theorem sn_xat (hz : Zc (.ref Ca) (some dd) oe) (hf : ∃ vs, oe.data = .fields vs) (hx : E.W.xv = some (a, c, dd)) (F : ErF X.K Ca) (hk : E.W.clF c = pwK) (hj : (j = 0 ∧ f = "place") ∨ (j = 1 ∧ f = "word")) (he : PE (X.suite a ((a, oe) :: pn)) (.Name x p1) (TEo E t)) :
    PE (X.suite a ((a, oe) :: pn)) (.Attribute (.Name x p1) f pos) (TEo E (.xat j t)) := by
  refine (pe_xat hz hf he rfl).imp fun σ H Q ⟨P, g, S, m, hS, h⟩ => ?_
  simp only [evE] at h
  refine ⟨P, g, S, m, hS, h.bind.mono fun q m1 g1 H1 x1 k1 h1 v hv => ?_⟩
  obtain ⟨d, kk⟩ := q
  cases d with
  | exv c' fs =>
    obtain ⟨a', d', fv, rfl, e1, e2, e3, e4⟩ := hv.exv_
    rw [hx] at e1
    cases e1
    rw [hk] at e3
    obtain ⟨u, v, rfl⟩ := xd_two e3
    obtain ⟨o, e5, h2⟩ := (show SatR E.W P g1 H1 m1.w (E.ex σ) (optR (fs[j]?.map fun d => (d, Kd.sh)) m1) _ from h1).opt k1
    cases e4 with
    | cons r1 r2 =>
      cases r2 with
      | cons r3 r4 =>
        cases r4
        rcases hj with ⟨rfl, rfl⟩ | ⟨rfl, rfl⟩
        · cases e5
          exact ⟨rfl, Ca, dd, _, u, rfl, F.g, F.c.oex.exC, F.c.np, rfl, e2, by rfl, h2 _ r1⟩
        · cases e5
          exact ⟨rfl, Ca, dd, _, v, rfl, F.g, F.c.oex.exC, F.c.nw, rfl, e2, by rfl, h2 _ r3⟩
  | _ => exact h1.elim
theorem xis_ok {u : Value} {cv : V} (hcv : ClsV cv u) (hty : PE (X.suite a ((a, oe) :: pn)) (.Name y p2) (tC cv)) (hq : PySem.W.kitOne X.K (.ref Ca) u = some (subX c j)) (hz : Zc (.ref Ca) (some dd) oe) (hf : ∃ vs, oe.data = .fields vs) (hx : E.W.xv = some (a, c, dd)) (F : ErF X.K Ca)
    (hg : Gl X "isinstance") (hm : X.mg "isinstance" = none) (he : PE (X.suite a ((a, oe) :: pn)) e (TEo E t)) (hns : noStar e = true) :
    PE (X.suite a ((a, oe) :: pn)) (.Call (.Name "isinstance" p) [e, .Name y p2] [] pos) (TEo E (.xis j t)) := by
  refine (pe_callB (call_xis hz hf) hg hm (by decide +kernel) (pa_cons he (pa_cons hty pa_nil rfl) (starEach_cons hns)) (by decide) (by decide) (starEach_cons hns) rfl).imp fun σ H Q ⟨P, g, S, m, hS, h⟩ => ?_
  simp only [evE] at h
  refine ⟨P, g, S, m, hS, h.bind.mono fun q m1 g1 H1 x1 k1 h1 v hv => ?_⟩
  obtain ⟨d, kk⟩ := q
  cases d with
  | exv c' fs =>
    obtain ⟨a', d', fv, rfl, e1, e2, e3, e4⟩ := hv.exv_
    rw [hx] at e1
    cases e1
    exact ⟨cv, Ca, dd, fv, u, _, rfl, hcv, rfl, F.g, F.c.oex.exC, rfl, e2, hq, h1 g1 H1 .refl k1 _ (.bl _)⟩
  | _ => exact h1.elim
/-- raise X(e) -/
theorem ss_rai1 {fd : FuncData} (hc : X.calm = true) (tk : Takes X E.Wx) (F : ErF X.K Ca) (F1 : FnOk X.prog X.w X.K X.mg X.base (L2.CX X.prog X.w) 2 (He.ma X.K Ca "__init__") fd ["self", "place"] (spInit X.K Ca z)) (hr : Room 3 X.A) (hb : Binds X.K fd ["self", "place"] []) (hg : Gl X x) (hm : X.mg x = some (.ref Ca))
    (hA : E.W.clA c = some Ca) (hF : E.W.clF c = pwK) (hd : (x == ("__debug__" : Str)) = false) (ha : PE X e (TEo E t)) (hs : noStar e = true) : PS X (.Raise (some (.Call (.Name x p) [e] [] cpos)) none pos) (TSo E B (.rai c z t)) := by
  refine (ps_raise hc tk (pmk_oex (dvs := []) (ds := []) F.c.oex F.i F.t F1 hr hb .nil pass_no hg hm (pa_cons ha pa_nil (starEach_cons hs)) hd (starEach_cons hs) rfl)).imp fun D σ H ⟨g, S, m, b, h⟩ => ?_
  simp only [evS] at h
  refine ⟨_, g, S, m, b.st, (SatS.bind b h).mono fun q m1 g1 H1 x1 k1 ⟨b1, h1⟩ v hv => ?_⟩
  obtain ⟨hk, h1⟩ := toV_okS h1
  obtain ⟨g2, x2, k2, r2⟩ := hv.keep (P := PO B S σ) (w := m1.w) k1 (fun a p => (b.st.dom a p).1) hk
  have b2 := b1.go x2 k2
  refine ⟨by show 1 ≤ 1000; decide, fun a0 ha0 => sp_mk (X := X) (z := z) (C := Ca) (Q := fun cls d H' => E.Wx cls d σ H') ha0 fun d hd0 => ?_⟩
  have x3 : Ext (PO B S σ) g2 g2 H1 (upd H1 d (.xd [("place", v), ("word", .str z)])) m1.w m1.w := ext_new hd0 k2
  have k3 := gok_new (o := .xd [("place", v), ("word", .str z)]) hd0 k2
  exact h1 g2 _ σ d _ (b2.go x3 k3) upd_same (by rw [hF]; rfl) (.cons (r2.ext x3 k2) (.cons (.str z) .nil)) Ca hA
/-- raise X() -/
theorem ss_rai0 {fd : FuncData} (hc : X.calm = true) (tk : Takes X E.Wx) (F : ErF X.K Ca) (F1 : FnOk X.prog X.w X.K X.mg X.base (L2.CX X.prog X.w) 2 (He.ma X.K Ca "__init__") fd ["self", "place"] (spInit X.K Ca z)) (hr : Room 3 X.A) (hb : Binds X.K fd ["self", "place"] [.none]) (hg : Gl X x) (hm : X.mg x = some (.ref Ca))
    (hA : E.W.clA c = some Ca) (hF : E.W.clF c = pwK) (hd : (x == ("__debug__" : Str)) = false) : PS X (.Raise (some (.Call (.Name x p) [] [] cpos)) none pos) (TSo E B (.rai c z .non)) := by
  refine (ps_raise hc tk (pmk_0 F.c F.i F.t F1 hr hb (.cons rfl .nil) hg hm hd)).imp fun D σ H ⟨g, S, m, b, h⟩ d hd0 => ?_
  simp only [evS, evE] at h
  have h : SatS E B g H D (.ok (.xc c [.non, .str z], S) m) := h
  have k := b.st.ok
  have x3 : Ext (PO B S σ) g g H (upd H d (.xd [("place", .non), ("word", .str z)])) m.w m.w := ext_new hd0 k
  have k3 := gok_new (o := .xd [("place", .non), ("word", .str z)]) hd0 k
  exact h g _ σ d _ (b.go x3 k3) upd_same (by rw [hF]; rfl) (.cons .non (.cons (.str z) .nil)) Ca hA
end
/-! ### several clauses, with names or without -/
abbrev HdT : Type := Value × Option Nat × (Addr → Value → Option Addr → TS)
def outN (o : Option Nat) (σ : L2.St) : L2.St := match o with
  | some i => σ.set i none
  | none => σ
def endN (o : Option Nat) (D : Ends) : Ends := { nx := fun σ' H' => D.nx (outN o σ') H', rt := D.rt, bk := fun σ' H' => D.bk (outN o σ') H', ct := fun σ' H' => D.ct (outN o σ') H' }
/-- what the clauses ask of an exception of the body -/
def wHs (K : PySem.W.Frag) (Wx : WX) (D : Ends) : List HdT → WX
  | [] => Wx
  | q :: r => fun cls d σ H => ∃ b, PySem.W.exmOne K cls q.1 = some b ∧ (b = true → ∀ a, H a = none → q.2.2 a cls d (endN q.2.1 D) (inN q.2.1 a σ) H) ∧ (b = false → wHs K Wx D r cls d σ H)
inductive HdA (X : Cx) : List ExceptHandler → List HdT → Prop
  | nil : HdA X [] []
  | bare {x : Str} {c : Value} {ts : Addr → Value → Option Addr → TS} {s0 : Stmt} {ss : List Stmt} {np hp : Pos} {hs : List ExceptHandler} {l : List HdT} (hc : Names X x c) (hsu : ∀ (a : Addr) (oe : Obj) (cls : Value) (d : Option Addr) (pn : List (Addr × Obj)), Zc cls d oe → (∃ vs, oe.data = .fields vs) → PSs (X.suite a ((a, oe) :: pn)) (s0 :: ss) (ts a cls d)) (r : HdA X hs l) :
      HdA X (.ExceptHandler (some (.Name x np)) none (s0 :: ss) hp :: hs) ((c, none, ts) :: l)
  | named {x n : Str} {i : Nat} {c : Value} {ts : Addr → Value → Option Addr → TS} {s0 : Stmt} {ss : List Stmt} {np hp : Pos} {hs : List ExceptHandler} {l : List HdT} (hi : X.N[i]? = some n) (hl : X.env.kindOf n = some .local) (hc : Names X x c) (hsu : ∀ (a : Addr) (oe : Obj) (cls : Value) (d : Option Addr) (pn : List (Addr × Obj)), Zc cls d oe → (∃ vs, oe.data = .fields vs) → PSs (X.suite a ((a, oe) :: pn)) (s0 :: ss) (ts a cls d)) (r : HdA X hs l) :
      HdA X (.ExceptHandler (some (.Name x np)) (some n) (s0 :: ss) hp :: hs) ((c, some i, ts) :: l)
section
variable {X : Cx} {body : List Stmt} {hd0 : ExceptHandler} {hds : List ExceptHandler} {l : List HdT} {pos : Pos} {tb : WX → TS} {Wx : WX}
theorem ps_tryH (stk : X.stack = X.env :: X.outer) (frm : X.env.frame = some X.env.locals) (nd : X.N.Nodup) (tk : Takes X Wx) (bd : ∀ (V : WX) (pn : List (Addr × Obj)) (xe : Value → Shared → Prop), Takes (X.tr pn xe) V → PassesOwn (model X.prog X.w) X.A X.env xe → PSs (X.tr pn xe) body (tb V)) (hh : HdA X (hd0 :: hds) l) :
    PS X (.Try body (hd0 :: hds) [] [] pos) (fun D σ H => tb (wHs X.K Wx D l) D σ H) := by
  refine ⟨fun pins s σ H D I h => ?_⟩
  have ok := I.ok
  have fr : X.A.frames = some (X.env :: X.outer) := by rw [ok.frames, stk]
  refine wpAny_Try_except ?_
  have W0 := (bd (wHs X.K Wx D l) (X.pn ++ pins) (fun e z1 => wpAny (model X.prog X.w) X.A (noteFrame e X.env) (fun _ z2 => wpAny (model X.prog X.w) X.A (setFlight e none) (fun _ z3 => wpAny (model X.prog X.w) X.A (handleBy e X.env (hd0 :: hds)) (SP X pins D) X.xe z3) X.xe z2) X.xe z1)
    (fun u s' xx => ?_) PassesOwn.looking).run [] s σ H D (I.toTry _) h
  · refine wpAny_mono W0 (fun f z1 q => ?_) fun e z1 he => he
    cases f with
    | ret u =>
      obtain ⟨v, τ, G, J, r, q⟩ := q
      exact ⟨v, τ, G, J.ofTry ok, r, q⟩
    | next =>
      obtain ⟨τ, G, J, q⟩ := q
      exact wpAny_execs_nil ⟨τ, G, J.ofTry ok, q⟩
    | brk =>
      obtain ⟨τ, G, J, q⟩ := q
      exact ⟨τ, G, J.ofTry ok, q⟩
    | cont =>
      obtain ⟨τ, G, J, q⟩ := q
      exact ⟨τ, G, J.ofTry ok, q⟩
  · obtain ⟨a, U, sI, pins', τ, G, cls, d, rfl, J', nb, up, sky, na, os, ag, w⟩ := xx
    have J : Inv X pins τ G sI := J'.ofTry ok
    have sky2 : Sky U (X.env :: X.outer) a (Zc cls d) X.env.locals s'.heap := by rw [← stk]; exact sky
    show wpAny (model X.prog X.w) X.A (noteFrame (.ref a) X.env) _ _ _
    refine Sky.land Zc.steady fr frm sky2 fun k3 fl3 up3 => ?_
    have J3 : Inv X pins τ G { s' with heap := k3 } := J.landed nb fl3.1 (up.trans up3) os ag
    obtain ⟨o3, v3, he3, hz3, hd3⟩ := fl3.there
    have off : a ∉ frs (X.env :: X.outer) := fun hm => by
      obtain ⟨_, o', e', nf⟩ := fl3.2.2.1.mem hm
      rw [he3] at e'; cases e'
      exact nf _ hd3
    have nL : a ≠ X.env.locals := fun z => off (List.mem_filterMap.mpr ⟨X.env, List.mem_cons_self, by rw [frm, z]⟩)
    have nF : a ∉ X.fs := fun hm => by
      obtain ⟨e, he, q⟩ := List.mem_filterMap.mp hm
      exact off (List.mem_filterMap.mpr ⟨e, List.mem_cons_of_mem _ he, q⟩)
    have S3 := J3.suite he3 hd3 na nL nF
    have LT : PySem.W.Looks (model X.prog X.w) k3 (typeOf (.ref a)) cls := fun A Q E s k q => wpAny_typeOf_ref (k _ _ he3) (by rw [hz3.1]; exact q)
    have test : ∀ {x : Str} {c : Value} {np : Pos} {Q : Value → Shared → Prop} {E : Value → Shared → Prop}, Names X x c → Q c { s' with heap := k3 } → wpAny (model X.prog X.w) (X.A.mark (some (.ref a))) (eval (.Name x np) X.env) Q E { s' with heap := k3 } := fun {x c np Q E} hc q => by
      obtain ⟨g1, g2, g3 | ⟨g3, g4, g5⟩⟩ := hc
      · exact ld_glob (X := X.suite a ((a, o3) :: (X.pn ++ pins))) S3 g1 g3 q g2
      · exact ld_blt (X := X.suite a ((a, o3) :: (X.pn ++ pins))) S3 g1 g3 g4 q g5 g2
    have go : ∀ {hs : List ExceptHandler} {l' : List HdT}, HdA X hs l' → wHs X.K Wx D l' cls d τ G → wpAny (model X.prog X.w) X.A (handleBy (.ref a) X.env hs) (SP X pins D) X.xe { s' with heap := k3 } := by
      intro hs l' hk
      induction hk with
      | nil =>
        intro w
        refine wpAny_handleBy_nil ?_
        obtain ⟨k1, k2, k3', oe, vs, T, oT, ts', he, hz, hd, h1, hr⟩ := id fl3
        unfold PySem.passOn
        refine wpAny_bind (wpAny_field he hd h1 ?_)
        rw [if_neg (show ¬ ((Value.ref T == Value.none) = true) from by simp)]
        have fin : wpAny (model X.prog X.w) X.A (setFlight (.ref a) X.env.frame) (fun _ z4 => wpAny (model X.prog X.w) X.A (throw (.ref a) : Sem Flow) (SP X pins D) X.xe z4) X.xe { s' with heap := k3 } := by
          rw [frm]
          refine HandSPX.setFlight_upZ fl3 fun k4 hh4 up4 => wpAny_throw (tk _ _ ?_)
          exact ⟨a, U, sI, pins, τ, G, cls, d, rfl, J, nb, (up.trans up3).trans up4, .inr (.inr (by rw [stk]; exact hh4)), na, os, ag, w⟩
        first
          | exact wpAny_bind (wpAny_pure (wpAny_bind fin))
          | exact wpAny_bind fin
      | @bare x c ts s0 ss np hp hs2 l2 hc hsu r ih =>
        intro w
        obtain ⟨b, hb1, yes, no⟩ := w
        refine wpAny_handleBy_cons (codeAny_handlers_test ?_) (by intro q; cases q)
        have LM := PySem.W.exm_one (M := model X.prog X.w) (J3.kIn) LT hb1
        refine test hc (LM.here ?_)
        cases b with
        | false =>
          show wpAny _ X.A (handleBy (.ref a) X.env hs2) _ _ _
          exact ih (no rfl)
        | true =>
          refine codeAny_handlers_suite ?_
          refine HandSPX.lands_againZ fl3 fun k4 fl4 up4 => ?_
          have J4 : Inv X pins τ G { s' with heap := k4 } := J.landed nb fl4.1 ((up.trans up3).trans up4) os ag
          obtain ⟨o4, v4, he4, hz4, hd4⟩ := fl4.there
          have S4 := J4.suite he4 hd4 na nL nF
          have R := (hsu a o4 cls d (X.pn ++ pins) hz4 ⟨_, hd4⟩).run [] _ _ G _ S4 (yes rfl a na)
          refine wpAny_mono R (fun f z6 q => ?_) fun _ _ z => z.elim
          cases f with
          | ret u =>
            obtain ⟨v6, τ6, G6, S6, r6, q6⟩ := q
            exact ⟨_, _, _, S6.unsuite ok, r6, q6⟩
          | next =>
            obtain ⟨τ6, G6, S6, q6⟩ := q
            exact ⟨_, _, S6.unsuite ok, q6⟩
          | brk =>
            obtain ⟨τ6, G6, S6, q6⟩ := q
            exact ⟨_, _, S6.unsuite ok, q6⟩
          | cont =>
            obtain ⟨τ6, G6, S6, q6⟩ := q
            exact ⟨_, _, S6.unsuite ok, q6⟩
      | @named x n i c ts s0 ss np hp hs2 l2 hi hl hc hsu r ih =>
        intro w
        obtain ⟨b, hb1, yes, no⟩ := w
        refine wpAny_handleBy_cons (codeAny_handlers_test ?_) (by intro q; cases q)
        have LM := PySem.W.exm_one (M := model X.prog X.w) (J3.kIn) LT hb1
        refine test hc (LM.here ?_)
        cases b with
        | false =>
          show wpAny _ X.A (handleBy (.ref a) X.env hs2) _ _ _
          exact ih (no rfl)
        | true =>
          refine codeAny_handlers_suite_as ?_
          refine HandSPX.lands_againZ fl3 fun k4 fl4 up4 => ?_
          have J4 : Inv X pins τ G { s' with heap := k4 } := J.landed nb fl4.1 ((up.trans up3).trans up4) os ag
          obtain ⟨o4, v4, he4, hz4, hd4⟩ := fl4.there
          have S4 := J4.suite he4 hd4 na nL nF
          refine store_ok (X := X.suite a ((a, o4) :: (X.pn ++ pins))) (v := .ref a) S4 nd hi (.inl hl) rfl (fun z5 S5 => ?_) (.inr hl)
          have R := (hsu a o4 cls d (X.pn ++ pins) hz4 ⟨_, hd4⟩).run [] z5 _ G _ S5 (yes rfl a na)
          have after : ∀ {z6 : Shared} {τ6 : L2.St} {G6 : Hp} {Q : Shared → Prop}, Inv (X.suite a ((a, o4) :: (X.pn ++ pins))) [] τ6 G6 z6 → (∀ z7, Inv X pins (τ6.set i none) G6 z7 → Q z7) → wpAny (model X.prog X.w) X.A (do bindName X.env n .none; unbindBehindTheSuite X.env n hp) (fun _ z7 => Q z7) X.xe z6 :=
            fun {z6 τ6 G6 Q} S6 hq => gone_ok (S6.unsuite ok) nd hi hl hq
          refine wpAny_mono R (fun f z6 q => ?_) fun _ _ z => z.elim
          cases f with
          | ret u =>
            obtain ⟨v6, τ6, G6, S6, r6, q6⟩ := q
            exact after S6 fun z7 J7 => ⟨_, _, _, J7, r6, q6⟩
          | next =>
            obtain ⟨τ6, G6, S6, q6⟩ := q
            exact after S6 fun z7 J7 => ⟨_, _, J7, q6⟩
          | brk =>
            obtain ⟨τ6, G6, S6, q6⟩ := q
            exact after S6 fun z7 J7 => ⟨_, _, J7, q6⟩
          | cont =>
            obtain ⟨τ6, G6, S6, q6⟩ := q
            exact after S6 fun z7 J7 => ⟨_, _, J7, q6⟩
    exact go hh w
end
/-! ### try -/
def En.tr (E : En) (V : WX) : En := { E with Wx := V }
def En.su (E : En) (x : Addr × Nat × Addr) : En := { E with W := E.W.su x, Wx := fun _ _ _ _ => False }
/-- the clauses do what the small language says -/
def HdS (X : Cx) (E : En) (t : T) (l : List HdT) : Prop := ∀ (B : Bs) (D : Ends) (g0 : Gh) (H0 : Hp) (g : Gh) (H : Hp) (S : Sto) (m : MS) (σ : L2.St) (c : Nat) (fs : List OD.D) (d : Addr) (fv : List (Str × V)) (Ca : Addr), BI E.W B g H S m σ → H d = some (.xd fv) → fv.map (·.1) = E.W.clF c → RelDs E.W g H fs (fv.map (·.2)) → E.W.clA c = some Ca →
  SatS E B g0 H0 D (evH E.gl E.cf t c fs S m) → wHs X.K E.Wx D l (.ref Ca) (some d) σ H
/-- a suite's promise -/
def suT (E : En) (t : T) : Addr → Value → Option Addr → TS := fun a cls d D σ H => ∃ c Ca dd B, cls = .ref Ca ∧ d = some dd ∧ E.W.clA c = some Ca ∧ TSo (E.su (a, c, dd)) B t D σ H
section
variable {X : Cx} {E : En} {B : Bs} {body : List Stmt} {hd0 : ExceptHandler} {hds : List ExceptHandler} {l : List HdT} {pos : Pos} {a b t : T} {u : Value} {y i : Nat}
theorem hds_nil : HdS X E .nil [] := fun B D g0 H0 g H S m σ c fs d fv Ca b hd hk hr hA h => by
  simp only [evH] at h
  exact h g H σ d fv b hd hk hr Ca hA
theorem hds_one {o : Option Nat} (n : E.W.xv = none) (hq : ∀ c Ca, E.W.clA c = some Ca → PySem.W.exmOne X.K (.ref Ca) u = some (subX c y)) (ih : HdS X E b l) (he : ∀ c fs S m, evH E.gl E.cf t c fs S m = condS (subX c y) (fun _ => exitR m (evS E.gl E.cf a (suS o (.exv c fs) S) m)) (fun _ => evH E.gl E.cf b c fs S m)) : HdS X E t ((u, o, suT E a) :: l) :=
  fun B D g0 H0 g H S m σ c fs d fv Ca b1 hd hk hr hA h => by
  rw [he] at h
  refine ⟨subX c y, hq c Ca hA, fun hb a0 ha0 => ?_, fun hb => ?_⟩
  · rw [hb] at h
    exact ⟨c, Ca, d, ⟨PO B S σ, g, H, m⟩, rfl, rfl, hA, g, _, m, BI.suite b1 n hd hk hr, SatS.exit (E' := E.su (a0, c, d)) (D := D) b1 rfl rfl (show SatS E B g0 H0 D (exitR m _) from h)⟩
  · rw [hb] at h
    exact ih B D g0 H0 g H S m σ c fs d fv Ca b1 hd hk hr hA h
theorem hds_cons (n : E.W.xv = none) (hq : ∀ c Ca, E.W.clA c = some Ca → PySem.W.exmOne X.K (.ref Ca) u = some (subX c y)) (ih : HdS X E b l) : HdS X E (.hnd y i a b) ((u, some i, suT E a) :: l) := hds_one n hq ih fun c fs S m => by simp only [evH]; rfl
theorem hds_bare (n : E.W.xv = none) (hq : ∀ c Ca, E.W.clA c = some Ca → PySem.W.exmOne X.K (.ref Ca) u = some (subX c y)) (ih : HdS X E b l) : HdS X E (.hnb y a b) ((u, none, suT E a) :: l) := hds_one n hq ih fun c fs S m => by simp only [evH]; rfl
theorem ss_try (stk : X.stack = X.env :: X.outer) (frm : X.env.frame = some X.env.locals) (nd : X.N.Nodup) (tk : Takes X E.Wx) (bd : ∀ (V : WX) (pn : List (Addr × Obj)) (xe : Value → Shared → Prop), Takes (X.tr pn xe) V → PassesOwn (model X.prog X.w) X.A X.env xe → PSs (X.tr pn xe) body (TSo (E.tr V) B a)) (hh : HdA X (hd0 :: hds) l) (hS : HdS X E b l) :
    PS X (.Try body (hd0 :: hds) [] [] pos) (TSo E B (.tryy a b)) := (ps_tryH (tb := fun V => TSo (E.tr V) B a) stk frm nd tk bd hh).imp fun D σ H ⟨g, S, m, b0, h⟩ => by
  simp only [evS] at h
  refine ⟨g, S, m, b0, ?_⟩
  show SatS (E.tr _) B g H D (evS E.gl E.cf a S m)
  generalize evS E.gl E.cf a S m = r at h ⊢
  match r, h with
  | .ok (.nx, S') m', h => exact h
  | .ok (.rt d k, S') m', h => exact h
  | .ok (.xc c fs, S') m', h => exact fun g' H' σ' d fv b' hd hk hr Ca hA => hS B D g H g' H' S' m' σ' c fs d fv Ca b' hd hk hr hA h
  | .exc c fs m', h => exact h.elim
  | .bad, h => exact h.elim
end
end OD

set_option Elab.async false
set_option autoImplicit false
set_option linter.all false
set_option maxRecDepth 100000
set_option maxHeartbeats 4000000
/-! My own layer, part 19: a dict comprehension of two clauses. A clause is walked by one lemma (walk_inv), whichever it is; the two loops are two uses of it. -/
namespace OD
open PySem PySem.Spec PyProof.Rows L2
/-- what is done with an item, told by what it must reach -/
abbrev Bdy : Type := Value → (Shared → Prop) → Shared → Prop
/-- nothing is raised -/
abbrev nx : Value → Shared → Prop := fun _ _ => False
section
variable {P : Program} {w : World} {A : Around} {R : Result → Shared → Prop} {s : Shared} {e : Expr} {ix : Nat} {it acc : Value} {env : Env} {go : Value → Sem Unit} {B : Bdy}
/-- a turn of a clause: the next item, the step ahead of the store, then B -/
def TurnIs (P : Program) (w : World) (A : Around) (c : Code) (it : Value) (go : Value → Sem Unit) (B : Bdy) : Prop :=
  ∀ (s : Shared) (Q : PySem.Fin → Shared → Prop), wpAny (model P w) A (pyNext it) (fun r s1 => (r = none ∧ Q (.done .next) s1) ∨ ∃ v, r = some v ∧ wpAny (model P w) A (go v) (fun _ s2 => B v (fun s3 => Q (.again c) s3) s2) nx s1) nx s →
    wpAny (model P w) (A.under c) ((model P w).den c) Q nx s
theorem clause_walk {c : Code} (hq : c.quiet = true) (tu : TurnIs P w A c it go B) (mo : ∀ v (K K' : Shared → Prop) s, (∀ s, K s → K' s) → B v K s → B v K' s) (I : Nat → Shared → Prop)
    (turn : ∀ n s, I n s → wpAny (model P w) A (pyNext it) (fun r s1 => (r = none ∧ R (.ok .next) s1) ∨ ∃ v, r = some v ∧ wpAny (model P w) A (go v) (fun _ s2 => B v (fun s3 => ∃ m, m < n ∧ I m s3) s2) nx s1) nx s)
    {n : Nat} (h : I n s) : codeAny (model P w) A c R s := by
  refine codeAny_loop hq I (fun k t ht => wpAny_mono (tu t _ (wpAny_mono (turn k t ht) (fun r t1 h1 => ?_) fun _ _ z => z)) (fun _ _ q => q) fun _ _ z => z.elim) n h
  rcases h1 with h1 | ⟨v, e1, h1⟩
  · exact .inl h1
  · exact .inr ⟨v, e1, wpAny_mono h1 (fun _ t2 h2 => mo v _ _ _ (fun _ h3 => ⟨rfl, h3⟩) h2) fun _ _ z => z⟩
end
section
variable {X : Cx} {pins : List (Addr × Obj)} {σ : L2.St} {tg : Expr} {it : Addr} {fp : List Addr} {tn : Nat → Heap → Prop} {J : It} {R : Result → Shared → Prop} {B : Bdy} {c : Code}
/-- a clause over what an iterator yields, by an invariant W of the abstract heap -/
theorem walk_inv (hc : X.calm = true) (hq : c.quiet = true) (T : Turn X.prog X.w X.K tg J fp it tn) (tu : TurnIs X.prog X.w X.A c (.ref it) (letOwnedTupleGo tg (.ref it)) B) (mo : ∀ v (K K' : Shared → Prop) s, (∀ s, K s → K' s) → B v K s → B v K' s)
    (fix : ∀ H, (∀ b ∈ fp, H b = none) → ∀ b ∈ fp, FpOk X pins H b) (W : Nat → Nat → Hp → Prop)
    (step : ∀ i m H, W i m H → (J.stop i H ∧ ∀ t, Inv X pins σ H t → R (.ok .next) t) ∨ (J.go i H ∧ ∀ x u H1 t pl, J.yld i H x H1 → RelV x u → Inv X (pins ++ pl) σ H1 t →
      B u (fun t2 => ∃ σ2 H2 k, Inv X (pins ++ pl) σ2 H2 t2 ∧ σ.length = σ2.length ∧ (∀ (j : Nat) v, σ[j]? = some (some v) → σ2[j]? = some (some v)) ∧ k < m ∧ W (i + 1) k H2) t))
    {s : Shared} {H : Hp} {m : Nat} (I0 : Inv X pins σ H s) (t0 : tn 0 s.heap) (f0 : ∀ b ∈ fp, H b = none) (w0 : W 0 m H) : codeAny (model X.prog X.w) X.A c R s := by
  refine clause_walk hq tu mo (fun n t => ∃ i G, W i n G ∧ Inv X pins σ G t ∧ tn i t.heap ∧ ∀ b ∈ fp, G b = none) ?_ (n := m) ⟨0, H, w0, I0, t0, f0⟩
  rintro n t ⟨i, G, hw, I, ht, hf⟩
  rcases step i n G hw with ⟨stop, out⟩ | ⟨on, each⟩
  · exact wpAny_mono (T.done X rfl rfl rfl hc i pins t σ G nx I (fix G hf) ht stop) (fun r t1 ⟨e1, I1⟩ => .inl ⟨e1, out t1 I1⟩) fun _ _ z => z
  · refine wpAny_mono (T.item X rfl rfl rfl hc i pins t σ G nx I (fix G hf) ht on) (fun r t1 ⟨u, e1, h1⟩ => .inr ⟨u, e1, wpAny_mono h1 (fun _ t2 ⟨x, G2, I2, rx, hy, ht2, hf2⟩ => ?_) fun _ _ z => z⟩) fun _ _ z => z
    refine mo u _ _ _ (fun t3 ⟨σ3, G3, k, I3, l3, s3, lt, w3⟩ => ?_) (each x u G2 t2 (pinsAt fp t2.heap) hy rx (I2.pinned (fix G2 hf2) (T.obj _ _ ht2)))
    have same : ∀ b ∈ fp, ∃ o, t2.heap.get? b = some o ∧ t3.heap.get? b = some o ∧ G3 b = none := fun b hb => by
      obtain ⟨o, eo, _⟩ := T.obj _ _ ht2 b hb
      have pn := I3.pin (b, o) (List.mem_append_right _ (List.mem_append_right _ (mem_pinsAt hb eo)))
      exact ⟨o, eo, pn.1, pn.2.1⟩
    refine ⟨k, lt, i + 1, G3, w3, I3.unpinned.weak l3 s3, T.keep _ _ _ ht2 fun b hb o eo => ?_, fun b hb => ?_⟩
    · obtain ⟨o', e1, e2, _⟩ := same b hb
      rw [eo] at e1; cases e1; exact e2
    · obtain ⟨_, _, _, q⟩ := same b hb
      exact q
end
/-! ### the two clauses' turns, in the model -/
section
variable {P : Program} {w : World} {A : Around} {kx vx t0 i0 t1 i1 : Expr} {scope : Scope} {pos : Pos} {it : Value} {env : Env} {D : Addr}
abbrev dcE (kx vx t0 i0 t1 i1 : Expr) (scope : Scope) (pos : Pos) : Expr := .DictComp kx vx [⟨t0, i0, [], 0⟩, ⟨t1, i1, [], 0⟩] scope pos
def inB (P : Program) (w : World) (A : Around) (kx vx t1 : Expr) (D : Addr) (env : Env) : Bdy := fun v K s => wpAny (model P w) A (assign t1 env v) (fun _ s => wpAny (model P w) A (eval kx env) (fun a s => wpAny (model P w) A (eval vx env) (fun b s => wpAny (model P w) A (dictSet D a b) (fun _ s => K s) nx s) nx s) nx s) nx s
def outB (P : Program) (w : World) (A : Around) (kx vx t0 i0 t1 i1 : Expr) (scope : Scope) (pos : Pos) (D : Addr) (env : Env) : Bdy := fun v K s => wpAny (model P w) A (assign t0 env v) (fun _ s => wpAny (model P w) A (eval i1 env) (fun x s => wpAny (model P w) A (pyIter x) (fun k s =>
  codeAny (model P w) A (.compStart (dcE kx vx t0 i0 t1 i1 scope pos) 1 k (.ref D) env) (fun r s => (∃ f, r = .ok f) ∧ K s) s) nx s) nx s) nx s
theorem inB_mono : ∀ v (K K' : Shared → Prop) s, (∀ s, K s → K' s) → inB P w A kx vx t1 D env v K s → inB P w A kx vx t1 D env v K' s := fun v K K' s f h =>
  wpAny_mono h (fun _ _ h => wpAny_mono h (fun _ _ h => wpAny_mono h (fun _ _ h => wpAny_mono h (fun _ s h => f s h) fun _ _ z => z) fun _ _ z => z) fun _ _ z => z) fun _ _ z => z
theorem outB_mono : ∀ v (K K' : Shared → Prop) s, (∀ s, K s → K' s) → outB P w A kx vx t0 i0 t1 i1 scope pos D env v K s → outB P w A kx vx t0 i0 t1 i1 scope pos D env v K' s := fun v K K' s f h =>
  wpAny_mono h (fun _ _ h => wpAny_mono h (fun _ _ h => wpAny_mono h (fun _ _ h => codeAny_mono h fun r s h => ⟨h.1, f s h.2⟩) fun _ _ z => z) fun _ _ z => z) fun _ _ z => z
theorem in_turn : TurnIs P w A (.compLoop (dcE kx vx t0 i0 t1 i1 scope pos) 1 it (.ref D) env) it (letOwnedTupleGo t1 it) (inB P w A kx vx t1 D env) := by
  intro s Q h
  show wpAny _ A (Sem.onRaise (compTurn (dcE kx vx t0 i0 t1 i1 scope pos) 1 it (.ref D) env) _) _ _ s
  refine wpAny_noted (env := env) (wpAny_mono (E := nx) ?_ (fun _ _ q => q) fun _ _ z => z.elim)
  show wpAny _ _ (standAt _ >>= _) _ _ _
  refine wpAny_bind (wpAny_standAt (wpAny_bind (wpAny_mono h (fun r s1 h1 => ?_) fun _ _ z => z)))
  rcases h1 with ⟨rfl, q⟩ | ⟨v, rfl, h1⟩
  · exact wpAny_pure q
  · refine wpAny_bind (wpAny_mono h1 (fun _ s2 h2 => ?_) fun _ _ z => z)
    refine wpAny_bind (wpAny_mono h2 (fun _ s3 h3 => wpAny_bind (wpAny_tests_nil ?_)) fun _ _ z => z)
    refine wpAny_bind (wpAny_bind (wpAny_mono h3 (fun a s4 h4 => wpAny_bind (wpAny_holding (wpAny_mono h4 (fun b s5 h5 => ?_) fun _ _ z => z))) fun _ _ z => z))
    exact wpAny_bind (wpAny_standAt (wpAny_holding (wpAny_mono h5 (fun _ s6 h6 => wpAny_pure h6) fun _ _ z => z)))
theorem out_turn (hs : ∀ x, foldedSetIterable i1 env x = pure x) : TurnIs P w A (.compLoop (dcE kx vx t0 i0 t1 i1 scope pos) 0 it (.ref D) env) it (letOwnedTupleGo t0 it) (outB P w A kx vx t0 i0 t1 i1 scope pos D env) := by
  intro s Q h
  show wpAny _ A (Sem.onRaise (compTurn (dcE kx vx t0 i0 t1 i1 scope pos) 0 it (.ref D) env) _) _ _ s
  refine wpAny_noted (env := env) (wpAny_mono (E := nx) ?_ (fun _ _ q => q) fun _ _ z => z.elim)
  show wpAny _ _ (standAt _ >>= _) _ _ _
  refine wpAny_bind (wpAny_standAt (wpAny_bind (wpAny_mono h (fun r s1 h1 => ?_) fun _ _ z => z)))
  rcases h1 with ⟨rfl, q⟩ | ⟨v, rfl, h1⟩
  · exact wpAny_pure q
  · refine wpAny_bind (wpAny_mono h1 (fun _ s2 h2 => ?_) fun _ _ z => z)
    refine wpAny_bind (wpAny_mono h2 (fun _ s3 h3 => wpAny_bind (wpAny_tests_nil ?_)) fun _ _ z => z)
    refine wpAny_bind (wpAny_mono h3 (fun x s4 h4 => ?_) fun _ _ z => z)
    refine wpAny_bind (wpAny_standAt (wpAny_bind (wpAny_of_eq (hs x) (wpAny_bind (wpAny_holding (wpAny_mono h4 (fun k s5 h5 => ?_) fun _ _ z => z))))))
    refine wpAny_bind (wpAny_runOwn ?_)
    rw [Around.mark_none]
    refine codeAny_mono h5 fun r s6 h6 => ?_
    obtain ⟨⟨f, rfl⟩, q⟩ := h6
    exact wpAny_pure q
/-- the second clause begins -/
theorem in_start {R : Result → Shared → Prop} {s : Shared} (h : wpAny (model P w) A (pyIter it) (fun k s => codeAny (model P w) A (.compLoop (dcE kx vx t0 i0 t1 i1 scope pos) 1 k (.ref D) env) R s) nx s) (h0 : codeAny (model P w) A (.compLoop (dcE kx vx t0 i0 t1 i1 scope pos) 1 it (.ref D) env) R s) :
    codeAny (model P w) A (.compStart (dcE kx vx t0 i0 t1 i1 scope pos) 1 it (.ref D) env) R s := by
  refine codeAny_of_tree ?_
  show wpAny _ A (Sem.onRaise (compStart (dcE kx vx t0 i0 t1 i1 scope pos) 1 it (.ref D) env) _) _ _ s
  refine wpAny_notedAt (env := env) (wpAny_mono (E := nx) ?_ (fun _ _ q => q) fun _ _ z => z.elim)
  show wpAny _ _ (ask >>= _) _ _ _
  refine wpAny_bind (wpAny_askSetting (wpAny_ite ?_))
  split
  · exact wpAny_pure ⟨rfl, h0⟩
  · refine wpAny_bind (wpAny_rule (wpAny_bind (wpAny_standAt (wpAny_bind (wpAny_mono h (fun k s1 h1 => ?_) fun _ _ z => z)))))
    exact wpAny_pure ⟨rfl, h1⟩
end

/-! ### over the layer -/
section
variable {X : Cx} {kx vx tg iter tg1 iter1 : Expr} {scope : Scope} {own : List (Str × Nat)} {vs1 : List Nat} {pos : Pos} {wi wi1 : TI} {g g1 : TG} {tk tv : TE}
/-- {kx: vx for tg in iter for tg1 in iter1}: W what holds ahead of an item of the first source, W1 of the second; D the dict -/
def tDd (wi : TI) (g : TG) (wi1 : TI) (g1 : TG) (tk tv : TE) (vs vs1 : List Nat) : TE := fun σ H Q => wi σ H fun J H1 => ∀ D, H1 D = none → ∃ W : Nat → Nat → Hp → Prop, (∃ m, W 0 m (upd H1 D (.dK []))) ∧ ∀ i m H, W i m H → (J.stop i H ∧ Q (.ref D) H) ∨ (J.go i H ∧ ∀ x H', J.yld i H x H' →
  g x (wipe σ vs) H' fun σ2 H2 => wipe σ2 vs = wipe σ vs ∧ wi1 σ2 H2 fun J1 H4 => ∃ W1 : Nat → Nat → Hp → Prop, (∃ k, W1 0 k H4) ∧ ∀ j k H, W1 j k H → (J1.stop j H ∧ ∃ n, n < m ∧ W (i + 1) n H) ∨ (J1.go j H ∧ ∀ y H', J1.yld j H y H' →
    g1 y (wipe σ2 vs1) H' fun σ3 H5 => wipe σ3 vs1 = wipe σ2 vs1 ∧ tk σ3 H5 fun a H6 => tv σ3 H6 fun b H7 => ∃ kvs key, a = kV key ∧ H7 D = some (.dK kvs) ∧ kvs.length < sizeLine ∧ ∃ n, n < k ∧ W1 (j + 1) n (upd H7 D (.dK (putK kvs key b)))))
theorem pe_dd (hc : X.calm = true) (hN : X.N.Nodup) (hi : PI X tg iter wi) (ok : BlkOk X.N X.env.scope scope own) (hv : ∀ i ∈ vs1, i ∈ own.map (·.2))
    (hb : ∀ (s : Shared) (H : Hp) (C : Addr) (cl : List (Str × Addr)) (fp : List Addr), PG (X.blk s H scope (compEnvC scope cl C X.env) fp) tg g ∧ PI (X.blk s H scope (compEnvC scope cl C X.env) fp) tg1 iter1 wi1 ∧ PG (X.blk s H scope (compEnvC scope cl C X.env) fp) tg1 g1 ∧
      PE (X.blk s H scope (compEnvC scope cl C X.env) fp) kx tk ∧ PE (X.blk s H scope (compEnvC scope cl C X.env) fp) vx tv)
    (hs : ∀ x, foldedSetIterable iter X.env x = pure x) (hs1 : ∀ env x, foldedSetIterable iter1 env x = pure x) : PE X (dcE kx vx tg iter tg1 iter1 scope pos) (tDd wi g wi1 g1 tk tv (own.map (·.2)) vs1) := by
  refine ⟨fun pins s σ H Q I h => ?_⟩
  have free : ∀ y ∈ scope.names, y.2 = .free → ∃ c, X.env.cells.lookup y.1 = some c := fun y hy e => I.ok.has _ (ok.free y hy e)
  rw [arm_eval_DictComp]
  refine wpAny_comprehension_free (use := none) rfl hs (closure_ok free) ok.kind (fun y hy e => by rw [ok.uniq y hy, e]) (thn (hi.run pins s σ H _ I h) fun xv s1 h1 => thn h1 fun itv s2 h2 => ?_)
  obtain ⟨it, fp, tn, J, G, rfl, I2, T, ht, hf, q⟩ := h2
  refine wpAny_newObj_type (newEnv_comp ?_)
  have nD : G s2.heap.objs.size = none := I2.hok.fresh (Nat.le_refl _)
  obtain ⟨W, ⟨m0, w0⟩, turn⟩ := q _ nD
  have I3 := I2.laid (t' := s2.toks) (h' := s2.heap.push { cls := .type "dict", data := .dict #[] }) (a := s2.heap.objs.size) (o := .dK []) (fun b o e => Heap.get?_push_of_some _ e) (Nat.le_refl _) (dk_empty s2.heap I2.big)
  have young : ∀ b ∈ fp, b < s2.heap.objs.size := fun b hb => (T.obj _ _ ht b hb).elim fun o z => Heap.lt_size z.1
  have mine : ∀ b ∈ fp, FpOk X pins (upd G s2.heap.objs.size (.dK [])) b := fun b hb => ⟨by rw [upd_ne (Nat.ne_of_lt (young b hb))]; exact (hf b hb).1, (hf b hb).2⟩
  have ht3 : tn 0 (s2.heap.push { cls := .type "dict", data := .dict #[] }) := T.keep _ _ _ ht fun b _ o e => Heap.get?_push_of_some _ e
  generalize hD : s2.heap.objs.size = D at *
  generalize hG3 : upd G D (.dK []) = G3 at *
  generalize hs3 : ({ s2 with heap := s2.heap.push { cls := .type "dict", data := .dict #[] } } : Shared) = s3 at *
  have st : s3.heap = s2.heap.push { cls := .type "dict", data := .dict #[] } := by rw [← hs3]
  have begun := block_start I3 ok hN fun b hb => ⟨mine b hb, by rw [st, Heap.size_push, hD]; exact Nat.lt_succ_of_lt (young b hb)⟩
  have kit := hb s3 G3 s3.heap.objs.size (cellsFrom (s3.heap.objs.size + 1) scope.names (cloFrom X.env.cells scope.names [])) fp
  have back : (compEnvC scope (cellsFrom (s3.heap.objs.size + 1) scope.names (cloFrom X.env.cells scope.names [])) s3.heap.objs.size X.env).locals = s3.heap.objs.size := rfl
  show codeAny _ _ (.compStart (dcE kx vx tg iter tg1 iter1 scope pos) 0 (.ref it) (.ref D) (compEnvC scope (cellsFrom (s3.heap.objs.size + 1) scope.names (cloFrom X.env.cells scope.names [])) s3.heap.objs.size X.env)) (compPost (model X.prog X.w) X.A X.xe none (EP X pins σ Q) (.ref D) s3.heap.objs.size) { s3 with heap := pushCells (s3.heap.push { cls := .type "dict", data := .dict #[] }) scope.names }
  generalize compEnvC scope (cellsFrom (s3.heap.objs.size + 1) scope.names (cloFrom X.env.cells scope.names [])) s3.heap.objs.size X.env = ce at begun kit back ⊢
  obtain ⟨kg, ki1, kg1, kk, kv⟩ := kit
  have ht4 : tn 0 (pushCells (s3.heap.push { cls := .type "dict", data := .dict #[] }) scope.names) := T.keep _ _ _ ht3 fun b _ o e => pushCells_keeps _ _ _ _ (Heap.get?_push_of_some _ (by rw [st]; exact e))
  have gone : ∀ b ∈ fp, G3 b = none := fun b hb => (mine b hb).1
  -- the first clause
  have outer : codeAny (model X.prog X.w) X.A (.compLoop (dcE kx vx tg iter tg1 iter1 scope pos) 0 (.ref it) (.ref D) ce) (compPost (model X.prog X.w) X.A X.xe none (EP X pins σ Q) (.ref D) s3.heap.objs.size) { s3 with heap := pushCells (s3.heap.push { cls := .type "dict", data := .dict #[] }) scope.names } := by
    refine walk_inv (X := X.blk s3 G3 scope ce fp) (pins := []) hc rfl T (out_turn (hs1 ce)) outB_mono (fun K hK b hb => ⟨hK b hb, (begun.ok.exf b hb).1, begun.ok.exfs b hb, .inl hb, (begun.ok.exf b hb).2, fun p hp => by cases hp⟩) W (fun i m K hw => ?_) begun ht4 gone w0
    rcases turn i m K hw with ⟨stop, out⟩ | ⟨on, each⟩
    · refine .inl ⟨stop, fun t It => ?_⟩
      have home : L2.Inv X pins σ K t := I3.call' (ch := fp) It.os It.base It.hok It.bare fun b hb => ⟨(mine b hb).2.2.2.1, (mine b hb).2.1, (mine b hb).2.2.2.2.1, (mine b hb).2.2.2.2.2⟩
      have noC : K s3.heap.objs.size = none := by rw [← back]; exact It.free
      obtain ⟨_, c1, _, c3, c4, c5⟩ := I3.fpOk (Nat.le_refl _) noC
      obtain ⟨n, hn, _⟩ := It.loc
      exact ⟨n, back ▸ hn, fun h' sb => ⟨.ref D, K, home.turned (t' := t.toks) (fun b o nb e => (sb.2 b nb).trans e) noC c1 c3 c4 c5, rfl, out⟩⟩
    · refine .inr ⟨on, fun x u K1 t pl hy rx It => ?_⟩
      refine wpAny_mono (kg.run ([] ++ pl) t _ K1 x u _ It rx (each x K1 hy)) (fun _ t1 ⟨σ2, K2, It2, wp2, q2⟩ => ?_) fun _ _ z => z
      refine wpAny_mono (ki1.run _ t1 σ2 K2 _ It2 q2) (fun yv t2 h2 => wpAny_mono h2 (fun k t3 h3 => ?_) fun _ _ z => z) fun _ _ z => z
      obtain ⟨it1, fp1, tn1, J1, K3, rfl, It3, T1, st1, f1, W1, ⟨k0, w10⟩, turn1⟩ := h3
      have wl : (wipe σ (own.map (·.2))).length = (wipe σ2 vs1).length := by rw [← wp2, wipe_length, wipe_length]
      have wk : ∀ (j : Nat) v, (wipe σ (own.map (·.2)))[j]? = some (some v) → (wipe σ2 vs1)[j]? = some (some v) := fun j v e => by
        rw [← wp2] at e
        obtain ⟨e1, e2⟩ := wipe_some e
        rw [wipe_out fun z => e2 (hv j z)]; exact e1
      -- the second
      have inner : ∀ K : Shared → Prop, (∀ n H t, n < m → W (i + 1) n H → L2.Inv (X.blk s3 G3 scope ce fp) ([] ++ pl) (wipe σ2 vs1) H t → K t) → codeAny (model X.prog X.w) X.A (.compLoop (dcE kx vx tg iter tg1 iter1 scope pos) 1 (.ref it1) (.ref D) ce) (fun r s => (∃ f, r = .ok f) ∧ K s) t3 := fun K hK => by
        refine walk_inv (X := X.blk s3 G3 scope ce fp) (pins := [] ++ pl) (σ := wipe σ2 vs1) hc rfl T1 in_turn inB_mono (fun H hH b hb => ⟨hH b hb, (f1 b hb).2⟩) W1 (fun j k H hw1 => ?_) (It3.weak (wipe_length _ _) fun j v e => (wipe_some e).1) st1 (fun b hb => (f1 b hb).1) w10
        rcases turn1 j k H hw1 with ⟨stop1, n, hn, wn⟩ | ⟨on1, each1⟩
        · exact .inl ⟨stop1, fun t It => ⟨⟨_, rfl⟩, hK n H t hn wn It⟩⟩
        · refine .inr ⟨on1, fun y u1 H1 t4 pl1 hy1 ry It4 => ?_⟩
          refine wpAny_mono (kg1.run _ t4 _ H1 y u1 _ It4 ry (each1 y H1 hy1)) (fun _ t5 ⟨σ3, H3, It5, wp3, q3⟩ => ?_) fun _ _ z => z
          refine wpAny_mono (kk.run _ t5 σ3 H3 _ It5 q3) (fun a t6 ⟨av, H6, It6, ra, q6⟩ => ?_) fun _ _ z => z
          refine wpAny_mono (kv.run _ t6 σ3 H6 _ It6 q6) (fun c t7 ⟨cv, H7, It7, rc, kvs, key, ek, hD7, hz, n, hn, wn⟩ => ?_) fun _ _ z => z
          subst ek
          refine d_dictSet (X := X.blk s3 G3 scope ce fp) It7 hD7 hz ra rc fun t8 It8 => ?_
          exact ⟨σ3, _, n, It8, by rw [← wp3, wipe_length], fun j v e => by rw [← wp3] at e; exact (wipe_some e).1, hn, wn⟩
      refine in_start (T1.self X.A 0 _ _ _ st1 (inner _ ?_)) (inner _ ?_)
      · exact fun n H t hn wn It => ⟨wipe σ2 vs1, H, n, It, wl, wk, hn, wn⟩
      · exact fun n H t hn wn It => ⟨wipe σ2 vs1, H, n, It, wl, wk, hn, wn⟩
  exact codeAny_compStart_dict outer (T.self X.A 0 _ _ _ ht4 outer)
end

/-! ### the keys in order, as a result -/
def keR (gl : List OD.D) (cf : Nat → List OD.D → MS → Res (OD.D × Kd)) (e tg : T) (own : List Nat) (S : Sto) : OD.D → MS → Res (Option OD.D) := fun d m => bindR (optR (tgT tg d .sh (wipeS S own)) m) fun S1 m1 => bindR (evE gl cf e S1 m1) fun y m3 => bindR (toV y m3) fun v m4 => .ok (some v) m4
def ke2R (gl : List OD.D) (cf : Nat → List OD.D → MS → Res (OD.D × Kd)) (e tg tg2 it2 : T) (own own2 : List Nat) (S : Sto) : OD.D → MS → Res (List OD.D) := fun d m => bindR (optR (tgT tg d .sh (wipeS S own)) m) fun S1 m1 => bindR (evI gl cf it2 S1 m1) fun es m2 => mapR (keR gl cf e tg2 own2 S1) es m2
theorem evE_sd2 (gl : List OD.D) (cf : Nat → List OD.D → MS → Res (OD.D × Kd)) (e tg it tg2 it2 : T) (own own2 : List Nat) (S : Sto) (m : MS) : evE gl cf (.sd2 e tg it tg2 it2 own own2) S m = noX (bindR (evI gl cf it S m) fun ds m1 => bindR (map2R (ke2R gl cf e tg tg2 it2 own own2 S) ds m1) fun ys m2 => optR (sdD ys) m2) := by
  simp only [evE]
  rfl
def dkv (ns : List Int) : List (Key × V) := (ddI ns).map fun n => (Sum.inl n, V.bl true)
theorem ddI_snoc (ns : List Int) (n : Int) : ddI (ns ++ [n]) = if n ∈ ddI ns then ddI ns else ddI ns ++ [n] := by
  unfold ddI
  rw [List.foldl_append]; rfl
theorem dkv_snoc (ns : List Int) (n : Int) : putK (dkv ns) (Sum.inl n) (V.bl true) = dkv (ns ++ [n]) := by
  unfold dkv
  rw [ddI_snoc]
  generalize ddI ns = ks
  unfold putK
  have h : ((ks.map fun n => ((Sum.inl n : Key), V.bl true)).any fun kv => decide (kv.1 = Sum.inl n)) = decide (n ∈ ks) := by
    rw [Bool.eq_iff_iff, List.any_eq_true, decide_eq_true_eq]
    constructor
    · rintro ⟨kv, hk, e⟩
      obtain ⟨i, hi, rfl⟩ := List.mem_map.mp hk
      have : (Sum.inl i : Key) = Sum.inl n := of_decide_eq_true e
      cases this
      exact hi
    · exact fun h => ⟨_, List.mem_map.mpr ⟨n, h, rfl⟩, decide_eq_true rfl⟩
  rw [h]
  by_cases hn : n ∈ ks
  · rw [if_pos (decide_eq_true hn), if_pos hn, List.map_map]
    refine List.map_congr_left fun i _ => ?_
    show (if (Sum.inl i : Key) = Sum.inl n then _ else _) = _
    split <;> rfl
  · rw [if_neg (by simpa using hn), if_neg hn, List.map_append]; rfl
theorem ddI_mono (ns ms : List Int) : (ddI ns).length ≤ (ddI (ns ++ ms)).length := by
  induction ms generalizing ns with
  | nil => rw [List.append_nil]; exact Nat.le_refl _
  | cons m ms ih =>
    have h := ih (ns ++ [m])
    rw [List.append_assoc] at h
    refine Nat.le_trans ?_ h
    rw [ddI_snoc]
    split
    · exact Nat.le_refl _
    · rw [List.length_append]; omega
theorem intsD_app : ∀ {xs ys : List OD.D} {ns : List Int}, intsD (xs ++ ys) = some ns → ∃ as bs, intsD xs = some as ∧ intsD ys = some bs ∧ ns = as ++ bs
  | [], ys, ns, h => ⟨[], ns, rfl, h, rfl⟩
  | x :: xs, ys, ns, h => by
    cases x with
    | int i =>
      rw [List.cons_append, intsD] at h
      cases q : intsD (xs ++ ys) with
      | none => rw [q] at h; cases h
      | some ms =>
        rw [q] at h
        cases h
        obtain ⟨as, bs, h1, h2, rfl⟩ := intsD_app q
        exact ⟨i :: as, bs, by rw [intsD, h1]; rfl, h2, rfl⟩
    | _ => cases h
theorem turn_key {E : En} {tg e : T} {own : List Nat} {P : Addr → Prop} {g1 gi : Gh} {H1 Hi Hy : Hp} {m1 mi m' : MS} {S : Sto} {σ : L2.St} {D : Addr} {kvs : List (Key × V)} {d : OD.D} {x : V} {o : Option OD.D} {n : Int}
    (hsl : ∀ i ∈ slT tg, i ∈ own) (k1 : GOk E.W g1 H1 m1) (hD1 : H1 D = none) (hP1 : ∀ a, P a → H1 a ≠ none)
    (hF : keR E.gl E.cf e tg own S d mi = .ok o m') (ho : o = some (.int n)) (hx : Ext P g1 gi H1 Hi m1.w mi.w) (hS : StI E.W P gi Hi S mi σ) (hf : ¬ gi.fz D) (hr : D ∉ gi.ρ) (hD : Hi D = some (.dK kvs)) (hn : kvs.length < sizeLine)
    (hy : ∀ P w, Ext P gi gi Hi Hy w w) (ky : GOk E.W gi Hy mi) (rd : RelD E.W gi Hy d x) {Nx : Hp → Prop}
    (nx : ∀ g' H', Ext P g1 g' H1 H' m1.w m'.w → FX gi g' Hi H' → (∀ S2 σ2, StI E.W P gi Hi S2 mi σ2 → StI E.W P g' H' S2 m' σ2) → ¬ g'.fz D → D ∉ g'.ρ → H' D = some (.dK (putK kvs (Sum.inl n) (V.bl true))) → Nx H') :
    gT E.W.K tg x (wipe σ own) Hy fun σ2 H2 => wipe σ2 own = wipe σ own ∧ TEo E.nox e σ2 H2 fun a H6 => tC (.bl true) σ2 H6 fun b H7 => ∃ kvs key, a = kV key ∧ H7 D = some (.dK kvs) ∧ kvs.length < sizeLine ∧ Nx (upd H7 D (.dK (putK kvs key b))) := by
  obtain ⟨S1, e1, hF⟩ : ∃ S1, tgT tg d .sh (wipeS S own) = some S1 ∧ (bindR (evE E.gl E.cf e S1 mi) fun y m3 => bindR (toV y m3) fun v m4 => .ok (some v) m4) = .ok o m' := by
    unfold keR at hF
    cases q : tgT tg d .sh (wipeS S own) with
    | none => rw [q] at hF; cases hF
    | some S1 => rw [q] at hF; exact ⟨S1, rfl, hF⟩
  obtain ⟨y, m3, q3, hF⟩ := bindR_ok hF
  have hSy := (sti_more hS hf hr hD).ext (hy _ mi.w) ky
  have hSw := hSy.wipe own
  obtain ⟨σ2, fl, gk⟩ := tgT_ok (W := E.W) (g := gi) (H := Hy) e1 rd hSw.len
  refine gk _ ⟨fl.wipe hsl, _, gi, S1, mi, fl.sti hSw, ?_⟩
  have hdie : P D → False := fun p => hP1 D p hD1
  rw [show evE E.nox.gl E.nox.cf e S1 mi = _ from q3]
  intro g4 H4 x4 k4 yv ry
  obtain ⟨yd, yk⟩ := y
  have hb : yk ≠ .bor := fun z => by subst z; cases hF
  obtain ⟨g5, x5, k5, r5⟩ := ry.keep (P := fun a => P a ∨ a = D) (w := m3.w) k4 (fun a p => (hSy.dom a p).1) hb
  have eo : o = some yd ∧ m' = m3 := by
    cases yk with
    | sh => cases hF; exact ⟨rfl, rfl⟩
    | own => cases hF; exact ⟨rfl, rfl⟩
    | bor => cases hF
  obtain ⟨rfl, rfl⟩ := eo
  cases ho
  cases r5
  have x45 := x4.trans x5
  obtain ⟨h51, h52, h53⟩ := (hSy.ext x45 k5).dom D (.inr rfl)
  have hDy : Hy D = some (.dK kvs) := (hy (fun _ => False) 0).keep D _ hD hr
  have hD5 : H4 D = some (.dK kvs) := x45.keep D _ hDy (hSy.dom D (.inr rfl)).2.2
  have x14 : Ext P g1 g5 H1 H4 m1.w m'.w := (hx.trans (hy P mi.w)).trans (x45.less fun a p => .inl p)
  have fx := fx_own (o := .dK (putK kvs (Sum.inl n) (V.bl true))) h52 hD5
  exact ⟨kvs, Sum.inl n, rfl, hD5, hn, nx g5 _ (x14.own k1 hD1) (((hy (fun _ => False) 0).fx hS.ok).trans ((x45.fx ky).trans fx)) (fun S2 σ2 hS2 => sti_own ((hS2.ext (hy _ mi.w) ky).ext (x45.less fun a p => .inl p) k5) hdie h52 h53 hD5) h52 h53 upd_same⟩

theorem keR_some {gl : List OD.D} {cf : Nat → List OD.D → MS → Res (OD.D × Kd)} {e tg : T} {own : List Nat} {S : Sto} {d : OD.D} {m m' : MS} {o : Option OD.D} (h : keR gl cf e tg own S d m = .ok o m') : ∃ v, o = some v := by
  unfold keR at h
  obtain ⟨S1, m1, _, h⟩ := bindR_ok h
  obtain ⟨y, m2, _, h⟩ := bindR_ok h
  obtain ⟨v, m3, _, h⟩ := bindR_ok h
  cases h
  exact ⟨v, rfl⟩
theorem relds_ints {W : Wd} {g : Gh} {H : Hp} : ∀ ns : List Int, RelDs W g H (ns.map OD.D.int) (ns.map V.int)
  | [] => .nil
  | n :: ns => .cons (.int n) (relds_ints ns)
theorem sdD_of {ys : List OD.D} {r : OD.D × Kd} (h : sdD ys = some r) : ∃ ns, intsD ys = some ns ∧ (ddI ns).length < sizeLine ∧ r = (.lst ((sortI (ddI ns)).map OD.D.int), .own) := by
  unfold sdD at h
  cases q : intsD ys with
  | none => rw [q] at h; cases h
  | some ns =>
    rw [q] at h
    have h : (if (ddI ns).length < sizeLine then some (OD.D.lst (((ddI ns).mergeSort (fun a b => decide (a ≤ b))).map OD.D.int), Kd.own) else none) = some r := h
    split at h
    · cases h
      exact ⟨ns, rfl, by assumption, rfl⟩
    · cases h
theorem optR_ok {α : Type} {o : Option α} {m m' : MS} {a : α} (h : optR o m = .ok a m') : o = some a ∧ m = m' := by
  cases o with
  | none => cases h
  | some b => cases h; exact ⟨rfl, rfl⟩
/-- what sorted() asks of its dict -/
def rSd (x : V) (H : Hp) (Q : VK) : Prop := ∃ (a : Addr) (kvs : List (Key × V)) (ks : List Int), [x] = [.ref a] ∧ Rd H a (.dK kvs) ∧ kvs.map (·.1) = ks.map Sum.inl ∧  ∀ (ys : List Int) (p : Addr), ys.Perm ks → ys.Pairwise (· ≤ ·) → H p = none → Q (.ref p) (upd H p (.lst (ys.map V.int)))
section
variable {X : Cx} {E : En}
theorem sd2_ok {e tg it tg2 it2 : T} {own own2 : List Nat} (hsl : ∀ i ∈ slT tg, i ∈ own) (hsl2 : ∀ i ∈ slT tg2, i ∈ own2) (σ : L2.St) (H : Hp) (Q : VK) (h : TEo E (.sd2 e tg it tg2 it2 own own2) σ H Q) :
    tDd (TIo E it) (gT E.W.K tg) (TIo E.nox it2) (gT E.W.K tg2) (TEo E.nox e) (tC (.bl true)) own own2 σ H fun x H1 => rSd x H1 Q := by
  obtain ⟨P, g, S, m, hS, h⟩ := h
  rw [evE_sd2] at h
  refine ⟨P, g, S, m, hS, ?_⟩
  cases q : evI E.gl E.cf it S m with
  | bad => rw [q] at h; exact h.elim
  | exc c fs m1 => rw [q] at h; exact h.elim
  | ok ds m1 =>
    rw [q] at h
    replace h : SatR E.W P g H m.w (E.ex σ) (noX (bindR (map2R (ke2R E.gl E.cf e tg tg2 it2 own own2 S) ds m1) fun ys m2 => optR (sdD ys) m2)) fun x _ g' H' => ∀ v, RV E.W H g' H' x v → Q v H' := h
    generalize hR : (bindR (map2R (ke2R E.gl E.cf e tg tg2 it2 own own2 S) ds m1) fun ys m2 => optR (sdD ys) m2) = R0 at h
    cases R0 with
    | bad => exact h.elim
    | exc c fs m1 => exact h.elim
    | ok r m2 =>
      intro g1 H1 x1 k1 hl J wk D hD1
      have hS1 := hS.ext x1 k1
      have hP1 : ∀ a, P a → H1 a ≠ none := fun a p => (hS1.dom a p).1
      refine ⟨fun i k Hi => ∃ gi mi acc ns, k = ds.length - i ∧ i ≤ ds.length ∧ intsD acc = some ns ∧ (bindR (map2R (ke2R E.gl E.cf e tg tg2 it2 own own2 S) (ds.drop i) mi) fun ys m2 => optR (sdD (acc ++ ys)) m2) = Res.ok r m2 ∧
        Ext P g1 gi H1 Hi m1.w mi.w ∧ StI E.W P gi Hi S mi σ ∧ ¬ gi.fz D ∧ D ∉ gi.ρ ∧ Hi D = some (.dK (dkv ns)), ⟨ds.length, g1, m1, [], [], by simp, by simp, rfl, by simpa using hR, (Ext.refl (g := g1)).own k1 hD1, ?_, k1.nofz hD1, k1.noρ hD1, upd_same⟩, ?_⟩
      · exact hS1.ext (ext_new (w := m1.w) hD1 k1) (gok_new hD1 k1)
      · rintro i k Hi ⟨gi, mi, acc, ns, rfl, hi, hns, hr, hx, hSi, hf, hp, hD⟩
        have fx : FX g1 gi H1 Hi := hx.fx k1
        by_cases hlt : i < ds.length
        · obtain ⟨d, hd⟩ : ∃ d, ds[i]? = some d := ⟨_, List.getElem?_eq_getElem hlt⟩
          have hdr : ds.drop i = d :: ds.drop (i + 1) := by
            rw [List.drop_eq_getElem_cons hlt]
            congr 1
            exact Option.some.inj ((List.getElem?_eq_getElem hlt).symm.trans hd)
          rw [hdr, map2R, bindR_assoc] at hr
          obtain ⟨o, m', q1, hr⟩ := bindR_ok hr
          rw [bindR_assoc] at hr
          -- all that comes is numbers
          obtain ⟨no, hno, few⟩ : ∃ no, intsD o = some no ∧ (ddI (ns ++ no)).length < sizeLine := by
            obtain ⟨ys, m7, _, hz⟩ := bindR_ok hr
            obtain ⟨hz, _⟩ := optR_ok (show optR (sdD (acc ++ (o ++ ys))) m7 = Res.ok r m2 from hz)
            obtain ⟨all, h1, h2, _⟩ := sdD_of hz
            obtain ⟨as, bs, h3, h4, rfl⟩ := intsD_app h1
            obtain ⟨no, bs', h5, h6, rfl⟩ := intsD_app h4
            rw [hns] at h3
            cases h3
            refine ⟨no, h5, Nat.lt_of_le_of_lt (ddI_mono _ bs') ?_⟩
            rw [List.append_assoc]; exact h2
          refine .inr ⟨wk.goes i gi Hi fx hlt, fun x Hy y => ?_⟩
          obtain ⟨d', hd', hy, ky, rd⟩ := wk.yields i gi Hi mi x Hy fx hSi.ok hlt y
          rw [hd] at hd'
          cases hd'
          obtain ⟨S1, e1, q1⟩ : ∃ S1, tgT tg d .sh (wipeS S own) = some S1 ∧ (bindR (evI E.gl E.cf it2 S1 mi) fun es m2 => mapR (keR E.gl E.cf e tg2 own2 S1) es m2) = .ok o m' := by
            unfold ke2R at q1
            cases q : tgT tg d .sh (wipeS S own) with
            | none => rw [q] at q1; cases q1
            | some S1 => rw [q] at q1; exact ⟨S1, rfl, q1⟩
          obtain ⟨es, m3, q3, q1⟩ := bindR_ok q1
          have hSy := (sti_more hSi hf hp hD).ext (hy _ mi.w) ky
          have hSw := hSy.wipe own
          obtain ⟨σ2, fl, gk⟩ := tgT_ok (W := E.W) (g := gi) (H := Hy) e1 rd hSw.len
          refine gk _ ⟨fl.wipe hsl, ?_⟩
          show TIo E.nox it2 σ2 Hy _
          refine ⟨_, gi, S1, mi, fl.sti hSw, ?_⟩
          rw [show evI E.nox.gl E.nox.cf it2 S1 mi = _ from q3]
          intro g3 H3 x3 k3 hl3 J1 wk1
          have x3P := x3.less (P' := P) fun a p => .inl p
          have x13 : Ext P g1 g3 H1 H3 m1.w m3.w := (hx.trans (hy P mi.w)).trans x3P
          have hD3 : H3 D = some (.dK (dkv ns)) := x3.keep D _ ((hy (fun _ => False) 0).keep D _ hD hp) hp
          have hyD := hSy.ext x3 k3
          have s3 : StI E.W P g3 H3 S m3 σ := (hSi.ext (hy _ mi.w) ky).ext x3P k3
          have s3' : StI E.W P g3 H3 S1 m3 σ2 := (fl.sti ((hSi.ext (hy _ mi.w) ky).wipe own)).ext x3P k3
          let W1 : Nat → Nat → Hp → Prop := fun j k Hj => ∃ gj mj acc2 ns2, k = es.length - j ∧ j ≤ es.length ∧ intsD acc2 = some ns2 ∧ (bindR (mapR (keR E.gl E.cf e tg2 own2 S1) (es.drop j) mj) fun ys m5 => Res.ok (acc2 ++ ys) m5) = Res.ok (acc ++ o) m' ∧
            Ext P g1 gj H1 Hj m1.w mj.w ∧ FX g3 gj H3 Hj ∧ StI E.W P gj Hj S mj σ ∧ StI E.W P gj Hj S1 mj σ2 ∧ ¬ gj.fz D ∧ D ∉ gj.ρ ∧ Hj D = some (.dK (dkv ns2))
          refine ⟨W1, ⟨es.length, g3, m3, acc, ns, by simp, by simp, hns, ?_, x13, .refl, s3, s3', (hyD.dom D (.inr rfl)).2.1, (hyD.dom D (.inr rfl)).2.2, hD3⟩, ?_⟩
          · rw [List.drop_zero, q1]; rfl
          · rintro j k Hj ⟨gj, mj, acc2, ns2, rfl, hj, hns2, hrj, hxj, fxj, hSj, hSj', hfj, hpj, hDj⟩
            by_cases hltj : j < es.length
            · obtain ⟨d2, hd2⟩ : ∃ d, es[j]? = some d := ⟨_, List.getElem?_eq_getElem hltj⟩
              have hdr2 : es.drop j = d2 :: es.drop (j + 1) := by
                rw [List.drop_eq_getElem_cons hltj]
                congr 1
                exact Option.some.inj ((List.getElem?_eq_getElem hltj).symm.trans hd2)
              rw [hdr2, mapR, bindR_assoc] at hrj
              obtain ⟨o2, m6, q6, hrj⟩ := bindR_ok hrj
              rw [bindR_assoc] at hrj
              obtain ⟨v2, rfl⟩ := keR_some q6
              obtain ⟨n, rfl, lt⟩ : ∃ n, v2 = .int n ∧ (ddI (ns2 ++ [n])).length < sizeLine := by
                obtain ⟨ys, m7, _, hz⟩ := bindR_ok hrj
                have hz : Res.ok (acc2 ++ ([v2] ++ ys)) m7 = Res.ok (acc ++ o) m' := hz
                have hz2 : acc2 ++ ([v2] ++ ys) = acc ++ o := by
                  injection hz
                have hall : intsD (acc ++ o) = some (ns ++ no) := by
                  have : ∀ (xs : List OD.D) (as : List Int), intsD xs = some as → intsD (xs ++ o) = some (as ++ no) := fun xs => by
                    induction xs with
                    | nil => intro as h; cases h; exact hno
                    | cons x xs ih =>
                      intro as h
                      cases x with
                      | int i =>
                        rw [intsD] at h
                        cases q : intsD xs with
                        | none => rw [q] at h; cases h
                        | some bs =>
                          rw [q] at h
                          cases h
                          rw [List.cons_append, intsD, ih bs q]; rfl
                      | _ => cases h
                  exact this acc ns hns
                rw [← hz2] at hall
                obtain ⟨as, bs, h3, h4, e4⟩ := intsD_app hall
                obtain ⟨cs, ds', h5, h6, rfl⟩ := intsD_app h4
                rw [hns2] at h3
                cases h3
                cases v2 with
                | int n =>
                  cases h5
                  refine ⟨n, rfl, Nat.lt_of_le_of_lt (ddI_mono _ ds') ?_⟩
                  rw [List.append_assoc, ← e4]; exact few
                | _ => cases h5
              refine .inr ⟨wk1.goes j gj Hj fxj hltj, fun x2 Hy2 y2 => ?_⟩
              obtain ⟨d', hd', hy2, ky2, rd2⟩ := wk1.yields j gj Hj mj x2 Hy2 fxj hSj.ok hltj y2
              rw [hd2] at hd'
              cases hd'
              have small : (dkv ns2).length < sizeLine := by
                have h1 := ddI_mono ns2 [n]
                unfold dkv
                rw [List.length_map]
                omega
              refine turn_key (m' := m6) (Nx := fun H' => ∃ n, n < es.length - j ∧ W1 (j + 1) n H') hsl2 k1 hD1 hP1 q6 rfl hxj hSj' hfj hpj hDj small hy2 ky2 rd2 fun g' H' x' fx' S' f' r' D' => ⟨es.length - (j + 1), by omega, g', m6, acc2 ++ [.int n], ns2 ++ [n], rfl, hltj, ?_, ?_, x', fxj.trans fx', S' _ _ hSj, S' _ _ hSj', f', r', by rw [← dkv_snoc]; exact D'⟩
              · have : ∀ (xs : List OD.D) (as : List Int), intsD xs = some as → intsD (xs ++ [.int n]) = some (as ++ [n]) := fun xs => by
                  induction xs with
                  | nil => intro as h; cases h; rfl
                  | cons x xs ih =>
                    intro as h
                    cases x with
                    | int i =>
                      rw [intsD] at h
                      cases q : intsD xs with
                      | none => rw [q] at h; cases h
                      | some bs =>
                        rw [q] at h
                        cases h
                        rw [List.cons_append, intsD, ih bs q]; rfl
                    | _ => cases h
                exact this acc2 ns2 hns2
              · rw [← hrj]
                congr 1
                funext ys m3
                simp [bindR]
            · have ej : j = es.length := by omega
              subst ej
              rw [List.drop_length, mapR] at hrj
              have hrj : Res.ok (acc2 ++ []) mj = Res.ok (acc ++ o) m' := hrj
              rw [List.append_nil] at hrj
              cases hrj
              refine .inl ⟨wk1.stops gj Hj fxj, ds.length - (i + 1), by omega, gj, _, acc ++ o, ns2, rfl, hlt, hns2, ?_, hxj, hSj, hfj, hpj, hDj⟩
              rw [← hr]
              congr 1
              funext ys m3
              simp [bindR]
        · have ei : i = ds.length := by omega
          subst ei
          rw [List.drop_length, map2R] at hr
          obtain ⟨hz, rfl⟩ := optR_ok (show optR (sdD (acc ++ [])) mi = Res.ok r m2 from hr)
          rw [List.append_nil] at hz
          obtain ⟨ns', h1, h2, rfl⟩ := sdD_of hz
          rw [hns] at h1
          cases h1
          refine .inl ⟨wk.stops gi Hi fx, D, dkv ns, ddI ns, rfl, .inl hD, ?_, fun ys p hp1 hp2 hp3 => ?_⟩
          · unfold dkv
            rw [List.map_map]; rfl
          · have h : ∀ g' H', Ext P g g' H H' m.w mi.w → GOk E.W g' H' mi → ∀ v, RV E.W H g' H' (OD.D.lst ((sortI (ddI ns)).map OD.D.int), Kd.own) v → Q v H' := h
            rw [sortI_uniq hp1 hp2]
            have ki := hSi.ok
            have xi := x1.trans hx
            refine h gi _ (xi.trans (ext_new (w := mi.w) hp3 ki)) (gok_new hp3 ki) _ ⟨_, p, _, rfl, rfl, upd_same, relds_ints _, ki.nofz hp3, ki.noρ hp3, xi.none hp3⟩
end
end OD

set_option Elab.async false
set_option autoImplicit false
set_option linter.all false
set_option maxRecDepth 100000
set_option maxHeartbeats 4000000
/-! My own layer, part 21: a list comprehension of three clauses. One lemma says what a clause does, told of what stands inside it; three clauses are two uses of it, one in the other. -/
namespace OD
open PySem PySem.Spec PyProof.Rows L2

/-- what stands inside a clause: from names and heap to what is reached -/
abbrev Bod : Type := L2.St → Hp → (Hp → Prop) → Prop
/-- all known names but those of ow are kept -/
def keepsN (ow : List Nat) (σ σ' : L2.St) : Prop := σ.length = σ'.length ∧ ∀ (j : Nat) v, (wipe σ ow)[j]? = some (some v) → σ'[j]? = some (some v)
def Runs (X : Cx) (ow : List Nat) (B : (Shared → Prop) → Shared → Prop) (body : Bod) : Prop :=
  ∀ (pins : List (Addr × Obj)) (s : Shared) (σ : L2.St) (H : Hp) (K : Hp → Prop), L2.Inv X pins σ H s → body σ H K → B (fun s' => ∃ σ' H', L2.Inv X pins σ' H' s' ∧ keepsN ow σ σ' ∧ K H') s
/-- the item's value goes to the end of the list at D -/
def elT (te : TE) (D : Addr) : Bod := fun σ H K => te σ H fun y H' => ∃ acc, H' D = some (.lst acc) ∧ acc.length < sizeLine ∧ K (upd H' D (.lst (acc ++ [y])))
/-- a clause inside another one -/
def clT (wi : TI) (g : TG) (vs : List Nat) (body : Bod) : Bod := fun σ H K => wi σ H fun J H1 => ∃ W : Nat → Nat → Hp → Prop, (∃ m, W 0 m H1) ∧ ∀ i m H, W i m H → (J.stop i H ∧ K H) ∨ (J.go i H ∧ ∀ x H', J.yld i H x H' →
  g x (wipe σ vs) H' fun σ2 H2 => wipe σ2 vs = wipe σ vs ∧ body σ2 H2 fun H3 => ∃ n, n < m ∧ W (i + 1) n H3)
section
variable {P : Program} {w : World} {A : Around} {env : Env} {D : Addr}
def elB (P : Program) (w : World) (A : Around) (env : Env) (D : Addr) (elt : Expr) (K : Shared → Prop) (s : Shared) : Prop := wpAny (model P w) A (eval elt env) (fun x s => wpAny (model P w) A (call (.builtin "list.append") [.ref D, x]) (fun _ s => K s) nx s) nx s
/-- the next clause is begun: cs its start -/
def clcB (P : Program) (w : World) (A : Around) (env : Env) (i : Expr) (cs : Value → Code) (K : Shared → Prop) (s : Shared) : Prop := wpAny (model P w) A (eval i env) (fun x s => wpAny (model P w) A (pyIter x) (fun k s => codeAny (model P w) A (cs k) (fun r s => (∃ f, r = .ok f) ∧ K s) s) nx s) nx s
def tgB (P : Program) (w : World) (A : Around) (env : Env) (t : Expr) (B : (Shared → Prop) → Shared → Prop) : Bdy := fun v K s => wpAny (model P w) A (assign t env v) (fun _ s => B K s) nx s
def Mono (B : (Shared → Prop) → Shared → Prop) : Prop := ∀ (K K' : Shared → Prop) s, (∀ s, K s → K' s) → B K s → B K' s
theorem elB_mono {elt : Expr} : Mono (elB P w A env D elt) := fun K K' s f h => wpAny_mono h (fun _ _ h => wpAny_mono h (fun _ s h => f s h) fun _ _ z => z) fun _ _ z => z
theorem clcB_mono {i : Expr} {cs : Value → Code} : Mono (clcB P w A env i cs) := fun K K' s f h => wpAny_mono h (fun _ _ h => wpAny_mono h (fun _ _ h => codeAny_mono h fun r s h => ⟨h.1, f s h.2⟩) fun _ _ z => z) fun _ _ z => z
theorem tgB_mono {t : Expr} {B : (Shared → Prop) → Shared → Prop} (h : Mono B) : ∀ v (K K' : Shared → Prop) s, (∀ s, K s → K' s) → tgB P w A env t B v K s → tgB P w A env t B v K' s := fun v K K' s f q => wpAny_mono q (fun _ s q => h K K' s f q) fun _ _ z => z
end
section
variable {X : Cx} {D : Addr}
theorem el_runs {elt : Expr} {te : TE} {ow : List Nat} (hx : ∀ e s, X.xe e s → False) (h : PE X elt te) : Runs X ow (elB X.prog X.w X.A X.env D elt) (elT te D) := fun pins s σ H K I q =>
  wpAny_mono (h.run pins s σ H _ I q) (fun x s1 ⟨y, H1, I1, r, acc, hD, hz, k⟩ => wpAny_mono (app_ok (Q := fun _ s2 => ∃ σ' H', L2.Inv X pins σ' H' s2 ∧ keepsN ow σ σ' ∧ K H') (E := nx) I1 hD hz r fun s2 I2 => ⟨σ, _, I2, ⟨rfl, fun j v e => (wipe_some e).1⟩, k⟩) (fun _ _ z => z) fun _ _ z => z) fun e s z => (hx e s z).elim
theorem cl_runs {t i : Expr} {wi : TI} {g : TG} {vs ow : List Nat} {body : Bod} {B : (Shared → Prop) → Shared → Prop} {cs cl : Value → Code} (hc : X.calm = true) (hx : ∀ e s, X.xe e s → False) (hi : PI X t i wi) (hg : PG X t g) (hB : Runs X ow B body) (mo : Mono B) (sub : ∀ j ∈ ow, j ∈ vs)
    (qt : ∀ k, (cl k).quiet = true) (tu : ∀ k, TurnIs X.prog X.w X.A (cl (.ref k)) (.ref k) (letOwnedTupleGo t (.ref k)) (tgB X.prog X.w X.A X.env t B))
    (st : ∀ k (R : Result → Shared → Prop) s, wpAny (model X.prog X.w) X.A (pyIter (.ref k)) (fun k s => codeAny (model X.prog X.w) X.A (cl k) R s) nx s → codeAny (model X.prog X.w) X.A (cl (.ref k)) R s → codeAny (model X.prog X.w) X.A (cs (.ref k)) R s) :
    Runs X vs (clcB X.prog X.w X.A X.env i cs) (clT wi g vs body) := by
  intro pins s σ H K I h
  refine wpAny_mono (hi.run pins s σ H _ I h) (fun xv s1 h1 => wpAny_mono h1 (fun k s2 h2 => ?_) fun e s z => (hx e s z).elim) fun e s z => (hx e s z).elim
  obtain ⟨it, fp, tn, J, H1, rfl, I1, T, st1, f1, W, ⟨m0, w0⟩, turn⟩ := h2
  have go : codeAny (model X.prog X.w) X.A (cl (.ref it)) (fun r s => (∃ f, r = .ok f) ∧ ∃ σ' H', L2.Inv X pins σ' H' s ∧ keepsN vs σ σ' ∧ K H') s2 := by
    refine walk_inv (X := X) (pins := pins) (σ := wipe σ vs) hc (qt _) T (tu it) (tgB_mono mo) (fun H hH b hb => ⟨hH b hb, (f1 b hb).2⟩) W (fun i m H hw => ?_) (I1.weak (wipe_length _ _) fun j v e => (wipe_some e).1) st1 (fun b hb => (f1 b hb).1) w0
    rcases turn i m H hw with ⟨stop, kH⟩ | ⟨on, each⟩
    · exact .inl ⟨stop, fun t It => ⟨⟨_, rfl⟩, _, H, It, ⟨(wipe_length _ _).symm, fun j v e => e⟩, kH⟩⟩
    · refine .inr ⟨on, fun x u G t4 pl hy rx It => ?_⟩
      refine wpAny_mono (hg.run (pins ++ pl) t4 _ G x u _ It rx (each x G hy)) (fun _ t5 ⟨σ2, G2, I5, wp2, q5⟩ => ?_) fun e s z => (hx e s z).elim
      refine mo _ _ _ (fun t6 ⟨σ3, G3, I6, kp, n, hn, wn⟩ => ⟨σ3, G3, n, I6, ?_, fun j v e => ?_, hn, wn⟩) (hB (pins ++ pl) t5 σ2 G2 _ I5 q5)
      · rw [← kp.1, ← wipe_length σ2 vs, wp2]
      · rw [← wp2] at e
        obtain ⟨e1, e2⟩ := wipe_some e
        exact kp.2 j v (by rw [wipe_out fun z => e2 (sub j z)]; exact e1)
  exact st it _ s2 (T.self X.A 0 _ _ _ st1 go) go
end

/-! ### three clauses in the model -/
section
variable {P : Program} {w : World} {A : Around} {elt t0 i0 t1 i1 t2 i2 : Expr} {scope : Scope} {pos : Pos} {it : Value} {env : Env} {D : Addr}
abbrev lcE (elt t0 i0 t1 i1 t2 i2 : Expr) (scope : Scope) (pos : Pos) : Expr := .ListComp elt [⟨t0, i0, [], 0⟩, ⟨t1, i1, [], 0⟩, ⟨t2, i2, [], 0⟩] scope pos
theorem turn2 : TurnIs P w A (.compLoop (lcE elt t0 i0 t1 i1 t2 i2 scope pos) 2 it (.ref D) env) it (letOwnedTupleGo t2 it) (tgB P w A env t2 (elB P w A env D elt)) := by
  intro s Q h
  show wpAny _ A (Sem.onRaise (compTurn (lcE elt t0 i0 t1 i1 t2 i2 scope pos) 2 it (.ref D) env) _) _ _ s
  refine wpAny_noted (env := env) (wpAny_mono (E := nx) ?_ (fun _ _ q => q) fun _ _ z => z.elim)
  show wpAny _ _ (standAt _ >>= _) _ _ _
  refine wpAny_bind (wpAny_standAt (wpAny_bind (wpAny_mono h (fun r s1 h1 => ?_) fun _ _ z => z)))
  rcases h1 with ⟨rfl, q⟩ | ⟨v, rfl, h1⟩
  · exact wpAny_pure q
  · refine wpAny_bind (wpAny_mono h1 (fun _ s2 h2 => ?_) fun _ _ z => z)
    refine wpAny_bind (wpAny_mono h2 (fun _ s3 h3 => wpAny_bind (wpAny_tests_nil ?_)) fun _ _ z => z)
    exact wpAny_bind (wpAny_bind (wpAny_mono h3 (fun a s4 h4 => wpAny_bind (wpAny_mono h4 (fun b s5 h5 => wpAny_pure (wpAny_pure h5)) fun _ _ z => z)) fun _ _ z => z))
theorem turn1 (hs : ∀ x, foldedSetIterable i2 env x = pure x) : TurnIs P w A (.compLoop (lcE elt t0 i0 t1 i1 t2 i2 scope pos) 1 it (.ref D) env) it (letOwnedTupleGo t1 it) (tgB P w A env t1 (clcB P w A env i2 fun k => .compStart (lcE elt t0 i0 t1 i1 t2 i2 scope pos) 2 k (.ref D) env)) := by
  intro s Q h
  show wpAny _ A (Sem.onRaise (compTurn (lcE elt t0 i0 t1 i1 t2 i2 scope pos) 1 it (.ref D) env) _) _ _ s
  refine wpAny_noted (env := env) (wpAny_mono (E := nx) ?_ (fun _ _ q => q) fun _ _ z => z.elim)
  show wpAny _ _ (standAt _ >>= _) _ _ _
  refine wpAny_bind (wpAny_standAt (wpAny_bind (wpAny_mono h (fun r s1 h1 => ?_) fun _ _ z => z)))
  rcases h1 with ⟨rfl, q⟩ | ⟨v, rfl, h1⟩
  · exact wpAny_pure q
  · refine wpAny_bind (wpAny_mono h1 (fun _ s2 h2 => ?_) fun _ _ z => z)
    refine wpAny_bind (wpAny_mono h2 (fun _ s3 h3 => wpAny_bind (wpAny_tests_nil ?_)) fun _ _ z => z)
    refine wpAny_bind (wpAny_mono h3 (fun x s4 h4 => ?_) fun _ _ z => z)
    refine wpAny_bind (wpAny_standAt (wpAny_bind (wpAny_of_eq (hs x) (wpAny_bind (wpAny_holding (wpAny_mono h4 (fun k s5 h5 => ?_) fun _ _ z => z))))))
    refine wpAny_bind (wpAny_runOwn ?_)
    rw [Around.mark_none]
    refine codeAny_mono h5 fun r s6 h6 => ?_
    obtain ⟨⟨f, rfl⟩, q⟩ := h6
    exact wpAny_pure q
theorem turn0 (hs : ∀ x, foldedSetIterable i1 env x = pure x) : TurnIs P w A (.compLoop (lcE elt t0 i0 t1 i1 t2 i2 scope pos) 0 it (.ref D) env) it (letOwnedTupleGo t0 it) (tgB P w A env t0 (clcB P w A env i1 fun k => .compStart (lcE elt t0 i0 t1 i1 t2 i2 scope pos) 1 k (.ref D) env)) := by
  intro s Q h
  show wpAny _ A (Sem.onRaise (compTurn (lcE elt t0 i0 t1 i1 t2 i2 scope pos) 0 it (.ref D) env) _) _ _ s
  refine wpAny_noted (env := env) (wpAny_mono (E := nx) ?_ (fun _ _ q => q) fun _ _ z => z.elim)
  show wpAny _ _ (standAt _ >>= _) _ _ _
  refine wpAny_bind (wpAny_standAt (wpAny_bind (wpAny_mono h (fun r s1 h1 => ?_) fun _ _ z => z)))
  rcases h1 with ⟨rfl, q⟩ | ⟨v, rfl, h1⟩
  · exact wpAny_pure q
  · refine wpAny_bind (wpAny_mono h1 (fun _ s2 h2 => ?_) fun _ _ z => z)
    refine wpAny_bind (wpAny_mono h2 (fun _ s3 h3 => wpAny_bind (wpAny_tests_nil ?_)) fun _ _ z => z)
    refine wpAny_bind (wpAny_mono h3 (fun x s4 h4 => ?_) fun _ _ z => z)
    refine wpAny_bind (wpAny_standAt (wpAny_bind (wpAny_of_eq (hs x) (wpAny_bind (wpAny_holding (wpAny_mono h4 (fun k s5 h5 => ?_) fun _ _ z => z))))))
    refine wpAny_bind (wpAny_runOwn ?_)
    rw [Around.mark_none]
    refine codeAny_mono h5 fun r s6 h6 => ?_
    obtain ⟨⟨f, rfl⟩, q⟩ := h6
    exact wpAny_pure q
/-- a later clause begins -/
theorem start_in {k : Nat} (hk : k = 1 ∨ k = 2) {R : Result → Shared → Prop} {s : Shared} (h : wpAny (model P w) A (pyIter it) (fun j s => codeAny (model P w) A (.compLoop (lcE elt t0 i0 t1 i1 t2 i2 scope pos) k j (.ref D) env) R s) nx s) (h0 : codeAny (model P w) A (.compLoop (lcE elt t0 i0 t1 i1 t2 i2 scope pos) k it (.ref D) env) R s) :
    codeAny (model P w) A (.compStart (lcE elt t0 i0 t1 i1 t2 i2 scope pos) k it (.ref D) env) R s := by
  refine codeAny_of_tree ?_
  show wpAny _ A (Sem.onRaise (compStart (lcE elt t0 i0 t1 i1 t2 i2 scope pos) k it (.ref D) env) _) _ _ s
  refine wpAny_notedAt (env := env) (wpAny_mono (E := nx) ?_ (fun _ _ q => q) fun _ _ z => z.elim)
  rcases hk with rfl | rfl
  · show wpAny _ _ (ask >>= _) _ _ _
    refine wpAny_bind (wpAny_askSetting (wpAny_ite ?_))
    split
    · exact wpAny_pure ⟨rfl, h0⟩
    · exact wpAny_bind (wpAny_rule (wpAny_bind (wpAny_standAt (wpAny_bind (wpAny_mono h (fun k s1 h1 => wpAny_pure ⟨rfl, h1⟩) fun _ _ z => z)))))
  · show wpAny _ _ (ask >>= _) _ _ _
    refine wpAny_bind (wpAny_askSetting (wpAny_ite ?_))
    split
    · exact wpAny_pure ⟨rfl, h0⟩
    · exact wpAny_bind (wpAny_rule (wpAny_bind (wpAny_standAt (wpAny_bind (wpAny_mono h (fun k s1 h1 => wpAny_pure ⟨rfl, h1⟩) fun _ _ z => z)))))
end
/-! ### over the layer -/
def tL3 (wi : TI) (g : TG) (vs : List Nat) (body : Addr → Bod) : TE := fun σ H Q => wi σ H fun J H1 => ∀ D, H1 D = none → ∃ W : Nat → Nat → Hp → Prop, (∃ m, W 0 m (upd H1 D (.lst []))) ∧ ∀ i m H, W i m H → (J.stop i H ∧ Q (.ref D) H) ∨ (J.go i H ∧ ∀ x H', J.yld i H x H' →
  g x (wipe σ vs) H' fun σ2 H2 => wipe σ2 vs = wipe σ vs ∧ body D σ2 H2 fun H3 => ∃ n, n < m ∧ W (i + 1) n H3)
section
variable {X : Cx} {elt t0 i0 t1 i1 t2 i2 : Expr} {scope : Scope} {own : List (Str × Nat)} {v1 v2 : List Nat} {pos : Pos} {w0 w1 w2 : TI} {g0 g1 g2 : TG} {te : TE}
theorem pe_l3 (hc : X.calm = true) (hN : X.N.Nodup) (hi : PI X t0 i0 w0) (ok : BlkOk X.N X.env.scope scope own) (h1 : ∀ i ∈ v1, i ∈ own.map (·.2)) (h2 : ∀ i ∈ v2, i ∈ v1)
    (hb : ∀ (s : Shared) (H : Hp) (C : Addr) (cl : List (Str × Addr)) (fp : List Addr), PG (X.blk s H scope (compEnvC scope cl C X.env) fp) t0 g0 ∧ PI (X.blk s H scope (compEnvC scope cl C X.env) fp) t1 i1 w1 ∧ PG (X.blk s H scope (compEnvC scope cl C X.env) fp) t1 g1 ∧
      PI (X.blk s H scope (compEnvC scope cl C X.env) fp) t2 i2 w2 ∧ PG (X.blk s H scope (compEnvC scope cl C X.env) fp) t2 g2 ∧ PE (X.blk s H scope (compEnvC scope cl C X.env) fp) elt te)
    (hs0 : ∀ x, foldedSetIterable i0 X.env x = pure x) (hs1 : ∀ env x, foldedSetIterable i1 env x = pure x) (hs2 : ∀ env x, foldedSetIterable i2 env x = pure x) :
    PE X (lcE elt t0 i0 t1 i1 t2 i2 scope pos) (tL3 w0 g0 (own.map (·.2)) fun D => clT w1 g1 v1 (clT w2 g2 v2 (elT te D))) := by
  refine ⟨fun pins s σ H Q I h => ?_⟩
  have free : ∀ y ∈ scope.names, y.2 = .free → ∃ c, X.env.cells.lookup y.1 = some c := fun y hy e => I.ok.has _ (ok.free y hy e)
  rw [eval_ListComp]
  refine wpAny_comprehension_free (use := none) rfl hs0 (closure_ok free) ok.kind (fun y hy e => by rw [ok.uniq y hy, e]) (thn (hi.run pins s σ H _ I h) fun xv s1 hq1 => thn hq1 fun itv s2 hq2 => ?_)
  obtain ⟨it, fp, tn, J, G, rfl, I2, T, ht, hf, q⟩ := hq2
  refine wpAny_newObj_type (newEnv_comp ?_) (Nat.zero_le sizeLine)
  have nD : G s2.heap.objs.size = none := I2.hok.fresh (Nat.le_refl _)
  obtain ⟨W, ⟨m0, w00⟩, turn⟩ := q _ nD
  have I3 := I2.laid (t' := s2.toks) (h' := s2.heap.push { cls := .type "list", data := .seq ([] : List Value).toArray }) (a := s2.heap.objs.size) (o := .lst []) (fun b o e => Heap.get?_push_of_some _ e) (Nat.le_refl _) ⟨Nat.zero_le _, [], 0, .nil, Heap.get?_push_size _ rfl⟩
  have young : ∀ b ∈ fp, b < s2.heap.objs.size := fun b hb => (T.obj _ _ ht b hb).elim fun o z => Heap.lt_size z.1
  have mine : ∀ b ∈ fp, FpOk X pins (upd G s2.heap.objs.size (.lst [])) b := fun b hb => ⟨by rw [upd_ne (Nat.ne_of_lt (young b hb))]; exact (hf b hb).1, (hf b hb).2⟩
  have ht3 : tn 0 (s2.heap.push { cls := .type "list", data := .seq ([] : List Value).toArray }) := T.keep _ _ _ ht fun b _ o e => Heap.get?_push_of_some _ e
  generalize hD : s2.heap.objs.size = D at *
  generalize hG3 : upd G D (.lst []) = G3 at *
  generalize hs3 : ({ s2 with heap := s2.heap.push { cls := .type "list", data := .seq ([] : List Value).toArray } } : Shared) = s3 at *
  have st : s3.heap = s2.heap.push { cls := .type "list", data := .seq ([] : List Value).toArray } := by rw [← hs3]
  have begun := block_start I3 ok hN fun b hb => ⟨mine b hb, by rw [st, Heap.size_push, hD]; exact Nat.lt_succ_of_lt (young b hb)⟩
  have kit := hb s3 G3 s3.heap.objs.size (cellsFrom (s3.heap.objs.size + 1) scope.names (cloFrom X.env.cells scope.names [])) fp
  have back : (compEnvC scope (cellsFrom (s3.heap.objs.size + 1) scope.names (cloFrom X.env.cells scope.names [])) s3.heap.objs.size X.env).locals = s3.heap.objs.size := rfl
  show codeAny _ _ (.compStart (lcE elt t0 i0 t1 i1 t2 i2 scope pos) 0 (.ref it) (.ref D) (compEnvC scope (cellsFrom (s3.heap.objs.size + 1) scope.names (cloFrom X.env.cells scope.names [])) s3.heap.objs.size X.env)) (compPost (model X.prog X.w) X.A X.xe none (EP X pins σ Q) (.ref D) s3.heap.objs.size) { s3 with heap := pushCells (s3.heap.push { cls := .type "dict", data := .dict #[] }) scope.names }
  generalize compEnvC scope (cellsFrom (s3.heap.objs.size + 1) scope.names (cloFrom X.env.cells scope.names [])) s3.heap.objs.size X.env = ce at begun kit back ⊢
  obtain ⟨kg0, ki1, kg1, ki2, kg2, ke⟩ := kit
  have ht4 : tn 0 (pushCells (s3.heap.push { cls := .type "dict", data := .dict #[] }) scope.names) := T.keep _ _ _ ht3 fun b _ o e => pushCells_keeps _ _ _ _ (Heap.get?_push_of_some _ (by rw [st]; exact e))
  have gone : ∀ b ∈ fp, G3 b = none := fun b hb => (mine b hb).1
  -- what stands inside the first clause
  have r2 := cl_runs (X := X.blk s3 G3 scope ce fp) (ow := []) (vs := v2) (cs := fun k => .compStart (lcE elt t0 i0 t1 i1 t2 i2 scope pos) 2 k (.ref D) ce) (cl := fun k => .compLoop (lcE elt t0 i0 t1 i1 t2 i2 scope pos) 2 k (.ref D) ce) hc (fun _ _ z => z) ki2 kg2
    (el_runs (D := D) (fun _ _ z => z) ke) elB_mono (fun j z => by cases z) (fun _ => rfl) (fun k => turn2) fun k R s a b => start_in (.inr rfl) a b
  have r1 := cl_runs (X := X.blk s3 G3 scope ce fp) (ow := v2) (vs := v1) (cs := fun k => .compStart (lcE elt t0 i0 t1 i1 t2 i2 scope pos) 1 k (.ref D) ce) (cl := fun k => .compLoop (lcE elt t0 i0 t1 i1 t2 i2 scope pos) 1 k (.ref D) ce) hc (fun _ _ z => z) ki1 kg1
    r2 clcB_mono h2 (fun _ => rfl) (fun k => turn1 (hs2 ce)) fun k R s a b => start_in (.inl rfl) a b
  have outer : codeAny (model X.prog X.w) X.A (.compLoop (lcE elt t0 i0 t1 i1 t2 i2 scope pos) 0 (.ref it) (.ref D) ce) (compPost (model X.prog X.w) X.A X.xe none (EP X pins σ Q) (.ref D) s3.heap.objs.size) { s3 with heap := pushCells (s3.heap.push { cls := .type "dict", data := .dict #[] }) scope.names } := by
    refine walk_inv (X := X.blk s3 G3 scope ce fp) (pins := []) hc rfl T (turn0 (hs1 ce)) (tgB_mono clcB_mono) (fun K hK b hb => ⟨hK b hb, (begun.ok.exf b hb).1, begun.ok.exfs b hb, .inl hb, (begun.ok.exf b hb).2, fun p hp => by cases hp⟩) W (fun i m K hw => ?_) begun ht4 gone w00
    rcases turn i m K hw with ⟨stop, out⟩ | ⟨on, each⟩
    · refine .inl ⟨stop, fun t It => ?_⟩
      have home : L2.Inv X pins σ K t := I3.call' (ch := fp) It.os It.base It.hok It.bare fun b hb => ⟨(mine b hb).2.2.2.1, (mine b hb).2.1, (mine b hb).2.2.2.2.1, (mine b hb).2.2.2.2.2⟩
      have noC : K s3.heap.objs.size = none := by rw [← back]; exact It.free
      obtain ⟨_, c1, _, c3, c4, c5⟩ := I3.fpOk (Nat.le_refl _) noC
      obtain ⟨n, hn, _⟩ := It.loc
      exact ⟨n, back ▸ hn, fun h' sb => ⟨.ref D, K, home.turned (t' := t.toks) (fun b o nb e => (sb.2 b nb).trans e) noC c1 c3 c4 c5, rfl, out⟩⟩
    · refine .inr ⟨on, fun x u K1 t pl hy rx It => ?_⟩
      refine wpAny_mono (kg0.run ([] ++ pl) t _ K1 x u _ It rx (each x K1 hy)) (fun _ t1 ⟨σ2, K2, It2, wp2, q2⟩ => ?_) fun _ _ z => z
      refine clcB_mono _ _ _ (fun t3 ⟨σ3, K3, It3, kp, n, hn, wn⟩ => ⟨σ3, K3, n, It3, ?_, fun j v e => ?_, hn, wn⟩) (r1 _ t1 σ2 K2 _ It2 q2)
      · rw [← kp.1, ← wipe_length σ2 (own.map (·.2)), wp2]
      · rw [← wp2] at e
        obtain ⟨e1, e2⟩ := wipe_some e
        exact kp.2 j v (by rw [wipe_out fun z => e2 (h1 j z)]; exact e1)
  exact codeAny_compStart_list outer (T.self X.A 0 _ _ _ ht4 outer)
end

/-! ### as a result -/
theorem mapR_map2 (f : OD.D → MS → Res (Option OD.D)) : ∀ (ds : List OD.D) (m : MS), mapR f ds m = map2R (fun d m => bindR (f d m) fun o m1 => .ok o.toList m1) ds m
  | [], m => rfl
  | d :: ds, m => by
    rw [mapR, map2R, bindR_assoc]
    congr 1
    funext o m1
    show _ = bindR (map2R _ ds m1) _
    rw [mapR_map2 f ds m1]
/-- one item: its names, then what f makes -/
def itR (tg : T) (own : List Nat) (S : Sto) (f : Sto → MS → Res (List OD.D)) : OD.D → MS → Res (List OD.D) := fun d m => bindR (optR (tgT tg d .sh (wipeS S own)) m) fun S1 m1 => f S1 m1
def lastR (gl : List OD.D) (cf : Nat → List OD.D → MS → Res (OD.D × Kd)) (e : T) : Sto → MS → Res (List OD.D) := fun S m => bindR (evE gl cf e S m) fun y m3 => bindR (toV y m3) fun v m4 => .ok [v] m4
def inR3 (gl : List OD.D) (cf : Nat → List OD.D → MS → Res (OD.D × Kd)) (it tg : T) (own : List Nat) (f : Sto → MS → Res (List OD.D)) : Sto → MS → Res (List OD.D) := fun S m => bindR (evI gl cf it S m) fun es m2 => map2R (itR tg own S f) es m2
def l3R (gl : List OD.D) (cf : Nat → List OD.D → MS → Res (OD.D × Kd)) (e tg tg2 it2 tg3 it3 : T) (own own2 own3 : List Nat) (S : Sto) : OD.D → MS → Res (List OD.D) := itR tg own S (inR3 gl cf it2 tg2 own2 (inR3 gl cf it3 tg3 own3 (lastR gl cf e)))
theorem evE_lc3 (gl : List OD.D) (cf : Nat → List OD.D → MS → Res (OD.D × Kd)) (e tg it tg2 it2 tg3 it3 : T) (own own2 own3 : List Nat) (S : Sto) (m : MS) : evE gl cf (.lc3 e tg it tg2 it2 tg3 it3 own own2 own3) S m = noX (bindR (evI gl cf it S m) fun ds m1 => bindR (map2R (l3R gl cf e tg tg2 it2 tg3 it3 own own2 own3 S) ds m1) fun ys m2 => needR (ys.length ≤ sizeLine) fun _ => .ok (.lst ys, .own) m2) := by
  have key : ∀ (S2 : Sto) (fs : List OD.D) (m2 : MS), mapR (fun d m => bindR (optR (tgT tg3 d .sh (wipeS S2 own3)) m) fun S3 m1 => bindR (evE gl cf e S3 m1) fun y m3 => bindR (toV y m3) fun v m4 => .ok (some v) m4) fs m2 = map2R (itR tg3 own3 S2 (lastR gl cf e)) fs m2 := fun S2 fs m2 => by
    rw [mapR_map2]
    congr 1
    funext d m
    unfold itR lastR
    rw [bindR_assoc]
    congr 1
    funext S3 m1
    rw [bindR_assoc]
    congr 1
    funext y m3
    rw [bindR_assoc]
    rfl
  simp only [evE, key]
  rfl
/-- body puts at the end of the list at D what f gives -/
def Real (E : En) (D : Addr) (body : Bod) (f : Sto → MS → Res (List OD.D)) : Prop :=
  ∀ {P : Addr → Prop} {g1 gi : Gh} {H1 Hi : Hp} {m1 mi m' : MS} {S : Sto} {σ : L2.St} {vs : List V} {acc o : List OD.D}, GOk E.W g1 H1 m1 → H1 D = none → (∀ a, P a → H1 a ≠ none) → f S mi = .ok o m' →
    Ext P g1 gi H1 Hi m1.w mi.w → StI E.W P gi Hi S mi σ → ¬ gi.fz D → D ∉ gi.ρ → Hi D = some (.lst vs) → RelDs E.W gi Hi acc vs → (acc ++ o).length ≤ sizeLine → ∀ Nx : Hp → Prop,
    (∀ g' H' us, Ext P g1 g' H1 H' m1.w m'.w → FX gi g' Hi H' → (∀ S2 σ2, StI E.W P gi Hi S2 mi σ2 → StI E.W P g' H' S2 m' σ2) → ¬ g'.fz D → D ∉ g'.ρ → H' D = some (.lst us) → RelDs E.W g' H' (acc ++ o) us → Nx H') → body σ Hi Nx
theorem last_real {E : En} {D : Addr} {e : T} : Real E D (elT (TEo E.nox e) D) (lastR E.gl E.cf e) := by
  intro P g1 gi H1 Hi m1 mi m' S σ vs acc o k1 hD1 hP1 hF hx hS hf hr hD ra hl Nx nxt
  obtain ⟨⟨yd, yk⟩, m3, q3, hF⟩ := bindR_ok hF
  have hSy := sti_more hS hf hr hD
  have hdie : P D → False := fun p => hP1 D p hD1
  refine ⟨_, gi, S, mi, hSy, ?_⟩
  rw [show evE E.nox.gl E.nox.cf e S mi = _ from q3]
  intro g4 H4 x4 k4 yv ry
  have hb : yk ≠ .bor := fun z => by subst z; cases hF
  obtain ⟨g5, x5, k5, r5⟩ := ry.keep (P := fun a => P a ∨ a = D) (w := m3.w) k4 (fun a p => (hSy.dom a p).1) hb
  have eo : o = [yd] ∧ m' = m3 := by
    cases yk with
    | sh => cases hF; exact ⟨rfl, rfl⟩
    | own => cases hF; exact ⟨rfl, rfl⟩
    | bor => cases hF
  obtain ⟨rfl, rfl⟩ := eo
  have x45 := x4.trans x5
  have h5 := hSy.ext x45 k5
  obtain ⟨h51, h52, h53⟩ := h5.dom D (.inr rfl)
  have hD5 : H4 D = some (.lst vs) := x45.keep D _ hD (hSy.dom D (.inr rfl)).2.2
  have ra5 : RelDs E.W g5 H4 acc vs := ra.ext x45 hS.ok
  have fx := fx_own (o := .lst (vs ++ [yv])) h52 hD5
  refine ⟨vs, hD5, ?_, nxt g5 _ _ ((hx.trans (x45.less fun a p => .inl p)).own k1 hD1) ((x45.fx hS.ok).trans fx) (fun S2 σ2 hS2 => sti_own (hS2.ext (x45.less fun a p => .inl p) k5) hdie h52 h53 hD5) h52 h53 upd_same ((ra5.fx fx).append (.cons (r5.fx fx) .nil))⟩
  rw [← ra5.length]
  rw [List.length_append, List.length_singleton] at hl
  exact hl
theorem map2_len {F : OD.D → MS → Res (List OD.D)} {ds : List OD.D} {m m' : MS} {acc o : List OD.D} {d : OD.D} {o2 : List OD.D} {m6 : MS} (h : (bindR (map2R F ds m6) fun ys m5 => Res.ok (acc ++ (o2 ++ ys)) m5) = Res.ok o m') : (acc ++ o2).length ≤ o.length := by
  obtain ⟨ys, m7, _, hz⟩ := bindR_ok h
  injection hz with hz _
  rw [← hz]
  simp only [List.length_append]
  omega
/-- a clause inside another one -/
theorem in_real {E : En} {D : Addr} {it tg : T} {own : List Nat} {body : Bod} {f : Sto → MS → Res (List OD.D)} (hsl : ∀ i ∈ slT tg, i ∈ own) (hb : Real E D body f) : Real E D (clT (TIo E.nox it) (gT E.W.K tg) own body) (inR3 E.gl E.cf it tg own f) := by
  intro P g1 gi H1 Hi m1 mi m' S σ vs acc o k1 hD1 hP1 hF hx hS hf hr hD ra hl Nx nxt
  obtain ⟨es, m3, q3, q1⟩ := bindR_ok hF
  have hSy := sti_more hS hf hr hD
  refine ⟨_, gi, S, mi, hSy, ?_⟩
  rw [show evI E.nox.gl E.nox.cf it S mi = _ from q3]
  intro g3 H3 x3 k3 hl3 J wk
  have x3P := x3.less (P' := P) fun a p => .inl p
  have hyD := hSy.ext x3 k3
  refine ⟨fun j k Hj => ∃ gj mj acc2 us, k = es.length - j ∧ j ≤ es.length ∧ (bindR (map2R (itR tg own S f) (es.drop j) mj) fun ys m5 => Res.ok (acc2 ++ ys) m5) = Res.ok (acc ++ o) m' ∧
    Ext P g1 gj H1 Hj m1.w mj.w ∧ FX g3 gj H3 Hj ∧ (∀ S2 σ2, StI E.W P gi Hi S2 mi σ2 → StI E.W P gj Hj S2 mj σ2) ∧ ¬ gj.fz D ∧ D ∉ gj.ρ ∧ Hj D = some (.lst us) ∧ RelDs E.W gj Hj acc2 us, ⟨es.length, g3, m3, acc, vs, by simp, by simp, ?_, hx.trans x3P, .refl, fun S2 σ2 h => h.ext x3P k3, (hyD.dom D (.inr rfl)).2.1, (hyD.dom D (.inr rfl)).2.2, x3.keep D _ hD hr, ra.ext x3 hS.ok⟩, ?_⟩
  · rw [List.drop_zero, q1]; rfl
  · rintro j k Hj ⟨gj, mj, acc2, us, rfl, hj, hrj, hxj, fxj, hSj, hfj, hpj, hDj, raj⟩
    by_cases hltj : j < es.length
    · obtain ⟨d2, hd2⟩ : ∃ d, es[j]? = some d := ⟨_, List.getElem?_eq_getElem hltj⟩
      have hdr2 : es.drop j = d2 :: es.drop (j + 1) := by
        rw [List.drop_eq_getElem_cons hltj]
        congr 1
        exact Option.some.inj ((List.getElem?_eq_getElem hltj).symm.trans hd2)
      rw [hdr2, map2R, bindR_assoc] at hrj
      obtain ⟨o2, m6, q6, hrj⟩ := bindR_ok hrj
      rw [bindR_assoc] at hrj
      have hrj : (bindR (map2R (itR tg own S f) (es.drop (j + 1)) m6) fun ys m5 => Res.ok (acc2 ++ (o2 ++ ys)) m5) = Res.ok (acc ++ o) m' := hrj
      have few := map2_len (d := d2) (m := mj) hrj
      obtain ⟨S1, e1, q7⟩ : ∃ S1, tgT tg d2 .sh (wipeS S own) = some S1 ∧ f S1 mj = .ok o2 m6 := by
        unfold itR at q6
        cases q : tgT tg d2 .sh (wipeS S own) with
        | none => rw [q] at q6; cases q6
        | some S1 => rw [q] at q6; exact ⟨S1, rfl, q6⟩
      have sj := hSj _ _ hS
      refine .inr ⟨wk.goes j gj Hj fxj hltj, fun x2 Hy2 y2 => ?_⟩
      obtain ⟨d', hd', hy2, ky2, rd2⟩ := wk.yields j gj Hj mj x2 Hy2 fxj sj.ok hltj y2
      rw [hd2] at hd'
      cases hd'
      have sy := sj.ext (hy2 P mj.w) ky2
      obtain ⟨σ2, fl, gk⟩ := tgT_ok (W := E.W) (g := gj) (H := Hy2) e1 rd2 (sy.wipe own).len
      have fy : FX gj gj Hj Hy2 := (hy2 (fun _ => False) 0).fx sj.ok
      refine gk _ ⟨fl.wipe hsl, hb k1 hD1 hP1 q7 (hxj.trans (hy2 P mj.w)) (fl.sti (sy.wipe own)) hfj hpj ((hy2 (fun _ => False) 0).keep D _ hDj hpj) (raj.ext (hy2 (fun _ => False) 0) sj.ok) (Nat.le_trans few hl) _ fun g' H' us' x' fx' S' f' r' D' ra' =>
        ⟨es.length - (j + 1), by omega, g', m6, acc2 ++ o2, us', rfl, hltj, ?_, x', fxj.trans (fy.trans fx'), fun S2 σ2 h => S' _ _ ((hSj _ _ h).ext (hy2 P mj.w) ky2), f', r', D', ra'⟩⟩
      rw [← hrj]
      congr 1
      funext ys m3
      rw [List.append_assoc]
    · have ej : j = es.length := by omega
      subst ej
      rw [List.drop_length, map2R] at hrj
      have hrj : Res.ok (acc2 ++ []) mj = Res.ok (acc ++ o) m' := hrj
      rw [List.append_nil] at hrj
      injection hrj with e1 e2
      subst e1 e2
      exact .inl ⟨wk.stops gj Hj fxj, nxt gj Hj us hxj ((x3P.fx hS.ok).trans fxj) hSj hfj hpj hDj raj⟩
theorem lc3_ok {E : En} {e tg it tg2 it2 tg3 it3 : T} {own own2 own3 : List Nat} (hsl : ∀ i ∈ slT tg, i ∈ own) (hsl2 : ∀ i ∈ slT tg2, i ∈ own2) (hsl3 : ∀ i ∈ slT tg3, i ∈ own3) (σ : L2.St) (H : Hp) (Q : VK) (h : TEo E (.lc3 e tg it tg2 it2 tg3 it3 own own2 own3) σ H Q) :
    tL3 (TIo E it) (gT E.W.K tg) own (fun D => clT (TIo E.nox it2) (gT E.W.K tg2) own2 (clT (TIo E.nox it3) (gT E.W.K tg3) own3 (elT (TEo E.nox e) D))) σ H Q := by
  obtain ⟨P, g, S, m, hS, h⟩ := h
  rw [evE_lc3] at h
  refine ⟨P, g, S, m, hS, ?_⟩
  cases q : evI E.gl E.cf it S m with
  | bad => rw [q] at h; exact h.elim
  | exc c fs m1 => rw [q] at h; exact h.elim
  | ok ds m1 =>
    rw [q] at h
    replace h : SatR E.W P g H m.w (E.ex σ) (noX (bindR (map2R (l3R E.gl E.cf e tg tg2 it2 tg3 it3 own own2 own3 S) ds m1) fun ys m2 => needR (ys.length ≤ sizeLine) fun _ => Res.ok (OD.D.lst ys, Kd.own) m2)) fun x _ g' H' => ∀ v, RV E.W H g' H' x v → Q v H' := h
    generalize hR : (bindR (map2R (l3R E.gl E.cf e tg tg2 it2 tg3 it3 own own2 own3 S) ds m1) fun ys m2 => needR (ys.length ≤ sizeLine) fun _ => Res.ok (OD.D.lst ys, Kd.own) m2) = R0 at h
    cases R0 with
    | bad => exact h.elim
    | exc c fs m1 => exact h.elim
    | ok r m2 =>
      obtain ⟨all, m9, hall, hR⟩ := bindR_ok hR
      obtain ⟨few, hR⟩ := needR_ok hR
      injection hR with er em
      subst er em
      intro g1 H1 x1 k1 hl J wk D hD1
      have hS1 := hS.ext x1 k1
      have hP1 : ∀ a, P a → H1 a ≠ none := fun a p => (hS1.dom a p).1
      have inner : Real E D (clT (TIo E.nox it2) (gT E.W.K tg2) own2 (clT (TIo E.nox it3) (gT E.W.K tg3) own3 (elT (TEo E.nox e) D))) (inR3 E.gl E.cf it2 tg2 own2 (inR3 E.gl E.cf it3 tg3 own3 (lastR E.gl E.cf e))) := in_real hsl2 (in_real hsl3 last_real)
      refine ⟨fun i k Hi => ∃ gi mi acc vs, k = ds.length - i ∧ i ≤ ds.length ∧ (bindR (map2R (l3R E.gl E.cf e tg tg2 it2 tg3 it3 own own2 own3 S) (ds.drop i) mi) fun ys m5 => Res.ok (acc ++ ys) m5) = Res.ok all m9 ∧
        Ext P g1 gi H1 Hi m1.w mi.w ∧ StI E.W P gi Hi S mi σ ∧ ¬ gi.fz D ∧ D ∉ gi.ρ ∧ Hi D = some (.lst vs) ∧ RelDs E.W gi Hi acc vs, ⟨ds.length, g1, m1, [], [], by simp, by simp, ?_, (Ext.refl (g := g1)).own k1 hD1, ?_, k1.nofz hD1, k1.noρ hD1, upd_same, .nil⟩, ?_⟩
      · rw [List.drop_zero, hall]; rfl
      · exact hS1.ext (ext_new (w := m1.w) hD1 k1) (gok_new hD1 k1)
      · rintro i k Hi ⟨gi, mi, acc, vs, rfl, hi, hr, hx, hSi, hf, hp, hD, ra⟩
        have fx : FX g1 gi H1 Hi := hx.fx k1
        by_cases hlt : i < ds.length
        · obtain ⟨d, hd⟩ : ∃ d, ds[i]? = some d := ⟨_, List.getElem?_eq_getElem hlt⟩
          have hdr : ds.drop i = d :: ds.drop (i + 1) := by
            rw [List.drop_eq_getElem_cons hlt]
            congr 1
            exact Option.some.inj ((List.getElem?_eq_getElem hlt).symm.trans hd)
          rw [hdr, map2R, bindR_assoc] at hr
          obtain ⟨o, m', q1, hr⟩ := bindR_ok hr
          rw [bindR_assoc] at hr
          have hr : (bindR (map2R (l3R E.gl E.cf e tg tg2 it2 tg3 it3 own own2 own3 S) (ds.drop (i + 1)) m') fun ys m5 => Res.ok (acc ++ (o ++ ys)) m5) = Res.ok all m9 := hr
          have fewer := map2_len (d := d) (m := mi) hr
          obtain ⟨S1, e1, q7⟩ : ∃ S1, tgT tg d .sh (wipeS S own) = some S1 ∧ inR3 E.gl E.cf it2 tg2 own2 (inR3 E.gl E.cf it3 tg3 own3 (lastR E.gl E.cf e)) S1 mi = .ok o m' := by
            unfold l3R itR at q1
            cases q : tgT tg d .sh (wipeS S own) with
            | none => rw [q] at q1; cases q1
            | some S1 => rw [q] at q1; exact ⟨S1, rfl, q1⟩
          refine .inr ⟨wk.goes i gi Hi fx hlt, fun x Hy y => ?_⟩
          obtain ⟨d', hd', hy, ky, rd⟩ := wk.yields i gi Hi mi x Hy fx hSi.ok hlt y
          rw [hd] at hd'
          cases hd'
          have sy := hSi.ext (hy P mi.w) ky
          obtain ⟨σ2, fl, gk⟩ := tgT_ok (W := E.W) (g := gi) (H := Hy) e1 rd (sy.wipe own).len
          refine gk _ ⟨fl.wipe hsl, inner k1 hD1 hP1 q7 (hx.trans (hy P mi.w)) (fl.sti (sy.wipe own)) hf hp ((hy (fun _ => False) 0).keep D _ hD hp) (ra.ext (hy (fun _ => False) 0) hSi.ok) (Nat.le_trans fewer few) _ fun g' H' us x' fx' S' f' r' D' ra' =>
            ⟨ds.length - (i + 1), by omega, g', m', acc ++ o, us, rfl, hlt, ?_, x', S' _ _ sy, f', r', D', ra'⟩⟩
          rw [← hr]
          congr 1
          funext ys m3
          rw [List.append_assoc]
        · have ei : i = ds.length := by omega
          subst ei
          rw [List.drop_length, map2R] at hr
          have hr : Res.ok (acc ++ []) mi = Res.ok all m9 := hr
          rw [List.append_nil] at hr
          injection hr with e1 e2
          subst e1 e2
          refine .inl ⟨wk.stops gi Hi fx, ?_⟩
          exact h gi Hi (x1.trans hx) hSi.ok _ ⟨acc, D, vs, rfl, rfl, hD, ra, hf, hp, x1.none hD1⟩

/-! ### a list lent to a test -/
theorem strS_get (S : Sto) (j : Nat) : getS (S.map strS) j = strS (getS S j) := by
  unfold getS
  rw [List.getD_eq_getElem?_getD, List.getD_eq_getElem?_getD, List.getElem?_map]
  cases S[j]? <;> rfl
theorem st_lnd {X : Cx} {E : En} {e : Expr} {i : Nat} {c : T} (h : PT X e (TBo E c)) : PT X e (TBo E (.lnd i c)) := h.imp fun σ H Q ⟨P, g, S, m, hS, h⟩ => by
  simp only [evB] at h
  split at h
  · rename_i ds hg
    have hs := hS.slot i
    rw [hg] at hs
    obtain ⟨a, u, h1, h2, h3, h4⟩ := hs
    cases h3 with
    | lst r =>
      rename_i vs
      obtain ⟨hn, hz, hρ⟩ := hS.dom a h4
      have fr : Ext (fun _ => False) g (g.frz a) H H m.w m.w := ext_frz fun z => z
      have kf := gok_frz hS.ok hρ (.inl ⟨vs, h2⟩)
      refine ⟨fun _ => False, g.frz a, (S.map strS).set i (some (.lst ds, false)), m, ⟨kf, fun b z => z.elim, fun j => ?_, by rw [List.length_set, List.length_map]; exact hS.len⟩, ?_⟩
      · unfold getS
        rw [getD_set]
        split
        · rename_i hj
          obtain ⟨rfl, _⟩ := hj
          exact ⟨.ref a, h1, .lst h2 (.inr rfl) (r.ext fr hS.ok)⟩
        · have q := strS_get S j
          unfold getS at q
          rw [q]
          have hs := hS.slot j
          unfold getS at hs
          revert hs
          cases S.getD j none with
          | none => exact fun _ => trivial
          | some p =>
            obtain ⟨d, b⟩ := p
            cases b with
            | true => exact fun _ => trivial
            | false => exact fun ⟨v, e1, e2⟩ => ⟨v, e1, e2.ext fr hS.ok⟩
      · cases q : evB E.gl E.cf c ((S.map strS).set i (some (.lst ds, false))) m with
        | bad => rw [q] at h; exact h.elim
        | exc c fs m2 => rw [q] at h; exact h.elim
        | ok b m2 =>
          rw [q] at h
          obtain ⟨⟨w1, l1⟩, h⟩ := SatR.need (show SatR E.W P g H m.w (E.ex σ) (needR (m2.w = m.w ∧ m2.objs.length = m.objs.length) fun _ => Res.ok b m) _ from h)
          intro g2 H2 x2 k2
          have back : Ext P g g H H2 m.w m.w := ⟨fun b o e n => x2.keep b o e n, fun b e => x2.live b e, fun _ z => z, fun _ _ z => z, ⟨[], by simp, by simp⟩, Nat.le_refl _, fun _ b hb => x2.wr w1 b hb⟩
          exact h g H2 back (hS.ok.ext_same back rfl (fun b hb => x2.wr w1 b hb) fun b z => .inl z)
  · exact h.elim
end OD

set_option Elab.async false
set_option autoImplicit false
set_option linter.all false
set_option maxRecDepth 100000
set_option maxHeartbeats 8000000
/-! My own layer, part 10: a def's text against the small language. -/
namespace OD
open PySem PySem.Spec PyProof.Rows L2

structure Ck where
  N : List Str
  sc : Scope
  fn : Str → Bool
  gls : List Str
  fns : List (Str × Nat)
  cls : List (Str × Str)
  hot : Bool
def visB (sc : Scope) (x : Str) : Bool := match sc.names.lookup x with
  | some .local => true | some .cell => true | some .free => true
  | _ => false
def isLoc (sc : Scope) (x : Str) : Bool := decide (sc.names.lookup x = some .local)
def isCel (sc : Scope) (x : Str) : Bool := decide (sc.names.lookup x = some .cell)
def glB (sc : Scope) (x : Str) : Bool := decide (sc.names.lookup x = some .globalImplicit)
def nmB (C : Ck) (i : Nat) (x : Str) : Bool := decide (C.N[i]? = some x) && visB C.sc x && !(x == ("__debug__" : Str)) && !(x == ("__classdict__" : Str))
/-- a name that is written -/
def stB (C : Ck) (i : Nat) (x : Str) : Bool := decide (C.N[i]? = some x) && (isLoc C.sc x || (isCel C.sc x && C.fn x))
def isOp : BO → Operator → Bool
  | .add, .Add => true | .sub, .Sub => true | .mul, .Mult => true | .fdiv, .FloorDiv => true | .mod, .Mod => true | .pow, .Pow => true
  | _, _ => false
def isCo : CO → CmpOp → Bool
  | .eq, .Eq => true | .ne, .NotEq => true | .lt, .Lt => true | .le, .LtE => true | .gt, .Gt => true | .ge, .GtE => true | .inn, .In => true | .nin, .NotIn => true | .iss, .Is => true | .nis, .IsNot => true
  | _, _ => false
theorem isOp_ok {o : BO} {p : Operator} (h : isOp o p = true) : p = opOf o := by cases o <;> cases p <;> first | rfl | cases h
theorem isCo_ok {o : CO} {p : CmpOp} (h : isCo o p = true) : p = coOf o := by cases o <;> cases p <;> first | rfl | cases h
def notSet : Expr → Bool
  | .Set _ _ _ => false
  | _ => true
def isTup : Expr → Bool
  | .Tuple _ _ _ => true
  | _ => false
/-- a list comprehension -/
def isLC : Expr → Bool
  | .ListComp _ gs _ _ => decide (gs.length ≤ 2)
  | _ => false
/-- a comprehension that swaps its names with the target -/
def swB (sc : Scope) (e : Expr) (x : Str) (p : Pos) : Bool := match e with
  | .ListComp _ _ s ep => isLoc sc x && (p.line == ep.line) && !(s.names.any fun (n, k) => n == x && (k == .local || k == .cell))
  | .SetComp _ _ _ _ => true
  | .DictComp _ _ _ _ _ => true
  | _ => false
def pure0 : Expr → Bool
  | .ListComp _ _ _ _ => false
  | .SetComp _ _ _ _ => false
  | .DictComp _ _ _ _ _ => false
  | _ => true
/-- the block of a comprehension -/
def Ck.blk (C : Ck) (scope : Scope) : Ck := { C with sc := relS scope C.sc, fn := fun x => scope.names.lookup x == some .cell }
def ownP (C : Ck) (own : List Nat) : List (Str × Nat) := own.map fun i => (C.N.getD i ⟨#[]⟩, i)

/-- in an except suite -/
def Ck.su (C : Ck) : Ck := { C with hot := true }
/-- the class's name in the text -/
def clB (C : Ck) (y : Nat) (n : Str) : Bool := (decide (y = 1000) && decide (n = ("ValueError" : Str))) || decide ((C.cls[y]?).map (·.1) = some n)
def isNonT : T → Bool
  | .non => true
  | _ => false
def noSl : Expr → Bool
  | .Slice _ _ _ _ => false
  | _ => true
def isTru : T → Bool
  | .tru => true
  | _ => false
mutual
def chkE (C : Ck) : T → Expr → Bool
  | .stk, _ => true
  | .non, e => match e with | .Constant .none _ _ => true | _ => false
  | .tru, e => match e with | .Constant (.bool true) _ _ => true | _ => false
  | .fls, e => match e with | .Constant (.bool false) _ _ => true | _ => false
  | .int i, e => match e with | .Constant (.int j) _ _ => decide (i = j) | _ => false
  | .str x, e => match e with | .Constant (.str y) _ _ => decide (x = y) | _ => false
  | .var i, e => match e with | .Name x _ => nmB C i x | _ => false
  | .bvar i, e => match e with | .Name x _ => nmB C i x | _ => false
  | .glob j, e => match e with | .Name x _ => decide (C.gls[j]? = some x) && glB C.sc x && !(x == ("__debug__" : Str)) | _ => false
  | .gfn i, e => match e with | .Name x _ => !C.hot && decide ((C.fns[i]?).map (·.1) = some x) && glB C.sc x && !(x == ("__debug__" : Str)) | _ => false
  | .bin o a b, e => match e with | .BinOp e1 p e2 _ => isOp o p && chkE C a e1 && chkE C b e2 | _ => false
  | .neg a, e => match e with | .UnaryOp .USub e1 _ => chkE C a e1 | _ => false
  | .cmp o a b, e => match e with | .Compare e1 [p] [e2] _ => isCo o p && !(behindInMarks p e2) && chkE C a e1 && chkE C b e2 | _ => false
  | .chn o p a b c, e => match e with | .Compare e1 [p1, p2] [e2, e3] _ => isCo o p1 && isCo p p2 && !(lastMarks [p1, p2] [e2, e3]) && chkE C a e1 && chkE C b e2 && chkE C c e3 | _ => false
  | .ban as, e => match e with | .BoolOp .And es _ => chkV C as es | _ => false
  | .bor as, e => match e with | .BoolOp .Or es _ => chkV C as es | _ => false
  | .not a, e => match e with | .UnaryOp .Not e1 _ => chkE C a e1 | _ => false
  | .ite c a b, e => match e with | .IfExp e1 e2 e3 _ => chkB C c e1 && chkE C a e2 && chkE C b e3 | _ => false
  | .tup as, e => match e with | .Tuple es _ _ => chkA C as es | _ => false
  | .lst as, e => match e with | .List es _ => chkA C as es | _ => false
  | .olst as, e => match e with | .List es _ => chkA C as es | _ => false
  | .idx a i, e => match e with | .Subscript e1 e2 _ => noSl e2 && chkE C a e1 && chkE C i e2 | _ => false
  | .slc a lo hi, e => match e with | .Subscript e1 (.Slice l h none _) _ => chkE C a e1 && chkP C lo l && chkP C hi h | _ => false
  | .call f as, e => match e with | .Call (.Name x _) (e1 :: es) [] _ => !C.hot && decide ((C.fns[f]?).map (·.1) = some x) && glB C.sc x && !(x == ("__debug__" : Str)) && (e1 :: es).all noStar && chkA C as (e1 :: es) | _ => false
  | .callv i as, e => match e with | .Call (.Name x _) (e1 :: es) [] _ => !C.hot && nmB C i x && (e1 :: es).all noStar && chkA C as (e1 :: es) | _ => false
  | .blt f as, e => match e with | .Call (.Name x _) (e1 :: es) [] _ => !C.hot && decide (x = bfN f) && glB C.sc x && (e1 :: es).all noStar && chkA C as (e1 :: es) | _ => false
  | .isi a t, e => match e with | .Call (.Name x _) [e1, .Name y _] [] _ => decide (x = ("isinstance" : Str)) && glB C.sc x && decide (y = Str.ofString (tyN t)) && glB C.sc y && noStar e1 && chkE C a e1 | _ => false
  | .lc e c tg it own, ex => match ex with
    | .ListComp elt [⟨tge, iter, ifs, 0⟩] scope _ => !C.hot && blkC C.N C.sc scope (ownP C own) && chkI C it iter (isTup tge) && notSet iter && chkG (C.blk scope) tg tge && decide (∀ i ∈ slT tg, i ∈ own) && (match ifs with | [] => isTru c | [ce] => chkB (C.blk scope) c ce | _ => false) && chkE (C.blk scope) e elt
    | _ => false
  | .lc2 e c tg it tg2 it2 own own2, ex => match ex with
    | .ListComp elt [⟨tge, iter, [], 0⟩, ⟨tge2, iter2, ifs, 0⟩] scope _ => !C.hot && blkC C.N C.sc scope (ownP C own) && chkI C it iter (isTup tge) && notSet iter && chkG (C.blk scope) tg tge && decide (∀ i ∈ slT tg, i ∈ own) && chkI (C.blk scope) it2 iter2 (isTup tge2) && notSet iter2 && chkG (C.blk scope) tg2 tge2 && decide (∀ i ∈ slT tg2, i ∈ own2) && decide (∀ i ∈ own2, i ∈ own) && (match ifs with | [] => isTru c | [ce] => chkB (C.blk scope) c ce | _ => false) && chkE (C.blk scope) e elt
    | _ => false
  | .sd2 e tg it tg2 it2 own own2, ex => match ex with
    | .Call (.Name x _) [.DictComp kx (.Constant (.bool true) _ _) [⟨tge, iter, [], 0⟩, ⟨tge2, iter2, [], 0⟩] scope _] [] _ => !C.hot && decide (x = ("sorted" : Str)) && glB C.sc x && blkC C.N C.sc scope (ownP C own) && chkI C it iter (isTup tge) && notSet iter && chkG (C.blk scope) tg tge && decide (∀ i ∈ slT tg, i ∈ own) && chkI (C.blk scope) it2 iter2 (isTup tge2) && notSet iter2 && chkG (C.blk scope) tg2 tge2 && decide (∀ i ∈ slT tg2, i ∈ own2) && decide (∀ i ∈ own2, i ∈ own) && chkE (C.blk scope) e kx
    | _ => false
  | .lc3 e tg it tg2 it2 tg3 it3 own own2 own3, ex => match ex with
    | .ListComp elt [⟨tge, iter, [], 0⟩, ⟨tge2, iter2, [], 0⟩, ⟨tge3, iter3, [], 0⟩] scope _ => !C.hot && blkC C.N C.sc scope (ownP C own) && chkI C it iter (isTup tge) && notSet iter && chkG (C.blk scope) tg tge && decide (∀ i ∈ slT tg, i ∈ own) && chkI (C.blk scope) it2 iter2 (isTup tge2) && notSet iter2 && chkG (C.blk scope) tg2 tge2 && decide (∀ i ∈ slT tg2, i ∈ own2) && decide (∀ i ∈ own2, i ∈ own) && chkI (C.blk scope) it3 iter3 (isTup tge3) && notSet iter3 && chkG (C.blk scope) tg3 tge3 && decide (∀ i ∈ slT tg3, i ∈ own3) && decide (∀ i ∈ own3, i ∈ own2) && chkE (C.blk scope) e elt
    | _ => false
  | .jn s a, e => match e with | .Call (.Attribute (.Constant (.str x) _ _) m ap) [e1] [] cp => decide (s = x) && decide (m = ("join" : Str)) && noStar e1 && (ap.endLine == cp.line) && chkE C a e1 | _ => false
  | .xat j a, e => match e with | .Attribute (.Name x p) f _ => C.hot && ((decide (j = 0) && decide (f = ("place" : Str))) || (decide (j = 1) && decide (f = ("word" : Str)))) && chkE C a (.Name x p) | _ => false
  | .xis y a, e => match e with | .Call (.Name x _) [e1, .Name n _] [] _ => C.hot && decide (x = ("isinstance" : Str)) && glB C.sc x && clB C y n && glB C.sc n && !(n == ("__debug__" : Str)) && noStar e1 && chkE C a e1 | _ => false
  | _, _ => false
termination_by structural t => t
def chkB (C : Ck) : T → Expr → Bool
  | .ban as, e => match e with | .BoolOp .And es _ => chkT C as es | _ => false
  | .bor as, e => match e with | .BoolOp .Or es _ => chkT C as es | _ => false
  | .not a, e => match e with | .UnaryOp .Not e1 _ => chkB C a e1 | _ => false
  | .cmp o a b, e => match e with | .Compare e1 [p] [e2] _ => isCo o p && !(behindInMarks p e2) && chkE C a e1 && chkE C b e2 | _ => false
  | .chn o p a b c, e => match e with | .Compare e1 [p1, p2] [e2, e3] _ => isCo o p1 && isCo p p2 && !(lastMarks [p1, p2] [e2, e3]) && chkE C a e1 && chkE C b e2 && chkE C c e3 | _ => false
  | .tst a, e => plainT e && chkE C a e
  | .lnd _ c, e => chkB C c e
  | .tru, e => match e with | .Constant (.bool true) _ _ => true | _ => false
  | _, _ => false
termination_by structural t => t
def chkA (C : Ck) : T → List Expr → Bool
  | .nil, es => match es with | [] => true | _ => false
  | .cons a as, es => match es with | e :: es => noStar e && chkE C a e && chkA C as es | _ => false
  | _, _ => false
termination_by structural t => t
def chkV (C : Ck) : T → List Expr → Bool
  | .one a, es => match es with | [e] => chkE C a e | _ => false
  | .cons a as, es => match es with | e :: e1 :: es => chkE C a e && chkV C as (e1 :: es) | _ => false
  | _, _ => false
termination_by structural t => t
def chkT (C : Ck) : T → List Expr → Bool
  | .one a, es => match es with | [e] => chkB C a e | _ => false
  | .cons a as, es => match es with | e :: e1 :: es => chkB C a e && chkT C as (e1 :: es) | _ => false
  | _, _ => false
termination_by structural t => t
def chkP (C : Ck) : T → Option Expr → Bool
  | .non, e => match e with | none => true | _ => false
  | .prt a, e => match e with | some e => chkE C a e | _ => false
  | _, _ => false
termination_by structural t => t
def chkI (C : Ck) : T → Expr → Bool → Bool
  | .itv a, e, _ => chkE C a e
  | .rg1 a, e, _ => match e with | .Call (.Name x _) [e1] [] _ => decide (x = ("range" : Str)) && glB C.sc x && noStar e1 && chkE C a e1 | _ => false
  | .rg2 a b, e, _ => match e with | .Call (.Name x _) [e1, e2] [] _ => decide (x = ("range" : Str)) && glB C.sc x && noStar e1 && noStar e2 && chkE C a e1 && chkE C b e2 | _ => false
  | .rg3 a b c, e, _ => match e with | .Call (.Name x _) [e1, e2, e3] [] _ => decide (x = ("range" : Str)) && glB C.sc x && noStar e1 && noStar e2 && noStar e3 && chkE C a e1 && chkE C b e2 && chkE C c e3 | _ => false
  | .enu a, e, tt => match e with | .Call (.Name x _) [e1] [] _ => tt && decide (x = ("enumerate" : Str)) && glB C.sc x && noStar e1 && chkE C a e1 | _ => false
  | _, _, _ => false
termination_by structural t => t
def chkG (C : Ck) : T → Expr → Bool
  | .tn i, e => match e with | .Name x _ => stB C i x | _ => false
  | .tt ts, e => match e with | .Tuple es _ _ => !C.hot && chkGs C ts es | _ => false
  | _, _ => false
termination_by structural t => t
def chkGs (C : Ck) : T → List Expr → Bool
  | .nil, es => match es with | [] => true | _ => false
  | .cons t ts, es => match es with | e :: es => chkG C t e && chkGs C ts es | _ => false
  | _, _ => false
termination_by structural t => t
def chkS (C : Ck) : T → Stmt → Bool
  | .stk, _ => true
  | .skip, s => match s with
    | .Pass _ => true
    | .Expr (.Constant (.str _) _ _) _ => true
    | _ => false
  | .asg tg e, s => match s with
    | .Assign [tge] v _ => chkE C e v && chkG C tg tge && (match tge with | .Name x p => !(swB C.sc v x p) | _ => !(isTup v))
    | _ => false
  | .asgc i e, s => match s with
    | .Assign [.Name x p] v _ => chkE C e v && isLC v && decide (C.N[i]? = some x) && isLoc C.sc x && swB C.sc v x p
    | _ => false
  | .par i j a b, s => match s with
    | .Assign [.Tuple [.Name x p1, .Name y p2] _ _] (.Tuple [e1, e2] _ _) _ => !C.hot && decide (C.N[i]? = some x) && decide (C.N[j]? = some y) && decide (i ≠ j) && isLoc C.sc x && isLoc C.sc y && decide (x ≠ y) && decide (p1.line = p2.line) && noStar e1 && noStar e2 && !(([e1, e2].all (foldedForSure 8))) && !(([e1, e2].all (constantsAlone 8))) && chkE C a e1 && chkE C b e2
    | _ => false
  | .ret e, s => match s with | .Return (some v) _ => chkE C e v | _ => false
  | .retm i, s => match s with | .Return (some (.Name x _)) _ => nmB C i x | _ => false
  | .retn, s => match s with | .Return none _ => true | _ => false
  | .exp e, s => match s with | .Expr v _ => pure0 v && chkE C e v | _ => false
  | .app i e, s => match s with
    | .Expr (.Call (.Attribute (.Name x _) m ap) [e1] [] cp) _ => decide (m = ("append" : Str)) && nmB C i x && noStar e1 && (ap.endLine == cp.line) && chkE C e e1
    | _ => false
  | .ext i e, s => match s with
    | .Expr (.Call (.Attribute (.Name x _) m ap) [e1] [] cp) _ => decide (m = ("extend" : Str)) && nmB C i x && noStar e1 && (ap.endLine == cp.line) && chkE C e e1
    | _ => false
  | .seti i k e, s => match s with
    | .Assign [.Subscript (.Name x _) ke _] v _ => nmB C i x && noSl ke && chkE C k ke && chkE C e v
    | _ => false
  | .oset o k e, s => match s with
    | .Assign [.Subscript oe ke _] v _ => !(isTup v) && noSl ke && chkE C o oe && chkE C k ke && chkE C e v
    | _ => false
  | .iff c a b, s => match s with | .If e x y _ => chkB C c e && chkSs C a x && chkSs C b y | _ => false
  | .for_ tg it body, s => match s with | .For tge iter sts [] _ => !C.hot && chkG C tg tge && chkI C it iter (isTup tge) && notSet iter && chkSs C body sts | _ => false
  | .oap i e, s => match s with
    | .Expr (.Call (.Attribute (.Name x _) m ap) [e1] [] cp) _ => decide (m = ("append" : Str)) && nmB C i x && noStar e1 && (ap.endLine == cp.line) && chkE C e e1
    | _ => false
  | .inz i as, s => match s with
    | .Expr (.Call (.Attribute (.Name x _) m ap) [e1, e2] [] cp) _ => decide (m = ("insert" : Str)) && nmB C i x && noStar e1 && noStar e2 && (ap.endLine == cp.line) && chkA C as [e1, e2]
    | _ => false
  | .dnw i _, s => match s with
    | .Assign [.Name x _] (.Dict [] [] _) _ => stB C i x
    | _ => false
  | .dst i k, s => match s with
    | .Assign [.Subscript (.Name x _) ke _] (.Constant (.bool true) _ _) _ => nmB C i x && chkE C k ke
    | _ => false
  | .dtt i as, s => match s with
    | .Assign [.Subscript (.Name x _) (.Tuple es _ _) _] (.Constant (.bool true) _ _) _ => nmB C i x && chkA C as es
    | _ => false
  | .rai c w a, s => match s with
    | .Raise (some (.Call (.Name x _) es [] _)) none _ => !C.hot && decide (C.cls[c]? = some (x, w)) && decide (0 < c) && glB C.sc x && !(x == ("__debug__" : Str)) && (match es with | [] => isNonT a | [e1] => noStar e1 && chkE C a e1 | _ => false)
    | _ => false
  | .tryy a b, s => match s with
    | .Try body (h0 :: hs) [] [] _ => !C.hot && chkSs C a body && chkH C b (h0 :: hs)
    | _ => false
  | _, _ => false
termination_by structural t => t
def chkSs (C : Ck) : T → List Stmt → Bool
  | .skip, sts => match sts with | [] => true | _ => false
  | .seq a b, sts => (match a with | .shr _ => chkSs C b sts | .opn _ => chkSs C b sts | _ => false) || (match sts with | st :: rest => chkS C a st && chkSs C b rest | _ => false)
  | _, _ => false
termination_by structural t => t
def chkH (C : Ck) : T → List ExceptHandler → Bool
  | .nil, hs => match hs with | [] => true | _ => false
  | .hnd y i a b, hs => match hs with
    | .ExceptHandler (some (.Name x _)) nm (s0 :: ss) _ :: hs => clB C y x && glB C.sc x && !(x == ("__debug__" : Str)) && (match nm with | some n => decide (C.N[i]? = some n) && isLoc C.sc n | none => false) && chkSs C.su a (s0 :: ss) && chkH C b hs
    | _ => false
  | .hnb y a b, hs => match hs with
    | .ExceptHandler (some (.Name x _)) none (s0 :: ss) _ :: hs => clB C y x && glB C.sc x && !(x == ("__debug__" : Str)) && chkSs C.su a (s0 :: ss) && chkH C b hs
    | _ => false
  | _, _ => false
termination_by structural t => t
end
end OD

set_option Elab.async false
set_option autoImplicit false
set_option linter.all false
set_option maxRecDepth 100000
set_option maxHeartbeats 8000000
/-! My own layer, part 11: a text that passes does what the small language says. -/
namespace OD
open PySem PySem.Spec PyProof.Rows L2

def bltNames : List Str := ["len", "abs", "min", "max", "int", "any", "all", "sum", "list", "tuple", "sorted", "repr", "isinstance", "bool", "str", "range", "enumerate"]
theorem bfN_mem (f : BF) : bfN f ∈ bltNames := by cases f <;> decide
theorem tyN_mem (t : TY) : Str.ofString (tyN t) ∈ bltNames := by cases t <;> decide
/-- a context in which the text runs -/
structure Gd (X : Cx) (E : En) (C : Ck) : Prop where
  K : X.K = E.W.K
  calm : C.hot = false → X.calm = true
  N : X.N = C.N
  nd : X.N.Nodup
  sc : X.env.scope = C.sc
  kind : X.env.scope.kind = .function
  fn : X.fn = C.fn
  tk : Takes X E.Wx
  hu : X.A.units + 65 < cLine
  gu : X.A.guards = some []
  room : C.hot = false → ∃ k, Room k X.A ∧ (∀ (f : Nat) (x : Str) (ar : Nat), C.fns[f]? = some (x, ar) → ∃ fa, X.mg x = some (.ref fa) ∧ E.W.fnA f = some fa ∧ FnI X E.W k ar (E.cf f) fa) ∧ ∀ (f : Nat) fa, E.W.fnA f = some fa → ∃ x ar, C.fns[f]? = some (x, ar)
  rm3 : C.hot = false → Room 3 X.A
  har : ∀ (f : Nat) (x : Str) (ar : Nat) ds m, C.fns[f]? = some (x, ar) → E.cf f ds m ≠ .bad → ds.length = ar
  har0 : ∀ (f : Nat) ds m, C.fns[f]? = none → E.cf f ds m = .bad
  bl : ∀ x ∈ bltNames, X.mg x = none
  gl : ∀ (j : Nat) (x : Str), C.gls[j]? = some x → ∃ v u, X.mg x = some u ∧ RelV v u ∧ ∀ d, E.gl[j]? = some d → ∀ g H, RelD E.W g H d v
  ex : ExI X.prog X.w X.K X.mg X.base E.W.clA E.W.clF C.cls
  xv : C.hot = false → E.W.xv = none
  su : C.hot = true → ∃ (X0 : Cx) (a : Addr) (oe : Obj) (pn : List (Addr × Obj)) (Ca : Addr) (c : Nat) (dd : Addr), X = X0.suite a ((a, oe) :: pn) ∧ Zc (.ref Ca) (some dd) oe ∧ (∃ vs, oe.data = .fields vs) ∧ E.W.xv = some (a, c, dd) ∧ E.W.clA c = some Ca
section
variable {X : Cx} {E : En} {C : Ck}
theorem Gd.blk (G : Gd X E C) (hh : C.hot = false) {scope : Scope} (hk : scope.kind = .function) (s : Shared) (H : Hp) (A : Addr) (cl : List (Str × Addr)) (fp : List Addr) : Gd (X.blk s H scope (compEnvC scope cl A X.env) fp) E.nox (C.blk scope) where
  K := G.K
  calm := G.calm
  N := G.N
  nd := G.nd
  sc := by
    show relS scope X.env.scope = _
    rw [G.sc]; rfl
  kind := hk
  fn := rfl
  tk := takes0
  hu := G.hu
  gu := G.gu
  room := fun hh => by
    obtain ⟨k, h1, h2, h3⟩ := G.room hh
    refine ⟨k, h1, fun f x ar h => ?_, h3⟩
    obtain ⟨fa, e1, e2, e3⟩ := h2 f x ar h
    exact ⟨fa, e1, e2, ⟨e3.ok, e3.kp⟩⟩
  rm3 := G.rm3
  har := G.har
  har0 := G.har0
  bl := G.bl
  gl := G.gl
  ex := G.ex
  xv := G.xv
  su := fun h => by
    have h : C.hot = true := h
    rw [hh] at h; cases h
/-- a try's body -/
theorem Gd.tr (G : Gd X E C) (hh : C.hot = false) {V : WX} {pn : List (Addr × Obj)} {xe : Value → Shared → Prop} (tk : Takes (X.tr pn xe) V) : Gd (X.tr pn xe) (E.tr V) C where
  K := G.K
  calm := G.calm
  N := G.N
  nd := G.nd
  sc := G.sc
  kind := G.kind
  fn := G.fn
  tk := tk
  hu := G.hu
  gu := G.gu
  room := fun hh => by
    obtain ⟨k, h1, h2, h3⟩ := G.room hh
    refine ⟨k, h1, fun f x ar h => ?_, h3⟩
    obtain ⟨fa, e1, e2, e3⟩ := h2 f x ar h
    exact ⟨fa, e1, e2, ⟨e3.ok, e3.kp⟩⟩
  rm3 := G.rm3
  har := G.har
  har0 := G.har0
  bl := G.bl
  gl := G.gl
  ex := G.ex
  xv := G.xv
  su := fun h => by rw [hh] at h; cases h
/-- an except suite -/
theorem Gd.suite (G : Gd X E C) (hh : C.hot = false) {a dd Ca : Addr} {c : Nat} {oe : Obj} {pn : List (Addr × Obj)} (hz : Zc (.ref Ca) (some dd) oe) (hf : ∃ vs, oe.data = .fields vs) (hA : E.W.clA c = some Ca) : Gd (X.suite a ((a, oe) :: pn)) (E.su (a, c, dd)) C.su where
  K := G.K
  calm := fun h => by cases h
  N := G.N
  nd := G.nd
  sc := G.sc
  kind := G.kind
  fn := G.fn
  tk := takes0
  hu := G.hu
  gu := G.gu
  room := fun h => by cases h
  rm3 := fun h => by cases h
  har := G.har
  har0 := G.har0
  bl := G.bl
  gl := fun j x h => by
    obtain ⟨v, u, h1, h2, h3⟩ := G.gl j x h
    exact ⟨v, u, h1, h2, fun d hd g H => (h3 d hd g H).into (G.xv hh)⟩
  ex := G.ex
  xv := fun h => by cases h
  su := fun _ => ⟨X, a, oe, pn, Ca, c, dd, rfl, hz, hf, rfl, hA⟩
/-- what a def's statements ask of the context -/
def HpS (X : Cx) (C : Ck) : Prop := C.hot = false → PassesOwn (model X.prog X.w) X.A X.env X.xe ∧ X.stack = X.env :: X.outer ∧ X.env.frame = some X.env.locals
theorem clB_ok {y : Nat} {n : Str} (h : clB C y n = true) : (y = 1000 ∧ n = "ValueError") ∨ ∃ z, C.cls[y]? = some (n, z) := by
  unfold clB at h
  simp only [Bool.or_eq_true, Bool.and_eq_true, decide_eq_true_eq] at h
  refine h.imp id fun h => ?_
  obtain ⟨⟨x, z⟩, h1, h2⟩ := Option.map_eq_some_iff.mp h
  have h2 : x = n := h2
  subst h2
  exact ⟨z, h1⟩
/-- a class's name in the text: what it stands for -/
theorem Gd.cls_ (G : Gd X E C) {y : Nat} {n : Str} (h : clB C y n = true) (hg : Gl X n) (hd : (n == ("__debug__" : Str)) = false) : ∃ u, Names X n u ∧ (∃ cv, ClsV cv u ∧ ∀ p2, PE X (.Name n p2) (tC cv)) ∧ ∀ c Ca, E.W.clA c = some Ca → PySem.W.exmOne X.K (.ref Ca) u = some (subX c y) ∧ PySem.W.kitOne X.K (.ref Ca) u = some (subX c y) := by
  rcases clB_ok h with ⟨rfl, rfl⟩ | ⟨z, hz⟩
  · refine ⟨.type "ValueError", ⟨hg, hd, .inr ⟨G.ex.ve, PyProof.Rows.Boot.«ValueError», by decide⟩⟩, ⟨.ty "ValueError", .ty _, fun _ => pe_bltn hg G.ex.ve PyProof.Rows.Boot.«ValueError» rfl (by decide) (by decide)⟩, fun c Ca hA => ?_⟩
    have e : subX c 1000 = true := by
      unfold subX
      rw [show Nat.beq 1000 1000 = true from by decide]
      simp
    rw [e]
    exact G.ex.subV c Ca hA
  · obtain ⟨Da, hm⟩ := G.ex.rt y n z hz
    exact ⟨.ref Da, ⟨hg, hd, .inl hm⟩, ⟨.ref Da, .own _, fun _ => pe_glob hg hm rfl hd⟩, fun c Ca hA => G.ex.sub c y Ca n z Da hA hz hm⟩
theorem Gd.gl_ (G : Gd X E C) {x : Str} (h : glB C.sc x = true) : Gl X x := by
  show X.env.scope.names.lookup x = _
  rw [G.sc]; exact of_decide_eq_true h
theorem Gd.nm (G : Gd X E C) {i : Nat} {x : Str} (h : nmB C i x = true) : X.N[i]? = some x ∧ Vis X.env.scope x ∧ (x == ("__debug__" : Str)) = false ∧ (x == ("__classdict__" : Str)) = false := by
  unfold nmB at h
  simp only [Bool.and_eq_true, decide_eq_true_eq, Bool.not_eq_true'] at h
  obtain ⟨⟨⟨h1, h2⟩, h3⟩, h4⟩ := h
  refine ⟨by rw [G.N]; exact h1, ?_, h3, h4⟩
  rw [G.sc]
  unfold visB at h2
  unfold Vis
  split at h2
  · exact .inl (by assumption)
  · exact .inr (.inl (by assumption))
  · exact .inr (.inr (by assumption))
  · cases h2
theorem Gd.st (G : Gd X E C) {i : Nat} {x : Str} (h : stB C i x = true) : X.N[i]? = some x ∧ Loc X.env.scope x ∧ (X.fn x = true ∨ X.env.scope.names.lookup x = some .local) := by
  unfold stB at h
  simp only [Bool.and_eq_true, decide_eq_true_eq, Bool.or_eq_true, isLoc, isCel] at h
  obtain ⟨h1, h2⟩ := h
  refine ⟨by rw [G.N]; exact h1, ?_, ?_⟩
  · rw [G.sc]; exact h2.imp id fun z => z.1
  · rw [G.sc, G.fn]; exact h2.elim .inr fun z => .inl z.2
theorem plainIx_of {e : Expr} (h : noSl e = true) : PlainIx e := fun o i => by cases e <;> first | rfl | cases h
theorem fold_of {e : Expr} (h : notSet e = true) (env : Env) (x : Value) : foldedSetIterable e env x = pure x := by cases e <;> first | rfl | cases h
theorem sw0 {e : Expr} (h : pure0 e = true) (t : Option Expr) (l : Nat) (env : Env) : swapsWith e t l env = pure false := by cases e <;> first | rfl | cases h
theorem swT {e tge : Expr} (h : ∀ x p, tge ≠ .Name x p) (l : Nat) (env : Env) : swapsWith e (some tge) l env = pure false := by
  cases tge <;> first | exact absurd rfl (h _ _) | (cases e <;> rfl)
theorem swS {e tge : Expr} (h : ∀ x p, tge ≠ .Name x p) (l : Nat) (env : Env) : swapsWithSole [tge] e l env = pure false := swT h l env
theorem swF (G : Gd X E C) {e : Expr} {x : Str} {p : Pos} (h : swB C.sc e x p = false) (l : Nat) : swapsWith e (some (.Name x p)) l X.env = pure false := by
  cases e with
  | ListComp a b s ep =>
    show (pure (X.env.blockKind == .function && X.env.kindOf x == some .local && p.line == ep.line && !(s.names.any fun (n, k) => n == x && (k == .local || k == .cell))) : Sem Bool) = _
    unfold swB isLoc at h
    have e1 : (X.env.kindOf x == some NameKind.local) = decide (C.sc.names.lookup x = some .local) := by
      show (X.env.scope.names.lookup x == some NameKind.local) = _
      rw [G.sc, Bool.eq_iff_iff]; simp
    rw [e1]
    simp only [Bool.and_assoc] at h ⊢
    rw [h, Bool.and_false]
  | SetComp a b s ep => cases h
  | DictComp a b c s ep => cases h
  | _ => rfl
theorem swY (G : Gd X E C) {e : Expr} {x : Str} {p : Pos} (h : swB C.sc e x p = true) (hl : isLC e = true) (l : Nat) : swapsWith e (some (.Name x p)) l X.env = pure true := by
  cases e with
  | ListComp a b s ep =>
    show (pure (X.env.blockKind == .function && X.env.kindOf x == some .local && p.line == ep.line && !(s.names.any fun (n, k) => n == x && (k == .local || k == .cell))) : Sem Bool) = _
    unfold swB isLoc at h
    have e1 : (X.env.kindOf x == some NameKind.local) = decide (C.sc.names.lookup x = some .local) := by
      show (X.env.scope.names.lookup x == some NameKind.local) = _
      rw [G.sc, Bool.eq_iff_iff]; simp
    have e2 : (X.env.blockKind == ScopeKind.function) = true := by
      unfold Env.blockKind
      rw [G.kind]; rfl
    rw [e1, e2]
    simp only [Bool.and_assoc] at h ⊢
    rw [h, Bool.and_true]
  | _ => cases hl
theorem sole_tup {v tge : Expr} (h : isTup v = false) (env : Env) : swappedStores [tge] v env = pure none := by
  cases v with
  | Tuple a b c => cases h
  | _ => cases tge <;> rfl
theorem par_ok (G : Gd X E C) {x y : Str} {p1 p2 pt pt2 : Pos} {k k2 : Nat} {e1 e2 : Expr} (hx : isLoc C.sc x = true) (hy : isLoc C.sc y = true) (hxy : x ≠ y) (hp : p1.line = p2.line) (h1 : noStar e1 = true) (h2 : noStar e2 = true) (h3 : ([e1, e2].all (foldedForSure 8)) = false) (h4 : ([e1, e2].all (constantsAlone 8)) = false) :
    swappedStores [.Tuple [.Name x p1, .Name y p2] k pt] (.Tuple [e1, e2] k2 pt2) X.env = pure (some [x, y]) := by
  have ex : (X.env.kindOf x == some NameKind.local) = true := by
    show (X.env.scope.names.lookup x == some NameKind.local) = _
    rw [G.sc]; rw [of_decide_eq_true hx]; rfl
  have ey : (X.env.kindOf y == some NameKind.local) = true := by
    show (X.env.scope.names.lookup y == some NameKind.local) = _
    rw [G.sc]; rw [of_decide_eq_true hy]; rfl
  have eb : (X.env.blockKind != ScopeKind.function) = false := by
    unfold Env.blockKind
    rw [G.kind]; rfl
  have es : ([e1, e2].any fun | .Starred .. => true | _ => false) = false := by
    cases e1 with
    | Starred a b => cases h1
    | _ => cases e2 with
      | Starred a b => cases h2
      | _ => rfl
  have en : ([Expr.Name x p1, Expr.Name y p2].filterMap fun
    | .Name id pos => if X.env.kindOf id == some .local && pos.line == p1.line then some id else none
    | _ => none) = [x, y] := by
    simp only [List.filterMap, ex, ey, hp, Bool.true_and, beq_self_eq_true, if_true]
  have ed : ([x, y] : List Str).eraseDups.length = 2 := by
    simp [List.eraseDups_cons, hxy, Ne.symm hxy]
  show (do
    if !(([Expr.Name x p1, Expr.Name y p2] : List Expr).length == 2 || ([Expr.Name x p1, Expr.Name y p2] : List Expr).length == 3) || ([e1, e2] : List Expr).length != ([Expr.Name x p1, Expr.Name y p2] : List Expr).length || X.env.blockKind != .function then return none
    if [e1, e2].any (fun | .Starred .. => true | _ => false) then return none
    if ([Expr.Name x p1, Expr.Name y p2].filterMap fun
    | .Name id pos => if X.env.kindOf id == some .local && pos.line == p1.line then some id else none
    | _ => none).length != ([Expr.Name x p1, Expr.Name y p2] : List Expr).length || ([Expr.Name x p1, Expr.Name y p2].filterMap fun
    | .Name id pos => if X.env.kindOf id == some .local && pos.line == p1.line then some id else none
    | _ => none).eraseDups.length != ([Expr.Name x p1, Expr.Name y p2].filterMap fun
    | .Name id pos => if X.env.kindOf id == some .local && pos.line == p1.line then some id else none
    | _ => none).length then return none
    if [e1, e2].all (foldedForSure 8) then return none
    if [e1, e2].all (constantsAlone 8) then unsupported "assign.tuple-of-constant-expressions:order-of-the-stores"
    return some ([Expr.Name x p1, Expr.Name y p2].filterMap fun
    | .Name id pos => if X.env.kindOf id == some .local && pos.line == p1.line then some id else none
    | _ => none) : Sem (Option (List Str))) = _
  rw [eb, es, h3, h4, en, ed]
  rfl
theorem sole_sub {o i v : Expr} {p : Pos} (env : Env) : swappedStores [.Subscript o i p] v env = pure none := by
  cases v <;> rfl
/-! ### items set -/
theorem ss_seti {B : Bs} {i : Nat} {x : Str} {a k : T} {v ke : Expr} {p1 p2 pos : Pos} (hN : X.N[i]? = some x) (hv : Vis X.env.scope x) (hd : (x == ("__debug__" : Str)) = false) (hcd : (x == ("__classdict__" : Str)) = false) (ha : PE X v (TEo E a)) (hk : PE X ke (TEo E k)) (hs : noSl ke = true) :
    PS X (.Assign [.Subscript (.Name x p1) ke p2] v pos) (TSo E B (.seti i k a)) := by
  refine (ps_asg ha (pg_sub (pe_var hN hv hd hcd) hk set_list (fun w => by cases ke <;> first | rfl | cases hs)) (swS (by intro _ _ h; cases h) _ _) (sole_sub _) rfl).imp fun D σ H ⟨g, S, m, b, h⟩ => ?_
  simp only [evS] at h
  refine ⟨_, g, S, m, b.st, (SatS.bind b h).mono fun y m1 g1 H1 x1 k1 ⟨b1, h1⟩ v hv => ?_⟩
  obtain ⟨hk, h1⟩ := toV_okS h1
  obtain ⟨g2, x2, k2, r2⟩ := hv.keep (P := PO B S σ) (w := m1.w) k1 (fun a p => (b.st.dom a p).1) hk
  have b2 := b1.go x2 k2
  have h1 := SatS.fx h1 (x2.fx k1)
  split at h1
  · rename_i ds hg
    obtain ⟨ds', p, vs, e1, e2, e3, e4, o, hf, hr, hB, hP⟩ := b2.owned hg
    cases e1
    refine ⟨_, getD_some e2, _, g2, S, m1, b2.st, (SatS.bind b2 h1).mono fun z m2 g3 H3 x3 k3 ⟨b3, h3⟩ u hu => ?_⟩
    split at h3
    · rename_i j hj
      split at h3
      · rename_i q hq
        have r := hu.weak
        rw [hj] at r
        have e3' : H3 p = some (.lst vs) := x3.keep p _ e3 hr
        have e4' : RelDs E.W g3 H3 ds vs := e4.ext x3 k2
        obtain ⟨fx, b4⟩ := b3.put hg e2 (RelDs.set (r2.ext x3 k2) q e4')
        exact ⟨p, vs, j, q, rfl, r.int_, e3', by rw [← e4.length]; exact hq, h3 g3 _ σ fx b4⟩
      · exact h3.elim
    · exact h3.elim
  · exact h1.elim
theorem ss_oset {B : Bs} {a k o : T} {v ke oe : Expr} {p2 pos : Pos} (ha : PE X v (TEo E a)) (ho : PE X oe (TEo E o)) (hk : PE X ke (TEo E k)) (ht : isTup v = false) (hs : noSl ke = true) :
    PS X (.Assign [.Subscript oe ke p2] v pos) (TSo E B (.oset o k a)) := by
  refine (ps_asg ha (pg_sub ho hk set_list (fun w => by cases ke <;> first | rfl | cases hs)) (swS (by intro _ _ h; cases h) _ _) (sole_tup ht _) rfl).imp fun D σ H ⟨g, S, m, b, h⟩ => ?_
  simp only [evS] at h
  refine ⟨_, g, S, m, b.st, (SatS.bind b h).mono fun y m1 g1 H1 x1 k1 ⟨b1, h1⟩ v hv => ?_⟩
  obtain ⟨hk, h1⟩ := toV_okS h1
  obtain ⟨g2, x2, k2, r2⟩ := hv.keep (P := PO B S σ) (w := m1.w) k1 (fun a p => (b.st.dom a p).1) hk
  have b2 := b1.go x2 k2
  have h1 := SatS.fx h1 (x2.fx k1)
  refine ⟨_, g2, S, m1, b2.st, (SatS.bind b2 h1).mono fun z m2 g3 H3 x3 k3 ⟨b3, h3⟩ u hu => ?_⟩
  refine ⟨_, g3, S, m2, b3.st, (SatS.bind b3 h3).mono fun w m3 g4 H4 x4 k4 ⟨b4, h4⟩ t ht => ?_⟩
  split at h4
  · rename_i n j hn hj
    split at h4
    · rename_i ds hds
      split at h4
      · rename_i q hq
        have r := ht.weak
        rw [hj] at r
        have r' := hu.weak.ext x4 k3
        rw [hn] at r'
        obtain ⟨p, vs, rfl, e1, e2, e3⟩ := r'.refO k4 hds
        have x5 : Ext (PO B S σ) g4 g4 H4 (upd H4 p (.lst (vs.set q v))) m3.w (m3.w + 1) := ext_set e1
        refine ⟨p, vs, j, q, rfl, r.int_, e2, by rw [← e3.length]; exact hq, h4 g4 _ σ (x5.fx k4) (b4.go x5 (gok_set k4 e1 (RelDs.set ((r2.ext x3 k2).ext x4 k3) q e3)))⟩
      · exact h4.elim
    · exact h4.elim
  · exact h4.elim
end
end OD

set_option Elab.async false
set_option autoImplicit false
set_option linter.all false
set_option maxRecDepth 100000
set_option maxHeartbeats 16000000

/-! My own layer, part 12: one text after another. -/
namespace OD
open PySem PySem.Spec PyProof.Rows L2

structure Snd (t : T) : Prop where
  e : ∀ {X : Cx} {E : En} {C : Ck} {e : Expr}, Gd X E C → chkE C t e = true → PE X e (TEo E t)
  l : ∀ {X : Cx} {E : En} {C : Ck} {v : Expr}, Gd X E C → chkE C t v = true → isLC v = true → ∀ (i : Nat) (y : Str) (py spos : Pos), X.N[i]? = some y → X.env.scope.names.lookup y = some .local → swapsWith v (some (.Name y py)) spos.line X.env = pure true →
    ∃ te, PS X (.Assign [.Name y py] v spos) (tAsg te (gName i)) ∧ ∀ σ H Q, TEo E t σ H Q → te σ H Q
  b : ∀ {X : Cx} {E : En} {C : Ck} {e : Expr}, Gd X E C → chkB C t e = true → PT X e (TBo E t)
  a : ∀ {X : Cx} {E : En} {C : Ck} {es : List Expr}, Gd X E C → chkA C t es = true → PA X es (TAo E t) ∧ PA X es (TWo E t)
  v : ∀ {X : Cx} {E : En} {C : Ck} {es : List Expr} (pos : Pos), Gd X E C → chkV C t es = true → PE X (.BoolOp .And es pos) (TAndV E t) ∧ PE X (.BoolOp .Or es pos) (TOrV E t)
  tt : ∀ {X : Cx} {E : En} {C : Ck} {es : List Expr} (pos : Pos), Gd X E C → chkT C t es = true → PW X (.BoolOp .And es pos) (TAnd E t) ∧ PW X (.BoolOp .Or es pos) (TOr E t)
  p : ∀ {X : Cx} {E : En} {C : Ck} {e : Option Expr}, Gd X E C → chkP C t e = true → L2.PO X e (TPo E t)
  i : ∀ {X : Cx} {E : En} {C : Ck} {e tge : Expr}, Gd X E C → chkI C t e (isTup tge) = true → PI X tge e (TIo E t)
  g : ∀ {X : Cx} {E : En} {C : Ck} {e : Expr}, Gd X E C → chkG C t e = true → PG X e (gT E.W.K t) ∧ noStar e = true
  gs : ∀ {X : Cx} {E : En} {C : Ck} {es : List Expr}, Gd X E C → chkGs C t es = true → PGs X es (gTs E.W.K t) ∧ es.all noStar = true ∧ es.length = lenT t
  s : ∀ {X : Cx} {E : En} {C : Ck} {B : Bs} {st : Stmt}, Gd X E C → HpS X C → chkS C t st = true → PS X st (TSo E B t)
  ss : ∀ {X : Cx} {E : En} {C : Ck} {B : Bs} {sts : List Stmt}, Gd X E C → HpS X C → chkSs C t sts = true → PSs X sts (TSo E B t)
  h : ∀ {X : Cx} {E : En} {C : Ck} {hs : List ExceptHandler}, Gd X E C → C.hot = false → chkH C t hs = true → ∃ l, HdA X hs l ∧ HdS X E t l
theorem assignEach_no {env : Env} : ∀ {es : List Expr}, es.all noStar = true → (assignEach es env).length = es.length ∧ (assignEach es env).findIdx? (·.1) = none
  | [], _ => ⟨rfl, rfl⟩
  | e :: es, h => by
    rw [List.all_cons, Bool.and_eq_true] at h
    obtain ⟨h1, h2⟩ := assignEach_no (env := env) h.2
    have q : assignEach (e :: es) env = (false, assign e env) :: assignEach es env := by
      cases e <;> first | rfl | cases h.1
    rw [q]
    refine ⟨by rw [List.length_cons, List.length_cons, h1], ?_⟩
    rw [List.findIdx?_cons, h2]; rfl
theorem assignEach_cons {env : Env} {e : Expr} {es : List Expr} (h : noStar e = true) : (assignEach (e :: es) env).map (·.2) = assign e env :: (assignEach es env).map (·.2) := by
  cases e <;> first | rfl | cases h
theorem isTup_elim {e : Expr} (h : isTup e = true) : ∃ es k p, e = .Tuple es k p := by
  cases e <;> first | exact ⟨_, _, _, rfl⟩ | cases h
section
variable {X : Cx} {E : En} {C : Ck}
/-- what a comprehension of one clause is made of -/
theorem lc_parts {e c tg it : T} {own : List Nat} (he : Snd e) (hc : Snd c) (ht : Snd tg) (hi : Snd it) {v : Expr} (G : Gd X E C) (h : chkE C (.lc e c tg it own) v = true) :
    ∃ elt tge iter ifs scope pos, C.hot = false ∧ v = .ListComp elt [⟨tge, iter, ifs, 0⟩] scope pos ∧ PI X tge iter (TIo E it) ∧ BlkOk X.N X.env.scope scope (ownP C own) ∧ (∀ x, foldedSetIterable iter X.env x = pure x) ∧ (∀ i ∈ slT tg, i ∈ own) ∧
      (∀ (s : Shared) (H : Hp) (A : Addr) (cl : List (Str × Addr)) (fp : List Addr), PG (X.blk s H scope (compEnvC scope cl A X.env) fp) tge (gT E.W.K tg)) ∧
      (∀ (s : Shared) (H : Hp) (A : Addr) (cl : List (Str × Addr)) (fp : List Addr), PTs (X.blk s H scope (compEnvC scope cl A X.env) fp) ifs (TBo E.nox c)) ∧
      (∀ (s : Shared) (H : Hp) (A : Addr) (cl : List (Str × Addr)) (fp : List Addr), PE (X.blk s H scope (compEnvC scope cl A X.env) fp) elt (TEo E.nox e)) := by
  unfold chkE at h
  split at h
  · rename_i elt tge iter ifs scope pos
    simp only [Bool.and_eq_true, decide_eq_true_eq] at h
    obtain ⟨⟨⟨⟨⟨⟨⟨hh, h1⟩, h2⟩, h3⟩, h4⟩, h5⟩, h6⟩, h7⟩ := h
    rw [Bool.not_eq_true'] at hh
    have hb : BlkOk X.N X.env.scope scope (ownP C own) := by rw [G.N, G.sc]; exact blkOk_by h1
    refine ⟨elt, tge, iter, ifs, scope, pos, hh, rfl, hi.i G h2, hb, fold_of h3 _, h5, fun s H A cl fp => (ht.g (G.blk hh hb.kind s H A cl fp) h4).1, fun s H A cl fp => ?_, fun s H A cl fp => he.e (G.blk hh hb.kind s H A cl fp) h7⟩
    split at h6
    · cases c with
      | tru => exact sn_pts_nil
      | _ => cases h6
    · exact pts_one (hc.b (G.blk hh hb.kind s H A cl fp) h6)
    · cases h6
  · cases h
theorem ownP_map (own : List Nat) : (ownP C own).map (·.2) = own := by
  unfold ownP
  rw [List.map_map]
  exact List.map_id _
theorem lc_pe {e c tg it : T} {own : List Nat} (he : Snd e) (hc : Snd c) (ht : Snd tg) (hi : Snd it) {v : Expr} (G : Gd X E C) (h : chkE C (.lc e c tg it own) v = true) : PE X v (TEo E (.lc e c tg it own)) := by
  obtain ⟨elt, tge, iter, ifs, scope, pos, hh, rfl, p1, p2, p3, p4, p5, p6, p7⟩ := lc_parts he hc ht hi G h
  refine (pe_lc (G.calm hh) G.nd p1 p2 p5 p6 p7 p3).imp fun σ H Q q => ?_
  rw [ownP_map]
  exact lc_ok p4 σ H Q q
theorem lc_ps {e c tg it : T} {own : List Nat} (he : Snd e) (hc : Snd c) (ht : Snd tg) (hi : Snd it) {v : Expr} (G : Gd X E C) (h : chkE C (.lc e c tg it own) v = true) (i : Nat) (y : Str) (py spos : Pos) (hy : X.N[i]? = some y) (hl : X.env.scope.names.lookup y = some .local)
    (hsw : swapsWith v (some (.Name y py)) spos.line X.env = pure true) : ∃ te, PS X (.Assign [.Name y py] v spos) (tAsg te (gName i)) ∧ ∀ σ H Q, TEo E (.lc e c tg it own) σ H Q → te σ H Q := by
  obtain ⟨elt, tge, iter, ifs, scope, pos, hh, rfl, p1, p2, p3, p4, p5, p6, p7⟩ := lc_parts he hc ht hi G h
  refine ⟨_, ps_setLc (G.calm hh) G.nd hy hl hsw p1 p2 p5 p6 p7 p3, fun σ H Q q => ?_⟩
  rw [ownP_map]
  exact lc_ok p4 σ H Q q
theorem lc2_parts {e c tg it tg2 it2 : T} {own own2 : List Nat} (he : Snd e) (hc : Snd c) (ht : Snd tg) (hi : Snd it) (ht2 : Snd tg2) (hi2 : Snd it2) {v : Expr} (G : Gd X E C) (h : chkE C (.lc2 e c tg it tg2 it2 own own2) v = true) :
    ∃ elt tge iter tge2 iter2 ifs scope pos, C.hot = false ∧ v = .ListComp elt [⟨tge, iter, [], 0⟩, ⟨tge2, iter2, ifs, 0⟩] scope pos ∧ PI X tge iter (TIo E it) ∧ BlkOk X.N X.env.scope scope (ownP C own) ∧ notSet iter = true ∧ notSet iter2 = true ∧ (∀ i ∈ slT tg, i ∈ own) ∧ (∀ i ∈ slT tg2, i ∈ own2) ∧ (∀ i ∈ own2, i ∈ own) ∧
      (∀ (s : Shared) (H : Hp) (A : Addr) (cl : List (Str × Addr)) (fp : List Addr), PG (X.blk s H scope (compEnvC scope cl A X.env) fp) tge (gT E.W.K tg)) ∧
      (∀ (s : Shared) (H : Hp) (A : Addr) (cl : List (Str × Addr)) (fp : List Addr), PI (X.blk s H scope (compEnvC scope cl A X.env) fp) tge2 iter2 (TIo E.nox it2)) ∧
      (∀ (s : Shared) (H : Hp) (A : Addr) (cl : List (Str × Addr)) (fp : List Addr), PG (X.blk s H scope (compEnvC scope cl A X.env) fp) tge2 (gT E.W.K tg2)) ∧
      (∀ (s : Shared) (H : Hp) (A : Addr) (cl : List (Str × Addr)) (fp : List Addr), PTs (X.blk s H scope (compEnvC scope cl A X.env) fp) ifs (TBo E.nox c)) ∧
      (∀ (s : Shared) (H : Hp) (A : Addr) (cl : List (Str × Addr)) (fp : List Addr), PE (X.blk s H scope (compEnvC scope cl A X.env) fp) elt (TEo E.nox e)) := by
  unfold chkE at h
  split at h
  · rename_i elt tge iter tge2 iter2 ifs scope pos
    simp only [Bool.and_eq_true, decide_eq_true_eq] at h
    obtain ⟨⟨⟨⟨⟨⟨⟨⟨⟨⟨⟨⟨hh, h1⟩, h2⟩, h3⟩, h4⟩, h5⟩, h6⟩, h7⟩, h8⟩, h9⟩, h10⟩, h11⟩, h12⟩ := h
    rw [Bool.not_eq_true'] at hh
    have hb : BlkOk X.N X.env.scope scope (ownP C own) := by rw [G.N, G.sc]; exact blkOk_by h1
    refine ⟨elt, tge, iter, tge2, iter2, ifs, scope, pos, hh, rfl, hi.i G h2, hb, h3, h7, h5, h9, h10, fun s H A cl fp => (ht.g (G.blk hh hb.kind s H A cl fp) h4).1, fun s H A cl fp => hi2.i (G.blk hh hb.kind s H A cl fp) h6, fun s H A cl fp => (ht2.g (G.blk hh hb.kind s H A cl fp) h8).1, fun s H A cl fp => ?_, fun s H A cl fp => he.e (G.blk hh hb.kind s H A cl fp) h12⟩
    split at h11
    · cases c with
      | tru => exact sn_pts_nil
      | _ => cases h11
    · exact pts_one (hc.b (G.blk hh hb.kind s H A cl fp) h11)
    · cases h11
  · cases h
theorem lc2_pe {e c tg it tg2 it2 : T} {own own2 : List Nat} (he : Snd e) (hc : Snd c) (ht : Snd tg) (hi : Snd it) (ht2 : Snd tg2) (hi2 : Snd it2) {v : Expr} (G : Gd X E C) (h : chkE C (.lc2 e c tg it tg2 it2 own own2) v = true) : PE X v (TEo E (.lc2 e c tg it tg2 it2 own own2)) := by
  obtain ⟨elt, tge, iter, tge2, iter2, ifs, scope, pos, hh, rfl, p1, p2, p3, p4, p5, p6, p7, p8, p9, p10, p11, p12⟩ := lc2_parts he hc ht hi ht2 hi2 G h
  refine (pe_lc2 (vs1 := own2) (G.calm hh) G.nd p1 p2 (by rw [ownP_map]; exact p7) p8 (fun _ _ _ _ _ => pts_nil) p9 p10 p11 p12 (fold_of p3 _) (fold_of p4)).imp fun σ H Q q => ?_
  rw [ownP_map]
  exact lc2_ok p5 p6 σ H Q q
theorem lc2_ps {e c tg it tg2 it2 : T} {own own2 : List Nat} (he : Snd e) (hc : Snd c) (ht : Snd tg) (hi : Snd it) (ht2 : Snd tg2) (hi2 : Snd it2) {v : Expr} (G : Gd X E C) (h : chkE C (.lc2 e c tg it tg2 it2 own own2) v = true) (i : Nat) (y : Str) (py spos : Pos) (hy : X.N[i]? = some y) (hl : X.env.scope.names.lookup y = some .local)
    (hsw : swapsWith v (some (.Name y py)) spos.line X.env = pure true) : ∃ te, PS X (.Assign [.Name y py] v spos) (tAsg te (gName i)) ∧ ∀ σ H Q, TEo E (.lc2 e c tg it tg2 it2 own own2) σ H Q → te σ H Q := by
  obtain ⟨elt, tge, iter, tge2, iter2, ifs, scope, pos, hh, rfl, p1, p2, p3, p4, p5, p6, p7, p8, p9, p10, p11, p12⟩ := lc2_parts he hc ht hi ht2 hi2 G h
  refine ⟨_, ps_setLc2 (vs1 := own2) (G.calm hh) G.nd hy hl hsw p1 p2 (by rw [ownP_map]; exact p7) p8 (fun _ _ _ _ _ => pts_nil) p9 p10 p11 p12 (fold_of p3 _) (fold_of p4), fun σ H Q q => ?_⟩
  rw [ownP_map]
  exact lc2_ok p5 p6 σ H Q q
theorem lc3_pe {e tg it tg2 it2 tg3 it3 : T} {own own2 own3 : List Nat} (he : Snd e) (ht : Snd tg) (hi : Snd it) (ht2 : Snd tg2) (hi2 : Snd it2) (ht3 : Snd tg3) (hi3 : Snd it3) {v : Expr} (G : Gd X E C) (h : chkE C (.lc3 e tg it tg2 it2 tg3 it3 own own2 own3) v = true) : PE X v (TEo E (.lc3 e tg it tg2 it2 tg3 it3 own own2 own3)) := by
  unfold chkE at h
  split at h
  · rename_i elt tge iter tge2 iter2 tge3 iter3 scope pos
    simp only [Bool.and_eq_true, decide_eq_true_eq] at h
    obtain ⟨⟨⟨⟨⟨⟨⟨⟨⟨⟨⟨⟨⟨⟨⟨⟨hh, h1⟩, h2⟩, h3⟩, h4⟩, h5⟩, h6⟩, h7⟩, h8⟩, h9⟩, h10⟩, h11⟩, h12⟩, h13⟩, h14⟩, h15⟩, h16⟩ := h
    rw [Bool.not_eq_true'] at hh
    have hb : BlkOk X.N X.env.scope scope (ownP C own) := by rw [G.N, G.sc]; exact blkOk_by h1
    refine (pe_l3 (G.calm hh) G.nd (hi.i G h2) hb (v1 := own2) (v2 := own3) (by rw [ownP_map]; exact h10) h15 (fun s H A cl fp => ⟨(ht.g (G.blk hh hb.kind s H A cl fp) h4).1, hi2.i (G.blk hh hb.kind s H A cl fp) h6, (ht2.g (G.blk hh hb.kind s H A cl fp) h8).1, hi3.i (G.blk hh hb.kind s H A cl fp) h11, (ht3.g (G.blk hh hb.kind s H A cl fp) h13).1, he.e (G.blk hh hb.kind s H A cl fp) h16⟩) (fold_of h3 _) (fold_of h7) (fold_of h12)).imp fun σ H Q q => ?_
    rw [ownP_map]
    exact lc3_ok h5 h9 h14 σ H Q q
  · cases h
theorem sd2_pe {e tg it tg2 it2 : T} {own own2 : List Nat} (he : Snd e) (ht : Snd tg) (hi : Snd it) (ht2 : Snd tg2) (hi2 : Snd it2) {v : Expr} (G : Gd X E C) (h : chkE C (.sd2 e tg it tg2 it2 own own2) v = true) : PE X v (TEo E (.sd2 e tg it tg2 it2 own own2)) := by
  unfold chkE at h
  split at h
  · rename_i x xp kx ky kp tge iter tge2 iter2 scope dp cp
    simp only [Bool.and_eq_true, decide_eq_true_eq] at h
    obtain ⟨⟨⟨⟨⟨⟨⟨⟨⟨⟨⟨⟨⟨hh, hx⟩, hg⟩, h1⟩, h2⟩, h3⟩, h4⟩, h5⟩, h6⟩, h7⟩, h8⟩, h9⟩, h10⟩, h12⟩ := h
    rw [Bool.not_eq_true'] at hh
    subst hx
    have hb : BlkOk X.N X.env.scope scope (ownP C own) := by rw [G.N, G.sc]; exact blkOk_by h1
    have pd := pe_dd (kx := kx) (vx := .Constant (.bool true) ky kp) (scope := scope) (pos := dp) (vs1 := own2) (wi := TIo E it) (wi1 := TIo E.nox it2) (g := gT E.W.K tg) (g1 := gT E.W.K tg2) (tk := TEo E.nox e) (tv := tC (.bl true)) (G.calm hh) G.nd (hi.i G h2) hb (by rw [ownP_map]; exact h10)
      (fun s H A cl fp => ⟨(ht.g (G.blk hh hb.kind s H A cl fp) h4).1, hi2.i (G.blk hh hb.kind s H A cl fp) h6, (ht2.g (G.blk hh hb.kind s H A cl fp) h8).1, he.e (G.blk hh hb.kind s H A cl fp) h12, pe_bl⟩) (fold_of h3 _) (fold_of h7)
    refine (pe_callB (sorted_dI (G.calm hh)) (G.gl_ hg) (G.bl _ (by decide)) (by decide +kernel) (pa_cons pd pa_nil) (by decide) (by decide)).imp fun σ H Q q => ?_
    have key := sd2_ok h5 h9 σ H Q q
    rw [ownP_map]
    exact key
  · cases h
end
end OD

set_option Elab.async false
set_option autoImplicit false
set_option linter.all false
set_option maxRecDepth 100000
set_option maxHeartbeats 16000000
/-! My own layer, part 13: every text that passes. Written by gen_m.py. -/
namespace OD
open PySem PySem.Spec PyProof.Rows L2
theorem snd_non   : Snd (.non ) where
  e := by
    intro X E C e G h
    unfold chkE at h
    split at h
    · exact sn_non
    · cases h
  l := by
    intro X E C v_ G h hl
    cases v_ <;> first | (cases hl; done) | (unfold chkE at h; cases h; done) | (simp [chkE] at h; done)
  b := by
    intro X E C e_ G h
    unfold chkB at h
    cases h
  a := by
    intro X E C es_ G h
    unfold chkA at h
    cases h
  v := by
    intro X E C es_ pos G h
    unfold chkV at h
    cases h
  tt := by
    intro X E C es_ pos G h
    unfold chkT at h
    cases h
  p := by
    intro X E C e G h
    unfold chkP at h
    split at h
    · exact sn_pnon
    · cases h
  i := by
    intro X E C e_ tge_ G h
    unfold chkI at h
    cases h
  g := by
    intro X E C e_ G h
    unfold chkG at h
    cases h
  gs := by
    intro X E C es_ G h
    unfold chkGs at h
    cases h
  s := by
    intro X E C B st_ G hp h
    unfold chkS at h
    cases h
  ss := by
    intro X E C B sts_ G hp h
    unfold chkSs at h
    cases h
  h := by
    intro X E C hs_ G hh h
    unfold chkH at h
    cases h
theorem snd_tru   : Snd (.tru ) where
  e := by
    intro X E C e G h
    unfold chkE at h
    split at h
    · exact sn_bl (b := true)
    · cases h
  l := by
    intro X E C v_ G h hl
    cases v_ <;> first | (cases hl; done) | (unfold chkE at h; cases h; done) | (simp [chkE] at h; done)
  b := by
    intro X E C e G h
    unfold chkB at h
    split at h
    · exact st_tru
    · cases h
  a := by
    intro X E C es_ G h
    unfold chkA at h
    cases h
  v := by
    intro X E C es_ pos G h
    unfold chkV at h
    cases h
  tt := by
    intro X E C es_ pos G h
    unfold chkT at h
    cases h
  p := by
    intro X E C e_ G h
    unfold chkP at h
    cases h
  i := by
    intro X E C e_ tge_ G h
    unfold chkI at h
    cases h
  g := by
    intro X E C e_ G h
    unfold chkG at h
    cases h
  gs := by
    intro X E C es_ G h
    unfold chkGs at h
    cases h
  s := by
    intro X E C B st_ G hp h
    unfold chkS at h
    cases h
  ss := by
    intro X E C B sts_ G hp h
    unfold chkSs at h
    cases h
  h := by
    intro X E C hs_ G hh h
    unfold chkH at h
    cases h
theorem snd_fls   : Snd (.fls ) where
  e := by
    intro X E C e G h
    unfold chkE at h
    split at h
    · exact sn_bl (b := false)
    · cases h
  l := by
    intro X E C v_ G h hl
    cases v_ <;> first | (cases hl; done) | (unfold chkE at h; cases h; done) | (simp [chkE] at h; done)
  b := by
    intro X E C e_ G h
    unfold chkB at h
    cases h
  a := by
    intro X E C es_ G h
    unfold chkA at h
    cases h
  v := by
    intro X E C es_ pos G h
    unfold chkV at h
    cases h
  tt := by
    intro X E C es_ pos G h
    unfold chkT at h
    cases h
  p := by
    intro X E C e_ G h
    unfold chkP at h
    cases h
  i := by
    intro X E C e_ tge_ G h
    unfold chkI at h
    cases h
  g := by
    intro X E C e_ G h
    unfold chkG at h
    cases h
  gs := by
    intro X E C es_ G h
    unfold chkGs at h
    cases h
  s := by
    intro X E C B st_ G hp h
    unfold chkS at h
    cases h
  ss := by
    intro X E C B sts_ G hp h
    unfold chkSs at h
    cases h
  h := by
    intro X E C hs_ G hh h
    unfold chkH at h
    cases h
theorem snd_int {i : Int}  : Snd (.int i) where
  e := by
    intro X E C e G h
    unfold chkE at h
    split at h
    · rw [← of_decide_eq_true h]; exact sn_int
    · cases h
  l := by
    intro X E C v_ G h hl
    cases v_ <;> first | (cases hl; done) | (unfold chkE at h; cases h; done) | (simp [chkE] at h; done)
  b := by
    intro X E C e_ G h
    unfold chkB at h
    cases h
  a := by
    intro X E C es_ G h
    unfold chkA at h
    cases h
  v := by
    intro X E C es_ pos G h
    unfold chkV at h
    cases h
  tt := by
    intro X E C es_ pos G h
    unfold chkT at h
    cases h
  p := by
    intro X E C e_ G h
    unfold chkP at h
    cases h
  i := by
    intro X E C e_ tge_ G h
    unfold chkI at h
    cases h
  g := by
    intro X E C e_ G h
    unfold chkG at h
    cases h
  gs := by
    intro X E C es_ G h
    unfold chkGs at h
    cases h
  s := by
    intro X E C B st_ G hp h
    unfold chkS at h
    cases h
  ss := by
    intro X E C B sts_ G hp h
    unfold chkSs at h
    cases h
  h := by
    intro X E C hs_ G hh h
    unfold chkH at h
    cases h
theorem snd_str {x : Str}  : Snd (.str x) where
  e := by
    intro X E C e G h
    unfold chkE at h
    split at h
    · rw [← of_decide_eq_true h]; exact sn_str
    · cases h
  l := by
    intro X E C v_ G h hl
    cases v_ <;> first | (cases hl; done) | (unfold chkE at h; cases h; done) | (simp [chkE] at h; done)
  b := by
    intro X E C e_ G h
    unfold chkB at h
    cases h
  a := by
    intro X E C es_ G h
    unfold chkA at h
    cases h
  v := by
    intro X E C es_ pos G h
    unfold chkV at h
    cases h
  tt := by
    intro X E C es_ pos G h
    unfold chkT at h
    cases h
  p := by
    intro X E C e_ G h
    unfold chkP at h
    cases h
  i := by
    intro X E C e_ tge_ G h
    unfold chkI at h
    cases h
  g := by
    intro X E C e_ G h
    unfold chkG at h
    cases h
  gs := by
    intro X E C es_ G h
    unfold chkGs at h
    cases h
  s := by
    intro X E C B st_ G hp h
    unfold chkS at h
    cases h
  ss := by
    intro X E C B sts_ G hp h
    unfold chkSs at h
    cases h
  h := by
    intro X E C hs_ G hh h
    unfold chkH at h
    cases h
theorem snd_var {i : Nat}  : Snd (.var i) where
  e := by
    intro X E C e G h
    unfold chkE at h
    split at h
    · obtain ⟨h1, h2, h3, h4⟩ := G.nm h
      exact sn_var h1 h2 h3 h4
    · cases h
  l := by
    intro X E C v_ G h hl
    cases v_ <;> first | (cases hl; done) | (unfold chkE at h; cases h; done) | (simp [chkE] at h; done)
  b := by
    intro X E C e_ G h
    unfold chkB at h
    cases h
  a := by
    intro X E C es_ G h
    unfold chkA at h
    cases h
  v := by
    intro X E C es_ pos G h
    unfold chkV at h
    cases h
  tt := by
    intro X E C es_ pos G h
    unfold chkT at h
    cases h
  p := by
    intro X E C e_ G h
    unfold chkP at h
    cases h
  i := by
    intro X E C e_ tge_ G h
    unfold chkI at h
    cases h
  g := by
    intro X E C e_ G h
    unfold chkG at h
    cases h
  gs := by
    intro X E C es_ G h
    unfold chkGs at h
    cases h
  s := by
    intro X E C B st_ G hp h
    unfold chkS at h
    cases h
  ss := by
    intro X E C B sts_ G hp h
    unfold chkSs at h
    cases h
  h := by
    intro X E C hs_ G hh h
    unfold chkH at h
    cases h
theorem snd_bvar {i : Nat}  : Snd (.bvar i) where
  e := by
    intro X E C e G h
    unfold chkE at h
    split at h
    · obtain ⟨h1, h2, h3, h4⟩ := G.nm h
      exact sn_bvar h1 h2 h3 h4
    · cases h
  l := by
    intro X E C v_ G h hl
    cases v_ <;> first | (cases hl; done) | (unfold chkE at h; cases h; done) | (simp [chkE] at h; done)
  b := by
    intro X E C e_ G h
    unfold chkB at h
    cases h
  a := by
    intro X E C es_ G h
    unfold chkA at h
    cases h
  v := by
    intro X E C es_ pos G h
    unfold chkV at h
    cases h
  tt := by
    intro X E C es_ pos G h
    unfold chkT at h
    cases h
  p := by
    intro X E C e_ G h
    unfold chkP at h
    cases h
  i := by
    intro X E C e_ tge_ G h
    unfold chkI at h
    cases h
  g := by
    intro X E C e_ G h
    unfold chkG at h
    cases h
  gs := by
    intro X E C es_ G h
    unfold chkGs at h
    cases h
  s := by
    intro X E C B st_ G hp h
    unfold chkS at h
    cases h
  ss := by
    intro X E C B sts_ G hp h
    unfold chkSs at h
    cases h
  h := by
    intro X E C hs_ G hh h
    unfold chkH at h
    cases h
theorem snd_glob {j : Nat}  : Snd (.glob j) where
  e := by
    intro X E C e G h
    unfold chkE at h
    split at h
    · simp only [Bool.and_eq_true, decide_eq_true_eq, Bool.not_eq_true'] at h
      obtain ⟨⟨h1, h2⟩, h3⟩ := h
      obtain ⟨v, u, k1, k2, k3⟩ := G.gl _ _ h1
      exact sn_glob (G.gl_ h2) k1 k2 h3 k3
    · cases h
  l := by
    intro X E C v_ G h hl
    cases v_ <;> first | (cases hl; done) | (unfold chkE at h; cases h; done) | (simp [chkE] at h; done)
  b := by
    intro X E C e_ G h
    unfold chkB at h
    cases h
  a := by
    intro X E C es_ G h
    unfold chkA at h
    cases h
  v := by
    intro X E C es_ pos G h
    unfold chkV at h
    cases h
  tt := by
    intro X E C es_ pos G h
    unfold chkT at h
    cases h
  p := by
    intro X E C e_ G h
    unfold chkP at h
    cases h
  i := by
    intro X E C e_ tge_ G h
    unfold chkI at h
    cases h
  g := by
    intro X E C e_ G h
    unfold chkG at h
    cases h
  gs := by
    intro X E C es_ G h
    unfold chkGs at h
    cases h
  s := by
    intro X E C B st_ G hp h
    unfold chkS at h
    cases h
  ss := by
    intro X E C B sts_ G hp h
    unfold chkSs at h
    cases h
  h := by
    intro X E C hs_ G hh h
    unfold chkH at h
    cases h
theorem snd_gfn {i : Nat}  : Snd (.gfn i) where
  e := by
    intro X E C e G h
    unfold chkE at h
    split at h
    · simp only [Bool.and_eq_true, decide_eq_true_eq, Bool.not_eq_true'] at h
      obtain ⟨⟨⟨hh, h1⟩, h2⟩, h3⟩ := h
      obtain ⟨⟨y, ar⟩, q1, q2⟩ := Option.map_eq_some_iff.mp h1
      obtain ⟨k, r, F, _⟩ := G.room hh
      obtain ⟨fa, e1, e2, e3⟩ := F _ _ _ q1
      have q2 : y = _ := q2
      subst q2
      exact sn_gfn (G.gl_ h2) e1 h3 e2
    · cases h
  l := by
    intro X E C v_ G h hl
    cases v_ <;> first | (cases hl; done) | (unfold chkE at h; cases h; done) | (simp [chkE] at h; done)
  b := by
    intro X E C e_ G h
    unfold chkB at h
    cases h
  a := by
    intro X E C es_ G h
    unfold chkA at h
    cases h
  v := by
    intro X E C es_ pos G h
    unfold chkV at h
    cases h
  tt := by
    intro X E C es_ pos G h
    unfold chkT at h
    cases h
  p := by
    intro X E C e_ G h
    unfold chkP at h
    cases h
  i := by
    intro X E C e_ tge_ G h
    unfold chkI at h
    cases h
  g := by
    intro X E C e_ G h
    unfold chkG at h
    cases h
  gs := by
    intro X E C es_ G h
    unfold chkGs at h
    cases h
  s := by
    intro X E C B st_ G hp h
    unfold chkS at h
    cases h
  ss := by
    intro X E C B sts_ G hp h
    unfold chkSs at h
    cases h
  h := by
    intro X E C hs_ G hh h
    unfold chkH at h
    cases h
theorem snd_bin {o : BO} {a : T} {b : T} (iha : Snd a) (ihb : Snd b) : Snd (.bin o a b) where
  e := by
    intro X E C e G h
    unfold chkE at h
    split at h
    · simp only [Bool.and_eq_true, decide_eq_true_eq, Bool.not_eq_true'] at h
      obtain ⟨⟨h1, h2⟩, h3⟩ := h
      rw [isOp_ok h1]
      exact sn_bin G.K (iha.e G h2) (ihb.e G h3)
    · cases h
  l := by
    intro X E C v_ G h hl
    cases v_ <;> first | (cases hl; done) | (unfold chkE at h; cases h; done) | (simp [chkE] at h; done)
  b := by
    intro X E C e_ G h
    unfold chkB at h
    cases h
  a := by
    intro X E C es_ G h
    unfold chkA at h
    cases h
  v := by
    intro X E C es_ pos G h
    unfold chkV at h
    cases h
  tt := by
    intro X E C es_ pos G h
    unfold chkT at h
    cases h
  p := by
    intro X E C e_ G h
    unfold chkP at h
    cases h
  i := by
    intro X E C e_ tge_ G h
    unfold chkI at h
    cases h
  g := by
    intro X E C e_ G h
    unfold chkG at h
    cases h
  gs := by
    intro X E C es_ G h
    unfold chkGs at h
    cases h
  s := by
    intro X E C B st_ G hp h
    unfold chkS at h
    cases h
  ss := by
    intro X E C B sts_ G hp h
    unfold chkSs at h
    cases h
  h := by
    intro X E C hs_ G hh h
    unfold chkH at h
    cases h
theorem snd_neg {a : T} (iha : Snd a) : Snd (.neg a) where
  e := by
    intro X E C e G h
    unfold chkE at h
    split at h
    · exact sn_neg (iha.e G h)
    · cases h
  l := by
    intro X E C v_ G h hl
    cases v_ <;> first | (cases hl; done) | (unfold chkE at h; cases h; done) | (simp [chkE] at h; done)
  b := by
    intro X E C e_ G h
    unfold chkB at h
    cases h
  a := by
    intro X E C es_ G h
    unfold chkA at h
    cases h
  v := by
    intro X E C es_ pos G h
    unfold chkV at h
    cases h
  tt := by
    intro X E C es_ pos G h
    unfold chkT at h
    cases h
  p := by
    intro X E C e_ G h
    unfold chkP at h
    cases h
  i := by
    intro X E C e_ tge_ G h
    unfold chkI at h
    cases h
  g := by
    intro X E C e_ G h
    unfold chkG at h
    cases h
  gs := by
    intro X E C es_ G h
    unfold chkGs at h
    cases h
  s := by
    intro X E C B st_ G hp h
    unfold chkS at h
    cases h
  ss := by
    intro X E C B sts_ G hp h
    unfold chkSs at h
    cases h
  h := by
    intro X E C hs_ G hh h
    unfold chkH at h
    cases h
theorem snd_cmp {o : CO} {a : T} {b : T} (iha : Snd a) (ihb : Snd b) : Snd (.cmp o a b) where
  e := by
    intro X E C e G h
    unfold chkE at h
    split at h
    · simp only [Bool.and_eq_true, decide_eq_true_eq, Bool.not_eq_true'] at h
      obtain ⟨⟨⟨h1, h4⟩, h2⟩, h3⟩ := h
      have h1 := isCo_ok h1
      subst h1
      exact sn_cmp G.K G.hu (iha.e G h2) (ihb.e G h3) h4
    · cases h
  l := by
    intro X E C v_ G h hl
    cases v_ <;> first | (cases hl; done) | (unfold chkE at h; cases h; done) | (simp [chkE] at h; done)
  b := by
    intro X E C e G h
    unfold chkB at h
    split at h
    · simp only [Bool.and_eq_true, decide_eq_true_eq, Bool.not_eq_true'] at h
      obtain ⟨⟨⟨h1, h4⟩, h2⟩, h3⟩ := h
      have h1 := isCo_ok h1
      subst h1
      exact st_cmp G.K G.hu (iha.e G h2) (ihb.e G h3) h4
    · cases h
  a := by
    intro X E C es_ G h
    unfold chkA at h
    cases h
  v := by
    intro X E C es_ pos G h
    unfold chkV at h
    cases h
  tt := by
    intro X E C es_ pos G h
    unfold chkT at h
    cases h
  p := by
    intro X E C e_ G h
    unfold chkP at h
    cases h
  i := by
    intro X E C e_ tge_ G h
    unfold chkI at h
    cases h
  g := by
    intro X E C e_ G h
    unfold chkG at h
    cases h
  gs := by
    intro X E C es_ G h
    unfold chkGs at h
    cases h
  s := by
    intro X E C B st_ G hp h
    unfold chkS at h
    cases h
  ss := by
    intro X E C B sts_ G hp h
    unfold chkSs at h
    cases h
  h := by
    intro X E C hs_ G hh h
    unfold chkH at h
    cases h
theorem snd_chn {o : CO} {p : CO} {a : T} {b : T} {c : T} (iha : Snd a) (ihb : Snd b) (ihc : Snd c) : Snd (.chn o p a b c) where
  e := by
    intro X E C e G h
    unfold chkE at h
    split at h
    · simp only [Bool.and_eq_true, decide_eq_true_eq, Bool.not_eq_true'] at h
      obtain ⟨⟨⟨⟨⟨h1, h2⟩, h3⟩, h4⟩, h5⟩, h6⟩ := h
      have h1 := isCo_ok h1
      have h2 := isCo_ok h2
      subst h1 h2
      exact sn_chn G.K G.hu (iha.e G h4) (ihb.e G h5) (ihc.e G h6) h3
    · cases h
  l := by
    intro X E C v_ G h hl
    cases v_ <;> first | (cases hl; done) | (unfold chkE at h; cases h; done) | (simp [chkE] at h; done)
  b := by
    intro X E C e G h
    unfold chkB at h
    split at h
    · simp only [Bool.and_eq_true, decide_eq_true_eq, Bool.not_eq_true'] at h
      obtain ⟨⟨⟨⟨⟨h1, h2⟩, h3⟩, h4⟩, h5⟩, h6⟩ := h
      have h1 := isCo_ok h1
      have h2 := isCo_ok h2
      subst h1 h2
      exact st_chn G.K G.hu (iha.e G h4) (ihb.e G h5) (ihc.e G h6) h3
    · cases h
  a := by
    intro X E C es_ G h
    unfold chkA at h
    cases h
  v := by
    intro X E C es_ pos G h
    unfold chkV at h
    cases h
  tt := by
    intro X E C es_ pos G h
    unfold chkT at h
    cases h
  p := by
    intro X E C e_ G h
    unfold chkP at h
    cases h
  i := by
    intro X E C e_ tge_ G h
    unfold chkI at h
    cases h
  g := by
    intro X E C e_ G h
    unfold chkG at h
    cases h
  gs := by
    intro X E C es_ G h
    unfold chkGs at h
    cases h
  s := by
    intro X E C B st_ G hp h
    unfold chkS at h
    cases h
  ss := by
    intro X E C B sts_ G hp h
    unfold chkSs at h
    cases h
  h := by
    intro X E C hs_ G hh h
    unfold chkH at h
    cases h
theorem snd_ban {a : T} (iha : Snd a) : Snd (.ban a) where
  e := by
    intro X E C e G h
    unfold chkE at h
    split at h
    · exact sn_ban (iha.v _ G h).1
    · cases h
  l := by
    intro X E C v_ G h hl
    cases v_ <;> first | (cases hl; done) | (unfold chkE at h; cases h; done) | (simp [chkE] at h; done)
  b := by
    intro X E C e G h
    unfold chkB at h
    split at h
    · exact st_ban (iha.tt _ G h).1
    · cases h
  a := by
    intro X E C es_ G h
    unfold chkA at h
    cases h
  v := by
    intro X E C es_ pos G h
    unfold chkV at h
    cases h
  tt := by
    intro X E C es_ pos G h
    unfold chkT at h
    cases h
  p := by
    intro X E C e_ G h
    unfold chkP at h
    cases h
  i := by
    intro X E C e_ tge_ G h
    unfold chkI at h
    cases h
  g := by
    intro X E C e_ G h
    unfold chkG at h
    cases h
  gs := by
    intro X E C es_ G h
    unfold chkGs at h
    cases h
  s := by
    intro X E C B st_ G hp h
    unfold chkS at h
    cases h
  ss := by
    intro X E C B sts_ G hp h
    unfold chkSs at h
    cases h
  h := by
    intro X E C hs_ G hh h
    unfold chkH at h
    cases h
theorem snd_bor {a : T} (iha : Snd a) : Snd (.bor a) where
  e := by
    intro X E C e G h
    unfold chkE at h
    split at h
    · exact sn_bor (iha.v _ G h).2
    · cases h
  l := by
    intro X E C v_ G h hl
    cases v_ <;> first | (cases hl; done) | (unfold chkE at h; cases h; done) | (simp [chkE] at h; done)
  b := by
    intro X E C e G h
    unfold chkB at h
    split at h
    · exact st_bor (iha.tt _ G h).2
    · cases h
  a := by
    intro X E C es_ G h
    unfold chkA at h
    cases h
  v := by
    intro X E C es_ pos G h
    unfold chkV at h
    cases h
  tt := by
    intro X E C es_ pos G h
    unfold chkT at h
    cases h
  p := by
    intro X E C e_ G h
    unfold chkP at h
    cases h
  i := by
    intro X E C e_ tge_ G h
    unfold chkI at h
    cases h
  g := by
    intro X E C e_ G h
    unfold chkG at h
    cases h
  gs := by
    intro X E C es_ G h
    unfold chkGs at h
    cases h
  s := by
    intro X E C B st_ G hp h
    unfold chkS at h
    cases h
  ss := by
    intro X E C B sts_ G hp h
    unfold chkSs at h
    cases h
  h := by
    intro X E C hs_ G hh h
    unfold chkH at h
    cases h
theorem snd_not {a : T} (iha : Snd a) : Snd (.not a) where
  e := by
    intro X E C e G h
    unfold chkE at h
    split at h
    · exact sn_not (iha.e G h)
    · cases h
  l := by
    intro X E C v_ G h hl
    cases v_ <;> first | (cases hl; done) | (unfold chkE at h; cases h; done) | (simp [chkE] at h; done)
  b := by
    intro X E C e G h
    unfold chkB at h
    split at h
    · exact st_not (iha.b G h)
    · cases h
  a := by
    intro X E C es_ G h
    unfold chkA at h
    cases h
  v := by
    intro X E C es_ pos G h
    unfold chkV at h
    cases h
  tt := by
    intro X E C es_ pos G h
    unfold chkT at h
    cases h
  p := by
    intro X E C e_ G h
    unfold chkP at h
    cases h
  i := by
    intro X E C e_ tge_ G h
    unfold chkI at h
    cases h
  g := by
    intro X E C e_ G h
    unfold chkG at h
    cases h
  gs := by
    intro X E C es_ G h
    unfold chkGs at h
    cases h
  s := by
    intro X E C B st_ G hp h
    unfold chkS at h
    cases h
  ss := by
    intro X E C B sts_ G hp h
    unfold chkSs at h
    cases h
  h := by
    intro X E C hs_ G hh h
    unfold chkH at h
    cases h
theorem snd_ite {c : T} {a : T} {b : T} (ihc : Snd c) (iha : Snd a) (ihb : Snd b) : Snd (.ite c a b) where
  e := by
    intro X E C e G h
    unfold chkE at h
    split at h
    · simp only [Bool.and_eq_true, decide_eq_true_eq, Bool.not_eq_true'] at h
      obtain ⟨⟨h1, h2⟩, h3⟩ := h
      exact sn_ite (ihc.b G h1) (iha.e G h2) (ihb.e G h3)
    · cases h
  l := by
    intro X E C v_ G h hl
    cases v_ <;> first | (cases hl; done) | (unfold chkE at h; cases h; done) | (simp [chkE] at h; done)
  b := by
    intro X E C e_ G h
    unfold chkB at h
    cases h
  a := by
    intro X E C es_ G h
    unfold chkA at h
    cases h
  v := by
    intro X E C es_ pos G h
    unfold chkV at h
    cases h
  tt := by
    intro X E C es_ pos G h
    unfold chkT at h
    cases h
  p := by
    intro X E C e_ G h
    unfold chkP at h
    cases h
  i := by
    intro X E C e_ tge_ G h
    unfold chkI at h
    cases h
  g := by
    intro X E C e_ G h
    unfold chkG at h
    cases h
  gs := by
    intro X E C es_ G h
    unfold chkGs at h
    cases h
  s := by
    intro X E C B st_ G hp h
    unfold chkS at h
    cases h
  ss := by
    intro X E C B sts_ G hp h
    unfold chkSs at h
    cases h
  h := by
    intro X E C hs_ G hh h
    unfold chkH at h
    cases h
theorem snd_tup {a : T} (iha : Snd a) : Snd (.tup a) where
  e := by
    intro X E C e G h
    unfold chkE at h
    split at h
    · exact sn_tup (iha.a G h).1
    · cases h
  l := by
    intro X E C v_ G h hl
    cases v_ <;> first | (cases hl; done) | (unfold chkE at h; cases h; done) | (simp [chkE] at h; done)
  b := by
    intro X E C e_ G h
    unfold chkB at h
    cases h
  a := by
    intro X E C es_ G h
    unfold chkA at h
    cases h
  v := by
    intro X E C es_ pos G h
    unfold chkV at h
    cases h
  tt := by
    intro X E C es_ pos G h
    unfold chkT at h
    cases h
  p := by
    intro X E C e_ G h
    unfold chkP at h
    cases h
  i := by
    intro X E C e_ tge_ G h
    unfold chkI at h
    cases h
  g := by
    intro X E C e_ G h
    unfold chkG at h
    cases h
  gs := by
    intro X E C es_ G h
    unfold chkGs at h
    cases h
  s := by
    intro X E C B st_ G hp h
    unfold chkS at h
    cases h
  ss := by
    intro X E C B sts_ G hp h
    unfold chkSs at h
    cases h
  h := by
    intro X E C hs_ G hh h
    unfold chkH at h
    cases h
theorem snd_lst {a : T} (iha : Snd a) : Snd (.lst a) where
  e := by
    intro X E C e G h
    unfold chkE at h
    split at h
    · exact sn_lst (iha.a G h).1
    · cases h
  l := by
    intro X E C v_ G h hl
    cases v_ <;> first | (cases hl; done) | (unfold chkE at h; cases h; done) | (simp [chkE] at h; done)
  b := by
    intro X E C e_ G h
    unfold chkB at h
    cases h
  a := by
    intro X E C es_ G h
    unfold chkA at h
    cases h
  v := by
    intro X E C es_ pos G h
    unfold chkV at h
    cases h
  tt := by
    intro X E C es_ pos G h
    unfold chkT at h
    cases h
  p := by
    intro X E C e_ G h
    unfold chkP at h
    cases h
  i := by
    intro X E C e_ tge_ G h
    unfold chkI at h
    cases h
  g := by
    intro X E C e_ G h
    unfold chkG at h
    cases h
  gs := by
    intro X E C es_ G h
    unfold chkGs at h
    cases h
  s := by
    intro X E C B st_ G hp h
    unfold chkS at h
    cases h
  ss := by
    intro X E C B sts_ G hp h
    unfold chkSs at h
    cases h
  h := by
    intro X E C hs_ G hh h
    unfold chkH at h
    cases h
theorem snd_olst {a : T} (iha : Snd a) : Snd (.olst a) where
  e := by
    intro X E C e G h
    unfold chkE at h
    split at h
    · exact sn_olst (iha.a G h).1
    · cases h
  l := by
    intro X E C v_ G h hl
    cases v_ <;> first | (cases hl; done) | (unfold chkE at h; cases h; done) | (simp [chkE] at h; done)
  b := by
    intro X E C e_ G h
    unfold chkB at h
    cases h
  a := by
    intro X E C es_ G h
    unfold chkA at h
    cases h
  v := by
    intro X E C es_ pos G h
    unfold chkV at h
    cases h
  tt := by
    intro X E C es_ pos G h
    unfold chkT at h
    cases h
  p := by
    intro X E C e_ G h
    unfold chkP at h
    cases h
  i := by
    intro X E C e_ tge_ G h
    unfold chkI at h
    cases h
  g := by
    intro X E C e_ G h
    unfold chkG at h
    cases h
  gs := by
    intro X E C es_ G h
    unfold chkGs at h
    cases h
  s := by
    intro X E C B st_ G hp h
    unfold chkS at h
    cases h
  ss := by
    intro X E C B sts_ G hp h
    unfold chkSs at h
    cases h
  h := by
    intro X E C hs_ G hh h
    unfold chkH at h
    cases h
theorem snd_idx {a : T} {i : T} (iha : Snd a) (ihi : Snd i) : Snd (.idx a i) where
  e := by
    intro X E C e G h
    unfold chkE at h
    split at h
    · simp only [Bool.and_eq_true, decide_eq_true_eq, Bool.not_eq_true'] at h
      obtain ⟨⟨h1, h2⟩, h3⟩ := h
      exact sn_idx G.K (iha.e G h2) (ihi.e G h3) (plainIx_of h1)
    · cases h
  l := by
    intro X E C v_ G h hl
    cases v_ <;> first | (cases hl; done) | (unfold chkE at h; cases h; done) | (simp [chkE] at h; done)
  b := by
    intro X E C e_ G h
    unfold chkB at h
    cases h
  a := by
    intro X E C es_ G h
    unfold chkA at h
    cases h
  v := by
    intro X E C es_ pos G h
    unfold chkV at h
    cases h
  tt := by
    intro X E C es_ pos G h
    unfold chkT at h
    cases h
  p := by
    intro X E C e_ G h
    unfold chkP at h
    cases h
  i := by
    intro X E C e_ tge_ G h
    unfold chkI at h
    cases h
  g := by
    intro X E C e_ G h
    unfold chkG at h
    cases h
  gs := by
    intro X E C es_ G h
    unfold chkGs at h
    cases h
  s := by
    intro X E C B st_ G hp h
    unfold chkS at h
    cases h
  ss := by
    intro X E C B sts_ G hp h
    unfold chkSs at h
    cases h
  h := by
    intro X E C hs_ G hh h
    unfold chkH at h
    cases h
theorem snd_slc {a : T} {lo : T} {hi : T} (iha : Snd a) (ihlo : Snd lo) (ihhi : Snd hi) : Snd (.slc a lo hi) where
  e := by
    intro X E C e G h
    unfold chkE at h
    split at h
    · simp only [Bool.and_eq_true, decide_eq_true_eq, Bool.not_eq_true'] at h
      obtain ⟨⟨h1, h2⟩, h3⟩ := h
      exact sn_slc G.K (iha.e G h1) (ihlo.p G h2) (ihhi.p G h3)
    · cases h
  l := by
    intro X E C v_ G h hl
    cases v_ <;> first | (cases hl; done) | (unfold chkE at h; cases h; done) | (simp [chkE] at h; done)
  b := by
    intro X E C e_ G h
    unfold chkB at h
    cases h
  a := by
    intro X E C es_ G h
    unfold chkA at h
    cases h
  v := by
    intro X E C es_ pos G h
    unfold chkV at h
    cases h
  tt := by
    intro X E C es_ pos G h
    unfold chkT at h
    cases h
  p := by
    intro X E C e_ G h
    unfold chkP at h
    cases h
  i := by
    intro X E C e_ tge_ G h
    unfold chkI at h
    cases h
  g := by
    intro X E C e_ G h
    unfold chkG at h
    cases h
  gs := by
    intro X E C es_ G h
    unfold chkGs at h
    cases h
  s := by
    intro X E C B st_ G hp h
    unfold chkS at h
    cases h
  ss := by
    intro X E C B sts_ G hp h
    unfold chkSs at h
    cases h
  h := by
    intro X E C hs_ G hh h
    unfold chkH at h
    cases h
theorem snd_call {f : Nat} {a : T} (iha : Snd a) : Snd (.call f a) where
  e := by
    intro X E C e G h
    unfold chkE at h
    split at h
    · simp only [Bool.and_eq_true, decide_eq_true_eq, Bool.not_eq_true'] at h
      obtain ⟨⟨⟨⟨⟨hh, h1⟩, h2⟩, h3⟩, h4⟩, h5⟩ := h
      obtain ⟨⟨y, ar⟩, q1, q2⟩ := Option.map_eq_some_iff.mp h1
      obtain ⟨k, r, F, _⟩ := G.room hh
      obtain ⟨fa, e1, e2, e3⟩ := F _ _ _ q1
      have q2 : y = _ := q2
      subst q2
      exact sn_call G.K e3 r G.gu (G.gl_ h2) e1 G.tk (iha.a G h5).1 h3 h4 fun ds m => G.har _ _ _ ds m q1
    · cases h
  l := by
    intro X E C v_ G h hl
    cases v_ <;> first | (cases hl; done) | (unfold chkE at h; cases h; done) | (simp [chkE] at h; done)
  b := by
    intro X E C e_ G h
    unfold chkB at h
    cases h
  a := by
    intro X E C es_ G h
    unfold chkA at h
    cases h
  v := by
    intro X E C es_ pos G h
    unfold chkV at h
    cases h
  tt := by
    intro X E C es_ pos G h
    unfold chkT at h
    cases h
  p := by
    intro X E C e_ G h
    unfold chkP at h
    cases h
  i := by
    intro X E C e_ tge_ G h
    unfold chkI at h
    cases h
  g := by
    intro X E C e_ G h
    unfold chkG at h
    cases h
  gs := by
    intro X E C es_ G h
    unfold chkGs at h
    cases h
  s := by
    intro X E C B st_ G hp h
    unfold chkS at h
    cases h
  ss := by
    intro X E C B sts_ G hp h
    unfold chkSs at h
    cases h
  h := by
    intro X E C hs_ G hh h
    unfold chkH at h
    cases h
theorem snd_callv {i : Nat} {a : T} (iha : Snd a) : Snd (.callv i a) where
  e := by
    intro X E C e G h
    unfold chkE at h
    split at h
    · simp only [Bool.and_eq_true, decide_eq_true_eq, Bool.not_eq_true'] at h
      obtain ⟨⟨⟨hh, h1⟩, h4⟩, h5⟩ := h
      obtain ⟨n1, n2, n3, n4⟩ := G.nm h1
      obtain ⟨k, r, F, F2⟩ := G.room hh
      refine sn_callv (k := k) (fun f => ((C.fns[f]?).map (·.2)).getD 0) (fun f fa hf => ?_) r G.gu n1 n2 G.tk (iha.a G h5).1 n3 n4 h4 fun f ds m hb => ?_
      · obtain ⟨y, ar, q1⟩ := F2 f fa hf
        obtain ⟨fa2, e1, e2, e3⟩ := F _ _ _ q1
        rw [hf] at e2
        cases e2
        rw [q1]
        exact e3
      · cases q : C.fns[f]? with
        | none => exact absurd (G.har0 f ds m q) hb
        | some p => exact G.har f p.1 p.2 ds m q hb
    · cases h
  l := by
    intro X E C v_ G h hl
    cases v_ <;> first | (cases hl; done) | (unfold chkE at h; cases h; done) | (simp [chkE] at h; done)
  b := by
    intro X E C e_ G h
    unfold chkB at h
    cases h
  a := by
    intro X E C es_ G h
    unfold chkA at h
    cases h
  v := by
    intro X E C es_ pos G h
    unfold chkV at h
    cases h
  tt := by
    intro X E C es_ pos G h
    unfold chkT at h
    cases h
  p := by
    intro X E C e_ G h
    unfold chkP at h
    cases h
  i := by
    intro X E C e_ tge_ G h
    unfold chkI at h
    cases h
  g := by
    intro X E C e_ G h
    unfold chkG at h
    cases h
  gs := by
    intro X E C es_ G h
    unfold chkGs at h
    cases h
  s := by
    intro X E C B st_ G hp h
    unfold chkS at h
    cases h
  ss := by
    intro X E C B sts_ G hp h
    unfold chkSs at h
    cases h
  h := by
    intro X E C hs_ G hh h
    unfold chkH at h
    cases h
theorem snd_blt {f : BF} {a : T} (iha : Snd a) : Snd (.blt f a) where
  e := by
    intro X E C e G h
    unfold chkE at h
    split at h
    · simp only [Bool.and_eq_true, decide_eq_true_eq, Bool.not_eq_true'] at h
      obtain ⟨⟨⟨⟨hh, h1⟩, h2⟩, h3⟩, h4⟩ := h
      subst h1
      exact sn_blt G.K (G.calm hh) G.gu G.hu (G.gl_ h2) (G.bl _ (bfN_mem _)) (iha.a G h4).2 h3
    · cases h
  l := by
    intro X E C v_ G h hl
    cases v_ <;> first | (cases hl; done) | (unfold chkE at h; cases h; done) | (simp [chkE] at h; done)
  b := by
    intro X E C e_ G h
    unfold chkB at h
    cases h
  a := by
    intro X E C es_ G h
    unfold chkA at h
    cases h
  v := by
    intro X E C es_ pos G h
    unfold chkV at h
    cases h
  tt := by
    intro X E C es_ pos G h
    unfold chkT at h
    cases h
  p := by
    intro X E C e_ G h
    unfold chkP at h
    cases h
  i := by
    intro X E C e_ tge_ G h
    unfold chkI at h
    cases h
  g := by
    intro X E C e_ G h
    unfold chkG at h
    cases h
  gs := by
    intro X E C es_ G h
    unfold chkGs at h
    cases h
  s := by
    intro X E C B st_ G hp h
    unfold chkS at h
    cases h
  ss := by
    intro X E C B sts_ G hp h
    unfold chkSs at h
    cases h
  h := by
    intro X E C hs_ G hh h
    unfold chkH at h
    cases h
theorem snd_isi {a : T} {t : TY} (iha : Snd a) : Snd (.isi a t) where
  e := by
    intro X E C e G h
    unfold chkE at h
    split at h
    · simp only [Bool.and_eq_true, decide_eq_true_eq, Bool.not_eq_true'] at h
      obtain ⟨⟨⟨⟨⟨h1, h2⟩, h3⟩, h4⟩, h5⟩, h6⟩ := h
      subst h1 h3
      exact sn_isi G.K (G.gl_ h2) (G.bl _ (by decide)) (G.gl_ h4) (G.bl _ (tyN_mem _)) (iha.e G h6) h5
    · cases h
  l := by
    intro X E C v_ G h hl
    cases v_ <;> first | (cases hl; done) | (unfold chkE at h; cases h; done) | (simp [chkE] at h; done)
  b := by
    intro X E C e_ G h
    unfold chkB at h
    cases h
  a := by
    intro X E C es_ G h
    unfold chkA at h
    cases h
  v := by
    intro X E C es_ pos G h
    unfold chkV at h
    cases h
  tt := by
    intro X E C es_ pos G h
    unfold chkT at h
    cases h
  p := by
    intro X E C e_ G h
    unfold chkP at h
    cases h
  i := by
    intro X E C e_ tge_ G h
    unfold chkI at h
    cases h
  g := by
    intro X E C e_ G h
    unfold chkG at h
    cases h
  gs := by
    intro X E C es_ G h
    unfold chkGs at h
    cases h
  s := by
    intro X E C B st_ G hp h
    unfold chkS at h
    cases h
  ss := by
    intro X E C B sts_ G hp h
    unfold chkSs at h
    cases h
  h := by
    intro X E C hs_ G hh h
    unfold chkH at h
    cases h
theorem snd_lc {e : T} {c : T} {tg : T} {it : T} {own : List Nat} (ihe : Snd e) (ihc : Snd c) (ihtg : Snd tg) (ihit : Snd it) : Snd (.lc e c tg it own) where
  e := by
    intro X E C e' G h
    exact lc_pe ihe ihc ihtg ihit G h
  l := by
    intro X E C v G h _ i y py spos hy hl hsw
    exact lc_ps ihe ihc ihtg ihit G h i y py spos hy hl hsw
  b := by
    intro X E C e_ G h
    unfold chkB at h
    cases h
  a := by
    intro X E C es_ G h
    unfold chkA at h
    cases h
  v := by
    intro X E C es_ pos G h
    unfold chkV at h
    cases h
  tt := by
    intro X E C es_ pos G h
    unfold chkT at h
    cases h
  p := by
    intro X E C e_ G h
    unfold chkP at h
    cases h
  i := by
    intro X E C e_ tge_ G h
    unfold chkI at h
    cases h
  g := by
    intro X E C e_ G h
    unfold chkG at h
    cases h
  gs := by
    intro X E C es_ G h
    unfold chkGs at h
    cases h
  s := by
    intro X E C B st_ G hp h
    unfold chkS at h
    cases h
  ss := by
    intro X E C B sts_ G hp h
    unfold chkSs at h
    cases h
  h := by
    intro X E C hs_ G hh h
    unfold chkH at h
    cases h
theorem snd_lc2 {e : T} {c : T} {tg : T} {it : T} {tg2 : T} {it2 : T} {own : List Nat} {own2 : List Nat} (ihe : Snd e) (ihc : Snd c) (ihtg : Snd tg) (ihit : Snd it) (ihtg2 : Snd tg2) (ihit2 : Snd it2) : Snd (.lc2 e c tg it tg2 it2 own own2) where
  e := by
    intro X E C e' G h
    exact lc2_pe ihe ihc ihtg ihit ihtg2 ihit2 G h
  l := by
    intro X E C v G h _ i y py spos hy hl hsw
    exact lc2_ps ihe ihc ihtg ihit ihtg2 ihit2 G h i y py spos hy hl hsw
  b := by
    intro X E C e_ G h
    unfold chkB at h
    cases h
  a := by
    intro X E C es_ G h
    unfold chkA at h
    cases h
  v := by
    intro X E C es_ pos G h
    unfold chkV at h
    cases h
  tt := by
    intro X E C es_ pos G h
    unfold chkT at h
    cases h
  p := by
    intro X E C e_ G h
    unfold chkP at h
    cases h
  i := by
    intro X E C e_ tge_ G h
    unfold chkI at h
    cases h
  g := by
    intro X E C e_ G h
    unfold chkG at h
    cases h
  gs := by
    intro X E C es_ G h
    unfold chkGs at h
    cases h
  s := by
    intro X E C B st_ G hp h
    unfold chkS at h
    cases h
  ss := by
    intro X E C B sts_ G hp h
    unfold chkSs at h
    cases h
  h := by
    intro X E C hs_ G hh h
    unfold chkH at h
    cases h
theorem snd_sd2 {e : T} {tg : T} {it : T} {tg2 : T} {it2 : T} {own : List Nat} {own2 : List Nat} (ihe : Snd e) (ihtg : Snd tg) (ihit : Snd it) (ihtg2 : Snd tg2) (ihit2 : Snd it2) : Snd (.sd2 e tg it tg2 it2 own own2) where
  e := by
    intro X E C e' G h
    exact sd2_pe ihe ihtg ihit ihtg2 ihit2 G h
  l := by
    intro X E C v_ G h hl
    cases v_ <;> first | (cases hl; done) | (unfold chkE at h; cases h; done) | (simp [chkE] at h; done)
  b := by
    intro X E C e_ G h
    unfold chkB at h
    cases h
  a := by
    intro X E C es_ G h
    unfold chkA at h
    cases h
  v := by
    intro X E C es_ pos G h
    unfold chkV at h
    cases h
  tt := by
    intro X E C es_ pos G h
    unfold chkT at h
    cases h
  p := by
    intro X E C e_ G h
    unfold chkP at h
    cases h
  i := by
    intro X E C e_ tge_ G h
    unfold chkI at h
    cases h
  g := by
    intro X E C e_ G h
    unfold chkG at h
    cases h
  gs := by
    intro X E C es_ G h
    unfold chkGs at h
    cases h
  s := by
    intro X E C B st_ G hp h
    unfold chkS at h
    cases h
  ss := by
    intro X E C B sts_ G hp h
    unfold chkSs at h
    cases h
  h := by
    intro X E C hs_ G hh h
    unfold chkH at h
    cases h
theorem snd_lc3 {e : T} {tg : T} {it : T} {tg2 : T} {it2 : T} {tg3 : T} {it3 : T} {own : List Nat} {own2 : List Nat} {own3 : List Nat} (ihe : Snd e) (ihtg : Snd tg) (ihit : Snd it) (ihtg2 : Snd tg2) (ihit2 : Snd it2) (ihtg3 : Snd tg3) (ihit3 : Snd it3) : Snd (.lc3 e tg it tg2 it2 tg3 it3 own own2 own3) where
  e := by
    intro X E C e' G h
    exact lc3_pe ihe ihtg ihit ihtg2 ihit2 ihtg3 ihit3 G h
  l := by
    intro X E C v_ G h hl
    unfold chkE at h
    split at h
    · cases hl
    · cases h
  b := by
    intro X E C e_ G h
    unfold chkB at h
    cases h
  a := by
    intro X E C es_ G h
    unfold chkA at h
    cases h
  v := by
    intro X E C es_ pos G h
    unfold chkV at h
    cases h
  tt := by
    intro X E C es_ pos G h
    unfold chkT at h
    cases h
  p := by
    intro X E C e_ G h
    unfold chkP at h
    cases h
  i := by
    intro X E C e_ tge_ G h
    unfold chkI at h
    cases h
  g := by
    intro X E C e_ G h
    unfold chkG at h
    cases h
  gs := by
    intro X E C es_ G h
    unfold chkGs at h
    cases h
  s := by
    intro X E C B st_ G hp h
    unfold chkS at h
    cases h
  ss := by
    intro X E C B sts_ G hp h
    unfold chkSs at h
    cases h
  h := by
    intro X E C hs_ G hh h
    unfold chkH at h
    cases h
theorem snd_lnd {i : Nat} {c : T} (ihc : Snd c) : Snd (.lnd i c) where
  e := by
    intro X E C e_ G h
    unfold chkE at h
    cases h
  l := by
    intro X E C v_ G h hl
    unfold chkE at h
    cases h
  b := by
    intro X E C e G h
    unfold chkB at h
    exact st_lnd (ihc.b G h)
  a := by
    intro X E C es_ G h
    unfold chkA at h
    cases h
  v := by
    intro X E C es_ pos G h
    unfold chkV at h
    cases h
  tt := by
    intro X E C es_ pos G h
    unfold chkT at h
    cases h
  p := by
    intro X E C e_ G h
    unfold chkP at h
    cases h
  i := by
    intro X E C e_ tge_ G h
    unfold chkI at h
    cases h
  g := by
    intro X E C e_ G h
    unfold chkG at h
    cases h
  gs := by
    intro X E C es_ G h
    unfold chkGs at h
    cases h
  s := by
    intro X E C B st_ G hp h
    unfold chkS at h
    cases h
  ss := by
    intro X E C B sts_ G hp h
    unfold chkSs at h
    cases h
  h := by
    intro X E C hs_ G hh h
    unfold chkH at h
    cases h
theorem snd_nil   : Snd (.nil ) where
  e := by
    intro X E C e_ G h
    unfold chkE at h
    cases h
  l := by
    intro X E C v_ G h hl
    unfold chkE at h
    cases h
  b := by
    intro X E C e_ G h
    unfold chkB at h
    cases h
  a := by
    intro X E C es G h
    unfold chkA at h
    split at h
    · exact ⟨sn_nil, sn_wnil⟩
    · cases h
  v := by
    intro X E C es_ pos G h
    unfold chkV at h
    cases h
  tt := by
    intro X E C es_ pos G h
    unfold chkT at h
    cases h
  p := by
    intro X E C e_ G h
    unfold chkP at h
    cases h
  i := by
    intro X E C e_ tge_ G h
    unfold chkI at h
    cases h
  g := by
    intro X E C e_ G h
    unfold chkG at h
    cases h
  gs := by
    intro X E C es G h
    unfold chkGs at h
    split at h
    · exact ⟨by rw [gTs]; exact pgs_nil, rfl, rfl⟩
    · cases h
  s := by
    intro X E C B st_ G hp h
    unfold chkS at h
    cases h
  ss := by
    intro X E C B sts_ G hp h
    unfold chkSs at h
    cases h
  h := by
    intro X E C hs G hh h
    unfold chkH at h
    split at h
    · exact ⟨[], .nil, hds_nil⟩
    · cases h
theorem snd_cons {a : T} {b : T} (iha : Snd a) (ihb : Snd b) : Snd (.cons a b) where
  e := by
    intro X E C e_ G h
    unfold chkE at h
    cases h
  l := by
    intro X E C v_ G h hl
    unfold chkE at h
    cases h
  b := by
    intro X E C e_ G h
    unfold chkB at h
    cases h
  a := by
    intro X E C es G h
    unfold chkA at h
    split at h
    · simp only [Bool.and_eq_true, decide_eq_true_eq, Bool.not_eq_true'] at h
      obtain ⟨⟨h1, h2⟩, h3⟩ := h
      exact ⟨sn_cons (iha.e G h2) (ihb.a G h3).1 (starEach_cons h1), sn_wcons (iha.e G h2) (ihb.a G h3).2 (starEach_cons h1)⟩
    · cases h
  v := by
    intro X E C es pos G h
    unfold chkV at h
    split at h
    · simp only [Bool.and_eq_true, decide_eq_true_eq, Bool.not_eq_true'] at h
      exact ⟨sv_and (iha.e G h.1) (ihb.v pos G h.2).1, sv_or (iha.e G h.1) (ihb.v pos G h.2).2⟩
    · cases h
  tt := by
    intro X E C es pos G h
    unfold chkT at h
    split at h
    · simp only [Bool.and_eq_true, decide_eq_true_eq, Bool.not_eq_true'] at h
      exact ⟨sw_and (iha.b G h.1) (ihb.tt pos G h.2).1, sw_or (iha.b G h.1) (ihb.tt pos G h.2).2⟩
    · cases h
  p := by
    intro X E C e_ G h
    unfold chkP at h
    cases h
  i := by
    intro X E C e_ tge_ G h
    unfold chkI at h
    cases h
  g := by
    intro X E C e_ G h
    unfold chkG at h
    cases h
  gs := by
    intro X E C es G h
    unfold chkGs at h
    split at h
    · simp only [Bool.and_eq_true, decide_eq_true_eq, Bool.not_eq_true'] at h
      obtain ⟨h1, h2⟩ := h
      obtain ⟨p1, p2⟩ := iha.g G h1
      obtain ⟨p3, p4, p5⟩ := ihb.gs G h2
      refine ⟨by rw [gTs]; exact pgs_cons p1 p3 (assignEach_cons p2), by rw [List.all_cons, p2, p4]; rfl, by rw [List.length_cons, p5]; rfl⟩
    · cases h
  s := by
    intro X E C B st_ G hp h
    unfold chkS at h
    cases h
  ss := by
    intro X E C B sts_ G hp h
    unfold chkSs at h
    cases h
  h := by
    intro X E C hs_ G hh h
    unfold chkH at h
    cases h
theorem snd_one {a : T} (iha : Snd a) : Snd (.one a) where
  e := by
    intro X E C e_ G h
    unfold chkE at h
    cases h
  l := by
    intro X E C v_ G h hl
    unfold chkE at h
    cases h
  b := by
    intro X E C e_ G h
    unfold chkB at h
    cases h
  a := by
    intro X E C es_ G h
    unfold chkA at h
    cases h
  v := by
    intro X E C es pos G h
    unfold chkV at h
    split at h
    · exact ⟨sv_and1 (iha.e G h), sv_or1 (iha.e G h)⟩
    · cases h
  tt := by
    intro X E C es pos G h
    unfold chkT at h
    split at h
    · exact ⟨sw_and1 (iha.b G h), sw_or1 (iha.b G h)⟩
    · cases h
  p := by
    intro X E C e_ G h
    unfold chkP at h
    cases h
  i := by
    intro X E C e_ tge_ G h
    unfold chkI at h
    cases h
  g := by
    intro X E C e_ G h
    unfold chkG at h
    cases h
  gs := by
    intro X E C es_ G h
    unfold chkGs at h
    cases h
  s := by
    intro X E C B st_ G hp h
    unfold chkS at h
    cases h
  ss := by
    intro X E C B sts_ G hp h
    unfold chkSs at h
    cases h
  h := by
    intro X E C hs_ G hh h
    unfold chkH at h
    cases h
theorem snd_tst {a : T} (iha : Snd a) : Snd (.tst a) where
  e := by
    intro X E C e_ G h
    unfold chkE at h
    cases h
  l := by
    intro X E C v_ G h hl
    unfold chkE at h
    cases h
  b := by
    intro X E C e G h
    unfold chkB at h
    simp only [Bool.and_eq_true, decide_eq_true_eq, Bool.not_eq_true'] at h
    exact st_tst G.K (iha.e G h.2) h.1
  a := by
    intro X E C es_ G h
    unfold chkA at h
    cases h
  v := by
    intro X E C es_ pos G h
    unfold chkV at h
    cases h
  tt := by
    intro X E C es_ pos G h
    unfold chkT at h
    cases h
  p := by
    intro X E C e_ G h
    unfold chkP at h
    cases h
  i := by
    intro X E C e_ tge_ G h
    unfold chkI at h
    cases h
  g := by
    intro X E C e_ G h
    unfold chkG at h
    cases h
  gs := by
    intro X E C es_ G h
    unfold chkGs at h
    cases h
  s := by
    intro X E C B st_ G hp h
    unfold chkS at h
    cases h
  ss := by
    intro X E C B sts_ G hp h
    unfold chkSs at h
    cases h
  h := by
    intro X E C hs_ G hh h
    unfold chkH at h
    cases h
theorem snd_prt {a : T} (iha : Snd a) : Snd (.prt a) where
  e := by
    intro X E C e_ G h
    unfold chkE at h
    cases h
  l := by
    intro X E C v_ G h hl
    unfold chkE at h
    cases h
  b := by
    intro X E C e_ G h
    unfold chkB at h
    cases h
  a := by
    intro X E C es_ G h
    unfold chkA at h
    cases h
  v := by
    intro X E C es_ pos G h
    unfold chkV at h
    cases h
  tt := by
    intro X E C es_ pos G h
    unfold chkT at h
    cases h
  p := by
    intro X E C e G h
    unfold chkP at h
    split at h
    · exact sn_prt (iha.e G h)
    · cases h
  i := by
    intro X E C e_ tge_ G h
    unfold chkI at h
    cases h
  g := by
    intro X E C e_ G h
    unfold chkG at h
    cases h
  gs := by
    intro X E C es_ G h
    unfold chkGs at h
    cases h
  s := by
    intro X E C B st_ G hp h
    unfold chkS at h
    cases h
  ss := by
    intro X E C B sts_ G hp h
    unfold chkSs at h
    cases h
  h := by
    intro X E C hs_ G hh h
    unfold chkH at h
    cases h
theorem snd_itv {a : T} (iha : Snd a) : Snd (.itv a) where
  e := by
    intro X E C e_ G h
    unfold chkE at h
    cases h
  l := by
    intro X E C v_ G h hl
    unfold chkE at h
    cases h
  b := by
    intro X E C e_ G h
    unfold chkB at h
    cases h
  a := by
    intro X E C es_ G h
    unfold chkA at h
    cases h
  v := by
    intro X E C es_ pos G h
    unfold chkV at h
    cases h
  tt := by
    intro X E C es_ pos G h
    unfold chkT at h
    cases h
  p := by
    intro X E C e_ G h
    unfold chkP at h
    cases h
  i := by
    intro X E C e tge G h
    unfold chkI at h
    exact sn_itv G.K (iha.e G h)
  g := by
    intro X E C e_ G h
    unfold chkG at h
    cases h
  gs := by
    intro X E C es_ G h
    unfold chkGs at h
    cases h
  s := by
    intro X E C B st_ G hp h
    unfold chkS at h
    cases h
  ss := by
    intro X E C B sts_ G hp h
    unfold chkSs at h
    cases h
  h := by
    intro X E C hs_ G hh h
    unfold chkH at h
    cases h
theorem snd_rg1 {a : T} (iha : Snd a) : Snd (.rg1 a) where
  e := by
    intro X E C e_ G h
    unfold chkE at h
    cases h
  l := by
    intro X E C v_ G h hl
    unfold chkE at h
    cases h
  b := by
    intro X E C e_ G h
    unfold chkB at h
    cases h
  a := by
    intro X E C es_ G h
    unfold chkA at h
    cases h
  v := by
    intro X E C es_ pos G h
    unfold chkV at h
    cases h
  tt := by
    intro X E C es_ pos G h
    unfold chkT at h
    cases h
  p := by
    intro X E C e_ G h
    unfold chkP at h
    cases h
  i := by
    intro X E C e tge G h
    unfold chkI at h
    split at h
    · simp only [Bool.and_eq_true, decide_eq_true_eq, Bool.not_eq_true'] at h
      obtain ⟨⟨⟨h1, h2⟩, h3⟩, h4⟩ := h
      subst h1
      exact sn_rg1 (G.gl_ h2) (G.bl _ (by decide)) (iha.e G h4) h3
    · cases h
  g := by
    intro X E C e_ G h
    unfold chkG at h
    cases h
  gs := by
    intro X E C es_ G h
    unfold chkGs at h
    cases h
  s := by
    intro X E C B st_ G hp h
    unfold chkS at h
    cases h
  ss := by
    intro X E C B sts_ G hp h
    unfold chkSs at h
    cases h
  h := by
    intro X E C hs_ G hh h
    unfold chkH at h
    cases h
theorem snd_rg2 {a : T} {b : T} (iha : Snd a) (ihb : Snd b) : Snd (.rg2 a b) where
  e := by
    intro X E C e_ G h
    unfold chkE at h
    cases h
  l := by
    intro X E C v_ G h hl
    unfold chkE at h
    cases h
  b := by
    intro X E C e_ G h
    unfold chkB at h
    cases h
  a := by
    intro X E C es_ G h
    unfold chkA at h
    cases h
  v := by
    intro X E C es_ pos G h
    unfold chkV at h
    cases h
  tt := by
    intro X E C es_ pos G h
    unfold chkT at h
    cases h
  p := by
    intro X E C e_ G h
    unfold chkP at h
    cases h
  i := by
    intro X E C e tge G h
    unfold chkI at h
    split at h
    · simp only [Bool.and_eq_true, decide_eq_true_eq, Bool.not_eq_true'] at h
      obtain ⟨⟨⟨⟨⟨h1, h2⟩, h3⟩, h4⟩, h5⟩, h6⟩ := h
      subst h1
      exact sn_rg2 (G.gl_ h2) (G.bl _ (by decide)) (iha.e G h5) (ihb.e G h6) h3 h4
    · cases h
  g := by
    intro X E C e_ G h
    unfold chkG at h
    cases h
  gs := by
    intro X E C es_ G h
    unfold chkGs at h
    cases h
  s := by
    intro X E C B st_ G hp h
    unfold chkS at h
    cases h
  ss := by
    intro X E C B sts_ G hp h
    unfold chkSs at h
    cases h
  h := by
    intro X E C hs_ G hh h
    unfold chkH at h
    cases h
theorem snd_rg3 {a : T} {b : T} {c : T} (iha : Snd a) (ihb : Snd b) (ihc : Snd c) : Snd (.rg3 a b c) where
  e := by
    intro X E C e_ G h
    unfold chkE at h
    cases h
  l := by
    intro X E C v_ G h hl
    unfold chkE at h
    cases h
  b := by
    intro X E C e_ G h
    unfold chkB at h
    cases h
  a := by
    intro X E C es_ G h
    unfold chkA at h
    cases h
  v := by
    intro X E C es_ pos G h
    unfold chkV at h
    cases h
  tt := by
    intro X E C es_ pos G h
    unfold chkT at h
    cases h
  p := by
    intro X E C e_ G h
    unfold chkP at h
    cases h
  i := by
    intro X E C e tge G h
    unfold chkI at h
    split at h
    · simp only [Bool.and_eq_true, decide_eq_true_eq, Bool.not_eq_true'] at h
      obtain ⟨⟨⟨⟨⟨⟨⟨h1, h2⟩, h3⟩, h4⟩, h5⟩, h6⟩, h7⟩, h8⟩ := h
      subst h1
      exact sn_rg3 (G.gl_ h2) (G.bl _ (by decide)) (iha.e G h6) (ihb.e G h7) (ihc.e G h8) h3 h4 h5
    · cases h
  g := by
    intro X E C e_ G h
    unfold chkG at h
    cases h
  gs := by
    intro X E C es_ G h
    unfold chkGs at h
    cases h
  s := by
    intro X E C B st_ G hp h
    unfold chkS at h
    cases h
  ss := by
    intro X E C B sts_ G hp h
    unfold chkSs at h
    cases h
  h := by
    intro X E C hs_ G hh h
    unfold chkH at h
    cases h
theorem snd_enu {a : T} (iha : Snd a) : Snd (.enu a) where
  e := by
    intro X E C e_ G h
    unfold chkE at h
    cases h
  l := by
    intro X E C v_ G h hl
    unfold chkE at h
    cases h
  b := by
    intro X E C e_ G h
    unfold chkB at h
    cases h
  a := by
    intro X E C es_ G h
    unfold chkA at h
    cases h
  v := by
    intro X E C es_ pos G h
    unfold chkV at h
    cases h
  tt := by
    intro X E C es_ pos G h
    unfold chkT at h
    cases h
  p := by
    intro X E C e_ G h
    unfold chkP at h
    cases h
  i := by
    intro X E C e tge G h
    unfold chkI at h
    split at h
    · simp only [Bool.and_eq_true, decide_eq_true_eq, Bool.not_eq_true'] at h
      obtain ⟨⟨⟨⟨h0, h1⟩, h2⟩, h3⟩, h4⟩ := h
      subst h1
      obtain ⟨es, k, p, rfl⟩ := isTup_elim h0
      exact sn_enu G.K (G.gl_ h2) (G.bl _ (by decide)) (iha.e G h4) h3
    · cases h
  g := by
    intro X E C e_ G h
    unfold chkG at h
    cases h
  gs := by
    intro X E C es_ G h
    unfold chkGs at h
    cases h
  s := by
    intro X E C B st_ G hp h
    unfold chkS at h
    cases h
  ss := by
    intro X E C B sts_ G hp h
    unfold chkSs at h
    cases h
  h := by
    intro X E C hs_ G hh h
    unfold chkH at h
    cases h
theorem snd_tn {i : Nat}  : Snd (.tn i) where
  e := by
    intro X E C e_ G h
    unfold chkE at h
    cases h
  l := by
    intro X E C v_ G h hl
    unfold chkE at h
    cases h
  b := by
    intro X E C e_ G h
    unfold chkB at h
    cases h
  a := by
    intro X E C es_ G h
    unfold chkA at h
    cases h
  v := by
    intro X E C es_ pos G h
    unfold chkV at h
    cases h
  tt := by
    intro X E C es_ pos G h
    unfold chkT at h
    cases h
  p := by
    intro X E C e_ G h
    unfold chkP at h
    cases h
  i := by
    intro X E C e_ tge_ G h
    unfold chkI at h
    cases h
  g := by
    intro X E C e G h
    unfold chkG at h
    split at h
    · obtain ⟨h1, h2, h3⟩ := G.st h
      exact ⟨by rw [gT]; exact pg_name G.nd h1 h2 h3, rfl⟩
    · cases h
  gs := by
    intro X E C es_ G h
    unfold chkGs at h
    cases h
  s := by
    intro X E C B st_ G hp h
    unfold chkS at h
    cases h
  ss := by
    intro X E C B sts_ G hp h
    unfold chkSs at h
    cases h
  h := by
    intro X E C hs_ G hh h
    unfold chkH at h
    cases h
theorem snd_tt {a : T} (iha : Snd a) : Snd (.tt a) where
  e := by
    intro X E C e_ G h
    unfold chkE at h
    cases h
  l := by
    intro X E C v_ G h hl
    unfold chkE at h
    cases h
  b := by
    intro X E C e_ G h
    unfold chkB at h
    cases h
  a := by
    intro X E C es_ G h
    unfold chkA at h
    cases h
  v := by
    intro X E C es_ pos G h
    unfold chkV at h
    cases h
  tt := by
    intro X E C es_ pos G h
    unfold chkT at h
    cases h
  p := by
    intro X E C e_ G h
    unfold chkP at h
    cases h
  i := by
    intro X E C e_ tge_ G h
    unfold chkI at h
    cases h
  g := by
    intro X E C e G h
    unfold chkG at h
    split at h
    · simp only [Bool.and_eq_true, decide_eq_true_eq, Bool.not_eq_true'] at h
      obtain ⟨hh, h⟩ := h
      obtain ⟨p1, p2, p3⟩ := iha.gs G h
      obtain ⟨q1, q2⟩ := assignEach_no (env := X.env) p2
      exact ⟨by rw [gT, ← G.K]; rw [← G.K] at p1; exact pg_tup (G.calm hh) p1 (q1.trans p3) q2, rfl⟩
    · cases h
  gs := by
    intro X E C es_ G h
    unfold chkGs at h
    cases h
  s := by
    intro X E C B st_ G hp h
    unfold chkS at h
    cases h
  ss := by
    intro X E C B sts_ G hp h
    unfold chkSs at h
    cases h
  h := by
    intro X E C hs_ G hh h
    unfold chkH at h
    cases h
theorem snd_asg {tg : T} {e : T} (ihtg : Snd tg) (ihe : Snd e) : Snd (.asg tg e) where
  e := by
    intro X E C e_ G h
    unfold chkE at h
    cases h
  l := by
    intro X E C v_ G h hl
    unfold chkE at h
    cases h
  b := by
    intro X E C e_ G h
    unfold chkB at h
    cases h
  a := by
    intro X E C es_ G h
    unfold chkA at h
    cases h
  v := by
    intro X E C es_ pos G h
    unfold chkV at h
    cases h
  tt := by
    intro X E C es_ pos G h
    unfold chkT at h
    cases h
  p := by
    intro X E C e_ G h
    unfold chkP at h
    cases h
  i := by
    intro X E C e_ tge_ G h
    unfold chkI at h
    cases h
  g := by
    intro X E C e_ G h
    unfold chkG at h
    cases h
  gs := by
    intro X E C es_ G h
    unfold chkGs at h
    cases h
  s := by
    intro X E C B st G hp h
    unfold chkS at h
    split at h
    · rename_i tge v pos
      simp only [Bool.and_eq_true, decide_eq_true_eq, Bool.not_eq_true'] at h
      obtain ⟨⟨h1, h2⟩, h3⟩ := h
      have hg := ihtg.g G h2
      cases tge with
      | Name x p =>
        have h3 : (!(swB C.sc v x p)) = true := h3
        rw [Bool.not_eq_true'] at h3
        cases tg with
        | tn i =>
          unfold chkG at h2
          obtain ⟨k1, k2, k3⟩ := G.st h2
          exact ss_set G.nd k1 k2 (ihe.e G h1) (swF G h3 _) k3
        | _ => first | (unfold chkG at h2; cases h2; done) | (simp [chkG] at h2; done)
      | Tuple es k p =>
        have h3 : (!(isTup v)) = true := h3
        rw [Bool.not_eq_true'] at h3
        exact ss_asg (ihe.e G h1) hg.1 (swS (by intro _ _ h; cases h) _ _) (sole_tup h3 _) rfl
      | _ => cases tg <;> first | (unfold chkG at h2; cases h2; done) | (simp [chkG] at h2; done)
    · cases h
  ss := by
    intro X E C B sts_ G hp h
    unfold chkSs at h
    cases h
  h := by
    intro X E C hs_ G hh h
    unfold chkH at h
    cases h
theorem snd_asgc {i : Nat} {e : T} (ihe : Snd e) : Snd (.asgc i e) where
  e := by
    intro X E C e_ G h
    unfold chkE at h
    cases h
  l := by
    intro X E C v_ G h hl
    unfold chkE at h
    cases h
  b := by
    intro X E C e_ G h
    unfold chkB at h
    cases h
  a := by
    intro X E C es_ G h
    unfold chkA at h
    cases h
  v := by
    intro X E C es_ pos G h
    unfold chkV at h
    cases h
  tt := by
    intro X E C es_ pos G h
    unfold chkT at h
    cases h
  p := by
    intro X E C e_ G h
    unfold chkP at h
    cases h
  i := by
    intro X E C e_ tge_ G h
    unfold chkI at h
    cases h
  g := by
    intro X E C e_ G h
    unfold chkG at h
    cases h
  gs := by
    intro X E C es_ G h
    unfold chkGs at h
    cases h
  s := by
    intro X E C B st G hp h
    unfold chkS at h
    split at h
    · simp only [Bool.and_eq_true, decide_eq_true_eq, Bool.not_eq_true'] at h
      obtain ⟨⟨⟨⟨h1, h2⟩, h3⟩, h4⟩, h5⟩ := h
      obtain ⟨te, p1, p2⟩ := ihe.l G h1 h2 _ _ _ _ (by rw [G.N]; exact h3) (by rw [G.sc]; exact of_decide_eq_true h4) (swY G h5 h2 _)
      exact ss_setc p1 p2
    · cases h
  ss := by
    intro X E C B sts_ G hp h
    unfold chkSs at h
    cases h
  h := by
    intro X E C hs_ G hh h
    unfold chkH at h
    cases h
theorem snd_par {i : Nat} {j : Nat} {a : T} {b : T} (iha : Snd a) (ihb : Snd b) : Snd (.par i j a b) where
  e := by
    intro X E C e_ G h
    unfold chkE at h
    cases h
  l := by
    intro X E C v_ G h hl
    unfold chkE at h
    cases h
  b := by
    intro X E C e_ G h
    unfold chkB at h
    cases h
  a := by
    intro X E C es_ G h
    unfold chkA at h
    cases h
  v := by
    intro X E C es_ pos G h
    unfold chkV at h
    cases h
  tt := by
    intro X E C es_ pos G h
    unfold chkT at h
    cases h
  p := by
    intro X E C e_ G h
    unfold chkP at h
    cases h
  i := by
    intro X E C e_ tge_ G h
    unfold chkI at h
    cases h
  g := by
    intro X E C e_ G h
    unfold chkG at h
    cases h
  gs := by
    intro X E C es_ G h
    unfold chkGs at h
    cases h
  s := by
    intro X E C B st G hp h
    unfold chkS at h
    split at h
    · simp only [Bool.and_eq_true, decide_eq_true_eq, Bool.not_eq_true'] at h
      obtain ⟨⟨⟨⟨⟨⟨⟨⟨⟨⟨⟨⟨⟨hh, h1⟩, h2⟩, h3⟩, h4⟩, h5⟩, h6⟩, h7⟩, h8⟩, h9⟩, h10⟩, h11⟩, h12⟩, h13⟩ := h
      refine ss_par (px := default) (py := default) (pt := default) (kt := 0) (k2 := 0) (pt2 := default) (x := default) (y := default) (ps_par (G.calm hh) G.nd (by rw [G.N]; exact h1) (by rw [G.N]; exact h2) h3 (by rw [G.sc]; exact of_decide_eq_true h4) (by rw [G.sc]; exact of_decide_eq_true h5) ?_ (par_ok G h4 h5 h6 h7 h8 h9 h10 h11) rfl)
      exact sn_cons (iha.e G h12) (sn_cons (ihb.e G h13) sn_nil (starEach_cons h9)) (starEach_cons h8)
    · cases h
  ss := by
    intro X E C B sts_ G hp h
    unfold chkSs at h
    cases h
  h := by
    intro X E C hs_ G hh h
    unfold chkH at h
    cases h
theorem snd_ret {e : T} (ihe : Snd e) : Snd (.ret e) where
  e := by
    intro X E C e_ G h
    unfold chkE at h
    cases h
  l := by
    intro X E C v_ G h hl
    unfold chkE at h
    cases h
  b := by
    intro X E C e_ G h
    unfold chkB at h
    cases h
  a := by
    intro X E C es_ G h
    unfold chkA at h
    cases h
  v := by
    intro X E C es_ pos G h
    unfold chkV at h
    cases h
  tt := by
    intro X E C es_ pos G h
    unfold chkT at h
    cases h
  p := by
    intro X E C e_ G h
    unfold chkP at h
    cases h
  i := by
    intro X E C e_ tge_ G h
    unfold chkI at h
    cases h
  g := by
    intro X E C e_ G h
    unfold chkG at h
    cases h
  gs := by
    intro X E C es_ G h
    unfold chkGs at h
    cases h
  s := by
    intro X E C B st G hp h
    unfold chkS at h
    split at h
    · exact ss_ret (ihe.e G h)
    · cases h
  ss := by
    intro X E C B sts_ G hp h
    unfold chkSs at h
    cases h
  h := by
    intro X E C hs_ G hh h
    unfold chkH at h
    cases h
theorem snd_retm {i : Nat}  : Snd (.retm i) where
  e := by
    intro X E C e_ G h
    unfold chkE at h
    cases h
  l := by
    intro X E C v_ G h hl
    unfold chkE at h
    cases h
  b := by
    intro X E C e_ G h
    unfold chkB at h
    cases h
  a := by
    intro X E C es_ G h
    unfold chkA at h
    cases h
  v := by
    intro X E C es_ pos G h
    unfold chkV at h
    cases h
  tt := by
    intro X E C es_ pos G h
    unfold chkT at h
    cases h
  p := by
    intro X E C e_ G h
    unfold chkP at h
    cases h
  i := by
    intro X E C e_ tge_ G h
    unfold chkI at h
    cases h
  g := by
    intro X E C e_ G h
    unfold chkG at h
    cases h
  gs := by
    intro X E C es_ G h
    unfold chkGs at h
    cases h
  s := by
    intro X E C B st G hp h
    unfold chkS at h
    split at h
    · obtain ⟨h1, h2, h3, h4⟩ := G.nm h
      exact ss_retm h1 h2 h3 h4
    · cases h
  ss := by
    intro X E C B sts_ G hp h
    unfold chkSs at h
    cases h
  h := by
    intro X E C hs_ G hh h
    unfold chkH at h
    cases h
theorem snd_retn   : Snd (.retn ) where
  e := by
    intro X E C e_ G h
    unfold chkE at h
    cases h
  l := by
    intro X E C v_ G h hl
    unfold chkE at h
    cases h
  b := by
    intro X E C e_ G h
    unfold chkB at h
    cases h
  a := by
    intro X E C es_ G h
    unfold chkA at h
    cases h
  v := by
    intro X E C es_ pos G h
    unfold chkV at h
    cases h
  tt := by
    intro X E C es_ pos G h
    unfold chkT at h
    cases h
  p := by
    intro X E C e_ G h
    unfold chkP at h
    cases h
  i := by
    intro X E C e_ tge_ G h
    unfold chkI at h
    cases h
  g := by
    intro X E C e_ G h
    unfold chkG at h
    cases h
  gs := by
    intro X E C es_ G h
    unfold chkGs at h
    cases h
  s := by
    intro X E C B st G hp h
    unfold chkS at h
    split at h
    · exact ss_retn
    · cases h
  ss := by
    intro X E C B sts_ G hp h
    unfold chkSs at h
    cases h
  h := by
    intro X E C hs_ G hh h
    unfold chkH at h
    cases h
theorem snd_exp {e : T} (ihe : Snd e) : Snd (.exp e) where
  e := by
    intro X E C e_ G h
    unfold chkE at h
    cases h
  l := by
    intro X E C v_ G h hl
    unfold chkE at h
    cases h
  b := by
    intro X E C e_ G h
    unfold chkB at h
    cases h
  a := by
    intro X E C es_ G h
    unfold chkA at h
    cases h
  v := by
    intro X E C es_ pos G h
    unfold chkV at h
    cases h
  tt := by
    intro X E C es_ pos G h
    unfold chkT at h
    cases h
  p := by
    intro X E C e_ G h
    unfold chkP at h
    cases h
  i := by
    intro X E C e_ tge_ G h
    unfold chkI at h
    cases h
  g := by
    intro X E C e_ G h
    unfold chkG at h
    cases h
  gs := by
    intro X E C es_ G h
    unfold chkGs at h
    cases h
  s := by
    intro X E C B st G hp h
    unfold chkS at h
    split at h
    · simp only [Bool.and_eq_true, decide_eq_true_eq, Bool.not_eq_true'] at h
      exact ss_exp (ihe.e G h.2) (sw0 h.1 _ _ _)
    · cases h
  ss := by
    intro X E C B sts_ G hp h
    unfold chkSs at h
    cases h
  h := by
    intro X E C hs_ G hh h
    unfold chkH at h
    cases h
theorem snd_app {i : Nat} {e : T} (ihe : Snd e) : Snd (.app i e) where
  e := by
    intro X E C e_ G h
    unfold chkE at h
    cases h
  l := by
    intro X E C v_ G h hl
    unfold chkE at h
    cases h
  b := by
    intro X E C e_ G h
    unfold chkB at h
    cases h
  a := by
    intro X E C es_ G h
    unfold chkA at h
    cases h
  v := by
    intro X E C es_ pos G h
    unfold chkV at h
    cases h
  tt := by
    intro X E C es_ pos G h
    unfold chkT at h
    cases h
  p := by
    intro X E C e_ G h
    unfold chkP at h
    cases h
  i := by
    intro X E C e_ tge_ G h
    unfold chkI at h
    cases h
  g := by
    intro X E C e_ G h
    unfold chkG at h
    cases h
  gs := by
    intro X E C es_ G h
    unfold chkGs at h
    cases h
  s := by
    intro X E C B st G hp h
    unfold chkS at h
    split at h
    · simp only [Bool.and_eq_true, decide_eq_true_eq] at h
      obtain ⟨⟨⟨⟨h1, h2⟩, h3⟩, h4⟩, h5⟩ := h
      subst h1
      obtain ⟨n1, n2, n3, n4⟩ := G.nm h2
      exact ss_app n1 n2 n3 n4 (ihe.e G h5) h3 h4 rfl rfl (by rw [starEach_cons h3]; rfl)
    · cases h
  ss := by
    intro X E C B sts_ G hp h
    unfold chkSs at h
    cases h
  h := by
    intro X E C hs_ G hh h
    unfold chkH at h
    cases h
theorem snd_seti {i : Nat} {k : T} {e : T} (ihk : Snd k) (ihe : Snd e) : Snd (.seti i k e) where
  e := by
    intro X E C e_ G h
    unfold chkE at h
    cases h
  l := by
    intro X E C v_ G h hl
    unfold chkE at h
    cases h
  b := by
    intro X E C e_ G h
    unfold chkB at h
    cases h
  a := by
    intro X E C es_ G h
    unfold chkA at h
    cases h
  v := by
    intro X E C es_ pos G h
    unfold chkV at h
    cases h
  tt := by
    intro X E C es_ pos G h
    unfold chkT at h
    cases h
  p := by
    intro X E C e_ G h
    unfold chkP at h
    cases h
  i := by
    intro X E C e_ tge_ G h
    unfold chkI at h
    cases h
  g := by
    intro X E C e_ G h
    unfold chkG at h
    cases h
  gs := by
    intro X E C es_ G h
    unfold chkGs at h
    cases h
  s := by
    intro X E C B st G hp h
    unfold chkS at h
    split at h
    · simp only [Bool.and_eq_true, decide_eq_true_eq, Bool.not_eq_true'] at h
      obtain ⟨⟨⟨h1, h3⟩, h4⟩, h5⟩ := h
      obtain ⟨n1, n2, n3, n4⟩ := G.nm h1
      exact ss_seti n1 n2 n3 n4 (ihe.e G h5) (ihk.e G h4) h3
    · cases h
  ss := by
    intro X E C B sts_ G hp h
    unfold chkSs at h
    cases h
  h := by
    intro X E C hs_ G hh h
    unfold chkH at h
    cases h
theorem snd_oset {o : T} {k : T} {e : T} (iho : Snd o) (ihk : Snd k) (ihe : Snd e) : Snd (.oset o k e) where
  e := by
    intro X E C e_ G h
    unfold chkE at h
    cases h
  l := by
    intro X E C v_ G h hl
    unfold chkE at h
    cases h
  b := by
    intro X E C e_ G h
    unfold chkB at h
    cases h
  a := by
    intro X E C es_ G h
    unfold chkA at h
    cases h
  v := by
    intro X E C es_ pos G h
    unfold chkV at h
    cases h
  tt := by
    intro X E C es_ pos G h
    unfold chkT at h
    cases h
  p := by
    intro X E C e_ G h
    unfold chkP at h
    cases h
  i := by
    intro X E C e_ tge_ G h
    unfold chkI at h
    cases h
  g := by
    intro X E C e_ G h
    unfold chkG at h
    cases h
  gs := by
    intro X E C es_ G h
    unfold chkGs at h
    cases h
  s := by
    intro X E C B st G hp h
    unfold chkS at h
    split at h
    · simp only [Bool.and_eq_true, decide_eq_true_eq, Bool.not_eq_true'] at h
      obtain ⟨⟨⟨⟨h2, h3⟩, h1⟩, h4⟩, h5⟩ := h
      exact ss_oset (ihe.e G h5) (iho.e G h1) (ihk.e G h4) h2 h3
    · cases h
  ss := by
    intro X E C B sts_ G hp h
    unfold chkSs at h
    cases h
  h := by
    intro X E C hs_ G hh h
    unfold chkH at h
    cases h
theorem snd_iff {c : T} {a : T} {b : T} (ihc : Snd c) (iha : Snd a) (ihb : Snd b) : Snd (.iff c a b) where
  e := by
    intro X E C e_ G h
    unfold chkE at h
    cases h
  l := by
    intro X E C v_ G h hl
    unfold chkE at h
    cases h
  b := by
    intro X E C e_ G h
    unfold chkB at h
    cases h
  a := by
    intro X E C es_ G h
    unfold chkA at h
    cases h
  v := by
    intro X E C es_ pos G h
    unfold chkV at h
    cases h
  tt := by
    intro X E C es_ pos G h
    unfold chkT at h
    cases h
  p := by
    intro X E C e_ G h
    unfold chkP at h
    cases h
  i := by
    intro X E C e_ tge_ G h
    unfold chkI at h
    cases h
  g := by
    intro X E C e_ G h
    unfold chkG at h
    cases h
  gs := by
    intro X E C es_ G h
    unfold chkGs at h
    cases h
  s := by
    intro X E C B st G hp h
    unfold chkS at h
    split at h
    · simp only [Bool.and_eq_true, decide_eq_true_eq, Bool.not_eq_true'] at h
      obtain ⟨⟨h1, h2⟩, h3⟩ := h
      exact ss_if (ihc.b G h1) (iha.ss G hp h2) (ihb.ss G hp h3)
    · cases h
  ss := by
    intro X E C B sts_ G hp h
    unfold chkSs at h
    cases h
  h := by
    intro X E C hs_ G hh h
    unfold chkH at h
    cases h
theorem snd_for_ {tg : T} {it : T} {b : T} (ihtg : Snd tg) (ihit : Snd it) (ihb : Snd b) : Snd (.for_ tg it b) where
  e := by
    intro X E C e_ G h
    unfold chkE at h
    cases h
  l := by
    intro X E C v_ G h hl
    unfold chkE at h
    cases h
  b := by
    intro X E C e_ G h
    unfold chkB at h
    cases h
  a := by
    intro X E C es_ G h
    unfold chkA at h
    cases h
  v := by
    intro X E C es_ pos G h
    unfold chkV at h
    cases h
  tt := by
    intro X E C es_ pos G h
    unfold chkT at h
    cases h
  p := by
    intro X E C e_ G h
    unfold chkP at h
    cases h
  i := by
    intro X E C e_ tge_ G h
    unfold chkI at h
    cases h
  g := by
    intro X E C e_ G h
    unfold chkG at h
    cases h
  gs := by
    intro X E C es_ G h
    unfold chkGs at h
    cases h
  s := by
    intro X E C B st G hp h
    unfold chkS at h
    split at h
    · simp only [Bool.and_eq_true, decide_eq_true_eq, Bool.not_eq_true'] at h
      obtain ⟨⟨⟨⟨hh, h1⟩, h2⟩, h3⟩, h4⟩ := h
      exact pm_for (hp hh).1 (G.calm hh) (ihit.i G h2) (ihtg.g G h1).1 (ihb.ss G hp h4) (fold_of h3 _)
    · cases h
  ss := by
    intro X E C B sts_ G hp h
    unfold chkSs at h
    cases h
  h := by
    intro X E C hs_ G hh h
    unfold chkH at h
    cases h
theorem snd_shr {i : Nat}  : Snd (.shr i) where
  e := by
    intro X E C e_ G h
    unfold chkE at h
    cases h
  l := by
    intro X E C v_ G h hl
    unfold chkE at h
    cases h
  b := by
    intro X E C e_ G h
    unfold chkB at h
    cases h
  a := by
    intro X E C es_ G h
    unfold chkA at h
    cases h
  v := by
    intro X E C es_ pos G h
    unfold chkV at h
    cases h
  tt := by
    intro X E C es_ pos G h
    unfold chkT at h
    cases h
  p := by
    intro X E C e_ G h
    unfold chkP at h
    cases h
  i := by
    intro X E C e_ tge_ G h
    unfold chkI at h
    cases h
  g := by
    intro X E C e_ G h
    unfold chkG at h
    cases h
  gs := by
    intro X E C es_ G h
    unfold chkGs at h
    cases h
  s := by
    intro X E C B st_ G hp h
    unfold chkS at h
    cases h
  ss := by
    intro X E C B sts_ G hp h
    unfold chkSs at h
    cases h
  h := by
    intro X E C hs_ G hh h
    unfold chkH at h
    cases h
theorem snd_seq {a : T} {b : T} (iha : Snd a) (ihb : Snd b) : Snd (.seq a b) where
  e := by
    intro X E C e_ G h
    unfold chkE at h
    cases h
  l := by
    intro X E C v_ G h hl
    unfold chkE at h
    cases h
  b := by
    intro X E C e_ G h
    unfold chkB at h
    cases h
  a := by
    intro X E C es_ G h
    unfold chkA at h
    cases h
  v := by
    intro X E C es_ pos G h
    unfold chkV at h
    cases h
  tt := by
    intro X E C es_ pos G h
    unfold chkT at h
    cases h
  p := by
    intro X E C e_ G h
    unfold chkP at h
    cases h
  i := by
    intro X E C e_ tge_ G h
    unfold chkI at h
    cases h
  g := by
    intro X E C e_ G h
    unfold chkG at h
    cases h
  gs := by
    intro X E C es_ G h
    unfold chkGs at h
    cases h
  s := by
    intro X E C B st_ G hp h
    unfold chkS at h
    cases h
  ss := by
    intro X E C B sts G hp h
    unfold chkSs at h
    rw [Bool.or_eq_true] at h
    rcases h with h | h
    · split at h
      · exact ss_shr (ihb.ss G hp h)
      · exact ss_opn (ihb.ss G hp h)
      · cases h
    · split at h
      · rw [Bool.and_eq_true] at h
        exact ss_seq (iha.s G hp h.1) (ihb.ss G hp h.2)
      · cases h
  h := by
    intro X E C hs_ G hh h
    unfold chkH at h
    cases h
theorem snd_skip   : Snd (.skip ) where
  e := by
    intro X E C e_ G h
    unfold chkE at h
    cases h
  l := by
    intro X E C v_ G h hl
    unfold chkE at h
    cases h
  b := by
    intro X E C e_ G h
    unfold chkB at h
    cases h
  a := by
    intro X E C es_ G h
    unfold chkA at h
    cases h
  v := by
    intro X E C es_ pos G h
    unfold chkV at h
    cases h
  tt := by
    intro X E C es_ pos G h
    unfold chkT at h
    cases h
  p := by
    intro X E C e_ G h
    unfold chkP at h
    cases h
  i := by
    intro X E C e_ tge_ G h
    unfold chkI at h
    cases h
  g := by
    intro X E C e_ G h
    unfold chkG at h
    cases h
  gs := by
    intro X E C es_ G h
    unfold chkGs at h
    cases h
  s := by
    intro X E C B st G hp h
    unfold chkS at h
    split at h
    · exact ss_pass
    · exact ss_doc
    · cases h
  ss := by
    intro X E C B st G hp h
    unfold chkSs at h
    split at h
    · exact ss_skip
    · cases h
  h := by
    intro X E C hs_ G hh h
    unfold chkH at h
    cases h
theorem snd_stk   : Snd (.stk ) where
  e := by
    intro X E C e G h
    exact ⟨fun pins s σ H Q I ⟨P, g, S, m, hS, h⟩ => h.elim⟩
  l := by
    intro X E C v G h hl i y py spos hy hl2 hsw
    exact ⟨fun _ _ _ => False, ⟨fun pins s σ H D I h => h.elim⟩, fun σ H Q ⟨P, g, S, m, hS, h⟩ => h.elim⟩
  b := by
    intro X E C e_ G h
    unfold chkB at h
    cases h
  a := by
    intro X E C es_ G h
    unfold chkA at h
    cases h
  v := by
    intro X E C es_ pos G h
    unfold chkV at h
    cases h
  tt := by
    intro X E C es_ pos G h
    unfold chkT at h
    cases h
  p := by
    intro X E C e_ G h
    unfold chkP at h
    cases h
  i := by
    intro X E C e_ tge_ G h
    unfold chkI at h
    cases h
  g := by
    intro X E C e_ G h
    unfold chkG at h
    cases h
  gs := by
    intro X E C es_ G h
    unfold chkGs at h
    cases h
  s := by
    intro X E C B st G hp h
    exact ⟨fun pins s σ H D I ⟨g, S, m, b, h⟩ => h.elim⟩
  ss := by
    intro X E C B sts_ G hp h
    unfold chkSs at h
    cases h
  h := by
    intro X E C hs_ G hh h
    unfold chkH at h
    cases h
theorem snd_jn {x : Str} {a : T} (iha : Snd a) : Snd (.jn x a) where
  e := by
    intro X E C e G h
    unfold chkE at h
    split at h
    · simp only [Bool.and_eq_true, decide_eq_true_eq, Bool.not_eq_true'] at h
      obtain ⟨⟨⟨⟨h1, h2⟩, h3⟩, h4⟩, h5⟩ := h
      subst h1 h2
      exact sn_jn G.K (iha.e G h5) h3 h4
    · cases h
  l := by
    intro X E C v_ G h hl
    cases v_ <;> first | (cases hl; done) | (unfold chkE at h; cases h; done) | (simp [chkE] at h; done)
  b := by
    intro X E C e_ G h
    unfold chkB at h
    cases h
  a := by
    intro X E C es_ G h
    unfold chkA at h
    cases h
  v := by
    intro X E C es_ pos G h
    unfold chkV at h
    cases h
  tt := by
    intro X E C es_ pos G h
    unfold chkT at h
    cases h
  p := by
    intro X E C e_ G h
    unfold chkP at h
    cases h
  i := by
    intro X E C e_ tge_ G h
    unfold chkI at h
    cases h
  g := by
    intro X E C e_ G h
    unfold chkG at h
    cases h
  gs := by
    intro X E C es_ G h
    unfold chkGs at h
    cases h
  s := by
    intro X E C B st_ G hp h
    unfold chkS at h
    cases h
  ss := by
    intro X E C B sts_ G hp h
    unfold chkSs at h
    cases h
  h := by
    intro X E C hs_ G hh h
    unfold chkH at h
    cases h
theorem snd_ext {i : Nat} {e : T} (ihe : Snd e) : Snd (.ext i e) where
  e := by
    intro X E C e_ G h
    unfold chkE at h
    cases h
  l := by
    intro X E C v_ G h hl
    unfold chkE at h
    cases h
  b := by
    intro X E C e_ G h
    unfold chkB at h
    cases h
  a := by
    intro X E C es_ G h
    unfold chkA at h
    cases h
  v := by
    intro X E C es_ pos G h
    unfold chkV at h
    cases h
  tt := by
    intro X E C es_ pos G h
    unfold chkT at h
    cases h
  p := by
    intro X E C e_ G h
    unfold chkP at h
    cases h
  i := by
    intro X E C e_ tge_ G h
    unfold chkI at h
    cases h
  g := by
    intro X E C e_ G h
    unfold chkG at h
    cases h
  gs := by
    intro X E C es_ G h
    unfold chkGs at h
    cases h
  s := by
    intro X E C B st G hp h
    unfold chkS at h
    split at h
    · simp only [Bool.and_eq_true, decide_eq_true_eq] at h
      obtain ⟨⟨⟨⟨h1, h2⟩, h3⟩, h4⟩, h5⟩ := h
      subst h1
      obtain ⟨n1, n2, n3, n4⟩ := G.nm h2
      exact ss_ext G.K n1 n2 n3 n4 (ihe.e G h5) h3 h4 rfl rfl (by rw [starEach_cons h3]; rfl)
    · cases h
  ss := by
    intro X E C B sts_ G hp h
    unfold chkSs at h
    cases h
  h := by
    intro X E C hs_ G hh h
    unfold chkH at h
    cases h
theorem snd_xat {j : Nat} {a : T} (iha : Snd a) : Snd (.xat j a) where
  e := by
    intro X E C e G h
    unfold chkE at h
    split at h
    · simp only [Bool.and_eq_true, decide_eq_true_eq, Bool.not_eq_true'] at h
      obtain ⟨⟨hh, h1⟩, h2⟩ := h
      obtain ⟨X0, a0, oe, pn, Ca, c, dd, rfl, hz, hf, hx, hA⟩ := G.su hh
      obtain ⟨F, hk⟩ := G.ex.cl hA
      exact sn_xat hz hf hx F hk (by simpa only [Bool.or_eq_true, Bool.and_eq_true, decide_eq_true_eq] using h1) (iha.e G h2)
    · cases h
  l := by
    intro X E C v_ G h hl
    cases v_ <;> first | (cases hl; done) | (unfold chkE at h; cases h; done) | (simp [chkE] at h; done)
  b := by
    intro X E C e_ G h
    unfold chkB at h
    cases h
  a := by
    intro X E C es_ G h
    unfold chkA at h
    cases h
  v := by
    intro X E C es_ pos G h
    unfold chkV at h
    cases h
  tt := by
    intro X E C es_ pos G h
    unfold chkT at h
    cases h
  p := by
    intro X E C e_ G h
    unfold chkP at h
    cases h
  i := by
    intro X E C e_ tge_ G h
    unfold chkI at h
    cases h
  g := by
    intro X E C e_ G h
    unfold chkG at h
    cases h
  gs := by
    intro X E C es_ G h
    unfold chkGs at h
    cases h
  s := by
    intro X E C B st_ G hp h
    unfold chkS at h
    cases h
  ss := by
    intro X E C B sts_ G hp h
    unfold chkSs at h
    cases h
  h := by
    intro X E C hs_ G hh h
    unfold chkH at h
    cases h
theorem snd_xis {y : Nat} {a : T} (iha : Snd a) : Snd (.xis y a) where
  e := by
    intro X E C e G h
    unfold chkE at h
    split at h
    · simp only [Bool.and_eq_true, decide_eq_true_eq, Bool.not_eq_true'] at h
      obtain ⟨⟨⟨⟨⟨⟨⟨hh, h1⟩, h2⟩, h3⟩, h4⟩, h5⟩, h6⟩, h7⟩ := h
      subst h1
      obtain ⟨u, _, ⟨cv, k1, k2⟩, k3⟩ := G.cls_ h3 (G.gl_ h4) h5
      obtain ⟨X0, a0, oe, pn, Ca, c, dd, rfl, hz, hf, hx, hA⟩ := G.su hh
      obtain ⟨F, hk⟩ := G.ex.cl hA
      exact xis_ok k1 (k2 _) (k3 c Ca hA).2 hz hf hx F (G.gl_ h2) (G.bl _ (by decide)) (iha.e G h7) h6
    · cases h
  l := by
    intro X E C v_ G h hl
    cases v_ <;> first | (cases hl; done) | (unfold chkE at h; cases h; done) | (simp [chkE] at h; done)
  b := by
    intro X E C e_ G h
    unfold chkB at h
    cases h
  a := by
    intro X E C es_ G h
    unfold chkA at h
    cases h
  v := by
    intro X E C es_ pos G h
    unfold chkV at h
    cases h
  tt := by
    intro X E C es_ pos G h
    unfold chkT at h
    cases h
  p := by
    intro X E C e_ G h
    unfold chkP at h
    cases h
  i := by
    intro X E C e_ tge_ G h
    unfold chkI at h
    cases h
  g := by
    intro X E C e_ G h
    unfold chkG at h
    cases h
  gs := by
    intro X E C es_ G h
    unfold chkGs at h
    cases h
  s := by
    intro X E C B st_ G hp h
    unfold chkS at h
    cases h
  ss := by
    intro X E C B sts_ G hp h
    unfold chkSs at h
    cases h
  h := by
    intro X E C hs_ G hh h
    unfold chkH at h
    cases h
theorem snd_rai {c : Nat} {w : Str} {a : T} (iha : Snd a) : Snd (.rai c w a) where
  e := by
    intro X E C e_ G h
    unfold chkE at h
    cases h
  l := by
    intro X E C v_ G h hl
    unfold chkE at h
    cases h
  b := by
    intro X E C e_ G h
    unfold chkB at h
    cases h
  a := by
    intro X E C es_ G h
    unfold chkA at h
    cases h
  v := by
    intro X E C es_ pos G h
    unfold chkV at h
    cases h
  tt := by
    intro X E C es_ pos G h
    unfold chkT at h
    cases h
  p := by
    intro X E C e_ G h
    unfold chkP at h
    cases h
  i := by
    intro X E C e_ tge_ G h
    unfold chkI at h
    cases h
  g := by
    intro X E C e_ G h
    unfold chkG at h
    cases h
  gs := by
    intro X E C es_ G h
    unfold chkGs at h
    cases h
  s := by
    intro X E C B st G hp h
    unfold chkS at h
    split at h
    · simp only [Bool.and_eq_true, decide_eq_true_eq, Bool.not_eq_true'] at h
      obtain ⟨⟨⟨⟨⟨hh, h1⟩, h2⟩, h3⟩, h4⟩, h5⟩ := h
      obtain ⟨Ca, e1, e2, e3, e4, fd, e5, e6, e7⟩ := G.ex.cr _ _ _ h1 h2
      split at h5
      · cases a with
        | non => exact ss_rai0 (G.calm hh) G.tk e3 e5 (G.rm3 hh) e7 (G.gl_ h3) e1 e2 e4 h4
        | _ => cases h5
      · simp only [Bool.and_eq_true, decide_eq_true_eq, Bool.not_eq_true'] at h5
        exact ss_rai1 (G.calm hh) G.tk e3 e5 (G.rm3 hh) e6 (G.gl_ h3) e1 e2 e4 h4 (iha.e G h5.2) h5.1
      · cases h5
    · cases h
  ss := by
    intro X E C B sts_ G hp h
    unfold chkSs at h
    cases h
  h := by
    intro X E C hs_ G hh h
    unfold chkH at h
    cases h
theorem snd_tryy {a : T} {b : T} (iha : Snd a) (ihb : Snd b) : Snd (.tryy a b) where
  e := by
    intro X E C e_ G h
    unfold chkE at h
    cases h
  l := by
    intro X E C v_ G h hl
    unfold chkE at h
    cases h
  b := by
    intro X E C e_ G h
    unfold chkB at h
    cases h
  a := by
    intro X E C es_ G h
    unfold chkA at h
    cases h
  v := by
    intro X E C es_ pos G h
    unfold chkV at h
    cases h
  tt := by
    intro X E C es_ pos G h
    unfold chkT at h
    cases h
  p := by
    intro X E C e_ G h
    unfold chkP at h
    cases h
  i := by
    intro X E C e_ tge_ G h
    unfold chkI at h
    cases h
  g := by
    intro X E C e_ G h
    unfold chkG at h
    cases h
  gs := by
    intro X E C es_ G h
    unfold chkGs at h
    cases h
  s := by
    intro X E C B st G hp h
    unfold chkS at h
    split at h
    · simp only [Bool.and_eq_true, decide_eq_true_eq, Bool.not_eq_true'] at h
      obtain ⟨⟨hh, h1⟩, h2⟩ := h
      obtain ⟨l, k1, k2⟩ := ihb.h G hh h2
      obtain ⟨_, p2, p3⟩ := hp hh
      exact ss_try p2 p3 G.nd G.tk (fun V pn xe tk po => iha.ss (G.tr hh tk) (fun _ => ⟨po, p2, p3⟩) h1) k1 k2
    · cases h
  ss := by
    intro X E C B sts_ G hp h
    unfold chkSs at h
    cases h
  h := by
    intro X E C hs_ G hh h
    unfold chkH at h
    cases h
theorem snd_hnd {y : Nat} {i : Nat} {a : T} {b : T} (iha : Snd a) (ihb : Snd b) : Snd (.hnd y i a b) where
  e := by
    intro X E C e_ G h
    unfold chkE at h
    cases h
  l := by
    intro X E C v_ G h hl
    unfold chkE at h
    cases h
  b := by
    intro X E C e_ G h
    unfold chkB at h
    cases h
  a := by
    intro X E C es_ G h
    unfold chkA at h
    cases h
  v := by
    intro X E C es_ pos G h
    unfold chkV at h
    cases h
  tt := by
    intro X E C es_ pos G h
    unfold chkT at h
    cases h
  p := by
    intro X E C e_ G h
    unfold chkP at h
    cases h
  i := by
    intro X E C e_ tge_ G h
    unfold chkI at h
    cases h
  g := by
    intro X E C e_ G h
    unfold chkG at h
    cases h
  gs := by
    intro X E C es_ G h
    unfold chkGs at h
    cases h
  s := by
    intro X E C B st_ G hp h
    unfold chkS at h
    cases h
  ss := by
    intro X E C B sts_ G hp h
    unfold chkSs at h
    cases h
  h := by
    intro X E C hs G hh h
    unfold chkH at h
    split at h
    · simp only [Bool.and_eq_true, decide_eq_true_eq, Bool.not_eq_true'] at h
      obtain ⟨⟨⟨⟨⟨h1, h2⟩, h3⟩, h4⟩, h5⟩, h6⟩ := h
      obtain ⟨l, k1, k2⟩ := ihb.h G hh h6
      obtain ⟨u, q1, _, q3⟩ := G.cls_ h1 (G.gl_ h2) h3
      have su : ∀ (a0 : Addr) (oe : Obj) (cls : Value) (d : Option Addr) (pn : List (Addr × Obj)), Zc cls d oe → (∃ vs, oe.data = .fields vs) → PSs (X.suite a0 ((a0, oe) :: pn)) _ (suT E a a0 cls d) := fun a0 oe cls d pn hz hf =>
        ⟨fun pins s σ H D I ⟨c, Ca, dd, B, e1, e2, e3, h⟩ => by
          subst e1 e2
          exact (iha.ss (G.suite hh hz hf e3) (fun z => by cases z) h5).run pins s σ H D I h⟩
      split at h4
      · rename_i n
        simp only [Bool.and_eq_true, decide_eq_true_eq, Bool.not_eq_true'] at h4
        obtain ⟨n1, n2⟩ := h4
        have n1' : X.N[i]? = some n := by rw [G.N]; exact n1
        exact ⟨_, .named n1' (show X.env.scope.names.lookup n = some .local from by rw [G.sc]; exact of_decide_eq_true n2) q1 su k1, hds_cons (G.xv hh) (fun c Ca hA => (q3 c Ca hA).1) k2⟩
      · cases h4
    · cases h
theorem snd_hnb {y : Nat} {a : T} {b : T} (iha : Snd a) (ihb : Snd b) : Snd (.hnb y a b) where
  e := by
    intro X E C e_ G h
    unfold chkE at h
    cases h
  l := by
    intro X E C v_ G h hl
    unfold chkE at h
    cases h
  b := by
    intro X E C e_ G h
    unfold chkB at h
    cases h
  a := by
    intro X E C es_ G h
    unfold chkA at h
    cases h
  v := by
    intro X E C es_ pos G h
    unfold chkV at h
    cases h
  tt := by
    intro X E C es_ pos G h
    unfold chkT at h
    cases h
  p := by
    intro X E C e_ G h
    unfold chkP at h
    cases h
  i := by
    intro X E C e_ tge_ G h
    unfold chkI at h
    cases h
  g := by
    intro X E C e_ G h
    unfold chkG at h
    cases h
  gs := by
    intro X E C es_ G h
    unfold chkGs at h
    cases h
  s := by
    intro X E C B st_ G hp h
    unfold chkS at h
    cases h
  ss := by
    intro X E C B sts_ G hp h
    unfold chkSs at h
    cases h
  h := by
    intro X E C hs G hh h
    unfold chkH at h
    split at h
    · simp only [Bool.and_eq_true, decide_eq_true_eq, Bool.not_eq_true'] at h
      obtain ⟨⟨⟨⟨h1, h2⟩, h3⟩, h5⟩, h6⟩ := h
      obtain ⟨l, k1, k2⟩ := ihb.h G hh h6
      obtain ⟨u, q1, _, q3⟩ := G.cls_ h1 (G.gl_ h2) h3
      have su : ∀ (a0 : Addr) (oe : Obj) (cls : Value) (d : Option Addr) (pn : List (Addr × Obj)), Zc cls d oe → (∃ vs, oe.data = .fields vs) → PSs (X.suite a0 ((a0, oe) :: pn)) _ (suT E a a0 cls d) := fun a0 oe cls d pn hz hf =>
        ⟨fun pins s σ H D I ⟨c, Ca, dd, B, e1, e2, e3, h⟩ => by
          subst e1 e2
          exact (iha.ss (G.suite hh hz hf e3) (fun z => by cases z) h5).run pins s σ H D I h⟩
      exact ⟨_, .bare q1 su k1, hds_bare (G.xv hh) (fun c Ca hA => (q3 c Ca hA).1) k2⟩
    · cases h
theorem snd_dnw {i : Nat} {b : Bool}  : Snd (.dnw i b) where
  e := by
    intro X E C e_ G h
    unfold chkE at h
    cases h
  l := by
    intro X E C v_ G h hl
    unfold chkE at h
    cases h
  b := by
    intro X E C e_ G h
    unfold chkB at h
    cases h
  a := by
    intro X E C es_ G h
    unfold chkA at h
    cases h
  v := by
    intro X E C es_ pos G h
    unfold chkV at h
    cases h
  tt := by
    intro X E C es_ pos G h
    unfold chkT at h
    cases h
  p := by
    intro X E C e_ G h
    unfold chkP at h
    cases h
  i := by
    intro X E C e_ tge_ G h
    unfold chkI at h
    cases h
  g := by
    intro X E C e_ G h
    unfold chkG at h
    cases h
  gs := by
    intro X E C es_ G h
    unfold chkGs at h
    cases h
  s := by
    intro X E C B st G hp h
    unfold chkS at h
    split at h
    · obtain ⟨h1, h2, h3⟩ := G.st h
      exact ss_dnw G.nd h1 h2 h3 (sw0 rfl _ _ _)
    · cases h
  ss := by
    intro X E C B sts_ G hp h
    unfold chkSs at h
    cases h
  h := by
    intro X E C hs_ G hh h
    unfold chkH at h
    cases h
theorem snd_dst {i : Nat} {e : T} (ihe : Snd e) : Snd (.dst i e) where
  e := by
    intro X E C e_ G h
    unfold chkE at h
    cases h
  l := by
    intro X E C v_ G h hl
    unfold chkE at h
    cases h
  b := by
    intro X E C e_ G h
    unfold chkB at h
    cases h
  a := by
    intro X E C es_ G h
    unfold chkA at h
    cases h
  v := by
    intro X E C es_ pos G h
    unfold chkV at h
    cases h
  tt := by
    intro X E C es_ pos G h
    unfold chkT at h
    cases h
  p := by
    intro X E C e_ G h
    unfold chkP at h
    cases h
  i := by
    intro X E C e_ tge_ G h
    unfold chkI at h
    cases h
  g := by
    intro X E C e_ G h
    unfold chkG at h
    cases h
  gs := by
    intro X E C es_ G h
    unfold chkGs at h
    cases h
  s := by
    intro X E C B st G hp h
    unfold chkS at h
    split at h
    · simp only [Bool.and_eq_true, decide_eq_true_eq, Bool.not_eq_true'] at h
      obtain ⟨n1, n2, n3, n4⟩ := G.nm h.1
      exact ss_dst (by have := G.hu; omega) n1 n2 n3 n4 (ihe.e G h.2) (sw0 rfl _ _ _)
    · cases h
  ss := by
    intro X E C B sts_ G hp h
    unfold chkSs at h
    cases h
  h := by
    intro X E C hs_ G hh h
    unfold chkH at h
    cases h
theorem snd_dtt {i : Nat} {a : T} (iha : Snd a) : Snd (.dtt i a) where
  e := by
    intro X E C e_ G h
    unfold chkE at h
    cases h
  l := by
    intro X E C v_ G h hl
    unfold chkE at h
    cases h
  b := by
    intro X E C e_ G h
    unfold chkB at h
    cases h
  a := by
    intro X E C es_ G h
    unfold chkA at h
    cases h
  v := by
    intro X E C es_ pos G h
    unfold chkV at h
    cases h
  tt := by
    intro X E C es_ pos G h
    unfold chkT at h
    cases h
  p := by
    intro X E C e_ G h
    unfold chkP at h
    cases h
  i := by
    intro X E C e_ tge_ G h
    unfold chkI at h
    cases h
  g := by
    intro X E C e_ G h
    unfold chkG at h
    cases h
  gs := by
    intro X E C es_ G h
    unfold chkGs at h
    cases h
  s := by
    intro X E C B st G hp h
    unfold chkS at h
    split at h
    · simp only [Bool.and_eq_true, decide_eq_true_eq, Bool.not_eq_true'] at h
      obtain ⟨n1, n2, n3, n4⟩ := G.nm h.1
      exact ss_dtt (by have := G.hu; omega) n1 n2 n3 n4 (iha.a G h.2).1 (sw0 rfl _ _ _)
    · cases h
  ss := by
    intro X E C B sts_ G hp h
    unfold chkSs at h
    cases h
  h := by
    intro X E C hs_ G hh h
    unfold chkH at h
    cases h
theorem snd_opn {i : Nat}  : Snd (.opn i) where
  e := by
    intro X E C e_ G h
    unfold chkE at h
    cases h
  l := by
    intro X E C v_ G h hl
    unfold chkE at h
    cases h
  b := by
    intro X E C e_ G h
    unfold chkB at h
    cases h
  a := by
    intro X E C es_ G h
    unfold chkA at h
    cases h
  v := by
    intro X E C es_ pos G h
    unfold chkV at h
    cases h
  tt := by
    intro X E C es_ pos G h
    unfold chkT at h
    cases h
  p := by
    intro X E C e_ G h
    unfold chkP at h
    cases h
  i := by
    intro X E C e_ tge_ G h
    unfold chkI at h
    cases h
  g := by
    intro X E C e_ G h
    unfold chkG at h
    cases h
  gs := by
    intro X E C es_ G h
    unfold chkGs at h
    cases h
  s := by
    intro X E C B st_ G hp h
    unfold chkS at h
    cases h
  ss := by
    intro X E C B sts_ G hp h
    unfold chkSs at h
    cases h
  h := by
    intro X E C hs_ G hh h
    unfold chkH at h
    cases h
theorem snd_oap {i : Nat} {e : T} (ihe : Snd e) : Snd (.oap i e) where
  e := by
    intro X E C e_ G h
    unfold chkE at h
    cases h
  l := by
    intro X E C v_ G h hl
    unfold chkE at h
    cases h
  b := by
    intro X E C e_ G h
    unfold chkB at h
    cases h
  a := by
    intro X E C es_ G h
    unfold chkA at h
    cases h
  v := by
    intro X E C es_ pos G h
    unfold chkV at h
    cases h
  tt := by
    intro X E C es_ pos G h
    unfold chkT at h
    cases h
  p := by
    intro X E C e_ G h
    unfold chkP at h
    cases h
  i := by
    intro X E C e_ tge_ G h
    unfold chkI at h
    cases h
  g := by
    intro X E C e_ G h
    unfold chkG at h
    cases h
  gs := by
    intro X E C es_ G h
    unfold chkGs at h
    cases h
  s := by
    intro X E C B st G hp h
    unfold chkS at h
    split at h
    · simp only [Bool.and_eq_true, decide_eq_true_eq] at h
      obtain ⟨⟨⟨⟨h1, h2⟩, h3⟩, h4⟩, h5⟩ := h
      subst h1
      obtain ⟨n1, n2, n3, n4⟩ := G.nm h2
      exact ss_oap n1 n2 n3 n4 (ihe.e G h5) h3 h4 rfl rfl (by rw [starEach_cons h3]; rfl)
    · cases h
  ss := by
    intro X E C B sts_ G hp h
    unfold chkSs at h
    cases h
  h := by
    intro X E C hs_ G hh h
    unfold chkH at h
    cases h
theorem snd_inz {i : Nat} {a : T} (iha : Snd a) : Snd (.inz i a) where
  e := by
    intro X E C e_ G h
    unfold chkE at h
    cases h
  l := by
    intro X E C v_ G h hl
    unfold chkE at h
    cases h
  b := by
    intro X E C e_ G h
    unfold chkB at h
    cases h
  a := by
    intro X E C es_ G h
    unfold chkA at h
    cases h
  v := by
    intro X E C es_ pos G h
    unfold chkV at h
    cases h
  tt := by
    intro X E C es_ pos G h
    unfold chkT at h
    cases h
  p := by
    intro X E C e_ G h
    unfold chkP at h
    cases h
  i := by
    intro X E C e_ tge_ G h
    unfold chkI at h
    cases h
  g := by
    intro X E C e_ G h
    unfold chkG at h
    cases h
  gs := by
    intro X E C es_ G h
    unfold chkGs at h
    cases h
  s := by
    intro X E C B st G hp h
    unfold chkS at h
    split at h
    · simp only [Bool.and_eq_true, decide_eq_true_eq] at h
      obtain ⟨⟨⟨⟨⟨h1, h2⟩, h3⟩, h4⟩, h5⟩, h6⟩ := h
      subst h1
      obtain ⟨n1, n2, n3, n4⟩ := G.nm h2
      exact ss_inz n1 n2 n3 n4 (iha.a G h6).1 h3 h4 h5 rfl rfl (by rw [starEach_cons h3, starEach_cons h4]; rfl)
    · cases h
  ss := by
    intro X E C B sts_ G hp h
    unfold chkSs at h
    cases h
  h := by
    intro X E C hs_ G hh h
    unfold chkH at h
    cases h
theorem snd_all : ∀ t : T, Snd t := by
  intro t
  induction t with
  | non   => exact snd_non 
  | tru   => exact snd_tru 
  | fls   => exact snd_fls 
  | int i  => exact snd_int 
  | str x  => exact snd_str 
  | var i  => exact snd_var 
  | bvar i  => exact snd_bvar 
  | glob j  => exact snd_glob 
  | gfn i  => exact snd_gfn 
  | bin o a b iha ihb => exact snd_bin iha ihb
  | neg a iha => exact snd_neg iha
  | cmp o a b iha ihb => exact snd_cmp iha ihb
  | chn o p a b c iha ihb ihc => exact snd_chn iha ihb ihc
  | ban a iha => exact snd_ban iha
  | bor a iha => exact snd_bor iha
  | not a iha => exact snd_not iha
  | ite c a b ihc iha ihb => exact snd_ite ihc iha ihb
  | tup a iha => exact snd_tup iha
  | lst a iha => exact snd_lst iha
  | olst a iha => exact snd_olst iha
  | idx a i iha ihi => exact snd_idx iha ihi
  | slc a lo hi iha ihlo ihhi => exact snd_slc iha ihlo ihhi
  | call f a iha => exact snd_call iha
  | callv i a iha => exact snd_callv iha
  | blt f a iha => exact snd_blt iha
  | isi a t iha => exact snd_isi iha
  | lc e c tg it own ihe ihc ihtg ihit => exact snd_lc ihe ihc ihtg ihit
  | lc2 e c tg it tg2 it2 own own2 ihe ihc ihtg ihit ihtg2 ihit2 => exact snd_lc2 ihe ihc ihtg ihit ihtg2 ihit2
  | sd2 e tg it tg2 it2 own own2 ihe ihtg ihit ihtg2 ihit2 => exact snd_sd2 ihe ihtg ihit ihtg2 ihit2
  | lc3 e tg it tg2 it2 tg3 it3 own own2 own3 ihe ihtg ihit ihtg2 ihit2 ihtg3 ihit3 => exact snd_lc3 ihe ihtg ihit ihtg2 ihit2 ihtg3 ihit3
  | lnd i c ihc => exact snd_lnd ihc
  | nil   => exact snd_nil 
  | cons a b iha ihb => exact snd_cons iha ihb
  | one a iha => exact snd_one iha
  | tst a iha => exact snd_tst iha
  | prt a iha => exact snd_prt iha
  | itv a iha => exact snd_itv iha
  | rg1 a iha => exact snd_rg1 iha
  | rg2 a b iha ihb => exact snd_rg2 iha ihb
  | rg3 a b c iha ihb ihc => exact snd_rg3 iha ihb ihc
  | enu a iha => exact snd_enu iha
  | tn i  => exact snd_tn 
  | tt a iha => exact snd_tt iha
  | asg tg e ihtg ihe => exact snd_asg ihtg ihe
  | asgc i e ihe => exact snd_asgc ihe
  | par i j a b iha ihb => exact snd_par iha ihb
  | ret e ihe => exact snd_ret ihe
  | retm i  => exact snd_retm 
  | retn   => exact snd_retn 
  | exp e ihe => exact snd_exp ihe
  | app i e ihe => exact snd_app ihe
  | seti i k e ihk ihe => exact snd_seti ihk ihe
  | oset o k e iho ihk ihe => exact snd_oset iho ihk ihe
  | iff c a b ihc iha ihb => exact snd_iff ihc iha ihb
  | for_ tg it b ihtg ihit ihb => exact snd_for_ ihtg ihit ihb
  | shr i  => exact snd_shr 
  | seq a b iha ihb => exact snd_seq iha ihb
  | skip   => exact snd_skip 
  | stk   => exact snd_stk 
  | jn x a iha => exact snd_jn iha
  | ext i e ihe => exact snd_ext ihe
  | xat j a iha => exact snd_xat iha
  | xis y a iha => exact snd_xis iha
  | rai c w a iha => exact snd_rai iha
  | tryy a b iha ihb => exact snd_tryy iha ihb
  | hnd y i a b iha ihb => exact snd_hnd iha ihb
  | hnb y a b iha ihb => exact snd_hnb iha ihb
  | dnw i b  => exact snd_dnw 
  | dst i e ihe => exact snd_dst ihe
  | dtt i a iha => exact snd_dtt iha
  | opn i  => exact snd_opn 
  | oap i e ihe => exact snd_oap ihe
  | inz i a iha => exact snd_inz iha
end OD

set_option Elab.async false
set_option autoImplicit false
set_option linter.all false
set_option maxRecDepth 100000
set_option maxHeartbeats 8000000
/-! My own layer, part 14: all defs of a program together, a law's end. -/
namespace OD
open PySem PySem.Spec PyProof.Rows L2

/-- one def: its name, its statement, its slots, its parameters, what it computes -/
structure Df where
  name : Str
  st : Stmt
  N : List Str
  ps : List Str
  F : Fn
def fnK : ScopeKind → Bool
  | .function => true
  | _ => false
def chkDf (gls : List Str) (fns : List (Str × Nat)) (cls : List (Str × Str)) (d : Df) : Bool :=
  fnK (defScope d.st).kind && !(defScope d.st).isCoroutine && !(defScope d.st).isGenerator && decide d.N.Nodup && decide (d.N.take d.ps.length = d.ps) && (d.ps.all fun x => isLoc (defScope d.st) x || isCel (defScope d.st) x) && ((defScope d.st).names.all fun y => !decide (y.2 = .free)) &&
    decide (d.F.ar = d.ps.length) && decide (d.F.sz = d.N.length) && chkSs ⟨d.N, defScope d.st, fun _ => true, gls, fns, cls, false⟩ d.F.body (defBody d.st)
structure Chk (gls : List Str) (fns : List (Str × Nat)) (cls : List (Str × Str)) (d : Df) : Prop where
  sc : FnScope d.N d.ps (defScope d.st)
  ar : d.F.ar = d.ps.length
  sz : d.F.sz = d.N.length
  ss : chkSs ⟨d.N, defScope d.st, fun _ => true, gls, fns, cls, false⟩ d.F.body (defBody d.st) = true
theorem chkDf_ok {gls : List Str} {fns : List (Str × Nat)} {cls : List (Str × Str)} {d : Df} (h : chkDf gls fns cls d = true) : Chk gls fns cls d := by
  unfold chkDf at h
  simp only [Bool.and_eq_true, decide_eq_true_eq, Bool.not_eq_true', List.all_eq_true, Bool.or_eq_true] at h
  obtain ⟨⟨⟨⟨⟨⟨⟨⟨⟨h1, h2⟩, h3⟩, h4⟩, h5⟩, h6⟩, h7⟩, h8⟩, h9⟩, h10⟩ := h
  refine ⟨⟨?_, h2, h3, h4, h5, fun x hx => (h6 x hx).imp of_decide_eq_true of_decide_eq_true, fun y hy => of_decide_eq_false (h7 y hy)⟩, h8, h9, h10⟩
  revert h1
  cases (defScope d.st).kind <;> first | (intro; rfl) | (intro h; cases h)
section
variable {P : Program} {w : World} {K : PySem.W.Frag} {mg : Str → Option Value} {base : Heap} {W : Wd} {gls : List Str} {gl : List D} {defs : List Df} {cls : List (Str × Str)}
/-- what the table rests on -/
structure TbI (P : Program) (w : World) (K : PySem.W.Frag) (mg : Str → Option Value) (W : Wd) (gls : List Str) (gl : List D) (defs : List Df) (cls : List (Str × Str)) : Prop where
  xv : W.xv = none
  ex : ∀ base : Heap, ExI P w K mg base W.clA W.clF cls
  kk : W.K = K
  bl : ∀ x ∈ bltNames, mg x = none
  gl : ∀ (j : Nat) (x : Str), gls[j]? = some x → ∃ v u, mg x = some u ∧ RelV v u ∧ ∀ d, gl[j]? = some d → ∀ g H, RelD W g H d v
  fn : ∀ (i : Nat) (d : Df), defs[i]? = some d → ∃ fa fd, mg d.name = some (.ref fa) ∧ W.fnA i = some fa ∧ FunD K d.name d.name (defArgs d.st) (defBody d.st) (defScope d.st) [] [] fa fd ∧ Binds K fd d.ps []
  un : ∀ (i : Nat) fa, W.fnA i = some fa → ∃ d, defs[i]? = some d
  chk : ∀ d ∈ defs, chkDf gls (defs.map fun d => (d.name, d.F.ar)) cls d = true
theorem getS_start {ds : List D} {n : Nat} (i : Nat) : getS (ds.map (fun d => some (d, false)) ++ List.replicate n none) i = (ds[i]?).map fun d => (d, false) := by
  unfold getS
  rw [List.getD_eq_getElem?_getD]
  by_cases h : i < ds.length
  · rw [List.getElem?_append_left (by simpa using h), List.getElem?_map]
    cases ds[i]? <;> rfl
  · rw [List.getElem?_append_right (by simpa using h), List.getElem?_replicate, List.getElem?_eq_none (by omega)]
    split <;> rfl
theorem start_get {N : List Str} {vs : List V} {i : Nat} {v : V} (h : vs[i]? = some v) : (L2.start N vs).getD i none = some v := by
  unfold L2.start
  obtain ⟨hi, _⟩ := List.getElem?_eq_some_iff.mp h
  rw [List.getD_eq_getElem?_getD, List.getElem?_append_left (by simpa using hi), List.getElem?_map, h]; rfl
theorem callF_har {gl : List D} {tab : List Fn} {n f : Nat} {F : Fn} {ds : List D} {m : MS} (h : tab[f]? = some F) (hb : callF gl tab n f ds m ≠ .bad) : ds.length = F.ar := by
  cases n with
  | zero => exact absurd rfl hb
  | succ n =>
    unfold callF at hb
    rw [h] at hb
    by_cases q : ds.length = F.ar
    · exact q
    · exfalso
      apply hb
      simp only [needR, if_neg q]
theorem callF_none {gl : List D} {tab : List Fn} {n f : Nat} {ds : List D} {m : MS} (h : tab[f]? = none) : callF gl tab n f ds m = .bad := by
  cases n with
  | zero => rfl
  | succ n => unfold callF; rw [h]
theorem table_ok (I : TbI P w K mg W gls gl defs cls) : ∀ (n i : Nat) (d : Df), defs[i]? = some d → ∀ fa fd, FunD K d.name d.name (defArgs d.st) (defBody d.st) (defScope d.st) [] [] fa fd →
    FnOkG P w K mg base (L2.CX P w) (n + 4) fa fd d.ps (spR W d.F.ar (callF gl (defs.map (·.F)) n i)) := by
  intro n
  induction n with
  | zero =>
    intro i d hd fa fd F
    have c := chkDf_ok (I.chk d (List.mem_of_getElem? hd))
    refine fnOkG_of (N := d.N) F c.sc (fun vs H Q E h => ?_) fun cdv A outer s H vs Q E hr hgu h => ?_
    · obtain ⟨P', g, m, ds, _, _, r, hl, _⟩ := h
      rw [← r.length, hl, c.ar]
    · obtain ⟨P', g, m, ds, _, _, r, hl, q⟩ := h
      exact q.elim
  | succ n ih =>
    intro i d hd fa fd F
    have c := chkDf_ok (I.chk d (List.mem_of_getElem? hd))
    refine fnOkG_of (N := d.N) F c.sc (fun vs H Q E h => ?_) fun cdv A outer s H vs Q E hr hgu h => ?_
    · obtain ⟨P', g, m, ds, _, _, r, hl, _⟩ := h
      rw [← r.length, hl, c.ar]
    · obtain ⟨P', g, m, ds, k0, dm, r, hl, q⟩ := h
      have hlv : vs.length = d.ps.length := by rw [← r.length, hl, c.ar]
      have hpN : d.ps.length ≤ d.N.length := by have := congrArg List.length c.sc.pre; rw [List.length_take] at this; omega
      let En0 : En := ⟨W, gl, callF gl (defs.map (·.F)) n, fun cls x _ H => E cls x H⟩
      let B0 : Bs := ⟨P', g, H, m⟩
      have tabi : (defs.map (·.F))[i]? = some d.F := by rw [List.getElem?_map, hd]; rfl
      have tk : Takes (cxOf (L2.CX P w) P w K mg base d.N d.name (defScope d.st) fa cdv A outer s H E) En0.Wx := takes_of rfl rfl rfl rfl
      have po : PassesOwn (model P w) (cxOf (L2.CX P w) P w K mg base d.N d.name (defScope d.st) fa cdv A outer s H E).A (cxOf (L2.CX P w) P w K mg base d.N d.name (defScope d.st) fa cdv A outer s H E).env (cxOf (L2.CX P w) P w K mg base d.N d.name (defScope d.st) fa cdv A outer s H E).xe := passes_of (X := cxOf (L2.CX P w) P w K mg base d.N d.name (defScope d.st) fa cdv A outer s H E) rfl
      have gd : Gd (cxOf (L2.CX P w) P w K mg base d.N d.name (defScope d.st) fa cdv A outer s H E) En0 ⟨d.N, defScope d.st, fun _ => true, gls, defs.map fun d => (d.name, d.F.ar), cls, false⟩ := by
        refine ⟨I.kk.symm, fun _ => rfl, rfl, c.sc.nd, rfl, c.sc.kind, rfl, tk, ?_, hgu, fun _ => ⟨n + 4, hr, fun f x ar hf => ?_, fun f fa hf => ?_⟩, fun _ => hr.mono (by omega), fun f x ar es m' hf hb => ?_, fun f es m' hf => ?_, I.bl, I.gl, I.ex base, fun _ => I.xv, fun z => by cases z⟩
        · have := hr.un
          show (A.deeper _).units + 65 < cLine
          omega
        · have hf : (defs.map fun d => (d.name, d.F.ar))[f]? = some (x, ar) := hf
          rw [List.getElem?_map] at hf
          obtain ⟨e, he, hq⟩ := Option.map_eq_some_iff.mp hf
          cases hq
          obtain ⟨fb, fe, e1, e2, e3, e4⟩ := I.fn f e he
          exact ⟨fb, e1, e2, ⟨⟨fe, e.ps, ih f e he fb fe e3, e4⟩, e3.kp⟩⟩
        · obtain ⟨e, he⟩ := I.un f fa hf
          exact ⟨e.name, e.F.ar, by show (defs.map fun d => (d.name, d.F.ar))[f]? = _; rw [List.getElem?_map, he]; rfl⟩
        · have hf : (defs.map fun d => (d.name, d.F.ar))[f]? = some (x, ar) := hf
          rw [List.getElem?_map] at hf
          obtain ⟨e, he, hq⟩ := Option.map_eq_some_iff.mp hf
          cases hq
          exact callF_har (F := e.F) (by rw [List.getElem?_map, he]; rfl) hb
        · have hf : (defs.map fun d => (d.name, d.F.ar))[f]? = none := hf
          rw [List.getElem?_map] at hf
          refine callF_none ?_
          rw [List.getElem?_map]
          cases q : defs[f]? with
          | none => rfl
          | some e => rw [q] at hf; cases hf
      refine ⟨TSo En0 B0 d.F.body, (snd_all d.F.body).ss gd (fun _ => ⟨po, rfl, rfl⟩) c.ss, ?_⟩
      unfold callF at q
      rw [tabi] at q
      obtain ⟨_, q⟩ := SatR.need q
      have b0 : BI W B0 g H (ds.map (fun d => some (d, false)) ++ List.replicate (d.F.sz - d.F.ar) none) m (L2.start d.N vs) := by
        have no : ∀ a, ¬ Own (ds.map (fun d => some (d, false)) ++ List.replicate (d.F.sz - d.F.ar) none) (L2.start d.N vs) a := fun a ⟨j, e, h1, _⟩ => by
          rw [getS_start] at h1
          cases q : ds[j]? with
          | none => rw [q] at h1; cases h1
          | some e' => rw [q] at h1; cases h1
        refine ⟨k0, dm, .refl, ⟨k0, fun a p => p.elim (dm a) fun z => absurd z (no a), fun j => ?_, ?_⟩, fun a z => absurd z (no a), fun j l e e' a h1 _ h3 _ => absurd ⟨j, e, h1, h3⟩ (no a)⟩
        · rw [getS_start]
          cases q : ds[j]? with
          | none => trivial
          | some e =>
            obtain ⟨v, h1, h2⟩ := r.get q
            exact ⟨v, start_get h1, h2⟩
        · unfold L2.start
          simp only [List.length_append, List.length_map, List.length_replicate]
          rw [hl, c.sz, c.ar, hlv]
      refine ⟨g, _, m, b0, ?_⟩
      show SatS En0 B0 g H _ (evS gl (callF gl (defs.map (·.F)) n) d.F.body _ m)
      generalize evS gl (callF gl (defs.map (·.F)) n) d.F.body (ds.map (fun d => some (d, false)) ++ List.replicate (d.F.sz - d.F.ar) none) m = r0 at q
      match r0, q with
      | .ok (.nx, S') m', q => exact fun g' H' σ' _ b => q g' H' b.ext b.st.ok _ .non
      | .ok (.rt e k, S') m', q => exact fun g' H' v x k hv => q g' H' x k v hv
      | .ok (.xc c fs, S') m', q => exact fun g' H' σ' d fv b e1 e2 e3 => q g' H' d fv b.ext b.st.ok e1 e2 e3
      | .exc c fs m', q => exact q.elim
      | .bad, q => exact q.elim
end

/-! ### a law's end -/
def CXe : CXT := fun outer H s E u s' => ∃ P w, L2.CX P w outer H s E u s'
theorem cx_none (H : Hp) (s : Shared) (e : Value) (s' : Shared) (h : CXe [] H s (fun _ _ _ => False) e s') : False := by
  obtain ⟨P, w, a, B, H', cls, d, _, _, _, _, _, _, _, z⟩ := h
  exact z
theorem fnOk_any {P : Program} {w : World} {K : PySem.W.Frag} {mg : Str → Option Value} {base : Heap} {k : Nat} {f : Addr} {fd : FuncData} {ps : List Str} {sp : Sp} (F : FnOkG P w K mg base (L2.CX P w) k f fd ps sp) : FnOkG P w K mg base CXe k f fd ps sp :=
  ⟨F.len, fun A outer s H args us vs Q E hr hg e0 hb r hsp => codeAny_mono (F.run A outer s H args us vs Q E hr hg e0 hb r hsp) fun x s' h => by
    cases x with
    | ok r => cases r <;> exact h
    | error e => exact ⟨P, w, h⟩⟩
/-- a script's call, no guard being up -/
theorem callG {P : Program} {w : World} {K : PySem.W.Frag} {mg mb : Str → Option Value} {k : Nat} {fa p : Addr} {fd : FuncData} {x : Str} {sp : Sp} {t : Shared} {its : List Value} {ns : List Int} (kin : K.In t.heap) (n1 : t.heap.Ns mainGlobals mg) (n2 : t.heap.Ns builtinsNs mb) (n3 : ∀ y : Str, y ≠ "__name__" → mb y = bootBuiltins y)
    (n4 : t.heap.NoLimit) (n5 : t.gens = #[]) (at_ : t.heap.get? p = some { cls := .type "list", data := .seq its.toArray }) (ia : IntsAre its ns) (le : ns.length ≤ sizeLine) (rm : Room k callerA) (G : ∀ base : Heap, K.In base → base.Ns mainGlobals mg → FnOkG P w K mg base CXe k fa fd [x] sp)
    (bd : ∀ (s : Shared) (u : Value), BindsTo s fd ⟨[u], []⟩ [(x, u)]) (hs : ∀ H : Hp, Only H → SqL K H p (ns.map V.int) → sp [.ref p] H (fun v _ => v = .bl true) fun _ _ _ => False) :
    codeAny (model P w) callerA (.call (.ref fa) ⟨[.ref p], []⟩) (fun r z => r = .ok (.ret (.bool true)) ∧ OldK t.heap z.heap ∧ z.os = t.os ∧ AllBare z.gens) t := by
  have vi := vals_ints ia
  have gen : ∀ H : Hp, Only H → SqL K H p (ns.map V.int) → HOk P w H t.heap → (∀ b, H b ≠ none → b = p) → (H p ≠ none → K.lookup p = none) → codeAny (model P w) callerA (.call (.ref fa) ⟨[.ref p], []⟩) (fun r z => r = .ok (.ret (.bool true)) ∧ OldK t.heap z.heap ∧ z.os = t.os ∧ AllBare z.gens) t := by
    intro H oH sH kH aH lH
    have cover : ∀ {b : Addr} {o : Obj}, t.heap.get? b = some o → H b = none → (hidT t.heap H).get? b = some o := fun u v => hidT_get u v
    have free : ∀ {b : Addr} {o : Obj}, t.heap.get? b = some o → (b = p → False) → H b = none := fun {b o} _ n => by
      cases q : H b with
      | none => rfl
      | some u => exact absurd (aH b (by rw [q]; simp)) n
    have ns_ : ∀ {b : Addr} {m : Str → Option Value}, t.heap.Ns b m → (hidT t.heap H).Ns b m := fun {b m} ⟨o, es, ep, e, d, r⟩ => ⟨o, es, ep, cover e (free e fun z => by
      subst z
      rw [at_] at e
      cases e
      cases (show Data.seq its.toArray _ = Data.dict es ep from d)), d, r⟩
    have kb : K.In (hidT t.heap H) := fun b o e => cover (kin b o e) (by
      cases q : H b with
      | none => rfl
      | some u =>
        have z := aH b (by rw [q]; simp)
        subst z
        rw [lH (by rw [q]; simp)] at e
        cases e)
    have env : Env0 P w K mg (hidT t.heap H) callerA [] t H := ⟨rfl, ⟨kb, ns_ n1, ⟨mb, ns_ n2, n3⟩, let ⟨mc, c1, c2⟩ := n4; ⟨mc, ns_ c1, c2⟩⟩, fun b o e => of_hidT e, Nat.le_of_eq (hidT_size _ _), trivial, fun b hb => absurd (show b ∈ ([] : List Addr) from hb) (by simp), kH, .of_eq n5⟩
    refine codeAny_mono ((G _ kb (ns_ n1)).run callerA [] t H ⟨[.ref p], []⟩ [.ref p] [.ref p] _ _ rm rfl env (bd t (.ref p)) (.cons rfl .nil) (hs H oH sH)) fun r z h => ?_
    match r, h with
    | .error e, h => exact (cx_none H t e z h).elim
    | .ok .next, h => exact False.elim h
    | .ok .brk, h => exact False.elim h
    | .ok .cont, h => exact False.elim h
    | .ok (.ret u), h =>
      obtain ⟨v, H', o1, o2, un, o3, o4, q⟩ := h
      have q : v = .bl true := q
      subst q
      obtain rfl : u = Value.bool true := o4
      refine ⟨rfl, OldK.of_keep fun b o e => ?_, o1, o2⟩
      cases c : H b with
      | none => exact un.keep b o e c (by intro y; exact absurd (show b ∈ ([] : List Addr) from y) (by simp)) (by simp)
      | some u =>
        rcases oH b with y | ⟨ob, xs, y⟩
        · rw [c] at y; cases y
        · obtain ⟨f1, _⟩ := kH b _ y
          obtain ⟨f2, _⟩ := o3 b _ (un.frzs b ob _ y)
          rw [e] at f1
          cases f1
          exact f2
  cases hk : K.lookup p with
  | some o =>
    have e := kin p o hk
    rw [at_] at e
    cases e
    exact gen (fun _ => none) (fun _ => .inl rfl) (.inr ⟨_, its.toArray, _, hk, rfl, rfl, rfl, by rw [List.size_toArray, ia.length]; exact le, by simpa using vi⟩) (fun b u z => by cases (show (none : Option HO) = some u from z)) (fun b z => absurd rfl z) fun z => absurd rfl z
  | none =>
    let hp0 : HO := .frz { cls := .type "list", data := .seq its.toArray } (.lst (ns.map V.int))
    have at0 : ∀ b, b = p → (if b = p then some hp0 else none) = some hp0 := fun b e => if_pos e
    have off : ∀ b, b ≠ p → (if b = p then some hp0 else none) = none := fun b e => if_neg e
    refine gen (fun b => if b = p then some hp0 else none) (fun b => ?_) (.inl (.inr ⟨{ cls := .type "list", data := .seq its.toArray }, at0 p rfl⟩)) (fun b u z => ?_) (fun b z => ?_) fun _ => hk
    · by_cases hb : b = p
      · exact .inr ⟨_, _, at0 b hb⟩
      · exact .inl (off b hb)
    · by_cases hb : b = p
      · have z := (at0 b hb).symm.trans z
        cases z
        subst hb
        exact ⟨at_, by rw [List.length_map]; exact le, its, _, vi, at_⟩
      · have z := (off b hb).symm.trans z
        cases z
    · by_cases hb : b = p
      · exact hb
      · exact absurd (off b hb) z
/-- a law's end -/
theorem walkG {l : PySem.W.OpenLaw} {n k : Nat} {q : Program} {loose : List Str} {XP : (Str → Option Value) → Heap → Prop} {YP : World → Heap → Prop} {d : DefRec} {x : Str} (e1 : l.most = some n) (e2 : n ≤ sizeLine) (e3 : d.params.defaults = []) (rm : Room k callerA)
    (F : ∀ (w : World) (mg : Str → Option Value) (fa : Addr) (h : Heap), YP w h → h.Ns mainGlobals mg → mg d.name = some (.ref fa) → ∃ (K : PySem.W.Frag) (fd : FuncData) (sp : Sp), K.In h ∧ (∀ (s : Shared) (u : Value), BindsTo s fd ⟨[u], []⟩ [(x, u)]) ∧
        (∀ (H : Hp) (a : Addr) (ns : List Int), ns.length ≤ n → Only H → SqL K H a (ns.map V.int) → sp [.ref a] H (fun v _ => v = .bl true) fun _ _ _ => False) ∧ ∀ base : Heap, K.In base → base.Ns mainGlobals mg → FnOkG l.prog w K mg base CXe k fa fd [x] sp) :
    PySem.W.WalkO q loose XP YP l.row.toRowW d [] (fun f vs => PySem.call f vs) := by
  refine Att.attach_call e1 e3 fun w t0 t mg mb fa o pm cd doc a its ns G Y h1 h2 h3 h4 h5 h6 h7 h8 => ?_
  obtain ⟨K, fd, sp, kin, bd, hs, hF⟩ := F w mg fa _ Y G.T.g h4
  exact callG kin G.T.g G.T.b G.T.builtins G.T.nolimit h8 h5 h6 (Nat.le_trans h7 e2) rm hF bd fun H z1 z2 => hs H a ns h7 z1 z2
/-- a constant of the module -/
inductive Gc where
  | int (i : Int) | str (x : Str) | tstr (xs : List Str)
def Gc.d : Gc → D
  | .int i => .int i
  | .str x => .str x
  | .tstr xs => .tup (xs.map D.str)
def Gc.fa (x : Str) : Gc → He.Fa
  | .int i => .int x i
  | .str z => .str x z
  | .tstr _ => .glo x
def dfD (d : Df) : He.DefD := ⟨(d.name, none), d.name, d.name, defArgs d.st, defBody d.st, defScope d.st, [], []⟩
/-- a class of errors: its name, its word, its text -/
structure Cs where
  name : Str
  word : Str
  st : Stmt
def Cs.ini (c : Cs) : Stmt := inClass c.st 0
def Cs.qual (c : Cs) : Str := c.name ++ ".__init__"
def csD (c : Cs) : He.DefD := ⟨(c.name, some "__init__"), "__init__", c.qual, defArgs c.ini, defBody c.ini, defScope c.ini, [.non], []⟩
def clsOf (cs : List Cs) : List (Str × Str) := cs.map fun c => (c.name, c.word)
def factsOf (gls : List (Str × Gc)) (defs : List Df) (cs : List Cs) : List He.Fa := (defs.map fun d => He.Fa.glo d.name) ++ (bltNames.map He.Fa.free) ++ (gls.map fun p => p.2.fa p.1) ++ (He.Fa.free "ValueError" :: cs.map fun c => He.Fa.glo c.name)
def allB {α : Type} (l : List α) (f : Nat → α → Bool) : Bool := (List.range l.length).all fun i => match l[i]? with
  | some c => f i c
  | none => true
theorem all_range {α : Type} {l : List α} {f : Nat → α → Bool} (h : allB l f = true) {i : Nat} {c : α} (hc : l[i]? = some c) : f i c = true := by
  have := List.all_eq_true.mp h i (List.mem_range.mpr (List.getElem?_eq_some_iff.mp hc).1)
  rw [hc] at this
  exact this
def pairB (K : PySem.W.Frag) (i y : Nat) (c e : Cs) : Bool := decide (PySem.W.exmOne K (.ref (He.ga K c.name)) (.ref (He.ga K e.name)) = some (subX i y)) && decide (PySem.W.kitOne K (.ref (He.ga K c.name)) (.ref (He.ga K e.name)) = some (subX i y))
def oneB (K : PySem.W.Frag) (cs : List Cs) (i : Nat) (c : Cs) : Bool := match i with
  | 0 => baseB K (He.ga K c.name)
  | _ => erB K (He.ga K c.name) && decide (PySem.W.exmOne K (.ref (He.ga K c.name)) (.type "ValueError") = some true) && decide (PySem.W.kitOne K (.ref (He.ga K c.name)) (.type "ValueError") = some true) && allB cs fun y e => pairB K i y c e
def exB (K : PySem.W.Frag) (cs : List Cs) : Bool := allB cs (oneB K cs)
theorem sz3 {n : Nat} (h : n ≤ 1000) : n ≤ sizeLine := Nat.le_trans h (by decide)
def strsB : List Str → List Value → Bool
  | [], [] => true
  | x :: xs, .str y _ :: us => decide (x = y) && strsB xs us
  | _, _ => false
/-- a constant that is a tuple of texts -/
def gcB (K : PySem.W.Frag) (p : Str × Gc) : Bool := match p.2 with
  | .tstr xs => match K.lookup (He.ga K p.1) with
    | some ⟨.type "tuple", _, .seq its _, _⟩ => decide (its.size ≤ 1000) && strsB xs its.toList
    | _ => false
  | _ => true
theorem strsB_ok : ∀ {xs : List Str} {us : List Value}, strsB xs us = true → Vals (xs.map V.str) us
  | [], [], _ => .nil
  | x :: xs, .str y t :: us, h => by
    have h : (decide (x = y) && strsB xs us) = true := h
    simp only [Bool.and_eq_true, decide_eq_true_eq] at h
    obtain ⟨rfl, h2⟩ := h
    exact .cons ⟨t, rfl⟩ (strsB_ok h2)
theorem gcB_ok {K : PySem.W.Frag} {x : Str} {xs : List Str} (h : gcB K (x, .tstr xs) = true) (H : Hp) : SqT K H (He.ga K x) (xs.map V.str) := by
  unfold gcB at h
  dsimp only at h
  split at h
  · rename_i dd its n sl hk
    simp only [Bool.and_eq_true, decide_eq_true_eq] at h
    exact .inr ⟨_, its, n, hk, rfl, rfl, sz3 h.1, strsB_ok h.2⟩
  · cases h
/-! ### the hook -/
abbrev AlX : Type := He.AlD × Bool
def obsX (fa : List He.Fa) (fn : List He.DefD) (cs : List Cs) (gls : List (Str × Gc)) (K : PySem.W.Frag) : AlX := (He.obsD fa fn K, exB K cs && gls.all (gcB K))
def valX (fn : List He.DefD) : AlX := (He.valD fn, true)
def obsXG (n : Nat) (fa : List He.Fa) (fn : List He.DefD) (cs : List Cs) (gls : List (Str × Gc)) (g : Addr → Option Obj) : AlX := obsX fa fn cs gls (He.frG g (He.asD g n ++ [cStatics]))
def SaysX (fa : List He.Fa) (fn : List He.DefD) (cs : List Cs) (gls : List (Str × Gc)) (K : PySem.W.Frag) : Prop := obsX fa fn cs gls K = valX fn
def hookX (n : Nat) (fa : List He.Fa) (fn : List He.DefD) (cs : List Cs) (gls : List (Str × Gc)) : PySem.W.Hook where
  α := AlX
  obs := fun s => obsXG n fa fn cs gls s.heap.get?
  val := fun _ => valX fn
  says := fun _ h => ∃ K : PySem.W.Frag, K.In h ∧ SaysX fa fn cs gls K
  of := fun _ _ e => ⟨_, He.frG_in, e⟩
  keeps := fun _ _ _ ⟨K, hK, c⟩ k => ⟨K, PySem.W.Frag.In.keeps hK k, c⟩
theorem obsXG_eq {n : Nat} {fa : List He.Fa} {fn : List He.DefD} {cs : List Cs} {gls : List (Str × Gc)} {g : Addr → Option Obj} {s : Shared} (h : ∀ a, g a = s.heap.get? a) : obsXG n fa fn cs gls g = (hookX n fa fn cs gls).obs s := by
  have e : g = s.heap.get? := funext h
  rw [e] <;> rfl
/-! ### the texts of the classes -/
def scB (N ps : List Str) (sc : Scope) : Bool := fnK sc.kind && !sc.isCoroutine && !sc.isGenerator && decide N.Nodup && decide (N.take ps.length = ps) && (ps.all fun x => isLoc sc x || isCel sc x) && (sc.names.all fun y => !decide (y.2 = .free))
theorem scB_ok {N ps : List Str} {sc : Scope} (h : scB N ps sc = true) : FnScope N ps sc := by
  unfold scB at h
  simp only [Bool.and_eq_true, decide_eq_true_eq, Bool.not_eq_true', List.all_eq_true, Bool.or_eq_true] at h
  obtain ⟨⟨⟨⟨⟨⟨h1, h2⟩, h3⟩, h4⟩, h5⟩, h6⟩, h7⟩ := h
  refine ⟨?_, h2, h3, h4, h5, fun x hx => (h6 x hx).imp of_decide_eq_true of_decide_eq_true, fun y hy => of_decide_eq_false (h7 y hy)⟩
  revert h1
  cases sc.kind <;> first | (intro; rfl) | (intro h; cases h)
def p3 : List Str := ["self", "word", "place"]
def p2 : List Str := ["self", "place"]
def csB (i : Nat) (c : Cs) : Bool := match i with
  | 0 => scB p3 p3 (defScope c.ini) && rootB (defBody c.ini) && isLoc (defScope c.ini) "self" && isLoc (defScope c.ini) "word" && isLoc (defScope c.ini) "place" && decide (c.name = ("FilmError" : Str))
  | _ => scB p2 p2 (defScope c.ini) && initB c.word (defBody c.ini) && isLoc (defScope c.ini) "self" && isLoc (defScope c.ini) "place" && glB (defScope c.ini) "FilmError"
def csOk (cs : List Cs) : Bool := allB cs csB
/-- how __init__ is called -/
def Bind1 (c : Cs) (ps : List Str) (n j : Nat) : Prop := ∀ (T : Addr) (kV doc pm : Value) (an : Option Addr) (cdv ct : Value) (us its : List Value), us.length = n → its.length = 1 →
  ∃ k, bindArgs (PySem.W.fnOf "__init__" c.qual (defArgs c.ini) (defBody c.ini) (defScope c.ini) (.ref T) kV doc pm an cdv ct) ⟨us, []⟩ = seqItems? (.ref T) >>= k ∧ k (some its.toArray) = pure (ps.zip (us ++ its.drop j))
def BindC (i : Nat) (c : Cs) : Prop := match i with
  | 0 => Bind1 c p3 3 1
  | _ => Bind1 c p2 1 0 ∧ Bind1 c p2 2 1
theorem vals_non {ds : List Value} (h : Vals [V.non] ds) : ds = [.none] := by
  cases h with
  | cons r t =>
    cases t
    cases r
    rfl
theorem vals_nil {ds : List Value} (h : Vals [] ds) : ds = [] := by
  cases h; rfl
/-- what the head tells of the classes -/
theorem ex_of {P : Program} {w : World} {K : PySem.W.Frag} {h : Heap} {mg : Str → Option Value} {cs : List Cs} {base : Heap} (X : K.In h) (G : h.Ns mainGlobals mg) (ok : csOk cs = true) (bc : ∀ (i : Nat) (c : Cs), cs[i]? = some c → BindC i c) (glo : ∀ c ∈ cs, mg c.name = some (.ref (He.ga K c.name)))
    (ve : mg "ValueError" = none) (df : ∀ c ∈ cs, ∃ fd, FunD K "__init__" c.qual (defArgs c.ini) (defBody c.ini) (defScope c.ini) [.non] [] (He.ma K (He.ga K c.name) "__init__") fd) (e : exB K cs = true) :
    ExI P w K mg base (fun i => match i with | 0 => none | _ => (cs[i]?).map fun c => He.ga K c.name) (fun _ => pwK) (clsOf cs) := by
  have get : ∀ {i : Nat} {x z : Str}, (clsOf cs)[i]? = some (x, z) → ∃ c, cs[i]? = some c ∧ x = c.name ∧ z = c.word := fun {i x z} h => by
    unfold clsOf at h
    rw [List.getElem?_map] at h
    obtain ⟨c, h1, h2⟩ := Option.map_eq_some_iff.mp h
    cases h2
    exact ⟨c, h1, rfl, rfl⟩
  have cl : ∀ {i : Nat} {Ca : Addr}, (match i with | 0 => none | _ => (cs[i]?).map fun c => He.ga K c.name) = some Ca → ∃ j c, i = j + 1 ∧ cs[j + 1]? = some c ∧ He.ga K c.name = Ca := fun {i Ca} h => by
    cases i with
    | zero => cases h
    | succ j =>
      obtain ⟨c, h1, h2⟩ := Option.map_eq_some_iff.mp h
      exact ⟨j, c, rfl, h1, h2⟩
  have one : ∀ {j : Nat} {c : Cs}, cs[j + 1]? = some c → ErF K (He.ga K c.name) ∧ (PySem.W.exmOne K (.ref (He.ga K c.name)) (.type "ValueError") = some true ∧ PySem.W.kitOne K (.ref (He.ga K c.name)) (.type "ValueError") = some true) ∧ ∀ (y : Nat) (d : Cs), cs[y]? = some d → pairB K (j + 1) y c d = true := fun {j c} h => by
    have h1 : oneB K cs (j + 1) c = true := all_range e h
    unfold oneB at h1
    simp only [Bool.and_eq_true, decide_eq_true_eq] at h1
    obtain ⟨⟨⟨h1, h2⟩, h3⟩, h4⟩ := h1
    exact ⟨er_ok h1, ⟨h2, h3⟩, fun y d hy => all_range (f := fun y d => pairB K (j + 1) y c d) h4 hy⟩
  refine ⟨fun i x z hi h0 => ?_, fun i x z hi => ?_, fun i Ca hi => ?_, fun i y Ca x z Da hi hy hm => ?_, fun i Ca hi => ?_, ve⟩
  · obtain ⟨c, hc, rfl, rfl⟩ := get hi
    cases i with
    | zero => omega
    | succ j =>
      have mc := List.mem_of_getElem? hc
      obtain ⟨E1, _, _⟩ := one hc
      have t := all_range (f := csB) ok hc
      unfold csB at t
      simp only [Bool.and_eq_true] at t
      obtain ⟨⟨⟨⟨t1, t2⟩, t3⟩, t4⟩, t5⟩ := t
      obtain ⟨fd, F⟩ := df c mc
      obtain ⟨b1, b2⟩ := bc _ _ hc
      -- the base of all
      have h0 : 0 < cs.length := by have := (List.getElem?_eq_some_iff.mp hc).1; omega
      obtain ⟨r, hr⟩ : ∃ r, cs[0]? = some r := ⟨_, List.getElem?_eq_getElem h0⟩
      have mr := List.mem_of_getElem? hr
      have u := all_range (f := csB) ok hr
      unfold csB at u
      simp only [Bool.and_eq_true, decide_eq_true_eq] at u
      obtain ⟨⟨⟨⟨⟨u1, u2⟩, u3⟩, u4⟩, u5⟩, u6⟩ := u
      have ur : baseB K (He.ga K r.name) = true := all_range (f := oneB K cs) e hr
      obtain ⟨R, kp⟩ := base_ok ur
      obtain ⟨fr, Fr⟩ := df r mr
      obtain ⟨ds0, v0, d0⟩ := Fr.binds1 (ps := p3) 3 1 (by simp) (by rfl) (bc _ _ hr)
      have v0 := vals_nil v0
      subst v0
      have F0 : FnOk P w K mg base (L2.CX P w) 1 _ fr p3 (spRoot K) := root_ok (k := 0) Fr (scB_ok u1) u2 ⟨of_decide_eq_true u3, of_decide_eq_true u4, of_decide_eq_true u5⟩
      have gC := glo r mr
      rw [u6] at gC
      have gC' : mg "FilmError" = some (.ref (He.ga K r.name)) := by rw [gC, u6]
      obtain ⟨ds1, v1, d1⟩ := F.binds1 (ps := p2) 1 0 (by simp) (by rfl) b1
      obtain ⟨ds2, v2, d2⟩ := F.binds1 (ps := p2) 2 1 (by simp) (by rfl) b2
      have v1 := vals_non v1
      have v2 := vals_nil v2
      subst v1 v2
      exact ⟨_, glo c mc, by show (cs[j + 1]?).map _ = _; rw [hc]; rfl, E1, rfl, fd, init_ok F (scB_ok t1) t2 ⟨of_decide_eq_true t3, of_decide_eq_true t4, of_decide_eq_true t5⟩ R gC' E1.c F0 kp d0, d2, d1⟩
  · obtain ⟨c, hc, rfl, rfl⟩ := get hi
    exact ⟨_, glo c (List.mem_of_getElem? hc)⟩
  · obtain ⟨j, c, rfl, hc, rfl⟩ := cl hi
    exact ⟨by omega, c.name, c.word, by show (cs.map _)[j + 1]? = _; rw [List.getElem?_map, hc]; rfl, glo c (List.mem_of_getElem? hc)⟩
  · obtain ⟨j, c, rfl, hc, rfl⟩ := cl hi
    obtain ⟨d, hd, rfl, rfl⟩ := get hy
    rw [glo d (List.mem_of_getElem? hd)] at hm
    cases hm
    have p := (one hc).2.2 y d hd
    unfold pairB at p
    simp only [Bool.and_eq_true, decide_eq_true_eq] at p
    exact p
  · obtain ⟨j, c, rfl, hc, rfl⟩ := cl hi
    exact (one hc).2.1
/-- every def is called with all its parameters, by place -/
def BindOk (d : Df) : Prop := ∀ (kV doc pm : Value) (an : Option Addr) (cdv ct : Value) (us : List Value), us.length = d.ps.length → bindArgs (PySem.W.fnOf d.name d.name (defArgs d.st) (defBody d.st) (defScope d.st) .none kV doc pm an cdv ct) ⟨us, []⟩ = pure (d.ps.zip us)
theorem rels_strs {W : Wd} {g : Gh} {H : Hp} : ∀ xs : List Str, RelDs W g H (xs.map D.str) (xs.map V.str)
  | [] => .nil
  | x :: xs => .cons (.str x) (rels_strs xs)
theorem law_facts {P : Program} {w : World} {K : PySem.W.Frag} {h : Heap} {mg : Str → Option Value} {gls : List (Str × Gc)} {defs : List Df} {cs : List Cs} {fuel li : Nat} {dl : Df} {x : Str} {fa : Addr}
    (chk : defs.all (chkDf (gls.map (·.1)) (defs.map fun d => (d.name, d.F.ar)) (clsOf cs)) = true) (okc : csOk cs = true) (bc : ∀ (i : Nat) (c : Cs), cs[i]? = some c → BindC i c) (bo : ∀ d ∈ defs, BindOk d) (hl : defs[li]? = some dl) (hp : dl.ps = [x]) (har : dl.F.ar = 1)
    (pure_ : ∀ ns : List Int, ns.length ≤ 63 → ∃ m', callF (gls.map fun p => p.2.d) (defs.map (·.F)) fuel li [.scr ns] ⟨[], 0⟩ = .ok (.bl true, .sh) m')
    (X : K.In h) (G : h.Ns mainGlobals mg) (hfa : mg dl.name = some (.ref fa)) (c0 : SaysX (factsOf gls defs cs) (defs.map dfD ++ cs.map csD) cs gls K) :
    ∃ (fd : FuncData) (sp : Sp), (∀ (s : Shared) (v : Value), BindsTo s fd ⟨[v], []⟩ [(x, v)]) ∧ (∀ (H : Hp) (a : Addr) (ns : List Int), ns.length ≤ 63 → Only H → SqL K H a (ns.map V.int) → sp [.ref a] H (fun v _ => v = .bl true) fun _ _ _ => False) ∧
      ∀ base : Heap, K.In base → base.Ns mainGlobals mg → FnOkG P w K mg base CXe (fuel + 4) fa fd [x] sp := by
  have c : He.SaysD (factsOf gls defs cs) (defs.map dfD ++ cs.map csD) K := congrArg (fun z : AlX => z.1) c0
  have cg : (exB K cs && gls.all (gcB K)) = true := congrArg (fun z : AlX => z.2) c0
  have ce : exB K cs = true := (Bool.and_eq_true_iff.mp cg).1
  let W : Wd := ⟨K, fun i => (defs[i]?).map fun d => He.ga K d.name, fun i => match i with | 0 => none | _ => (cs[i]?).map fun c => He.ga K c.name, fun _ => pwK, none⟩
  have glo : ∀ d ∈ defs, mg d.name = some (.ref (He.ga K d.name)) := fun d hd => He.glo_ok X G (c.facts (List.mem_append_left _ (List.mem_append_left _ (List.mem_append_left _ (List.mem_map_of_mem (f := fun d : Df => He.Fa.glo d.name) hd)))))
  have fun_ : ∀ d ∈ defs, ∃ fd, FunD K d.name d.name (defArgs d.st) (defBody d.st) (defScope d.st) [] [] (He.ga K d.name) fd := fun d hd => c.defs (d := dfD d) (List.mem_append_left _ (List.mem_map_of_mem hd))
  have gloC : ∀ d ∈ cs, mg d.name = some (.ref (He.ga K d.name)) := fun d hd => He.glo_ok X G (c.facts (List.mem_append_right _ (List.mem_cons_of_mem _ (List.mem_map_of_mem (f := fun d : Cs => He.Fa.glo d.name) hd))))
  have ve : mg "ValueError" = none := He.free_ok X G (c.facts (List.mem_append_right _ List.mem_cons_self))
  have funC : ∀ d ∈ cs, ∃ fd, FunD K "__init__" d.qual (defArgs d.ini) (defBody d.ini) (defScope d.ini) [.non] [] (He.ma K (He.ga K d.name) "__init__") fd := fun d hd => c.defs (d := csD d) (List.mem_append_right _ (List.mem_map_of_mem hd))
  have I : TbI P w K mg W (gls.map (·.1)) (gls.map fun p => p.2.d) defs (clsOf cs) := by
    refine ⟨rfl, fun base => ex_of X G okc bc gloC ve funC ce, rfl, fun y hy => He.free_ok X G (c.facts (List.mem_append_left _ (List.mem_append_left _ (List.mem_append_right _ (List.mem_map_of_mem hy))))), fun j y hj => ?_, fun i d hd => ?_, fun i a ha => ?_, fun d hd => List.all_eq_true.mp chk d hd⟩
    · rw [List.getElem?_map] at hj
      obtain ⟨p, hp, rfl⟩ := Option.map_eq_some_iff.mp hj
      have hf := c.facts (f := p.2.fa p.1) (List.mem_append_left _ (List.mem_append_right _ (List.mem_map_of_mem (f := fun p : Str × Gc => p.2.fa p.1) (List.mem_of_getElem? hp))))
      obtain ⟨y, q⟩ := p
      cases q with
      | int i =>
        obtain ⟨t, ht⟩ := He.int_ok X G hf
        refine ⟨.int i, _, ht, ⟨t, rfl⟩, fun d hd g H => ?_⟩
        rw [List.getElem?_map, hp] at hd
        cases hd
        exact .int i
      | str z =>
        obtain ⟨t, ht⟩ := He.str_ok X G hf
        refine ⟨.str z, _, ht, ⟨t, rfl⟩, fun d hd g H => ?_⟩
        rw [List.getElem?_map, hp] at hd
        cases hd
        exact .str z
      | tstr xs =>
        have hg := List.all_eq_true.mp (Bool.and_eq_true_iff.mp cg).2 _ (List.mem_of_getElem? hp)
        refine ⟨.ref (He.ga K y), _, He.glo_ok X G hf, rfl, fun d hd g H => ?_⟩
        rw [List.getElem?_map, hp] at hd
        cases hd
        exact .tup (gcB_ok hg H) (rels_strs xs)
    · obtain ⟨fd, F⟩ := fun_ d (List.mem_of_getElem? hd)
      exact ⟨_, fd, glo d (List.mem_of_getElem? hd), by show (defs[i]?).map _ = _; rw [hd]; rfl, F, F.bindsN (bo d (List.mem_of_getElem? hd))⟩
    · obtain ⟨d, hd, _⟩ := Option.map_eq_some_iff.mp (show (defs[i]?).map _ = some a from ha)
      exact ⟨d, hd⟩
  have hm := List.mem_of_getElem? hl
  obtain ⟨fd, F⟩ := fun_ dl hm
  have ea : fa = He.ga K dl.name := by
    have := hfa.symm.trans (glo dl hm)
    cases this; rfl
  subst ea
  refine ⟨fd, spR W dl.F.ar (callF (gls.map fun p => p.2.d) (defs.map (·.F)) fuel li), fun s v => ?_, fun H a ns hn hO hS => ?_, fun base _ _ => ?_⟩
  · have := F.bindsA (bo dl hm) s [v] (by rw [hp]; rfl)
    rw [hp] at this
    exact this
  · have hs : SqS K H a (ns.map V.int) := by
      rcases hS with (h | h) | h
      · rcases hO a with z | ⟨o, xs, z⟩ <;> rw [h] at z <;> cases z
      · exact .inl h
      · exact .inr h
    obtain ⟨m', e⟩ := pure_ ns hn
    refine ⟨fun _ => False, ⟨fun _ => False, []⟩, ⟨[], 0⟩, [.scr ns], ⟨rfl, List.nodup_nil, fun i o b h1 h2 => by simp at h1, fun b z => z.elim⟩, fun b z => z.elim, .cons (.scr hs) .nil, by rw [har]; rfl, ?_⟩
    rw [e]
    intro g' H' _ _ v hv
    have hv : RelD W g' H' (.bl true) v := hv
    cases hv; rfl
  · have := table_ok (base := base) I fuel li dl hl _ fd F
    rw [hp] at this
    exact fnOk_any this
end OD

set_option Elab.async false
set_option autoImplicit false
set_option linter.all false
set_option maxRecDepth 100000
set_option maxHeartbeats 4000000
/-! My own layer, part 15: what must hold so that a text gives a result. -/
namespace OD
open PySem

/-- what is wanted of an exception -/
abbrev XP : Type := Nat → List D → MS → Prop
/-- none is wanted -/
abbrev noE : XP := fun _ _ _ => False
/-- the result is there, and Q holds of it; or an exception, and X does -/
def wpx {α : Type} (X : XP) (r : Res α) (Q : α → MS → Prop) : Prop := match r with
  | .ok a m => Q a m
  | .exc c fs m => X c fs m
  | .bad => False
/-- the same, as a box -/
structure Wpx {α : Type} (X : XP) (r : Res α) (Q : α → MS → Prop) : Prop where
  h : wpx X r Q
abbrev XS : Type := Nat → List D → Sto → MS → Prop
abbrev noS : XS := fun _ _ _ _ => False
/-- a statement's result -/
def stX (Qn : Sto → MS → Prop) (Qr : D × Kd → MS → Prop) (Qx : XS) : Fl × Sto → MS → Prop := fun x m2 => match x.1 with
    | .nx => Qn x.2 m2
    | .rt d k => Qr (d, k) m2
    | .xc c fs => Qx c fs x.2 m2
abbrev stQ (Qn : Sto → MS → Prop) (Qr : D × Kd → MS → Prop) : Fl × Sto → MS → Prop := stX Qn Qr noS
/-- nothing was written -/
def sameM (m2 m : MS) : Prop := m2.w = m.w ∧ m2.objs.length = m.objs.length
def optP {α : Type} (o : Option α) (K : α → Prop) : Prop := match o with
  | some a => K a
  | none => False
def condP (b : Bool) (P P' : Prop) : Prop := match b with
  | true => P
  | false => P'
def toVP (x : D × Kd) (K : D → Prop) : Prop := match x.2 with
  | .bor => False
  | .sh => K x.1
  | .own => K x.1
def mulOk (i j : Int) : Prop := (-(2 ^ 64) < i ∧ i < 2 ^ 64) ∨ (-(2 ^ 64) < j ∧ j < 2 ^ 64)
def divOk (j : Int) : Prop := j ≠ 0 ∧ j.natAbs < 1073741824
def powOk (i j : Int) : Prop := 0 ≤ j ∧ j ≤ 1000000 ∧ i.natAbs < 2 ^ 64
def repOk (xs : List D) (k : Int) : Prop := xs ≠ [] ∧ 1 ≤ k ∧ k ≤ 1000 ∧ xs.length ≤ 1000
def binP (o : BO) (d e : D) (K : D × Kd → Prop) : Prop := match d, e with
  | .int i, .int j => match o with
    | .add => K (.int (i + j), .sh)
    | .sub => K (.int (i - j), .sh)
    | .mul => mulOk i j ∧ K (.int (i * j), .sh)
    | .fdiv => divOk j ∧ K (.int (i.fdiv j), .sh)
    | .mod => j ≠ 0 ∧ K (.int (i.fmod j), .sh)
    | .pow => powOk i j ∧ K (.int (i ^ j.toNat), .sh)
  | .lst xs, .lst ys => match o with
    | .add => xs.length + ys.length ≤ sizeLine ∧ K (.lst (xs ++ ys), .own)
    | _ => False
  | .tup xs, .tup ys => match o with
    | .add => xs.length + ys.length ≤ sizeLine ∧ K (.tup (xs ++ ys), .sh)
    | _ => False
  | .str x, .str y => match o with
    | .add => x.length + y.length ≤ sizeLine ∧ K (.str (x ++ y), .sh)
    | _ => False
  | .tup xs, .int k => match o with
    | .mul => repOk xs k ∧ K (.tup (List.replicate k.toNat xs).flatten, .sh)
    | _ => False
  | _, _ => False
def eqP (d e : D) (K : Bool → Prop) : Prop := match e with
  | .str y => ∃ b, eqD d (.str y) = some b ∧ K b
  | e => match d, e with
    | .int i, .int j => K (decide (i = j))
    | .bl i, .bl j => K (i == j)
    | d, e => ∃ b, eqD d e = some b ∧ K b
def ordP (o : CO) (d e : D) (K : Bool → Prop) : Prop := match d, e with
  | .int i, .int j => match o with
    | .lt => K (decide (i < j))
    | .le => K (decide (i ≤ j))
    | .gt => K (decide (j < i))
    | .ge => K (decide (j ≤ i))
    | _ => False
  | _, _ => False
def cmpP (o : CO) (d e : D) (K : Bool → Prop) : Prop := match o with
  | .eq => eqP d e K
  | .ne => eqP d e fun b => K (!b)
  | .inn => ∃ b, inD d e = some b ∧ K b
  | .nin => ∃ b, inD d e = some b ∧ K (!b)
  | .iss => isNon e = true ∧ K (isNon d)
  | .nis => isNon e = true ∧ K (!isNon d)
  | .lt => ordP .lt d e K
  | .le => ordP .le d e K
  | .gt => ordP .gt d e K
  | .ge => ordP .ge d e K
def atP (ds : List D) (k : Int) (K : D → Prop) : Prop := ∃ d, L2.atI ds k = some d ∧ K d
def idxP (d i : D) (m : MS) (K : D → Prop) : Prop := match i with
  | .int k => match d with
    | .str x => x.length ≤ sizeLine ∧ ∃ c, L2.atI x.cps.toList k = some c ∧ K (.str ⟨#[c]⟩)
    | .tup ds => atP ds k K
    | .lst ds => atP ds k K
    | .scr ns => atP (ns.map D.int) k K
    | .ref n => optP m.objs[n]? fun o => match o with
      | .lst ds => atP ds k K
    | _ => False
  | _ => False
def bltP (f : BF) (ds : List D) (m : MS) (Q : D × Kd → MS → Prop) : Prop := match f, ds with
  | .repr, [d] => ∃ x, shD d = some x ∧ Q (.str x, .sh) m
  | .len, [.str x] => x.length ≤ sizeLine ∧ Q (.int x.length, .sh) m
  | f, ds => optP (bltD f ds m) fun z => Q z m
def slcP (d : D) (l h : Option Int) (K : D × Kd → Prop) : Prop := match d with
  | .str z => z.length ≤ sizeLine ∧ K (.str (L2.cutS z l h), .sh)
  | d => optP (slcD d l h) K
def tgP (t : T) (d : D) (k : Kd) (S : Sto) (K : Sto → Prop) : Prop := optP (tgT t d k S) K

/-- what is walked -/
@[irreducible] def itvP (v : D) (m1 : MS) (Q : List D → MS → Prop) : Prop := match v with
    | .tup ds => Q ds m1
    | .lst ds => Q ds m1
    | .scr ns => Q (ns.map D.int) m1
    | .dct b ks => Q (ks.map (keyD b)) m1
    | .str x => x.cps.size ≤ sizeLine ∧ Q (x.cps.toList.map fun c => D.str ⟨#[c]⟩) m1
    | _ => False
section
variable {m : MS} {Q : List D → MS → Prop}
theorem itv_tup {ds : List D} (h : Q ds m) : itvP (.tup ds) m Q := by unfold itvP; exact h
theorem itv_lst {ds : List D} (h : Q ds m) : itvP (.lst ds) m Q := by unfold itvP; exact h
theorem itv_scr {ns : List Int} (h : Q (ns.map D.int) m) : itvP (.scr ns) m Q := by unfold itvP; exact h
theorem itv_dct {b : Bool} {ks : List (List Int)} (h : Q (ks.map (keyD b)) m) : itvP (.dct b ks) m Q := by unfold itvP; exact h
theorem itv_str {x : Str} (h : x.cps.size ≤ sizeLine ∧ Q (x.cps.toList.map fun c => D.str ⟨#[c]⟩) m) : itvP (.str x) m Q := by unfold itvP; exact h
end
section
variable (gl : List D) (cf : Nat → List D → MS → Res (D × Kd))
/-- an item's value -/
def elP (e c tg : T) (own : List Nat) (S : Sto) := elR gl cf e c tg own S
mutual
def wpE : T → Sto → MS → XP → (D × Kd → MS → Prop) → Prop
  | .non, _, m, X, Q => Q (.non, .sh) m
  | .tru, _, m, X, Q => Q (.bl true, .sh) m
  | .fls, _, m, X, Q => Q (.bl false, .sh) m
  | .int i, _, m, X, Q => Q (.int i, .sh) m
  | .str x, _, m, X, Q => Q (.str x, .sh) m
  | .var i, S, m, X, Q => match getS S i with
    | some (d, false) => Q (d, .sh) m
    | _ => False
  | .bvar i, S, m, X, Q => match getS S i with
    | some (.lst ds, true) => Q (.lst ds, .bor) m
    | _ => False
  | .glob j, _, m, X, Q => optP gl[j]? fun d => Q (d, .sh) m
  | .gfn i, _, m, X, Q => Q (.fn i, .sh) m
  | .bin o a b, S, m, X, Q => wpE a S m X fun x m1 => wpE b S m1 X fun y m2 => binP o x.1 y.1 fun z => Q z m2
  | .neg a, S, m, X, Q => wpE a S m X fun x m1 => match x.1 with
    | .int i => Q (.int (-i), .sh) m1
    | _ => False
  | .cmp o a b, S, m, X, Q => wpE a S m X fun x m1 => wpE b S m1 X fun y m2 => cmpP o x.1 y.1 fun c => Q (.bl c, .sh) m2
  | .chn o p a b c, S, m, X, Q => wpE a S m X fun x m1 => wpE b S m1 X fun y m2 => cmpP o x.1 y.1 fun k => condP k (wpE c S m2 X fun z m4 => cmpP p y.1 z.1 fun k2 => Q (.bl k2, .sh) m4) (Q (.bl false, .sh) m2)
  | .ban as, S, m, X, Q => wpAndV as S m X Q
  | .bor as, S, m, X, Q => wpOrV as S m X Q
  | .not a, S, m, X, Q => wpE a S m X fun x m1 => match x.1 with
    | .bl b => Q (.bl (!b), .sh) m1
    | _ => False
  | .ite c a b, S, m, X, Q => wpB c S m X fun k m1 => condP k (wpE a S m1 X Q) (wpE b S m1 X Q)
  | .tup as, S, m, X, Q => wpA as S m X fun ds m1 => ds.length ≤ sizeLine ∧ Q (.tup ds, .sh) m1
  | .lst as, S, m, X, Q => wpA as S m X fun ds m1 => ds.length ≤ sizeLine ∧ Q (.lst ds, .own) m1
  | .olst as, S, m, X, Q => wpA as S m X fun ds m1 => ds.length ≤ sizeLine ∧ Q (.ref m1.objs.length, .sh) ⟨m1.objs ++ [.lst ds], m1.w⟩
  | .idx a i, S, m, X, Q => wpE a S m X fun x m1 => wpE i S m1 X fun y m2 => idxP x.1 y.1 m2 fun d => Q (d, .sh) m2
  | .slc a lo hi, S, m, X, Q => wpE a S m X fun x m1 => wpP lo S m1 X fun l m2 => wpP hi S m2 X fun h m3 => slcP x.1 l h fun z => Q z m3
  | .call f as, S, m, X, Q => wpA as S m X fun ds m1 => Wpx X (cf f ds m1) Q
  | .callv i as, S, m, X, Q => match getS S i with
    | some (.fn f, false) => wpA as S m X fun ds m1 => Wpx X (cf f ds m1) Q
    | _ => False
  | .blt f as, S, m, X, Q => wpW as S m X fun ds m1 => bltP f ds m1 Q
  | .isi a t, S, m, X, Q => wpE a S m X fun x m1 => optP (isiD t x.1 m1) fun b => Q (.bl b, .sh) m1
  | .lc e c tg it own, S, m, X, Q => wpI it S m noE fun ds m1 => Wpx noE (mapR (elR gl cf e c tg own S) ds m1) fun ys m2 => Q (.lst ys, .own) m2
  | .lc2 e c tg it tg2 it2 own own2, S, m, X, Q => wpI it S m noE fun ds m1 => Wpx noE (map2R (el2R gl cf e c tg tg2 it2 own own2 S) ds m1) fun ys m2 => ys.length ≤ sizeLine ∧ Q (.lst ys, .own) m2
  | .sd2 e tg it tg2 it2 own own2, S, m, X, Q => wpI it S m noE fun ds m1 => Wpx noE (map2R (ke2R gl cf e tg tg2 it2 own own2 S) ds m1) fun ys m2 => optP (sdD ys) fun z => Q z m2
  | .lc3 e tg it tg2 it2 tg3 it3 own own2 own3, S, m, X, Q => wpI it S m noE fun ds m1 => Wpx noE (map2R (l3R gl cf e tg tg2 it2 tg3 it3 own own2 own3 S) ds m1) fun ys m2 => ys.length ≤ sizeLine ∧ Q (.lst ys, .own) m2
  | .jn s a, S, m, X, Q => wpE a S m X fun x m1 => ∃ d, joinD s x.1 = some d ∧ Q (d, .sh) m1
  | .xat j a, S, m, X, Q => wpE a S m X fun x m1 => match x.1 with
    | .exv _ fs => optP fs[j]? fun d => Q (d, .sh) m1
    | _ => False
  | .xis y a, S, m, X, Q => wpE a S m X fun x m1 => match x.1 with
    | .exv c _ => Q (.bl (subX c y), .sh) m1
    | _ => False
  | _, _, _, _, _ => False
termination_by structural t => t
def wpP : T → Sto → MS → XP → (Option Int → MS → Prop) → Prop
  | .non, _, m, X, Q => Q none m
  | .prt a, S, m, X, Q => wpE a S m X fun x m1 => match x.1 with
    | .int i => Q (some i) m1
    | _ => False
  | _, _, _, _, _ => False
termination_by structural t => t
def wpA : T → Sto → MS → XP → (List D → MS → Prop) → Prop
  | .nil, _, m, X, Q => Q [] m
  | .cons a as, S, m, X, Q => wpE a S m X fun x m1 => toVP x fun v => wpA as S m1 X fun vs m3 => Q (v :: vs) m3
  | _, _, _, _, _ => False
termination_by structural t => t
def wpW : T → Sto → MS → XP → (List D → MS → Prop) → Prop
  | .nil, _, m, X, Q => Q [] m
  | .cons a as, S, m, X, Q => wpE a S m X fun x m1 => wpW as S m1 X fun vs m3 => Q (x.1 :: vs) m3
  | _, _, _, _, _ => False
termination_by structural t => t
def wpAndV : T → Sto → MS → XP → (D × Kd → MS → Prop) → Prop
  | .one a, S, m, X, Q => wpE a S m X Q
  | .cons a as, S, m, X, Q => wpE a S m X fun x m1 => match x.1 with
    | .bl b => condP b (wpAndV as S m1 X Q) (Q (.bl false, .sh) m1)
    | _ => False
  | _, _, _, _, _ => False
termination_by structural t => t
def wpOrV : T → Sto → MS → XP → (D × Kd → MS → Prop) → Prop
  | .one a, S, m, X, Q => wpE a S m X Q
  | .cons a as, S, m, X, Q => wpE a S m X fun x m1 => match x.1 with
    | .bl b => condP b (Q (.bl true, .sh) m1) (wpOrV as S m1 X Q)
    | _ => False
  | _, _, _, _, _ => False
termination_by structural t => t
def wpB : T → Sto → MS → XP → (Bool → MS → Prop) → Prop
  | .ban as, S, m, X, Q => wpAndB as S m X Q
  | .bor as, S, m, X, Q => wpOrB as S m X Q
  | .not a, S, m, X, Q => wpB a S m X fun b m1 => Q (!b) m1
  | .cmp o a b, S, m, X, Q => wpE a S m X fun x m1 => wpE b S m1 X fun y m2 => cmpP o x.1 y.1 fun c => Q c m2
  | .chn o p a b c, S, m, X, Q => wpE a S m X fun x m1 => wpE b S m1 X fun y m2 => cmpP o x.1 y.1 fun k => condP k (wpE c S m2 X fun z m4 => cmpP p y.1 z.1 fun k2 => Q k2 m4) (Q false m2)
  | .tst a, S, m, X, Q => wpE a S m X fun x m1 => optP (truD x.1 m1) fun b => Q b m1
  | .lnd i c, S, m, X, Q => match getS S i with
    | some (.lst ds, true) => wpB c ((S.map strS).set i (some (.lst ds, false))) m noE fun b m2 => sameM m2 m ∧ Q b m
    | _ => False
  | .tru, _, m, X, Q => Q true m
  | _, _, _, _, _ => False
termination_by structural t => t
def wpAndB : T → Sto → MS → XP → (Bool → MS → Prop) → Prop
  | .one a, S, m, X, Q => wpB a S m X Q
  | .cons a as, S, m, X, Q => wpB a S m X fun b m1 => condP b (wpAndB as S m1 X Q) (Q false m1)
  | _, _, _, _, _ => False
termination_by structural t => t
def wpOrB : T → Sto → MS → XP → (Bool → MS → Prop) → Prop
  | .one a, S, m, X, Q => wpB a S m X Q
  | .cons a as, S, m, X, Q => wpB a S m X fun b m1 => condP b (Q true m1) (wpOrB as S m1 X Q)
  | _, _, _, _, _ => False
termination_by structural t => t
def wpI : T → Sto → MS → XP → (List D → MS → Prop) → Prop
  | .itv a, S, m, X, Q => wpE a S m X fun x m1 => toVP x fun v => itvP v m1 Q
  | .rg1 a, S, m, X, Q => wpE a S m X fun x m1 => match x.1 with
    | .int j => (inR j ∧ j.toNat ≤ sizeLine) ∧ Q (rangeL 0 j) m1
    | _ => False
  | .rg2 a b, S, m, X, Q => wpE a S m X fun x m1 => wpE b S m1 X fun y m2 => match x.1, y.1 with
    | .int i, .int j => (inR i ∧ inR j ∧ (j - i).toNat ≤ sizeLine) ∧ Q (rangeL i j) m2
    | _, _ => False
  | .rg3 a b c, S, m, X, Q => wpE a S m X fun x m1 => wpE b S m1 X fun y m2 => wpE c S m2 X fun z m3 => match x.1, y.1, z.1 with
    | .int i, .int j, .int c => (L2.RgC i j c (Builtin.Range.rangeSize i j c).toNat ∧ (Builtin.Range.rangeSize i j c).toNat ≤ sizeLine) ∧ Q ((List.range (Builtin.Range.rangeSize i j c).toNat).map fun k => D.int (i + (k : Nat) * c)) m3
    | _, _, _ => False
  | .enu a, S, m, X, Q => wpE a S m X fun x m1 => toVP x fun v => match v with
    | .lst ds => Q (enumL 0 ds) m1
    | .tup ds => Q (enumL 0 ds) m1
    | _ => False
  | _, _, _, _, _ => False
termination_by structural t => t
end
/-- a turn of a loop -/
def turnR (tg body : T) : D → Sto → MS → Res (Fl × Sto) := fun d S m => bindS S (optR (tgT tg d .sh S) m) fun S1 m1 => evS gl cf body S1 m1
/-- out of an except clause -/
def exitQ (m : MS) (Qr : D × Kd → MS → Prop) : D × Kd → MS → Prop := fun x m2 => match x.2 with
  | .bor => False
  | .sh => condP (cln x.1) (sameM m2 m ∧ Qr (x.1, .sh) m) False
  | .own => condP (cln x.1) (sameM m2 m ∧ Qr (x.1, .own) m) False
mutual
/-- Qn: what follows; Qr: what is returned; Qx: what is raised -/
def wpS : T → Sto → MS → (Sto → MS → Prop) → (D × Kd → MS → Prop) → XS → Prop
  | .skip, S, m, Qn, _, Qx => Qn S m
  | .seq a b, S, m, Qn, Qr, Qx => wpS a S m (fun S1 m1 => wpS b S1 m1 Qn Qr Qx) Qr Qx
  | .asg tg e, S, m, Qn, _, Qx => wpE gl cf e S m (fun c fs m => Qx c fs S m) fun x m1 => optP (tgT tg x.1 x.2 S) fun S1 => Qn S1 m1
  | .asgc i e, S, m, Qn, _, Qx => wpE gl cf e S m (fun c fs m => Qx c fs S m) fun x m1 => optP (tgT (.tn i) x.1 x.2 S) fun S1 => Qn S1 m1
  | .par i j a b, S, m, Qn, _, Qx => wpE gl cf a S m (fun c fs m => Qx c fs S m) fun x m1 => toVP x fun v => wpE gl cf b S m1 (fun c fs m => Qx c fs S m) fun y m2 => toVP y fun u => Qn ((S.set i (some (v, false))).set j (some (u, false))) m2
  | .ret e, S, m, _, Qr, Qx => wpE gl cf e S m (fun c fs m => Qx c fs S m) fun x m1 => match x.2 with
    | .bor => False
    | .sh => Qr (x.1, .sh) m1
    | .own => Qr (x.1, .own) m1
  | .retm i, S, m, _, Qr, Qx => match getS S i with
    | some (.lst ds, true) => Qr (.lst ds, .own) m
    | _ => False
  | .retn, S, m, _, Qr, Qx => Qr (.non, .sh) m
  | .exp e, S, m, Qn, _, Qx => wpE gl cf e S m (fun c fs m => Qx c fs S m) fun _ m1 => Qn S m1
  | .app i e, S, m, Qn, _, Qx => match getS S i with
    | some (.lst ds, true) => wpE gl cf e S m (fun c fs m => Qx c fs S m) fun x m1 => toVP x fun v => ds.length < sizeLine ∧ Qn (S.set i (some (.lst (ds ++ [v]), true))) m1
    | _ => False
  | .ext i e, S, m, Qn, _, Qx => match getS S i with
    | some (.lst ds, true) => wpE gl cf e S m (fun c fs m => Qx c fs S m) fun x m1 => optP (extD x.1) fun es => ds.length + es.length ≤ sizeLine ∧ Qn (S.set i (some (.lst (ds ++ es), true))) m1
    | _ => False
  | .opn i, S, m, Qn, _, Qx => match getS S i with
    | some (.lst ds, true) => Qn (S.set i (some (.ref m.objs.length, false))) ⟨m.objs ++ [.lst ds], m.w⟩
    | _ => False
  | .oap i e, S, m, Qn, _, Qx => match getS S i with
    | some (.ref n, false) => wpE gl cf e S m (fun c fs m => Qx c fs S m) fun x m1 => toVP x fun v => optP m1.objs[n]? fun ob => match ob with
      | .lst ds => ds.length < sizeLine ∧ Qn S (setO m1 n (.lst (ds ++ [v])))
    | _ => False
  | .inz i a, S, m, Qn, _, Qx => match getS S i with
    | some (.lst ds, true) => wpA gl cf a S m (fun c fs m => Qx c fs S m) fun vs m1 => match vs with
      | [.int j, v] => (ds.length < sizeLine ∧ 0 ≤ j ∧ j < 2 ^ 63) ∧ Qn (S.set i (some (.lst (ds.take j.toNat ++ [v] ++ ds.drop j.toNat), true))) m1
      | _ => False
    | _ => False
  | .dnw i b, S, m, Qn, _, Qx => Qn (S.set i (some (.dct b [], true))) m
  | .dst i e, S, m, Qn, _, Qx => match getS S i with
    | some (.dct false ks, true) => wpE gl cf e S m (fun c fs m => Qx c fs S m) fun x m1 => optP (keyL false x.1) fun k => ks.length < sizeLine ∧ Qn (S.set i (some (.dct false (addK false ks k), true))) m1
    | _ => False
  | .dtt i a, S, m, Qn, _, Qx => match getS S i with
    | some (.dct true ks, true) => wpA gl cf a S m (fun c fs m => Qx c fs S m) fun ds m1 => optP (intsD ds) fun k => (ks.length < sizeLine ∧ ds.length ≤ sizeLine) ∧ Qn (S.set i (some (.dct true (addK true ks k), true))) m1
    | _ => False
  | .seti i k e, S, m, Qn, _, Qx => wpE gl cf e S m (fun c fs m => Qx c fs S m) fun x m1 => toVP x fun v => match getS S i with
    | some (.lst ds, true) => wpE gl cf k S m1 (fun c fs m => Qx c fs S m) fun y m3 => match y.1 with
      | .int j => ∃ p, L2.ixN ds.length j = some p ∧ Qn (S.set i (some (.lst (ds.set p v), true))) m3
      | _ => False
    | _ => False
  | .oset o k e, S, m, Qn, _, Qx => wpE gl cf e S m (fun c fs m => Qx c fs S m) fun x m1 => toVP x fun v => wpE gl cf o S m1 (fun c fs m => Qx c fs S m) fun r m3 => wpE gl cf k S m3 (fun c fs m => Qx c fs S m) fun y m4 => match r.1, y.1 with
    | .ref n, .int j => optP m4.objs[n]? fun ob => match ob with
      | .lst ds => ∃ p, L2.ixN ds.length j = some p ∧ Qn S (setO m4 n (.lst (ds.set p v)))
    | _, _ => False
  | .iff c a b, S, m, Qn, Qr, Qx => wpB gl cf c S m (fun c fs m => Qx c fs S m) fun k m1 => condP k (wpS a S m1 Qn Qr Qx) (wpS b S m1 Qn Qr Qx)
  | .for_ tg it body, S, m, Qn, Qr, Qx => wpI gl cf it S m (fun c fs m => Qx c fs S m) fun ds m1 => Wpx noE (loopR (turnR gl cf tg body) ds S m1) (stX Qn Qr Qx)
  | .shr i, S, m, Qn, _, Qx => match getS S i with
    | some (d, _) => Qn (S.set i (some (d, false))) m
    | none => False
  | .rai c w a, S, m, _, _, Qx => wpE gl cf a S m (fun c fs m => Qx c fs S m) fun x m1 => toVP x fun v => Qx c [v, .str w] S m1
  | .tryy a b, S, m, Qn, Qr, Qx => wpS a S m Qn Qr fun c fs S1 m1 => wpH b c fs S1 m1 Qr Qx
  | _, _, _, _, _, _ => False
termination_by structural t => t
/-- except clauses -/
def wpH : T → Nat → List D → Sto → MS → (D × Kd → MS → Prop) → XS → Prop
  | .nil, c, fs, S, m, _, Qx => Qx c fs S m
  | .hnd y i a b, c, fs, S, m, Qr, Qx => condP (subX c y) (wpS a ((S.map strS).set i (some (.exv c fs, false))) m (fun _ _ => False) (exitQ m Qr) noS) (wpH b c fs S m Qr Qx)
  | .hnb y a b, c, fs, S, m, Qr, Qx => condP (subX c y) (wpS a (S.map strS) m (fun _ _ => False) (exitQ m Qr) noS) (wpH b c fs S m Qr Qx)
  | _, _, _, _, _, _, _ => False
termination_by structural t => t
end
end
end OD

set_option Elab.async false
set_option autoImplicit false
set_option linter.all false
set_option maxRecDepth 100000
set_option maxHeartbeats 8000000
/-! My own layer, part 16: .. and it does. Written by gen_q.py. -/
namespace OD
open PySem
section
variable {α β : Type} {r r' : Res α} {Q Q' : α → MS → Prop} {m : MS} {X X' : XP}
theorem wp_bind {f : α → MS → Res β} {Q : β → MS → Prop} : wpx X (bindR r f) Q = wpx X r fun a m => wpx X (f a m) Q := by
  cases r <;> rfl
theorem wp_mono (h : wpx X r Q) (f : ∀ a m, Q a m → Q' a m) : wpx X r Q' := by
  cases r with
  | ok a m => exact f a m h
  | exc c fs m => exact h
  | bad => exact h
/-- where no exception comes -/
theorem wk (h : wpx noE r Q) : wpx X r Q := by
  cases r with
  | ok a m => exact h
  | exc c fs m => exact h.elim
  | bad => exact h
theorem wp_monoX (h : wpx X r Q) (f : ∀ a m, Q a m → Q' a m) (g : ∀ c fs m, X c fs m → X' c fs m) : wpx X' r Q' := by
  cases r with
  | ok a m => exact f a m h
  | exc c fs m => exact g c fs m h
  | bad => exact h
theorem wp_nox {Q : α → MS → Prop} (h : wpx noE r Q) : wpx X (noX r) Q := by
  cases r with
  | ok a m => exact h
  | exc c fs m => exact h.elim
  | bad => exact h
theorem wp_need {b : Prop} [Decidable b] {f : Unit → Res α} (h1 : b) (h2 : wpx X (f ()) Q) : wpx X (needR b f) Q := by
  unfold needR
  rw [if_pos h1]; exact h2
theorem wp_opt {o : Option α} (h : optP o fun a => Q a m) : wpx X (optR o m) Q := by
  cases o with
  | none => exact h.elim
  | some a => exact h
theorem wp_toV {x : D × Kd} {Q : D → MS → Prop} {K : D → Prop} (h : toVP x K) (f : K x.1 → Q x.1 m) : wpx X (toV x m) Q := by
  obtain ⟨d, k⟩ := x
  cases k with
  | sh => exact f h
  | own => exact f h
  | bor => exact h.elim
theorem wp_ex (h : wpx noE r Q) : ∃ a m', r = .ok a m' ∧ Q a m' := by
  cases r with
  | ok a m => exact ⟨a, m, rfl, h⟩
  | exc c fs m => exact h.elim
  | bad => exact h.elim
theorem wp_of {a : α} {m' : MS} (h : r = .ok a m') (q : Q a m') : wpx X r Q := by rw [h]; exact q
theorem wp_bindS {S : Sto} {f : α → MS → Res (Fl × Sto)} {Qn : Sto → MS → Prop} {Qr : D × Kd → MS → Prop} {Qx : XS} (h : wpx (fun c fs m => Qx c fs S m) r fun a m => wpx noE (f a m) (stX Qn Qr Qx)) : wpx noE (bindS S r f) (stX Qn Qr Qx) := by
  cases r with
  | ok a m => exact h
  | exc c fs m => exact h
  | bad => exact h
theorem wp_then {r : Res (Fl × Sto)} {f : Sto → MS → Res (Fl × Sto)} {Qn : Sto → MS → Prop} {Qr : D × Kd → MS → Prop} {Qx : XS} (h : wpx noE r (stX (fun S m => wpx noE (f S m) (stX Qn Qr Qx)) Qr Qx)) : wpx noE (thenS r f) (stX Qn Qr Qx) := by
  match r, h with
  | .ok (.nx, S) m, h => exact h
  | .ok (.rt d k, S) m, h => exact h
  | .ok (.xc c fs, S) m, h => exact h
end
theorem eqP_ok {d e : D} {K : Bool → Prop} (h : eqP d e K) : ∃ b, eqD d e = some b ∧ K b := by
  unfold eqP at h
  split at h
  · exact h
  · split at h
    · exact ⟨_, by simp [eqD, okD, D.py, PyData.eqv]; rfl, h⟩
    · exact ⟨_, by simp [eqD, okD, D.py, PyData.eqv], h⟩
    · exact h
theorem binP_ok {o : BO} {d e : D} {K : D × Kd → Prop} (h : binP o d e K) : ∃ z, binD o d e = some z ∧ K z := by
  unfold binP at h
  split at h
  · rename_i i j
    cases o with
    | add => exact ⟨_, rfl, h⟩
    | sub => exact ⟨_, rfl, h⟩
    | mul => exact ⟨_, by simp only [binD, binI, if_pos (show _ ∨ _ from h.1)]; rfl, h.2⟩
    | fdiv => exact ⟨_, by simp only [binD, binI, if_pos (show _ ∧ _ from h.1)]; rfl, h.2⟩
    | mod => exact ⟨_, by simp only [binD, binI, if_pos h.1]; rfl, h.2⟩
    | pow => exact ⟨_, by simp only [binD, binI, if_pos (show _ ∧ _ ∧ _ from h.1)]; rfl, h.2⟩
  · cases o <;> first | exact h.elim | exact ⟨_, by simp only [binD, if_pos h.1], h.2⟩
  · cases o <;> first | exact h.elim | exact ⟨_, by simp only [binD, if_pos h.1], h.2⟩
  · cases o <;> first | exact h.elim | exact ⟨_, by simp only [binD, if_pos h.1], h.2⟩
  · cases o <;> first | exact h.elim | exact ⟨_, by simp only [binD, if_pos (show _ ∧ _ ∧ _ ∧ _ from h.1)], h.2⟩
  · exact h.elim
theorem ordP_ok {o : CO} {d e : D} {K : Bool → Prop} (h : ordP o d e K) : ∃ b, cmpN o d e = some b ∧ K b := by
  unfold ordP at h
  split at h
  · cases o <;> first | exact h.elim | exact ⟨_, rfl, h⟩
  · exact h.elim
theorem cmpP_ok {o : CO} {d e : D} {K : Bool → Prop} (h : cmpP o d e K) : ∃ b, cmpD o d e = some b ∧ K b := by
  cases o with
  | eq => exact eqP_ok h
  | ne =>
    obtain ⟨b, h1, h2⟩ := eqP_ok (show eqP d e fun b => K (!b) from h)
    exact ⟨!b, by show (eqD d e).map not = _; rw [h1]; rfl, h2⟩
  | inn => exact h
  | nin =>
    obtain ⟨b, h1, h2⟩ := h
    exact ⟨!b, by show (inD d e).map not = _; rw [h1]; rfl, h2⟩
  | iss => exact ⟨_, by simp only [cmpD, if_pos h.1], h.2⟩
  | nis => exact ⟨_, by simp only [cmpD, if_pos h.1], h.2⟩
  | lt => exact ordP_ok h
  | le => exact ordP_ok h
  | gt => exact ordP_ok h
  | ge => exact ordP_ok h
theorem bltP_ok {f : BF} {ds : List D} {m : MS} {Q : D × Kd → MS → Prop} (h : bltP f ds m Q) : optP (bltD f ds m) fun z => Q z m := by
  unfold bltP at h
  split at h
  · obtain ⟨x, e, q⟩ := h
    show optP ((shD _).map _) _
    rw [e]; exact q
  · rename_i x
    have e : bltD .len [.str x] m = some (.int x.length, .sh) := by
      simp only [bltD, lenD, if_pos h.1, Option.map]
      rfl
    rw [e]; exact h.2
  · exact h
theorem slcP_ok {d : D} {l u : Option Int} {K : D × Kd → Prop} (h : slcP d l u K) : optP (slcD d l u) K := by
  unfold slcP at h
  split at h
  · rename_i z
    have e : slcD (.str z) l u = some (.str (L2.cutS z l u), Kd.sh) := by
      show (if z.length ≤ sizeLine then some (D.str (L2.cutS z l u), Kd.sh) else none) = _
      rw [if_pos h.1]
    rw [e]; exact h.2
  · exact h
theorem idxP_ok {d i : D} {m : MS} {K : D → Prop} (h : idxP d i m K) : ∃ z, idxD d i m = some z ∧ K z := by
  unfold idxP at h
  split at h
  · rename_i k
    split at h
    · obtain ⟨h1, c, h2, h3⟩ := h
      exact ⟨_, by simp only [idxD, if_pos h1, h2]; rfl, h3⟩
    · exact h
    · exact h
    · exact h
    · rename_i n
      cases q : m.objs[n]? with
      | none => rw [q] at h; exact h.elim
      | some o =>
        rw [q] at h
        cases o with
        | lst ds =>
          obtain ⟨z, h1, h2⟩ := (show atP ds k K from h)
          exact ⟨z, by simp only [idxD, itemsD, q]; exact h1, h2⟩
    · exact h.elim
  · exact h.elim
section
variable (gl : List D) (cf : Nat → List D → MS → Res (D × Kd))
structure WpE (t : T) : Prop where
  e : ∀ {S : Sto} {m : MS} {X : XP} {Q : D × Kd → MS → Prop}, wpE gl cf t S m X Q → wpx X (evE gl cf t S m) Q
  p : ∀ {S : Sto} {m : MS} {X : XP} {Q : Option Int → MS → Prop}, wpP gl cf t S m X Q → wpx X (evP gl cf t S m) Q
  a : ∀ {S : Sto} {m : MS} {X : XP} {Q : List D → MS → Prop}, wpA gl cf t S m X Q → wpx X (evA gl cf t S m) Q
  w : ∀ {S : Sto} {m : MS} {X : XP} {Q : List D → MS → Prop}, wpW gl cf t S m X Q → wpx X (evW gl cf t S m) Q
  av : ∀ {S : Sto} {m : MS} {X : XP} {Q : D × Kd → MS → Prop}, wpAndV gl cf t S m X Q → wpx X (evAndV gl cf t S m) Q
  ov : ∀ {S : Sto} {m : MS} {X : XP} {Q : D × Kd → MS → Prop}, wpOrV gl cf t S m X Q → wpx X (evOrV gl cf t S m) Q
  b : ∀ {S : Sto} {m : MS} {X : XP} {Q : Bool → MS → Prop}, wpB gl cf t S m X Q → wpx X (evB gl cf t S m) Q
  ab : ∀ {S : Sto} {m : MS} {X : XP} {Q : Bool → MS → Prop}, wpAndB gl cf t S m X Q → wpx X (evAndB gl cf t S m) Q
  ob : ∀ {S : Sto} {m : MS} {X : XP} {Q : Bool → MS → Prop}, wpOrB gl cf t S m X Q → wpx X (evOrB gl cf t S m) Q
  i : ∀ {S : Sto} {m : MS} {X : XP} {Q : List D → MS → Prop}, wpI gl cf t S m X Q → wpx X (evI gl cf t S m) Q
theorem wpe_non   : WpE gl cf (.non ) where
  e := by
    intro S m X Q h
    unfold wpE at h
    simp only [evE]
    exact h
  p := by
    intro S m X Q h
    unfold wpP at h
    simp only [evP]
    exact h
  a := by
    intro S m X Q h
    unfold wpA at h
    exact h.elim
  w := by
    intro S m X Q h
    unfold wpW at h
    exact h.elim
  av := by
    intro S m X Q h
    unfold wpAndV at h
    exact h.elim
  ov := by
    intro S m X Q h
    unfold wpOrV at h
    exact h.elim
  b := by
    intro S m X Q h
    unfold wpB at h
    exact h.elim
  ab := by
    intro S m X Q h
    unfold wpAndB at h
    exact h.elim
  ob := by
    intro S m X Q h
    unfold wpOrB at h
    exact h.elim
  i := by
    intro S m X Q h
    unfold wpI at h
    exact h.elim
theorem wpe_tru   : WpE gl cf (.tru ) where
  e := by
    intro S m X Q h
    unfold wpE at h
    simp only [evE]
    exact h
  p := by
    intro S m X Q h
    unfold wpP at h
    exact h.elim
  a := by
    intro S m X Q h
    unfold wpA at h
    exact h.elim
  w := by
    intro S m X Q h
    unfold wpW at h
    exact h.elim
  av := by
    intro S m X Q h
    unfold wpAndV at h
    exact h.elim
  ov := by
    intro S m X Q h
    unfold wpOrV at h
    exact h.elim
  b := by
    intro S m X Q h
    unfold wpB at h
    simp only [evB]
    exact h
  ab := by
    intro S m X Q h
    unfold wpAndB at h
    exact h.elim
  ob := by
    intro S m X Q h
    unfold wpOrB at h
    exact h.elim
  i := by
    intro S m X Q h
    unfold wpI at h
    exact h.elim
theorem wpe_fls   : WpE gl cf (.fls ) where
  e := by
    intro S m X Q h
    unfold wpE at h
    simp only [evE]
    exact h
  p := by
    intro S m X Q h
    unfold wpP at h
    exact h.elim
  a := by
    intro S m X Q h
    unfold wpA at h
    exact h.elim
  w := by
    intro S m X Q h
    unfold wpW at h
    exact h.elim
  av := by
    intro S m X Q h
    unfold wpAndV at h
    exact h.elim
  ov := by
    intro S m X Q h
    unfold wpOrV at h
    exact h.elim
  b := by
    intro S m X Q h
    unfold wpB at h
    exact h.elim
  ab := by
    intro S m X Q h
    unfold wpAndB at h
    exact h.elim
  ob := by
    intro S m X Q h
    unfold wpOrB at h
    exact h.elim
  i := by
    intro S m X Q h
    unfold wpI at h
    exact h.elim
theorem wpe_int {i : Int}  : WpE gl cf (.int i) where
  e := by
    intro S m X Q h
    unfold wpE at h
    simp only [evE]
    exact h
  p := by
    intro S m X Q h
    unfold wpP at h
    exact h.elim
  a := by
    intro S m X Q h
    unfold wpA at h
    exact h.elim
  w := by
    intro S m X Q h
    unfold wpW at h
    exact h.elim
  av := by
    intro S m X Q h
    unfold wpAndV at h
    exact h.elim
  ov := by
    intro S m X Q h
    unfold wpOrV at h
    exact h.elim
  b := by
    intro S m X Q h
    unfold wpB at h
    exact h.elim
  ab := by
    intro S m X Q h
    unfold wpAndB at h
    exact h.elim
  ob := by
    intro S m X Q h
    unfold wpOrB at h
    exact h.elim
  i := by
    intro S m X Q h
    unfold wpI at h
    exact h.elim
theorem wpe_str {x : Str}  : WpE gl cf (.str x) where
  e := by
    intro S m X Q h
    unfold wpE at h
    simp only [evE]
    exact h
  p := by
    intro S m X Q h
    unfold wpP at h
    exact h.elim
  a := by
    intro S m X Q h
    unfold wpA at h
    exact h.elim
  w := by
    intro S m X Q h
    unfold wpW at h
    exact h.elim
  av := by
    intro S m X Q h
    unfold wpAndV at h
    exact h.elim
  ov := by
    intro S m X Q h
    unfold wpOrV at h
    exact h.elim
  b := by
    intro S m X Q h
    unfold wpB at h
    exact h.elim
  ab := by
    intro S m X Q h
    unfold wpAndB at h
    exact h.elim
  ob := by
    intro S m X Q h
    unfold wpOrB at h
    exact h.elim
  i := by
    intro S m X Q h
    unfold wpI at h
    exact h.elim
theorem wpe_var {i : Nat}  : WpE gl cf (.var i) where
  e := by
    intro S m X Q h
    unfold wpE at h
    simp only [evE]
    split at h
    · rename_i d hd
      (try rw [hd]); exact h
    · exact h.elim
  p := by
    intro S m X Q h
    unfold wpP at h
    exact h.elim
  a := by
    intro S m X Q h
    unfold wpA at h
    exact h.elim
  w := by
    intro S m X Q h
    unfold wpW at h
    exact h.elim
  av := by
    intro S m X Q h
    unfold wpAndV at h
    exact h.elim
  ov := by
    intro S m X Q h
    unfold wpOrV at h
    exact h.elim
  b := by
    intro S m X Q h
    unfold wpB at h
    exact h.elim
  ab := by
    intro S m X Q h
    unfold wpAndB at h
    exact h.elim
  ob := by
    intro S m X Q h
    unfold wpOrB at h
    exact h.elim
  i := by
    intro S m X Q h
    unfold wpI at h
    exact h.elim
theorem wpe_bvar {i : Nat}  : WpE gl cf (.bvar i) where
  e := by
    intro S m X Q h
    unfold wpE at h
    simp only [evE]
    split at h
    · rename_i d hd
      (try rw [hd]); exact h
    · exact h.elim
  p := by
    intro S m X Q h
    unfold wpP at h
    exact h.elim
  a := by
    intro S m X Q h
    unfold wpA at h
    exact h.elim
  w := by
    intro S m X Q h
    unfold wpW at h
    exact h.elim
  av := by
    intro S m X Q h
    unfold wpAndV at h
    exact h.elim
  ov := by
    intro S m X Q h
    unfold wpOrV at h
    exact h.elim
  b := by
    intro S m X Q h
    unfold wpB at h
    exact h.elim
  ab := by
    intro S m X Q h
    unfold wpAndB at h
    exact h.elim
  ob := by
    intro S m X Q h
    unfold wpOrB at h
    exact h.elim
  i := by
    intro S m X Q h
    unfold wpI at h
    exact h.elim
theorem wpe_glob {j : Nat}  : WpE gl cf (.glob j) where
  e := by
    intro S m X Q h
    unfold wpE at h
    simp only [evE]
    cases q : gl[j]? with
    | none => rw [q] at h; exact h.elim
    | some d => rw [q] at h; exact h
  p := by
    intro S m X Q h
    unfold wpP at h
    exact h.elim
  a := by
    intro S m X Q h
    unfold wpA at h
    exact h.elim
  w := by
    intro S m X Q h
    unfold wpW at h
    exact h.elim
  av := by
    intro S m X Q h
    unfold wpAndV at h
    exact h.elim
  ov := by
    intro S m X Q h
    unfold wpOrV at h
    exact h.elim
  b := by
    intro S m X Q h
    unfold wpB at h
    exact h.elim
  ab := by
    intro S m X Q h
    unfold wpAndB at h
    exact h.elim
  ob := by
    intro S m X Q h
    unfold wpOrB at h
    exact h.elim
  i := by
    intro S m X Q h
    unfold wpI at h
    exact h.elim
theorem wpe_gfn {i : Nat}  : WpE gl cf (.gfn i) where
  e := by
    intro S m X Q h
    unfold wpE at h
    simp only [evE]
    exact h
  p := by
    intro S m X Q h
    unfold wpP at h
    exact h.elim
  a := by
    intro S m X Q h
    unfold wpA at h
    exact h.elim
  w := by
    intro S m X Q h
    unfold wpW at h
    exact h.elim
  av := by
    intro S m X Q h
    unfold wpAndV at h
    exact h.elim
  ov := by
    intro S m X Q h
    unfold wpOrV at h
    exact h.elim
  b := by
    intro S m X Q h
    unfold wpB at h
    exact h.elim
  ab := by
    intro S m X Q h
    unfold wpAndB at h
    exact h.elim
  ob := by
    intro S m X Q h
    unfold wpOrB at h
    exact h.elim
  i := by
    intro S m X Q h
    unfold wpI at h
    exact h.elim
theorem wpe_bin {o : BO} {a : T} {b : T} (iha : WpE gl cf a) (ihb : WpE gl cf b) : WpE gl cf (.bin o a b) where
  e := by
    intro S m X Q h
    unfold wpE at h
    simp only [evE]
    rw [wp_bind]
    refine wp_mono (iha.e h) fun x m1 h => ?_
    rw [wp_bind]
    refine wp_mono (ihb.e h) fun y m2 h => ?_
    obtain ⟨z, e, k⟩ := binP_ok h
    rw [e]; exact k
  p := by
    intro S m X Q h
    unfold wpP at h
    exact h.elim
  a := by
    intro S m X Q h
    unfold wpA at h
    exact h.elim
  w := by
    intro S m X Q h
    unfold wpW at h
    exact h.elim
  av := by
    intro S m X Q h
    unfold wpAndV at h
    exact h.elim
  ov := by
    intro S m X Q h
    unfold wpOrV at h
    exact h.elim
  b := by
    intro S m X Q h
    unfold wpB at h
    exact h.elim
  ab := by
    intro S m X Q h
    unfold wpAndB at h
    exact h.elim
  ob := by
    intro S m X Q h
    unfold wpOrB at h
    exact h.elim
  i := by
    intro S m X Q h
    unfold wpI at h
    exact h.elim
theorem wpe_neg {a : T} (iha : WpE gl cf a) : WpE gl cf (.neg a) where
  e := by
    intro S m X Q h
    unfold wpE at h
    simp only [evE]
    rw [wp_bind]
    refine wp_mono (iha.e h) fun x m1 h => ?_
    split at h
    · rename_i i hi
      (try rw [hi]); exact h
    · exact h.elim
  p := by
    intro S m X Q h
    unfold wpP at h
    exact h.elim
  a := by
    intro S m X Q h
    unfold wpA at h
    exact h.elim
  w := by
    intro S m X Q h
    unfold wpW at h
    exact h.elim
  av := by
    intro S m X Q h
    unfold wpAndV at h
    exact h.elim
  ov := by
    intro S m X Q h
    unfold wpOrV at h
    exact h.elim
  b := by
    intro S m X Q h
    unfold wpB at h
    exact h.elim
  ab := by
    intro S m X Q h
    unfold wpAndB at h
    exact h.elim
  ob := by
    intro S m X Q h
    unfold wpOrB at h
    exact h.elim
  i := by
    intro S m X Q h
    unfold wpI at h
    exact h.elim
theorem wpe_cmp {o : CO} {a : T} {b : T} (iha : WpE gl cf a) (ihb : WpE gl cf b) : WpE gl cf (.cmp o a b) where
  e := by
    intro S m X Q h
    unfold wpE at h
    simp only [evE]
    rw [wp_bind]
    refine wp_mono (iha.e h) fun x m1 h => ?_
    rw [wp_bind]
    refine wp_mono (ihb.e h) fun y m2 h => ?_
    obtain ⟨z, e, k⟩ := cmpP_ok h
    rw [e]; exact k
  p := by
    intro S m X Q h
    unfold wpP at h
    exact h.elim
  a := by
    intro S m X Q h
    unfold wpA at h
    exact h.elim
  w := by
    intro S m X Q h
    unfold wpW at h
    exact h.elim
  av := by
    intro S m X Q h
    unfold wpAndV at h
    exact h.elim
  ov := by
    intro S m X Q h
    unfold wpOrV at h
    exact h.elim
  b := by
    intro S m X Q h
    unfold wpB at h
    simp only [evB]
    rw [wp_bind]
    refine wp_mono (iha.e h) fun x m1 h => ?_
    rw [wp_bind]
    refine wp_mono (ihb.e h) fun y m2 h => ?_
    obtain ⟨z, e, k⟩ := cmpP_ok h
    rw [e]; exact k
  ab := by
    intro S m X Q h
    unfold wpAndB at h
    exact h.elim
  ob := by
    intro S m X Q h
    unfold wpOrB at h
    exact h.elim
  i := by
    intro S m X Q h
    unfold wpI at h
    exact h.elim
theorem wpe_chn {o : CO} {p : CO} {a : T} {b : T} {c : T} (iha : WpE gl cf a) (ihb : WpE gl cf b) (ihc : WpE gl cf c) : WpE gl cf (.chn o p a b c) where
  e := by
    intro S m X Q h
    unfold wpE at h
    simp only [evE]
    rw [wp_bind]
    refine wp_mono (iha.e h) fun x m1 h => ?_
    rw [wp_bind]
    refine wp_mono (ihb.e h) fun y m2 h => ?_
    obtain ⟨z, e, k⟩ := cmpP_ok h
    rw [e]
    cases z with
    | true =>
      rw [wp_bind]
      show wpx _ (bindR (evE gl cf c S m2) _) _
      rw [wp_bind]
      refine wp_mono (ihc.e k) fun z m4 h => ?_
      obtain ⟨z2, e2, k2⟩ := cmpP_ok h
      rw [e2]; exact k2
    | false => exact k
  p := by
    intro S m X Q h
    unfold wpP at h
    exact h.elim
  a := by
    intro S m X Q h
    unfold wpA at h
    exact h.elim
  w := by
    intro S m X Q h
    unfold wpW at h
    exact h.elim
  av := by
    intro S m X Q h
    unfold wpAndV at h
    exact h.elim
  ov := by
    intro S m X Q h
    unfold wpOrV at h
    exact h.elim
  b := by
    intro S m X Q h
    unfold wpB at h
    simp only [evB]
    rw [wp_bind]
    refine wp_mono (iha.e h) fun x m1 h => ?_
    rw [wp_bind]
    refine wp_mono (ihb.e h) fun y m2 h => ?_
    obtain ⟨z, e, k⟩ := cmpP_ok h
    rw [e]
    cases z with
    | true =>
      rw [wp_bind]
      show wpx _ (bindR (evE gl cf c S m2) _) _
      rw [wp_bind]
      refine wp_mono (ihc.e k) fun z m4 h => ?_
      obtain ⟨z2, e2, k2⟩ := cmpP_ok h
      rw [e2]; exact k2
    | false => exact k
  ab := by
    intro S m X Q h
    unfold wpAndB at h
    exact h.elim
  ob := by
    intro S m X Q h
    unfold wpOrB at h
    exact h.elim
  i := by
    intro S m X Q h
    unfold wpI at h
    exact h.elim
theorem wpe_ban {a : T} (iha : WpE gl cf a) : WpE gl cf (.ban a) where
  e := by
    intro S m X Q h
    unfold wpE at h
    simp only [evE]
    exact iha.av h
  p := by
    intro S m X Q h
    unfold wpP at h
    exact h.elim
  a := by
    intro S m X Q h
    unfold wpA at h
    exact h.elim
  w := by
    intro S m X Q h
    unfold wpW at h
    exact h.elim
  av := by
    intro S m X Q h
    unfold wpAndV at h
    exact h.elim
  ov := by
    intro S m X Q h
    unfold wpOrV at h
    exact h.elim
  b := by
    intro S m X Q h
    unfold wpB at h
    simp only [evB]
    exact iha.ab h
  ab := by
    intro S m X Q h
    unfold wpAndB at h
    exact h.elim
  ob := by
    intro S m X Q h
    unfold wpOrB at h
    exact h.elim
  i := by
    intro S m X Q h
    unfold wpI at h
    exact h.elim
theorem wpe_bor {a : T} (iha : WpE gl cf a) : WpE gl cf (.bor a) where
  e := by
    intro S m X Q h
    unfold wpE at h
    simp only [evE]
    exact iha.ov h
  p := by
    intro S m X Q h
    unfold wpP at h
    exact h.elim
  a := by
    intro S m X Q h
    unfold wpA at h
    exact h.elim
  w := by
    intro S m X Q h
    unfold wpW at h
    exact h.elim
  av := by
    intro S m X Q h
    unfold wpAndV at h
    exact h.elim
  ov := by
    intro S m X Q h
    unfold wpOrV at h
    exact h.elim
  b := by
    intro S m X Q h
    unfold wpB at h
    simp only [evB]
    exact iha.ob h
  ab := by
    intro S m X Q h
    unfold wpAndB at h
    exact h.elim
  ob := by
    intro S m X Q h
    unfold wpOrB at h
    exact h.elim
  i := by
    intro S m X Q h
    unfold wpI at h
    exact h.elim
theorem wpe_not {a : T} (iha : WpE gl cf a) : WpE gl cf (.not a) where
  e := by
    intro S m X Q h
    unfold wpE at h
    simp only [evE]
    rw [wp_bind]
    refine wp_mono (iha.e h) fun x m1 h => ?_
    split at h
    · rename_i i hi
      (try rw [hi]); exact h
    · exact h.elim
  p := by
    intro S m X Q h
    unfold wpP at h
    exact h.elim
  a := by
    intro S m X Q h
    unfold wpA at h
    exact h.elim
  w := by
    intro S m X Q h
    unfold wpW at h
    exact h.elim
  av := by
    intro S m X Q h
    unfold wpAndV at h
    exact h.elim
  ov := by
    intro S m X Q h
    unfold wpOrV at h
    exact h.elim
  b := by
    intro S m X Q h
    unfold wpB at h
    simp only [evB]
    rw [wp_bind]
    refine wp_mono (iha.b h) fun k m1 h => ?_
    exact h
  ab := by
    intro S m X Q h
    unfold wpAndB at h
    exact h.elim
  ob := by
    intro S m X Q h
    unfold wpOrB at h
    exact h.elim
  i := by
    intro S m X Q h
    unfold wpI at h
    exact h.elim
theorem wpe_ite {c : T} {a : T} {b : T} (ihc : WpE gl cf c) (iha : WpE gl cf a) (ihb : WpE gl cf b) : WpE gl cf (.ite c a b) where
  e := by
    intro S m X Q h
    unfold wpE at h
    simp only [evE]
    rw [wp_bind]
    refine wp_mono (ihc.b h) fun k m1 h => ?_
    cases k with
    | true => exact iha.e h
    | false => exact ihb.e h
  p := by
    intro S m X Q h
    unfold wpP at h
    exact h.elim
  a := by
    intro S m X Q h
    unfold wpA at h
    exact h.elim
  w := by
    intro S m X Q h
    unfold wpW at h
    exact h.elim
  av := by
    intro S m X Q h
    unfold wpAndV at h
    exact h.elim
  ov := by
    intro S m X Q h
    unfold wpOrV at h
    exact h.elim
  b := by
    intro S m X Q h
    unfold wpB at h
    exact h.elim
  ab := by
    intro S m X Q h
    unfold wpAndB at h
    exact h.elim
  ob := by
    intro S m X Q h
    unfold wpOrB at h
    exact h.elim
  i := by
    intro S m X Q h
    unfold wpI at h
    exact h.elim
theorem wpe_tup {a : T} (iha : WpE gl cf a) : WpE gl cf (.tup a) where
  e := by
    intro S m X Q h
    unfold wpE at h
    simp only [evE]
    rw [wp_bind]
    refine wp_mono (iha.a h) fun ds m1 h => ?_
    exact wp_need h.1 h.2
  p := by
    intro S m X Q h
    unfold wpP at h
    exact h.elim
  a := by
    intro S m X Q h
    unfold wpA at h
    exact h.elim
  w := by
    intro S m X Q h
    unfold wpW at h
    exact h.elim
  av := by
    intro S m X Q h
    unfold wpAndV at h
    exact h.elim
  ov := by
    intro S m X Q h
    unfold wpOrV at h
    exact h.elim
  b := by
    intro S m X Q h
    unfold wpB at h
    exact h.elim
  ab := by
    intro S m X Q h
    unfold wpAndB at h
    exact h.elim
  ob := by
    intro S m X Q h
    unfold wpOrB at h
    exact h.elim
  i := by
    intro S m X Q h
    unfold wpI at h
    exact h.elim
theorem wpe_lst {a : T} (iha : WpE gl cf a) : WpE gl cf (.lst a) where
  e := by
    intro S m X Q h
    unfold wpE at h
    simp only [evE]
    rw [wp_bind]
    refine wp_mono (iha.a h) fun ds m1 h => ?_
    exact wp_need h.1 h.2
  p := by
    intro S m X Q h
    unfold wpP at h
    exact h.elim
  a := by
    intro S m X Q h
    unfold wpA at h
    exact h.elim
  w := by
    intro S m X Q h
    unfold wpW at h
    exact h.elim
  av := by
    intro S m X Q h
    unfold wpAndV at h
    exact h.elim
  ov := by
    intro S m X Q h
    unfold wpOrV at h
    exact h.elim
  b := by
    intro S m X Q h
    unfold wpB at h
    exact h.elim
  ab := by
    intro S m X Q h
    unfold wpAndB at h
    exact h.elim
  ob := by
    intro S m X Q h
    unfold wpOrB at h
    exact h.elim
  i := by
    intro S m X Q h
    unfold wpI at h
    exact h.elim
theorem wpe_olst {a : T} (iha : WpE gl cf a) : WpE gl cf (.olst a) where
  e := by
    intro S m X Q h
    unfold wpE at h
    simp only [evE]
    rw [wp_bind]
    refine wp_mono (iha.a h) fun ds m1 h => ?_
    exact wp_need h.1 h.2
  p := by
    intro S m X Q h
    unfold wpP at h
    exact h.elim
  a := by
    intro S m X Q h
    unfold wpA at h
    exact h.elim
  w := by
    intro S m X Q h
    unfold wpW at h
    exact h.elim
  av := by
    intro S m X Q h
    unfold wpAndV at h
    exact h.elim
  ov := by
    intro S m X Q h
    unfold wpOrV at h
    exact h.elim
  b := by
    intro S m X Q h
    unfold wpB at h
    exact h.elim
  ab := by
    intro S m X Q h
    unfold wpAndB at h
    exact h.elim
  ob := by
    intro S m X Q h
    unfold wpOrB at h
    exact h.elim
  i := by
    intro S m X Q h
    unfold wpI at h
    exact h.elim
theorem wpe_idx {a : T} {i : T} (iha : WpE gl cf a) (ihi : WpE gl cf i) : WpE gl cf (.idx a i) where
  e := by
    intro S m X Q h
    unfold wpE at h
    simp only [evE]
    rw [wp_bind]
    refine wp_mono (iha.e h) fun x m1 h => ?_
    rw [wp_bind]
    refine wp_mono (ihi.e h) fun y m2 h => ?_
    obtain ⟨z, e, k⟩ := idxP_ok h
    rw [e]; exact k
  p := by
    intro S m X Q h
    unfold wpP at h
    exact h.elim
  a := by
    intro S m X Q h
    unfold wpA at h
    exact h.elim
  w := by
    intro S m X Q h
    unfold wpW at h
    exact h.elim
  av := by
    intro S m X Q h
    unfold wpAndV at h
    exact h.elim
  ov := by
    intro S m X Q h
    unfold wpOrV at h
    exact h.elim
  b := by
    intro S m X Q h
    unfold wpB at h
    exact h.elim
  ab := by
    intro S m X Q h
    unfold wpAndB at h
    exact h.elim
  ob := by
    intro S m X Q h
    unfold wpOrB at h
    exact h.elim
  i := by
    intro S m X Q h
    unfold wpI at h
    exact h.elim
theorem wpe_slc {a : T} {lo : T} {hi : T} (iha : WpE gl cf a) (ihlo : WpE gl cf lo) (ihhi : WpE gl cf hi) : WpE gl cf (.slc a lo hi) where
  e := by
    intro S m X Q h
    unfold wpE at h
    simp only [evE]
    rw [wp_bind]
    refine wp_mono (iha.e h) fun x m1 h => ?_
    rw [wp_bind]
    refine wp_mono (ihlo.p h) fun l m2 h => ?_
    rw [wp_bind]
    refine wp_mono (ihhi.p h) fun hh m3 h => ?_
    exact wp_opt (slcP_ok h)
  p := by
    intro S m X Q h
    unfold wpP at h
    exact h.elim
  a := by
    intro S m X Q h
    unfold wpA at h
    exact h.elim
  w := by
    intro S m X Q h
    unfold wpW at h
    exact h.elim
  av := by
    intro S m X Q h
    unfold wpAndV at h
    exact h.elim
  ov := by
    intro S m X Q h
    unfold wpOrV at h
    exact h.elim
  b := by
    intro S m X Q h
    unfold wpB at h
    exact h.elim
  ab := by
    intro S m X Q h
    unfold wpAndB at h
    exact h.elim
  ob := by
    intro S m X Q h
    unfold wpOrB at h
    exact h.elim
  i := by
    intro S m X Q h
    unfold wpI at h
    exact h.elim
theorem wpe_call {f : Nat} {a : T} (iha : WpE gl cf a) : WpE gl cf (.call f a) where
  e := by
    intro S m X Q h
    unfold wpE at h
    simp only [evE]
    rw [wp_bind]
    refine wp_mono (iha.a h) fun ds m1 h => ?_
    exact h.h
  p := by
    intro S m X Q h
    unfold wpP at h
    exact h.elim
  a := by
    intro S m X Q h
    unfold wpA at h
    exact h.elim
  w := by
    intro S m X Q h
    unfold wpW at h
    exact h.elim
  av := by
    intro S m X Q h
    unfold wpAndV at h
    exact h.elim
  ov := by
    intro S m X Q h
    unfold wpOrV at h
    exact h.elim
  b := by
    intro S m X Q h
    unfold wpB at h
    exact h.elim
  ab := by
    intro S m X Q h
    unfold wpAndB at h
    exact h.elim
  ob := by
    intro S m X Q h
    unfold wpOrB at h
    exact h.elim
  i := by
    intro S m X Q h
    unfold wpI at h
    exact h.elim
theorem wpe_callv {i : Nat} {a : T} (iha : WpE gl cf a) : WpE gl cf (.callv i a) where
  e := by
    intro S m X Q h
    unfold wpE at h
    simp only [evE]
    split at h
    · rename_i d hd
      (try rw [hd])
      show wpx _ (bindR _ _) _
      rw [wp_bind]
      refine wp_mono (iha.a h) fun ds m1 h => ?_
      exact h.h
    · exact h.elim
  p := by
    intro S m X Q h
    unfold wpP at h
    exact h.elim
  a := by
    intro S m X Q h
    unfold wpA at h
    exact h.elim
  w := by
    intro S m X Q h
    unfold wpW at h
    exact h.elim
  av := by
    intro S m X Q h
    unfold wpAndV at h
    exact h.elim
  ov := by
    intro S m X Q h
    unfold wpOrV at h
    exact h.elim
  b := by
    intro S m X Q h
    unfold wpB at h
    exact h.elim
  ab := by
    intro S m X Q h
    unfold wpAndB at h
    exact h.elim
  ob := by
    intro S m X Q h
    unfold wpOrB at h
    exact h.elim
  i := by
    intro S m X Q h
    unfold wpI at h
    exact h.elim
theorem wpe_blt {f : BF} {a : T} (iha : WpE gl cf a) : WpE gl cf (.blt f a) where
  e := by
    intro S m X Q h
    unfold wpE at h
    simp only [evE]
    rw [wp_bind]
    refine wp_mono (iha.w h) fun ds m1 h => ?_
    exact wp_opt (bltP_ok h)
  p := by
    intro S m X Q h
    unfold wpP at h
    exact h.elim
  a := by
    intro S m X Q h
    unfold wpA at h
    exact h.elim
  w := by
    intro S m X Q h
    unfold wpW at h
    exact h.elim
  av := by
    intro S m X Q h
    unfold wpAndV at h
    exact h.elim
  ov := by
    intro S m X Q h
    unfold wpOrV at h
    exact h.elim
  b := by
    intro S m X Q h
    unfold wpB at h
    exact h.elim
  ab := by
    intro S m X Q h
    unfold wpAndB at h
    exact h.elim
  ob := by
    intro S m X Q h
    unfold wpOrB at h
    exact h.elim
  i := by
    intro S m X Q h
    unfold wpI at h
    exact h.elim
theorem wpe_isi {a : T} {t : TY} (iha : WpE gl cf a) : WpE gl cf (.isi a t) where
  e := by
    intro S m X Q h
    unfold wpE at h
    simp only [evE]
    rw [wp_bind]
    refine wp_mono (iha.e h) fun x m1 h => ?_
    rw [wp_bind]
    exact wp_opt h
  p := by
    intro S m X Q h
    unfold wpP at h
    exact h.elim
  a := by
    intro S m X Q h
    unfold wpA at h
    exact h.elim
  w := by
    intro S m X Q h
    unfold wpW at h
    exact h.elim
  av := by
    intro S m X Q h
    unfold wpAndV at h
    exact h.elim
  ov := by
    intro S m X Q h
    unfold wpOrV at h
    exact h.elim
  b := by
    intro S m X Q h
    unfold wpB at h
    exact h.elim
  ab := by
    intro S m X Q h
    unfold wpAndB at h
    exact h.elim
  ob := by
    intro S m X Q h
    unfold wpOrB at h
    exact h.elim
  i := by
    intro S m X Q h
    unfold wpI at h
    exact h.elim
theorem wpe_lc {e : T} {c : T} {tg : T} {it : T} {own : List Nat} (ihe : WpE gl cf e) (ihc : WpE gl cf c) (ihtg : WpE gl cf tg) (ihit : WpE gl cf it) : WpE gl cf (.lc e c tg it own) where
  e := by
    intro S m X Q h
    unfold wpE at h
    rw [evE_lc]
    refine wp_nox ?_
    rw [wp_bind]
    refine wp_mono (ihit.i h) fun ds m1 h => ?_
    rw [wp_bind]
    exact h.h
  p := by
    intro S m X Q h
    unfold wpP at h
    exact h.elim
  a := by
    intro S m X Q h
    unfold wpA at h
    exact h.elim
  w := by
    intro S m X Q h
    unfold wpW at h
    exact h.elim
  av := by
    intro S m X Q h
    unfold wpAndV at h
    exact h.elim
  ov := by
    intro S m X Q h
    unfold wpOrV at h
    exact h.elim
  b := by
    intro S m X Q h
    unfold wpB at h
    exact h.elim
  ab := by
    intro S m X Q h
    unfold wpAndB at h
    exact h.elim
  ob := by
    intro S m X Q h
    unfold wpOrB at h
    exact h.elim
  i := by
    intro S m X Q h
    unfold wpI at h
    exact h.elim
theorem wpe_lc2 {e : T} {c : T} {tg : T} {it : T} {tg2 : T} {it2 : T} {own : List Nat} {own2 : List Nat} (ihe : WpE gl cf e) (ihc : WpE gl cf c) (ihtg : WpE gl cf tg) (ihit : WpE gl cf it) (ihtg2 : WpE gl cf tg2) (ihit2 : WpE gl cf it2) : WpE gl cf (.lc2 e c tg it tg2 it2 own own2) where
  e := by
    intro S m X Q h
    unfold wpE at h
    rw [evE_lc2]
    refine wp_nox ?_
    rw [wp_bind]
    refine wp_mono (ihit.i h) fun ds m1 h => ?_
    rw [wp_bind]
    exact wp_mono h.h fun ys m2 h => wp_need h.1 h.2
  p := by
    intro S m X Q h
    unfold wpP at h
    exact h.elim
  a := by
    intro S m X Q h
    unfold wpA at h
    exact h.elim
  w := by
    intro S m X Q h
    unfold wpW at h
    exact h.elim
  av := by
    intro S m X Q h
    unfold wpAndV at h
    exact h.elim
  ov := by
    intro S m X Q h
    unfold wpOrV at h
    exact h.elim
  b := by
    intro S m X Q h
    unfold wpB at h
    exact h.elim
  ab := by
    intro S m X Q h
    unfold wpAndB at h
    exact h.elim
  ob := by
    intro S m X Q h
    unfold wpOrB at h
    exact h.elim
  i := by
    intro S m X Q h
    unfold wpI at h
    exact h.elim
theorem wpe_sd2 {e : T} {tg : T} {it : T} {tg2 : T} {it2 : T} {own : List Nat} {own2 : List Nat} (ihe : WpE gl cf e) (ihtg : WpE gl cf tg) (ihit : WpE gl cf it) (ihtg2 : WpE gl cf tg2) (ihit2 : WpE gl cf it2) : WpE gl cf (.sd2 e tg it tg2 it2 own own2) where
  e := by
    intro S m X Q h
    unfold wpE at h
    rw [evE_sd2]
    refine wp_nox ?_
    rw [wp_bind]
    refine wp_mono (ihit.i h) fun ds m1 h => ?_
    rw [wp_bind]
    exact wp_mono h.h fun ys m2 h => wp_opt h
  p := by
    intro S m X Q h
    unfold wpP at h
    exact h.elim
  a := by
    intro S m X Q h
    unfold wpA at h
    exact h.elim
  w := by
    intro S m X Q h
    unfold wpW at h
    exact h.elim
  av := by
    intro S m X Q h
    unfold wpAndV at h
    exact h.elim
  ov := by
    intro S m X Q h
    unfold wpOrV at h
    exact h.elim
  b := by
    intro S m X Q h
    unfold wpB at h
    exact h.elim
  ab := by
    intro S m X Q h
    unfold wpAndB at h
    exact h.elim
  ob := by
    intro S m X Q h
    unfold wpOrB at h
    exact h.elim
  i := by
    intro S m X Q h
    unfold wpI at h
    exact h.elim
theorem wpe_lc3 {e : T} {tg : T} {it : T} {tg2 : T} {it2 : T} {tg3 : T} {it3 : T} {own : List Nat} {own2 : List Nat} {own3 : List Nat} (ihe : WpE gl cf e) (ihtg : WpE gl cf tg) (ihit : WpE gl cf it) (ihtg2 : WpE gl cf tg2) (ihit2 : WpE gl cf it2) (ihtg3 : WpE gl cf tg3) (ihit3 : WpE gl cf it3) : WpE gl cf (.lc3 e tg it tg2 it2 tg3 it3 own own2 own3) where
  e := by
    intro S m X Q h
    unfold wpE at h
    rw [evE_lc3]
    refine wp_nox ?_
    rw [wp_bind]
    refine wp_mono (ihit.i h) fun ds m1 h => ?_
    rw [wp_bind]
    exact wp_mono h.h fun ys m2 h => wp_need h.1 h.2
  p := by
    intro S m X Q h
    unfold wpP at h
    exact h.elim
  a := by
    intro S m X Q h
    unfold wpA at h
    exact h.elim
  w := by
    intro S m X Q h
    unfold wpW at h
    exact h.elim
  av := by
    intro S m X Q h
    unfold wpAndV at h
    exact h.elim
  ov := by
    intro S m X Q h
    unfold wpOrV at h
    exact h.elim
  b := by
    intro S m X Q h
    unfold wpB at h
    exact h.elim
  ab := by
    intro S m X Q h
    unfold wpAndB at h
    exact h.elim
  ob := by
    intro S m X Q h
    unfold wpOrB at h
    exact h.elim
  i := by
    intro S m X Q h
    unfold wpI at h
    exact h.elim
theorem wpe_lnd {i : Nat} {c : T} (ihc : WpE gl cf c) : WpE gl cf (.lnd i c) where
  e := by
    intro S m X Q h
    unfold wpE at h
    exact h.elim
  p := by
    intro S m X Q h
    unfold wpP at h
    exact h.elim
  a := by
    intro S m X Q h
    unfold wpA at h
    exact h.elim
  w := by
    intro S m X Q h
    unfold wpW at h
    exact h.elim
  av := by
    intro S m X Q h
    unfold wpAndV at h
    exact h.elim
  ov := by
    intro S m X Q h
    unfold wpOrV at h
    exact h.elim
  b := by
    intro S m X Q h
    unfold wpB at h
    simp only [evB]
    split at h
    · rename_i ds hd
      (try rw [hd])
      have q := ihc.b h
      cases e : evB gl cf c ((S.map strS).set i (some (.lst ds, false))) m with
      | ok b m2 =>
        rw [e] at q
        (try (show wpx _ (lndR m (evB gl cf c ((S.map strS).set i (some (.lst ds, false))) m)) _; rw [e]))
        show wpx _ (needR (m2.w = m.w ∧ m2.objs.length = m.objs.length) fun _ => Res.ok b m) _
        exact wp_need (show m2.w = m.w ∧ m2.objs.length = m.objs.length from q.1) q.2
      | exc c fs m2 => rw [e] at q; exact q.elim
      | bad => rw [e] at q; exact q.elim
    · exact h.elim
  ab := by
    intro S m X Q h
    unfold wpAndB at h
    exact h.elim
  ob := by
    intro S m X Q h
    unfold wpOrB at h
    exact h.elim
  i := by
    intro S m X Q h
    unfold wpI at h
    exact h.elim
theorem wpe_nil   : WpE gl cf (.nil ) where
  e := by
    intro S m X Q h
    unfold wpE at h
    exact h.elim
  p := by
    intro S m X Q h
    unfold wpP at h
    exact h.elim
  a := by
    intro S m X Q h
    unfold wpA at h
    simp only [evA]
    exact h
  w := by
    intro S m X Q h
    unfold wpW at h
    simp only [evW]
    exact h
  av := by
    intro S m X Q h
    unfold wpAndV at h
    exact h.elim
  ov := by
    intro S m X Q h
    unfold wpOrV at h
    exact h.elim
  b := by
    intro S m X Q h
    unfold wpB at h
    exact h.elim
  ab := by
    intro S m X Q h
    unfold wpAndB at h
    exact h.elim
  ob := by
    intro S m X Q h
    unfold wpOrB at h
    exact h.elim
  i := by
    intro S m X Q h
    unfold wpI at h
    exact h.elim
theorem wpe_cons {a : T} {b : T} (iha : WpE gl cf a) (ihb : WpE gl cf b) : WpE gl cf (.cons a b) where
  e := by
    intro S m X Q h
    unfold wpE at h
    exact h.elim
  p := by
    intro S m X Q h
    unfold wpP at h
    exact h.elim
  a := by
    intro S m X Q h
    unfold wpA at h
    simp only [evA]
    rw [wp_bind]
    refine wp_mono (iha.e h) fun x m1 h => ?_
    rw [wp_bind]
    refine wp_toV h fun h => ?_
    rw [wp_bind]
    refine wp_mono (ihb.a h) fun vs m3 h => ?_
    exact h
  w := by
    intro S m X Q h
    unfold wpW at h
    simp only [evW]
    rw [wp_bind]
    refine wp_mono (iha.e h) fun x m1 h => ?_
    rw [wp_bind]
    refine wp_mono (ihb.w h) fun vs m3 h => ?_
    exact h
  av := by
    intro S m X Q h
    unfold wpAndV at h
    simp only [evAndV]
    rw [wp_bind]
    refine wp_mono (iha.e h) fun x m1 h => ?_
    split at h
    · rename_i k hk
      (try rw [hk])
      cases k with
      | true => exact ihb.av h
      | false => exact h
    · exact h.elim
  ov := by
    intro S m X Q h
    unfold wpOrV at h
    simp only [evOrV]
    rw [wp_bind]
    refine wp_mono (iha.e h) fun x m1 h => ?_
    split at h
    · rename_i k hk
      (try rw [hk])
      cases k with
      | true => exact h
      | false => exact ihb.ov h
    · exact h.elim
  b := by
    intro S m X Q h
    unfold wpB at h
    exact h.elim
  ab := by
    intro S m X Q h
    unfold wpAndB at h
    simp only [evAndB]
    rw [wp_bind]
    refine wp_mono (iha.b h) fun k m1 h => ?_
    cases k with
    | true => exact ihb.ab h
    | false => exact h
  ob := by
    intro S m X Q h
    unfold wpOrB at h
    simp only [evOrB]
    rw [wp_bind]
    refine wp_mono (iha.b h) fun k m1 h => ?_
    cases k with
    | true => exact h
    | false => exact ihb.ob h
  i := by
    intro S m X Q h
    unfold wpI at h
    exact h.elim
theorem wpe_one {a : T} (iha : WpE gl cf a) : WpE gl cf (.one a) where
  e := by
    intro S m X Q h
    unfold wpE at h
    exact h.elim
  p := by
    intro S m X Q h
    unfold wpP at h
    exact h.elim
  a := by
    intro S m X Q h
    unfold wpA at h
    exact h.elim
  w := by
    intro S m X Q h
    unfold wpW at h
    exact h.elim
  av := by
    intro S m X Q h
    unfold wpAndV at h
    simp only [evAndV]
    exact iha.e h
  ov := by
    intro S m X Q h
    unfold wpOrV at h
    simp only [evOrV]
    exact iha.e h
  b := by
    intro S m X Q h
    unfold wpB at h
    exact h.elim
  ab := by
    intro S m X Q h
    unfold wpAndB at h
    simp only [evAndB]
    exact iha.b h
  ob := by
    intro S m X Q h
    unfold wpOrB at h
    simp only [evOrB]
    exact iha.b h
  i := by
    intro S m X Q h
    unfold wpI at h
    exact h.elim
theorem wpe_tst {a : T} (iha : WpE gl cf a) : WpE gl cf (.tst a) where
  e := by
    intro S m X Q h
    unfold wpE at h
    exact h.elim
  p := by
    intro S m X Q h
    unfold wpP at h
    exact h.elim
  a := by
    intro S m X Q h
    unfold wpA at h
    exact h.elim
  w := by
    intro S m X Q h
    unfold wpW at h
    exact h.elim
  av := by
    intro S m X Q h
    unfold wpAndV at h
    exact h.elim
  ov := by
    intro S m X Q h
    unfold wpOrV at h
    exact h.elim
  b := by
    intro S m X Q h
    unfold wpB at h
    simp only [evB]
    rw [wp_bind]
    refine wp_mono (iha.e h) fun x m1 h => ?_
    exact wp_opt h
  ab := by
    intro S m X Q h
    unfold wpAndB at h
    exact h.elim
  ob := by
    intro S m X Q h
    unfold wpOrB at h
    exact h.elim
  i := by
    intro S m X Q h
    unfold wpI at h
    exact h.elim
theorem wpe_prt {a : T} (iha : WpE gl cf a) : WpE gl cf (.prt a) where
  e := by
    intro S m X Q h
    unfold wpE at h
    exact h.elim
  p := by
    intro S m X Q h
    unfold wpP at h
    simp only [evP]
    rw [wp_bind]
    refine wp_mono (iha.e h) fun x m1 h => ?_
    split at h
    · rename_i i hi
      (try rw [hi]); exact h
    · exact h.elim
  a := by
    intro S m X Q h
    unfold wpA at h
    exact h.elim
  w := by
    intro S m X Q h
    unfold wpW at h
    exact h.elim
  av := by
    intro S m X Q h
    unfold wpAndV at h
    exact h.elim
  ov := by
    intro S m X Q h
    unfold wpOrV at h
    exact h.elim
  b := by
    intro S m X Q h
    unfold wpB at h
    exact h.elim
  ab := by
    intro S m X Q h
    unfold wpAndB at h
    exact h.elim
  ob := by
    intro S m X Q h
    unfold wpOrB at h
    exact h.elim
  i := by
    intro S m X Q h
    unfold wpI at h
    exact h.elim
theorem wpe_itv {a : T} (iha : WpE gl cf a) : WpE gl cf (.itv a) where
  e := by
    intro S m X Q h
    unfold wpE at h
    exact h.elim
  p := by
    intro S m X Q h
    unfold wpP at h
    exact h.elim
  a := by
    intro S m X Q h
    unfold wpA at h
    exact h.elim
  w := by
    intro S m X Q h
    unfold wpW at h
    exact h.elim
  av := by
    intro S m X Q h
    unfold wpAndV at h
    exact h.elim
  ov := by
    intro S m X Q h
    unfold wpOrV at h
    exact h.elim
  b := by
    intro S m X Q h
    unfold wpB at h
    exact h.elim
  ab := by
    intro S m X Q h
    unfold wpAndB at h
    exact h.elim
  ob := by
    intro S m X Q h
    unfold wpOrB at h
    exact h.elim
  i := by
    intro S m X Q h
    unfold wpI at h
    simp only [evI]
    rw [wp_bind]
    refine wp_mono (iha.e h) fun x m1 h => ?_
    rw [wp_bind]
    refine wp_toV h fun h => ?_
    unfold itvP at h
    split at h
    · rename_i hd; (try rw [hd]); exact h
    · rename_i hd; (try rw [hd]); exact h
    · rename_i hd; (try rw [hd]); exact h
    · rename_i hd; (try rw [hd]); exact h
    · rename_i hd; (try rw [hd]); exact wp_need h.1 h.2
    · exact h.elim
theorem wpe_rg1 {a : T} (iha : WpE gl cf a) : WpE gl cf (.rg1 a) where
  e := by
    intro S m X Q h
    unfold wpE at h
    exact h.elim
  p := by
    intro S m X Q h
    unfold wpP at h
    exact h.elim
  a := by
    intro S m X Q h
    unfold wpA at h
    exact h.elim
  w := by
    intro S m X Q h
    unfold wpW at h
    exact h.elim
  av := by
    intro S m X Q h
    unfold wpAndV at h
    exact h.elim
  ov := by
    intro S m X Q h
    unfold wpOrV at h
    exact h.elim
  b := by
    intro S m X Q h
    unfold wpB at h
    exact h.elim
  ab := by
    intro S m X Q h
    unfold wpAndB at h
    exact h.elim
  ob := by
    intro S m X Q h
    unfold wpOrB at h
    exact h.elim
  i := by
    intro S m X Q h
    unfold wpI at h
    simp only [evI]
    rw [wp_bind]
    refine wp_mono (iha.e h) fun x m1 h => ?_
    split at h
    · rename_i j hj
      (try rw [hj]); exact wp_need h.1 h.2
    · exact h.elim
theorem wpe_rg2 {a : T} {b : T} (iha : WpE gl cf a) (ihb : WpE gl cf b) : WpE gl cf (.rg2 a b) where
  e := by
    intro S m X Q h
    unfold wpE at h
    exact h.elim
  p := by
    intro S m X Q h
    unfold wpP at h
    exact h.elim
  a := by
    intro S m X Q h
    unfold wpA at h
    exact h.elim
  w := by
    intro S m X Q h
    unfold wpW at h
    exact h.elim
  av := by
    intro S m X Q h
    unfold wpAndV at h
    exact h.elim
  ov := by
    intro S m X Q h
    unfold wpOrV at h
    exact h.elim
  b := by
    intro S m X Q h
    unfold wpB at h
    exact h.elim
  ab := by
    intro S m X Q h
    unfold wpAndB at h
    exact h.elim
  ob := by
    intro S m X Q h
    unfold wpOrB at h
    exact h.elim
  i := by
    intro S m X Q h
    unfold wpI at h
    simp only [evI]
    rw [wp_bind]
    refine wp_mono (iha.e h) fun x m1 h => ?_
    rw [wp_bind]
    refine wp_mono (ihb.e h) fun y m2 h => ?_
    split at h
    · rename_i i j hi hj
      (try rw [hi, hj]); exact wp_need h.1 h.2
    · exact h.elim
theorem wpe_rg3 {a : T} {b : T} {c : T} (iha : WpE gl cf a) (ihb : WpE gl cf b) (ihc : WpE gl cf c) : WpE gl cf (.rg3 a b c) where
  e := by
    intro S m X Q h
    unfold wpE at h
    exact h.elim
  p := by
    intro S m X Q h
    unfold wpP at h
    exact h.elim
  a := by
    intro S m X Q h
    unfold wpA at h
    exact h.elim
  w := by
    intro S m X Q h
    unfold wpW at h
    exact h.elim
  av := by
    intro S m X Q h
    unfold wpAndV at h
    exact h.elim
  ov := by
    intro S m X Q h
    unfold wpOrV at h
    exact h.elim
  b := by
    intro S m X Q h
    unfold wpB at h
    exact h.elim
  ab := by
    intro S m X Q h
    unfold wpAndB at h
    exact h.elim
  ob := by
    intro S m X Q h
    unfold wpOrB at h
    exact h.elim
  i := by
    intro S m X Q h
    unfold wpI at h
    simp only [evI]
    rw [wp_bind]
    refine wp_mono (iha.e h) fun x m1 h => ?_
    rw [wp_bind]
    refine wp_mono (ihb.e h) fun y m2 h => ?_
    rw [wp_bind]
    refine wp_mono (ihc.e h) fun z m3 h => ?_
    split at h
    · rename_i i j k hi hj hk
      (try rw [hi, hj, hk]); exact wp_need h.1 h.2
    · exact h.elim
theorem wpe_enu {a : T} (iha : WpE gl cf a) : WpE gl cf (.enu a) where
  e := by
    intro S m X Q h
    unfold wpE at h
    exact h.elim
  p := by
    intro S m X Q h
    unfold wpP at h
    exact h.elim
  a := by
    intro S m X Q h
    unfold wpA at h
    exact h.elim
  w := by
    intro S m X Q h
    unfold wpW at h
    exact h.elim
  av := by
    intro S m X Q h
    unfold wpAndV at h
    exact h.elim
  ov := by
    intro S m X Q h
    unfold wpOrV at h
    exact h.elim
  b := by
    intro S m X Q h
    unfold wpB at h
    exact h.elim
  ab := by
    intro S m X Q h
    unfold wpAndB at h
    exact h.elim
  ob := by
    intro S m X Q h
    unfold wpOrB at h
    exact h.elim
  i := by
    intro S m X Q h
    unfold wpI at h
    simp only [evI]
    rw [wp_bind]
    refine wp_mono (iha.e h) fun x m1 h => ?_
    rw [wp_bind]
    refine wp_toV h fun h => ?_
    split at h
    · rename_i hd; (try rw [hd]); exact h
    · rename_i hd; (try rw [hd]); exact h
    · exact h.elim
theorem wpe_tn {i : Nat}  : WpE gl cf (.tn i) where
  e := by
    intro S m X Q h
    unfold wpE at h
    exact h.elim
  p := by
    intro S m X Q h
    unfold wpP at h
    exact h.elim
  a := by
    intro S m X Q h
    unfold wpA at h
    exact h.elim
  w := by
    intro S m X Q h
    unfold wpW at h
    exact h.elim
  av := by
    intro S m X Q h
    unfold wpAndV at h
    exact h.elim
  ov := by
    intro S m X Q h
    unfold wpOrV at h
    exact h.elim
  b := by
    intro S m X Q h
    unfold wpB at h
    exact h.elim
  ab := by
    intro S m X Q h
    unfold wpAndB at h
    exact h.elim
  ob := by
    intro S m X Q h
    unfold wpOrB at h
    exact h.elim
  i := by
    intro S m X Q h
    unfold wpI at h
    exact h.elim
theorem wpe_tt {a : T} (iha : WpE gl cf a) : WpE gl cf (.tt a) where
  e := by
    intro S m X Q h
    unfold wpE at h
    exact h.elim
  p := by
    intro S m X Q h
    unfold wpP at h
    exact h.elim
  a := by
    intro S m X Q h
    unfold wpA at h
    exact h.elim
  w := by
    intro S m X Q h
    unfold wpW at h
    exact h.elim
  av := by
    intro S m X Q h
    unfold wpAndV at h
    exact h.elim
  ov := by
    intro S m X Q h
    unfold wpOrV at h
    exact h.elim
  b := by
    intro S m X Q h
    unfold wpB at h
    exact h.elim
  ab := by
    intro S m X Q h
    unfold wpAndB at h
    exact h.elim
  ob := by
    intro S m X Q h
    unfold wpOrB at h
    exact h.elim
  i := by
    intro S m X Q h
    unfold wpI at h
    exact h.elim
theorem wpe_asg {tg : T} {e : T} (ihtg : WpE gl cf tg) (ihe : WpE gl cf e) : WpE gl cf (.asg tg e) where
  e := by
    intro S m X Q h
    unfold wpE at h
    exact h.elim
  p := by
    intro S m X Q h
    unfold wpP at h
    exact h.elim
  a := by
    intro S m X Q h
    unfold wpA at h
    exact h.elim
  w := by
    intro S m X Q h
    unfold wpW at h
    exact h.elim
  av := by
    intro S m X Q h
    unfold wpAndV at h
    exact h.elim
  ov := by
    intro S m X Q h
    unfold wpOrV at h
    exact h.elim
  b := by
    intro S m X Q h
    unfold wpB at h
    exact h.elim
  ab := by
    intro S m X Q h
    unfold wpAndB at h
    exact h.elim
  ob := by
    intro S m X Q h
    unfold wpOrB at h
    exact h.elim
  i := by
    intro S m X Q h
    unfold wpI at h
    exact h.elim
theorem wpe_asgc {i : Nat} {e : T} (ihe : WpE gl cf e) : WpE gl cf (.asgc i e) where
  e := by
    intro S m X Q h
    unfold wpE at h
    exact h.elim
  p := by
    intro S m X Q h
    unfold wpP at h
    exact h.elim
  a := by
    intro S m X Q h
    unfold wpA at h
    exact h.elim
  w := by
    intro S m X Q h
    unfold wpW at h
    exact h.elim
  av := by
    intro S m X Q h
    unfold wpAndV at h
    exact h.elim
  ov := by
    intro S m X Q h
    unfold wpOrV at h
    exact h.elim
  b := by
    intro S m X Q h
    unfold wpB at h
    exact h.elim
  ab := by
    intro S m X Q h
    unfold wpAndB at h
    exact h.elim
  ob := by
    intro S m X Q h
    unfold wpOrB at h
    exact h.elim
  i := by
    intro S m X Q h
    unfold wpI at h
    exact h.elim
theorem wpe_par {i : Nat} {j : Nat} {a : T} {b : T} (iha : WpE gl cf a) (ihb : WpE gl cf b) : WpE gl cf (.par i j a b) where
  e := by
    intro S m X Q h
    unfold wpE at h
    exact h.elim
  p := by
    intro S m X Q h
    unfold wpP at h
    exact h.elim
  a := by
    intro S m X Q h
    unfold wpA at h
    exact h.elim
  w := by
    intro S m X Q h
    unfold wpW at h
    exact h.elim
  av := by
    intro S m X Q h
    unfold wpAndV at h
    exact h.elim
  ov := by
    intro S m X Q h
    unfold wpOrV at h
    exact h.elim
  b := by
    intro S m X Q h
    unfold wpB at h
    exact h.elim
  ab := by
    intro S m X Q h
    unfold wpAndB at h
    exact h.elim
  ob := by
    intro S m X Q h
    unfold wpOrB at h
    exact h.elim
  i := by
    intro S m X Q h
    unfold wpI at h
    exact h.elim
theorem wpe_ret {e : T} (ihe : WpE gl cf e) : WpE gl cf (.ret e) where
  e := by
    intro S m X Q h
    unfold wpE at h
    exact h.elim
  p := by
    intro S m X Q h
    unfold wpP at h
    exact h.elim
  a := by
    intro S m X Q h
    unfold wpA at h
    exact h.elim
  w := by
    intro S m X Q h
    unfold wpW at h
    exact h.elim
  av := by
    intro S m X Q h
    unfold wpAndV at h
    exact h.elim
  ov := by
    intro S m X Q h
    unfold wpOrV at h
    exact h.elim
  b := by
    intro S m X Q h
    unfold wpB at h
    exact h.elim
  ab := by
    intro S m X Q h
    unfold wpAndB at h
    exact h.elim
  ob := by
    intro S m X Q h
    unfold wpOrB at h
    exact h.elim
  i := by
    intro S m X Q h
    unfold wpI at h
    exact h.elim
theorem wpe_retm {i : Nat}  : WpE gl cf (.retm i) where
  e := by
    intro S m X Q h
    unfold wpE at h
    exact h.elim
  p := by
    intro S m X Q h
    unfold wpP at h
    exact h.elim
  a := by
    intro S m X Q h
    unfold wpA at h
    exact h.elim
  w := by
    intro S m X Q h
    unfold wpW at h
    exact h.elim
  av := by
    intro S m X Q h
    unfold wpAndV at h
    exact h.elim
  ov := by
    intro S m X Q h
    unfold wpOrV at h
    exact h.elim
  b := by
    intro S m X Q h
    unfold wpB at h
    exact h.elim
  ab := by
    intro S m X Q h
    unfold wpAndB at h
    exact h.elim
  ob := by
    intro S m X Q h
    unfold wpOrB at h
    exact h.elim
  i := by
    intro S m X Q h
    unfold wpI at h
    exact h.elim
theorem wpe_retn   : WpE gl cf (.retn ) where
  e := by
    intro S m X Q h
    unfold wpE at h
    exact h.elim
  p := by
    intro S m X Q h
    unfold wpP at h
    exact h.elim
  a := by
    intro S m X Q h
    unfold wpA at h
    exact h.elim
  w := by
    intro S m X Q h
    unfold wpW at h
    exact h.elim
  av := by
    intro S m X Q h
    unfold wpAndV at h
    exact h.elim
  ov := by
    intro S m X Q h
    unfold wpOrV at h
    exact h.elim
  b := by
    intro S m X Q h
    unfold wpB at h
    exact h.elim
  ab := by
    intro S m X Q h
    unfold wpAndB at h
    exact h.elim
  ob := by
    intro S m X Q h
    unfold wpOrB at h
    exact h.elim
  i := by
    intro S m X Q h
    unfold wpI at h
    exact h.elim
theorem wpe_exp {e : T} (ihe : WpE gl cf e) : WpE gl cf (.exp e) where
  e := by
    intro S m X Q h
    unfold wpE at h
    exact h.elim
  p := by
    intro S m X Q h
    unfold wpP at h
    exact h.elim
  a := by
    intro S m X Q h
    unfold wpA at h
    exact h.elim
  w := by
    intro S m X Q h
    unfold wpW at h
    exact h.elim
  av := by
    intro S m X Q h
    unfold wpAndV at h
    exact h.elim
  ov := by
    intro S m X Q h
    unfold wpOrV at h
    exact h.elim
  b := by
    intro S m X Q h
    unfold wpB at h
    exact h.elim
  ab := by
    intro S m X Q h
    unfold wpAndB at h
    exact h.elim
  ob := by
    intro S m X Q h
    unfold wpOrB at h
    exact h.elim
  i := by
    intro S m X Q h
    unfold wpI at h
    exact h.elim
theorem wpe_app {i : Nat} {e : T} (ihe : WpE gl cf e) : WpE gl cf (.app i e) where
  e := by
    intro S m X Q h
    unfold wpE at h
    exact h.elim
  p := by
    intro S m X Q h
    unfold wpP at h
    exact h.elim
  a := by
    intro S m X Q h
    unfold wpA at h
    exact h.elim
  w := by
    intro S m X Q h
    unfold wpW at h
    exact h.elim
  av := by
    intro S m X Q h
    unfold wpAndV at h
    exact h.elim
  ov := by
    intro S m X Q h
    unfold wpOrV at h
    exact h.elim
  b := by
    intro S m X Q h
    unfold wpB at h
    exact h.elim
  ab := by
    intro S m X Q h
    unfold wpAndB at h
    exact h.elim
  ob := by
    intro S m X Q h
    unfold wpOrB at h
    exact h.elim
  i := by
    intro S m X Q h
    unfold wpI at h
    exact h.elim
theorem wpe_seti {i : Nat} {k : T} {e : T} (ihk : WpE gl cf k) (ihe : WpE gl cf e) : WpE gl cf (.seti i k e) where
  e := by
    intro S m X Q h
    unfold wpE at h
    exact h.elim
  p := by
    intro S m X Q h
    unfold wpP at h
    exact h.elim
  a := by
    intro S m X Q h
    unfold wpA at h
    exact h.elim
  w := by
    intro S m X Q h
    unfold wpW at h
    exact h.elim
  av := by
    intro S m X Q h
    unfold wpAndV at h
    exact h.elim
  ov := by
    intro S m X Q h
    unfold wpOrV at h
    exact h.elim
  b := by
    intro S m X Q h
    unfold wpB at h
    exact h.elim
  ab := by
    intro S m X Q h
    unfold wpAndB at h
    exact h.elim
  ob := by
    intro S m X Q h
    unfold wpOrB at h
    exact h.elim
  i := by
    intro S m X Q h
    unfold wpI at h
    exact h.elim
theorem wpe_oset {o : T} {k : T} {e : T} (iho : WpE gl cf o) (ihk : WpE gl cf k) (ihe : WpE gl cf e) : WpE gl cf (.oset o k e) where
  e := by
    intro S m X Q h
    unfold wpE at h
    exact h.elim
  p := by
    intro S m X Q h
    unfold wpP at h
    exact h.elim
  a := by
    intro S m X Q h
    unfold wpA at h
    exact h.elim
  w := by
    intro S m X Q h
    unfold wpW at h
    exact h.elim
  av := by
    intro S m X Q h
    unfold wpAndV at h
    exact h.elim
  ov := by
    intro S m X Q h
    unfold wpOrV at h
    exact h.elim
  b := by
    intro S m X Q h
    unfold wpB at h
    exact h.elim
  ab := by
    intro S m X Q h
    unfold wpAndB at h
    exact h.elim
  ob := by
    intro S m X Q h
    unfold wpOrB at h
    exact h.elim
  i := by
    intro S m X Q h
    unfold wpI at h
    exact h.elim
theorem wpe_iff {c : T} {a : T} {b : T} (ihc : WpE gl cf c) (iha : WpE gl cf a) (ihb : WpE gl cf b) : WpE gl cf (.iff c a b) where
  e := by
    intro S m X Q h
    unfold wpE at h
    exact h.elim
  p := by
    intro S m X Q h
    unfold wpP at h
    exact h.elim
  a := by
    intro S m X Q h
    unfold wpA at h
    exact h.elim
  w := by
    intro S m X Q h
    unfold wpW at h
    exact h.elim
  av := by
    intro S m X Q h
    unfold wpAndV at h
    exact h.elim
  ov := by
    intro S m X Q h
    unfold wpOrV at h
    exact h.elim
  b := by
    intro S m X Q h
    unfold wpB at h
    exact h.elim
  ab := by
    intro S m X Q h
    unfold wpAndB at h
    exact h.elim
  ob := by
    intro S m X Q h
    unfold wpOrB at h
    exact h.elim
  i := by
    intro S m X Q h
    unfold wpI at h
    exact h.elim
theorem wpe_for_ {tg : T} {it : T} {b : T} (ihtg : WpE gl cf tg) (ihit : WpE gl cf it) (ihb : WpE gl cf b) : WpE gl cf (.for_ tg it b) where
  e := by
    intro S m X Q h
    unfold wpE at h
    exact h.elim
  p := by
    intro S m X Q h
    unfold wpP at h
    exact h.elim
  a := by
    intro S m X Q h
    unfold wpA at h
    exact h.elim
  w := by
    intro S m X Q h
    unfold wpW at h
    exact h.elim
  av := by
    intro S m X Q h
    unfold wpAndV at h
    exact h.elim
  ov := by
    intro S m X Q h
    unfold wpOrV at h
    exact h.elim
  b := by
    intro S m X Q h
    unfold wpB at h
    exact h.elim
  ab := by
    intro S m X Q h
    unfold wpAndB at h
    exact h.elim
  ob := by
    intro S m X Q h
    unfold wpOrB at h
    exact h.elim
  i := by
    intro S m X Q h
    unfold wpI at h
    exact h.elim
theorem wpe_shr {i : Nat}  : WpE gl cf (.shr i) where
  e := by
    intro S m X Q h
    unfold wpE at h
    exact h.elim
  p := by
    intro S m X Q h
    unfold wpP at h
    exact h.elim
  a := by
    intro S m X Q h
    unfold wpA at h
    exact h.elim
  w := by
    intro S m X Q h
    unfold wpW at h
    exact h.elim
  av := by
    intro S m X Q h
    unfold wpAndV at h
    exact h.elim
  ov := by
    intro S m X Q h
    unfold wpOrV at h
    exact h.elim
  b := by
    intro S m X Q h
    unfold wpB at h
    exact h.elim
  ab := by
    intro S m X Q h
    unfold wpAndB at h
    exact h.elim
  ob := by
    intro S m X Q h
    unfold wpOrB at h
    exact h.elim
  i := by
    intro S m X Q h
    unfold wpI at h
    exact h.elim
theorem wpe_seq {a : T} {b : T} (iha : WpE gl cf a) (ihb : WpE gl cf b) : WpE gl cf (.seq a b) where
  e := by
    intro S m X Q h
    unfold wpE at h
    exact h.elim
  p := by
    intro S m X Q h
    unfold wpP at h
    exact h.elim
  a := by
    intro S m X Q h
    unfold wpA at h
    exact h.elim
  w := by
    intro S m X Q h
    unfold wpW at h
    exact h.elim
  av := by
    intro S m X Q h
    unfold wpAndV at h
    exact h.elim
  ov := by
    intro S m X Q h
    unfold wpOrV at h
    exact h.elim
  b := by
    intro S m X Q h
    unfold wpB at h
    exact h.elim
  ab := by
    intro S m X Q h
    unfold wpAndB at h
    exact h.elim
  ob := by
    intro S m X Q h
    unfold wpOrB at h
    exact h.elim
  i := by
    intro S m X Q h
    unfold wpI at h
    exact h.elim
theorem wpe_skip   : WpE gl cf (.skip ) where
  e := by
    intro S m X Q h
    unfold wpE at h
    exact h.elim
  p := by
    intro S m X Q h
    unfold wpP at h
    exact h.elim
  a := by
    intro S m X Q h
    unfold wpA at h
    exact h.elim
  w := by
    intro S m X Q h
    unfold wpW at h
    exact h.elim
  av := by
    intro S m X Q h
    unfold wpAndV at h
    exact h.elim
  ov := by
    intro S m X Q h
    unfold wpOrV at h
    exact h.elim
  b := by
    intro S m X Q h
    unfold wpB at h
    exact h.elim
  ab := by
    intro S m X Q h
    unfold wpAndB at h
    exact h.elim
  ob := by
    intro S m X Q h
    unfold wpOrB at h
    exact h.elim
  i := by
    intro S m X Q h
    unfold wpI at h
    exact h.elim
theorem wpe_stk   : WpE gl cf (.stk ) where
  e := by
    intro S m X Q h
    unfold wpE at h
    exact h.elim
  p := by
    intro S m X Q h
    unfold wpP at h
    exact h.elim
  a := by
    intro S m X Q h
    unfold wpA at h
    exact h.elim
  w := by
    intro S m X Q h
    unfold wpW at h
    exact h.elim
  av := by
    intro S m X Q h
    unfold wpAndV at h
    exact h.elim
  ov := by
    intro S m X Q h
    unfold wpOrV at h
    exact h.elim
  b := by
    intro S m X Q h
    unfold wpB at h
    exact h.elim
  ab := by
    intro S m X Q h
    unfold wpAndB at h
    exact h.elim
  ob := by
    intro S m X Q h
    unfold wpOrB at h
    exact h.elim
  i := by
    intro S m X Q h
    unfold wpI at h
    exact h.elim
theorem wpe_jn {x : Str} {a : T} (iha : WpE gl cf a) : WpE gl cf (.jn x a) where
  e := by
    intro S m X Q h
    unfold wpE at h
    simp only [evE]
    rw [wp_bind]
    refine wp_mono (iha.e h) fun y m1 h => ?_
    refine wp_opt ?_
    obtain ⟨d, e, k⟩ := h
    rw [e]; exact k
  p := by
    intro S m X Q h
    unfold wpP at h
    exact h.elim
  a := by
    intro S m X Q h
    unfold wpA at h
    exact h.elim
  w := by
    intro S m X Q h
    unfold wpW at h
    exact h.elim
  av := by
    intro S m X Q h
    unfold wpAndV at h
    exact h.elim
  ov := by
    intro S m X Q h
    unfold wpOrV at h
    exact h.elim
  b := by
    intro S m X Q h
    unfold wpB at h
    exact h.elim
  ab := by
    intro S m X Q h
    unfold wpAndB at h
    exact h.elim
  ob := by
    intro S m X Q h
    unfold wpOrB at h
    exact h.elim
  i := by
    intro S m X Q h
    unfold wpI at h
    exact h.elim
theorem wpe_ext {i : Nat} {e : T} (ihe : WpE gl cf e) : WpE gl cf (.ext i e) where
  e := by
    intro S m X Q h
    unfold wpE at h
    exact h.elim
  p := by
    intro S m X Q h
    unfold wpP at h
    exact h.elim
  a := by
    intro S m X Q h
    unfold wpA at h
    exact h.elim
  w := by
    intro S m X Q h
    unfold wpW at h
    exact h.elim
  av := by
    intro S m X Q h
    unfold wpAndV at h
    exact h.elim
  ov := by
    intro S m X Q h
    unfold wpOrV at h
    exact h.elim
  b := by
    intro S m X Q h
    unfold wpB at h
    exact h.elim
  ab := by
    intro S m X Q h
    unfold wpAndB at h
    exact h.elim
  ob := by
    intro S m X Q h
    unfold wpOrB at h
    exact h.elim
  i := by
    intro S m X Q h
    unfold wpI at h
    exact h.elim
theorem wpe_xat {j : Nat} {a : T} (iha : WpE gl cf a) : WpE gl cf (.xat j a) where
  e := by
    intro S m X Q h
    unfold wpE at h
    simp only [evE]
    rw [wp_bind]
    refine wp_mono (iha.e h) fun x m1 h => ?_
    split at h
    · rename_i c0 fs hd
      (try rw [hd])
      refine wp_opt ?_
      cases q : fs[j]? with
      | none => rw [q] at h; exact h.elim
      | some d => rw [q] at h; exact h
    · exact h.elim
  p := by
    intro S m X Q h
    unfold wpP at h
    exact h.elim
  a := by
    intro S m X Q h
    unfold wpA at h
    exact h.elim
  w := by
    intro S m X Q h
    unfold wpW at h
    exact h.elim
  av := by
    intro S m X Q h
    unfold wpAndV at h
    exact h.elim
  ov := by
    intro S m X Q h
    unfold wpOrV at h
    exact h.elim
  b := by
    intro S m X Q h
    unfold wpB at h
    exact h.elim
  ab := by
    intro S m X Q h
    unfold wpAndB at h
    exact h.elim
  ob := by
    intro S m X Q h
    unfold wpOrB at h
    exact h.elim
  i := by
    intro S m X Q h
    unfold wpI at h
    exact h.elim
theorem wpe_xis {y : Nat} {a : T} (iha : WpE gl cf a) : WpE gl cf (.xis y a) where
  e := by
    intro S m X Q h
    unfold wpE at h
    simp only [evE]
    rw [wp_bind]
    refine wp_mono (iha.e h) fun x m1 h => ?_
    split at h
    · rename_i c0 fs hd
      (try rw [hd]); exact h
    · exact h.elim
  p := by
    intro S m X Q h
    unfold wpP at h
    exact h.elim
  a := by
    intro S m X Q h
    unfold wpA at h
    exact h.elim
  w := by
    intro S m X Q h
    unfold wpW at h
    exact h.elim
  av := by
    intro S m X Q h
    unfold wpAndV at h
    exact h.elim
  ov := by
    intro S m X Q h
    unfold wpOrV at h
    exact h.elim
  b := by
    intro S m X Q h
    unfold wpB at h
    exact h.elim
  ab := by
    intro S m X Q h
    unfold wpAndB at h
    exact h.elim
  ob := by
    intro S m X Q h
    unfold wpOrB at h
    exact h.elim
  i := by
    intro S m X Q h
    unfold wpI at h
    exact h.elim
theorem wpe_rai {c : Nat} {w : Str} {a : T} (iha : WpE gl cf a) : WpE gl cf (.rai c w a) where
  e := by
    intro S m X Q h
    unfold wpE at h
    exact h.elim
  p := by
    intro S m X Q h
    unfold wpP at h
    exact h.elim
  a := by
    intro S m X Q h
    unfold wpA at h
    exact h.elim
  w := by
    intro S m X Q h
    unfold wpW at h
    exact h.elim
  av := by
    intro S m X Q h
    unfold wpAndV at h
    exact h.elim
  ov := by
    intro S m X Q h
    unfold wpOrV at h
    exact h.elim
  b := by
    intro S m X Q h
    unfold wpB at h
    exact h.elim
  ab := by
    intro S m X Q h
    unfold wpAndB at h
    exact h.elim
  ob := by
    intro S m X Q h
    unfold wpOrB at h
    exact h.elim
  i := by
    intro S m X Q h
    unfold wpI at h
    exact h.elim
theorem wpe_tryy {a : T} {b : T} (iha : WpE gl cf a) (ihb : WpE gl cf b) : WpE gl cf (.tryy a b) where
  e := by
    intro S m X Q h
    unfold wpE at h
    exact h.elim
  p := by
    intro S m X Q h
    unfold wpP at h
    exact h.elim
  a := by
    intro S m X Q h
    unfold wpA at h
    exact h.elim
  w := by
    intro S m X Q h
    unfold wpW at h
    exact h.elim
  av := by
    intro S m X Q h
    unfold wpAndV at h
    exact h.elim
  ov := by
    intro S m X Q h
    unfold wpOrV at h
    exact h.elim
  b := by
    intro S m X Q h
    unfold wpB at h
    exact h.elim
  ab := by
    intro S m X Q h
    unfold wpAndB at h
    exact h.elim
  ob := by
    intro S m X Q h
    unfold wpOrB at h
    exact h.elim
  i := by
    intro S m X Q h
    unfold wpI at h
    exact h.elim
theorem wpe_hnd {y : Nat} {i : Nat} {a : T} {b : T} (iha : WpE gl cf a) (ihb : WpE gl cf b) : WpE gl cf (.hnd y i a b) where
  e := by
    intro S m X Q h
    unfold wpE at h
    exact h.elim
  p := by
    intro S m X Q h
    unfold wpP at h
    exact h.elim
  a := by
    intro S m X Q h
    unfold wpA at h
    exact h.elim
  w := by
    intro S m X Q h
    unfold wpW at h
    exact h.elim
  av := by
    intro S m X Q h
    unfold wpAndV at h
    exact h.elim
  ov := by
    intro S m X Q h
    unfold wpOrV at h
    exact h.elim
  b := by
    intro S m X Q h
    unfold wpB at h
    exact h.elim
  ab := by
    intro S m X Q h
    unfold wpAndB at h
    exact h.elim
  ob := by
    intro S m X Q h
    unfold wpOrB at h
    exact h.elim
  i := by
    intro S m X Q h
    unfold wpI at h
    exact h.elim
theorem wpe_hnb {y : Nat} {a : T} {b : T} (iha : WpE gl cf a) (ihb : WpE gl cf b) : WpE gl cf (.hnb y a b) where
  e := by
    intro S m X Q h
    unfold wpE at h
    exact h.elim
  p := by
    intro S m X Q h
    unfold wpP at h
    exact h.elim
  a := by
    intro S m X Q h
    unfold wpA at h
    exact h.elim
  w := by
    intro S m X Q h
    unfold wpW at h
    exact h.elim
  av := by
    intro S m X Q h
    unfold wpAndV at h
    exact h.elim
  ov := by
    intro S m X Q h
    unfold wpOrV at h
    exact h.elim
  b := by
    intro S m X Q h
    unfold wpB at h
    exact h.elim
  ab := by
    intro S m X Q h
    unfold wpAndB at h
    exact h.elim
  ob := by
    intro S m X Q h
    unfold wpOrB at h
    exact h.elim
  i := by
    intro S m X Q h
    unfold wpI at h
    exact h.elim
theorem wpe_dnw {i : Nat} {b : Bool}  : WpE gl cf (.dnw i b) where
  e := by
    intro S m X Q h
    unfold wpE at h
    exact h.elim
  p := by
    intro S m X Q h
    unfold wpP at h
    exact h.elim
  a := by
    intro S m X Q h
    unfold wpA at h
    exact h.elim
  w := by
    intro S m X Q h
    unfold wpW at h
    exact h.elim
  av := by
    intro S m X Q h
    unfold wpAndV at h
    exact h.elim
  ov := by
    intro S m X Q h
    unfold wpOrV at h
    exact h.elim
  b := by
    intro S m X Q h
    unfold wpB at h
    exact h.elim
  ab := by
    intro S m X Q h
    unfold wpAndB at h
    exact h.elim
  ob := by
    intro S m X Q h
    unfold wpOrB at h
    exact h.elim
  i := by
    intro S m X Q h
    unfold wpI at h
    exact h.elim
theorem wpe_dst {i : Nat} {e : T} (ihe : WpE gl cf e) : WpE gl cf (.dst i e) where
  e := by
    intro S m X Q h
    unfold wpE at h
    exact h.elim
  p := by
    intro S m X Q h
    unfold wpP at h
    exact h.elim
  a := by
    intro S m X Q h
    unfold wpA at h
    exact h.elim
  w := by
    intro S m X Q h
    unfold wpW at h
    exact h.elim
  av := by
    intro S m X Q h
    unfold wpAndV at h
    exact h.elim
  ov := by
    intro S m X Q h
    unfold wpOrV at h
    exact h.elim
  b := by
    intro S m X Q h
    unfold wpB at h
    exact h.elim
  ab := by
    intro S m X Q h
    unfold wpAndB at h
    exact h.elim
  ob := by
    intro S m X Q h
    unfold wpOrB at h
    exact h.elim
  i := by
    intro S m X Q h
    unfold wpI at h
    exact h.elim
theorem wpe_dtt {i : Nat} {a : T} (iha : WpE gl cf a) : WpE gl cf (.dtt i a) where
  e := by
    intro S m X Q h
    unfold wpE at h
    exact h.elim
  p := by
    intro S m X Q h
    unfold wpP at h
    exact h.elim
  a := by
    intro S m X Q h
    unfold wpA at h
    exact h.elim
  w := by
    intro S m X Q h
    unfold wpW at h
    exact h.elim
  av := by
    intro S m X Q h
    unfold wpAndV at h
    exact h.elim
  ov := by
    intro S m X Q h
    unfold wpOrV at h
    exact h.elim
  b := by
    intro S m X Q h
    unfold wpB at h
    exact h.elim
  ab := by
    intro S m X Q h
    unfold wpAndB at h
    exact h.elim
  ob := by
    intro S m X Q h
    unfold wpOrB at h
    exact h.elim
  i := by
    intro S m X Q h
    unfold wpI at h
    exact h.elim
theorem wpe_opn {i : Nat}  : WpE gl cf (.opn i) where
  e := by
    intro S m X Q h
    unfold wpE at h
    exact h.elim
  p := by
    intro S m X Q h
    unfold wpP at h
    exact h.elim
  a := by
    intro S m X Q h
    unfold wpA at h
    exact h.elim
  w := by
    intro S m X Q h
    unfold wpW at h
    exact h.elim
  av := by
    intro S m X Q h
    unfold wpAndV at h
    exact h.elim
  ov := by
    intro S m X Q h
    unfold wpOrV at h
    exact h.elim
  b := by
    intro S m X Q h
    unfold wpB at h
    exact h.elim
  ab := by
    intro S m X Q h
    unfold wpAndB at h
    exact h.elim
  ob := by
    intro S m X Q h
    unfold wpOrB at h
    exact h.elim
  i := by
    intro S m X Q h
    unfold wpI at h
    exact h.elim
theorem wpe_oap {i : Nat} {e : T} (ihe : WpE gl cf e) : WpE gl cf (.oap i e) where
  e := by
    intro S m X Q h
    unfold wpE at h
    exact h.elim
  p := by
    intro S m X Q h
    unfold wpP at h
    exact h.elim
  a := by
    intro S m X Q h
    unfold wpA at h
    exact h.elim
  w := by
    intro S m X Q h
    unfold wpW at h
    exact h.elim
  av := by
    intro S m X Q h
    unfold wpAndV at h
    exact h.elim
  ov := by
    intro S m X Q h
    unfold wpOrV at h
    exact h.elim
  b := by
    intro S m X Q h
    unfold wpB at h
    exact h.elim
  ab := by
    intro S m X Q h
    unfold wpAndB at h
    exact h.elim
  ob := by
    intro S m X Q h
    unfold wpOrB at h
    exact h.elim
  i := by
    intro S m X Q h
    unfold wpI at h
    exact h.elim
theorem wpe_inz {i : Nat} {a : T} (iha : WpE gl cf a) : WpE gl cf (.inz i a) where
  e := by
    intro S m X Q h
    unfold wpE at h
    exact h.elim
  p := by
    intro S m X Q h
    unfold wpP at h
    exact h.elim
  a := by
    intro S m X Q h
    unfold wpA at h
    exact h.elim
  w := by
    intro S m X Q h
    unfold wpW at h
    exact h.elim
  av := by
    intro S m X Q h
    unfold wpAndV at h
    exact h.elim
  ov := by
    intro S m X Q h
    unfold wpOrV at h
    exact h.elim
  b := by
    intro S m X Q h
    unfold wpB at h
    exact h.elim
  ab := by
    intro S m X Q h
    unfold wpAndB at h
    exact h.elim
  ob := by
    intro S m X Q h
    unfold wpOrB at h
    exact h.elim
  i := by
    intro S m X Q h
    unfold wpI at h
    exact h.elim
theorem wpe_all : ∀ t : T, WpE gl cf t := by
  intro t
  induction t with
  | non   => exact wpe_non gl cf 
  | tru   => exact wpe_tru gl cf 
  | fls   => exact wpe_fls gl cf 
  | int i  => exact wpe_int gl cf 
  | str x  => exact wpe_str gl cf 
  | var i  => exact wpe_var gl cf 
  | bvar i  => exact wpe_bvar gl cf 
  | glob j  => exact wpe_glob gl cf 
  | gfn i  => exact wpe_gfn gl cf 
  | bin o a b iha ihb => exact wpe_bin gl cf iha ihb
  | neg a iha => exact wpe_neg gl cf iha
  | cmp o a b iha ihb => exact wpe_cmp gl cf iha ihb
  | chn o p a b c iha ihb ihc => exact wpe_chn gl cf iha ihb ihc
  | ban a iha => exact wpe_ban gl cf iha
  | bor a iha => exact wpe_bor gl cf iha
  | not a iha => exact wpe_not gl cf iha
  | ite c a b ihc iha ihb => exact wpe_ite gl cf ihc iha ihb
  | tup a iha => exact wpe_tup gl cf iha
  | lst a iha => exact wpe_lst gl cf iha
  | olst a iha => exact wpe_olst gl cf iha
  | idx a i iha ihi => exact wpe_idx gl cf iha ihi
  | slc a lo hi iha ihlo ihhi => exact wpe_slc gl cf iha ihlo ihhi
  | call f a iha => exact wpe_call gl cf iha
  | callv i a iha => exact wpe_callv gl cf iha
  | blt f a iha => exact wpe_blt gl cf iha
  | isi a t iha => exact wpe_isi gl cf iha
  | lc e c tg it own ihe ihc ihtg ihit => exact wpe_lc gl cf ihe ihc ihtg ihit
  | lc2 e c tg it tg2 it2 own own2 ihe ihc ihtg ihit ihtg2 ihit2 => exact wpe_lc2 gl cf ihe ihc ihtg ihit ihtg2 ihit2
  | sd2 e tg it tg2 it2 own own2 ihe ihtg ihit ihtg2 ihit2 => exact wpe_sd2 gl cf ihe ihtg ihit ihtg2 ihit2
  | lc3 e tg it tg2 it2 tg3 it3 own own2 own3 ihe ihtg ihit ihtg2 ihit2 ihtg3 ihit3 => exact wpe_lc3 gl cf ihe ihtg ihit ihtg2 ihit2 ihtg3 ihit3
  | lnd i c ihc => exact wpe_lnd gl cf ihc
  | nil   => exact wpe_nil gl cf 
  | cons a b iha ihb => exact wpe_cons gl cf iha ihb
  | one a iha => exact wpe_one gl cf iha
  | tst a iha => exact wpe_tst gl cf iha
  | prt a iha => exact wpe_prt gl cf iha
  | itv a iha => exact wpe_itv gl cf iha
  | rg1 a iha => exact wpe_rg1 gl cf iha
  | rg2 a b iha ihb => exact wpe_rg2 gl cf iha ihb
  | rg3 a b c iha ihb ihc => exact wpe_rg3 gl cf iha ihb ihc
  | enu a iha => exact wpe_enu gl cf iha
  | tn i  => exact wpe_tn gl cf 
  | tt a iha => exact wpe_tt gl cf iha
  | asg tg e ihtg ihe => exact wpe_asg gl cf ihtg ihe
  | asgc i e ihe => exact wpe_asgc gl cf ihe
  | par i j a b iha ihb => exact wpe_par gl cf iha ihb
  | ret e ihe => exact wpe_ret gl cf ihe
  | retm i  => exact wpe_retm gl cf 
  | retn   => exact wpe_retn gl cf 
  | exp e ihe => exact wpe_exp gl cf ihe
  | app i e ihe => exact wpe_app gl cf ihe
  | seti i k e ihk ihe => exact wpe_seti gl cf ihk ihe
  | oset o k e iho ihk ihe => exact wpe_oset gl cf iho ihk ihe
  | iff c a b ihc iha ihb => exact wpe_iff gl cf ihc iha ihb
  | for_ tg it b ihtg ihit ihb => exact wpe_for_ gl cf ihtg ihit ihb
  | shr i  => exact wpe_shr gl cf 
  | seq a b iha ihb => exact wpe_seq gl cf iha ihb
  | skip   => exact wpe_skip gl cf 
  | stk   => exact wpe_stk gl cf 
  | jn x a iha => exact wpe_jn gl cf iha
  | ext i e ihe => exact wpe_ext gl cf ihe
  | xat j a iha => exact wpe_xat gl cf iha
  | xis y a iha => exact wpe_xis gl cf iha
  | rai c w a iha => exact wpe_rai gl cf iha
  | tryy a b iha ihb => exact wpe_tryy gl cf iha ihb
  | hnd y i a b iha ihb => exact wpe_hnd gl cf iha ihb
  | hnb y a b iha ihb => exact wpe_hnb gl cf iha ihb
  | dnw i b  => exact wpe_dnw gl cf 
  | dst i e ihe => exact wpe_dst gl cf ihe
  | dtt i a iha => exact wpe_dtt gl cf iha
  | opn i  => exact wpe_opn gl cf 
  | oap i e ihe => exact wpe_oap gl cf ihe
  | inz i a iha => exact wpe_inz gl cf iha
theorem wp_exit {m : MS} {r : Res (Fl × Sto)} {Qn : Sto → MS → Prop} {Qr : D × Kd → MS → Prop} {Qx : XS} (h : wpx noE r (stX (fun _ _ => False) (exitQ m Qr) noS)) : wpx noE (exitR m r) (stX Qn Qr Qx) := by
  match r, h with
  | .ok (.nx, S') m', h => exact h.elim
  | .ok (.rt d .bor, S') m', h => exact h.elim
  | .ok (.rt d .sh, S') m', h =>
    have h : condP (cln d) (sameM m' m ∧ Qr (d, .sh) m) False := h
    show wpx noE (needR (cln d = true ∧ m'.w = m.w ∧ m'.objs.length = m.objs.length) fun _ => Res.ok (Fl.rt d Kd.sh, S') m) (stX Qn Qr Qx)
    cases q : cln d with
    | false => rw [q] at h; exact h.elim
    | true =>
      rw [q] at h
      exact wp_need ⟨rfl, h.1⟩ h.2
  | .ok (.rt d .own, S') m', h =>
    have h : condP (cln d) (sameM m' m ∧ Qr (d, .own) m) False := h
    show wpx noE (needR (cln d = true ∧ m'.w = m.w ∧ m'.objs.length = m.objs.length) fun _ => Res.ok (Fl.rt d Kd.own, S') m) (stX Qn Qr Qx)
    cases q : cln d with
    | false => rw [q] at h; exact h.elim
    | true =>
      rw [q] at h
      exact wp_need ⟨rfl, h.1⟩ h.2
  | .ok (.xc c fs, S') m', h => exact h.elim
structure WpS (t : T) : Prop where
  s : ∀ {S : Sto} {m : MS} {Qn : Sto → MS → Prop} {Qr : D × Kd → MS → Prop} {Qx : XS}, wpS gl cf t S m Qn Qr Qx → wpx noE (evS gl cf t S m) (stX Qn Qr Qx)
  h : ∀ {c : Nat} {fs : List D} {S : Sto} {m : MS} {Qn : Sto → MS → Prop} {Qr : D × Kd → MS → Prop} {Qx : XS}, wpH gl cf t c fs S m Qr Qx → wpx noE (evH gl cf t c fs S m) (stX Qn Qr Qx)
theorem wps_non   : WpS gl cf (.non ) where
  s := by
    intro S m Qn Qr Qx h
    unfold wpS at h
    exact h.elim
  h := by
    intro c_ fs_ S m Qn Qr Qx h
    unfold wpH at h
    exact h.elim
theorem wps_tru   : WpS gl cf (.tru ) where
  s := by
    intro S m Qn Qr Qx h
    unfold wpS at h
    exact h.elim
  h := by
    intro c_ fs_ S m Qn Qr Qx h
    unfold wpH at h
    exact h.elim
theorem wps_fls   : WpS gl cf (.fls ) where
  s := by
    intro S m Qn Qr Qx h
    unfold wpS at h
    exact h.elim
  h := by
    intro c_ fs_ S m Qn Qr Qx h
    unfold wpH at h
    exact h.elim
theorem wps_int {i : Int}  : WpS gl cf (.int i) where
  s := by
    intro S m Qn Qr Qx h
    unfold wpS at h
    exact h.elim
  h := by
    intro c_ fs_ S m Qn Qr Qx h
    unfold wpH at h
    exact h.elim
theorem wps_str {x : Str}  : WpS gl cf (.str x) where
  s := by
    intro S m Qn Qr Qx h
    unfold wpS at h
    exact h.elim
  h := by
    intro c_ fs_ S m Qn Qr Qx h
    unfold wpH at h
    exact h.elim
theorem wps_var {i : Nat}  : WpS gl cf (.var i) where
  s := by
    intro S m Qn Qr Qx h
    unfold wpS at h
    exact h.elim
  h := by
    intro c_ fs_ S m Qn Qr Qx h
    unfold wpH at h
    exact h.elim
theorem wps_bvar {i : Nat}  : WpS gl cf (.bvar i) where
  s := by
    intro S m Qn Qr Qx h
    unfold wpS at h
    exact h.elim
  h := by
    intro c_ fs_ S m Qn Qr Qx h
    unfold wpH at h
    exact h.elim
theorem wps_glob {j : Nat}  : WpS gl cf (.glob j) where
  s := by
    intro S m Qn Qr Qx h
    unfold wpS at h
    exact h.elim
  h := by
    intro c_ fs_ S m Qn Qr Qx h
    unfold wpH at h
    exact h.elim
theorem wps_gfn {i : Nat}  : WpS gl cf (.gfn i) where
  s := by
    intro S m Qn Qr Qx h
    unfold wpS at h
    exact h.elim
  h := by
    intro c_ fs_ S m Qn Qr Qx h
    unfold wpH at h
    exact h.elim
theorem wps_bin {o : BO} {a : T} {b : T} (iha : WpS gl cf a) (ihb : WpS gl cf b) : WpS gl cf (.bin o a b) where
  s := by
    intro S m Qn Qr Qx h
    unfold wpS at h
    exact h.elim
  h := by
    intro c_ fs_ S m Qn Qr Qx h
    unfold wpH at h
    exact h.elim
theorem wps_neg {a : T} (iha : WpS gl cf a) : WpS gl cf (.neg a) where
  s := by
    intro S m Qn Qr Qx h
    unfold wpS at h
    exact h.elim
  h := by
    intro c_ fs_ S m Qn Qr Qx h
    unfold wpH at h
    exact h.elim
theorem wps_cmp {o : CO} {a : T} {b : T} (iha : WpS gl cf a) (ihb : WpS gl cf b) : WpS gl cf (.cmp o a b) where
  s := by
    intro S m Qn Qr Qx h
    unfold wpS at h
    exact h.elim
  h := by
    intro c_ fs_ S m Qn Qr Qx h
    unfold wpH at h
    exact h.elim
theorem wps_chn {o : CO} {p : CO} {a : T} {b : T} {c : T} (iha : WpS gl cf a) (ihb : WpS gl cf b) (ihc : WpS gl cf c) : WpS gl cf (.chn o p a b c) where
  s := by
    intro S m Qn Qr Qx h
    unfold wpS at h
    exact h.elim
  h := by
    intro c_ fs_ S m Qn Qr Qx h
    unfold wpH at h
    exact h.elim
theorem wps_ban {a : T} (iha : WpS gl cf a) : WpS gl cf (.ban a) where
  s := by
    intro S m Qn Qr Qx h
    unfold wpS at h
    exact h.elim
  h := by
    intro c_ fs_ S m Qn Qr Qx h
    unfold wpH at h
    exact h.elim
theorem wps_bor {a : T} (iha : WpS gl cf a) : WpS gl cf (.bor a) where
  s := by
    intro S m Qn Qr Qx h
    unfold wpS at h
    exact h.elim
  h := by
    intro c_ fs_ S m Qn Qr Qx h
    unfold wpH at h
    exact h.elim
theorem wps_not {a : T} (iha : WpS gl cf a) : WpS gl cf (.not a) where
  s := by
    intro S m Qn Qr Qx h
    unfold wpS at h
    exact h.elim
  h := by
    intro c_ fs_ S m Qn Qr Qx h
    unfold wpH at h
    exact h.elim
theorem wps_ite {c : T} {a : T} {b : T} (ihc : WpS gl cf c) (iha : WpS gl cf a) (ihb : WpS gl cf b) : WpS gl cf (.ite c a b) where
  s := by
    intro S m Qn Qr Qx h
    unfold wpS at h
    exact h.elim
  h := by
    intro c_ fs_ S m Qn Qr Qx h
    unfold wpH at h
    exact h.elim
theorem wps_tup {a : T} (iha : WpS gl cf a) : WpS gl cf (.tup a) where
  s := by
    intro S m Qn Qr Qx h
    unfold wpS at h
    exact h.elim
  h := by
    intro c_ fs_ S m Qn Qr Qx h
    unfold wpH at h
    exact h.elim
theorem wps_lst {a : T} (iha : WpS gl cf a) : WpS gl cf (.lst a) where
  s := by
    intro S m Qn Qr Qx h
    unfold wpS at h
    exact h.elim
  h := by
    intro c_ fs_ S m Qn Qr Qx h
    unfold wpH at h
    exact h.elim
theorem wps_olst {a : T} (iha : WpS gl cf a) : WpS gl cf (.olst a) where
  s := by
    intro S m Qn Qr Qx h
    unfold wpS at h
    exact h.elim
  h := by
    intro c_ fs_ S m Qn Qr Qx h
    unfold wpH at h
    exact h.elim
theorem wps_idx {a : T} {i : T} (iha : WpS gl cf a) (ihi : WpS gl cf i) : WpS gl cf (.idx a i) where
  s := by
    intro S m Qn Qr Qx h
    unfold wpS at h
    exact h.elim
  h := by
    intro c_ fs_ S m Qn Qr Qx h
    unfold wpH at h
    exact h.elim
theorem wps_slc {a : T} {lo : T} {hi : T} (iha : WpS gl cf a) (ihlo : WpS gl cf lo) (ihhi : WpS gl cf hi) : WpS gl cf (.slc a lo hi) where
  s := by
    intro S m Qn Qr Qx h
    unfold wpS at h
    exact h.elim
  h := by
    intro c_ fs_ S m Qn Qr Qx h
    unfold wpH at h
    exact h.elim
theorem wps_call {f : Nat} {a : T} (iha : WpS gl cf a) : WpS gl cf (.call f a) where
  s := by
    intro S m Qn Qr Qx h
    unfold wpS at h
    exact h.elim
  h := by
    intro c_ fs_ S m Qn Qr Qx h
    unfold wpH at h
    exact h.elim
theorem wps_callv {i : Nat} {a : T} (iha : WpS gl cf a) : WpS gl cf (.callv i a) where
  s := by
    intro S m Qn Qr Qx h
    unfold wpS at h
    exact h.elim
  h := by
    intro c_ fs_ S m Qn Qr Qx h
    unfold wpH at h
    exact h.elim
theorem wps_blt {f : BF} {a : T} (iha : WpS gl cf a) : WpS gl cf (.blt f a) where
  s := by
    intro S m Qn Qr Qx h
    unfold wpS at h
    exact h.elim
  h := by
    intro c_ fs_ S m Qn Qr Qx h
    unfold wpH at h
    exact h.elim
theorem wps_isi {a : T} {t : TY} (iha : WpS gl cf a) : WpS gl cf (.isi a t) where
  s := by
    intro S m Qn Qr Qx h
    unfold wpS at h
    exact h.elim
  h := by
    intro c_ fs_ S m Qn Qr Qx h
    unfold wpH at h
    exact h.elim
theorem wps_lc {e : T} {c : T} {tg : T} {it : T} {own : List Nat} (ihe : WpS gl cf e) (ihc : WpS gl cf c) (ihtg : WpS gl cf tg) (ihit : WpS gl cf it) : WpS gl cf (.lc e c tg it own) where
  s := by
    intro S m Qn Qr Qx h
    unfold wpS at h
    exact h.elim
  h := by
    intro c_ fs_ S m Qn Qr Qx h
    unfold wpH at h
    exact h.elim
theorem wps_lc2 {e : T} {c : T} {tg : T} {it : T} {tg2 : T} {it2 : T} {own : List Nat} {own2 : List Nat} (ihe : WpS gl cf e) (ihc : WpS gl cf c) (ihtg : WpS gl cf tg) (ihit : WpS gl cf it) (ihtg2 : WpS gl cf tg2) (ihit2 : WpS gl cf it2) : WpS gl cf (.lc2 e c tg it tg2 it2 own own2) where
  s := by
    intro S m Qn Qr Qx h
    unfold wpS at h
    exact h.elim
  h := by
    intro c_ fs_ S m Qn Qr Qx h
    unfold wpH at h
    exact h.elim
theorem wps_sd2 {e : T} {tg : T} {it : T} {tg2 : T} {it2 : T} {own : List Nat} {own2 : List Nat} (ihe : WpS gl cf e) (ihtg : WpS gl cf tg) (ihit : WpS gl cf it) (ihtg2 : WpS gl cf tg2) (ihit2 : WpS gl cf it2) : WpS gl cf (.sd2 e tg it tg2 it2 own own2) where
  s := by
    intro S m Qn Qr Qx h
    unfold wpS at h
    exact h.elim
  h := by
    intro c_ fs_ S m Qn Qr Qx h
    unfold wpH at h
    exact h.elim
theorem wps_lc3 {e : T} {tg : T} {it : T} {tg2 : T} {it2 : T} {tg3 : T} {it3 : T} {own : List Nat} {own2 : List Nat} {own3 : List Nat} (ihe : WpS gl cf e) (ihtg : WpS gl cf tg) (ihit : WpS gl cf it) (ihtg2 : WpS gl cf tg2) (ihit2 : WpS gl cf it2) (ihtg3 : WpS gl cf tg3) (ihit3 : WpS gl cf it3) : WpS gl cf (.lc3 e tg it tg2 it2 tg3 it3 own own2 own3) where
  s := by
    intro S m Qn Qr Qx h
    unfold wpS at h
    exact h.elim
  h := by
    intro c_ fs_ S m Qn Qr Qx h
    unfold wpH at h
    exact h.elim
theorem wps_lnd {i : Nat} {c : T} (ihc : WpS gl cf c) : WpS gl cf (.lnd i c) where
  s := by
    intro S m Qn Qr Qx h
    unfold wpS at h
    exact h.elim
  h := by
    intro c_ fs_ S m Qn Qr Qx h
    unfold wpH at h
    exact h.elim
theorem wps_nil   : WpS gl cf (.nil ) where
  s := by
    intro S m Qn Qr Qx h
    unfold wpS at h
    exact h.elim
  h := by
    intro c fs S m Qn Qr Qx h
    unfold wpH at h
    simp only [evH]
    exact h
theorem wps_cons {a : T} {b : T} (iha : WpS gl cf a) (ihb : WpS gl cf b) : WpS gl cf (.cons a b) where
  s := by
    intro S m Qn Qr Qx h
    unfold wpS at h
    exact h.elim
  h := by
    intro c_ fs_ S m Qn Qr Qx h
    unfold wpH at h
    exact h.elim
theorem wps_one {a : T} (iha : WpS gl cf a) : WpS gl cf (.one a) where
  s := by
    intro S m Qn Qr Qx h
    unfold wpS at h
    exact h.elim
  h := by
    intro c_ fs_ S m Qn Qr Qx h
    unfold wpH at h
    exact h.elim
theorem wps_tst {a : T} (iha : WpS gl cf a) : WpS gl cf (.tst a) where
  s := by
    intro S m Qn Qr Qx h
    unfold wpS at h
    exact h.elim
  h := by
    intro c_ fs_ S m Qn Qr Qx h
    unfold wpH at h
    exact h.elim
theorem wps_prt {a : T} (iha : WpS gl cf a) : WpS gl cf (.prt a) where
  s := by
    intro S m Qn Qr Qx h
    unfold wpS at h
    exact h.elim
  h := by
    intro c_ fs_ S m Qn Qr Qx h
    unfold wpH at h
    exact h.elim
theorem wps_itv {a : T} (iha : WpS gl cf a) : WpS gl cf (.itv a) where
  s := by
    intro S m Qn Qr Qx h
    unfold wpS at h
    exact h.elim
  h := by
    intro c_ fs_ S m Qn Qr Qx h
    unfold wpH at h
    exact h.elim
theorem wps_rg1 {a : T} (iha : WpS gl cf a) : WpS gl cf (.rg1 a) where
  s := by
    intro S m Qn Qr Qx h
    unfold wpS at h
    exact h.elim
  h := by
    intro c_ fs_ S m Qn Qr Qx h
    unfold wpH at h
    exact h.elim
theorem wps_rg2 {a : T} {b : T} (iha : WpS gl cf a) (ihb : WpS gl cf b) : WpS gl cf (.rg2 a b) where
  s := by
    intro S m Qn Qr Qx h
    unfold wpS at h
    exact h.elim
  h := by
    intro c_ fs_ S m Qn Qr Qx h
    unfold wpH at h
    exact h.elim
theorem wps_rg3 {a : T} {b : T} {c : T} (iha : WpS gl cf a) (ihb : WpS gl cf b) (ihc : WpS gl cf c) : WpS gl cf (.rg3 a b c) where
  s := by
    intro S m Qn Qr Qx h
    unfold wpS at h
    exact h.elim
  h := by
    intro c_ fs_ S m Qn Qr Qx h
    unfold wpH at h
    exact h.elim
theorem wps_enu {a : T} (iha : WpS gl cf a) : WpS gl cf (.enu a) where
  s := by
    intro S m Qn Qr Qx h
    unfold wpS at h
    exact h.elim
  h := by
    intro c_ fs_ S m Qn Qr Qx h
    unfold wpH at h
    exact h.elim
theorem wps_tn {i : Nat}  : WpS gl cf (.tn i) where
  s := by
    intro S m Qn Qr Qx h
    unfold wpS at h
    exact h.elim
  h := by
    intro c_ fs_ S m Qn Qr Qx h
    unfold wpH at h
    exact h.elim
theorem wps_tt {a : T} (iha : WpS gl cf a) : WpS gl cf (.tt a) where
  s := by
    intro S m Qn Qr Qx h
    unfold wpS at h
    exact h.elim
  h := by
    intro c_ fs_ S m Qn Qr Qx h
    unfold wpH at h
    exact h.elim
theorem wps_asg {tg : T} {e : T} (ihtg : WpS gl cf tg) (ihe : WpS gl cf e) : WpS gl cf (.asg tg e) where
  s := by
    intro S m Qn Qr Qx h
    unfold wpS at h
    simp only [evS]
    refine wp_bindS (wp_mono ((wpe_all gl cf _).e h) fun x m1 h => wp_bindS (wp_opt ?_))
    exact h
  h := by
    intro c_ fs_ S m Qn Qr Qx h
    unfold wpH at h
    exact h.elim
theorem wps_asgc {i : Nat} {e : T} (ihe : WpS gl cf e) : WpS gl cf (.asgc i e) where
  s := by
    intro S m Qn Qr Qx h
    unfold wpS at h
    simp only [evS]
    refine wp_bindS (wp_mono ((wpe_all gl cf _).e h) fun x m1 h => wp_bindS (wp_opt ?_))
    exact h
  h := by
    intro c_ fs_ S m Qn Qr Qx h
    unfold wpH at h
    exact h.elim
theorem wps_par {i : Nat} {j : Nat} {a : T} {b : T} (iha : WpS gl cf a) (ihb : WpS gl cf b) : WpS gl cf (.par i j a b) where
  s := by
    intro S m Qn Qr Qx h
    unfold wpS at h
    simp only [evS]
    refine wp_bindS ?_
    simp only [evA]
    rw [wp_bind]
    refine wp_mono ((wpe_all gl cf _).e h) fun x m1 h => ?_
    rw [wp_bind]
    refine wp_toV h fun h => ?_
    rw [wp_bind, wp_bind]
    refine wp_mono ((wpe_all gl cf _).e h) fun y m2 h => ?_
    rw [wp_bind]
    refine wp_toV h fun h => ?_
    exact h
  h := by
    intro c_ fs_ S m Qn Qr Qx h
    unfold wpH at h
    exact h.elim
theorem wps_ret {e : T} (ihe : WpS gl cf e) : WpS gl cf (.ret e) where
  s := by
    intro S m Qn Qr Qx h
    unfold wpS at h
    simp only [evS]
    refine wp_bindS (wp_mono ((wpe_all gl cf _).e h) fun x m1 h => ?_)
    obtain ⟨d, k⟩ := x
    cases k with
    | bor => exact h.elim
    | sh => exact h
    | own => exact h
  h := by
    intro c_ fs_ S m Qn Qr Qx h
    unfold wpH at h
    exact h.elim
theorem wps_retm {i : Nat}  : WpS gl cf (.retm i) where
  s := by
    intro S m Qn Qr Qx h
    unfold wpS at h
    simp only [evS]
    split at h
    · rename_i d hd
      (try rw [hd]); exact h
    · exact h.elim
  h := by
    intro c_ fs_ S m Qn Qr Qx h
    unfold wpH at h
    exact h.elim
theorem wps_retn   : WpS gl cf (.retn ) where
  s := by
    intro S m Qn Qr Qx h
    unfold wpS at h
    simp only [evS]
    exact h
  h := by
    intro c_ fs_ S m Qn Qr Qx h
    unfold wpH at h
    exact h.elim
theorem wps_exp {e : T} (ihe : WpS gl cf e) : WpS gl cf (.exp e) where
  s := by
    intro S m Qn Qr Qx h
    unfold wpS at h
    simp only [evS]
    exact wp_bindS (wp_mono ((wpe_all gl cf _).e h) fun x m1 h => h)
  h := by
    intro c_ fs_ S m Qn Qr Qx h
    unfold wpH at h
    exact h.elim
theorem wps_app {i : Nat} {e : T} (ihe : WpS gl cf e) : WpS gl cf (.app i e) where
  s := by
    intro S m Qn Qr Qx h
    unfold wpS at h
    simp only [evS]
    split at h
    · rename_i ds hd
      (try rw [hd])
      refine wp_bindS (wp_mono ((wpe_all gl cf _).e h) fun x m1 h => wp_bindS (wp_toV h fun h => ?_))
      exact wp_need h.1 h.2
    · exact h.elim
  h := by
    intro c_ fs_ S m Qn Qr Qx h
    unfold wpH at h
    exact h.elim
theorem wps_seti {i : Nat} {k : T} {e : T} (ihk : WpS gl cf k) (ihe : WpS gl cf e) : WpS gl cf (.seti i k e) where
  s := by
    intro S m Qn Qr Qx h
    unfold wpS at h
    simp only [evS]
    refine wp_bindS (wp_mono ((wpe_all gl cf _).e h) fun x m1 h => wp_bindS (wp_toV h fun h => ?_))
    split at h
    · rename_i ds hd
      (try rw [hd])
      refine wp_bindS (wp_mono ((wpe_all gl cf _).e h) fun y m3 h => ?_)
      split at h
      · rename_i j hj
        obtain ⟨p, e, k⟩ := h
        (try rw [hj])
        (try simp only [e])
        exact k
      · exact h.elim
    · exact h.elim
  h := by
    intro c_ fs_ S m Qn Qr Qx h
    unfold wpH at h
    exact h.elim
theorem wps_oset {o : T} {k : T} {e : T} (iho : WpS gl cf o) (ihk : WpS gl cf k) (ihe : WpS gl cf e) : WpS gl cf (.oset o k e) where
  s := by
    intro S m Qn Qr Qx h
    unfold wpS at h
    simp only [evS]
    refine wp_bindS (wp_mono ((wpe_all gl cf _).e h) fun x m1 h => wp_bindS (wp_toV h fun h => ?_))
    refine wp_bindS (wp_mono ((wpe_all gl cf _).e h) fun r m3 h => ?_)
    refine wp_bindS (wp_mono ((wpe_all gl cf _).e h) fun y m4 h => ?_)
    split at h
    · rename_i n j hn hj
      (try rw [hn, hj])
      cases q : m4.objs[n]? with
      | none => rw [q] at h; exact h.elim
      | some ob =>
        rw [q] at h
        cases ob with
        | lst ds =>
          obtain ⟨p, e, k⟩ := (show ∃ p, L2.ixN ds.length j = some p ∧ _ from h)
          (try simp only [e, q])
          exact k
    · exact h.elim
  h := by
    intro c_ fs_ S m Qn Qr Qx h
    unfold wpH at h
    exact h.elim
theorem wps_iff {c : T} {a : T} {b : T} (ihc : WpS gl cf c) (iha : WpS gl cf a) (ihb : WpS gl cf b) : WpS gl cf (.iff c a b) where
  s := by
    intro S m Qn Qr Qx h
    unfold wpS at h
    simp only [evS]
    refine wp_bindS (wp_mono ((wpe_all gl cf _).b h) fun k m1 h => ?_)
    cases k with
    | true => exact iha.s h
    | false => exact ihb.s h
  h := by
    intro c_ fs_ S m Qn Qr Qx h
    unfold wpH at h
    exact h.elim
theorem wps_for_ {tg : T} {it : T} {b : T} (ihtg : WpS gl cf tg) (ihit : WpS gl cf it) (ihb : WpS gl cf b) : WpS gl cf (.for_ tg it b) where
  s := by
    intro S m Qn Qr Qx h
    unfold wpS at h
    simp only [evS]
    exact wp_bindS (wp_mono ((wpe_all gl cf _).i h) fun ds m1 h => h.h)
  h := by
    intro c_ fs_ S m Qn Qr Qx h
    unfold wpH at h
    exact h.elim
theorem wps_shr {i : Nat}  : WpS gl cf (.shr i) where
  s := by
    intro S m Qn Qr Qx h
    unfold wpS at h
    simp only [evS]
    split at h
    · rename_i d k hd
      (try rw [hd]); exact h
    · exact h.elim
  h := by
    intro c_ fs_ S m Qn Qr Qx h
    unfold wpH at h
    exact h.elim
theorem wps_seq {a : T} {b : T} (iha : WpS gl cf a) (ihb : WpS gl cf b) : WpS gl cf (.seq a b) where
  s := by
    intro S m Qn Qr Qx h
    unfold wpS at h
    simp only [evS]
    refine wp_then (wp_mono (iha.s h) fun x m1 h => ?_)
    obtain ⟨f, S1⟩ := x
    cases f with
    | nx => exact ihb.s h
    | rt d k => exact h
    | xc c fs => exact h
  h := by
    intro c_ fs_ S m Qn Qr Qx h
    unfold wpH at h
    exact h.elim
theorem wps_skip   : WpS gl cf (.skip ) where
  s := by
    intro S m Qn Qr Qx h
    unfold wpS at h
    simp only [evS]
    exact h
  h := by
    intro c_ fs_ S m Qn Qr Qx h
    unfold wpH at h
    exact h.elim
theorem wps_stk   : WpS gl cf (.stk ) where
  s := by
    intro S m Qn Qr Qx h
    unfold wpS at h
    exact h.elim
  h := by
    intro c_ fs_ S m Qn Qr Qx h
    unfold wpH at h
    exact h.elim
theorem wps_jn {x : Str} {a : T} (iha : WpS gl cf a) : WpS gl cf (.jn x a) where
  s := by
    intro S m Qn Qr Qx h
    unfold wpS at h
    exact h.elim
  h := by
    intro c_ fs_ S m Qn Qr Qx h
    unfold wpH at h
    exact h.elim
theorem wps_ext {i : Nat} {e : T} (ihe : WpS gl cf e) : WpS gl cf (.ext i e) where
  s := by
    intro S m Qn Qr Qx h
    unfold wpS at h
    simp only [evS]
    split at h
    · rename_i ds hd
      (try rw [hd])
      refine wp_bindS (wp_mono ((wpe_all gl cf _).e h) fun y m1 h => wp_bindS (wp_opt ?_))
      cases q : extD y.1 with
      | none => rw [q] at h; exact h.elim
      | some es =>
        rw [q] at h
        exact wp_need h.1 h.2
    · exact h.elim
  h := by
    intro c_ fs_ S m Qn Qr Qx h
    unfold wpH at h
    exact h.elim
theorem wps_xat {j : Nat} {a : T} (iha : WpS gl cf a) : WpS gl cf (.xat j a) where
  s := by
    intro S m Qn Qr Qx h
    unfold wpS at h
    exact h.elim
  h := by
    intro c_ fs_ S m Qn Qr Qx h
    unfold wpH at h
    exact h.elim
theorem wps_xis {y : Nat} {a : T} (iha : WpS gl cf a) : WpS gl cf (.xis y a) where
  s := by
    intro S m Qn Qr Qx h
    unfold wpS at h
    exact h.elim
  h := by
    intro c_ fs_ S m Qn Qr Qx h
    unfold wpH at h
    exact h.elim
theorem wps_rai {c : Nat} {w : Str} {a : T} (iha : WpS gl cf a) : WpS gl cf (.rai c w a) where
  s := by
    intro S m Qn Qr Qx h
    unfold wpS at h
    simp only [evS]
    refine wp_bindS (wp_mono ((wpe_all gl cf _).e h) fun x m1 h => wp_bindS (wp_toV h fun h => ?_))
    exact h
  h := by
    intro c_ fs_ S m Qn Qr Qx h
    unfold wpH at h
    exact h.elim
theorem wps_tryy {a : T} {b : T} (iha : WpS gl cf a) (ihb : WpS gl cf b) : WpS gl cf (.tryy a b) where
  s := by
    intro S m Qn Qr Qx h
    unfold wpS at h
    simp only [evS]
    have h := iha.s h
    generalize evS gl cf a S m = r at h ⊢
    match r, h with
    | .ok (.nx, S') m', h => exact h
    | .ok (.rt d k, S') m', h => exact h
    | .ok (.xc c fs, S') m', h => exact ihb.h h
  h := by
    intro c_ fs_ S m Qn Qr Qx h
    unfold wpH at h
    exact h.elim
theorem wps_hnd {y : Nat} {i : Nat} {a : T} {b : T} (iha : WpS gl cf a) (ihb : WpS gl cf b) : WpS gl cf (.hnd y i a b) where
  s := by
    intro S m Qn Qr Qx h
    unfold wpS at h
    exact h.elim
  h := by
    intro c fs S m Qn Qr Qx h
    unfold wpH at h
    simp only [evH]
    cases q : subX c y with
    | true =>
      rw [q] at h
      exact wp_exit (iha.s h)
    | false =>
      rw [q] at h
      exact ihb.h h
theorem wps_hnb {y : Nat} {a : T} {b : T} (iha : WpS gl cf a) (ihb : WpS gl cf b) : WpS gl cf (.hnb y a b) where
  s := by
    intro S m Qn Qr Qx h
    unfold wpS at h
    exact h.elim
  h := by
    intro c fs S m Qn Qr Qx h
    unfold wpH at h
    simp only [evH]
    cases q : subX c y with
    | true =>
      rw [q] at h
      exact wp_exit (iha.s h)
    | false =>
      rw [q] at h
      exact ihb.h h
theorem wps_dnw {i : Nat} {b : Bool}  : WpS gl cf (.dnw i b) where
  s := by
    intro S m Qn Qr Qx h
    unfold wpS at h
    simp only [evS]
    exact h
  h := by
    intro c_ fs_ S m Qn Qr Qx h
    unfold wpH at h
    exact h.elim
theorem wps_dst {i : Nat} {e : T} (ihe : WpS gl cf e) : WpS gl cf (.dst i e) where
  s := by
    intro S m Qn Qr Qx h
    unfold wpS at h
    simp only [evS]
    split at h
    · rename_i ks hd
      (try rw [hd])
      refine wp_bindS (wp_mono ((wpe_all gl cf _).e h) fun x m1 h => wp_bindS (wp_opt ?_))
      cases q : keyL false x.1 with
      | none => rw [q] at h; exact h.elim
      | some k =>
        rw [q] at h
        exact wp_need h.1 h.2
    · exact h.elim
  h := by
    intro c_ fs_ S m Qn Qr Qx h
    unfold wpH at h
    exact h.elim
theorem wps_dtt {i : Nat} {a : T} (iha : WpS gl cf a) : WpS gl cf (.dtt i a) where
  s := by
    intro S m Qn Qr Qx h
    unfold wpS at h
    simp only [evS]
    split at h
    · rename_i ks hd
      (try rw [hd])
      refine wp_bindS (wp_mono ((wpe_all gl cf _).a h) fun x m1 h => wp_bindS (wp_opt ?_))
      cases q : intsD x with
      | none => rw [q] at h; exact h.elim
      | some k =>
        rw [q] at h
        exact wp_need h.1 h.2
    · exact h.elim
  h := by
    intro c_ fs_ S m Qn Qr Qx h
    unfold wpH at h
    exact h.elim
theorem wps_opn {i : Nat}  : WpS gl cf (.opn i) where
  s := by
    intro S m Qn Qr Qx h
    unfold wpS at h
    simp only [evS]
    split at h
    · rename_i ds hd
      (try rw [hd]); exact h
    · exact h.elim
  h := by
    intro c_ fs_ S m Qn Qr Qx h
    unfold wpH at h
    exact h.elim
theorem wps_oap {i : Nat} {e : T} (ihe : WpS gl cf e) : WpS gl cf (.oap i e) where
  s := by
    intro S m Qn Qr Qx h
    unfold wpS at h
    simp only [evS]
    split at h
    · rename_i n hd
      (try rw [hd])
      refine wp_bindS (wp_mono ((wpe_all gl cf _).e h) fun x m1 h => wp_bindS (wp_toV h fun h => ?_))
      cases q : m1.objs[n]? with
      | none => rw [q] at h; exact h.elim
      | some ob =>
        rw [q] at h
        cases ob with
        | lst ds =>
          have h : ds.length < sizeLine ∧ _ := h
          (try simp only [q])
          exact wp_need h.1 h.2
    · exact h.elim
  h := by
    intro c_ fs_ S m Qn Qr Qx h
    unfold wpH at h
    exact h.elim
theorem wps_inz {i : Nat} {a : T} (iha : WpS gl cf a) : WpS gl cf (.inz i a) where
  s := by
    intro S m Qn Qr Qx h
    unfold wpS at h
    simp only [evS]
    split at h
    · rename_i ds hd
      (try rw [hd])
      refine wp_bindS (wp_mono ((wpe_all gl cf _).a h) fun x m1 h => ?_)
      split at h
      · exact wp_need h.1 h.2
      · exact h.elim
    · exact h.elim
  h := by
    intro c_ fs_ S m Qn Qr Qx h
    unfold wpH at h
    exact h.elim
theorem wps_all0 : ∀ t : T, WpS gl cf t := by
  intro t
  induction t with
  | non   => exact wps_non gl cf 
  | tru   => exact wps_tru gl cf 
  | fls   => exact wps_fls gl cf 
  | int i  => exact wps_int gl cf 
  | str x  => exact wps_str gl cf 
  | var i  => exact wps_var gl cf 
  | bvar i  => exact wps_bvar gl cf 
  | glob j  => exact wps_glob gl cf 
  | gfn i  => exact wps_gfn gl cf 
  | bin o a b iha ihb => exact wps_bin gl cf iha ihb
  | neg a iha => exact wps_neg gl cf iha
  | cmp o a b iha ihb => exact wps_cmp gl cf iha ihb
  | chn o p a b c iha ihb ihc => exact wps_chn gl cf iha ihb ihc
  | ban a iha => exact wps_ban gl cf iha
  | bor a iha => exact wps_bor gl cf iha
  | not a iha => exact wps_not gl cf iha
  | ite c a b ihc iha ihb => exact wps_ite gl cf ihc iha ihb
  | tup a iha => exact wps_tup gl cf iha
  | lst a iha => exact wps_lst gl cf iha
  | olst a iha => exact wps_olst gl cf iha
  | idx a i iha ihi => exact wps_idx gl cf iha ihi
  | slc a lo hi iha ihlo ihhi => exact wps_slc gl cf iha ihlo ihhi
  | call f a iha => exact wps_call gl cf iha
  | callv i a iha => exact wps_callv gl cf iha
  | blt f a iha => exact wps_blt gl cf iha
  | isi a t iha => exact wps_isi gl cf iha
  | lc e c tg it own ihe ihc ihtg ihit => exact wps_lc gl cf ihe ihc ihtg ihit
  | lc2 e c tg it tg2 it2 own own2 ihe ihc ihtg ihit ihtg2 ihit2 => exact wps_lc2 gl cf ihe ihc ihtg ihit ihtg2 ihit2
  | sd2 e tg it tg2 it2 own own2 ihe ihtg ihit ihtg2 ihit2 => exact wps_sd2 gl cf ihe ihtg ihit ihtg2 ihit2
  | lc3 e tg it tg2 it2 tg3 it3 own own2 own3 ihe ihtg ihit ihtg2 ihit2 ihtg3 ihit3 => exact wps_lc3 gl cf ihe ihtg ihit ihtg2 ihit2 ihtg3 ihit3
  | lnd i c ihc => exact wps_lnd gl cf ihc
  | nil   => exact wps_nil gl cf 
  | cons a b iha ihb => exact wps_cons gl cf iha ihb
  | one a iha => exact wps_one gl cf iha
  | tst a iha => exact wps_tst gl cf iha
  | prt a iha => exact wps_prt gl cf iha
  | itv a iha => exact wps_itv gl cf iha
  | rg1 a iha => exact wps_rg1 gl cf iha
  | rg2 a b iha ihb => exact wps_rg2 gl cf iha ihb
  | rg3 a b c iha ihb ihc => exact wps_rg3 gl cf iha ihb ihc
  | enu a iha => exact wps_enu gl cf iha
  | tn i  => exact wps_tn gl cf 
  | tt a iha => exact wps_tt gl cf iha
  | asg tg e ihtg ihe => exact wps_asg gl cf ihtg ihe
  | asgc i e ihe => exact wps_asgc gl cf ihe
  | par i j a b iha ihb => exact wps_par gl cf iha ihb
  | ret e ihe => exact wps_ret gl cf ihe
  | retm i  => exact wps_retm gl cf 
  | retn   => exact wps_retn gl cf 
  | exp e ihe => exact wps_exp gl cf ihe
  | app i e ihe => exact wps_app gl cf ihe
  | seti i k e ihk ihe => exact wps_seti gl cf ihk ihe
  | oset o k e iho ihk ihe => exact wps_oset gl cf iho ihk ihe
  | iff c a b ihc iha ihb => exact wps_iff gl cf ihc iha ihb
  | for_ tg it b ihtg ihit ihb => exact wps_for_ gl cf ihtg ihit ihb
  | shr i  => exact wps_shr gl cf 
  | seq a b iha ihb => exact wps_seq gl cf iha ihb
  | skip   => exact wps_skip gl cf 
  | stk   => exact wps_stk gl cf 
  | jn x a iha => exact wps_jn gl cf iha
  | ext i e ihe => exact wps_ext gl cf ihe
  | xat j a iha => exact wps_xat gl cf iha
  | xis y a iha => exact wps_xis gl cf iha
  | rai c w a iha => exact wps_rai gl cf iha
  | tryy a b iha ihb => exact wps_tryy gl cf iha ihb
  | hnd y i a b iha ihb => exact wps_hnd gl cf iha ihb
  | hnb y a b iha ihb => exact wps_hnb gl cf iha ihb
  | dnw i b  => exact wps_dnw gl cf 
  | dst i e ihe => exact wps_dst gl cf ihe
  | dtt i a iha => exact wps_dtt gl cf iha
  | opn i  => exact wps_opn gl cf 
  | oap i e ihe => exact wps_oap gl cf ihe
  | inz i a iha => exact wps_inz gl cf iha
theorem wps_all (t : T) {S : Sto} {m : MS} {Qn : Sto → MS → Prop} {Qr : D × Kd → MS → Prop} {Qx : XS} (h : wpS gl cf t S m Qn Qr Qx) : wpx noE (evS gl cf t S m) (stX Qn Qr Qx) := (wps_all0 gl cf t).s h
end
/-- a call -/
theorem wp_callF {gl : List D} {tab : List Fn} {n f : Nat} {F : Fn} {ds : List D} {m : MS} {X : XP} {Q : D × Kd → MS → Prop} (hf : tab[f]? = some F) (hl : ds.length = F.ar)
    (h : wpS gl (callF gl tab n) F.body (ds.map (fun d => some (d, false)) ++ List.replicate (F.sz - F.ar) none) m (fun _ m' => Q (.non, .sh) m') Q fun c fs _ m' => X c fs m') : wpx X (callF gl tab (n + 1) f ds m) Q := by
  unfold callF
  rw [hf]
  refine wp_need hl ?_
  rw [wp_bind]
  refine wp_nox (wp_mono (wps_all gl _ _ h) fun x m' h => ?_)
  obtain ⟨fl, S⟩ := x
  cases fl with
  | nx => exact h
  | rt d k => exact h
  | xc c fs => exact h
theorem condP_of {b : Bool} {P P' : Prop} (h1 : b = true → P) (h2 : b = false → P') : condP b P P' := by
  cases b with
  | true => exact h1 rfl
  | false => exact h2 rfl
theorem condP_t {b : Bool} {P P' : Prop} (h : b = true) (h1 : P) : condP b P P' := by subst h; exact h1
theorem condP_f {b : Bool} {P P' : Prop} (h : b = false) (h1 : P') : condP b P P' := by subst h; exact h1
theorem condD_of {p : Prop} [Decidable p] {P P' : Prop} (h1 : p → P) (h2 : ¬ p → P') : condP (decide p) P P' := condP_of (fun h => h1 (of_decide_eq_true h)) fun h => h2 (of_decide_eq_false h)
theorem condD_t {p : Prop} [Decidable p] {P P' : Prop} (h : p) (h1 : P) : condP (decide p) P P' := condP_t (decide_eq_true h) h1
theorem condD_f {p : Prop} [Decidable p] {P P' : Prop} (h : ¬ p) (h1 : P') : condP (decide p) P P' := condP_f (decide_eq_false h) h1
/-- a loop by an invariant over the items that are left -/
theorem wp_loop {f : D → Sto → MS → Res (Fl × Sto)} {Qn : Sto → MS → Prop} {Qr : D × Kd → MS → Prop} {Qx : XS} (I : List D → Sto → MS → Prop) (step : ∀ d ds S m, I (d :: ds) S m → wpx noE (f d S m) (stX (I ds) Qr Qx)) (fin : ∀ S m, I [] S m → Qn S m) :
    ∀ (ds : List D) (S : Sto) (m : MS), I ds S m → wpx noE (loopR f ds S m) (stX Qn Qr Qx)
  | [], S, m, h => fin S m h
  | d :: ds, S, m, h => by
    unfold loopR
    refine wp_then (wp_mono (step d ds S m h) fun x m1 h => ?_)
    obtain ⟨fl, S1⟩ := x
    cases fl with
    | nx => exact wp_loop I step fin ds S1 m1 h
    | rt d k => exact h
    | xc c fs => exact h
theorem wp_turn {gl : List D} {cf : Nat → List D → MS → Res (D × Kd)} {tg body : T} {d : D} {S : Sto} {m : MS} {Qn : Sto → MS → Prop} {Qr : D × Kd → MS → Prop} {Qx : XS} (h : optP (tgT tg d .sh S) fun S1 => wpS gl cf body S1 m Qn Qr Qx) : wpx noE (turnR gl cf tg body d S m) (stX Qn Qr Qx) := by
  unfold turnR
  refine wp_bindS (wp_opt ?_)
  cases q : tgT tg d .sh S with
  | none => rw [q] at h; exact h
  | some S1 => rw [q] at h; exact wps_all gl cf _ h
/-- a comprehension's turns, by an invariant over the items that are left and what has come -/
theorem wp_map {f : D → MS → Res (Option D)} {Q : List D → MS → Prop} (I : List D → List D → MS → Prop) (step : ∀ d ds acc m, I (d :: ds) acc m → wpx noE (f d m) fun o m' => I ds (acc ++ o.toList) m') (fin : ∀ acc m, I [] acc m → Q acc m) :
    ∀ (ds acc : List D) (m : MS), I ds acc m → wpx noE (mapR f ds m) fun ys m' => Q (acc ++ ys) m'
  | [], acc, m, h => by
    show Q (acc ++ []) m
    rw [List.append_nil]; exact fin acc m h
  | d :: ds, acc, m, h => by
    unfold mapR
    rw [wp_bind]
    refine wp_mono (step d ds acc m h) fun o m1 h => ?_
    rw [wp_bind]
    refine wp_mono (wp_map I step fin ds (acc ++ o.toList) m1 h) fun ys m2 h => ?_
    show Q (acc ++ (o.toList ++ ys)) m2
    rw [← List.append_assoc]; exact h
theorem wp_map0 {f : D → MS → Res (Option D)} {Q : List D → MS → Prop} (I : List D → List D → MS → Prop) (step : ∀ d ds acc m, I (d :: ds) acc m → wpx noE (f d m) fun o m' => I ds (acc ++ o.toList) m') (fin : ∀ acc m, I [] acc m → Q acc m)
    {ds : List D} {m : MS} (h : I ds [] m) : wpx noE (mapR f ds m) Q := wp_map I step fin ds [] m h
/-- .. where nothing is changed -/
theorem mapR_pure {f : D → MS → Res (Option D)} {m : MS} (g : D → Option D) : ∀ (ds : List D), (∀ d ∈ ds, f d m = .ok (g d) m) → mapR f ds m = .ok (ds.filterMap g) m
  | [], _ => rfl
  | d :: ds, h => by
    unfold mapR
    rw [h d List.mem_cons_self]
    show bindR (mapR f ds m) _ = _
    rw [mapR_pure g ds fun e he => h e (List.mem_cons_of_mem _ he)]
    show Res.ok ((g d).toList ++ ds.filterMap g) m = _
    rw [List.filterMap_cons]
    cases g d <;> rfl
theorem wp_el {gl : List D} {cf : Nat → List D → MS → Res (D × Kd)} {e c tg : T} {own : List Nat} {S : Sto} {d : D} {m : MS} {Q : Option D → MS → Prop}
    (h : optP (tgT tg d .sh (wipeS S own)) fun S1 => wpB gl cf c S1 m noE fun b m2 => condP b (wpE gl cf e S1 m2 noE fun y m3 => toVP y fun v => Q (some v) m3) (Q none m2)) : wpx noE (elR gl cf e c tg own S d m) Q := by
  unfold elR
  rw [wp_bind]
  refine wp_opt ?_
  cases q : tgT tg d .sh (wipeS S own) with
  | none => rw [q] at h; exact h
  | some S1 =>
    rw [q] at h
    show wpx _ (bindR _ _) _
    rw [wp_bind]
    refine wp_mono ((wpe_all gl cf _).b h) fun b m2 h => ?_
    cases b with
    | true =>
      show wpx _ (bindR _ _) _
      rw [wp_bind]
      refine wp_mono ((wpe_all gl cf _).e h) fun y m3 h => ?_
      rw [wp_bind]
      exact wp_toV h fun h => h
    | false => exact h
end OD

set_option Elab.async false
set_option autoImplicit false
set_option linter.all false
set_option maxRecDepth 100000
set_option maxHeartbeats 400000
/-! My own layer, part 17: the deck of a law. -/
namespace OD
open PySem
def bDeck : T := .seq (.asg (.tn 1) (.int 7)) (.seq (.for_ (.tn 2) (.itv (.var 0)) (.seq (.asg (.tn 1) (.bin .mod (.blt .int (.cons (.bin .add (.bin .mul (.var 1) (.int 48271)) (.var 2)) (.nil))) (.int 2147483647))) (.skip))) (.seq (.ret (.olst (.cons (.int 0) (.cons (.int 0) (.cons (.var 1) (.cons (.blt .list (.cons (.var 0) (.nil))) (.cons (.int 0) (.nil)))))))) (.skip)))
def bDraw : T := .seq (.iff (.ban (.cons (.cmp .eq (.idx (.var 0) (.int 0)) (.int 0)) (.one (.cmp .lt (.idx (.var 0) (.int 1)) (.blt .len (.cons (.idx (.var 0) (.int 3)) (.nil))))))) (.seq (.oset (.var 0) (.int 0) (.blt .abs (.cons (.idx (.idx (.var 0) (.int 3)) (.idx (.var 0) (.int 1))) (.nil)))) (.seq (.oset (.var 0) (.int 1) (.bin .add (.idx (.var 0) (.int 1)) (.int 1))) (.skip))) (.seq (.iff (.cmp .eq (.idx (.var 0) (.int 0)) (.int 0)) (.seq (.oset (.var 0) (.int 4) (.bin .add (.idx (.var 0) (.int 4)) (.int 1))) (.seq (.asg (.tn 2) (.bin .mod (.blt .int (.cons (.bin .add (.bin .add (.bin .mul (.idx (.var 0) (.int 2)) (.int 48271)) (.bin .mul (.idx (.var 0) (.int 4)) (.int 69621))) (.int 12345)) (.nil))) (.int 2147483647))) (.seq (.asg (.tn 2) (.bin .mod (.blt .int (.cons (.bin .add (.bin .add (.bin .mul (.var 2) (.var 2)) (.bin .mul (.int 16807) (.idx (.var 0) (.int 4)))) (.int 7)) (.nil))) (.int 998244353))) (.seq (.asg (.tn 2) (.bin .mod (.blt .int (.cons (.bin .add (.bin .add (.bin .mul (.var 2) (.var 2)) (.bin .mul (.int 48271) (.idx (.var 0) (.int 4)))) (.idx (.var 0) (.int 2))) (.nil))) (.int 2147483629))) (.seq (.oset (.var 0) (.int 0) (.bin .fdiv (.var 2) (.int 13))) (.skip)))))) (.skip)) (.skip))) (.seq (.asg (.tn 3) (.bin .mod (.blt .int (.cons (.idx (.var 0) (.int 0)) (.nil))) (.var 1))) (.seq (.oset (.var 0) (.int 0) (.bin .fdiv (.idx (.var 0) (.int 0)) (.var 1))) (.seq (.ret (.var 3)) (.skip))))
def Deck (m : MS) : Prop := ∃ (h p s c : Int) (xs : List Int) (w : Nat), m = ⟨[.lst [.int h, .int p, .int s, .lst (xs.map .int), .int c]], w⟩ ∧ 0 ≤ h ∧ 0 ≤ p
theorem fmod_lt {a b : Int} (h : 0 < b) : 0 ≤ a.fmod b ∧ a.fmod b < b := ⟨Int.fmod_nonneg_of_pos a h, Int.fmod_lt_of_pos a h⟩
theorem fdiv_nn {a b : Int} (h : 0 ≤ a) (hb : 0 < b) : 0 ≤ a.fdiv b := Int.fdiv_nonneg h (by omega)
theorem len_ok {α : Type} {l : List α} (h : l.length ≤ 1000) : l.length ≤ sizeLine := Nat.le_trans h (by decide)
theorem atI_0 {α : Type} {a0 : α} {l : List α} : L2.atI (a0 :: l) 0 = some a0 := by
  have h : (0 : Int) < ((a0 :: l).length : Nat) := by simp only [List.length_cons]; omega
  unfold L2.atI L2.ixN
  rw [if_pos (by decide), if_pos h]; rfl
theorem ix_0 {n : Nat} : L2.ixN (n + 1) 0 = some 0 := by
  unfold L2.ixN
  rw [if_pos (by decide), if_pos (by omega)]; rfl
theorem atI_1 {α : Type} {a0 a1 : α} {l : List α} : L2.atI (a0 :: a1 :: l) 1 = some a1 := by
  have h : (1 : Int) < ((a0 :: a1 :: l).length : Nat) := by simp only [List.length_cons]; omega
  unfold L2.atI L2.ixN
  rw [if_pos (by decide), if_pos h]; rfl
theorem ix_1 {n : Nat} : L2.ixN (n + 2) 1 = some 1 := by
  unfold L2.ixN
  rw [if_pos (by decide), if_pos (by omega)]; rfl
theorem atI_2 {α : Type} {a0 a1 a2 : α} {l : List α} : L2.atI (a0 :: a1 :: a2 :: l) 2 = some a2 := by
  have h : (2 : Int) < ((a0 :: a1 :: a2 :: l).length : Nat) := by simp only [List.length_cons]; omega
  unfold L2.atI L2.ixN
  rw [if_pos (by decide), if_pos h]; rfl
theorem ix_2 {n : Nat} : L2.ixN (n + 3) 2 = some 2 := by
  unfold L2.ixN
  rw [if_pos (by decide), if_pos (by omega)]; rfl
theorem atI_3 {α : Type} {a0 a1 a2 a3 : α} {l : List α} : L2.atI (a0 :: a1 :: a2 :: a3 :: l) 3 = some a3 := by
  have h : (3 : Int) < ((a0 :: a1 :: a2 :: a3 :: l).length : Nat) := by simp only [List.length_cons]; omega
  unfold L2.atI L2.ixN
  rw [if_pos (by decide), if_pos h]; rfl
theorem ix_3 {n : Nat} : L2.ixN (n + 4) 3 = some 3 := by
  unfold L2.ixN
  rw [if_pos (by decide), if_pos (by omega)]; rfl
theorem atI_4 {α : Type} {a0 a1 a2 a3 a4 : α} {l : List α} : L2.atI (a0 :: a1 :: a2 :: a3 :: a4 :: l) 4 = some a4 := by
  have h : (4 : Int) < ((a0 :: a1 :: a2 :: a3 :: a4 :: l).length : Nat) := by simp only [List.length_cons]; omega
  unfold L2.atI L2.ixN
  rw [if_pos (by decide), if_pos h]; rfl
theorem ix_4 {n : Nat} : L2.ixN (n + 5) 4 = some 4 := by
  unfold L2.ixN
  rw [if_pos (by decide), if_pos (by omega)]; rfl
theorem atI_5 {α : Type} {a0 a1 a2 a3 a4 a5 : α} {l : List α} : L2.atI (a0 :: a1 :: a2 :: a3 :: a4 :: a5 :: l) 5 = some a5 := by
  have h : (5 : Int) < ((a0 :: a1 :: a2 :: a3 :: a4 :: a5 :: l).length : Nat) := by simp only [List.length_cons]; omega
  unfold L2.atI L2.ixN
  rw [if_pos (by decide), if_pos h]; rfl
theorem ix_5 {n : Nat} : L2.ixN (n + 6) 5 = some 5 := by
  unfold L2.ixN
  rw [if_pos (by decide), if_pos (by omega)]; rfl
theorem atI_6 {α : Type} {a0 a1 a2 a3 a4 a5 a6 : α} {l : List α} : L2.atI (a0 :: a1 :: a2 :: a3 :: a4 :: a5 :: a6 :: l) 6 = some a6 := by
  have h : (6 : Int) < ((a0 :: a1 :: a2 :: a3 :: a4 :: a5 :: a6 :: l).length : Nat) := by simp only [List.length_cons]; omega
  unfold L2.atI L2.ixN
  rw [if_pos (by decide), if_pos h]; rfl
theorem ix_6 {n : Nat} : L2.ixN (n + 7) 6 = some 6 := by
  unfold L2.ixN
  rw [if_pos (by decide), if_pos (by omega)]; rfl
theorem atI_7 {α : Type} {a0 a1 a2 a3 a4 a5 a6 a7 : α} {l : List α} : L2.atI (a0 :: a1 :: a2 :: a3 :: a4 :: a5 :: a6 :: a7 :: l) 7 = some a7 := by
  have h : (7 : Int) < ((a0 :: a1 :: a2 :: a3 :: a4 :: a5 :: a6 :: a7 :: l).length : Nat) := by simp only [List.length_cons]; omega
  unfold L2.atI L2.ixN
  rw [if_pos (by decide), if_pos h]; rfl
theorem ix_7 {n : Nat} : L2.ixN (n + 8) 7 = some 7 := by
  unfold L2.ixN
  rw [if_pos (by decide), if_pos (by omega)]; rfl

theorem len_lit {α : Type} {l : List α} (h : Nat.ble l.length 1000 = true) : l.length ≤ sizeLine := Nat.le_trans (Nat.le_of_ble_eq_true h) (by decide)
theorem len2_lit {α : Type} {l l2 : List α} (h : Nat.ble (l.length + l2.length) 1000 = true) : l.length + l2.length ≤ sizeLine := Nat.le_trans (Nat.le_of_ble_eq_true h) (by decide)
theorem ixN_of {n : Nat} {k : Int} (h0 : 0 ≤ k) (h1 : k < n) : L2.ixN n k = some k.toNat := by
  unfold L2.ixN
  rw [if_pos h0, if_pos h1]
theorem atI_of {α : Type} {ds : List α} {k : Int} (h0 : 0 ≤ k) (h1 : k < ds.length) : ∃ d, d ∈ ds ∧ ds[k.toNat]? = some d ∧ L2.atI ds k = some d := by
  have hk : k.toNat < ds.length := by omega
  refine ⟨ds[k.toNat], List.getElem_mem hk, List.getElem?_eq_getElem hk, ?_⟩
  unfold L2.atI
  rw [ixN_of h0 h1]
  exact List.getElem?_eq_getElem hk
theorem atI_intsL {xs : List Int} {k : Int} (h0 : 0 ≤ k) (h1 : k < xs.length) : ∃ i, L2.atI (xs.map D.int) k = some (.int i) := by
  obtain ⟨d, hm, _, e⟩ := atI_of (ds := xs.map D.int) h0 (by simpa using h1)
  obtain ⟨i, _, rfl⟩ := List.mem_map.mp hm
  exact ⟨i, e⟩
theorem deck_in {h p s c : Int} {xs : List Int} {w : Nat} (hh : 0 ≤ h) (hp : 0 ≤ p) {m : MS} (e : m = ⟨[.lst [.int h, .int p, .int s, .lst (xs.map .int), .int c]], w⟩) : Deck m := ⟨h, p, s, c, xs, w, e, hh, hp⟩
theorem mul_fmod {a b j : Int} (h : 0 < b) (h2 : b < 2 ^ 64) : mulOk (a.fmod b) j := .inl ⟨by have := @fmod_lt a b h; omega, by have := @fmod_lt a b h; omega⟩
/-- a draw -/
theorem draw_wp {gl : List D} {tab : List Fn} {n f : Nat} {b : Int} {m : MS} {Q : D × Kd → MS → Prop} (hf : tab[f]? = some ⟨2, 4, bDraw⟩) (hm : Deck m) (h0 : 0 < b) (h1 : b < 1073741824) (hQ : ∀ v m', 0 ≤ v → v < b → Deck m' → Q (.int v, .sh) m') : wpx noE (callF gl tab (n + 1) f [.ref 0, .int b] m) Q := by
  obtain ⟨h, p, s, c, xs, w, rfl, hh, hp⟩ := hm
  refine wp_callF hf rfl ?_
  generalize callF gl tab n = cf
  (repeat ((conv => whnf); first | refine ⟨_, by first | ((with_reducible show L2.atI _ _ = some _); first | exact atI_0 | exact atI_1 | exact atI_2 | exact atI_3 | exact atI_4 | exact atI_5 | exact atI_6 | exact atI_7) | ((with_reducible show L2.ixN _ _ = some _); first | exact ix_0 | exact ix_1 | exact ix_2 | exact ix_3 | exact ix_4 | exact ix_5 | exact ix_6 | exact ix_7), ?_⟩ | refine ⟨by (first | (show sameM _ _; exact ⟨rfl, rfl⟩) | (show mulOk _ _; unfold mulOk; omega) | (show divOk _; unfold divOk; omega) | (show powOk _ _; unfold powOk; decide) | (show _ ≠ _; omega) | (show isNon _ = true; rfl) | exact len_lit (by rfl) | exact len2_lit (by rfl)), ?_⟩ | refine ⟨true, by decide +kernel, ?_⟩ | refine ⟨false, by decide +kernel, ?_⟩ | refine itv_lst ?_ | refine itv_tup ?_ | refine itv_scr ?_ | refine itv_str ?_ | refine itv_dct ?_)); (try (conv => whnf))
  refine condD_of (fun e => ?_) (fun e => ?_)
  · (repeat ((conv => whnf); first | refine ⟨_, by first | ((with_reducible show L2.atI _ _ = some _); first | exact atI_0 | exact atI_1 | exact atI_2 | exact atI_3 | exact atI_4 | exact atI_5 | exact atI_6 | exact atI_7) | ((with_reducible show L2.ixN _ _ = some _); first | exact ix_0 | exact ix_1 | exact ix_2 | exact ix_3 | exact ix_4 | exact ix_5 | exact ix_6 | exact ix_7), ?_⟩ | refine ⟨by (first | (show sameM _ _; exact ⟨rfl, rfl⟩) | (show mulOk _ _; unfold mulOk; omega) | (show divOk _; unfold divOk; omega) | (show powOk _ _; unfold powOk; decide) | (show _ ≠ _; omega) | (show isNon _ = true; rfl) | exact len_lit (by rfl) | exact len2_lit (by rfl)), ?_⟩ | refine ⟨true, by decide +kernel, ?_⟩ | refine ⟨false, by decide +kernel, ?_⟩ | refine itv_lst ?_ | refine itv_tup ?_ | refine itv_scr ?_ | refine itv_str ?_ | refine itv_dct ?_)); (try (conv => whnf))
    refine condD_of (fun e2 => ?_) (fun e2 => ?_)
    · have e2' : p < xs.length := by simpa using e2
      obtain ⟨i, hi⟩ := atI_intsL hp e2'
      (repeat ((conv => whnf); first | refine ⟨_, by first | ((with_reducible show L2.atI _ _ = some _); first | exact atI_0 | exact atI_1 | exact atI_2 | exact atI_3 | exact atI_4 | exact atI_5 | exact atI_6 | exact atI_7) | ((with_reducible show L2.ixN _ _ = some _); first | exact ix_0 | exact ix_1 | exact ix_2 | exact ix_3 | exact ix_4 | exact ix_5 | exact ix_6 | exact ix_7), ?_⟩ | refine ⟨by (first | (show sameM _ _; exact ⟨rfl, rfl⟩) | (show mulOk _ _; unfold mulOk; omega) | (show divOk _; unfold divOk; omega) | (show powOk _ _; unfold powOk; decide) | (show _ ≠ _; omega) | (show isNon _ = true; rfl) | exact len_lit (by rfl) | exact len2_lit (by rfl)), ?_⟩ | refine ⟨true, by decide +kernel, ?_⟩ | refine ⟨false, by decide +kernel, ?_⟩ | refine itv_lst ?_ | refine itv_tup ?_ | refine itv_scr ?_ | refine itv_str ?_ | refine itv_dct ?_)); (try (conv => whnf))
      refine ⟨_, hi, ?_⟩
      (repeat ((conv => whnf); first | refine ⟨_, by first | ((with_reducible show L2.atI _ _ = some _); first | exact atI_0 | exact atI_1 | exact atI_2 | exact atI_3 | exact atI_4 | exact atI_5 | exact atI_6 | exact atI_7) | ((with_reducible show L2.ixN _ _ = some _); first | exact ix_0 | exact ix_1 | exact ix_2 | exact ix_3 | exact ix_4 | exact ix_5 | exact ix_6 | exact ix_7), ?_⟩ | refine ⟨by (first | (show sameM _ _; exact ⟨rfl, rfl⟩) | (show mulOk _ _; unfold mulOk; omega) | (show divOk _; unfold divOk; omega) | (show powOk _ _; unfold powOk; decide) | (show _ ≠ _; omega) | (show isNon _ = true; rfl) | exact len_lit (by rfl) | exact len2_lit (by rfl)), ?_⟩ | refine ⟨true, by decide +kernel, ?_⟩ | refine ⟨false, by decide +kernel, ?_⟩ | refine itv_lst ?_ | refine itv_tup ?_ | refine itv_scr ?_ | refine itv_str ?_ | refine itv_dct ?_)); (try (conv => whnf))
      refine hQ _ _ (fmod_lt h0).1 (fmod_lt h0).2 (deck_in (h := (if i < 0 then -i else i).fdiv b) (p := p + 1) (fdiv_nn ?_ h0) (by omega) rfl)
      split <;> omega
    · (repeat ((conv => whnf); first | refine ⟨_, by first | ((with_reducible show L2.atI _ _ = some _); first | exact atI_0 | exact atI_1 | exact atI_2 | exact atI_3 | exact atI_4 | exact atI_5 | exact atI_6 | exact atI_7) | ((with_reducible show L2.ixN _ _ = some _); first | exact ix_0 | exact ix_1 | exact ix_2 | exact ix_3 | exact ix_4 | exact ix_5 | exact ix_6 | exact ix_7), ?_⟩ | refine ⟨by (first | (show sameM _ _; exact ⟨rfl, rfl⟩) | (show mulOk _ _; unfold mulOk; omega) | (show divOk _; unfold divOk; omega) | (show powOk _ _; unfold powOk; decide) | (show _ ≠ _; omega) | (show isNon _ = true; rfl) | exact len_lit (by rfl) | exact len2_lit (by rfl)), ?_⟩ | refine ⟨true, by decide +kernel, ?_⟩ | refine ⟨false, by decide +kernel, ?_⟩ | refine itv_lst ?_ | refine itv_tup ?_ | refine itv_scr ?_ | refine itv_str ?_ | refine itv_dct ?_)); (try (conv => whnf))
      refine condD_t e ?_
      (repeat ((conv => whnf); first | refine ⟨_, by first | ((with_reducible show L2.atI _ _ = some _); first | exact atI_0 | exact atI_1 | exact atI_2 | exact atI_3 | exact atI_4 | exact atI_5 | exact atI_6 | exact atI_7) | ((with_reducible show L2.ixN _ _ = some _); first | exact ix_0 | exact ix_1 | exact ix_2 | exact ix_3 | exact ix_4 | exact ix_5 | exact ix_6 | exact ix_7), ?_⟩ | refine ⟨by (first | (show sameM _ _; exact ⟨rfl, rfl⟩) | (show mulOk _ _; unfold mulOk; omega) | (show divOk _; unfold divOk; omega) | (show powOk _ _; unfold powOk; decide) | (show _ ≠ _; omega) | (show isNon _ = true; rfl) | exact len_lit (by rfl) | exact len2_lit (by rfl)), ?_⟩ | refine ⟨true, by decide +kernel, ?_⟩ | refine ⟨false, by decide +kernel, ?_⟩ | refine itv_lst ?_ | refine itv_tup ?_ | refine itv_scr ?_ | refine itv_str ?_ | refine itv_dct ?_)); (try (conv => whnf))
      refine ⟨mul_fmod (by omega) (by omega), ?_⟩
      (repeat ((conv => whnf); first | refine ⟨_, by first | ((with_reducible show L2.atI _ _ = some _); first | exact atI_0 | exact atI_1 | exact atI_2 | exact atI_3 | exact atI_4 | exact atI_5 | exact atI_6 | exact atI_7) | ((with_reducible show L2.ixN _ _ = some _); first | exact ix_0 | exact ix_1 | exact ix_2 | exact ix_3 | exact ix_4 | exact ix_5 | exact ix_6 | exact ix_7), ?_⟩ | refine ⟨by (first | (show sameM _ _; exact ⟨rfl, rfl⟩) | (show mulOk _ _; unfold mulOk; omega) | (show divOk _; unfold divOk; omega) | (show powOk _ _; unfold powOk; decide) | (show _ ≠ _; omega) | (show isNon _ = true; rfl) | exact len_lit (by rfl) | exact len2_lit (by rfl)), ?_⟩ | refine ⟨true, by decide +kernel, ?_⟩ | refine ⟨false, by decide +kernel, ?_⟩ | refine itv_lst ?_ | refine itv_tup ?_ | refine itv_scr ?_ | refine itv_str ?_ | refine itv_dct ?_)); (try (conv => whnf))
      refine ⟨mul_fmod (by omega) (by omega), ?_⟩
      (repeat ((conv => whnf); first | refine ⟨_, by first | ((with_reducible show L2.atI _ _ = some _); first | exact atI_0 | exact atI_1 | exact atI_2 | exact atI_3 | exact atI_4 | exact atI_5 | exact atI_6 | exact atI_7) | ((with_reducible show L2.ixN _ _ = some _); first | exact ix_0 | exact ix_1 | exact ix_2 | exact ix_3 | exact ix_4 | exact ix_5 | exact ix_6 | exact ix_7), ?_⟩ | refine ⟨by (first | (show sameM _ _; exact ⟨rfl, rfl⟩) | (show mulOk _ _; unfold mulOk; omega) | (show divOk _; unfold divOk; omega) | (show powOk _ _; unfold powOk; decide) | (show _ ≠ _; omega) | (show isNon _ = true; rfl) | exact len_lit (by rfl) | exact len2_lit (by rfl)), ?_⟩ | refine ⟨true, by decide +kernel, ?_⟩ | refine ⟨false, by decide +kernel, ?_⟩ | refine itv_lst ?_ | refine itv_tup ?_ | refine itv_scr ?_ | refine itv_str ?_ | refine itv_dct ?_)); (try (conv => whnf))
      exact hQ _ _ (fmod_lt h0).1 (fmod_lt h0).2 (deck_in (fdiv_nn (fdiv_nn (fmod_lt (by omega)).1 (by omega)) h0) hp rfl)
  · (repeat ((conv => whnf); first | refine ⟨_, by first | ((with_reducible show L2.atI _ _ = some _); first | exact atI_0 | exact atI_1 | exact atI_2 | exact atI_3 | exact atI_4 | exact atI_5 | exact atI_6 | exact atI_7) | ((with_reducible show L2.ixN _ _ = some _); first | exact ix_0 | exact ix_1 | exact ix_2 | exact ix_3 | exact ix_4 | exact ix_5 | exact ix_6 | exact ix_7), ?_⟩ | refine ⟨by (first | (show sameM _ _; exact ⟨rfl, rfl⟩) | (show mulOk _ _; unfold mulOk; omega) | (show divOk _; unfold divOk; omega) | (show powOk _ _; unfold powOk; decide) | (show _ ≠ _; omega) | (show isNon _ = true; rfl) | exact len_lit (by rfl) | exact len2_lit (by rfl)), ?_⟩ | refine ⟨true, by decide +kernel, ?_⟩ | refine ⟨false, by decide +kernel, ?_⟩ | refine itv_lst ?_ | refine itv_tup ?_ | refine itv_scr ?_ | refine itv_str ?_ | refine itv_dct ?_)); (try (conv => whnf))
    refine condD_f e ?_
    (repeat ((conv => whnf); first | refine ⟨_, by first | ((with_reducible show L2.atI _ _ = some _); first | exact atI_0 | exact atI_1 | exact atI_2 | exact atI_3 | exact atI_4 | exact atI_5 | exact atI_6 | exact atI_7) | ((with_reducible show L2.ixN _ _ = some _); first | exact ix_0 | exact ix_1 | exact ix_2 | exact ix_3 | exact ix_4 | exact ix_5 | exact ix_6 | exact ix_7), ?_⟩ | refine ⟨by (first | (show sameM _ _; exact ⟨rfl, rfl⟩) | (show mulOk _ _; unfold mulOk; omega) | (show divOk _; unfold divOk; omega) | (show powOk _ _; unfold powOk; decide) | (show _ ≠ _; omega) | (show isNon _ = true; rfl) | exact len_lit (by rfl) | exact len2_lit (by rfl)), ?_⟩ | refine ⟨true, by decide +kernel, ?_⟩ | refine ⟨false, by decide +kernel, ?_⟩ | refine itv_lst ?_ | refine itv_tup ?_ | refine itv_scr ?_ | refine itv_str ?_ | refine itv_dct ?_)); (try (conv => whnf))
    exact hQ _ _ (fmod_lt h0).1 (fmod_lt h0).2 (deck_in (fdiv_nn hh h0) hp rfl)
/-- the deck of a script -/
theorem deck_wp {gl : List D} {tab : List Fn} {n f : Nat} {ns : List Int} {Q : D × Kd → MS → Prop} (hf : tab[f]? = some ⟨1, 3, bDeck⟩) (hn : ns.length ≤ 63) (hQ : ∀ m', Deck m' → Q (.ref 0, .sh) m') : wpx noE (callF gl tab (n + 1) f [.scr ns] ⟨[], 0⟩) Q := by
  refine wp_callF hf rfl ?_
  generalize callF gl tab n = cf
  (repeat ((conv => whnf); first | refine ⟨_, by first | ((with_reducible show L2.atI _ _ = some _); first | exact atI_0 | exact atI_1 | exact atI_2 | exact atI_3 | exact atI_4 | exact atI_5 | exact atI_6 | exact atI_7) | ((with_reducible show L2.ixN _ _ = some _); first | exact ix_0 | exact ix_1 | exact ix_2 | exact ix_3 | exact ix_4 | exact ix_5 | exact ix_6 | exact ix_7), ?_⟩ | refine ⟨by (first | (show sameM _ _; exact ⟨rfl, rfl⟩) | (show mulOk _ _; unfold mulOk; omega) | (show divOk _; unfold divOk; omega) | (show powOk _ _; unfold powOk; decide) | (show _ ≠ _; omega) | (show isNon _ = true; rfl) | exact len_lit (by rfl) | exact len2_lit (by rfl)), ?_⟩ | refine ⟨true, by decide +kernel, ?_⟩ | refine ⟨false, by decide +kernel, ?_⟩ | refine itv_lst ?_ | refine itv_tup ?_ | refine itv_scr ?_ | refine itv_str ?_ | refine itv_dct ?_)); (try (conv => whnf))
  refine ⟨wp_loop (fun ds S m => m = ⟨[], 0⟩ ∧ (∀ d ∈ ds, ∃ i, d = .int i) ∧ ∃ (s : Int) (c : Slot), S = [some (.scr ns, false), some (.int s, false), c]) (fun d ds S m ⟨hm, hd, s, c, hS⟩ => ?_) (fun S m ⟨hm, _, s, c, hS⟩ => ?_) _ _ _ ⟨rfl, fun d hd => by
    obtain ⟨i, _, rfl⟩ := List.mem_map.mp hd
    exact ⟨i, rfl⟩, 7, none, rfl⟩⟩
  · obtain ⟨i, rfl⟩ := hd d List.mem_cons_self
    subst hm hS
    refine wp_turn ?_
    (repeat ((conv => whnf); first | refine ⟨_, by first | ((with_reducible show L2.atI _ _ = some _); first | exact atI_0 | exact atI_1 | exact atI_2 | exact atI_3 | exact atI_4 | exact atI_5 | exact atI_6 | exact atI_7) | ((with_reducible show L2.ixN _ _ = some _); first | exact ix_0 | exact ix_1 | exact ix_2 | exact ix_3 | exact ix_4 | exact ix_5 | exact ix_6 | exact ix_7), ?_⟩ | refine ⟨by (first | (show sameM _ _; exact ⟨rfl, rfl⟩) | (show mulOk _ _; unfold mulOk; omega) | (show divOk _; unfold divOk; omega) | (show powOk _ _; unfold powOk; decide) | (show _ ≠ _; omega) | (show isNon _ = true; rfl) | exact len_lit (by rfl) | exact len2_lit (by rfl)), ?_⟩ | refine ⟨true, by decide +kernel, ?_⟩ | refine ⟨false, by decide +kernel, ?_⟩ | refine itv_lst ?_ | refine itv_tup ?_ | refine itv_scr ?_ | refine itv_str ?_ | refine itv_dct ?_)); (try (conv => whnf))
    exact ⟨rfl, fun d h => hd d (List.mem_cons_of_mem _ h), _, _, rfl⟩
  · subst hm hS
    (repeat ((conv => whnf); first | refine ⟨_, by first | ((with_reducible show L2.atI _ _ = some _); first | exact atI_0 | exact atI_1 | exact atI_2 | exact atI_3 | exact atI_4 | exact atI_5 | exact atI_6 | exact atI_7) | ((with_reducible show L2.ixN _ _ = some _); first | exact ix_0 | exact ix_1 | exact ix_2 | exact ix_3 | exact ix_4 | exact ix_5 | exact ix_6 | exact ix_7), ?_⟩ | refine ⟨by (first | (show sameM _ _; exact ⟨rfl, rfl⟩) | (show mulOk _ _; unfold mulOk; omega) | (show divOk _; unfold divOk; omega) | (show powOk _ _; unfold powOk; decide) | (show _ ≠ _; omega) | (show isNon _ = true; rfl) | exact len_lit (by rfl) | exact len2_lit (by rfl)), ?_⟩ | refine ⟨true, by decide +kernel, ?_⟩ | refine ⟨false, by decide +kernel, ?_⟩ | refine itv_lst ?_ | refine itv_tup ?_ | refine itv_scr ?_ | refine itv_str ?_ | refine itv_dct ?_)); (try (conv => whnf))
    refine hQ _ (deck_in (h := 0) (p := 0) (s := s) (c := 0) (xs := ns) (w := 0) (by omega) (by omega) rfl)
end OD

set_option Elab.async false
set_option autoImplicit false
set_option linter.all false
set_option maxRecDepth 100000
set_option maxHeartbeats 1000000
/-! My own layer, part 18: shown texts are short. -/
namespace OD
open PySem
mutual
def wt : D → Nat
  | .non => 4 | .bl _ => 5 | .int _ => 2000 | .str x => (reprText x).length
  | .tup ds => 4 + wts ds | .lst ds => 4 + wts ds
  | _ => 0
def wts : List D → Nat
  | [] => 0
  | d :: ds => 2 + wt d + wts ds
end
mutual
def shOk : D → Bool
  | .non => true | .bl _ => true | .int i => decide (i.natAbs.log2 < 1920) | .str _ => true
  | .tup ds => shOks ds | .lst ds => shOks ds
  | _ => false
def shOks : List D → Bool
  | [] => true
  | d :: ds => shOk d && shOks ds
end
theorem tf_le : ∀ (ts : List Str) (k : Nat) (acc : Str), (textFrom k acc ts).length ≤ acc.length + (ts.map fun t => 2 + t.length).sum
  | [], k, acc => Nat.le_refl _
  | t :: ts, k, acc => by
    have ih := tf_le ts (k + 1) (acc ++ (if k > 0 then ", " else "" : String) ++ t)
    have e : (acc ++ (if k > 0 then ", " else "" : String) ++ t).length ≤ acc.length + 2 + t.length := by
      rw [strLen_append, strLen_append]
      have : (((if k > 0 then ", " else "" : String) : Str)).length ≤ 2 := by split <;> decide
      omega
    show (textFrom (k + 1) (acc ++ (if k > 0 then ", " else "" : String) ++ t) ts).length ≤ _
    rw [List.map_cons, List.sum_cons]
    omega
theorem jn_le : ∀ (ts : List Str), (Str.join ", " ts).length ≤ (ts.map fun t => 2 + t.length).sum
  | [] => Nat.le_refl _
  | [x] => by
    show x.length ≤ _
    simp
  | x :: y :: ts => by
    have ih := jn_le (y :: ts)
    show (x ++ ", " ++ Str.join ", " (y :: ts)).length ≤ _
    rw [strLen_append, strLen_append, List.map_cons, List.sum_cons]
    have : ((", " : Str)).length = 2 := rfl
    omega
mutual
theorem sh_le : ∀ {d : D}, shOk d = true → d.py.showable = true ∧ d.py.shown.length ≤ wt d
  | .non, _ => ⟨by simp [D.py, PyData.showable], by simp only [D.py, PyData.shown, wt]; decide⟩
  | .bl b, _ => ⟨by simp [D.py, PyData.showable], by simp only [D.py, PyData.shown, wt]; cases b <;> decide⟩
  | .int i, h => by
    have h' : i.natAbs.log2 < 1920 := by simpa [shOk] using h
    refine ⟨by simpa [D.py, PyData.showable] using h', ?_⟩
    simp only [D.py, PyData.shown, wt]
    have := int_text_length_le (k := 1920) (by decide) h'
    show (Str.ofString (toString i)).length ≤ 2000
    rw [ofString_length]
    omega
  | .str x, _ => ⟨by simp [D.py, PyData.showable], by simp only [D.py, PyData.shown, wt]; exact Nat.le_refl _⟩
  | .tup ds, h => by
    have h' : shOks ds = true := by simpa only [shOk] using h
    obtain ⟨h1, h2⟩ := shs_le h'
    refine ⟨by simpa only [D.py, PyData.showable] using h1, ?_⟩
    simp only [D.py, PyData.shown, wt]
    unfold tupleText
    rw [strLen_append, strLen_append]
    have h3 := jn_le (PyData.shownAll (pys ds))
    have h4 : (((if (PyData.shownAll (pys ds)).length == 1 then ",)" else ")" : String) : Str)).length ≤ 2 := by split <;> decide
    have h5 : (("(" : Str)).length = 1 := rfl
    omega
  | .lst ds, h => by
    have h' : shOks ds = true := by simpa only [shOk] using h
    obtain ⟨h1, h2⟩ := shs_le h'
    refine ⟨by simpa only [D.py, PyData.showable] using h1, ?_⟩
    simp only [D.py, PyData.shown, wt]
    unfold listText
    rw [strLen_append]
    have h3 := tf_le (PyData.shownAll (pys ds)) 0 "["
    have h4 : (("[" : Str)).length = 1 := rfl
    have h5 : (("]" : Str)).length = 1 := rfl
    omega
  | .scr _, h => by simp [shOk] at h
  | .ref _, h => by simp [shOk] at h
  | .fn _, h => by simp [shOk] at h
  | .cls _, h => by simp [shOk] at h
  | .ins _ _, h => by simp [shOk] at h
  | .exv _ _, h => by simp [shOk] at h
  | .dct _ _, h => by simp [shOk] at h
theorem shs_le : ∀ {ds : List D}, shOks ds = true → PyData.showableAll (pys ds) = true ∧ ((PyData.shownAll (pys ds)).map fun t => 2 + t.length).sum ≤ wts ds
  | [], _ => ⟨by simp [pys, PyData.showableAll], by simp [pys, PyData.shownAll, wts]⟩
  | d :: ds, h => by
    have h' : shOk d = true ∧ shOks ds = true := by simpa only [shOks, Bool.and_eq_true] using h
    obtain ⟨h1, h2⟩ := sh_le h'.1
    obtain ⟨h3, h4⟩ := shs_le h'.2
    refine ⟨by simp only [pys, PyData.showableAll, h1, h3, Bool.and_self], ?_⟩
    simp only [pys, PyData.shownAll, wts, List.map_cons, List.sum_cons]
    omega
end
theorem sh_of {d : D} (h1 : seqD d = true) (h2 : okD 60 d = true) (h3 : shOk d = true) (h4 : wt d ≤ 10000000) : shD d = some d.py.shown := by
  obtain ⟨k1, k2⟩ := sh_le h3
  unfold shD
  rw [if_pos ⟨h1, h2, k1, Nat.le_trans k2 (Nat.le_trans h4 (by rw [sizeLine_eq]; decide))⟩]
theorem eqD_str {x y : Str} : eqD (.str x) (.str y) = some (decide (x = y)) := rfl
theorem eqD_same {x : Str} : eqD (.str x) (.str x) = some true := by
  rw [eqD_str, decide_eq_true rfl]
theorem log_ok {i : Int} (h0 : -(2 ^ 100) ≤ i) (h1 : i ≤ 2 ^ 100) : decide (i.natAbs.log2 < 1920) = true := by
  refine decide_eq_true ?_
  by_cases z : i.natAbs = 0
  · rw [z]; decide
  · rw [Nat.log2_lt z]
    exact Nat.lt_of_lt_of_le (show i.natAbs < 2 ^ 101 by omega) (Nat.pow_le_pow_right (by decide) (by decide))
theorem okD_int {n : Nat} {i : Int} : okD n (.int i) = true := by cases n <;> rfl
theorem okDs_ints {n : Nat} : ∀ xs : List Int, (xs.map D.int).all (okD n) = true
  | [] => rfl
  | x :: xs => by rw [List.map_cons, List.all_cons, okD_int, okDs_ints xs]; rfl
theorem shOks_ints : ∀ {xs : List Int}, (∀ x ∈ xs, -(2 ^ 100) ≤ x ∧ x ≤ 2 ^ 100) → shOks (xs.map D.int) = true
  | [], _ => by simp [shOks]
  | x :: xs, h => by
    rw [List.map_cons, shOks, shOk, log_ok (h x List.mem_cons_self).1 (h x List.mem_cons_self).2, shOks_ints fun y hy => h y (List.mem_cons_of_mem _ hy)]; rfl
theorem wts_ints : ∀ xs : List Int, wts (xs.map D.int) = 2002 * xs.length
  | [] => by simp [wts]
  | x :: xs => by rw [List.map_cons, wts, wt, wts_ints xs, List.length_cons]; omega
theorem eqva_ints : ∀ xs : List Int, PyData.eqvAll (xs.map PyData.int) (xs.map PyData.int) = true
  | [] => by simp [PyData.eqvAll]
  | x :: xs => by simp [PyData.eqvAll, PyData.eqv, eqva_ints xs]
-- plain data is equal to itself
mutual
theorem eqv_refl : ∀ {d : D} {n : Nat}, okD n d = true → PyData.eqv d.py d.py = true
  | .non, _, _ => by simp [D.py, PyData.eqv]
  | .bl _, _, _ => by simp [D.py, PyData.eqv]
  | .int _, _, _ => by simp [D.py, PyData.eqv]
  | .str _, _, _ => by simp [D.py, PyData.eqv]
  | .tup ds, 0, h => by simp [okD] at h
  | .tup ds, n + 1, h => by
    simp only [D.py, PyData.eqv]
    exact eqvs_refl (n := n) (by simpa only [okD] using h)
  | .lst ds, 0, h => by simp [okD] at h
  | .lst ds, n + 1, h => by
    simp only [D.py, PyData.eqv]
    exact eqvs_refl (n := n) (by simpa only [okD] using h)
  | .scr ns, _, _ => by
    simp only [D.py, PyData.eqv]
    exact eqva_ints ns
  | .ref _, n, h => by cases n <;> simp [okD] at h
  | .fn _, n, h => by cases n <;> simp [okD] at h
  | .cls _, n, h => by cases n <;> simp [okD] at h
  | .ins _ _, n, h => by cases n <;> simp [okD] at h
  | .exv _ _, n, h => by cases n <;> simp [okD] at h
  | .dct _ _, n, h => by cases n <;> simp [okD] at h
theorem eqvs_refl : ∀ {ds : List D} {n : Nat}, ds.all (okD n) = true → PyData.eqvAll (pys ds) (pys ds) = true
  | [], _, _ => by simp [pys, PyData.eqvAll]
  | d :: ds, n, h => by
    rw [List.all_cons, Bool.and_eq_true] at h
    simp only [pys, PyData.eqvAll, eqv_refl h.1, eqvs_refl h.2, Bool.and_self]
end
theorem eqD_refl {d : D} (h : okD 60 d = true) : eqD d d = some true := by
  have e : (if okD 60 d = true ∧ okD 60 d = true then some (PyData.eqv d.py d.py) else none) = some true := by rw [if_pos ⟨h, h⟩, eqv_refl h]
  cases d with
  | str x => exact eqD_same
  | _ => exact e
theorem eq_of_wp {α : Type} {r : Res α} {x : α} {m : MS} (h : wpx noE r fun a m' => a = x ∧ m' = m) : r = .ok x m := by
  obtain ⟨a, m', e, rfl, rfl⟩ := wp_ex h
  exact e

theorem atI_ints2 {xs : List Int} {k : Int} (h0 : 0 ≤ k) (h1 : k < xs.length) : ∃ i, i ∈ xs ∧ L2.atI (xs.map D.int) k = some (.int i) := by
  obtain ⟨d, hm, _, e⟩ := atI_of (ds := xs.map D.int) h0 (by simpa using h1)
  obtain ⟨i, hi, rfl⟩ := List.mem_map.mp hm
  exact ⟨i, hi, e⟩

theorem atI_get {xs : List Int} {k : Int} (h0 : 0 ≤ k) (h1 : k < xs.length) : L2.atI (xs.map D.int) k = some (.int (xs.getD k.toNat 0)) := by
  have hk : k.toNat < xs.length := by omega
  unfold L2.atI
  rw [ixN_of h0 (by simpa using h1)]
  show (xs.map D.int)[k.toNat]? = _
  rw [List.getElem?_map, List.getElem?_eq_getElem hk, List.getD_eq_getElem?_getD, List.getElem?_eq_getElem hk]; rfl

theorem prod_bd {a b A B : Int} (a0 : 0 ≤ a) (a1 : a ≤ A) (b0 : 0 ≤ b) (b1 : b ≤ B) : 0 ≤ a * b ∧ a * b ≤ A * B := ⟨Int.mul_nonneg a0 b0, Int.mul_le_mul a1 b1 b0 (by omega)⟩

theorem map2R_pure {f : D → MS → Res (List D)} {m : MS} (g : D → List D) : ∀ (ds : List D), (∀ d ∈ ds, f d m = .ok (g d) m) → map2R f ds m = .ok (ds.flatMap g) m
  | [], _ => rfl
  | d :: ds, h => by
    unfold map2R
    rw [h d List.mem_cons_self]
    show bindR (map2R f ds m) _ = _
    rw [map2R_pure g ds fun e he => h e (List.mem_cons_of_mem _ he)]
    rfl

theorem wp_el2 {gl : List D} {cf : Nat → List D → MS → Res (D × Kd)} {e c tg tg2 it2 : T} {own own2 : List Nat} {S : Sto} {d : D} {m : MS} {Q : List D → MS → Prop}
    (h : optP (tgT tg d .sh (wipeS S own)) fun S1 => wpI gl cf it2 S1 m noE fun es m2 => Wpx noE (mapR (elR gl cf e c tg2 own2 S1) es m2) Q) : wpx noE (el2R gl cf e c tg tg2 it2 own own2 S d m) Q := by
  unfold el2R
  rw [wp_bind]
  refine wp_opt ?_
  cases q : tgT tg d .sh (wipeS S own) with
  | none => rw [q] at h; exact h
  | some S1 =>
    rw [q] at h
    show wpx _ (bindR _ _) _
    rw [wp_bind]
    exact wp_mono ((wpe_all gl cf _).i h) fun es m2 h => h.h

theorem range_mem {lo hi : Int} {d : D} (h : d ∈ rangeL lo hi) : ∃ i, d = .int i ∧ lo ≤ i ∧ i < hi := by
  obtain ⟨k, hk, rfl⟩ := List.mem_map.mp h
  have := List.mem_range.mp hk
  exact ⟨_, rfl, by omega, by omega⟩

theorem mem_range {lo hi i : Int} (h0 : lo ≤ i) (h1 : i < hi) : D.int i ∈ rangeL lo hi := by
  refine List.mem_map.mpr ⟨(i - lo).toNat, List.mem_range.mpr (by omega), ?_⟩
  congr 1; omega

def toI : D → Int
  | .int i => i
  | _ => 0

theorem bls_all {α : Type} (f : α → Bool) : ∀ l : List α, blsD (l.map fun x => D.bl (f x)) = some (l.map f)
  | [] => rfl
  | x :: l => by rw [List.map_cons, blsD, bls_all f l]; rfl

theorem len_flat {α β : Type} {g : α → List β} {c : Nat} : ∀ {l : List α}, (∀ a ∈ l, (g a).length ≤ c) → (l.flatMap g).length ≤ l.length * c
  | [], _ => by simp
  | a :: l, h => by
    rw [List.flatMap_cons, List.length_append, List.length_cons, Nat.add_mul, Nat.one_mul]
    have h1 := h a List.mem_cons_self
    have h2 := len_flat (l := l) fun b hb => h b (List.mem_cons_of_mem _ hb)
    omega

theorem range_len {lo hi : Int} : (rangeL lo hi).length = (hi - lo).toNat := by simp [rangeL]

theorem range_drop {lo hi : Int} {i : Nat} {d : D} {ds : List D} (h : d :: ds = (rangeL lo hi).drop i) : (i : Int) < hi - lo ∧ d = .int (lo + (i : Nat)) ∧ ds = (rangeL lo hi).drop (i + 1) := by
  have hl : i < (hi - lo).toNat := by
    have := congrArg List.length h
    rw [List.length_drop, range_len, List.length_cons] at this
    omega
  unfold rangeL at h ⊢
  rw [List.drop_eq_getElem_cons (by simpa using hl)] at h
  simp only [List.getElem_map, List.getElem_range] at h
  injection h with h1 h2
  exact ⟨by omega, h1, h2⟩

theorem range_end {lo hi : Int} {i : Nat} (h : [] = (rangeL lo hi).drop i) : hi - lo ≤ (i : Int) := by
  have := congrArg List.length h
  rw [List.length_drop, range_len, List.length_nil] at this
  omega

theorem wp_mapI {f : D → MS → Res (Option D)} {Q : List D → MS → Prop} (step : ∀ d m, Deck m → wpx noE (f d m) fun o m' => ∃ i : Int, o = some (.int i) ∧ Deck m') {ds : List D} {m : MS} (hD : Deck m) (fin : ∀ (xs : List Int) m', xs.length = ds.length → Deck m' → Q (xs.map D.int) m') : wpx noE (mapR f ds m) Q := by
  refine wp_map0 (fun es acc m => Deck m ∧ ∃ xs : List Int, acc = xs.map D.int ∧ xs.length + es.length = ds.length) (fun d es acc m ⟨hD, xs, hx, hl⟩ => ?_) (fun acc m ⟨hD, xs, hx, hl⟩ => ?_) ⟨hD, [], rfl, by simp⟩
  · refine wp_mono (step d m hD) fun o m' ⟨i, ho, hD⟩ => ⟨hD, xs ++ [i], ?_, ?_⟩
    · rw [ho, hx, List.map_append]; rfl
    · rw [List.length_append, List.length_singleton]
      rw [List.length_cons] at hl
      omega
  · rw [hx]
    exact fin xs m (by rw [List.length_nil] at hl; omega) hD

theorem wp_mapG {α : Type} (g : α → D) (R : α → Prop) {f : D → MS → Res (Option D)} {Q : List D → MS → Prop} (step : ∀ d m, Deck m → wpx noE (f d m) fun o m' => ∃ i : α, o = some (g i) ∧ R i ∧ Deck m') {ds : List D} {m : MS} (hD : Deck m) (fin : ∀ (xs : List α) m', xs.length = ds.length → (∀ x ∈ xs, R x) → Deck m' → Q (xs.map g) m') : wpx noE (mapR f ds m) Q := by
  refine wp_map0 (fun es acc m => Deck m ∧ ∃ xs : List α, acc = xs.map g ∧ xs.length + es.length = ds.length ∧ ∀ x ∈ xs, R x) (fun d es acc m ⟨hD, xs, hx, hl, hr⟩ => ?_) (fun acc m ⟨hD, xs, hx, hl, hr⟩ => ?_) ⟨hD, [], rfl, by simp, by simp⟩
  · refine wp_mono (step d m hD) fun o m' ⟨i, ho, hi, hD⟩ => ⟨hD, xs ++ [i], ?_, ?_, fun x h => ?_⟩
    · rw [ho, hx, List.map_append]; rfl
    · rw [List.length_append, List.length_singleton]
      rw [List.length_cons] at hl
      omega
    · rcases List.mem_append.mp h with h | h
      · exact hr x h
      · rw [List.mem_singleton.mp h]; exact hi
  · rw [hx]
    exact fin xs m (by rw [List.length_nil] at hl; omega) hr hD

theorem atI_map {α : Type} {g : α → D} {xs : List α} {k : Int} (h0 : 0 ≤ k) (h1 : k < xs.length) : ∃ x, xs[k.toNat]? = some x ∧ L2.atI (xs.map g) k = some (g x) := by
  have hk : k.toNat < xs.length := by omega
  refine ⟨xs[k.toNat], List.getElem?_eq_getElem hk, ?_⟩
  unfold L2.atI
  rw [ixN_of h0 (by simpa using h1)]
  show (xs.map g)[k.toNat]? = _
  rw [List.getElem?_map, List.getElem?_eq_getElem hk]; rfl

theorem sIx_some {n d : Nat} {k : Int} (h0 : 0 ≤ k) (h1 : k ≤ n) : HT.sIx n d (some k) = k.toNat := by
  show (if k < 0 then (k + (n : Int)).toNat else min k.toNat n) = _
  rw [if_neg (by omega)]
  exact Nat.min_eq_left (by omega)

theorem sIx_none {n d : Nat} : HT.sIx n d none = d := rfl

theorem inD_ints {i : Int} {xs : List Int} : ∃ b, inD (.int i) (.lst (xs.map D.int)) = some b := by
  have h : okD 60 (.lst (xs.map D.int)) = true := okDs_ints xs
  exact ⟨_, if_pos ⟨okD_int, h⟩⟩
theorem okD_tup {n : Nat} {ds : List D} : okD (n + 1) (.tup ds) = ds.all (okD n) := rfl
theorem okD_lst {n : Nat} {ds : List D} : okD (n + 1) (.lst ds) = ds.all (okD n) := rfl
mutual
theorem okD_le : ∀ {d : D} {n k : Nat}, okD n d = true → n ≤ k → okD k d = true
  | .non, n, k, _, _ => by cases k <;> rfl
  | .bl _, n, k, _, _ => by cases k <;> rfl
  | .int _, n, k, _, _ => by cases k <;> rfl
  | .str x, n, k, h, _ => by
    have h' : PyData.strOk x = true := by cases n <;> simpa [okD] using h
    cases k <;> simpa [okD] using h'
  | .tup ds, 0, k, h, _ => by simp [okD] at h
  | .tup ds, n + 1, 0, _, h2 => by omega
  | .tup ds, n + 1, k + 1, h, h2 => okDs_le (n := n) (by simpa only [okD] using h) (by omega)
  | .lst ds, 0, k, h, _ => by simp [okD] at h
  | .lst ds, n + 1, 0, _, h2 => by omega
  | .lst ds, n + 1, k + 1, h, h2 => okDs_le (n := n) (by simpa only [okD] using h) (by omega)
  | .scr ns, 0, k, h, _ => by simp [okD] at h
  | .scr ns, n + 1, 0, _, h2 => by omega
  | .scr ns, n + 1, k + 1, _, _ => rfl
  | .ref _, n, _, h, _ => by cases n <;> simp [okD] at h
  | .fn _, n, _, h, _ => by cases n <;> simp [okD] at h
  | .cls _, n, _, h, _ => by cases n <;> simp [okD] at h
  | .ins _ _, n, _, h, _ => by cases n <;> simp [okD] at h
  | .exv _ _, n, _, h, _ => by cases n <;> simp [okD] at h
  | .dct _ _, n, _, h, _ => by cases n <;> simp [okD] at h
theorem okDs_le : ∀ {ds : List D} {n k : Nat}, ds.all (okD n) = true → n ≤ k → ds.all (okD k) = true
  | [], _, _, _, _ => rfl
  | d :: ds, n, k, h, h2 => by
    rw [List.all_cons, Bool.and_eq_true] at h
    rw [List.all_cons, okD_le h.1 h2, okDs_le h.2 h2]; rfl
end
end OD

set_option Elab.async false
set_option autoImplicit false
set_option linter.all false
set_option maxRecDepth 100000
set_option maxHeartbeats 0
/-! ### the law: its text against the small language -/
namespace OD.Law
open PySem PySem.Spec PyProof.Rows L2 OD
def top (i : Nat) : Stmt := PySem.Challenge.pw_onlythedirt_k10_moved.main.body.getD i (.Pass ⟨0, 0, 0, 0⟩)
def b_moved : T := .seq (.ret (.lc (.tup (.cons (.bin .add (.var 3) (.var 1)) (.cons (.bin .add (.var 4) (.var 2)) (.cons (.bin .add (.var 5) (.var 1)) (.cons (.bin .add (.var 6) (.var 2)) (.nil)))))) (.tru) (.tt (.cons (.tn 3) (.cons (.tn 4) (.cons (.tn 5) (.cons (.tn 6) (.nil)))))) (.itv (.var 0)) [3, 4, 5, 6])) (.skip)
def b_law_deck : T := .seq (.asg (.tn 1) (.int 7)) (.seq (.for_ (.tn 2) (.itv (.var 0)) (.seq (.asg (.tn 1) (.bin .mod (.blt .int (.cons (.bin .add (.bin .mul (.var 1) (.int 48271)) (.var 2)) (.nil))) (.int 2147483647))) (.skip))) (.seq (.ret (.olst (.cons (.int 0) (.cons (.int 0) (.cons (.var 1) (.cons (.blt .list (.cons (.var 0) (.nil))) (.cons (.int 0) (.nil)))))))) (.skip)))
def b_law_draw : T := .seq (.iff (.ban (.cons (.cmp .eq (.idx (.var 0) (.int 0)) (.int 0)) (.one (.cmp .lt (.idx (.var 0) (.int 1)) (.blt .len (.cons (.idx (.var 0) (.int 3)) (.nil))))))) (.seq (.oset (.var 0) (.int 0) (.blt .abs (.cons (.idx (.idx (.var 0) (.int 3)) (.idx (.var 0) (.int 1))) (.nil)))) (.seq (.oset (.var 0) (.int 1) (.bin .add (.idx (.var 0) (.int 1)) (.int 1))) (.skip))) (.seq (.iff (.cmp .eq (.idx (.var 0) (.int 0)) (.int 0)) (.seq (.oset (.var 0) (.int 4) (.bin .add (.idx (.var 0) (.int 4)) (.int 1))) (.seq (.asg (.tn 2) (.bin .mod (.blt .int (.cons (.bin .add (.bin .add (.bin .mul (.idx (.var 0) (.int 2)) (.int 48271)) (.bin .mul (.idx (.var 0) (.int 4)) (.int 69621))) (.int 12345)) (.nil))) (.int 2147483647))) (.seq (.asg (.tn 2) (.bin .mod (.blt .int (.cons (.bin .add (.bin .add (.bin .mul (.var 2) (.var 2)) (.bin .mul (.int 16807) (.idx (.var 0) (.int 4)))) (.int 7)) (.nil))) (.int 998244353))) (.seq (.asg (.tn 2) (.bin .mod (.blt .int (.cons (.bin .add (.bin .add (.bin .mul (.var 2) (.var 2)) (.bin .mul (.int 48271) (.idx (.var 0) (.int 4)))) (.idx (.var 0) (.int 2))) (.nil))) (.int 2147483629))) (.seq (.oset (.var 0) (.int 0) (.bin .fdiv (.var 2) (.int 13))) (.skip)))))) (.skip)) (.skip))) (.seq (.asg (.tn 3) (.bin .mod (.blt .int (.cons (.idx (.var 0) (.int 0)) (.nil))) (.var 1))) (.seq (.oset (.var 0) (.int 0) (.bin .fdiv (.idx (.var 0) (.int 0)) (.var 1))) (.seq (.ret (.var 3)) (.skip))))
def b_law_rectangle : T := .seq (.asg (.tn 2) (.bin .sub (.call 2 (.cons (.var 0) (.cons (.var 1) (.nil)))) (.int 3))) (.seq (.asg (.tn 3) (.bin .sub (.call 2 (.cons (.var 0) (.cons (.var 1) (.nil)))) (.int 3))) (.seq (.asg (.tn 4) (.bin .add (.int 1) (.idx (.lst (.cons (.call 2 (.cons (.var 0) (.cons (.int 3) (.nil)))) (.cons (.call 2 (.cons (.var 0) (.cons (.var 1) (.nil)))) (.nil)))) (.call 2 (.cons (.var 0) (.cons (.int 2) (.nil))))))) (.seq (.asg (.tn 5) (.bin .add (.int 1) (.idx (.lst (.cons (.call 2 (.cons (.var 0) (.cons (.int 3) (.nil)))) (.cons (.call 2 (.cons (.var 0) (.cons (.var 1) (.nil)))) (.nil)))) (.call 2 (.cons (.var 0) (.cons (.int 2) (.nil))))))) (.seq (.ret (.tup (.cons (.var 2) (.cons (.var 3) (.cons (.bin .add (.var 2) (.var 4)) (.cons (.bin .add (.var 3) (.var 5)) (.nil))))))) (.skip)))))
def b_law_rectangles : T := .seq (.asg (.tn 3) (.lst (.nil))) (.seq (.for_ (.tn 4) (.rg1 (.var 1)) (.seq (.asg (.tn 5) (.call 3 (.cons (.var 0) (.cons (.var 2) (.nil))))) (.seq (.iff (.ban (.cons (.cmp .gt (.blt .len (.cons (.bvar 3) (.nil))) (.int 0)) (.one (.cmp .eq (.call 2 (.cons (.var 0) (.cons (.int 3) (.nil)))) (.int 0))))) (.seq (.asg (.tn 6) (.idx (.bvar 3) (.call 2 (.cons (.var 0) (.cons (.blt .len (.cons (.bvar 3) (.nil))) (.nil)))))) (.seq (.asg (.tn 7) (.call 2 (.cons (.var 0) (.cons (.int 4) (.nil))))) (.seq (.asg (.tn 8) (.bin .sub (.idx (.var 6) (.var 7)) (.idx (.var 5) (.bin .mod (.blt .int (.cons (.bin .add (.var 7) (.bin .mul (.int 2) (.call 2 (.cons (.var 0) (.cons (.int 2) (.nil)))))) (.nil))) (.int 4))))) (.seq (.iff (.bor (.cons (.cmp .eq (.var 7) (.int 0)) (.one (.cmp .eq (.var 7) (.int 2))))) (.seq (.asg (.tn 5) (.tup (.cons (.bin .add (.idx (.var 5) (.int 0)) (.var 8)) (.cons (.idx (.var 5) (.int 1)) (.cons (.bin .add (.idx (.var 5) (.int 2)) (.var 8)) (.cons (.idx (.var 5) (.int 3)) (.nil))))))) (.skip)) (.seq (.asg (.tn 5) (.tup (.cons (.idx (.var 5) (.int 0)) (.cons (.bin .add (.idx (.var 5) (.int 1)) (.var 8)) (.cons (.idx (.var 5) (.int 2)) (.cons (.bin .add (.idx (.var 5) (.int 3)) (.var 8)) (.nil))))))) (.skip))) (.skip))))) (.skip)) (.seq (.app 3 (.var 5)) (.skip))))) (.seq (.retm 3) (.skip)))
def b_law_points : T := .seq (.dnw 1 true) (.seq (.for_ (.tt (.cons (.tn 2) (.cons (.tn 3) (.cons (.tn 4) (.cons (.tn 5) (.nil)))))) (.itv (.var 0)) (.seq (.for_ (.tn 6) (.rg2 (.var 3) (.var 5)) (.seq (.for_ (.tn 7) (.rg2 (.var 2) (.var 4)) (.seq (.dtt 1 (.cons (.var 7) (.cons (.var 6) (.nil)))) (.skip))) (.skip))) (.skip))) (.seq (.shr 1) (.seq (.ret (.var 1)) (.skip))))
def b_law_runs : T := .seq (.asg (.tn 2) (.blt .sorted (.cons (.lc (.idx (.var 5) (.int 0)) (.cmp .eq (.idx (.var 5) (.int 1)) (.var 1)) (.tn 5) (.itv (.var 0)) [5]) (.nil)))) (.seq (.shr 2) (.seq (.asg (.tn 3) (.lst (.nil))) (.seq (.for_ (.tn 4) (.itv (.var 2)) (.seq (.iff (.ban (.cons (.cmp .gt (.blt .len (.cons (.bvar 3) (.nil))) (.int 0)) (.one (.cmp .eq (.idx (.idx (.bvar 3) (.neg (.int 1))) (.int 1)) (.var 4))))) (.seq (.seti 3 (.neg (.int 1)) (.tup (.cons (.idx (.idx (.bvar 3) (.neg (.int 1))) (.int 0)) (.cons (.bin .add (.var 4) (.int 1)) (.nil))))) (.skip)) (.seq (.app 3 (.tup (.cons (.var 4) (.cons (.bin .add (.var 4) (.int 1)) (.nil))))) (.skip))) (.skip))) (.seq (.retm 3) (.skip)))))
def b_law_form : T := .seq (.dnw 1 false) (.seq (.for_ (.tn 2) (.itv (.var 0)) (.seq (.dst 1 (.idx (.var 2) (.int 1))) (.skip))) (.seq (.shr 1) (.seq (.asg (.tn 3) (.lst (.nil))) (.seq (.for_ (.tn 4) (.itv (.blt .sorted (.cons (.blt .list (.cons (.var 1) (.nil))) (.nil)))) (.seq (.asg (.tn 5) (.call 6 (.cons (.var 0) (.cons (.var 4) (.nil))))) (.seq (.shr 5) (.seq (.iff (.ban (.cons (.cmp .gt (.blt .len (.cons (.bvar 3) (.nil))) (.int 0)) (.cons (.cmp .eq (.idx (.idx (.bvar 3) (.neg (.int 1))) (.int 1)) (.var 4)) (.one (.cmp .eq (.idx (.idx (.bvar 3) (.neg (.int 1))) (.int 2)) (.var 5)))))) (.seq (.seti 3 (.neg (.int 1)) (.tup (.cons (.idx (.idx (.bvar 3) (.neg (.int 1))) (.int 0)) (.cons (.bin .add (.var 4) (.int 1)) (.cons (.var 5) (.nil)))))) (.skip)) (.seq (.app 3 (.tup (.cons (.var 4) (.cons (.bin .add (.var 4) (.int 1)) (.cons (.var 5) (.nil)))))) (.skip))) (.skip))))) (.seq (.shr 3) (.seq (.asg (.tn 6) (.lst (.nil))) (.seq (.shr 6) (.seq (.for_ (.tt (.cons (.tn 7) (.cons (.tn 8) (.cons (.tn 5) (.nil))))) (.itv (.var 3)) (.seq (.asg (.tn 6) (.bin .add (.var 6) (.lc (.tup (.cons (.idx (.var 9) (.int 0)) (.cons (.var 7) (.cons (.idx (.var 9) (.int 1)) (.cons (.var 8) (.nil)))))) (.tru) (.tn 9) (.itv (.var 5)) [9]))) (.seq (.shr 6) (.skip)))) (.seq (.ret (.var 6)) (.skip))))))))))
def b_law_is : T := .seq (.iff (.bor (.cons (.tst (.isi (.var 1) .tuple)) (.one (.tst (.isi (.var 1) .list))))) (.seq (.iff (.bor (.cons (.cmp .ne (.isi (.var 0) .tuple) (.isi (.var 1) .tuple)) (.one (.cmp .ne (.isi (.var 0) .list) (.isi (.var 1) .list))))) (.seq (.ret (.fls)) (.skip)) (.skip)) (.seq (.iff (.cmp .ne (.blt .len (.cons (.var 0) (.nil))) (.blt .len (.cons (.var 1) (.nil)))) (.seq (.ret (.fls)) (.skip)) (.skip)) (.seq (.for_ (.tn 2) (.rg1 (.blt .len (.cons (.var 1) (.nil)))) (.seq (.iff (.not (.tst (.call 8 (.cons (.idx (.var 0) (.var 2)) (.cons (.idx (.var 1) (.var 2)) (.nil)))))) (.seq (.ret (.fls)) (.skip)) (.skip)) (.skip))) (.seq (.ret (.tru)) (.skip))))) (.skip)) (.seq (.iff (.bor (.cons (.cmp .ne (.isi (.var 0) .bool) (.isi (.var 1) .bool)) (.cons (.tst (.isi (.var 0) .tuple)) (.one (.tst (.isi (.var 0) .list)))))) (.seq (.ret (.fls)) (.skip)) (.skip)) (.seq (.ret (.cmp .eq (.var 0) (.var 1))) (.skip)))
def b_law : T := .seq (.asg (.tn 1) (.call 1 (.cons (.var 0) (.nil)))) (.seq (.asg (.tn 2) (.call 5 (.cons (.call 4 (.cons (.var 1) (.cons (.call 2 (.cons (.var 1) (.cons (.int 8) (.nil)))) (.cons (.int 12) (.nil))))) (.nil)))) (.seq (.asg (.tn 3) (.call 7 (.cons (.var 2) (.nil)))) (.seq (.asg (.tn 4) (.idx (.lst (.cons (.bin .sub (.call 2 (.cons (.var 1) (.cons (.int 61) (.nil)))) (.int 30)) (.cons (.bin .pow (.int 10) (.int 15)) (.cons (.int 0) (.nil))))) (.call 2 (.cons (.var 1) (.cons (.int 3) (.nil)))))) (.seq (.asg (.tn 5) (.idx (.lst (.cons (.bin .sub (.call 2 (.cons (.var 1) (.cons (.int 61) (.nil)))) (.int 30)) (.cons (.neg (.bin .pow (.int 10) (.int 15))) (.cons (.int 0) (.nil))))) (.call 2 (.cons (.var 1) (.cons (.int 3) (.nil)))))) (.seq (.asg (.tn 6) (.call 7 (.cons (.lc (.tup (.cons (.bin .add (.idx (.var 9) (.int 0)) (.var 4)) (.cons (.bin .add (.idx (.var 9) (.int 1)) (.var 5)) (.nil)))) (.tru) (.tn 9) (.itv (.var 2)) [9]) (.nil)))) (.seq (.asg (.tn 7) (.blt .list (.cons (.var 3) (.nil)))) (.seq (.shr 7) (.seq (.asg (.tn 8) (.call 0 (.cons (.var 7) (.cons (.var 4) (.cons (.var 5) (.nil)))))) (.seq (.iff (.lnd 8 (.bor (.cons (.not (.tst (.call 8 (.cons (.var 8) (.cons (.var 6) (.nil)))))) (.cons (.cmp .ne (.var 7) (.var 3)) (.one (.not (.tst (.call 8 (.cons (.call 0 (.cons (.var 8) (.cons (.neg (.var 4)) (.cons (.neg (.var 5)) (.nil))))) (.cons (.var 3) (.nil))))))))))) (.seq (.ret (.fls)) (.skip)) (.skip)) (.seq (.app 8 (.str "spoilt")) (.seq (.ret (.ban (.cons (.cmp .eq (.var 7) (.var 3)) (.one (.call 8 (.cons (.call 0 (.cons (.var 7) (.cons (.var 4) (.cons (.var 5) (.nil))))) (.cons (.var 6) (.nil)))))))) (.skip))))))))))))
def d_moved : Df := ⟨"moved", top 1, ["region", "dx", "dy", "left", "top", "right", "bottom"], ["region", "dx", "dy"], ⟨3, 7, b_moved⟩⟩
def d_law_deck : Df := ⟨"_law_deck", top 3, ["_law_script", "_law_seed", "_law_cell"], ["_law_script"], ⟨1, 3, b_law_deck⟩⟩
def d_law_draw : Df := ⟨"_law_draw", top 4, ["_law_deck_here", "_law_bound", "_law_number", "_law_value"], ["_law_deck_here", "_law_bound"], ⟨2, 4, b_law_draw⟩⟩
def d_law_rectangle : Df := ⟨"_law_rectangle", top 5, ["_law_deck_here", "_law_size", "_law_left", "_law_top", "_law_wide", "_law_high"], ["_law_deck_here", "_law_size"], ⟨2, 6, b_law_rectangle⟩⟩
def d_law_rectangles : Df := ⟨"_law_rectangles", top 6, ["_law_deck_here", "_law_count", "_law_size", "_law_found", "_law_k", "_law_rectangle_here", "_law_other", "_law_edge", "_law_shift"], ["_law_deck_here", "_law_count", "_law_size"], ⟨3, 9, b_law_rectangles⟩⟩
def d_law_points : Df := ⟨"_law_points", top 7, ["_law_rectangles_here", "_law_found", "_law_left", "_law_top", "_law_right", "_law_bottom", "_law_y", "_law_x"], ["_law_rectangles_here"], ⟨1, 8, b_law_points⟩⟩
def d_law_runs : Df := ⟨"_law_runs", top 8, ["_law_points_here", "_law_y", "_law_row", "_law_runs_here", "_law_x", "_law_point"], ["_law_points_here", "_law_y"], ⟨2, 6, b_law_runs⟩⟩
def d_law_form : Df := ⟨"_law_form", top 9, ["_law_points_here", "_law_rows", "_law_point", "_law_bands", "_law_y", "_law_runs_here", "_law_form_here", "_law_top", "_law_bottom", "_law_run"], ["_law_points_here"], ⟨1, 10, b_law_form⟩⟩
def d_law_is : Df := ⟨"_law_is", top 10, ["_law_actual", "_law_due", "_law_k"], ["_law_actual", "_law_due"], ⟨2, 3, b_law_is⟩⟩
def d_law : Df := ⟨"law", top 11, ["_law_script", "_law_deck_here", "_law_points_here", "_law_region", "_law_dx", "_law_dy", "_law_due", "_law_handed", "_law_told", "_law_point"], ["_law_script"], ⟨1, 10, b_law⟩⟩
def defs : List Df := [d_moved, d_law_deck, d_law_draw, d_law_rectangle, d_law_rectangles, d_law_points, d_law_runs, d_law_form, d_law_is, d_law]
def gls : List (Str × Gc) := []
def cs : List Cs := []
theorem okc : csOk cs = true := by decide +kernel
theorem chk : defs.all (chkDf (gls.map (·.1)) (defs.map fun d => (d.name, d.F.ar)) (clsOf cs)) = true := by decide +kernel
theorem bo_moved : BindOk d_moved := fun _ _ _ _ _ _ us hl => match us, hl with | [_, _, _], _ => rfl
theorem bo_law_deck : BindOk d_law_deck := fun _ _ _ _ _ _ us hl => match us, hl with | [_], _ => rfl
theorem bo_law_draw : BindOk d_law_draw := fun _ _ _ _ _ _ us hl => match us, hl with | [_, _], _ => rfl
theorem bo_law_rectangle : BindOk d_law_rectangle := fun _ _ _ _ _ _ us hl => match us, hl with | [_, _], _ => rfl
theorem bo_law_rectangles : BindOk d_law_rectangles := fun _ _ _ _ _ _ us hl => match us, hl with | [_, _, _], _ => rfl
theorem bo_law_points : BindOk d_law_points := fun _ _ _ _ _ _ us hl => match us, hl with | [_], _ => rfl
theorem bo_law_runs : BindOk d_law_runs := fun _ _ _ _ _ _ us hl => match us, hl with | [_, _], _ => rfl
theorem bo_law_form : BindOk d_law_form := fun _ _ _ _ _ _ us hl => match us, hl with | [_], _ => rfl
theorem bo_law_is : BindOk d_law_is := fun _ _ _ _ _ _ us hl => match us, hl with | [_, _], _ => rfl
theorem bo_law : BindOk d_law := fun _ _ _ _ _ _ us hl => match us, hl with | [_], _ => rfl
theorem bo : ∀ d ∈ defs, BindOk d := by
  intro d hd
  simp only [defs, List.mem_cons, List.not_mem_nil, or_false] at hd
  rcases hd with rfl | rfl | rfl | rfl | rfl | rfl | rfl | rfl | rfl | rfl
  · exact bo_moved
  · exact bo_law_deck
  · exact bo_law_draw
  · exact bo_law_rectangle
  · exact bo_law_rectangles
  · exact bo_law_points
  · exact bo_law_runs
  · exact bo_law_form
  · exact bo_law_is
  · exact bo_law
abbrev fa : List He.Fa := factsOf gls defs cs
abbrev fn : List He.DefD := defs.map dfD ++ cs.map csD
abbrev R : PySem.W.OpenRow := PySem.W.OpenLaw.row PySem.Challenge.rw_onlythedirt_k10_moved
theorem bc : ∀ (i : Nat) (c : Cs), cs[i]? = some c → BindC i c := by
  intro i c h
  simp [cs] at h
abbrev hk : PySem.W.Hook := hookX 4 fa fn cs gls
def ob (s : PySem.W.SharedT) : AlX := obsXG 4 fa fn cs gls (HandSHeadRun.getT s)
theorem ob_eq (s : PySem.W.SharedT) : ob s = hk.obs s.abs := obsXG_eq (HandSHeadRun.getT_eq s)
def loose : List PySem.Str := (["moved", "_law_deck", "_law_draw", "_law_rectangle", "_law_rectangles", "_law_points", "_law_runs", "_law_form", "_law_is"] : List PySem.Str)
theorem run (w : World) : HandSHeadRun.RunEq R (PySem.W.view R.prog [11]) hk ob 1140 loose w := by
  intro os
  kernel_rfl
def fuel : Nat := 12
def callL (n f : Nat) (ds : List D) (m : MS) : Res (D × Kd) := callF (gls.map fun p => p.2.d) (defs.map (·.F)) n f ds m
end OD.Law

set_option Elab.async false
set_option autoImplicit false
set_option linter.all false
set_option maxRecDepth 100000
set_option maxHeartbeats 1000000
namespace OD.Law
open PySem OD
theorem sz {n : Nat} (h : n ≤ 100000) : n ≤ sizeLine := Nat.le_trans h (by rw [sizeLine_eq]; decide)
/-- plain data: at most b items in a row, of depth below n -/
def plb (b : Nat) : Nat → D → Bool
  | _, .non => true | _, .bl _ => true | _, .int _ => true | _, .str x => PyData.strOk x
  | n + 1, .tup ds => decide (ds.length ≤ b) && ds.all (plb b n) | n + 1, .lst ds => decide (ds.length ≤ b) && ds.all (plb b n)
  | _, _ => false
theorem plb_tup {b n : Nat} {ds : List D} : plb b (n + 1) (.tup ds) = true ↔ ds.length ≤ b ∧ ∀ d ∈ ds, plb b n d = true := by
  show (decide (ds.length ≤ b) && ds.all (plb b n)) = true ↔ _
  rw [Bool.and_eq_true, decide_eq_true_eq, List.all_eq_true]
theorem plb_lst {b n : Nat} {ds : List D} : plb b (n + 1) (.lst ds) = true ↔ ds.length ≤ b ∧ ∀ d ∈ ds, plb b n d = true := by
  show (decide (ds.length ≤ b) && ds.all (plb b n)) = true ↔ _
  rw [Bool.and_eq_true, decide_eq_true_eq, List.all_eq_true]
theorem plb_le : ∀ {n k b c : Nat} {d : D}, plb b n d = true → b ≤ c → n ≤ k → plb c k d = true
  | n, k, b, c, .non, _, _, _ => by cases k <;> rfl
  | n, k, b, c, .bl _, _, _, _ => by cases k <;> rfl
  | n, k, b, c, .int _, _, _, _ => by cases k <;> rfl
  | n, k, b, c, .str x, h, _, _ => by
    have h' : PyData.strOk x = true := by cases n <;> exact h
    cases k <;> exact h'
  | 0, k, b, c, .tup ds, h, _, _ => by cases h
  | 0, k, b, c, .lst ds, h, _, _ => by cases h
  | n + 1, 0, b, c, .tup ds, h, _, l => by omega
  | n + 1, 0, b, c, .lst ds, h, _, l => by omega
  | n + 1, k + 1, b, c, .tup ds, h, l1, l2 => by
    obtain ⟨h1, h2⟩ := plb_tup.mp h
    exact plb_tup.mpr ⟨by omega, fun d hd => plb_le (h2 d hd) l1 (by omega)⟩
  | n + 1, k + 1, b, c, .lst ds, h, l1, l2 => by
    obtain ⟨h1, h2⟩ := plb_lst.mp h
    exact plb_lst.mpr ⟨by omega, fun d hd => plb_le (h2 d hd) l1 (by omega)⟩
  | n, k, b, c, .scr _, h, _, _ => by cases n <;> cases h
  | n, k, b, c, .ref _, h, _, _ => by cases n <;> cases h
  | n, k, b, c, .fn _, h, _, _ => by cases n <;> cases h
  | n, k, b, c, .cls _, h, _, _ => by cases n <;> cases h
  | n, k, b, c, .ins _ _, h, _, _ => by cases n <;> cases h
  | n, k, b, c, .exv _ _, h, _, _ => by cases n <;> cases h
  | n, k, b, c, .dct _ _, h, _, _ => by cases n <;> cases h
theorem plb_ok : ∀ {n b : Nat} {d : D}, plb b n d = true → okD n d = true
  | n, b, .non, _ => by cases n <;> rfl
  | n, b, .bl _, _ => by cases n <;> rfl
  | n, b, .int _, _ => by cases n <;> rfl
  | n, b, .str x, h => by
    have h' : PyData.strOk x = true := by cases n <;> exact h
    cases n <;> exact h'
  | 0, b, .tup ds, h => by cases h
  | 0, b, .lst ds, h => by cases h
  | n + 1, b, .tup ds, h => by
    show ds.all (okD n) = true
    rw [List.all_eq_true]
    exact fun d hd => plb_ok ((plb_tup.mp h).2 d hd)
  | n + 1, b, .lst ds, h => by
    show ds.all (okD n) = true
    rw [List.all_eq_true]
    exact fun d hd => plb_ok ((plb_lst.mp h).2 d hd)
  | n, b, .scr _, h => by cases n <;> cases h
  | n, b, .ref _, h => by cases n <;> cases h
  | n, b, .fn _, h => by cases n <;> cases h
  | n, b, .cls _, h => by cases n <;> cases h
  | n, b, .ins _ _, h => by cases n <;> cases h
  | n, b, .exv _ _, h => by cases n <;> cases h
  | n, b, .dct _ _, h => by cases n <;> cases h
theorem cut_mem {ds : List D} {l h : Option Int} {d : D} (m : d ∈ cutD ds l h) : d ∈ ds := List.mem_of_mem_drop (List.mem_of_mem_take m)
theorem cut_len {ds : List D} {l h : Option Int} : (cutD ds l h).length ≤ ds.length := by
  unfold cutD
  rw [List.length_take, List.length_drop]
  omega
theorem atI_mem {ds : List D} {k : Int} {d : D} (h : L2.atI ds k = some d) : d ∈ ds := by
  unfold L2.atI at h
  cases q : L2.ixN ds.length k with
  | none => rw [q] at h; cases h
  | some j => rw [q] at h; exact List.mem_of_getElem? h
/-- an integer in bounds, no bool -/
def isN (v : D) (lo hi : Int) : Bool := match v with
  | .int i => decide (lo ≤ i) && decide (i ≤ hi)
  | _ => false
theorem isN_int {v : D} {lo hi : Int} (h : isN v lo hi = true) : ∃ i, v = .int i ∧ lo ≤ i ∧ i ≤ hi := by
  cases v with
  | int i =>
    have h' : (decide (lo ≤ i) && decide (i ≤ hi)) = true := h
    simp only [Bool.and_eq_true, decide_eq_true_eq] at h'
    exact ⟨i, rfl, h'⟩
  | _ => cases h
theorem wt_le_wts {d : D} : ∀ {ds : List D}, d ∈ ds → wt d ≤ wts ds
  | [], h => by cases h
  | e :: ds, h => by
    rw [wts]
    rcases List.mem_cons.mp h with rfl | h
    · omega
    · have := wt_le_wts h
      omega
theorem wts_append : ∀ (xs ys : List D), wts (xs ++ ys) = wts xs + wts ys
  | [], ys => by rw [List.nil_append, wts]; omega
  | x :: xs, ys => by rw [List.cons_append, wts, wts, wts_append xs ys]; omega
theorem wts_take : ∀ (n : Nat) (xs : List D), wts (xs.take n) ≤ wts xs
  | 0, xs => by rw [List.take_zero, wts]; omega
  | n + 1, [] => by rw [List.take_nil]; omega
  | n + 1, x :: xs => by
    rw [List.take_succ_cons, wts, wts]
    have := wts_take n xs
    omega
theorem wts_drop : ∀ (n : Nat) (xs : List D), wts (xs.drop n) ≤ wts xs
  | 0, xs => by rw [List.drop_zero]; omega
  | n + 1, [] => by rw [List.drop_nil]; omega
  | n + 1, x :: xs => by
    rw [List.drop_succ_cons, wts]
    have := wts_drop n xs
    omega
theorem wts_cut {ds : List D} {l h : Option Int} : wts (cutD ds l h) ≤ wts ds := Nat.le_trans (wts_take _ _) (wts_drop _ _)
theorem Wp_lturn {gl : List D} {cf : Nat → List D → MS → Res (D × Kd)} {tg body : T} {d : D} {ds : List D} {S : Sto} {m : MS} {Qn : Sto → MS → Prop} {Qr : D × Kd → MS → Prop} {Qx : XS} (h : optP (tgT tg d .sh S) fun S1 => wpS gl cf body S1 m (fun S m => Unit → Wpx noE (loopR (turnR gl cf tg body) ds S m) (stX Qn Qr Qx)) Qr Qx) : Wpx noE (loopR (turnR gl cf tg body) (d :: ds) S m) (stX Qn Qr Qx) := by
  constructor
  unfold loopR
  refine wp_then (wp_mono (wp_turn h) fun x m1 h => ?_)
  obtain ⟨fl, S1⟩ := x
  cases fl with
  | nx => exact ((show Unit → Wpx noE _ _ from h) ()).h
  | rt d k => exact h
  | xc c fs => exact h
theorem Wp_lnil {f : D → Sto → MS → Res (Fl × Sto)} {S : Sto} {m : MS} {Qn : Sto → MS → Prop} {Qr : D × Kd → MS → Prop} {Qx : XS} (h : Qn S m) : Wpx noE (loopR f [] S m) (stX Qn Qr Qx) := ⟨h⟩
theorem mapR_filter {α : Type} (g : α → D) (p : α → Bool) {f : D → MS → Res (Option D)} {m : MS} : ∀ xs : List α, (∀ x ∈ xs, f (g x) m = .ok (if p x = true then some (g x) else none) m) → mapR f (xs.map g) m = .ok ((xs.filter p).map g) m
  | [], _ => rfl
  | x :: xs, h => by
    rw [List.map_cons]
    unfold mapR
    rw [h x List.mem_cons_self]
    show bindR (mapR f (xs.map g) m) _ = _
    rw [mapR_filter g p xs fun y hy => h y (List.mem_cons_of_mem _ hy), List.filter_cons]
    cases p x <;> rfl
theorem mapR_map {α : Type} (g h : α → D) {f : D → MS → Res (Option D)} {m : MS} : ∀ xs : List α, (∀ x ∈ xs, f (g x) m = .ok (some (h x)) m) → mapR f (xs.map g) m = .ok (xs.map h) m
  | [], _ => rfl
  | x :: xs, e => by
    rw [List.map_cons]
    unfold mapR
    rw [e x List.mem_cons_self]
    show bindR (mapR f (xs.map g) m) _ = _
    rw [mapR_map g h xs fun y hy => e y (List.mem_cons_of_mem _ hy)]
    rfl
theorem eqD_tnil {ds : List D} (h : okD 60 (.tup ds) = true) : eqD (.tup ds) (.tup []) = some ds.isEmpty := by
  have e : (if okD 60 (.tup ds) = true ∧ okD 60 (.tup []) = true then some (PyData.eqv (D.tup ds).py (D.tup []).py) else none) = some ds.isEmpty := by
    rw [if_pos ⟨h, rfl⟩]
    cases ds <;> simp [D.py, pys, PyData.eqv, PyData.eqvAll]
  exact e
theorem eqD_lnil {ds : List D} (h : okD 60 (.lst ds) = true) : eqD (.lst ds) (.lst []) = some ds.isEmpty := by
  have e : (if okD 60 (.lst ds) = true ∧ okD 60 (.lst []) = true then some (PyData.eqv (D.lst ds).py (D.lst []).py) else none) = some ds.isEmpty := by
    rw [if_pos ⟨h, rfl⟩]
    cases ds <;> simp [D.py, pys, PyData.eqv, PyData.eqvAll]
  exact e
theorem atI_last {α : Type} {xs : List α} {x : α} (h : xs[xs.length - 1]? = some x) : L2.atI xs (-1) = some x := by
  have hl : xs.length - 1 < xs.length := (List.getElem?_eq_some_iff.mp h).1
  unfold L2.atI L2.ixN
  rw [if_neg (by omega), if_pos (by omega)]
  show xs[(-1 + (xs.length : Int)).toNat]? = _
  rw [show (-1 + (xs.length : Int)).toNat = xs.length - 1 by omega]
  exact h
theorem wp_mapP {α : Type} (g : α → D) (R : α → Prop) (P : D → Prop) {f : D → MS → Res (Option D)} {Q : List D → MS → Prop} (step : ∀ d m, P d → Deck m → wpx noE (f d m) fun o m' => ∃ i : α, o = some (g i) ∧ R i ∧ Deck m') {ds : List D} {m : MS} (hP : ∀ d ∈ ds, P d) (hD : Deck m) (fin : ∀ (xs : List α) m', xs.length = ds.length → (∀ x ∈ xs, R x) → Deck m' → Q (xs.map g) m') : wpx noE (mapR f ds m) Q := by
  refine wp_map0 (fun es acc m => (∀ d ∈ es, P d) ∧ Deck m ∧ ∃ xs : List α, acc = xs.map g ∧ xs.length + es.length = ds.length ∧ ∀ x ∈ xs, R x) (fun d es acc m ⟨hp, hD, xs, hx, hl, hr⟩ => ?_) (fun acc m ⟨_, hD, xs, hx, hl, hr⟩ => ?_) ⟨hP, hD, [], rfl, by simp, by simp⟩
  · refine wp_mono (step d m (hp d List.mem_cons_self) hD) fun o m' ⟨i, ho, hi, hD⟩ => ⟨fun e he => hp e (List.mem_cons_of_mem _ he), hD, xs ++ [i], ?_, ?_, fun x h => ?_⟩
    · rw [ho, hx, List.map_append]; rfl
    · rw [List.length_append, List.length_singleton]
      rw [List.length_cons] at hl
      omega
    · rcases List.mem_append.mp h with h | h
      · exact hr x h
      · rw [List.mem_singleton.mp h]; exact hi
  · subst hx
    exact fin xs m (by simpa using hl) hr hD
theorem lt_go {gl : List D} {cf : Nat → List D → MS → Res (D × Kd)} {tg body : T} {d : D} {S S1 : Sto} {m : MS} {Qn : Sto → MS → Prop} {Qr : D × Kd → MS → Prop} {Qx : XS} (e : tgT tg d .sh S = some S1) (h : wpS gl cf body S1 m Qn Qr Qx) : optP (tgT tg d .sh S) fun S1 => wpS gl cf body S1 m Qn Qr Qx := by rw [e]; exact h
/-! ### what stands where: values on a line, told by stretches -/
section
variable {V : Type} [DecidableEq V]
structure Cell (V : Type) where
  a : Int
  b : Int
  v : V
def val (z : V) : List (Cell V) → Int → V
  | [], _ => z
  | c :: l, x => if c.a ≤ x ∧ x < c.b then c.v else val z l x
structure NF (z : V) (l : List (Cell V)) : Prop where
  lt : ∀ c ∈ l, c.a < c.b
  nz : ∀ c ∈ l, c.v ≠ z
  pw : l.Pairwise fun p q => p.b ≤ q.a ∧ (p.b = q.a → p.v ≠ q.v)
theorem val_z {z : V} : ∀ {l : List (Cell V)} {x : Int}, (∀ c ∈ l, ¬ (c.a ≤ x ∧ x < c.b)) → val z l x = z
  | [], _, _ => rfl
  | c :: l, x, h => by
    unfold val
    rw [if_neg (h c List.mem_cons_self)]
    exact val_z fun d hd => h d (List.mem_cons_of_mem _ hd)
theorem val_mem {z : V} : ∀ {l : List (Cell V)} {x : Int}, val z l x ≠ z → ∃ c ∈ l, c.a ≤ x ∧ x < c.b ∧ c.v = val z l x
  | [], _, h => absurd rfl h
  | c :: l, x, h => by
    unfold val at h ⊢
    split
    · rename_i hc
      exact ⟨c, List.mem_cons_self, hc.1, hc.2, rfl⟩
    · rename_i hc
      rw [if_neg hc] at h
      obtain ⟨d, hd, h1, h2, h3⟩ := val_mem h
      exact ⟨d, List.mem_cons_of_mem _ hd, h1, h2, h3⟩
theorem nf_nil {z : V} : NF z ([] : List (Cell V)) := ⟨fun c hc => (by cases hc), fun c hc => (by cases hc), List.Pairwise.nil⟩
theorem NF.tail {z : V} {c : Cell V} {l : List (Cell V)} (h : NF z (c :: l)) : NF z l := ⟨fun d hd => h.lt d (List.mem_cons_of_mem _ hd), fun d hd => h.nz d (List.mem_cons_of_mem _ hd), (List.pairwise_cons.mp h.pw).2⟩
theorem NF.head {z : V} {c : Cell V} {l : List (Cell V)} (h : NF z (c :: l)) : ∀ d ∈ l, c.b ≤ d.a ∧ (c.b = d.a → c.v ≠ d.v) := (List.pairwise_cons.mp h.pw).1
theorem NF.low {z : V} {c : Cell V} {l : List (Cell V)} (h : NF z (c :: l)) : ∀ d ∈ c :: l, c.a ≤ d.a := fun d hd => by
  rcases List.mem_cons.mp hd with rfl | hd
  · exact Int.le_refl _
  · have := (h.head d hd).1
    have := h.lt c List.mem_cons_self
    omega
theorem NF.at {z : V} {c : Cell V} {l : List (Cell V)} (h : NF z (c :: l)) : val z (c :: l) c.a = c.v := if_pos ⟨Int.le_refl _, h.lt c List.mem_cons_self⟩
theorem NF.le_of {z : V} {c d : Cell V} {l m : List (Cell V)} (hl : NF z (c :: l)) (hm : NF z (d :: m)) (e : ∀ x, val z (c :: l) x = val z (d :: m) x) : d.a ≤ c.a := by
  refine Int.not_lt.mp fun lt => hl.nz c List.mem_cons_self ?_
  rw [← hl.at, e]
  exact val_z fun p hp => by have := hm.low p hp; omega
theorem NF.end_le {z : V} {c d : Cell V} {l m : List (Cell V)} (hl : NF z (c :: l)) (hm : NF z (d :: m)) (ha : c.a = d.a) (hv : c.v = d.v) (e : ∀ x, val z (c :: l) x = val z (d :: m) x) : d.b ≤ c.b := by
  refine Int.not_lt.mp fun lt => ?_
  have h1 : val z (d :: m) c.b = d.v := if_pos ⟨by have := hl.lt c List.mem_cons_self; omega, lt⟩
  have h2 : val z (c :: l) c.b = val z l c.b := if_neg (by omega)
  rw [← e, h2] at h1
  obtain ⟨p, hp, p1, p2, p3⟩ := val_mem (z := z) (l := l) (x := c.b) (by rw [h1]; exact hm.nz d List.mem_cons_self)
  have h3 := hl.head p hp
  exact h3.2 (by omega) (by rw [p3, h1, hv])
/-- told in one way only -/
theorem NF.uniq {z : V} : ∀ {l m : List (Cell V)}, NF z l → NF z m → (∀ x, val z l x = val z m x) → l = m
  | [], [], _, _, _ => rfl
  | [], d :: m, _, hm, e => absurd ((e d.a).symm.trans rfl) (by rw [hm.at]; exact hm.nz d List.mem_cons_self)
  | c :: l, [], hl, _, e => absurd ((e c.a).trans rfl) (by rw [hl.at]; exact hl.nz c List.mem_cons_self)
  | c :: l, d :: m, hl, hm, e => by
    have ha : c.a = d.a := Int.le_antisymm (hm.le_of hl fun x => (e x).symm) (hl.le_of hm e)
    have hv : c.v = d.v := by rw [← hl.at, e, ha, hm.at]
    have hb : c.b = d.b := Int.le_antisymm (hm.end_le hl ha.symm hv.symm fun x => (e x).symm) (hl.end_le hm ha hv e)
    have hcd : c = d := by
      obtain ⟨a, b, v⟩ := c
      obtain ⟨a', b', v'⟩ := d
      cases ha; cases hb; cases hv; rfl
    subst hcd
    rw [NF.uniq hl.tail hm.tail fun x => ?_]
    by_cases h : c.a ≤ x ∧ x < c.b
    · rw [val_z fun p hp => by have := (hl.head p hp).1; omega, val_z fun p hp => by have := (hm.head p hp).1; omega]
    · have := e x
      rw [val, if_neg h, val, if_neg h] at this
      exact this
/-- the next stretch -/
def gstep (z : V) (acc : List (Cell V)) (c : Cell V) : List (Cell V) := if c.v = z then acc else match acc.getLast? with
  | some p => if p.b = c.a ∧ p.v = c.v then acc.dropLast ++ [⟨p.a, c.b, c.v⟩] else acc ++ [c]
  | none => [c]
theorem val_app {z : V} {x : Int} {d : Cell V} : ∀ {l : List (Cell V)}, (∀ c ∈ l, c.b ≤ d.a) → val z (l ++ [d]) x = if d.a ≤ x then (if x < d.b then d.v else z) else val z l x
  | [], _ => by
    show (if d.a ≤ x ∧ x < d.b then d.v else z) = _
    by_cases h1 : d.a ≤ x
    · by_cases h2 : x < d.b
      · rw [if_pos ⟨h1, h2⟩, if_pos h1, if_pos h2]
      · rw [if_neg fun w => h2 w.2, if_pos h1, if_neg h2]
    · rw [if_neg fun w => h1 w.1, if_neg h1]; rfl
  | c :: l, h => by
    rw [List.cons_append, val, val_app fun p hp => h p (List.mem_cons_of_mem _ hp)]
    have hc := h c List.mem_cons_self
    by_cases h1 : d.a ≤ x
    · rw [if_neg (by omega), if_pos h1, if_pos h1]
    · rw [if_neg h1, if_neg h1]; rfl
theorem last_split {α : Type} {l : List α} {p : α} (h : l.getLast? = some p) : l = l.dropLast ++ [p] := by
  obtain ⟨ys, rfl⟩ := List.getLast?_eq_some_iff.mp h
  rw [List.dropLast_concat]
/-- up to e -/
structure Up (z : V) (e : Int) (l : List (Cell V)) : Prop where
  nf : NF z l
  le : ∀ c ∈ l, c.b ≤ e
theorem gstep_up {z : V} {l : List (Cell V)} {c : Cell V} (h : Up z c.a l) (hc : c.a < c.b) : Up z c.b (gstep z l c) ∧ ∀ x, val z (gstep z l c) x = if c.a ≤ x then (if x < c.b then c.v else z) else val z l x := by
  unfold gstep
  split
  · rename_i hz
    refine ⟨⟨h.nf, fun d hd => by have := h.le d hd; omega⟩, fun x => ?_⟩
    split
    · rw [hz, ite_self]
      exact val_z fun p hp => by have := h.le p hp; omega
    · rfl
  · rename_i hz
    split
    · rename_i p hp
      have hs := last_split hp
      have hpl : p ∈ l := by rw [hs]; exact List.mem_append_right _ List.mem_cons_self
      have hpb := h.le p hpl
      have hpa := h.nf.lt p hpl
      generalize hq : l.dropLast = q at hs
      have hpw := h.nf.pw
      rw [hs, List.pairwise_append] at hpw
      obtain ⟨pw1, _, pw2⟩ := hpw
      have hqp : ∀ d ∈ q, d.b ≤ p.a ∧ (d.b = p.a → d.v ≠ p.v) := fun d hd => pw2 d hd p List.mem_cons_self
      have hql : ∀ d ∈ q, d ∈ l := fun d hd => by rw [hs]; exact List.mem_append_left _ hd
      split
      · rename_i hm
        refine ⟨⟨⟨fun d hd => ?_, fun d hd => ?_, ?_⟩, fun d hd => ?_⟩, fun x => ?_⟩
        · rcases List.mem_append.mp hd with hd | hd
          · exact h.nf.lt d (hql d hd)
          · rw [List.mem_singleton.mp hd]; show p.a < c.b; omega
        · rcases List.mem_append.mp hd with hd | hd
          · exact h.nf.nz d (hql d hd)
          · rw [List.mem_singleton.mp hd]; exact hz
        · refine List.pairwise_append.mpr ⟨pw1, List.pairwise_singleton _ _, fun d hd f hf => ?_⟩
          rw [List.mem_singleton.mp hf]
          exact ⟨(hqp d hd).1, fun e => by rw [← hm.2]; exact (hqp d hd).2 e⟩
        · rcases List.mem_append.mp hd with hd | hd
          · have := h.le d (hql d hd); omega
          · rw [List.mem_singleton.mp hd]; exact Int.le_refl _
        · have v1 : val z l x = if p.a ≤ x then (if x < p.b then p.v else z) else val z q x := by
            rw [hs]
            exact val_app fun d hd => (hqp d hd).1
          rw [val_app (show ∀ d ∈ q, d.b ≤ (⟨p.a, c.b, c.v⟩ : Cell V).a from fun d hd => (hqp d hd).1), v1]
          show (if p.a ≤ x then (if x < c.b then c.v else z) else val z q x) = _
          by_cases h1 : c.a ≤ x
          · rw [if_pos (by omega), if_pos h1]
          · rw [if_neg h1]
            by_cases h2 : p.a ≤ x
            · rw [if_pos h2, if_pos h2, if_pos (by omega), if_pos (by omega), hm.2]
            · rw [if_neg h2, if_neg h2]
      · rename_i hm
        refine ⟨⟨⟨fun d hd => ?_, fun d hd => ?_, ?_⟩, fun d hd => ?_⟩, fun x => val_app h.le⟩
        · rcases List.mem_append.mp hd with hd | hd
          · exact h.nf.lt d hd
          · rw [List.mem_singleton.mp hd]; exact hc
        · rcases List.mem_append.mp hd with hd | hd
          · exact h.nf.nz d hd
          · rw [List.mem_singleton.mp hd]; exact hz
        · refine List.pairwise_append.mpr ⟨h.nf.pw, List.pairwise_singleton _ _, fun d hd f hf => ?_⟩
          rw [List.mem_singleton.mp hf]
          refine ⟨h.le d hd, fun e hv => ?_⟩
          rw [hs] at hd
          rcases List.mem_append.mp hd with hd | hd
          · have := (hqp d hd).1; omega
          · rw [List.mem_singleton.mp hd] at e hv
            exact hm ⟨e, hv⟩
        · rcases List.mem_append.mp hd with hd | hd
          · have := h.le d hd; omega
          · rw [List.mem_singleton.mp hd]; exact Int.le_refl _
    · rename_i hn
      have hl : l = [] := List.getLast?_eq_none_iff.mp hn
      subst hl
      refine ⟨⟨⟨fun d hd => by rw [List.mem_singleton.mp hd]; exact hc, fun d hd => by rw [List.mem_singleton.mp hd]; exact hz, List.pairwise_singleton _ _⟩, fun d hd => by rw [List.mem_singleton.mp hd]; exact Int.le_refl _⟩, fun x => ?_⟩
      exact val_app (l := []) fun d hd => by cases hd
/-- the stretches between edges, with what holds at the lower one -/
def cells (K : Int → V) : List Int → List (Cell V)
  | a :: b :: es => ⟨a, b, K a⟩ :: cells K (b :: es)
  | _ => []
theorem gfold_up {z : V} (K : Int → V) : ∀ (es : List Int) (e : Int) (l : List (Cell V)), (e :: es).Pairwise (· < ·) → Up z e l →
    NF z ((cells K (e :: es)).foldl (gstep z) l) ∧ ∀ x, val z ((cells K (e :: es)).foldl (gstep z) l) x = if x < e then val z l x else val z (cells K (e :: es)) x
  | [], e, l, _, h => by
    refine ⟨h.nf, fun x => ?_⟩
    show val z l x = if x < e then val z l x else z
    split
    · rfl
    · exact val_z fun c hc => by have := h.le c hc; omega
  | f :: es, e, l, hp, h => by
    obtain ⟨h1, h2⟩ := List.pairwise_cons.mp hp
    have lt := h1 f List.mem_cons_self
    obtain ⟨u, hv⟩ := gstep_up (c := ⟨e, f, K e⟩) h lt
    obtain ⟨n, hw⟩ := gfold_up K es f _ h2 u
    refine ⟨n, fun x => ?_⟩
    show val z ((cells K (f :: es)).foldl (gstep z) (gstep z l ⟨e, f, K e⟩)) x = _
    rw [hw, hv]
    show (if x < f then (if e ≤ x then (if x < f then K e else z) else val z l x) else val z (cells K (f :: es)) x) = if x < e then val z l x else (if e ≤ x ∧ x < f then K e else val z (cells K (f :: es)) x)
    by_cases h3 : x < e
    · rw [if_pos (by omega), if_neg (by omega), if_pos h3]
    · rw [if_neg h3]
      by_cases h4 : x < f
      · rw [if_pos h4, if_pos (by omega), if_pos h4, if_pos ⟨by omega, h4⟩]
      · rw [if_neg h4, if_neg fun w => h4 w.2]
theorem cells_val {z : V} {K : Int → V} : ∀ {es : List Int}, es.Pairwise (· < ·) → (∀ x a, a ∈ es → a ≤ x → (∀ b ∈ es, b ≤ x → b ≤ a) → (∃ b ∈ es, x < b) → K x = K a) → (∀ x, (∀ b ∈ es, x < b) ∨ (∀ b ∈ es, b ≤ x) → K x = z) → ∀ x, val z (cells K es) x = K x
  | [], _, _, ho, x => (ho x (.inl fun b hb => by cases hb)).symm
  | [a], _, _, ho, x => by
    refine (ho x ?_).symm
    by_cases h : x < a
    · exact .inl fun b hb => by rw [List.mem_singleton.mp hb]; exact h
    · exact .inr fun b hb => by rw [List.mem_singleton.mp hb]; omega
  | a :: b :: es, hp, hk, ho, x => by
    obtain ⟨h1, h2⟩ := List.pairwise_cons.mp hp
    obtain ⟨h3, h4⟩ := List.pairwise_cons.mp h2
    have lt := h1 b List.mem_cons_self
    show (if a ≤ x ∧ x < b then K a else val z (cells K (b :: es)) x) = K x
    by_cases hx : a ≤ x ∧ x < b
    · rw [if_pos hx]
      refine (hk x a List.mem_cons_self hx.1 (fun c hc hcx => ?_) ⟨b, List.mem_cons_of_mem _ List.mem_cons_self, hx.2⟩).symm
      rcases List.mem_cons.mp hc with rfl | hc
      · exact Int.le_refl _
      · rcases List.mem_cons.mp hc with rfl | hc
        · omega
        · have := h3 c hc; omega
    · rw [if_neg hx]
      by_cases hb : b ≤ x
      · -- above
        have key := cells_val (z := z) (K := fun y => if b ≤ y then K y else z) h2 (fun y c hc hcy hmax hex => ?_) (fun y hy => ?_) x
        · have ec : cells (fun y => if b ≤ y then K y else z) (b :: es) = cells K (b :: es) := by
            have : ∀ (fs : List Int) (c : Int), b ≤ c → (c :: fs).Pairwise (· < ·) → cells (fun y => if b ≤ y then K y else z) (c :: fs) = cells K (c :: fs) := fun fs => by
              induction fs with
              | nil => intro c _ _; rfl
              | cons f fs ih =>
                intro c hc hpw
                obtain ⟨p1, p2⟩ := List.pairwise_cons.mp hpw
                have := p1 f List.mem_cons_self
                show (⟨c, f, if b ≤ c then K c else z⟩ : Cell V) :: cells _ (f :: fs) = ⟨c, f, K c⟩ :: cells K (f :: fs)
                rw [if_pos hc, ih f (by omega) p2]
            exact this es b (Int.le_refl _) h2
          rw [ec] at key
          rw [key]
          exact if_pos hb
        · have hbc : b ≤ c := by
            rcases List.mem_cons.mp hc with rfl | hc
            · exact Int.le_refl _
            · have := h3 c hc; omega
          show (if b ≤ y then K y else z) = if b ≤ c then K c else z
          rw [if_pos (by omega), if_pos hbc]
          obtain ⟨d, hd, hyd⟩ := hex
          exact hk y c (List.mem_cons_of_mem _ hc) hcy (fun e he hey => by
            rcases List.mem_cons.mp he with rfl | he
            · omega
            · exact hmax e he hey) ⟨d, List.mem_cons_of_mem _ hd, hyd⟩
        · show (if b ≤ y then K y else z) = z
          split
          · rename_i hby
            rcases hy with hy | hy
            · have := hy b List.mem_cons_self; omega
            · exact ho y (.inr fun c hc => by
                rcases List.mem_cons.mp hc with rfl | hc
                · omega
                · exact hy c hc)
          · rfl
      · -- below all
        have hxa : x < a := by omega
        rw [ho x (.inl fun c hc => by
          rcases List.mem_cons.mp hc with rfl | hc
          · exact hxa
          · have := h1 c hc; omega)]
        refine val_z fun c hc => ?_
        have : ∀ (fs : List Int) (f : Int), (f :: fs).Pairwise (· < ·) → ∀ c ∈ cells K (f :: fs), f ≤ c.a := fun fs => by
          induction fs with
          | nil => intro f _ c hc; cases hc
          | cons g gs ih =>
            intro f hpw c hc
            obtain ⟨p1, p2⟩ := List.pairwise_cons.mp hpw
            rcases List.mem_cons.mp hc with rfl | hc
            · exact Int.le_refl _
            · have := ih g p2 c hc
              have := p1 g List.mem_cons_self
              omega
        have := this es b h2 c hc
        omega
end
/-! ### edges -/
theorem ddI_mem : ∀ {ns : List Int} {n : Int}, n ∈ ddI ns ↔ n ∈ ns := fun {ns n} => by
  have key : ∀ (ns acc : List Int), n ∈ ns.foldl (fun a n => if n ∈ a then a else a ++ [n]) acc ↔ n ∈ acc ∨ n ∈ ns := fun ns => by
    induction ns with
    | nil => intro acc; simp
    | cons m ns ih =>
      intro acc
      rw [List.foldl_cons, ih]
      by_cases h : m ∈ acc
      · rw [if_pos h, List.mem_cons]
        constructor
        · rintro (h1 | h1)
          · exact .inl h1
          · exact .inr (.inr h1)
        · rintro (h1 | rfl | h1)
          · exact .inl h1
          · exact .inl h
          · exact .inr h1
      · rw [if_neg h, List.mem_append, List.mem_singleton, List.mem_cons, or_assoc]
  unfold ddI
  rw [key]
  simp
theorem ddI_nodup (ns : List Int) : (ddI ns).Nodup := by
  have key : ∀ (ns acc : List Int), acc.Nodup → (ns.foldl (fun a n => if n ∈ a then a else a ++ [n]) acc).Nodup := fun ns => by
    induction ns with
    | nil => intro acc h; exact h
    | cons m ns ih =>
      intro acc h
      rw [List.foldl_cons]
      refine ih _ ?_
      split
      · exact h
      · rename_i hm
        refine List.nodup_append.mpr ⟨h, List.nodup_cons.mpr ⟨List.not_mem_nil, List.nodup_nil⟩, fun a ha b hb e => ?_⟩
        rw [List.mem_singleton.mp hb] at e
        exact hm (e ▸ ha)
  exact key ns [] List.nodup_nil
theorem nodup_le : ∀ {l m : List Int}, l.Nodup → (∀ x ∈ l, x ∈ m) → l.length ≤ m.length
  | [], _, _, _ => Nat.zero_le _
  | a :: l, m, h, hs => by
    obtain ⟨h1, h2⟩ := List.nodup_cons.mp h
    have ha := hs a List.mem_cons_self
    have ih := nodup_le (m := m.erase a) h2 fun x hx => (List.mem_erase_of_ne (by intro e; subst e; exact h1 hx)).mpr (hs x (List.mem_cons_of_mem _ hx))
    rw [List.length_erase_of_mem ha] at ih
    have := List.length_pos_of_mem ha
    rw [List.length_cons]
    omega
def edg (ps : List (Int × Int)) : List Int := sortI (ddI (ps.flatMap fun p => [p.1, p.2]))
theorem edg_mem {ps : List (Int × Int)} {e : Int} : e ∈ edg ps ↔ ∃ p ∈ ps, e = p.1 ∨ e = p.2 := by
  unfold edg sortI
  rw [(List.mergeSort_perm _ _).mem_iff, ddI_mem, List.mem_flatMap]
  simp
theorem edg_lt (ps : List (Int × Int)) : (edg ps).Pairwise (· < ·) := by
  unfold edg sortI
  generalize ps.flatMap (fun p => [p.1, p.2]) = ns
  have h1 := List.pairwise_mergeSort (le := fun a b : Int => decide (a ≤ b)) (fun a b c h1 h2 => by simp at *; omega) (fun a b => by simp; omega) (ddI ns)
  have h2 : ((ddI ns).mergeSort fun a b => decide (a ≤ b)).Nodup := (List.mergeSort_perm _ _).nodup_iff.mpr (ddI_nodup ns)
  exact (h1.and h2).imp fun {a b} h => by
    have h3 : a ≤ b := by simpa using h.1
    have h4 : a ≠ b := h.2
    omega
theorem edg_len {ps : List (Int × Int)} {E : List Int} (h : ∀ p ∈ ps, p.1 ∈ E ∧ p.2 ∈ E) : (edg ps).length ≤ E.length ∧ (ddI (ps.flatMap fun p => [p.1, p.2])).length ≤ E.length := by
  have k : (ddI (ps.flatMap fun p => [p.1, p.2])).length ≤ E.length := by
    refine nodup_le (ddI_nodup _) fun x hx => ?_
    obtain ⟨p, hp, hx⟩ := List.mem_flatMap.mp (ddI_mem.mp hx)
    simp only [List.mem_cons, List.not_mem_nil, or_false] at hx
    rcases hx with rfl | rfl
    · exact (h p hp).1
    · exact (h p hp).2
  refine ⟨?_, k⟩
  unfold edg sortI
  rw [List.length_mergeSort]
  exact k
/-! ### runs -/
def inside (ps : List (Int × Int)) (x : Int) : Bool := ps.any fun p => decide (p.1 ≤ x) && decide (x < p.2)
def cOf (p : Int × Int) : Cell Bool := ⟨p.1, p.2, true⟩
theorem inside_val {ps : List (Int × Int)} {x : Int} : inside ps x = val false (ps.map cOf) x := by
  induction ps with
  | nil => rfl
  | cons p ps ih =>
    show ((decide (p.1 ≤ x) && decide (x < p.2)) || inside ps x) = if p.1 ≤ x ∧ x < p.2 then true else val false (ps.map cOf) x
    rw [ih]
    by_cases h : p.1 ≤ x ∧ x < p.2
    · rw [if_pos h, decide_eq_true h.1, decide_eq_true h.2]; rfl
    · rw [if_neg h]
      have : (decide (p.1 ≤ x) && decide (x < p.2)) = false := by
        rw [Bool.and_eq_false_iff, decide_eq_false_iff_not, decide_eq_false_iff_not]
        omega
      rw [this, Bool.false_or]
theorem inside_same {ps : List (Int × Int)} {E : List Int} {x a : Int} (he : ∀ p ∈ ps, p.1 ∈ E ∧ p.2 ∈ E) (hax : a ≤ x) (hm : ∀ b ∈ E, b ≤ x → b ≤ a) : inside ps x = inside ps a := by
  unfold inside
  rw [Bool.eq_iff_iff, List.any_eq_true, List.any_eq_true]
  constructor
  · rintro ⟨p, hp, h⟩
    refine ⟨p, hp, ?_⟩
    simp only [Bool.and_eq_true, decide_eq_true_eq] at h ⊢
    exact ⟨hm _ (he p hp).1 h.1, by omega⟩
  · rintro ⟨p, hp, h⟩
    refine ⟨p, hp, ?_⟩
    simp only [Bool.and_eq_true, decide_eq_true_eq] at h ⊢
    refine ⟨by omega, ?_⟩
    by_cases h2 : p.2 ≤ x
    · have := hm _ (he p hp).2 h2; omega
    · omega
theorem inside_out {ps : List (Int × Int)} {E : List Int} {x : Int} (he : ∀ p ∈ ps, p.1 ∈ E ∧ p.2 ∈ E) (h : (∀ b ∈ E, x < b) ∨ ∀ b ∈ E, b ≤ x) : inside ps x = false := by
  unfold inside
  rw [List.any_eq_false]
  intro p hp
  simp only [Bool.and_eq_true, decide_eq_true_eq]
  rcases h with h | h
  · have := h _ (he p hp).1; omega
  · have := h _ (he p hp).2; omega
def mstep (acc : List (Int × Int)) (p : Int × Int) : List (Int × Int) := match acc.getLast? with
  | some q => if q.2 = p.1 then acc.dropLast ++ [(q.1, p.2)] else acc ++ [p]
  | none => [p]
def mfold (acc : List (Int × Int)) (cs : List (Cell Bool)) : List (Int × Int) := cs.foldl (fun acc c => if c.v = true then mstep acc (c.a, c.b) else acc) acc
theorem map_dropLast {α β : Type} (f : α → β) : ∀ l : List α, (l.map f).dropLast = l.dropLast.map f := fun l => by
  rw [List.map_dropLast]
theorem mfold_map (cs : List (Cell Bool)) : ∀ acc, (mfold acc cs).map cOf = cs.foldl (gstep false) (acc.map cOf) := by
  induction cs with
  | nil => intro acc; rfl
  | cons c cs ih =>
    intro acc
    show (mfold (if c.v = true then mstep acc (c.a, c.b) else acc) cs).map cOf = cs.foldl (gstep false) (gstep false (acc.map cOf) c)
    rw [ih]
    congr 1
    obtain ⟨a, b, v⟩ := c
    cases v with
    | false => rfl
    | true =>
      show (mstep acc (a, b)).map cOf = gstep false (acc.map cOf) ⟨a, b, true⟩
      unfold mstep gstep
      rw [List.getLast?_map]
      cases q : acc.getLast? with
      | none => rfl
      | some p =>
        show ((if p.2 = a then acc.dropLast ++ [(p.1, b)] else acc ++ [(a, b)]).map cOf) = if p.2 = a ∧ true = true then (acc.map cOf).dropLast ++ [⟨p.1, b, true⟩] else acc.map cOf ++ [⟨a, b, true⟩]
        by_cases h : p.2 = a
        · rw [if_pos h, if_pos ⟨h, rfl⟩, List.map_append, map_dropLast]; rfl
        · rw [if_neg h, if_neg fun w => h w.1, List.map_append]; rfl
def mrg (kp : Bool → Bool → Bool) (one other : List (Int × Int)) : List (Int × Int) := mfold [] (cells (fun x => kp (inside one x) (inside other x)) (edg (one ++ other)))
theorem mrg_spec {kp : Bool → Bool → Bool} (h0 : kp false false = false) (one other : List (Int × Int)) : NF false ((mrg kp one other).map cOf) ∧ ∀ x, inside (mrg kp one other) x = kp (inside one x) (inside other x) := by
  have hm : ∀ p ∈ one ++ other, p.1 ∈ edg (one ++ other) ∧ p.2 ∈ edg (one ++ other) := fun p hp => ⟨edg_mem.mpr ⟨p, hp, .inl rfl⟩, edg_mem.mpr ⟨p, hp, .inr rfl⟩⟩
  have m1 : ∀ p ∈ one, p.1 ∈ edg (one ++ other) ∧ p.2 ∈ edg (one ++ other) := fun p hp => hm p (List.mem_append_left _ hp)
  have m2 : ∀ p ∈ other, p.1 ∈ edg (one ++ other) ∧ p.2 ∈ edg (one ++ other) := fun p hp => hm p (List.mem_append_right _ hp)
  have hs := edg_lt (one ++ other)
  unfold mrg
  generalize edg (one ++ other) = es at hm m1 m2 hs
  have cv := cells_val (z := false) (K := fun x => kp (inside one x) (inside other x)) hs (fun x a _ hax hmx _ => by
    show kp (inside one x) (inside other x) = kp (inside one a) (inside other a)
    rw [inside_same m1 hax hmx, inside_same m2 hax hmx]) (fun x hx => by
    show kp (inside one x) (inside other x) = false
    rw [inside_out m1 hx, inside_out m2 hx, h0])
  cases es with
  | nil => exact ⟨nf_nil, fun x => cv x⟩
  | cons e es =>
    obtain ⟨n, v⟩ := gfold_up (z := false) (fun x => kp (inside one x) (inside other x)) es e [] hs ⟨nf_nil, fun c hc => (by cases hc)⟩
    refine ⟨by rw [mfold_map]; exact n, fun x => ?_⟩
    rw [inside_val, mfold_map]
    show val false ((cells (fun x => kp (inside one x) (inside other x)) (e :: es)).foldl (gstep false) []) x = _
    rw [v]
    split
    · rename_i hlt
      have := cv x
      rw [← this]
      refine (val_z fun c hc => ?_).symm
      have lo : ∀ (fs : List Int) (f : Int), (f :: fs).Pairwise (· < ·) → ∀ c ∈ cells (fun x => kp (inside one x) (inside other x)) (f :: fs), f ≤ c.a := fun fs => by
        induction fs with
        | nil => intro f _ c hc; cases hc
        | cons g gs ih =>
          intro f hpw c hc
          obtain ⟨p1, p2⟩ := List.pairwise_cons.mp hpw
          rcases List.mem_cons.mp hc with rfl | hc
          · exact Int.le_refl _
          · have := ih g p2 c hc
            have := p1 g List.mem_cons_self
            omega
      have := lo es e hs c hc
      omega
    · exact cv x
/-- runs are told by what is inside -/
theorem runs_uniq {ps qs : List (Int × Int)} (hp : NF false (ps.map cOf)) (hq : NF false (qs.map cOf)) (e : ∀ x, inside ps x = inside qs x) : ps = qs := by
  have h := hp.uniq hq fun x => by rw [← inside_val, ← inside_val]; exact e x
  have inj : ∀ (ps qs : List (Int × Int)), ps.map cOf = qs.map cOf → ps = qs := fun ps => by
    induction ps with
    | nil => intro qs h; cases qs with
      | nil => rfl
      | cons q qs => cases h
    | cons p ps ih =>
      intro qs h
      cases qs with
      | nil => cases h
      | cons q qs =>
        rw [List.map_cons, List.map_cons] at h
        injection h with h1 h2
        obtain ⟨a, b⟩ := p
        obtain ⟨c, d⟩ := q
        injection h1 with h3 h4
        have h3 : a = c := h3
        have h4 : b = d := h4
        rw [h3, h4, ih qs h2]
  exact inj ps qs h
/-! ### regions -/
structure Rc where
  l : Int
  t : Int
  r : Int
  b : Int
def runsAt (rs : List Rc) (y : Int) : List (Int × Int) := (rs.filter fun c => decide (c.t ≤ y) && decide (y < c.b)).map fun c => (c.l, c.r)
/-- the points -/
def pt (rs : List Rc) (x y : Int) : Bool := inside (runsAt rs y) x
abbrev Runs : Type := List (Int × Int)
def flat (bs : List (Cell Runs)) : List Rc := bs.flatMap fun c => c.v.map fun p => ⟨p.1, c.a, p.2, c.b⟩
theorem runsAt_flat (bs : List (Cell Runs)) (y : Int) : runsAt (flat bs) y = bs.flatMap fun c => if c.a ≤ y ∧ y < c.b then c.v else [] := by
  induction bs with
  | nil => rfl
  | cons c bs ih =>
    show runsAt ((c.v.map fun p => (⟨p.1, c.a, p.2, c.b⟩ : Rc)) ++ flat bs) y = (if c.a ≤ y ∧ y < c.b then c.v else []) ++ bs.flatMap fun c => if c.a ≤ y ∧ y < c.b then c.v else []
    rw [← ih]
    unfold runsAt
    rw [List.filter_append, List.map_append]
    congr 1
    rw [List.filter_map, List.map_map]
    by_cases h : c.a ≤ y ∧ y < c.b
    · rw [if_pos h]
      rw [show c.v.filter ((fun c : Rc => decide (c.t ≤ y) && decide (y < c.b)) ∘ fun p => (⟨p.1, c.a, p.2, c.b⟩ : Rc)) = c.v from List.filter_eq_self.mpr fun p _ => by
        show (decide (c.a ≤ y) && decide (y < c.b)) = true
        rw [decide_eq_true h.1, decide_eq_true h.2]; rfl]
      exact List.map_id _
    · rw [if_neg h]
      rw [show c.v.filter ((fun c : Rc => decide (c.t ≤ y) && decide (y < c.b)) ∘ fun p => (⟨p.1, c.a, p.2, c.b⟩ : Rc)) = [] from List.filter_eq_nil_iff.mpr fun p _ => by
        show ¬ (decide (c.a ≤ y) && decide (y < c.b)) = true
        rw [Bool.and_eq_true, decide_eq_true_eq, decide_eq_true_eq]; exact h]
      rfl
theorem runsAt_nf {bs : List (Cell Runs)} (h : NF [] bs) (y : Int) : runsAt (flat bs) y = val [] bs y := by
  rw [runsAt_flat]
  induction bs with
  | nil => rfl
  | cons c bs ih =>
    rw [List.flatMap_cons, val, ih h.tail]
    by_cases hc : c.a ≤ y ∧ y < c.b
    · rw [if_pos hc, if_pos hc, val_z fun d hd => by have := (h.head d hd).1; omega, List.append_nil]
    · rw [if_neg hc, if_neg hc, List.nil_append]
/-- the written form -/
def Canon (rs : List Rc) : Prop := ∃ bs : List (Cell Runs), NF [] bs ∧ (∀ c ∈ bs, NF false (c.v.map cOf)) ∧ rs = flat bs
theorem val_nf {bs : List (Cell Runs)} (h : ∀ c ∈ bs, NF false (c.v.map cOf)) (y : Int) : NF false ((val [] bs y).map cOf) := by
  by_cases q : val [] bs y = []
  · rw [q]
    exact nf_nil
  · obtain ⟨c, hc, _, _, e⟩ := val_mem q
    rw [← e]; exact h c hc
theorem canon_ext {rs qs : List Rc} (h1 : Canon rs) (h2 : Canon qs) (e : ∀ x y, pt rs x y = pt qs x y) : rs = qs := by
  obtain ⟨bs, n1, m1, rfl⟩ := h1
  obtain ⟨cs, n2, m2, rfl⟩ := h2
  rw [n1.uniq n2 fun y => runs_uniq (val_nf m1 y) (val_nf m2 y) fun x => by
    have := e x y
    unfold pt at this
    rw [runsAt_nf n1, runsAt_nf n2] at this
    exact this]
/-! ### bands -/
def ne (c : Cell Runs) : Bool := !c.v.isEmpty
theorem flat_filter (bs : List (Cell Runs)) : flat (bs.filter ne) = flat bs := by
  induction bs with
  | nil => rfl
  | cons c bs ih =>
    rw [List.filter_cons]
    show flat (if ne c = true then c :: bs.filter ne else bs.filter ne) = (c.v.map fun p => (⟨p.1, c.a, p.2, c.b⟩ : Rc)) ++ flat bs
    rw [← ih]
    cases q : c.v with
    | nil => rw [if_neg (by unfold ne; rw [q]; decide)]; rfl
    | cons p ps =>
      rw [if_pos (by unfold ne; rw [q]; rfl), ← q]
      rfl
def bstep (acc : List (Cell Runs)) (c : Cell Runs) : List (Cell Runs) := match acc.getLast? with
  | some p => if p.v = c.v then acc.dropLast ++ [⟨p.a, c.b, c.v⟩] else acc ++ [c]
  | none => [c]
def Ban (acc g : List (Cell Runs)) (e : Int) : Prop := g = acc.filter ne ∧ (acc = [] ∨ ∃ q p, acc = q ++ [p] ∧ p.b = e ∧ p.a < e ∧ ∀ c ∈ q, c.b ≤ p.a)
theorem ne_nil {c : Cell Runs} (h : c.v = []) : ne c = false := by unfold ne; rw [h]; rfl
theorem ne_ne {c : Cell Runs} (h : ¬ c.v = []) : ne c = true := by
  unfold ne
  cases q : c.v with
  | nil => exact absurd q h
  | cons p ps => rfl
theorem ban_step {acc g : List (Cell Runs)} {c : Cell Runs} (h : Ban acc g c.a) (hc : c.a < c.b) : Ban (bstep acc c) (gstep [] g c) c.b := by
  obtain ⟨rfl, h⟩ := h
  rcases h with rfl | ⟨q, p, rfl, pb, pa, hq⟩
  · refine ⟨?_, .inr ⟨[], c, rfl, rfl, hc, fun d hd => by cases hd⟩⟩
    show gstep [] [] c = [c].filter ne
    unfold gstep
    by_cases hz : c.v = []
    · rw [if_pos hz, List.filter_cons, if_neg (by rw [ne_nil hz]; decide)]; rfl
    · rw [if_neg hz, List.filter_cons, if_pos (ne_ne hz)]; rfl
  · have e1 : bstep (q ++ [p]) c = if p.v = c.v then q ++ [⟨p.a, c.b, c.v⟩] else q ++ [p] ++ [c] := by
      unfold bstep
      rw [List.getLast?_concat]
      show (if p.v = c.v then (q ++ [p]).dropLast ++ _ else _) = _
      rw [List.dropLast_concat]
    have fs : ∀ d : Cell Runs, (q ++ [d]).filter ne = q.filter ne ++ (if ne d = true then [d] else []) := fun d => by
      rw [List.filter_append, List.filter_cons]; rfl
    rw [e1]
    by_cases hv : p.v = c.v
    · rw [if_pos hv]
      refine ⟨?_, .inr ⟨q, _, rfl, rfl, by show p.a < c.b; omega, hq⟩⟩
      rw [fs, fs]
      unfold gstep
      by_cases hz : c.v = []
      · rw [if_pos hz, if_neg (by rw [ne_nil (hv.trans hz)]; decide), if_neg (by rw [ne_nil (c := ⟨p.a, c.b, c.v⟩) hz]; decide)]
      · rw [if_neg hz, if_pos (ne_ne (by rw [hv]; exact hz)), if_pos (ne_ne (c := ⟨p.a, c.b, c.v⟩) hz), List.getLast?_concat]
        show (if p.b = c.a ∧ p.v = c.v then _ else _) = _
        rw [if_pos ⟨pb, hv⟩, List.dropLast_concat]
    · rw [if_neg hv]
      refine ⟨?_, .inr ⟨q ++ [p], c, rfl, rfl, hc, fun d hd => ?_⟩⟩
      · have fc : [c].filter ne = if ne c = true then [c] else [] := by rw [List.filter_cons]; rfl
        rw [List.filter_append (q ++ [p]), fs, fc]
        unfold gstep
        by_cases hz : c.v = []
        · rw [if_pos hz, ne_nil hz, if_neg (by decide : ¬ false = true), List.append_nil]
        · rw [if_neg hz, ne_ne hz, if_pos (rfl : true = true)]
          by_cases hp : p.v = []
          · rw [if_neg (by rw [ne_nil hp]; decide), List.append_nil]
            split
            · rename_i r hr
              have hrq : r ∈ q := (List.mem_filter.mp (List.mem_of_getLast? hr)).1
              have := hq r hrq
              rw [if_neg (by omega)]
            · rename_i hr
              rw [List.getLast?_eq_none_iff.mp hr]; rfl
          · rw [if_pos (ne_ne hp), List.getLast?_concat]
            show (if p.b = c.a ∧ p.v = c.v then _ else _) = _
            rw [if_neg fun w => hv w.2]
      · rcases List.mem_append.mp hd with hd | hd
        · have := hq d hd; omega
        · rw [List.mem_singleton.mp hd]; omega
theorem ban_fold (K : Int → Runs) : ∀ (es : List Int) (e : Int) (acc g : List (Cell Runs)), (e :: es).Pairwise (· < ·) → Ban acc g e → (cells K (e :: es)).foldl (gstep []) g = ((cells K (e :: es)).foldl bstep acc).filter ne
  | [], e, acc, g, _, h => h.1
  | f :: es, e, acc, g, hp, h => by
    obtain ⟨h1, h2⟩ := List.pairwise_cons.mp hp
    exact ban_fold K es f _ _ h2 (ban_step (c := ⟨e, f, K e⟩) h (h1 f List.mem_cons_self))
theorem gfold_all {V : Type} [DecidableEq V] {z : V} (P : Int → Prop) (R : V → Prop) : ∀ (cs acc : List (Cell V)), (∀ c ∈ cs, P c.a ∧ P c.b ∧ R c.v) → (∀ c ∈ acc, P c.a ∧ P c.b ∧ R c.v) → ∀ c ∈ cs.foldl (gstep z) acc, P c.a ∧ P c.b ∧ R c.v
  | [], acc, _, h => h
  | d :: cs, acc, hc, h => by
    refine gfold_all P R cs _ (fun c hh => hc c (List.mem_cons_of_mem _ hh)) fun c hh => ?_
    have hd := hc d List.mem_cons_self
    unfold gstep at hh
    split at hh
    · exact h c hh
    · split at hh
      · rename_i p hp
        have hpa := h p (List.mem_of_getLast? hp)
        split at hh
        · rcases List.mem_append.mp hh with hh | hh
          · exact h c (by rw [last_split hp]; exact List.mem_append_left _ hh)
          · rw [List.mem_singleton.mp hh]; exact ⟨hpa.1, hd.2.1, hd.2.2⟩
        · rcases List.mem_append.mp hh with hh | hh
          · exact h c hh
          · rw [List.mem_singleton.mp hh]; exact hd
      · rw [List.mem_singleton.mp hh]; exact hd
theorem gfold_len {V : Type} [DecidableEq V] {z : V} : ∀ (cs acc : List (Cell V)), (cs.foldl (gstep z) acc).length ≤ acc.length + cs.length
  | [], acc => Nat.le_refl _
  | d :: cs, acc => by
    have h := gfold_len (z := z) cs (gstep z acc d)
    have : (gstep z acc d).length ≤ acc.length + 1 := by
      unfold gstep
      split
      · omega
      · split
        · rename_i p hp
          split
          · rw [List.length_append, List.length_dropLast, List.length_singleton]; omega
          · rw [List.length_append, List.length_singleton]; omega
        · show 1 ≤ _; omega
    rw [List.length_cons]
    show ((cs.foldl (gstep z) (gstep z acc d)).length) ≤ _
    omega
theorem cells_all {V : Type} (K : Int → V) : ∀ (es : List Int), ∀ c ∈ cells K es, c.a ∈ es ∧ c.b ∈ es ∧ c.v = K c.a
  | [], c, h => by cases h
  | [a], c, h => by cases h
  | a :: b :: es, c, h => by
    rcases List.mem_cons.mp h with rfl | h
    · exact ⟨List.mem_cons_self, List.mem_cons_of_mem _ List.mem_cons_self, rfl⟩
    · obtain ⟨h1, h2, h3⟩ := cells_all K (b :: es) c h
      exact ⟨List.mem_cons_of_mem _ h1, List.mem_cons_of_mem _ h2, h3⟩
theorem cells_len {V : Type} (K : Int → V) : ∀ (es : List Int), (cells K es).length ≤ es.length
  | [] => Nat.le_refl _
  | [a] => Nat.zero_le _
  | a :: b :: es => by
    have := cells_len K (b :: es)
    show (cells K (b :: es)).length + 1 ≤ _
    simp only [List.length_cons] at this ⊢
    omega
theorem mrg_in {kp : Bool → Bool → Bool} {one other : List (Int × Int)} {E : List Int} (h1 : ∀ p ∈ one, p.1 ∈ E ∧ p.2 ∈ E) (h2 : ∀ p ∈ other, p.1 ∈ E ∧ p.2 ∈ E) : (∀ p ∈ mrg kp one other, p.1 ∈ E ∧ p.2 ∈ E) ∧ (mrg kp one other).length ≤ E.length := by
  have hE : ∀ p ∈ one ++ other, p.1 ∈ E ∧ p.2 ∈ E := fun p hp => (List.mem_append.mp hp).elim (h1 p) (h2 p)
  have he : ∀ e ∈ edg (one ++ other), e ∈ E := fun e he => by
    obtain ⟨p, hp, h | h⟩ := edg_mem.mp he
    · rw [h]; exact (hE p hp).1
    · rw [h]; exact (hE p hp).2
  have hl := (edg_len hE).1
  have hm := mfold_map (cells (fun x => kp (inside one x) (inside other x)) (edg (one ++ other))) []
  have ha := gfold_all (z := false) (fun e => e ∈ E) (fun _ => True) (cells (fun x => kp (inside one x) (inside other x)) (edg (one ++ other))) [] (fun c hc => by
    obtain ⟨c1, c2, _⟩ := cells_all _ _ c hc
    exact ⟨he _ c1, he _ c2, trivial⟩) fun c hc => by cases hc
  have hn := gfold_len (z := false) (cells (fun x => kp (inside one x) (inside other x)) (edg (one ++ other))) []
  have hcl := cells_len (fun x => kp (inside one x) (inside other x)) (edg (one ++ other))
  unfold mrg
  constructor
  · intro p hp
    have : cOf p ∈ (mfold [] (cells (fun x => kp (inside one x) (inside other x)) (edg (one ++ other)))).map cOf := List.mem_map.mpr ⟨p, hp, rfl⟩
    rw [hm] at this
    obtain ⟨a1, a2, _⟩ := ha _ this
    exact ⟨a1, a2⟩
  · have := congrArg List.length hm
    rw [List.length_map] at this
    rw [this]
    simp only [List.length_nil, List.map_nil, Nat.zero_add] at hn ⊢
    omega
def rowF (kp : Bool → Bool → Bool) (one other : List Rc) (y : Int) : Runs := mrg kp (runsAt one y) (runsAt other y)
def bandE (one other : List Rc) : List Int := edg ((one ++ other).map fun c => (c.t, c.b))
def bands (kp : Bool → Bool → Bool) (one other : List Rc) : List (Cell Runs) := (cells (rowF kp one other) (bandE one other)).foldl bstep []
def comb (kp : Bool → Bool → Bool) (one other : List Rc) : List Rc := flat (bands kp one other)
theorem runsAt_same {rs : List Rc} {E : List Int} {x a : Int} (he : ∀ c ∈ rs, c.t ∈ E ∧ c.b ∈ E) (hax : a ≤ x) (hm : ∀ b ∈ E, b ≤ x → b ≤ a) : runsAt rs x = runsAt rs a := by
  unfold runsAt
  congr 1
  refine List.filter_congr fun c hc => ?_
  rw [Bool.eq_iff_iff]
  simp only [Bool.and_eq_true, decide_eq_true_eq]
  have h1 := he c hc
  constructor
  · intro h
    exact ⟨hm _ h1.1 h.1, by omega⟩
  · intro h
    refine ⟨by omega, ?_⟩
    by_cases h2 : c.b ≤ x
    · have := hm _ h1.2 h2; omega
    · omega
theorem runsAt_out {rs : List Rc} {E : List Int} {x : Int} (he : ∀ c ∈ rs, c.t ∈ E ∧ c.b ∈ E) (h : (∀ b ∈ E, x < b) ∨ ∀ b ∈ E, b ≤ x) : runsAt rs x = [] := by
  unfold runsAt
  rw [List.map_eq_nil_iff, List.filter_eq_nil_iff]
  intro c hc
  simp only [Bool.and_eq_true, decide_eq_true_eq]
  rcases h with h | h
  · have := h _ (he c hc).1; omega
  · have := h _ (he c hc).2; omega
theorem mrg_nil {kp : Bool → Bool → Bool} : mrg kp [] [] = [] := by
  have : edg ([] ++ [] : List (Int × Int)) = [] := List.length_eq_zero_iff.mp (Nat.le_zero.mp (edg_len (E := []) fun p hp => by cases hp).1)
  unfold mrg
  rw [this]; rfl
/-- the bands that hold something -/
theorem bands_spec {kp : Bool → Bool → Bool} (h0 : kp false false = false) (one other : List Rc) : ∃ g, (bands kp one other).filter ne = g ∧ NF [] g ∧ (∀ y, val [] g y = rowF kp one other y) ∧ g = (cells (rowF kp one other) (bandE one other)).foldl (gstep []) [] := by
  have hm : ∀ c ∈ one ++ other, c.t ∈ bandE one other ∧ c.b ∈ bandE one other := fun c hc => ⟨edg_mem.mpr ⟨_, List.mem_map.mpr ⟨c, hc, rfl⟩, .inl rfl⟩, edg_mem.mpr ⟨_, List.mem_map.mpr ⟨c, hc, rfl⟩, .inr rfl⟩⟩
  have m1 : ∀ c ∈ one, c.t ∈ bandE one other ∧ c.b ∈ bandE one other := fun c hc => hm c (List.mem_append_left _ hc)
  have m2 : ∀ c ∈ other, c.t ∈ bandE one other ∧ c.b ∈ bandE one other := fun c hc => hm c (List.mem_append_right _ hc)
  have hs : (bandE one other).Pairwise (· < ·) := edg_lt _
  unfold bands
  generalize bandE one other = es at hm m1 m2 hs
  have cv := cells_val (z := ([] : Runs)) (K := rowF kp one other) hs (fun x a _ hax hmx _ => by
    unfold rowF
    rw [runsAt_same m1 hax hmx, runsAt_same m2 hax hmx]) (fun x hx => by
    unfold rowF
    rw [runsAt_out m1 hx, runsAt_out m2 hx, mrg_nil])
  cases es with
  | nil => exact ⟨[], rfl, nf_nil, cv, rfl⟩
  | cons e es =>
    obtain ⟨n, v⟩ := gfold_up (z := ([] : Runs)) (rowF kp one other) es e [] hs ⟨nf_nil, fun c hc => (by cases hc)⟩
    refine ⟨_, (ban_fold _ es e [] [] hs ⟨rfl, .inl rfl⟩).symm, n, fun y => ?_, rfl⟩
    rw [v]
    split
    · rename_i hlt
      rw [← cv y]
      refine (val_z fun c hc => ?_).symm
      have lo : ∀ (fs : List Int) (f : Int), (f :: fs).Pairwise (· < ·) → ∀ c ∈ cells (rowF kp one other) (f :: fs), f ≤ c.a := fun fs => by
        induction fs with
        | nil => intro f _ c hc; cases hc
        | cons g gs ih =>
          intro f hpw c hc
          obtain ⟨p1, p2⟩ := List.pairwise_cons.mp hpw
          rcases List.mem_cons.mp hc with rfl | hc
          · exact Int.le_refl _
          · have := ih g p2 c hc
            have := p1 g List.mem_cons_self
            omega
      have := lo es e hs c hc
      omega
    · exact cv y
/-- what combined gives: a written form, of these points -/
theorem comb_spec {kp : Bool → Bool → Bool} (h0 : kp false false = false) (one other : List Rc) : Canon (comb kp one other) ∧ ∀ x y, pt (comb kp one other) x y = kp (pt one x y) (pt other x y) := by
  obtain ⟨g, e, n, v, eg⟩ := bands_spec h0 one other
  have ec : comb kp one other = flat g := by
    unfold comb
    rw [← e, flat_filter]
  rw [ec]
  refine ⟨⟨g, n, fun c hc => ?_, rfl⟩, fun x y => ?_⟩
  · rw [eg] at hc
    exact (gfold_all (fun _ => True) (fun v : Runs => NF false (v.map cOf)) _ [] (fun d hd => ⟨trivial, trivial, by
      rw [(cells_all _ _ d hd).2.2]
      exact (mrg_spec h0 _ _).1⟩) (fun d hd => by cases hd) c hc).2.2
  · unfold pt
    rw [runsAt_nf n, v]
    exact (mrg_spec h0 _ _).2 x
/-- edges among those told -/
def Wi (EX EY : List Int) (rs : List Rc) : Prop := ∀ c ∈ rs, (c.l ∈ EX ∧ c.r ∈ EX) ∧ c.t ∈ EY ∧ c.b ∈ EY
theorem Wi.runs {EX EY : List Int} {rs : List Rc} (h : Wi EX EY rs) (y : Int) : ∀ p ∈ runsAt rs y, p.1 ∈ EX ∧ p.2 ∈ EX := fun p hp => by
  obtain ⟨c, hc, rfl⟩ := List.mem_map.mp hp
  exact (h c (List.mem_filter.mp hc).1).1
theorem Wi.app {EX EY : List Int} {rs qs : List Rc} (h1 : Wi EX EY rs) (h2 : Wi EX EY qs) : ∀ p ∈ (rs ++ qs).map fun c => (c.t, c.b), p.1 ∈ EY ∧ p.2 ∈ EY := fun p hp => by
  obtain ⟨c, hc, rfl⟩ := List.mem_map.mp hp
  exact ((List.mem_append.mp hc).elim (h1 c) (h2 c)).2
theorem len_flatMap {α β : Type} {g : α → List β} {k : Nat} : ∀ {l : List α}, (∀ a ∈ l, (g a).length ≤ k) → (l.flatMap g).length ≤ l.length * k
  | [], _ => by simp
  | a :: l, h => by
    rw [List.flatMap_cons, List.length_append, List.length_cons, Nat.add_mul, Nat.one_mul]
    have h1 := h a List.mem_cons_self
    have h2 := len_flatMap (l := l) fun b hb => h b (List.mem_cons_of_mem _ hb)
    omega
theorem comb_wi {kp : Bool → Bool → Bool} (h0 : kp false false = false) {EX EY : List Int} {one other : List Rc} (h1 : Wi EX EY one) (h2 : Wi EX EY other) : Wi EX EY (comb kp one other) ∧ (comb kp one other).length ≤ EY.length * EX.length := by
  obtain ⟨g, e, n, v, eg⟩ := bands_spec h0 one other
  have ec : comb kp one other = flat g := by
    unfold comb
    rw [← e, flat_filter]
  have hE := h1.app h2
  have he : ∀ e ∈ bandE one other, e ∈ EY := fun e he => by
    obtain ⟨p, hp, h | h⟩ := edg_mem.mp he
    · rw [h]; exact (hE p hp).1
    · rw [h]; exact (hE p hp).2
  have all := gfold_all (z := ([] : Runs)) (fun e => e ∈ EY) (fun v : Runs => (∀ p ∈ v, p.1 ∈ EX ∧ p.2 ∈ EX) ∧ v.length ≤ EX.length) (cells (rowF kp one other) (bandE one other)) [] (fun c hc => by
    obtain ⟨c1, c2, c3⟩ := cells_all _ _ c hc
    refine ⟨he _ c1, he _ c2, ?_⟩
    rw [c3]
    exact mrg_in (h1.runs _) (h2.runs _)) fun c hc => by cases hc
  rw [← eg] at all
  rw [ec]
  constructor
  · intro c hc
    obtain ⟨d, hd, hc⟩ := List.mem_flatMap.mp hc
    obtain ⟨p, hp, rfl⟩ := List.mem_map.mp hc
    obtain ⟨a1, a2, a3, _⟩ := all d hd
    exact ⟨a3 p hp, a1, a2⟩
  · have hl : g.length ≤ EY.length := by
      have l1 := gfold_len (z := ([] : Runs)) (cells (rowF kp one other) (bandE one other)) []
      rw [← eg] at l1
      have l2 := cells_len (rowF kp one other) (bandE one other)
      have l3 := (edg_len hE).1
      unfold bandE at l2
      simp only [List.length_nil, Nat.zero_add] at l1
      unfold bandE at l1
      omega
    refine Nat.le_trans (len_flatMap fun c hc => ?_) (Nat.mul_le_mul_right _ hl)
    rw [List.length_map]
    exact (all c hc).2.2.2
/-! ### the walk of regions -/
def pD2 (p : Int × Int) : D := .tup [.int p.1, .int p.2]
def Rc.d (c : Rc) : D := .tup [.int c.l, .int c.t, .int c.r, .int c.b]
def bandD (c : Cell Runs) : D := .tup [.int c.a, .int c.b, .lst (c.v.map pD2)]
theorem mapR_fm {α : Type} (g h : α → D) (p : α → Bool) {f : D → MS → Res (Option D)} {m : MS} : ∀ xs : List α, (∀ x ∈ xs, f (g x) m = .ok (if p x = true then some (h x) else none) m) → mapR f (xs.map g) m = .ok ((xs.filter p).map h) m
  | [], _ => rfl
  | x :: xs, e => by
    rw [List.map_cons]
    unfold mapR
    rw [e x List.mem_cons_self]
    show bindR (mapR f (xs.map g) m) _ = _
    rw [mapR_fm g h p xs fun y hy => e y (List.mem_cons_of_mem _ hy), List.filter_cons]
    cases p x <;> rfl
theorem lenm {α : Type} {g : α → D} {xs : List α} : (xs.map g).length = xs.length := List.length_map ..
theorem intsD_map : ∀ ns : List Int, intsD (ns.map D.int) = some ns
  | [] => rfl
  | n :: ns => by rw [List.map_cons, intsD, intsD_map ns]; rfl
/-- runs compared -/
theorem eqva_pairs : ∀ ps qs : List (Int × Int), PyData.eqvAll (pys (ps.map pD2)) (pys (qs.map pD2)) = decide (ps = qs)
  | [], [] => by simp [pys, PyData.eqvAll]
  | [], q :: qs => by simp [pys, PyData.eqvAll]
  | p :: ps, [] => by simp [pys, PyData.eqvAll]
  | (a, b) :: ps, (c, d) :: qs => by
    have ih := eqva_pairs ps qs
    simp only [List.map_cons, pys, PyData.eqvAll, pD2, D.py, PyData.eqv, ih, Bool.and_true]
    rw [Bool.eq_iff_iff]
    simp [and_assoc]
theorem okD_pairs {k : Nat} (ps : List (Int × Int)) : okD (k + 2) (.lst (ps.map pD2)) = true := by
  show (ps.map pD2).all (okD (k + 1)) = true
  rw [List.all_map, List.all_eq_true]
  intro p _
  show (okD k (.int p.1) && (okD k (.int p.2) && true)) = true
  rw [okD_int, okD_int]; rfl
theorem eqD_runs (ps qs : List (Int × Int)) : eqD (.lst (ps.map pD2)) (.lst (qs.map pD2)) = some (decide (ps = qs)) := by
  have e : (if okD 60 (.lst (ps.map pD2)) = true ∧ okD 60 (.lst (qs.map pD2)) = true then some (PyData.eqv (D.lst (ps.map pD2)).py (D.lst (qs.map pD2)).py) else none) = some (decide (ps = qs)) := by
    rw [if_pos ⟨okD_pairs ps, okD_pairs qs⟩]
    simp only [D.py, PyData.eqv, eqva_pairs]
  exact e
/-- the last item of a list -/
theorem last_at {α : Type} {g : α → D} {q : List α} {p : α} : L2.atI ((q ++ [p]).map g) (-1) = some (g p) := by
  refine atI_last ?_
  rw [List.length_map, List.length_append, List.length_singleton, List.getElem?_map, Nat.add_sub_cancel, List.getElem?_append_right (Nat.le_refl _), Nat.sub_self]; rfl
theorem last_ix {α : Type} {g : α → D} {q : List α} {p : α} : L2.ixN ((q ++ [p]).map g).length (-1) = some q.length := by
  rw [List.length_map, List.length_append, List.length_singleton]
  unfold L2.ixN
  rw [if_neg (by decide), if_pos (by omega)]
  congr 1
  omega
theorem set_last {α : Type} {g : α → D} {q : List α} {p : α} {d : D} : ((q ++ [p]).map g).set q.length d = q.map g ++ [d] := by
  rw [List.map_append, List.set_append_right _ _ (by rw [List.length_map]; exact Nat.le_refl _), List.length_map, Nat.sub_self]; rfl
theorem cells_at {V : Type} {K : Int → V} {es : List Int} {i : Nat} (h : i + 1 < es.length) : ∃ a b, es[i]? = some a ∧ es[i + 1]? = some b ∧ cells K (es.drop i) = ⟨a, b, K a⟩ :: cells K (es.drop (i + 1)) := by
  have h1 : i < es.length := by omega
  refine ⟨es[i], es[i + 1], List.getElem?_eq_getElem h1, List.getElem?_eq_getElem h, ?_⟩
  rw [List.drop_eq_getElem_cons h1, List.drop_eq_getElem_cons h]; rfl
theorem cells_end {V : Type} {K : Int → V} {es : List Int} {i : Nat} (h : es.length ≤ i + 1) : cells K (es.drop i) = [] := by
  have hl : (es.drop i).length ≤ 1 := by rw [List.length_drop]; omega
  match q : es.drop i, hl with
  | [], _ => rfl
  | [a], _ => rfl
theorem at_i {es : List Int} {i : Nat} {a : Int} (h : es[i]? = some a) : L2.atI (es.map D.int) (0 + (i : Nat)) = some (.int a) := by
  have hl : i < es.length := (List.getElem?_eq_some_iff.mp h).1
  unfold L2.atI
  rw [ixN_of (by omega) (by rw [List.length_map]; omega)]
  show (es.map D.int)[((0 : Int) + (i : Nat)).toNat]? = _
  rw [show ((0 : Int) + (i : Nat)).toNat = i by omega, List.getElem?_map, h]; rfl
theorem at_i1 {es : List Int} {i : Nat} {a : Int} (h : es[i + 1]? = some a) : L2.atI (es.map D.int) (0 + (i : Nat) + 1) = some (.int a) := by
  have := at_i h
  rw [show (0 : Int) + ((i + 1 : Nat) : Int) = 0 + (i : Nat) + 1 by omega] at this
  exact this
theorem map2R_fm {α : Type} (g : α → D) (h : α → List D) {f : D → MS → Res (List D)} {m : MS} : ∀ xs : List α, (∀ x ∈ xs, f (g x) m = .ok (h x) m) → map2R f (xs.map g) m = .ok (xs.flatMap h) m
  | [], _ => rfl
  | x :: xs, e => by
    rw [List.map_cons]
    unfold map2R
    rw [e x List.mem_cons_self]
    show bindR (map2R f (xs.map g) m) _ = _
    rw [map2R_fm g h xs fun y hy => e y (List.mem_cons_of_mem _ hy)]
    rfl
theorem bands_len {K : Int → Runs} : ∀ (cs acc : List (Cell Runs)), (cs.foldl bstep acc).length ≤ acc.length + cs.length
  | [], acc => Nat.le_refl _
  | c :: cs, acc => by
    have h := bands_len (K := K) cs (bstep acc c)
    have : (bstep acc c).length ≤ acc.length + 1 := by
      unfold bstep
      split
      · split
        · rw [List.length_append, List.length_dropLast, List.length_singleton]; omega
        · rw [List.length_append, List.length_singleton]; omega
      · show 1 ≤ _; omega
    rw [List.length_cons]
    show ((cs.foldl bstep (bstep acc c)).length) ≤ _
    omega
theorem bstep_cat {q : List (Cell Runs)} {p c : Cell Runs} : bstep (q ++ [p]) c = if p.v = c.v then q ++ [⟨p.a, c.b, c.v⟩] else q ++ [p] ++ [c] := by
  unfold bstep
  rw [List.getLast?_concat]
  show (if p.v = c.v then (q ++ [p]).dropLast ++ _ else _) = _
  rw [List.dropLast_concat]
/-- a region as it may be met -/
structure Rg (EX EY : List Int) (rs : List Rc) : Prop where
  wi : Wi EX EY rs
  ln : rs.length ≤ 40000
theorem comb_rg {kp : Bool → Bool → Bool} (h0 : kp false false = false) {EX EY : List Int} {one other : List Rc} (h1 : Rg EX EY one) (h2 : Rg EX EY other) (hx : EX.length ≤ 200) (hy : EY.length ≤ 200) : Rg EX EY (comb kp one other) := by
  obtain ⟨w, l⟩ := comb_wi h0 h1.wi h2.wi
  refine ⟨w, ?_⟩
  have := Nat.mul_le_mul hy hx
  omega
theorem okD_rects {k : Nat} (rs : List Rc) : okD (k + 2) (.lst (rs.map Rc.d)) = true := by
  show (rs.map Rc.d).all (okD (k + 1)) = true
  rw [List.all_map, List.all_eq_true]
  intro c _
  show (okD k (.int c.l) && (okD k (.int c.t) && (okD k (.int c.r) && (okD k (.int c.b) && true)))) = true
  rw [okD_int, okD_int, okD_int, okD_int]; rfl
/-! ### rectangles -/
structure Rok (c : Rc) : Prop where
  x : c.l < c.r
  y : c.t < c.b
theorem atI_map {α : Type} {g : α → D} {xs : List α} {k : Int} (h0 : 0 ≤ k) (h1 : k < xs.length) : ∃ x, xs[k.toNat]? = some x ∧ L2.atI (xs.map g) k = some (g x) := by
  have hk : k.toNat < xs.length := by omega
  refine ⟨xs[k.toNat], List.getElem?_eq_getElem hk, ?_⟩
  unfold L2.atI
  rw [ixN_of h0 (by rw [List.length_map]; exact h1)]
  show (xs.map g)[k.toNat]? = _
  rw [List.getElem?_map, List.getElem?_eq_getElem hk]; rfl
/-! ### the written form, worked out point by point -/
abbrev Pt : Type := Int × Int
def addP (acc : List Pt) (p : Pt) : List Pt := if p ∈ acc then acc else acc ++ [p]
theorem addP_fold : ∀ (ps acc : List Pt), acc.Nodup → (ps.foldl addP acc).Nodup ∧ (∀ p, p ∈ ps.foldl addP acc ↔ p ∈ acc ∨ p ∈ ps) ∧ acc.length ≤ (ps.foldl addP acc).length ∧ (ps.foldl addP acc).length ≤ acc.length + ps.length
  | [], acc, h => ⟨h, fun p => by simp, Nat.le_refl _, Nat.le_refl _⟩
  | q :: ps, acc, h => by
    rw [List.foldl_cons]
    have hn : (addP acc q).Nodup ∧ (∀ p, p ∈ addP acc q ↔ p ∈ acc ∨ p = q) ∧ acc.length ≤ (addP acc q).length ∧ (addP acc q).length ≤ acc.length + 1 := by
      unfold addP
      by_cases z : q ∈ acc
      · rw [if_pos z]; exact ⟨h, fun p => ⟨.inl, fun w => w.elim id fun w => w ▸ z⟩, Nat.le_refl _, Nat.le_succ _⟩
      · rw [if_neg z]
        refine ⟨?_, fun p => by rw [List.mem_append, List.mem_singleton], by rw [List.length_append]; omega, by rw [List.length_append, List.length_singleton]; omega⟩
        exact List.nodup_append.mpr ⟨h, by simp, fun a ha b hb e => z (by rw [List.mem_singleton.mp hb] at e; exact e ▸ ha)⟩
    obtain ⟨a1, a2, a3, a4⟩ := hn
    obtain ⟨b1, b2, b3, b4⟩ := addP_fold ps _ a1
    refine ⟨b1, fun p => ?_, by omega, by rw [List.length_cons]; omega⟩
    rw [b2, a2, List.mem_cons, or_assoc]
def irange (lo hi : Int) : List Int := (List.range (hi - lo).toNat).map fun i => lo + (i : Nat)
theorem mem_irange {lo hi x : Int} : x ∈ irange lo hi ↔ lo ≤ x ∧ x < hi := by
  unfold irange
  rw [List.mem_map]
  constructor
  · rintro ⟨i, hi, rfl⟩
    rw [List.mem_range] at hi
    omega
  · intro h
    exact ⟨(x - lo).toNat, by rw [List.mem_range]; omega, by omega⟩
theorem irange_len (lo hi : Int) : (irange lo hi).length = (hi - lo).toNat := by unfold irange; rw [List.length_map, List.length_range]
def rcPts (c : Rc) : List Pt := (irange c.t c.b).flatMap fun y => (irange c.l c.r).map fun x => (x, y)
theorem mem_rcPts {c : Rc} {p : Pt} : p ∈ rcPts c ↔ c.l ≤ p.1 ∧ p.1 < c.r ∧ c.t ≤ p.2 ∧ p.2 < c.b := by
  unfold rcPts
  rw [List.mem_flatMap]
  constructor
  · rintro ⟨y, hy, hp⟩
    obtain ⟨x, hx, rfl⟩ := List.mem_map.mp hp
    have h1 := mem_irange.mp hy
    have h2 := mem_irange.mp hx
    exact ⟨h2.1, h2.2, h1.1, h1.2⟩
  · rintro ⟨h1, h2, h3, h4⟩
    exact ⟨p.2, mem_irange.mpr ⟨h3, h4⟩, List.mem_map.mpr ⟨p.1, mem_irange.mpr ⟨h1, h2⟩, rfl⟩⟩
def ptsOf (rs : List Rc) : List Pt := (rs.flatMap rcPts).foldl addP []
theorem pt_iff {rs : List Rc} {x y : Int} : pt rs x y = true ↔ ∃ c ∈ rs, c.l ≤ x ∧ x < c.r ∧ c.t ≤ y ∧ y < c.b := by
  unfold pt inside runsAt
  rw [List.any_map, List.any_eq_true]
  constructor
  · rintro ⟨c, hc, h⟩
    obtain ⟨h1, h2⟩ := List.mem_filter.mp hc
    rw [Bool.and_eq_true, decide_eq_true_eq, decide_eq_true_eq] at h2
    have h : (decide (c.l ≤ x) && decide (x < c.r)) = true := h
    rw [Bool.and_eq_true, decide_eq_true_eq, decide_eq_true_eq] at h
    exact ⟨c, h1, h.1, h.2, h2.1, h2.2⟩
  · rintro ⟨c, hc, h1, h2, h3, h4⟩
    refine ⟨c, List.mem_filter.mpr ⟨hc, by rw [decide_eq_true h3, decide_eq_true h4]; rfl⟩, ?_⟩
    show (decide (c.l ≤ x) && decide (x < c.r)) = true
    rw [decide_eq_true h1, decide_eq_true h2]; rfl
theorem ptsOf_nodup (rs : List Rc) : (ptsOf rs).Nodup := (addP_fold _ [] List.nodup_nil).1
theorem mem_ptsOf {rs : List Rc} {p : Pt} : p ∈ ptsOf rs ↔ pt rs p.1 p.2 = true := by
  unfold ptsOf
  rw [(addP_fold _ [] List.nodup_nil).2.1, pt_iff, List.mem_flatMap]
  constructor
  · rintro (h | ⟨c, hc, h⟩)
    · cases h
    · exact ⟨c, hc, mem_rcPts.mp h⟩
  · rintro ⟨c, hc, h⟩
    exact .inr ⟨c, hc, mem_rcPts.mpr h⟩
theorem sortI_mem {ns : List Int} {n : Int} : n ∈ sortI ns ↔ n ∈ ns := by unfold sortI; exact List.mem_mergeSort
theorem sortI_lt {ns : List Int} (h : ns.Nodup) : (sortI ns).Pairwise (· < ·) := by
  have h1 : (sortI ns).Pairwise (· ≤ ·) := by
    have := List.pairwise_mergeSort (le := fun a b : Int => decide (a ≤ b)) (fun a b c h1 h2 => by simp at *; omega) (fun a b => by simp; omega) ns
    exact this.imp fun z => by simpa using z
  have h2 : (sortI ns).Nodup := (List.mergeSort_perm ns _).nodup_iff.mpr h
  exact (h1.and h2).imp fun z => Int.lt_iff_le_and_ne.mpr z
theorem sortI_len (ns : List Int) : (sortI ns).length = ns.length := by unfold sortI; exact List.length_mergeSort _
/-- stretches of one point each -/
theorem unit_up {V : Type} [DecidableEq V] {z : V} (K : Int → V) : ∀ (xs : List Int) (l : List (Cell V)) (e : Int), xs.Pairwise (· < ·) → (∀ x ∈ xs, e ≤ x) → Up z e l →
    NF z ((xs.map fun x => (⟨x, x + 1, K x⟩ : Cell V)).foldl (gstep z) l) ∧ ∀ w, val z ((xs.map fun x => (⟨x, x + 1, K x⟩ : Cell V)).foldl (gstep z) l) w = if w ∈ xs then K w else val z l w
  | [], l, e, _, _, h => ⟨h.nf, fun w => by rw [if_neg (by simp)]; rfl⟩
  | x :: xs, l, e, hp, he, h => by
    obtain ⟨p1, p2⟩ := List.pairwise_cons.mp hp
    have ex := he x List.mem_cons_self
    have hu : Up z x l := ⟨h.nf, fun c hc => by have := h.le c hc; omega⟩
    obtain ⟨u, hv⟩ := gstep_up (c := ⟨x, x + 1, K x⟩) hu (by show x < x + 1; omega)
    obtain ⟨n, hw⟩ := unit_up K xs _ (x + 1) p2 (fun y hy => by have := p1 y hy; omega) u
    refine ⟨n, fun w => ?_⟩
    show val z ((xs.map fun x => (⟨x, x + 1, K x⟩ : Cell V)).foldl (gstep z) (gstep z l ⟨x, x + 1, K x⟩)) w = _
    rw [hw, hv]
    by_cases h1 : w ∈ xs
    · rw [if_pos h1, if_pos (List.mem_cons_of_mem _ h1)]
    · rw [if_neg h1]
      show (if x ≤ w then (if w < x + 1 then K x else z) else val z l w) = _
      by_cases h2 : w = x
      · subst h2
        rw [if_pos (Int.le_refl _), if_pos (by omega), if_pos List.mem_cons_self]
      · rw [if_neg fun m => (List.mem_cons.mp m).elim h2 h1]
        by_cases h3 : x ≤ w
        · rw [if_pos h3, if_neg (by omega)]
          exact (val_z fun c hc => by have := h.le c hc; omega).symm
        · rw [if_neg h3]
def rowX (ps : List Pt) (y : Int) : List Int := sortI ((ps.filter fun p => decide (p.2 = y)).map (·.1))
def rowR (ps : List Pt) (y : Int) : Runs := (rowX ps y).foldl (fun acc x => mstep acc (x, x + 1)) []
theorem mem_rowX {ps : List Pt} {x y : Int} : x ∈ rowX ps y ↔ (x, y) ∈ ps := by
  unfold rowX
  rw [sortI_mem, List.mem_map]
  constructor
  · rintro ⟨p, hp, rfl⟩
    obtain ⟨h1, h2⟩ := List.mem_filter.mp hp
    have h2 := of_decide_eq_true h2
    rw [← h2]; exact h1
  · exact fun h => ⟨(x, y), List.mem_filter.mpr ⟨h, decide_eq_true rfl⟩, rfl⟩
theorem rowX_lt {ps : List Pt} (h : ps.Nodup) (y : Int) : (rowX ps y).Pairwise (· < ·) := by
  refine sortI_lt ?_
  have h1 : (ps.filter fun p => decide (p.2 = y)).Nodup := h.filter _
  unfold List.Nodup at h1 ⊢
  rw [List.pairwise_map]
  refine List.Pairwise.imp_of_mem (fun {a b} ha hb z e => z ?_) h1
  have ea := of_decide_eq_true (List.mem_filter.mp ha).2
  have eb := of_decide_eq_true (List.mem_filter.mp hb).2
  exact Prod.ext e (ea.trans eb.symm)
theorem rowR_map (xs : List Int) : ∀ acc : Runs, xs.foldl (fun acc x => mstep acc (x, x + 1)) acc = mfold acc (xs.map fun x => ⟨x, x + 1, true⟩) := by
  induction xs with
  | nil => intro acc; rfl
  | cons x xs ih => intro acc; exact ih _
theorem rowR_spec {ps : List Pt} (h : ps.Nodup) (y : Int) : NF false ((rowR ps y).map cOf) ∧ ∀ x, inside (rowR ps y) x = decide ((x, y) ∈ ps) := by
  have lt := rowX_lt h y
  have key : ∃ e : Int, ∀ x ∈ rowX ps y, e ≤ x := by
    cases q : rowX ps y with
    | nil => exact ⟨0, fun x hx => by cases hx⟩
    | cons a l =>
      rw [q] at lt
      refine ⟨a, fun x hx => ?_⟩
      rcases List.mem_cons.mp hx with rfl | hx
      · exact Int.le_refl _
      · exact Int.le_of_lt ((List.pairwise_cons.mp lt).1 x hx)
  obtain ⟨e, he⟩ := key
  obtain ⟨n, v⟩ := unit_up (z := false) (fun _ => true) (rowX ps y) [] e lt he ⟨nf_nil, fun c hc => by cases hc⟩
  unfold rowR
  rw [rowR_map]
  refine ⟨by rw [mfold_map]; exact n, fun x => ?_⟩
  rw [inside_val, mfold_map]
  show val false (List.foldl (gstep false) [] _) x = _
  rw [v x]
  by_cases hm : (x, y) ∈ ps
  · rw [if_pos (mem_rowX.mpr hm), decide_eq_true hm]
  · rw [if_neg fun z => hm (mem_rowX.mp z), decide_eq_false hm]; rfl
theorem rowR_ne {ps : List Pt} (h : ps.Nodup) {x y : Int} (hp : (x, y) ∈ ps) : rowR ps y ≠ [] := fun z => by
  have := (rowR_spec h y).2 x
  rw [z, decide_eq_true hp] at this
  cases this
def rowsY (ps : List Pt) : List Int := sortI (ddI (ps.map (·.2)))
theorem mem_rowsY {ps : List Pt} {y : Int} : y ∈ rowsY ps ↔ ∃ x, (x, y) ∈ ps := by
  unfold rowsY
  rw [sortI_mem, ddI_mem, List.mem_map]
  exact ⟨fun ⟨p, h1, h2⟩ => ⟨p.1, by rw [← h2]; exact h1⟩, fun ⟨x, h⟩ => ⟨(x, y), h, rfl⟩⟩
theorem ddI_len (ns : List Int) : (ddI ns).length ≤ ns.length := nodup_le (ddI_nodup ns) fun x hx => ddI_mem.mp hx
theorem rowsY_len (ps : List Pt) : (rowsY ps).length ≤ ps.length := by
  unfold rowsY
  rw [sortI_len]
  exact Nat.le_trans (ddI_len _) (Nat.le_of_eq (List.length_map ..))
def fcells (ps : List Pt) : List (Cell Runs) := (rowsY ps).map fun y => ⟨y, y + 1, rowR ps y⟩
def form (ps : List Pt) : List Rc := flat ((fcells ps).foldl (gstep []) [])
theorem form_spec {ps : List Pt} (h : ps.Nodup) : Canon (form ps) ∧ ∀ x y, pt (form ps) x y = decide ((x, y) ∈ ps) := by
  have lt : (rowsY ps).Pairwise (· < ·) := sortI_lt (ddI_nodup _)
  have key : ∃ e : Int, ∀ x ∈ rowsY ps, e ≤ x := by
    cases q : rowsY ps with
    | nil => exact ⟨0, fun x hx => by cases hx⟩
    | cons a l =>
      rw [q] at lt
      refine ⟨a, fun x hx => ?_⟩
      rcases List.mem_cons.mp hx with rfl | hx
      · exact Int.le_refl _
      · exact Int.le_of_lt ((List.pairwise_cons.mp lt).1 x hx)
  obtain ⟨e, he⟩ := key
  obtain ⟨n, v⟩ := unit_up (z := ([] : Runs)) (rowR ps) (rowsY ps) [] e lt he ⟨nf_nil, fun c hc => by cases hc⟩
  have all := gfold_all (z := ([] : Runs)) (fun _ => True) (fun r : Runs => NF false (r.map cOf)) (fcells ps) [] (fun c hc => by
    obtain ⟨y, _, rfl⟩ := List.mem_map.mp hc
    exact ⟨trivial, trivial, (rowR_spec h y).1⟩) (fun c hc => by cases hc)
  refine ⟨⟨_, n, fun c hc => (all c hc).2.2, rfl⟩, fun x y => ?_⟩
  unfold pt form
  rw [runsAt_nf (show NF [] ((fcells ps).foldl (gstep []) []) from n)]
  have vy : val [] ((fcells ps).foldl (gstep []) []) y = if y ∈ rowsY ps then rowR ps y else val [] [] y := v y
  rw [vy]
  by_cases hy : y ∈ rowsY ps
  · rw [if_pos hy]
    exact (rowR_spec h y).2 x
  · rw [if_neg hy, decide_eq_false fun z => hy (mem_rowsY.mpr ⟨x, z⟩)]; rfl
theorem form_eq {ps : List Pt} {rs : List Rc} (h : ps.Nodup) (c : Canon rs) (e : ∀ x y, pt rs x y = decide ((x, y) ∈ ps)) : form ps = rs :=
  canon_ext (form_spec h).1 c fun x y => by rw [(form_spec h).2, e]
theorem mstep_len (acc : Runs) (p : Int × Int) : (mstep acc p).length ≤ acc.length + 1 := by
  unfold mstep
  split
  · split
    · rw [List.length_append, List.length_dropLast, List.length_singleton]; omega
    · rw [List.length_append, List.length_singleton]; omega
  · show 1 ≤ _; omega
theorem mfold_len : ∀ (xs : List Int) (acc : Runs), (xs.foldl (fun acc x => mstep acc (x, x + 1)) acc).length ≤ acc.length + xs.length
  | [], acc => Nat.le_refl _
  | x :: xs, acc => by
    have h1 := mfold_len xs (mstep acc (x, x + 1))
    have h2 := mstep_len acc (x, x + 1)
    rw [List.length_cons]
    show (xs.foldl (fun acc x => mstep acc (x, x + 1)) (mstep acc (x, x + 1))).length ≤ _
    omega
theorem rowX_len (ps : List Pt) (y : Int) : (rowX ps y).length ≤ ps.length := by
  unfold rowX
  rw [sortI_len, List.length_map]
  exact List.length_filter_le _ _
theorem rowR_len (ps : List Pt) (y : Int) : (rowR ps y).length ≤ ps.length := by
  unfold rowR
  exact Nat.le_trans (mfold_len (rowX ps y) []) (by rw [List.length_nil, Nat.zero_add]; exact rowX_len ps y)
theorem ptsOf_len {rs : List Rc} {k : Nat} (h : ∀ c ∈ rs, (rcPts c).length ≤ k) : (ptsOf rs).length ≤ rs.length * k := by
  have := (addP_fold (rs.flatMap rcPts) [] List.nodup_nil).2.2.2
  have l2 := len_flatMap h
  unfold ptsOf
  rw [List.length_nil] at this
  omega
theorem rcPts_len {c : Rc} {k : Nat} (h1 : c.r - c.l ≤ k) (h2 : c.b - c.t ≤ k) : (rcPts c).length ≤ k * k := by
  unfold rcPts
  have := len_flatMap (l := irange c.t c.b) (g := fun y => (irange c.l c.r).map fun x => (x, y)) (k := k) fun y _ => by
    rw [List.length_map, irange_len]; omega
  rw [irange_len] at this
  exact Nat.le_trans this (Nat.mul_le_mul_right k (by omega))
theorem addP_ge : ∀ (ps acc : List Pt), acc.length ≤ (ps.foldl addP acc).length
  | [], acc => Nat.le_refl _
  | q :: ps, acc => by
    have h := addP_ge ps (addP acc q)
    have : acc.length ≤ (addP acc q).length := by
      unfold addP
      split
      · exact Nat.le_refl _
      · rw [List.length_append]; omega
    show acc.length ≤ (ps.foldl addP (addP acc q)).length
    omega
def ddS (a : List Int) (n : Int) : List Int := if n ∈ a then a else a ++ [n]
theorem ddS_ge : ∀ (ns acc : List Int), acc.length ≤ (ns.foldl ddS acc).length
  | [], acc => Nat.le_refl _
  | q :: ns, acc => by
    have h := ddS_ge ns (ddS acc q)
    have : acc.length ≤ (ddS acc q).length := by
      unfold ddS
      split
      · exact Nat.le_refl _
      · rw [List.length_append]; omega
    show acc.length ≤ (ns.foldl ddS (ddS acc q)).length
    omega
theorem gstep_cat {V : Type} [DecidableEq V] {z : V} {q : List (Cell V)} {p c : Cell V} (h : c.v ≠ z) : gstep z (q ++ [p]) c = if p.b = c.a ∧ p.v = c.v then q ++ [⟨p.a, c.b, c.v⟩] else q ++ [p] ++ [c] := by
  unfold gstep
  rw [if_neg h, List.getLast?_concat]
  show (if p.b = c.a ∧ p.v = c.v then (q ++ [p]).dropLast ++ _ else _) = _
  rw [List.dropLast_concat]
theorem mstep_cat {q : Runs} {p c : Int × Int} : mstep (q ++ [p]) c = if p.2 = c.1 then q ++ [(p.1, c.2)] else q ++ [p] ++ [c] := by
  unfold mstep
  rw [List.getLast?_concat]
  show (if p.2 = c.1 then (q ++ [p]).dropLast ++ _ else _) = _
  rw [List.dropLast_concat]
/-! ### the written form, walked -/
def pk (p : Pt) : List Int := [p.1, p.2]
def dctP (ps : List Pt) : D := .dct true (ps.map pk)
/-- points, as a dict or as a list -/
def Pts (d : D) (ps : List Pt) : Prop := d = .lst (ps.map pD2) ∨ d = dctP ps
theorem itv_pts {d : D} {ps : List Pt} {m : MS} {Q : List D → MS → Prop} (h : Pts d ps) (hQ : Q (ps.map pD2) m) : itvP d m Q := by
  rcases h with rfl | rfl
  · exact itv_lst hQ
  · refine itv_dct ?_
    rw [List.map_map]
    exact hQ
theorem any_pk (ps : List Pt) (p : Pt) : hasK true (ps.map pk) (pk p) = decide (p ∈ ps) := by
  unfold hasK
  rw [List.any_map, Bool.eq_iff_iff, List.any_eq_true, decide_eq_true_eq]
  constructor
  · rintro ⟨q, hq, e⟩
    have e : pk q = pk p := of_decide_eq_true e
    obtain ⟨a, b⟩ := q
    obtain ⟨c, d⟩ := p
    injection e with e1 e2
    injection e2 with e2 _
    have e1 : a = c := e1
    have e2 : b = d := e2
    subst e1 e2
    exact hq
  · exact fun h => ⟨p, h, decide_eq_true rfl⟩
theorem addK_pk (acc : List Pt) (p : Pt) : addK true (acc.map pk) (pk p) = (addP acc p).map pk := by
  unfold addK addP
  rw [any_pk]
  by_cases h : p ∈ acc
  · rw [decide_eq_true h, if_pos h]
  · rw [decide_eq_false h, if_neg h, List.map_append]; rfl
theorem in_dct (ps : List Pt) (x y : Int) : inD (.tup [.int x, .int y]) (dctP ps) = some (decide ((x, y) ∈ ps)) := by
  show some (hasK true (ps.map pk) [x, y]) = _
  rw [show hasK true (ps.map pk) [x, y] = decide ((x, y) ∈ ps) from any_pk ps (x, y)]
def sg (n : Int) : List Int := [n]
theorem any_sg (ns : List Int) (n : Int) : hasK false (ns.map sg) (sg n) = decide (n ∈ ns) := by
  unfold hasK
  rw [List.any_map, Bool.eq_iff_iff, List.any_eq_true, decide_eq_true_eq]
  constructor
  · rintro ⟨q, hq, e⟩
    have e : q = n := of_decide_eq_true e
    rw [← e]; exact hq
  · exact fun h => ⟨n, h, decide_eq_true rfl⟩
theorem addK_sg (acc : List Int) (n : Int) : addK false (acc.map sg) (sg n) = (ddS acc n).map sg := by
  unfold addK ddS
  rw [any_sg]
  by_cases h : n ∈ acc
  · rw [decide_eq_true h, if_pos h]
  · rw [decide_eq_false h, if_neg h, List.map_append]; rfl
theorem rangeL_map (lo hi : Int) : rangeL lo hi = (irange lo hi).map D.int := by
  unfold rangeL irange
  rw [List.map_map]; rfl
theorem small {n : Nat} (h : n ≤ 16000000) : n < sizeLine := by rw [sizeLine_eq]; omega
theorem points_wp {n : Nat} {rs : List Rc} {m : MS} {Q : D × Kd → MS → Prop} (hb : ∀ c ∈ rs, -2100 ≤ c.l ∧ c.r ≤ 2100 ∧ -2100 ≤ c.t ∧ c.b ≤ 2100 ∧ c.l ≤ 2100 ∧ -2100 ≤ c.r ∧ c.t ≤ 2100 ∧ -2100 ≤ c.b) (hl : (rs.flatMap rcPts).length ≤ 16000000) (hQ : Q (dctP (ptsOf rs), .sh) m) : wpx noE (callL (n + 1) 5 [.lst (rs.map Rc.d)] m) Q := by
  refine wp_callF (F := d_law_points.F) rfl rfl ?_
  generalize callF (gls.map fun p => p.2.d) (defs.map (·.F)) n = cf
  have FL : (ptsOf rs).length ≤ 16000000 := by
    have := (addP_fold (rs.flatMap rcPts) [] List.nodup_nil).2.2.2
    unfold ptsOf
    rw [List.length_nil] at this
    omega
  have F0 : ptsOf rs = (rs.flatMap rcPts).foldl addP [] := rfl
  generalize ptsOf rs = F at FL F0 hQ
  (repeat ((conv => whnf); first | refine ⟨_, by first | ((with_reducible show L2.atI _ _ = some _); first | exact atI_0 | exact atI_1 | exact atI_2 | exact atI_3 | exact atI_4 | exact atI_5 | exact atI_6 | exact atI_7) | ((with_reducible show L2.ixN _ _ = some _); first | exact ix_0 | exact ix_1 | exact ix_2 | exact ix_3 | exact ix_4 | exact ix_5 | exact ix_6 | exact ix_7), ?_⟩ | refine ⟨by (first | (show sameM _ _; exact ⟨rfl, rfl⟩) | (show mulOk _ _; unfold mulOk; omega) | (show divOk _; unfold divOk; omega) | (show powOk _ _; unfold powOk; decide) | (show _ ≠ _; omega) | (show isNon _ = true; rfl) | exact len_lit (by rfl) | exact len2_lit (by rfl)), ?_⟩ | refine ⟨true, by decide +kernel, ?_⟩ | refine ⟨false, by decide +kernel, ?_⟩ | refine itv_lst ?_ | refine itv_tup ?_ | refine itv_scr ?_ | refine itv_str ?_ | refine itv_dct ?_)); (try (conv => whnf))
  refine ⟨wp_loop (fun ds S m' => m' = m ∧ ∃ (es : List Rc) (acc : List Pt) (c2 c3 c4 c5 c6 c7 : Slot), ds = es.map Rc.d ∧ (∀ c ∈ es, c ∈ rs) ∧ F = (es.flatMap rcPts).foldl addP acc ∧ S = [some (.lst (rs.map Rc.d), false), some (dctP acc, true), c2, c3, c4, c5, c6, c7]) (fun d ds S m' ⟨hm, es, acc, c2, c3, c4, c5, c6, c7, hd, he, hf, hS⟩ => ?_) (fun S m' ⟨hm, es, acc, c2, c3, c4, c5, c6, c7, hd, he, hf, hS⟩ => ?_) _ _ _ ⟨rfl, rs, [], _, _, _, _, _, _, rfl, fun c hc => hc, F0, rfl⟩⟩
  · cases es with
    | nil => cases hd
    | cons c es =>
    cases hd
    subst hm hS
    have hc := hb c (he c List.mem_cons_self)
    have hes : ∀ d ∈ es, d ∈ rs := fun d hd => he d (List.mem_cons_of_mem _ hd)
    rw [List.flatMap_cons, List.foldl_append] at hf
    obtain ⟨l, t, r, b⟩ := c
    have hc : -2100 ≤ l ∧ r ≤ 2100 ∧ -2100 ≤ t ∧ b ≤ 2100 ∧ l ≤ 2100 ∧ -2100 ≤ r ∧ t ≤ 2100 ∧ -2100 ≤ b := hc
    refine wp_turn ?_
    (repeat ((conv => whnf); first | refine ⟨_, by first | ((with_reducible show L2.atI _ _ = some _); first | exact atI_0 | exact atI_1 | exact atI_2 | exact atI_3 | exact atI_4 | exact atI_5 | exact atI_6 | exact atI_7) | ((with_reducible show L2.ixN _ _ = some _); first | exact ix_0 | exact ix_1 | exact ix_2 | exact ix_3 | exact ix_4 | exact ix_5 | exact ix_6 | exact ix_7), ?_⟩ | refine ⟨by (first | (show sameM _ _; exact ⟨rfl, rfl⟩) | (show mulOk _ _; unfold mulOk; omega) | (show divOk _; unfold divOk; omega) | (show powOk _ _; unfold powOk; decide) | (show _ ≠ _; omega) | (show isNon _ = true; rfl) | exact len_lit (by rfl) | exact len2_lit (by rfl)), ?_⟩ | refine ⟨true, by decide +kernel, ?_⟩ | refine ⟨false, by decide +kernel, ?_⟩ | refine itv_lst ?_ | refine itv_tup ?_ | refine itv_scr ?_ | refine itv_str ?_ | refine itv_dct ?_)); (try (conv => whnf))
    refine ⟨⟨by unfold inR; omega, by unfold inR; omega, Nat.le_of_lt (small (by omega))⟩, ?_⟩
    rw [rangeL_map]
    have hf : F = (es.flatMap rcPts).foldl addP (((irange t b).flatMap fun y => (irange l r).map fun x => (x, y)).foldl addP acc) := hf
    refine ⟨wp_loop (fun ds' S m'' => m'' = m' ∧ ∃ (ys : List Int) (acc : List Pt) (c6 c7 : Slot), ds' = ys.map D.int ∧ F = (es.flatMap rcPts).foldl addP ((ys.flatMap fun y => (irange l r).map fun x => (x, y)).foldl addP acc) ∧ S = [some (.lst (rs.map Rc.d), false), some (dctP acc, true), some (.int l, false), some (.int t, false), some (.int r, false), some (.int b, false), c6, c7]) (fun d ds' S m'' ⟨hm, ys, acc, c6, c7, hd, hf, hS⟩ => ?_) (fun S m'' ⟨hm, ys, acc, c6, c7, hd, hf, hS⟩ => ?_) _ _ _ ⟨rfl, irange t b, acc, _, _, rfl, hf, rfl⟩⟩
    · cases ys with
      | nil => cases hd
      | cons y ys =>
      cases hd
      subst hm hS
      rw [List.flatMap_cons, List.foldl_append] at hf
      refine wp_turn ?_
      (repeat ((conv => whnf); first | refine ⟨_, by first | ((with_reducible show L2.atI _ _ = some _); first | exact atI_0 | exact atI_1 | exact atI_2 | exact atI_3 | exact atI_4 | exact atI_5 | exact atI_6 | exact atI_7) | ((with_reducible show L2.ixN _ _ = some _); first | exact ix_0 | exact ix_1 | exact ix_2 | exact ix_3 | exact ix_4 | exact ix_5 | exact ix_6 | exact ix_7), ?_⟩ | refine ⟨by (first | (show sameM _ _; exact ⟨rfl, rfl⟩) | (show mulOk _ _; unfold mulOk; omega) | (show divOk _; unfold divOk; omega) | (show powOk _ _; unfold powOk; decide) | (show _ ≠ _; omega) | (show isNon _ = true; rfl) | exact len_lit (by rfl) | exact len2_lit (by rfl)), ?_⟩ | refine ⟨true, by decide +kernel, ?_⟩ | refine ⟨false, by decide +kernel, ?_⟩ | refine itv_lst ?_ | refine itv_tup ?_ | refine itv_scr ?_ | refine itv_str ?_ | refine itv_dct ?_)); (try (conv => whnf))
      refine ⟨⟨by unfold inR; omega, by unfold inR; omega, Nat.le_of_lt (small (by omega))⟩, ?_⟩
      rw [rangeL_map]
      refine ⟨wp_loop (fun ds' S m1 => m1 = m'' ∧ ∃ (xs : List Int) (acc : List Pt) (c7 : Slot), ds' = xs.map D.int ∧ F = (es.flatMap rcPts).foldl addP ((ys.flatMap fun y => (irange l r).map fun x => (x, y)).foldl addP ((xs.map fun x => (x, y)).foldl addP acc)) ∧ S = [some (.lst (rs.map Rc.d), false), some (dctP acc, true), some (.int l, false), some (.int t, false), some (.int r, false), some (.int b, false), some (.int y, false), c7]) (fun d ds' S m1 ⟨hm, xs, acc, c7, hd, hf, hS⟩ => ?_) (fun S m1 ⟨hm, xs, acc, c7, hd, hf, hS⟩ => ?_) _ _ _ ⟨rfl, irange l r, acc, _, rfl, hf, rfl⟩⟩
      · cases xs with
        | nil => cases hd
        | cons x xs =>
        cases hd
        subst hm hS
        refine wp_turn ?_
        (repeat ((conv => whnf); first | refine ⟨_, by first | ((with_reducible show L2.atI _ _ = some _); first | exact atI_0 | exact atI_1 | exact atI_2 | exact atI_3 | exact atI_4 | exact atI_5 | exact atI_6 | exact atI_7) | ((with_reducible show L2.ixN _ _ = some _); first | exact ix_0 | exact ix_1 | exact ix_2 | exact ix_3 | exact ix_4 | exact ix_5 | exact ix_6 | exact ix_7), ?_⟩ | refine ⟨by (first | (show sameM _ _; exact ⟨rfl, rfl⟩) | (show mulOk _ _; unfold mulOk; omega) | (show divOk _; unfold divOk; omega) | (show powOk _ _; unfold powOk; decide) | (show _ ≠ _; omega) | (show isNon _ = true; rfl) | exact len_lit (by rfl) | exact len2_lit (by rfl)), ?_⟩ | refine ⟨true, by decide +kernel, ?_⟩ | refine ⟨false, by decide +kernel, ?_⟩ | refine itv_lst ?_ | refine itv_tup ?_ | refine itv_scr ?_ | refine itv_str ?_ | refine itv_dct ?_)); (try (conv => whnf))
        have g1 := addP_ge (xs.map fun x => (x, y)) (addP acc (x, y))
        have g2 := addP_ge (ys.flatMap fun y => (irange l r).map fun x => (x, y)) ((xs.map fun x => (x, y)).foldl addP (addP acc (x, y)))
        have g3 := addP_ge (es.flatMap rcPts) ((ys.flatMap fun y => (irange l r).map fun x => (x, y)).foldl addP ((xs.map fun x => (x, y)).foldl addP (addP acc (x, y))))
        have g4 := addP_ge [(x, y)] acc
        have hf : F = (es.flatMap rcPts).foldl addP ((ys.flatMap fun y => (irange l r).map fun x => (x, y)).foldl addP ((xs.map fun x => (x, y)).foldl addP (addP acc (x, y)))) := hf
        rw [← hf] at g3
        have g4 : acc.length ≤ (addP acc (x, y)).length := g4
        refine ⟨⟨by rw [List.length_map]; exact small (by omega), Nat.le_of_lt (small (by show 2 ≤ _; omega))⟩, ?_⟩
        exact ⟨rfl, xs, addP acc (x, y), _, rfl, hf, by rw [show addK true (acc.map pk) [x, y] = (addP acc (x, y)).map pk from addK_pk acc (x, y)]; rfl⟩
      · subst hm hS
        have e : xs = [] := by
          cases xs with
          | nil => rfl
          | cons _ _ => cases hd
        subst e
        exact ⟨rfl, ys, acc, _, _, rfl, hf, rfl⟩
    · subst hm hS
      have e : ys = [] := by
        cases ys with
        | nil => rfl
        | cons _ _ => cases hd
      subst e
      exact ⟨rfl, es, acc, _, _, _, _, _, _, rfl, hes, hf, rfl⟩
  · subst hm hS
    have e : es = [] := by
      cases es with
      | nil => rfl
      | cons _ _ => cases hd
    subst e
    have hf : F = acc := hf
    subst hf
    (repeat ((conv => whnf); first | refine ⟨_, by first | ((with_reducible show L2.atI _ _ = some _); first | exact atI_0 | exact atI_1 | exact atI_2 | exact atI_3 | exact atI_4 | exact atI_5 | exact atI_6 | exact atI_7) | ((with_reducible show L2.ixN _ _ = some _); first | exact ix_0 | exact ix_1 | exact ix_2 | exact ix_3 | exact ix_4 | exact ix_5 | exact ix_6 | exact ix_7), ?_⟩ | refine ⟨by (first | (show sameM _ _; exact ⟨rfl, rfl⟩) | (show mulOk _ _; unfold mulOk; omega) | (show divOk _; unfold divOk; omega) | (show powOk _ _; unfold powOk; decide) | (show _ ≠ _; omega) | (show isNon _ = true; rfl) | exact len_lit (by rfl) | exact len2_lit (by rfl)), ?_⟩ | refine ⟨true, by decide +kernel, ?_⟩ | refine ⟨false, by decide +kernel, ?_⟩ | refine itv_lst ?_ | refine itv_tup ?_ | refine itv_scr ?_ | refine itv_str ?_ | refine itv_dct ?_)); (try (conv => whnf))
    exact hQ
theorem sorted_ints (ns : List Int) (m : MS) : bltD .sorted [.lst (ns.map D.int)] m = some (.lst ((sortI ns).map D.int), .own) := by
  show (match intsD (ns.map D.int) with | some ns => some (srtI ns) | none => (prsD (ns.map D.int)).map srtP) = _
  rw [intsD_map]
  rfl
theorem lruns_wp {n : Nat} {d : D} {ps : List Pt} {y : Int} {m : MS} {Q : D × Kd → MS → Prop} (hp : Pts d ps) (hl : ps.length ≤ 4000) (hQ : Q (.lst ((rowR ps y).map pD2), .own) m) : wpx noE (callL (n + 1) 6 [d, .int y] m) Q := by
  refine wp_callF (F := d_law_runs.F) rfl rfl ?_
  generalize callF (gls.map fun p => p.2.d) (defs.map (·.F)) n = cf
  have e1 : mapR (elR (gls.map fun p => p.2.d) cf (.idx (.var 5) (.int 0)) (.cmp .eq (.idx (.var 5) (.int 1)) (.var 1)) (.tn 5) [5] [some (d, false), some (.int y, false), none, none, none, none]) (ps.map pD2) m = .ok ((ps.filter fun p => decide (p.2 = y)).map fun p => .int p.1) m := mapR_fm pD2 (fun p => .int p.1) _ ps fun p _ => eq_of_wp (wp_el (by
    (repeat ((conv => whnf); first | refine ⟨_, by first | ((with_reducible show L2.atI _ _ = some _); first | exact atI_0 | exact atI_1 | exact atI_2 | exact atI_3 | exact atI_4 | exact atI_5 | exact atI_6 | exact atI_7) | ((with_reducible show L2.ixN _ _ = some _); first | exact ix_0 | exact ix_1 | exact ix_2 | exact ix_3 | exact ix_4 | exact ix_5 | exact ix_6 | exact ix_7), ?_⟩ | refine ⟨by (first | (show sameM _ _; exact ⟨rfl, rfl⟩) | (show mulOk _ _; unfold mulOk; omega) | (show divOk _; unfold divOk; omega) | (show powOk _ _; unfold powOk; decide) | (show _ ≠ _; omega) | (show isNon _ = true; rfl) | exact len_lit (by rfl) | exact len2_lit (by rfl)), ?_⟩ | refine ⟨true, by decide +kernel, ?_⟩ | refine ⟨false, by decide +kernel, ?_⟩ | refine itv_lst ?_ | refine itv_tup ?_ | refine itv_scr ?_ | refine itv_str ?_ | refine itv_dct ?_)); (try (conv => whnf))
    refine condD_of (fun h => ?_) (fun h => ?_)
    · (repeat ((conv => whnf); first | refine ⟨_, by first | ((with_reducible show L2.atI _ _ = some _); first | exact atI_0 | exact atI_1 | exact atI_2 | exact atI_3 | exact atI_4 | exact atI_5 | exact atI_6 | exact atI_7) | ((with_reducible show L2.ixN _ _ = some _); first | exact ix_0 | exact ix_1 | exact ix_2 | exact ix_3 | exact ix_4 | exact ix_5 | exact ix_6 | exact ix_7), ?_⟩ | refine ⟨by (first | (show sameM _ _; exact ⟨rfl, rfl⟩) | (show mulOk _ _; unfold mulOk; omega) | (show divOk _; unfold divOk; omega) | (show powOk _ _; unfold powOk; decide) | (show _ ≠ _; omega) | (show isNon _ = true; rfl) | exact len_lit (by rfl) | exact len2_lit (by rfl)), ?_⟩ | refine ⟨true, by decide +kernel, ?_⟩ | refine ⟨false, by decide +kernel, ?_⟩ | refine itv_lst ?_ | refine itv_tup ?_ | refine itv_scr ?_ | refine itv_str ?_ | refine itv_dct ?_)); (try (conv => whnf))
      exact ⟨by rw [if_pos (decide_eq_true h)], rfl⟩
    · (repeat ((conv => whnf); first | refine ⟨_, by first | ((with_reducible show L2.atI _ _ = some _); first | exact atI_0 | exact atI_1 | exact atI_2 | exact atI_3 | exact atI_4 | exact atI_5 | exact atI_6 | exact atI_7) | ((with_reducible show L2.ixN _ _ = some _); first | exact ix_0 | exact ix_1 | exact ix_2 | exact ix_3 | exact ix_4 | exact ix_5 | exact ix_6 | exact ix_7), ?_⟩ | refine ⟨by (first | (show sameM _ _; exact ⟨rfl, rfl⟩) | (show mulOk _ _; unfold mulOk; omega) | (show divOk _; unfold divOk; omega) | (show powOk _ _; unfold powOk; decide) | (show _ ≠ _; omega) | (show isNon _ = true; rfl) | exact len_lit (by rfl) | exact len2_lit (by rfl)), ?_⟩ | refine ⟨true, by decide +kernel, ?_⟩ | refine ⟨false, by decide +kernel, ?_⟩ | refine itv_lst ?_ | refine itv_tup ?_ | refine itv_scr ?_ | refine itv_str ?_ | refine itv_dct ?_)); (try (conv => whnf))
      exact ⟨by rw [if_neg (by rw [decide_eq_false h]; decide)], rfl⟩))
  have e2 : bltD .sorted [.lst ((ps.filter fun p => decide (p.2 = y)).map fun p => D.int p.1)] m = some (.lst ((rowX ps y).map D.int), .own) := by
    rw [show ((ps.filter fun p => decide (p.2 = y)).map fun p => D.int p.1) = ((ps.filter fun p => decide (p.2 = y)).map (·.1)).map D.int by rw [List.map_map]; rfl, sorted_ints]
    rfl
  have hx := rowX_len ps y
  have hR : rowR ps y = (rowX ps y).foldl (fun acc x => mstep acc (x, x + 1)) [] := rfl
  generalize rowR ps y = R at hR hQ
  generalize rowX ps y = X at e2 hx hR
  (repeat ((conv => whnf); first | refine ⟨_, by first | ((with_reducible show L2.atI _ _ = some _); first | exact atI_0 | exact atI_1 | exact atI_2 | exact atI_3 | exact atI_4 | exact atI_5 | exact atI_6 | exact atI_7) | ((with_reducible show L2.ixN _ _ = some _); first | exact ix_0 | exact ix_1 | exact ix_2 | exact ix_3 | exact ix_4 | exact ix_5 | exact ix_6 | exact ix_7), ?_⟩ | refine ⟨by (first | (show sameM _ _; exact ⟨rfl, rfl⟩) | (show mulOk _ _; unfold mulOk; omega) | (show divOk _; unfold divOk; omega) | (show powOk _ _; unfold powOk; decide) | (show _ ≠ _; omega) | (show isNon _ = true; rfl) | exact len_lit (by rfl) | exact len2_lit (by rfl)), ?_⟩ | refine ⟨true, by decide +kernel, ?_⟩ | refine ⟨false, by decide +kernel, ?_⟩ | refine itv_lst ?_ | refine itv_tup ?_ | refine itv_scr ?_ | refine itv_str ?_ | refine itv_dct ?_)); (try (conv => whnf))
  refine itv_pts hp ?_
  refine ⟨wp_of e1 ?_⟩
  show optP (bltD .sorted [.lst ((ps.filter fun p => decide (p.2 = y)).map fun p => D.int p.1)] m) _
  rw [e2]
  (repeat ((conv => whnf); first | refine ⟨_, by first | ((with_reducible show L2.atI _ _ = some _); first | exact atI_0 | exact atI_1 | exact atI_2 | exact atI_3 | exact atI_4 | exact atI_5 | exact atI_6 | exact atI_7) | ((with_reducible show L2.ixN _ _ = some _); first | exact ix_0 | exact ix_1 | exact ix_2 | exact ix_3 | exact ix_4 | exact ix_5 | exact ix_6 | exact ix_7), ?_⟩ | refine ⟨by (first | (show sameM _ _; exact ⟨rfl, rfl⟩) | (show mulOk _ _; unfold mulOk; omega) | (show divOk _; unfold divOk; omega) | (show powOk _ _; unfold powOk; decide) | (show _ ≠ _; omega) | (show isNon _ = true; rfl) | exact len_lit (by rfl) | exact len2_lit (by rfl)), ?_⟩ | refine ⟨true, by decide +kernel, ?_⟩ | refine ⟨false, by decide +kernel, ?_⟩ | refine itv_lst ?_ | refine itv_tup ?_ | refine itv_scr ?_ | refine itv_str ?_ | refine itv_dct ?_)); (try (conv => whnf))
  refine ⟨wp_loop (fun ds S m' => m' = m ∧ ∃ (xs : List Int) (acc : Runs) (c4 c5 : Slot), ds = xs.map D.int ∧ acc.length + xs.length ≤ 4000 ∧ R = xs.foldl (fun acc x => mstep acc (x, x + 1)) acc ∧ S = [some (d, false), some (.int y, false), some (.lst (X.map D.int), false), some (.lst (acc.map pD2), true), c4, c5]) (fun e ds S m' ⟨hm, xs, acc, c4, c5, hd, ha, hf, hS⟩ => ?_) (fun S m' ⟨hm, xs, acc, c4, c5, hd, ha, hf, hS⟩ => ?_) _ _ _ ⟨rfl, X, [], _, _, rfl, by rw [List.length_nil]; omega, hR, rfl⟩⟩
  · cases xs with
    | nil => cases hd
    | cons x xs =>
    cases hd
    subst hm hS
    rw [List.length_cons] at ha
    have hf : R = xs.foldl (fun acc x => mstep acc (x, x + 1)) (mstep acc (x, x + 1)) := hf
    refine wp_turn ?_
    rcases List.eq_nil_or_concat acc with rfl | ⟨qs, p, rfl⟩
    · (repeat ((conv => whnf); first | refine ⟨_, by first | ((with_reducible show L2.atI _ _ = some _); first | exact atI_0 | exact atI_1 | exact atI_2 | exact atI_3 | exact atI_4 | exact atI_5 | exact atI_6 | exact atI_7) | ((with_reducible show L2.ixN _ _ = some _); first | exact ix_0 | exact ix_1 | exact ix_2 | exact ix_3 | exact ix_4 | exact ix_5 | exact ix_6 | exact ix_7), ?_⟩ | refine ⟨by (first | (show sameM _ _; exact ⟨rfl, rfl⟩) | (show mulOk _ _; unfold mulOk; omega) | (show divOk _; unfold divOk; omega) | (show powOk _ _; unfold powOk; decide) | (show _ ≠ _; omega) | (show isNon _ = true; rfl) | exact len_lit (by rfl) | exact len2_lit (by rfl)), ?_⟩ | refine ⟨true, by decide +kernel, ?_⟩ | refine ⟨false, by decide +kernel, ?_⟩ | refine itv_lst ?_ | refine itv_tup ?_ | refine itv_scr ?_ | refine itv_str ?_ | refine itv_dct ?_)); (try (conv => whnf))
      refine ⟨small (by show 0 ≤ _; omega), ?_⟩
      (repeat ((conv => whnf); first | refine ⟨_, by first | ((with_reducible show L2.atI _ _ = some _); first | exact atI_0 | exact atI_1 | exact atI_2 | exact atI_3 | exact atI_4 | exact atI_5 | exact atI_6 | exact atI_7) | ((with_reducible show L2.ixN _ _ = some _); first | exact ix_0 | exact ix_1 | exact ix_2 | exact ix_3 | exact ix_4 | exact ix_5 | exact ix_6 | exact ix_7), ?_⟩ | refine ⟨by (first | (show sameM _ _; exact ⟨rfl, rfl⟩) | (show mulOk _ _; unfold mulOk; omega) | (show divOk _; unfold divOk; omega) | (show powOk _ _; unfold powOk; decide) | (show _ ≠ _; omega) | (show isNon _ = true; rfl) | exact len_lit (by rfl) | exact len2_lit (by rfl)), ?_⟩ | refine ⟨true, by decide +kernel, ?_⟩ | refine ⟨false, by decide +kernel, ?_⟩ | refine itv_lst ?_ | refine itv_tup ?_ | refine itv_scr ?_ | refine itv_str ?_ | refine itv_dct ?_)); (try (conv => whnf))
      exact ⟨rfl, xs, [(x, x + 1)], _, _, rfl, by show 1 + _ ≤ _; omega, hf, rfl⟩
    · rw [List.concat_eq_append] at hf ha ⊢
      rw [List.length_append, List.length_singleton] at ha
      rw [mstep_cat] at hf
      (repeat ((conv => whnf); first | refine ⟨_, by first | ((with_reducible show L2.atI _ _ = some _); first | exact atI_0 | exact atI_1 | exact atI_2 | exact atI_3 | exact atI_4 | exact atI_5 | exact atI_6 | exact atI_7) | ((with_reducible show L2.ixN _ _ = some _); first | exact ix_0 | exact ix_1 | exact ix_2 | exact ix_3 | exact ix_4 | exact ix_5 | exact ix_6 | exact ix_7), ?_⟩ | refine ⟨by (first | (show sameM _ _; exact ⟨rfl, rfl⟩) | (show mulOk _ _; unfold mulOk; omega) | (show divOk _; unfold divOk; omega) | (show powOk _ _; unfold powOk; decide) | (show _ ≠ _; omega) | (show isNon _ = true; rfl) | exact len_lit (by rfl) | exact len2_lit (by rfl)), ?_⟩ | refine ⟨true, by decide +kernel, ?_⟩ | refine ⟨false, by decide +kernel, ?_⟩ | refine itv_lst ?_ | refine itv_tup ?_ | refine itv_scr ?_ | refine itv_str ?_ | refine itv_dct ?_)); (try (conv => whnf))
      refine condP_t (by simp) ?_
      (repeat ((conv => whnf); first | refine ⟨_, by first | ((with_reducible show L2.atI _ _ = some _); first | exact atI_0 | exact atI_1 | exact atI_2 | exact atI_3 | exact atI_4 | exact atI_5 | exact atI_6 | exact atI_7) | ((with_reducible show L2.ixN _ _ = some _); first | exact ix_0 | exact ix_1 | exact ix_2 | exact ix_3 | exact ix_4 | exact ix_5 | exact ix_6 | exact ix_7), ?_⟩ | refine ⟨by (first | (show sameM _ _; exact ⟨rfl, rfl⟩) | (show mulOk _ _; unfold mulOk; omega) | (show divOk _; unfold divOk; omega) | (show powOk _ _; unfold powOk; decide) | (show _ ≠ _; omega) | (show isNon _ = true; rfl) | exact len_lit (by rfl) | exact len2_lit (by rfl)), ?_⟩ | refine ⟨true, by decide +kernel, ?_⟩ | refine ⟨false, by decide +kernel, ?_⟩ | refine itv_lst ?_ | refine itv_tup ?_ | refine itv_scr ?_ | refine itv_str ?_ | refine itv_dct ?_)); (try (conv => whnf))
      refine ⟨_, last_at, ?_⟩
      (repeat ((conv => whnf); first | refine ⟨_, by first | ((with_reducible show L2.atI _ _ = some _); first | exact atI_0 | exact atI_1 | exact atI_2 | exact atI_3 | exact atI_4 | exact atI_5 | exact atI_6 | exact atI_7) | ((with_reducible show L2.ixN _ _ = some _); first | exact ix_0 | exact ix_1 | exact ix_2 | exact ix_3 | exact ix_4 | exact ix_5 | exact ix_6 | exact ix_7), ?_⟩ | refine ⟨by (first | (show sameM _ _; exact ⟨rfl, rfl⟩) | (show mulOk _ _; unfold mulOk; omega) | (show divOk _; unfold divOk; omega) | (show powOk _ _; unfold powOk; decide) | (show _ ≠ _; omega) | (show isNon _ = true; rfl) | exact len_lit (by rfl) | exact len2_lit (by rfl)), ?_⟩ | refine ⟨true, by decide +kernel, ?_⟩ | refine ⟨false, by decide +kernel, ?_⟩ | refine itv_lst ?_ | refine itv_tup ?_ | refine itv_scr ?_ | refine itv_str ?_ | refine itv_dct ?_)); (try (conv => whnf))
      refine condD_of (fun h => ?_) (fun h => ?_)
      · rw [if_pos h] at hf
        (repeat ((conv => whnf); first | refine ⟨_, by first | ((with_reducible show L2.atI _ _ = some _); first | exact atI_0 | exact atI_1 | exact atI_2 | exact atI_3 | exact atI_4 | exact atI_5 | exact atI_6 | exact atI_7) | ((with_reducible show L2.ixN _ _ = some _); first | exact ix_0 | exact ix_1 | exact ix_2 | exact ix_3 | exact ix_4 | exact ix_5 | exact ix_6 | exact ix_7), ?_⟩ | refine ⟨by (first | (show sameM _ _; exact ⟨rfl, rfl⟩) | (show mulOk _ _; unfold mulOk; omega) | (show divOk _; unfold divOk; omega) | (show powOk _ _; unfold powOk; decide) | (show _ ≠ _; omega) | (show isNon _ = true; rfl) | exact len_lit (by rfl) | exact len2_lit (by rfl)), ?_⟩ | refine ⟨true, by decide +kernel, ?_⟩ | refine ⟨false, by decide +kernel, ?_⟩ | refine itv_lst ?_ | refine itv_tup ?_ | refine itv_scr ?_ | refine itv_str ?_ | refine itv_dct ?_)); (try (conv => whnf))
        refine ⟨_, last_at, ?_⟩
        (repeat ((conv => whnf); first | refine ⟨_, by first | ((with_reducible show L2.atI _ _ = some _); first | exact atI_0 | exact atI_1 | exact atI_2 | exact atI_3 | exact atI_4 | exact atI_5 | exact atI_6 | exact atI_7) | ((with_reducible show L2.ixN _ _ = some _); first | exact ix_0 | exact ix_1 | exact ix_2 | exact ix_3 | exact ix_4 | exact ix_5 | exact ix_6 | exact ix_7), ?_⟩ | refine ⟨by (first | (show sameM _ _; exact ⟨rfl, rfl⟩) | (show mulOk _ _; unfold mulOk; omega) | (show divOk _; unfold divOk; omega) | (show powOk _ _; unfold powOk; decide) | (show _ ≠ _; omega) | (show isNon _ = true; rfl) | exact len_lit (by rfl) | exact len2_lit (by rfl)), ?_⟩ | refine ⟨true, by decide +kernel, ?_⟩ | refine ⟨false, by decide +kernel, ?_⟩ | refine itv_lst ?_ | refine itv_tup ?_ | refine itv_scr ?_ | refine itv_str ?_ | refine itv_dct ?_)); (try (conv => whnf))
        refine ⟨_, last_ix, ?_⟩
        rw [set_last]
        (repeat ((conv => whnf); first | refine ⟨_, by first | ((with_reducible show L2.atI _ _ = some _); first | exact atI_0 | exact atI_1 | exact atI_2 | exact atI_3 | exact atI_4 | exact atI_5 | exact atI_6 | exact atI_7) | ((with_reducible show L2.ixN _ _ = some _); first | exact ix_0 | exact ix_1 | exact ix_2 | exact ix_3 | exact ix_4 | exact ix_5 | exact ix_6 | exact ix_7), ?_⟩ | refine ⟨by (first | (show sameM _ _; exact ⟨rfl, rfl⟩) | (show mulOk _ _; unfold mulOk; omega) | (show divOk _; unfold divOk; omega) | (show powOk _ _; unfold powOk; decide) | (show _ ≠ _; omega) | (show isNon _ = true; rfl) | exact len_lit (by rfl) | exact len2_lit (by rfl)), ?_⟩ | refine ⟨true, by decide +kernel, ?_⟩ | refine ⟨false, by decide +kernel, ?_⟩ | refine itv_lst ?_ | refine itv_tup ?_ | refine itv_scr ?_ | refine itv_str ?_ | refine itv_dct ?_)); (try (conv => whnf))
        exact ⟨rfl, xs, qs ++ [(p.1, x + 1)], _, _, rfl, by rw [List.length_append, List.length_singleton]; omega, hf, by rw [List.map_append (l₁ := qs) (l₂ := [(p.1, x + 1)])]; rfl⟩
      · rw [if_neg h] at hf
        (repeat ((conv => whnf); first | refine ⟨_, by first | ((with_reducible show L2.atI _ _ = some _); first | exact atI_0 | exact atI_1 | exact atI_2 | exact atI_3 | exact atI_4 | exact atI_5 | exact atI_6 | exact atI_7) | ((with_reducible show L2.ixN _ _ = some _); first | exact ix_0 | exact ix_1 | exact ix_2 | exact ix_3 | exact ix_4 | exact ix_5 | exact ix_6 | exact ix_7), ?_⟩ | refine ⟨by (first | (show sameM _ _; exact ⟨rfl, rfl⟩) | (show mulOk _ _; unfold mulOk; omega) | (show divOk _; unfold divOk; omega) | (show powOk _ _; unfold powOk; decide) | (show _ ≠ _; omega) | (show isNon _ = true; rfl) | exact len_lit (by rfl) | exact len2_lit (by rfl)), ?_⟩ | refine ⟨true, by decide +kernel, ?_⟩ | refine ⟨false, by decide +kernel, ?_⟩ | refine itv_lst ?_ | refine itv_tup ?_ | refine itv_scr ?_ | refine itv_str ?_ | refine itv_dct ?_)); (try (conv => whnf))
        refine ⟨by rw [lenm, List.length_append, List.length_singleton]; exact small (by omega), ?_⟩
        (repeat ((conv => whnf); first | refine ⟨_, by first | ((with_reducible show L2.atI _ _ = some _); first | exact atI_0 | exact atI_1 | exact atI_2 | exact atI_3 | exact atI_4 | exact atI_5 | exact atI_6 | exact atI_7) | ((with_reducible show L2.ixN _ _ = some _); first | exact ix_0 | exact ix_1 | exact ix_2 | exact ix_3 | exact ix_4 | exact ix_5 | exact ix_6 | exact ix_7), ?_⟩ | refine ⟨by (first | (show sameM _ _; exact ⟨rfl, rfl⟩) | (show mulOk _ _; unfold mulOk; omega) | (show divOk _; unfold divOk; omega) | (show powOk _ _; unfold powOk; decide) | (show _ ≠ _; omega) | (show isNon _ = true; rfl) | exact len_lit (by rfl) | exact len2_lit (by rfl)), ?_⟩ | refine ⟨true, by decide +kernel, ?_⟩ | refine ⟨false, by decide +kernel, ?_⟩ | refine itv_lst ?_ | refine itv_tup ?_ | refine itv_scr ?_ | refine itv_str ?_ | refine itv_dct ?_)); (try (conv => whnf))
        exact ⟨rfl, xs, qs ++ [p] ++ [(x, x + 1)], _, _, rfl, by rw [List.length_append, List.length_append, List.length_singleton, List.length_singleton]; omega, hf, by rw [List.map_append (l₁ := qs ++ [p])]; rfl⟩
  · subst hm hS
    have e : xs = [] := by
      cases xs with
      | nil => rfl
      | cons _ _ => cases hd
    subst e
    have hf : R = acc := hf
    subst hf
    (repeat ((conv => whnf); first | refine ⟨_, by first | ((with_reducible show L2.atI _ _ = some _); first | exact atI_0 | exact atI_1 | exact atI_2 | exact atI_3 | exact atI_4 | exact atI_5 | exact atI_6 | exact atI_7) | ((with_reducible show L2.ixN _ _ = some _); first | exact ix_0 | exact ix_1 | exact ix_2 | exact ix_3 | exact ix_4 | exact ix_5 | exact ix_6 | exact ix_7), ?_⟩ | refine ⟨by (first | (show sameM _ _; exact ⟨rfl, rfl⟩) | (show mulOk _ _; unfold mulOk; omega) | (show divOk _; unfold divOk; omega) | (show powOk _ _; unfold powOk; decide) | (show _ ≠ _; omega) | (show isNon _ = true; rfl) | exact len_lit (by rfl) | exact len2_lit (by rfl)), ?_⟩ | refine ⟨true, by decide +kernel, ?_⟩ | refine ⟨false, by decide +kernel, ?_⟩ | refine itv_lst ?_ | refine itv_tup ?_ | refine itv_scr ?_ | refine itv_str ?_ | refine itv_dct ?_)); (try (conv => whnf))
    exact hQ
theorem fbands_all (ps : List Pt) : ∀ c ∈ (fcells ps).foldl (gstep []) [], c.v.length ≤ ps.length := fun c hc =>
  (gfold_all (z := ([] : Runs)) (fun _ => True) (fun r : Runs => r.length ≤ ps.length) (fcells ps) [] (fun c hc => by
    obtain ⟨y, _, rfl⟩ := List.mem_map.mp hc
    exact ⟨trivial, trivial, rowR_len ps y⟩) (fun c hc => by cases hc) c hc).2.2
theorem fbands_len (ps : List Pt) : ((fcells ps).foldl (gstep []) []).length ≤ ps.length := by
  have h := gfold_len (z := ([] : Runs)) (fcells ps) []
  have h2 := rowsY_len ps
  rw [List.length_nil, Nat.zero_add] at h
  refine Nat.le_trans h ?_
  unfold fcells
  rw [List.length_map]
  exact h2
theorem form_len {ps : List Pt} (h : ps.length ≤ 4000) : (form ps).length ≤ 16000000 := by
  unfold form flat
  have := len_flatMap (l := (fcells ps).foldl (gstep []) []) (g := fun c => c.v.map fun p => (⟨p.1, c.a, p.2, c.b⟩ : Rc)) (k := 4000) fun c hc => by
    rw [List.length_map]
    exact Nat.le_trans (fbands_all ps c hc) h
  have h2 := fbands_len ps
  exact Nat.le_trans this (by omega)
theorem lform_wp {n : Nat} {d : D} {ps : List Pt} {m : MS} {Q : D × Kd → MS → Prop} (hp : Pts d ps) (hn : ps.Nodup) (hl : ps.length ≤ 4000) (hQ : Q (.lst ((form ps).map Rc.d), .sh) m) : wpx noE (callL (n + 2) 7 [d] m) Q := by
  refine wp_callF (F := d_law_form.F) rfl rfl ?_
  have rw_ : ∀ {y : Int} {m : MS} {Q : D × Kd → MS → Prop}, Q (.lst ((rowR ps y).map pD2), .own) m → wpx noE (callF (gls.map fun p => p.2.d) (defs.map (·.F)) (n + 1) 6 [d, .int y] m) Q := fun q => lruns_wp hp hl q
  generalize callF (gls.map fun p => p.2.d) (defs.map (·.F)) (n + 1) = cf at rw_
  have dl := ddI_len (ps.map (·.2))
  rw [List.length_map] at dl
  have d0 : ddI (ps.map (·.2)) = (ps.map (·.2)).foldl ddS [] := rfl
  have hY : rowsY ps = sortI (ddI (ps.map (·.2))) := rfl
  have hne : ∀ y ∈ rowsY ps, rowR ps y ≠ [] := fun y hy => by
    obtain ⟨x, hx⟩ := mem_rowsY.mp hy
    exact rowR_ne hn hx
  have hYl := rowsY_len ps
  have hB : (fcells ps).foldl (gstep []) [] = ((rowsY ps).map fun y => (⟨y, y + 1, rowR ps y⟩ : Cell Runs)).foldl (gstep []) [] := rfl
  have hBl := fbands_len ps
  have hBv := fbands_all ps
  have hF : form ps = flat ((fcells ps).foldl (gstep []) []) := rfl
  have hFl := form_len hl
  rw [hF] at hQ hFl
  generalize (fcells ps).foldl (gstep []) [] = B at hQ hB hBl hBv hFl
  generalize hdd : ddI (ps.map (·.2)) = dd at dl d0 hY
  (repeat ((conv => whnf); first | refine ⟨_, by first | ((with_reducible show L2.atI _ _ = some _); first | exact atI_0 | exact atI_1 | exact atI_2 | exact atI_3 | exact atI_4 | exact atI_5 | exact atI_6 | exact atI_7) | ((with_reducible show L2.ixN _ _ = some _); first | exact ix_0 | exact ix_1 | exact ix_2 | exact ix_3 | exact ix_4 | exact ix_5 | exact ix_6 | exact ix_7), ?_⟩ | refine ⟨by (first | (show sameM _ _; exact ⟨rfl, rfl⟩) | (show mulOk _ _; unfold mulOk; omega) | (show divOk _; unfold divOk; omega) | (show powOk _ _; unfold powOk; decide) | (show _ ≠ _; omega) | (show isNon _ = true; rfl) | exact len_lit (by rfl) | exact len2_lit (by rfl)), ?_⟩ | refine ⟨true, by decide +kernel, ?_⟩ | refine ⟨false, by decide +kernel, ?_⟩ | refine itv_lst ?_ | refine itv_tup ?_ | refine itv_scr ?_ | refine itv_str ?_ | refine itv_dct ?_)); (try (conv => whnf))
  refine itv_pts hp ?_
  refine ⟨wp_loop (fun ds S m' => m' = m ∧ ∃ (qs : List Pt) (acc : List Int) (c2 : Slot), ds = qs.map pD2 ∧ dd = (qs.map (·.2)).foldl ddS acc ∧ S = [some (d, false), some (.dct false (acc.map sg), true), c2, none, none, none, none, none, none, none]) (fun e ds S m' ⟨hm, qs, acc, c2, hd, hf, hS⟩ => ?_) (fun S m' ⟨hm, qs, acc, c2, hd, hf, hS⟩ => ?_) _ _ _ ⟨rfl, ps, [], _, rfl, d0, rfl⟩⟩
  · cases qs with
    | nil => cases hd
    | cons q qs =>
    cases hd
    subst hm hS
    have hf : dd = (qs.map (·.2)).foldl ddS (ddS acc q.2) := hf
    refine wp_turn ?_
    (repeat ((conv => whnf); first | refine ⟨_, by first | ((with_reducible show L2.atI _ _ = some _); first | exact atI_0 | exact atI_1 | exact atI_2 | exact atI_3 | exact atI_4 | exact atI_5 | exact atI_6 | exact atI_7) | ((with_reducible show L2.ixN _ _ = some _); first | exact ix_0 | exact ix_1 | exact ix_2 | exact ix_3 | exact ix_4 | exact ix_5 | exact ix_6 | exact ix_7), ?_⟩ | refine ⟨by (first | (show sameM _ _; exact ⟨rfl, rfl⟩) | (show mulOk _ _; unfold mulOk; omega) | (show divOk _; unfold divOk; omega) | (show powOk _ _; unfold powOk; decide) | (show _ ≠ _; omega) | (show isNon _ = true; rfl) | exact len_lit (by rfl) | exact len2_lit (by rfl)), ?_⟩ | refine ⟨true, by decide +kernel, ?_⟩ | refine ⟨false, by decide +kernel, ?_⟩ | refine itv_lst ?_ | refine itv_tup ?_ | refine itv_scr ?_ | refine itv_str ?_ | refine itv_dct ?_)); (try (conv => whnf))
    have g1 := ddS_ge (qs.map (·.2)) (ddS acc q.2)
    have g2 : acc.length ≤ (ddS acc q.2).length := ddS_ge [q.2] acc
    rw [← hf] at g1
    refine ⟨by rw [List.length_map]; exact small (by omega), ?_⟩
    exact ⟨rfl, qs, ddS acc q.2, _, rfl, hf, by rw [show addK false (acc.map sg) [q.2] = (ddS acc q.2).map sg from addK_sg acc q.2]; rfl⟩
  subst hm hS
  have e : qs = [] := by
    cases qs with
    | nil => rfl
    | cons _ _ => cases hd
  subst e
  have hf : dd = acc := hf
  subst hf
  have e2 : bltD .sorted [.lst ((dd.map sg).map (keyD false))] m' = some (.lst ((rowsY ps).map D.int), .own) := by
    rw [show (dd.map sg).map (keyD false) = dd.map D.int by rw [List.map_map]; rfl, sorted_ints, hY]
  generalize rowsY ps = Y at e2 hne hYl hB
  (repeat ((conv => whnf); first | refine ⟨_, by first | ((with_reducible show L2.atI _ _ = some _); first | exact atI_0 | exact atI_1 | exact atI_2 | exact atI_3 | exact atI_4 | exact atI_5 | exact atI_6 | exact atI_7) | ((with_reducible show L2.ixN _ _ = some _); first | exact ix_0 | exact ix_1 | exact ix_2 | exact ix_3 | exact ix_4 | exact ix_5 | exact ix_6 | exact ix_7), ?_⟩ | refine ⟨by (first | (show sameM _ _; exact ⟨rfl, rfl⟩) | (show mulOk _ _; unfold mulOk; omega) | (show divOk _; unfold divOk; omega) | (show powOk _ _; unfold powOk; decide) | (show _ ≠ _; omega) | (show isNon _ = true; rfl) | exact len_lit (by rfl) | exact len2_lit (by rfl)), ?_⟩ | refine ⟨true, by decide +kernel, ?_⟩ | refine ⟨false, by decide +kernel, ?_⟩ | refine itv_lst ?_ | refine itv_tup ?_ | refine itv_scr ?_ | refine itv_str ?_ | refine itv_dct ?_)); (try (conv => whnf))
  show optP (bltD .sorted [.lst ((dd.map sg).map (keyD false))] m') _
  rw [e2]
  (repeat ((conv => whnf); first | refine ⟨_, by first | ((with_reducible show L2.atI _ _ = some _); first | exact atI_0 | exact atI_1 | exact atI_2 | exact atI_3 | exact atI_4 | exact atI_5 | exact atI_6 | exact atI_7) | ((with_reducible show L2.ixN _ _ = some _); first | exact ix_0 | exact ix_1 | exact ix_2 | exact ix_3 | exact ix_4 | exact ix_5 | exact ix_6 | exact ix_7), ?_⟩ | refine ⟨by (first | (show sameM _ _; exact ⟨rfl, rfl⟩) | (show mulOk _ _; unfold mulOk; omega) | (show divOk _; unfold divOk; omega) | (show powOk _ _; unfold powOk; decide) | (show _ ≠ _; omega) | (show isNon _ = true; rfl) | exact len_lit (by rfl) | exact len2_lit (by rfl)), ?_⟩ | refine ⟨true, by decide +kernel, ?_⟩ | refine ⟨false, by decide +kernel, ?_⟩ | refine itv_lst ?_ | refine itv_tup ?_ | refine itv_scr ?_ | refine itv_str ?_ | refine itv_dct ?_)); (try (conv => whnf))
  refine ⟨wp_loop (fun ds S m1 => m1 = m' ∧ ∃ (ys : List Int) (acc : List (Cell Runs)) (c2 c4 c5 : Slot), ds = ys.map D.int ∧ (∀ y ∈ ys, rowR ps y ≠ []) ∧ acc.length + ys.length ≤ 4000 ∧ B = (ys.map fun y => (⟨y, y + 1, rowR ps y⟩ : Cell Runs)).foldl (gstep []) acc ∧ S = [some (d, false), some (.dct false (dd.map sg), false), c2, some (.lst (acc.map bandD), true), c4, c5, none, none, none, none]) (fun e ds S m1 ⟨hm, ys, acc, c2, c4, c5, hd, hy, ha, hf, hS⟩ => ?_) (fun S m1 ⟨hm, ys, acc, c2, c4, c5, hd, hy, ha, hf, hS⟩ => ?_) _ _ _ ⟨rfl, Y, [], _, _, _, rfl, hne, by rw [List.length_nil]; omega, hB, rfl⟩⟩
  · cases ys with
    | nil => cases hd
    | cons y ys =>
    cases hd
    subst hm hS
    rw [List.length_cons] at ha
    have ny := hy y List.mem_cons_self
    have hys : ∀ z ∈ ys, rowR ps z ≠ [] := fun z hz => hy z (List.mem_cons_of_mem _ hz)
    have hf : B = (ys.map fun y => (⟨y, y + 1, rowR ps y⟩ : Cell Runs)).foldl (gstep []) (gstep [] acc ⟨y, y + 1, rowR ps y⟩) := hf
    refine wp_turn ?_
    (repeat ((conv => whnf); first | refine ⟨_, by first | ((with_reducible show L2.atI _ _ = some _); first | exact atI_0 | exact atI_1 | exact atI_2 | exact atI_3 | exact atI_4 | exact atI_5 | exact atI_6 | exact atI_7) | ((with_reducible show L2.ixN _ _ = some _); first | exact ix_0 | exact ix_1 | exact ix_2 | exact ix_3 | exact ix_4 | exact ix_5 | exact ix_6 | exact ix_7), ?_⟩ | refine ⟨by (first | (show sameM _ _; exact ⟨rfl, rfl⟩) | (show mulOk _ _; unfold mulOk; omega) | (show divOk _; unfold divOk; omega) | (show powOk _ _; unfold powOk; decide) | (show _ ≠ _; omega) | (show isNon _ = true; rfl) | exact len_lit (by rfl) | exact len2_lit (by rfl)), ?_⟩ | refine ⟨true, by decide +kernel, ?_⟩ | refine ⟨false, by decide +kernel, ?_⟩ | refine itv_lst ?_ | refine itv_tup ?_ | refine itv_scr ?_ | refine itv_str ?_ | refine itv_dct ?_)); (try (conv => whnf))
    refine ⟨rw_ ?_⟩
    rcases List.eq_nil_or_concat acc with rfl | ⟨qs, p, rfl⟩
    · have g0 : gstep [] [] (⟨y, y + 1, rowR ps y⟩ : Cell Runs) = [⟨y, y + 1, rowR ps y⟩] := by unfold gstep; rw [if_neg ny]; rfl
      rw [g0] at hf
      generalize rowR ps y = v at hf ny
      (repeat ((conv => whnf); first | refine ⟨_, by first | ((with_reducible show L2.atI _ _ = some _); first | exact atI_0 | exact atI_1 | exact atI_2 | exact atI_3 | exact atI_4 | exact atI_5 | exact atI_6 | exact atI_7) | ((with_reducible show L2.ixN _ _ = some _); first | exact ix_0 | exact ix_1 | exact ix_2 | exact ix_3 | exact ix_4 | exact ix_5 | exact ix_6 | exact ix_7), ?_⟩ | refine ⟨by (first | (show sameM _ _; exact ⟨rfl, rfl⟩) | (show mulOk _ _; unfold mulOk; omega) | (show divOk _; unfold divOk; omega) | (show powOk _ _; unfold powOk; decide) | (show _ ≠ _; omega) | (show isNon _ = true; rfl) | exact len_lit (by rfl) | exact len2_lit (by rfl)), ?_⟩ | refine ⟨true, by decide +kernel, ?_⟩ | refine ⟨false, by decide +kernel, ?_⟩ | refine itv_lst ?_ | refine itv_tup ?_ | refine itv_scr ?_ | refine itv_str ?_ | refine itv_dct ?_)); (try (conv => whnf))
      refine ⟨small (by show 0 ≤ _; omega), ?_⟩
      (repeat ((conv => whnf); first | refine ⟨_, by first | ((with_reducible show L2.atI _ _ = some _); first | exact atI_0 | exact atI_1 | exact atI_2 | exact atI_3 | exact atI_4 | exact atI_5 | exact atI_6 | exact atI_7) | ((with_reducible show L2.ixN _ _ = some _); first | exact ix_0 | exact ix_1 | exact ix_2 | exact ix_3 | exact ix_4 | exact ix_5 | exact ix_6 | exact ix_7), ?_⟩ | refine ⟨by (first | (show sameM _ _; exact ⟨rfl, rfl⟩) | (show mulOk _ _; unfold mulOk; omega) | (show divOk _; unfold divOk; omega) | (show powOk _ _; unfold powOk; decide) | (show _ ≠ _; omega) | (show isNon _ = true; rfl) | exact len_lit (by rfl) | exact len2_lit (by rfl)), ?_⟩ | refine ⟨true, by decide +kernel, ?_⟩ | refine ⟨false, by decide +kernel, ?_⟩ | refine itv_lst ?_ | refine itv_tup ?_ | refine itv_scr ?_ | refine itv_str ?_ | refine itv_dct ?_)); (try (conv => whnf))
      exact ⟨rfl, ys, [⟨y, y + 1, v⟩], _, _, _, rfl, hys, by show 1 + _ ≤ _; omega, hf, rfl⟩
    · rw [List.concat_eq_append] at hf ha ⊢
      rw [List.length_append, List.length_singleton] at ha
      rw [gstep_cat (c := ⟨y, y + 1, rowR ps y⟩) ny] at hf
      generalize rowR ps y = v at hf ny
      have hf : B = (ys.map fun y => (⟨y, y + 1, rowR ps y⟩ : Cell Runs)).foldl (gstep []) (if p.b = y ∧ p.v = v then qs ++ [⟨p.a, y + 1, v⟩] else qs ++ [p] ++ [⟨y, y + 1, v⟩]) := hf
      have add : ¬ (p.b = y ∧ p.v = v) → (qs ++ [p]).length + (ys.length + 1) ≤ 4000 ∧ B = (ys.map fun y => (⟨y, y + 1, rowR ps y⟩ : Cell Runs)).foldl (gstep []) (qs ++ [p] ++ [⟨y, y + 1, v⟩]) := fun h => by
        rw [if_neg h] at hf
        exact ⟨by rw [List.length_append, List.length_singleton]; omega, hf⟩
      (repeat ((conv => whnf); first | refine ⟨_, by first | ((with_reducible show L2.atI _ _ = some _); first | exact atI_0 | exact atI_1 | exact atI_2 | exact atI_3 | exact atI_4 | exact atI_5 | exact atI_6 | exact atI_7) | ((with_reducible show L2.ixN _ _ = some _); first | exact ix_0 | exact ix_1 | exact ix_2 | exact ix_3 | exact ix_4 | exact ix_5 | exact ix_6 | exact ix_7), ?_⟩ | refine ⟨by (first | (show sameM _ _; exact ⟨rfl, rfl⟩) | (show mulOk _ _; unfold mulOk; omega) | (show divOk _; unfold divOk; omega) | (show powOk _ _; unfold powOk; decide) | (show _ ≠ _; omega) | (show isNon _ = true; rfl) | exact len_lit (by rfl) | exact len2_lit (by rfl)), ?_⟩ | refine ⟨true, by decide +kernel, ?_⟩ | refine ⟨false, by decide +kernel, ?_⟩ | refine itv_lst ?_ | refine itv_tup ?_ | refine itv_scr ?_ | refine itv_str ?_ | refine itv_dct ?_)); (try (conv => whnf))
      refine condP_t (by simp) ?_
      (repeat ((conv => whnf); first | refine ⟨_, by first | ((with_reducible show L2.atI _ _ = some _); first | exact atI_0 | exact atI_1 | exact atI_2 | exact atI_3 | exact atI_4 | exact atI_5 | exact atI_6 | exact atI_7) | ((with_reducible show L2.ixN _ _ = some _); first | exact ix_0 | exact ix_1 | exact ix_2 | exact ix_3 | exact ix_4 | exact ix_5 | exact ix_6 | exact ix_7), ?_⟩ | refine ⟨by (first | (show sameM _ _; exact ⟨rfl, rfl⟩) | (show mulOk _ _; unfold mulOk; omega) | (show divOk _; unfold divOk; omega) | (show powOk _ _; unfold powOk; decide) | (show _ ≠ _; omega) | (show isNon _ = true; rfl) | exact len_lit (by rfl) | exact len2_lit (by rfl)), ?_⟩ | refine ⟨true, by decide +kernel, ?_⟩ | refine ⟨false, by decide +kernel, ?_⟩ | refine itv_lst ?_ | refine itv_tup ?_ | refine itv_scr ?_ | refine itv_str ?_ | refine itv_dct ?_)); (try (conv => whnf))
      refine ⟨_, last_at, ?_⟩
      (repeat ((conv => whnf); first | refine ⟨_, by first | ((with_reducible show L2.atI _ _ = some _); first | exact atI_0 | exact atI_1 | exact atI_2 | exact atI_3 | exact atI_4 | exact atI_5 | exact atI_6 | exact atI_7) | ((with_reducible show L2.ixN _ _ = some _); first | exact ix_0 | exact ix_1 | exact ix_2 | exact ix_3 | exact ix_4 | exact ix_5 | exact ix_6 | exact ix_7), ?_⟩ | refine ⟨by (first | (show sameM _ _; exact ⟨rfl, rfl⟩) | (show mulOk _ _; unfold mulOk; omega) | (show divOk _; unfold divOk; omega) | (show powOk _ _; unfold powOk; decide) | (show _ ≠ _; omega) | (show isNon _ = true; rfl) | exact len_lit (by rfl) | exact len2_lit (by rfl)), ?_⟩ | refine ⟨true, by decide +kernel, ?_⟩ | refine ⟨false, by decide +kernel, ?_⟩ | refine itv_lst ?_ | refine itv_tup ?_ | refine itv_scr ?_ | refine itv_str ?_ | refine itv_dct ?_)); (try (conv => whnf))
      refine condD_of (fun h => ?_) (fun h => ?_)
      · (repeat ((conv => whnf); first | refine ⟨_, by first | ((with_reducible show L2.atI _ _ = some _); first | exact atI_0 | exact atI_1 | exact atI_2 | exact atI_3 | exact atI_4 | exact atI_5 | exact atI_6 | exact atI_7) | ((with_reducible show L2.ixN _ _ = some _); first | exact ix_0 | exact ix_1 | exact ix_2 | exact ix_3 | exact ix_4 | exact ix_5 | exact ix_6 | exact ix_7), ?_⟩ | refine ⟨by (first | (show sameM _ _; exact ⟨rfl, rfl⟩) | (show mulOk _ _; unfold mulOk; omega) | (show divOk _; unfold divOk; omega) | (show powOk _ _; unfold powOk; decide) | (show _ ≠ _; omega) | (show isNon _ = true; rfl) | exact len_lit (by rfl) | exact len2_lit (by rfl)), ?_⟩ | refine ⟨true, by decide +kernel, ?_⟩ | refine ⟨false, by decide +kernel, ?_⟩ | refine itv_lst ?_ | refine itv_tup ?_ | refine itv_scr ?_ | refine itv_str ?_ | refine itv_dct ?_)); (try (conv => whnf))
        refine ⟨_, last_at, ?_⟩
        (repeat ((conv => whnf); first | refine ⟨_, by first | ((with_reducible show L2.atI _ _ = some _); first | exact atI_0 | exact atI_1 | exact atI_2 | exact atI_3 | exact atI_4 | exact atI_5 | exact atI_6 | exact atI_7) | ((with_reducible show L2.ixN _ _ = some _); first | exact ix_0 | exact ix_1 | exact ix_2 | exact ix_3 | exact ix_4 | exact ix_5 | exact ix_6 | exact ix_7), ?_⟩ | refine ⟨by (first | (show sameM _ _; exact ⟨rfl, rfl⟩) | (show mulOk _ _; unfold mulOk; omega) | (show divOk _; unfold divOk; omega) | (show powOk _ _; unfold powOk; decide) | (show _ ≠ _; omega) | (show isNon _ = true; rfl) | exact len_lit (by rfl) | exact len2_lit (by rfl)), ?_⟩ | refine ⟨true, by decide +kernel, ?_⟩ | refine ⟨false, by decide +kernel, ?_⟩ | refine itv_lst ?_ | refine itv_tup ?_ | refine itv_scr ?_ | refine itv_str ?_ | refine itv_dct ?_)); (try (conv => whnf))
        refine ⟨_, eqD_runs p.v v, ?_⟩
        (repeat ((conv => whnf); first | refine ⟨_, by first | ((with_reducible show L2.atI _ _ = some _); first | exact atI_0 | exact atI_1 | exact atI_2 | exact atI_3 | exact atI_4 | exact atI_5 | exact atI_6 | exact atI_7) | ((with_reducible show L2.ixN _ _ = some _); first | exact ix_0 | exact ix_1 | exact ix_2 | exact ix_3 | exact ix_4 | exact ix_5 | exact ix_6 | exact ix_7), ?_⟩ | refine ⟨by (first | (show sameM _ _; exact ⟨rfl, rfl⟩) | (show mulOk _ _; unfold mulOk; omega) | (show divOk _; unfold divOk; omega) | (show powOk _ _; unfold powOk; decide) | (show _ ≠ _; omega) | (show isNon _ = true; rfl) | exact len_lit (by rfl) | exact len2_lit (by rfl)), ?_⟩ | refine ⟨true, by decide +kernel, ?_⟩ | refine ⟨false, by decide +kernel, ?_⟩ | refine itv_lst ?_ | refine itv_tup ?_ | refine itv_scr ?_ | refine itv_str ?_ | refine itv_dct ?_)); (try (conv => whnf))
        refine condD_of (fun h2 => ?_) (fun h2 => ?_)
        · rw [if_pos ⟨h, h2⟩] at hf
          (repeat ((conv => whnf); first | refine ⟨_, by first | ((with_reducible show L2.atI _ _ = some _); first | exact atI_0 | exact atI_1 | exact atI_2 | exact atI_3 | exact atI_4 | exact atI_5 | exact atI_6 | exact atI_7) | ((with_reducible show L2.ixN _ _ = some _); first | exact ix_0 | exact ix_1 | exact ix_2 | exact ix_3 | exact ix_4 | exact ix_5 | exact ix_6 | exact ix_7), ?_⟩ | refine ⟨by (first | (show sameM _ _; exact ⟨rfl, rfl⟩) | (show mulOk _ _; unfold mulOk; omega) | (show divOk _; unfold divOk; omega) | (show powOk _ _; unfold powOk; decide) | (show _ ≠ _; omega) | (show isNon _ = true; rfl) | exact len_lit (by rfl) | exact len2_lit (by rfl)), ?_⟩ | refine ⟨true, by decide +kernel, ?_⟩ | refine ⟨false, by decide +kernel, ?_⟩ | refine itv_lst ?_ | refine itv_tup ?_ | refine itv_scr ?_ | refine itv_str ?_ | refine itv_dct ?_)); (try (conv => whnf))
          refine ⟨_, last_at, ?_⟩
          (repeat ((conv => whnf); first | refine ⟨_, by first | ((with_reducible show L2.atI _ _ = some _); first | exact atI_0 | exact atI_1 | exact atI_2 | exact atI_3 | exact atI_4 | exact atI_5 | exact atI_6 | exact atI_7) | ((with_reducible show L2.ixN _ _ = some _); first | exact ix_0 | exact ix_1 | exact ix_2 | exact ix_3 | exact ix_4 | exact ix_5 | exact ix_6 | exact ix_7), ?_⟩ | refine ⟨by (first | (show sameM _ _; exact ⟨rfl, rfl⟩) | (show mulOk _ _; unfold mulOk; omega) | (show divOk _; unfold divOk; omega) | (show powOk _ _; unfold powOk; decide) | (show _ ≠ _; omega) | (show isNon _ = true; rfl) | exact len_lit (by rfl) | exact len2_lit (by rfl)), ?_⟩ | refine ⟨true, by decide +kernel, ?_⟩ | refine ⟨false, by decide +kernel, ?_⟩ | refine itv_lst ?_ | refine itv_tup ?_ | refine itv_scr ?_ | refine itv_str ?_ | refine itv_dct ?_)); (try (conv => whnf))
          refine ⟨_, last_ix, ?_⟩
          rw [set_last]
          (repeat ((conv => whnf); first | refine ⟨_, by first | ((with_reducible show L2.atI _ _ = some _); first | exact atI_0 | exact atI_1 | exact atI_2 | exact atI_3 | exact atI_4 | exact atI_5 | exact atI_6 | exact atI_7) | ((with_reducible show L2.ixN _ _ = some _); first | exact ix_0 | exact ix_1 | exact ix_2 | exact ix_3 | exact ix_4 | exact ix_5 | exact ix_6 | exact ix_7), ?_⟩ | refine ⟨by (first | (show sameM _ _; exact ⟨rfl, rfl⟩) | (show mulOk _ _; unfold mulOk; omega) | (show divOk _; unfold divOk; omega) | (show powOk _ _; unfold powOk; decide) | (show _ ≠ _; omega) | (show isNon _ = true; rfl) | exact len_lit (by rfl) | exact len2_lit (by rfl)), ?_⟩ | refine ⟨true, by decide +kernel, ?_⟩ | refine ⟨false, by decide +kernel, ?_⟩ | refine itv_lst ?_ | refine itv_tup ?_ | refine itv_scr ?_ | refine itv_str ?_ | refine itv_dct ?_)); (try (conv => whnf))
          exact ⟨rfl, ys, qs ++ [⟨p.a, y + 1, v⟩], _, _, _, rfl, hys, by rw [List.length_append, List.length_singleton]; omega, hf, by rw [List.map_append (l₁ := qs) (l₂ := [⟨p.a, y + 1, v⟩])]; rfl⟩
        · obtain ⟨hl2, hf⟩ := add fun z => h2 z.2
          (repeat ((conv => whnf); first | refine ⟨_, by first | ((with_reducible show L2.atI _ _ = some _); first | exact atI_0 | exact atI_1 | exact atI_2 | exact atI_3 | exact atI_4 | exact atI_5 | exact atI_6 | exact atI_7) | ((with_reducible show L2.ixN _ _ = some _); first | exact ix_0 | exact ix_1 | exact ix_2 | exact ix_3 | exact ix_4 | exact ix_5 | exact ix_6 | exact ix_7), ?_⟩ | refine ⟨by (first | (show sameM _ _; exact ⟨rfl, rfl⟩) | (show mulOk _ _; unfold mulOk; omega) | (show divOk _; unfold divOk; omega) | (show powOk _ _; unfold powOk; decide) | (show _ ≠ _; omega) | (show isNon _ = true; rfl) | exact len_lit (by rfl) | exact len2_lit (by rfl)), ?_⟩ | refine ⟨true, by decide +kernel, ?_⟩ | refine ⟨false, by decide +kernel, ?_⟩ | refine itv_lst ?_ | refine itv_tup ?_ | refine itv_scr ?_ | refine itv_str ?_ | refine itv_dct ?_)); (try (conv => whnf))
          refine ⟨by rw [lenm]; exact small (by omega), ?_⟩
          (repeat ((conv => whnf); first | refine ⟨_, by first | ((with_reducible show L2.atI _ _ = some _); first | exact atI_0 | exact atI_1 | exact atI_2 | exact atI_3 | exact atI_4 | exact atI_5 | exact atI_6 | exact atI_7) | ((with_reducible show L2.ixN _ _ = some _); first | exact ix_0 | exact ix_1 | exact ix_2 | exact ix_3 | exact ix_4 | exact ix_5 | exact ix_6 | exact ix_7), ?_⟩ | refine ⟨by (first | (show sameM _ _; exact ⟨rfl, rfl⟩) | (show mulOk _ _; unfold mulOk; omega) | (show divOk _; unfold divOk; omega) | (show powOk _ _; unfold powOk; decide) | (show _ ≠ _; omega) | (show isNon _ = true; rfl) | exact len_lit (by rfl) | exact len2_lit (by rfl)), ?_⟩ | refine ⟨true, by decide +kernel, ?_⟩ | refine ⟨false, by decide +kernel, ?_⟩ | refine itv_lst ?_ | refine itv_tup ?_ | refine itv_scr ?_ | refine itv_str ?_ | refine itv_dct ?_)); (try (conv => whnf))
          exact ⟨rfl, ys, qs ++ [p] ++ [⟨y, y + 1, v⟩], _, _, _, rfl, hys, by rw [List.length_append (as := qs ++ [p]), List.length_singleton]; omega, hf, by rw [List.map_append (l₁ := qs ++ [p])]; rfl⟩
      · obtain ⟨hl2, hf⟩ := add fun z => h z.1
        (repeat ((conv => whnf); first | refine ⟨_, by first | ((with_reducible show L2.atI _ _ = some _); first | exact atI_0 | exact atI_1 | exact atI_2 | exact atI_3 | exact atI_4 | exact atI_5 | exact atI_6 | exact atI_7) | ((with_reducible show L2.ixN _ _ = some _); first | exact ix_0 | exact ix_1 | exact ix_2 | exact ix_3 | exact ix_4 | exact ix_5 | exact ix_6 | exact ix_7), ?_⟩ | refine ⟨by (first | (show sameM _ _; exact ⟨rfl, rfl⟩) | (show mulOk _ _; unfold mulOk; omega) | (show divOk _; unfold divOk; omega) | (show powOk _ _; unfold powOk; decide) | (show _ ≠ _; omega) | (show isNon _ = true; rfl) | exact len_lit (by rfl) | exact len2_lit (by rfl)), ?_⟩ | refine ⟨true, by decide +kernel, ?_⟩ | refine ⟨false, by decide +kernel, ?_⟩ | refine itv_lst ?_ | refine itv_tup ?_ | refine itv_scr ?_ | refine itv_str ?_ | refine itv_dct ?_)); (try (conv => whnf))
        refine ⟨by rw [lenm]; exact small (by omega), ?_⟩
        (repeat ((conv => whnf); first | refine ⟨_, by first | ((with_reducible show L2.atI _ _ = some _); first | exact atI_0 | exact atI_1 | exact atI_2 | exact atI_3 | exact atI_4 | exact atI_5 | exact atI_6 | exact atI_7) | ((with_reducible show L2.ixN _ _ = some _); first | exact ix_0 | exact ix_1 | exact ix_2 | exact ix_3 | exact ix_4 | exact ix_5 | exact ix_6 | exact ix_7), ?_⟩ | refine ⟨by (first | (show sameM _ _; exact ⟨rfl, rfl⟩) | (show mulOk _ _; unfold mulOk; omega) | (show divOk _; unfold divOk; omega) | (show powOk _ _; unfold powOk; decide) | (show _ ≠ _; omega) | (show isNon _ = true; rfl) | exact len_lit (by rfl) | exact len2_lit (by rfl)), ?_⟩ | refine ⟨true, by decide +kernel, ?_⟩ | refine ⟨false, by decide +kernel, ?_⟩ | refine itv_lst ?_ | refine itv_tup ?_ | refine itv_scr ?_ | refine itv_str ?_ | refine itv_dct ?_)); (try (conv => whnf))
        exact ⟨rfl, ys, qs ++ [p] ++ [⟨y, y + 1, v⟩], _, _, _, rfl, hys, by rw [List.length_append (as := qs ++ [p]), List.length_singleton]; omega, hf, by rw [List.map_append (l₁ := qs ++ [p])]; rfl⟩
  subst hm hS
  have e : ys = [] := by
    cases ys with
    | nil => rfl
    | cons _ _ => cases hd
  subst e
  have hf : B = acc := hf
  subst hf
  (repeat ((conv => whnf); first | refine ⟨_, by first | ((with_reducible show L2.atI _ _ = some _); first | exact atI_0 | exact atI_1 | exact atI_2 | exact atI_3 | exact atI_4 | exact atI_5 | exact atI_6 | exact atI_7) | ((with_reducible show L2.ixN _ _ = some _); first | exact ix_0 | exact ix_1 | exact ix_2 | exact ix_3 | exact ix_4 | exact ix_5 | exact ix_6 | exact ix_7), ?_⟩ | refine ⟨by (first | (show sameM _ _; exact ⟨rfl, rfl⟩) | (show mulOk _ _; unfold mulOk; omega) | (show divOk _; unfold divOk; omega) | (show powOk _ _; unfold powOk; decide) | (show _ ≠ _; omega) | (show isNon _ = true; rfl) | exact len_lit (by rfl) | exact len2_lit (by rfl)), ?_⟩ | refine ⟨true, by decide +kernel, ?_⟩ | refine ⟨false, by decide +kernel, ?_⟩ | refine itv_lst ?_ | refine itv_tup ?_ | refine itv_scr ?_ | refine itv_str ?_ | refine itv_dct ?_)); (try (conv => whnf))
  refine ⟨wp_loop (fun ds S m' => m' = m1 ∧ ∃ (cs done : List (Cell Runs)) (c5 c7 c8 c9 : Slot), ds = cs.map bandD ∧ B = done ++ cs ∧ S = [some (d, false), some (.dct false (dd.map sg), false), c2, some (.lst (B.map bandD), false), c4, c5, some (.lst ((flat done).map Rc.d), false), c7, c8, c9]) (fun e ds S m' ⟨hm, cs, done, c5, c7, c8, c9, hd, hf, hS⟩ => ?_) (fun S m' ⟨hm, cs, done, c5, c7, c8, c9, hd, hf, hS⟩ => ?_) _ _ _ ⟨rfl, B, [], _, _, _, _, rfl, rfl, rfl⟩⟩
  · cases cs with
    | nil => cases hd
    | cons c cs =>
    cases hd
    subst hm hS
    have e3 : mapR (elR (gls.map fun p => p.2.d) cf (.tup (.cons (.idx (.var 9) (.int 0)) (.cons (.var 7) (.cons (.idx (.var 9) (.int 1)) (.cons (.var 8) (.nil)))))) .tru (.tn 9) [9] [some (d, false), some (.dct false (dd.map sg), false), c2, some (.lst (B.map bandD), false), c4, some (.lst (c.v.map pD2), false), some (.lst ((flat done).map Rc.d), false), some (.int c.a, false), some (.int c.b, false), c9]) (c.v.map pD2) m' = .ok ((c.v.map fun p => (⟨p.1, c.a, p.2, c.b⟩ : Rc)).map Rc.d) m' := by
      rw [List.map_map]
      exact mapR_map pD2 _ c.v fun p _ => eq_of_wp (wp_el (by
        (repeat ((conv => whnf); first | refine ⟨_, by first | ((with_reducible show L2.atI _ _ = some _); first | exact atI_0 | exact atI_1 | exact atI_2 | exact atI_3 | exact atI_4 | exact atI_5 | exact atI_6 | exact atI_7) | ((with_reducible show L2.ixN _ _ = some _); first | exact ix_0 | exact ix_1 | exact ix_2 | exact ix_3 | exact ix_4 | exact ix_5 | exact ix_6 | exact ix_7), ?_⟩ | refine ⟨by (first | (show sameM _ _; exact ⟨rfl, rfl⟩) | (show mulOk _ _; unfold mulOk; omega) | (show divOk _; unfold divOk; omega) | (show powOk _ _; unfold powOk; decide) | (show _ ≠ _; omega) | (show isNon _ = true; rfl) | exact len_lit (by rfl) | exact len2_lit (by rfl)), ?_⟩ | refine ⟨true, by decide +kernel, ?_⟩ | refine ⟨false, by decide +kernel, ?_⟩ | refine itv_lst ?_ | refine itv_tup ?_ | refine itv_scr ?_ | refine itv_str ?_ | refine itv_dct ?_)); (try (conv => whnf))
        exact ⟨rfl, rfl⟩))
    have e4 : flat (done ++ [c]) = flat done ++ c.v.map fun p => (⟨p.1, c.a, p.2, c.b⟩ : Rc) := by
      unfold flat
      rw [List.flatMap_append]
      simp
    have e5 : (flat B).length = (flat done).length + ((c.v.map fun p => (⟨p.1, c.a, p.2, c.b⟩ : Rc)).length + (flat cs).length) := by
      rw [hf]
      unfold flat
      rw [List.flatMap_append, List.flatMap_cons, List.length_append, List.length_append]
    refine wp_turn ?_
    (repeat ((conv => whnf); first | refine ⟨_, by first | ((with_reducible show L2.atI _ _ = some _); first | exact atI_0 | exact atI_1 | exact atI_2 | exact atI_3 | exact atI_4 | exact atI_5 | exact atI_6 | exact atI_7) | ((with_reducible show L2.ixN _ _ = some _); first | exact ix_0 | exact ix_1 | exact ix_2 | exact ix_3 | exact ix_4 | exact ix_5 | exact ix_6 | exact ix_7), ?_⟩ | refine ⟨by (first | (show sameM _ _; exact ⟨rfl, rfl⟩) | (show mulOk _ _; unfold mulOk; omega) | (show divOk _; unfold divOk; omega) | (show powOk _ _; unfold powOk; decide) | (show _ ≠ _; omega) | (show isNon _ = true; rfl) | exact len_lit (by rfl) | exact len2_lit (by rfl)), ?_⟩ | refine ⟨true, by decide +kernel, ?_⟩ | refine ⟨false, by decide +kernel, ?_⟩ | refine itv_lst ?_ | refine itv_tup ?_ | refine itv_scr ?_ | refine itv_str ?_ | refine itv_dct ?_)); (try (conv => whnf))
    refine ⟨wp_of e3 ?_⟩
    (repeat ((conv => whnf); first | refine ⟨_, by first | ((with_reducible show L2.atI _ _ = some _); first | exact atI_0 | exact atI_1 | exact atI_2 | exact atI_3 | exact atI_4 | exact atI_5 | exact atI_6 | exact atI_7) | ((with_reducible show L2.ixN _ _ = some _); first | exact ix_0 | exact ix_1 | exact ix_2 | exact ix_3 | exact ix_4 | exact ix_5 | exact ix_6 | exact ix_7), ?_⟩ | refine ⟨by (first | (show sameM _ _; exact ⟨rfl, rfl⟩) | (show mulOk _ _; unfold mulOk; omega) | (show divOk _; unfold divOk; omega) | (show powOk _ _; unfold powOk; decide) | (show _ ≠ _; omega) | (show isNon _ = true; rfl) | exact len_lit (by rfl) | exact len2_lit (by rfl)), ?_⟩ | refine ⟨true, by decide +kernel, ?_⟩ | refine ⟨false, by decide +kernel, ?_⟩ | refine itv_lst ?_ | refine itv_tup ?_ | refine itv_scr ?_ | refine itv_str ?_ | refine itv_dct ?_)); (try (conv => whnf))
    refine ⟨by rw [lenm, lenm]; exact Nat.le_of_lt (small (by omega)), ?_⟩
    (repeat ((conv => whnf); first | refine ⟨_, by first | ((with_reducible show L2.atI _ _ = some _); first | exact atI_0 | exact atI_1 | exact atI_2 | exact atI_3 | exact atI_4 | exact atI_5 | exact atI_6 | exact atI_7) | ((with_reducible show L2.ixN _ _ = some _); first | exact ix_0 | exact ix_1 | exact ix_2 | exact ix_3 | exact ix_4 | exact ix_5 | exact ix_6 | exact ix_7), ?_⟩ | refine ⟨by (first | (show sameM _ _; exact ⟨rfl, rfl⟩) | (show mulOk _ _; unfold mulOk; omega) | (show divOk _; unfold divOk; omega) | (show powOk _ _; unfold powOk; decide) | (show _ ≠ _; omega) | (show isNon _ = true; rfl) | exact len_lit (by rfl) | exact len2_lit (by rfl)), ?_⟩ | refine ⟨true, by decide +kernel, ?_⟩ | refine ⟨false, by decide +kernel, ?_⟩ | refine itv_lst ?_ | refine itv_tup ?_ | refine itv_scr ?_ | refine itv_str ?_ | refine itv_dct ?_)); (try (conv => whnf))
    exact ⟨rfl, cs, done ++ [c], _, _, _, _, rfl, by rw [List.append_assoc]; exact hf, by rw [e4, List.map_append]; rfl⟩
  · subst hm hS
    have e : cs = [] := by
      cases cs with
      | nil => rfl
      | cons _ _ => cases hd
    subst e
    rw [List.append_nil] at hf
    subst hf
    (repeat ((conv => whnf); first | refine ⟨_, by first | ((with_reducible show L2.atI _ _ = some _); first | exact atI_0 | exact atI_1 | exact atI_2 | exact atI_3 | exact atI_4 | exact atI_5 | exact atI_6 | exact atI_7) | ((with_reducible show L2.ixN _ _ = some _); first | exact ix_0 | exact ix_1 | exact ix_2 | exact ix_3 | exact ix_4 | exact ix_5 | exact ix_6 | exact ix_7), ?_⟩ | refine ⟨by (first | (show sameM _ _; exact ⟨rfl, rfl⟩) | (show mulOk _ _; unfold mulOk; omega) | (show divOk _; unfold divOk; omega) | (show powOk _ _; unfold powOk; decide) | (show _ ≠ _; omega) | (show isNon _ = true; rfl) | exact len_lit (by rfl) | exact len2_lit (by rfl)), ?_⟩ | refine ⟨true, by decide +kernel, ?_⟩ | refine ⟨false, by decide +kernel, ?_⟩ | refine itv_lst ?_ | refine itv_tup ?_ | refine itv_scr ?_ | refine itv_str ?_ | refine itv_dct ?_)); (try (conv => whnf))
    exact hQ
/-! ### drawn rectangles -/
theorem lrect_wp {n : Nat} {s : Int} {m : MS} {Q : D × Kd → MS → Prop} (hD : Deck m) (s0 : 0 < s) (s1 : s ≤ 14) (s2 : 3 ≤ s) (hQ : ∀ c m', Rok c → (-3 ≤ c.l ∧ c.r ≤ 43 ∧ -3 ≤ c.t ∧ c.b ≤ 43 ∧ c.r - c.l ≤ 14 ∧ c.b - c.t ≤ 14) → Deck m' → Q (Rc.d c, .sh) m') : wpx noE (callL (n + 2) 3 [.ref 0, .int s] m) Q := by
  refine wp_callF (F := d_law_rectangle.F) rfl rfl ?_
  have dw : ∀ {b : Int} {m : MS} {Q : D × Kd → MS → Prop}, Deck m → 0 < b → b < 1073741824 → (∀ v m', 0 ≤ v → v < b → Deck m' → Q (.int v, .sh) m') → wpx noE (callF (gls.map fun p => p.2.d) (defs.map (·.F)) (n + 1) 2 [.ref 0, .int b] m) Q := fun h1 h2 h3 => draw_wp rfl h1 h2 h3
  generalize callF (gls.map fun p => p.2.d) (defs.map (·.F)) (n + 1) = cf at dw
  (repeat ((conv => whnf); first | refine ⟨_, by first | ((with_reducible show L2.atI _ _ = some _); first | exact atI_0 | exact atI_1 | exact atI_2 | exact atI_3 | exact atI_4 | exact atI_5 | exact atI_6 | exact atI_7) | ((with_reducible show L2.ixN _ _ = some _); first | exact ix_0 | exact ix_1 | exact ix_2 | exact ix_3 | exact ix_4 | exact ix_5 | exact ix_6 | exact ix_7), ?_⟩ | refine ⟨by (first | (show sameM _ _; exact ⟨rfl, rfl⟩) | (show mulOk _ _; unfold mulOk; omega) | (show divOk _; unfold divOk; omega) | (show powOk _ _; unfold powOk; decide) | (show _ ≠ _; omega) | (show isNon _ = true; rfl) | exact len_lit (by rfl) | exact len2_lit (by rfl)), ?_⟩ | refine ⟨true, by decide +kernel, ?_⟩ | refine ⟨false, by decide +kernel, ?_⟩ | refine itv_lst ?_ | refine itv_tup ?_ | refine itv_scr ?_ | refine itv_str ?_ | refine itv_dct ?_)); (try (conv => whnf))
  refine ⟨dw hD s0 (by omega) fun l m l0 l1 hD => ?_⟩
  (repeat ((conv => whnf); first | refine ⟨_, by first | ((with_reducible show L2.atI _ _ = some _); first | exact atI_0 | exact atI_1 | exact atI_2 | exact atI_3 | exact atI_4 | exact atI_5 | exact atI_6 | exact atI_7) | ((with_reducible show L2.ixN _ _ = some _); first | exact ix_0 | exact ix_1 | exact ix_2 | exact ix_3 | exact ix_4 | exact ix_5 | exact ix_6 | exact ix_7), ?_⟩ | refine ⟨by (first | (show sameM _ _; exact ⟨rfl, rfl⟩) | (show mulOk _ _; unfold mulOk; omega) | (show divOk _; unfold divOk; omega) | (show powOk _ _; unfold powOk; decide) | (show _ ≠ _; omega) | (show isNon _ = true; rfl) | exact len_lit (by rfl) | exact len2_lit (by rfl)), ?_⟩ | refine ⟨true, by decide +kernel, ?_⟩ | refine ⟨false, by decide +kernel, ?_⟩ | refine itv_lst ?_ | refine itv_tup ?_ | refine itv_scr ?_ | refine itv_str ?_ | refine itv_dct ?_)); (try (conv => whnf))
  refine ⟨dw hD s0 (by omega) fun t m t0 t1 hD => ?_⟩
  (repeat ((conv => whnf); first | refine ⟨_, by first | ((with_reducible show L2.atI _ _ = some _); first | exact atI_0 | exact atI_1 | exact atI_2 | exact atI_3 | exact atI_4 | exact atI_5 | exact atI_6 | exact atI_7) | ((with_reducible show L2.ixN _ _ = some _); first | exact ix_0 | exact ix_1 | exact ix_2 | exact ix_3 | exact ix_4 | exact ix_5 | exact ix_6 | exact ix_7), ?_⟩ | refine ⟨by (first | (show sameM _ _; exact ⟨rfl, rfl⟩) | (show mulOk _ _; unfold mulOk; omega) | (show divOk _; unfold divOk; omega) | (show powOk _ _; unfold powOk; decide) | (show _ ≠ _; omega) | (show isNon _ = true; rfl) | exact len_lit (by rfl) | exact len2_lit (by rfl)), ?_⟩ | refine ⟨true, by decide +kernel, ?_⟩ | refine ⟨false, by decide +kernel, ?_⟩ | refine itv_lst ?_ | refine itv_tup ?_ | refine itv_scr ?_ | refine itv_str ?_ | refine itv_dct ?_)); (try (conv => whnf))
  refine ⟨dw hD (by decide) (by decide) fun a m a0 a1 hD => ?_⟩
  (repeat ((conv => whnf); first | refine ⟨_, by first | ((with_reducible show L2.atI _ _ = some _); first | exact atI_0 | exact atI_1 | exact atI_2 | exact atI_3 | exact atI_4 | exact atI_5 | exact atI_6 | exact atI_7) | ((with_reducible show L2.ixN _ _ = some _); first | exact ix_0 | exact ix_1 | exact ix_2 | exact ix_3 | exact ix_4 | exact ix_5 | exact ix_6 | exact ix_7), ?_⟩ | refine ⟨by (first | (show sameM _ _; exact ⟨rfl, rfl⟩) | (show mulOk _ _; unfold mulOk; omega) | (show divOk _; unfold divOk; omega) | (show powOk _ _; unfold powOk; decide) | (show _ ≠ _; omega) | (show isNon _ = true; rfl) | exact len_lit (by rfl) | exact len2_lit (by rfl)), ?_⟩ | refine ⟨true, by decide +kernel, ?_⟩ | refine ⟨false, by decide +kernel, ?_⟩ | refine itv_lst ?_ | refine itv_tup ?_ | refine itv_scr ?_ | refine itv_str ?_ | refine itv_dct ?_)); (try (conv => whnf))
  refine ⟨dw hD s0 (by omega) fun b m b0 b1 hD => ?_⟩
  (repeat ((conv => whnf); first | refine ⟨_, by first | ((with_reducible show L2.atI _ _ = some _); first | exact atI_0 | exact atI_1 | exact atI_2 | exact atI_3 | exact atI_4 | exact atI_5 | exact atI_6 | exact atI_7) | ((with_reducible show L2.ixN _ _ = some _); first | exact ix_0 | exact ix_1 | exact ix_2 | exact ix_3 | exact ix_4 | exact ix_5 | exact ix_6 | exact ix_7), ?_⟩ | refine ⟨by (first | (show sameM _ _; exact ⟨rfl, rfl⟩) | (show mulOk _ _; unfold mulOk; omega) | (show divOk _; unfold divOk; omega) | (show powOk _ _; unfold powOk; decide) | (show _ ≠ _; omega) | (show isNon _ = true; rfl) | exact len_lit (by rfl) | exact len2_lit (by rfl)), ?_⟩ | refine ⟨true, by decide +kernel, ?_⟩ | refine ⟨false, by decide +kernel, ?_⟩ | refine itv_lst ?_ | refine itv_tup ?_ | refine itv_scr ?_ | refine itv_str ?_ | refine itv_dct ?_)); (try (conv => whnf))
  refine ⟨dw hD (by decide) (by decide) fun k m k0 k1 hD => ?_⟩
  (repeat ((conv => whnf); first | refine ⟨_, by first | ((with_reducible show L2.atI _ _ = some _); first | exact atI_0 | exact atI_1 | exact atI_2 | exact atI_3 | exact atI_4 | exact atI_5 | exact atI_6 | exact atI_7) | ((with_reducible show L2.ixN _ _ = some _); first | exact ix_0 | exact ix_1 | exact ix_2 | exact ix_3 | exact ix_4 | exact ix_5 | exact ix_6 | exact ix_7), ?_⟩ | refine ⟨by (first | (show sameM _ _; exact ⟨rfl, rfl⟩) | (show mulOk _ _; unfold mulOk; omega) | (show divOk _; unfold divOk; omega) | (show powOk _ _; unfold powOk; decide) | (show _ ≠ _; omega) | (show isNon _ = true; rfl) | exact len_lit (by rfl) | exact len2_lit (by rfl)), ?_⟩ | refine ⟨true, by decide +kernel, ?_⟩ | refine ⟨false, by decide +kernel, ?_⟩ | refine itv_lst ?_ | refine itv_tup ?_ | refine itv_scr ?_ | refine itv_str ?_ | refine itv_dct ?_)); (try (conv => whnf))
  obtain ⟨w, hw, ew⟩ := atI_ints2 (xs := [a, b]) k0 k1
  refine ⟨_, ew, ?_⟩
  simp only [List.mem_cons, List.not_mem_nil, or_false] at hw
  (repeat ((conv => whnf); first | refine ⟨_, by first | ((with_reducible show L2.atI _ _ = some _); first | exact atI_0 | exact atI_1 | exact atI_2 | exact atI_3 | exact atI_4 | exact atI_5 | exact atI_6 | exact atI_7) | ((with_reducible show L2.ixN _ _ = some _); first | exact ix_0 | exact ix_1 | exact ix_2 | exact ix_3 | exact ix_4 | exact ix_5 | exact ix_6 | exact ix_7), ?_⟩ | refine ⟨by (first | (show sameM _ _; exact ⟨rfl, rfl⟩) | (show mulOk _ _; unfold mulOk; omega) | (show divOk _; unfold divOk; omega) | (show powOk _ _; unfold powOk; decide) | (show _ ≠ _; omega) | (show isNon _ = true; rfl) | exact len_lit (by rfl) | exact len2_lit (by rfl)), ?_⟩ | refine ⟨true, by decide +kernel, ?_⟩ | refine ⟨false, by decide +kernel, ?_⟩ | refine itv_lst ?_ | refine itv_tup ?_ | refine itv_scr ?_ | refine itv_str ?_ | refine itv_dct ?_)); (try (conv => whnf))
  refine ⟨dw hD (by decide) (by decide) fun a' m a'0 a'1 hD => ?_⟩
  (repeat ((conv => whnf); first | refine ⟨_, by first | ((with_reducible show L2.atI _ _ = some _); first | exact atI_0 | exact atI_1 | exact atI_2 | exact atI_3 | exact atI_4 | exact atI_5 | exact atI_6 | exact atI_7) | ((with_reducible show L2.ixN _ _ = some _); first | exact ix_0 | exact ix_1 | exact ix_2 | exact ix_3 | exact ix_4 | exact ix_5 | exact ix_6 | exact ix_7), ?_⟩ | refine ⟨by (first | (show sameM _ _; exact ⟨rfl, rfl⟩) | (show mulOk _ _; unfold mulOk; omega) | (show divOk _; unfold divOk; omega) | (show powOk _ _; unfold powOk; decide) | (show _ ≠ _; omega) | (show isNon _ = true; rfl) | exact len_lit (by rfl) | exact len2_lit (by rfl)), ?_⟩ | refine ⟨true, by decide +kernel, ?_⟩ | refine ⟨false, by decide +kernel, ?_⟩ | refine itv_lst ?_ | refine itv_tup ?_ | refine itv_scr ?_ | refine itv_str ?_ | refine itv_dct ?_)); (try (conv => whnf))
  refine ⟨dw hD s0 (by omega) fun b' m b'0 b'1 hD => ?_⟩
  (repeat ((conv => whnf); first | refine ⟨_, by first | ((with_reducible show L2.atI _ _ = some _); first | exact atI_0 | exact atI_1 | exact atI_2 | exact atI_3 | exact atI_4 | exact atI_5 | exact atI_6 | exact atI_7) | ((with_reducible show L2.ixN _ _ = some _); first | exact ix_0 | exact ix_1 | exact ix_2 | exact ix_3 | exact ix_4 | exact ix_5 | exact ix_6 | exact ix_7), ?_⟩ | refine ⟨by (first | (show sameM _ _; exact ⟨rfl, rfl⟩) | (show mulOk _ _; unfold mulOk; omega) | (show divOk _; unfold divOk; omega) | (show powOk _ _; unfold powOk; decide) | (show _ ≠ _; omega) | (show isNon _ = true; rfl) | exact len_lit (by rfl) | exact len2_lit (by rfl)), ?_⟩ | refine ⟨true, by decide +kernel, ?_⟩ | refine ⟨false, by decide +kernel, ?_⟩ | refine itv_lst ?_ | refine itv_tup ?_ | refine itv_scr ?_ | refine itv_str ?_ | refine itv_dct ?_)); (try (conv => whnf))
  refine ⟨dw hD (by decide) (by decide) fun k' m k'0 k'1 hD => ?_⟩
  (repeat ((conv => whnf); first | refine ⟨_, by first | ((with_reducible show L2.atI _ _ = some _); first | exact atI_0 | exact atI_1 | exact atI_2 | exact atI_3 | exact atI_4 | exact atI_5 | exact atI_6 | exact atI_7) | ((with_reducible show L2.ixN _ _ = some _); first | exact ix_0 | exact ix_1 | exact ix_2 | exact ix_3 | exact ix_4 | exact ix_5 | exact ix_6 | exact ix_7), ?_⟩ | refine ⟨by (first | (show sameM _ _; exact ⟨rfl, rfl⟩) | (show mulOk _ _; unfold mulOk; omega) | (show divOk _; unfold divOk; omega) | (show powOk _ _; unfold powOk; decide) | (show _ ≠ _; omega) | (show isNon _ = true; rfl) | exact len_lit (by rfl) | exact len2_lit (by rfl)), ?_⟩ | refine ⟨true, by decide +kernel, ?_⟩ | refine ⟨false, by decide +kernel, ?_⟩ | refine itv_lst ?_ | refine itv_tup ?_ | refine itv_scr ?_ | refine itv_str ?_ | refine itv_dct ?_)); (try (conv => whnf))
  obtain ⟨h, hh, eh⟩ := atI_ints2 (xs := [a', b']) k'0 k'1
  refine ⟨_, eh, ?_⟩
  simp only [List.mem_cons, List.not_mem_nil, or_false] at hh
  (repeat ((conv => whnf); first | refine ⟨_, by first | ((with_reducible show L2.atI _ _ = some _); first | exact atI_0 | exact atI_1 | exact atI_2 | exact atI_3 | exact atI_4 | exact atI_5 | exact atI_6 | exact atI_7) | ((with_reducible show L2.ixN _ _ = some _); first | exact ix_0 | exact ix_1 | exact ix_2 | exact ix_3 | exact ix_4 | exact ix_5 | exact ix_6 | exact ix_7), ?_⟩ | refine ⟨by (first | (show sameM _ _; exact ⟨rfl, rfl⟩) | (show mulOk _ _; unfold mulOk; omega) | (show divOk _; unfold divOk; omega) | (show powOk _ _; unfold powOk; decide) | (show _ ≠ _; omega) | (show isNon _ = true; rfl) | exact len_lit (by rfl) | exact len2_lit (by rfl)), ?_⟩ | refine ⟨true, by decide +kernel, ?_⟩ | refine ⟨false, by decide +kernel, ?_⟩ | refine itv_lst ?_ | refine itv_tup ?_ | refine itv_scr ?_ | refine itv_str ?_ | refine itv_dct ?_)); (try (conv => whnf))
  exact hQ ⟨l - 3, t - 3, l - 3 + (1 + w), t - 3 + (1 + h)⟩ m ⟨by show l - 3 < l - 3 + (1 + w); omega, by show t - 3 < t - 3 + (1 + h); omega⟩ ⟨by show -3 ≤ l - 3; omega, by show l - 3 + (1 + w) ≤ 43; omega, by show -3 ≤ t - 3; omega, by show t - 3 + (1 + h) ≤ 43; omega, by show l - 3 + (1 + w) - (l - 3) ≤ 14; omega, by show t - 3 + (1 + h) - (t - 3) ≤ 14; omega⟩ hD
theorem edge_at {c : Rc} {k : Int} (h0 : 0 ≤ k) (h1 : k < 4) : ∃ i, (i = c.l ∨ i = c.t ∨ i = c.r ∨ i = c.b) ∧ L2.atI [D.int c.l, .int c.t, .int c.r, .int c.b] k = some (.int i) := by
  obtain ⟨i, hi, e⟩ := atI_ints2 (xs := [c.l, c.t, c.r, c.b]) h0 h1
  simp only [List.mem_cons, List.not_mem_nil, or_false] at hi
  exact ⟨i, hi, e⟩
theorem lrects_wp {n : Nat} {s N : Int} {m : MS} {Q : D × Kd → MS → Prop} (hD : Deck m) (s0 : 0 < s) (s1 : s ≤ 14) (s2 : 3 ≤ s) (n0 : 0 ≤ N) (n1 : N ≤ 20) (hQ : ∀ (rs : List Rc) m', (rs.length : Int) = N → (∀ c ∈ rs, Rok c) → (∀ c ∈ rs, -2100 ≤ c.l ∧ c.r ≤ 2100 ∧ -2100 ≤ c.t ∧ c.b ≤ 2100 ∧ c.r - c.l ≤ 14 ∧ c.b - c.t ≤ 14) → Deck m' → Q (.lst (rs.map Rc.d), .own) m') : wpx noE (callL (n + 3) 4 [.ref 0, .int N, .int s] m) Q := by
  refine wp_callF (F := d_law_rectangles.F) rfl rfl ?_
  have dw : ∀ {b : Int} {m : MS} {Q : D × Kd → MS → Prop}, Deck m → 0 < b → b < 1073741824 → (∀ v m', 0 ≤ v → v < b → Deck m' → Q (.int v, .sh) m') → wpx noE (callF (gls.map fun p => p.2.d) (defs.map (·.F)) (n + 2) 2 [.ref 0, .int b] m) Q := fun h1 h2 h3 => draw_wp rfl h1 h2 h3
  have rw_ : ∀ {m : MS} {Q : D × Kd → MS → Prop}, Deck m → (∀ c m', Rok c → (-3 ≤ c.l ∧ c.r ≤ 43 ∧ -3 ≤ c.t ∧ c.b ≤ 43 ∧ c.r - c.l ≤ 14 ∧ c.b - c.t ≤ 14) → Deck m' → Q (Rc.d c, .sh) m') → wpx noE (callF (gls.map fun p => p.2.d) (defs.map (·.F)) (n + 2) 3 [.ref 0, .int s] m) Q := fun h q => lrect_wp h s0 s1 s2 q
  generalize callF (gls.map fun p => p.2.d) (defs.map (·.F)) (n + 2) = cf at dw rw_
  (repeat ((conv => whnf); first | refine ⟨_, by first | ((with_reducible show L2.atI _ _ = some _); first | exact atI_0 | exact atI_1 | exact atI_2 | exact atI_3 | exact atI_4 | exact atI_5 | exact atI_6 | exact atI_7) | ((with_reducible show L2.ixN _ _ = some _); first | exact ix_0 | exact ix_1 | exact ix_2 | exact ix_3 | exact ix_4 | exact ix_5 | exact ix_6 | exact ix_7), ?_⟩ | refine ⟨by (first | (show sameM _ _; exact ⟨rfl, rfl⟩) | (show mulOk _ _; unfold mulOk; omega) | (show divOk _; unfold divOk; omega) | (show powOk _ _; unfold powOk; decide) | (show _ ≠ _; omega) | (show isNon _ = true; rfl) | exact len_lit (by rfl) | exact len2_lit (by rfl)), ?_⟩ | refine ⟨true, by decide +kernel, ?_⟩ | refine ⟨false, by decide +kernel, ?_⟩ | refine itv_lst ?_ | refine itv_tup ?_ | refine itv_scr ?_ | refine itv_str ?_ | refine itv_dct ?_)); (try (conv => whnf))
  refine ⟨⟨by unfold inR; omega, sz (by omega)⟩, ?_⟩
  refine ⟨wp_loop (fun ds S m' => Deck m' ∧ ∃ (rs : List Rc) (c4 c5 c6 c7 c8 : Slot), ds = (rangeL 0 N).drop rs.length ∧ (rs.length : Int) ≤ N ∧ (∀ c ∈ rs, Rok c) ∧ (∀ c ∈ rs, -(100 + 100 * (rs.length : Int)) ≤ c.l ∧ c.r ≤ 100 + 100 * rs.length ∧ -(100 + 100 * (rs.length : Int)) ≤ c.t ∧ c.b ≤ 100 + 100 * rs.length ∧ c.r - c.l ≤ 14 ∧ c.b - c.t ≤ 14) ∧ S = [some (.ref 0, false), some (.int N, false), some (.int s, false), some (.lst (rs.map Rc.d), true), c4, c5, c6, c7, c8]) (fun d ds S m' ⟨hD, rs, c4, c5, c6, c7, c8, hd, hl, hr, hx, hS⟩ => ?_) (fun S m' ⟨hD, rs, c4, c5, c6, c7, c8, hd, hl, hr, hx, hS⟩ => ?_) _ _ _ ⟨hD, [], _, _, _, _, _, rfl, by simpa using n0, fun c hc => (by cases hc), fun c hc => (by cases hc), rfl⟩⟩
  · obtain ⟨i1, rfl, hd2⟩ := range_drop hd
    subst hS
    have room : (rs.map Rc.d).length < sizeLine := Nat.lt_of_lt_of_le (show (rs.map Rc.d).length < 3000 by rw [lenm]; omega) (by rw [sizeLine_eq]; decide)
    have more : ∀ (c : Rc) (m : MS) (c4 c5 c6 c7 c8 : Slot), Rok c → (-(200 + 100 * (rs.length : Int)) ≤ c.l ∧ c.r ≤ 200 + 100 * rs.length ∧ -(200 + 100 * (rs.length : Int)) ≤ c.t ∧ c.b ≤ 200 + 100 * rs.length ∧ c.r - c.l ≤ 14 ∧ c.b - c.t ≤ 14) → Deck m → (Deck m ∧ ∃ (rs' : List Rc) (c4' c5' c6' c7' c8' : Slot), ds = (rangeL 0 N).drop rs'.length ∧ (rs'.length : Int) ≤ N ∧ (∀ c ∈ rs', Rok c) ∧ (∀ c ∈ rs', -(100 + 100 * (rs'.length : Int)) ≤ c.l ∧ c.r ≤ 100 + 100 * rs'.length ∧ -(100 + 100 * (rs'.length : Int)) ≤ c.t ∧ c.b ≤ 100 + 100 * rs'.length ∧ c.r - c.l ≤ 14 ∧ c.b - c.t ≤ 14) ∧ [some (.ref 0, false), some (.int N, false), some (.int s, false), some (.lst (rs.map Rc.d ++ [Rc.d c]), true), c4, c5, c6, c7, c8] = [some (.ref 0, false), some (.int N, false), some (.int s, false), some (.lst (rs'.map Rc.d), true), c4', c5', c6', c7', c8']) := fun c m c4 c5 c6 c7 c8 hc hcx hD => ⟨hD, rs ++ [c], c4, c5, c6, c7, c8, by rw [List.length_append]; exact hd2, by rw [List.length_append, List.length_singleton]; omega, fun d hd => (List.mem_append.mp hd).elim (hr d) fun hd => by rw [List.mem_singleton.mp hd]; exact hc, fun d hd => by
      rw [List.length_append, List.length_singleton]
      rcases List.mem_append.mp hd with hd | hd
      · have := hx d hd; omega
      · rw [List.mem_singleton.mp hd]; omega, by rw [List.map_append]; rfl⟩
    refine wp_turn ?_
    (repeat ((conv => whnf); first | refine ⟨_, by first | ((with_reducible show L2.atI _ _ = some _); first | exact atI_0 | exact atI_1 | exact atI_2 | exact atI_3 | exact atI_4 | exact atI_5 | exact atI_6 | exact atI_7) | ((with_reducible show L2.ixN _ _ = some _); first | exact ix_0 | exact ix_1 | exact ix_2 | exact ix_3 | exact ix_4 | exact ix_5 | exact ix_6 | exact ix_7), ?_⟩ | refine ⟨by (first | (show sameM _ _; exact ⟨rfl, rfl⟩) | (show mulOk _ _; unfold mulOk; omega) | (show divOk _; unfold divOk; omega) | (show powOk _ _; unfold powOk; decide) | (show _ ≠ _; omega) | (show isNon _ = true; rfl) | exact len_lit (by rfl) | exact len2_lit (by rfl)), ?_⟩ | refine ⟨true, by decide +kernel, ?_⟩ | refine ⟨false, by decide +kernel, ?_⟩ | refine itv_lst ?_ | refine itv_tup ?_ | refine itv_scr ?_ | refine itv_str ?_ | refine itv_dct ?_)); (try (conv => whnf))
    refine ⟨rw_ hD fun c m hc hcb hD => ?_⟩
    (repeat ((conv => whnf); first | refine ⟨_, by first | ((with_reducible show L2.atI _ _ = some _); first | exact atI_0 | exact atI_1 | exact atI_2 | exact atI_3 | exact atI_4 | exact atI_5 | exact atI_6 | exact atI_7) | ((with_reducible show L2.ixN _ _ = some _); first | exact ix_0 | exact ix_1 | exact ix_2 | exact ix_3 | exact ix_4 | exact ix_5 | exact ix_6 | exact ix_7), ?_⟩ | refine ⟨by (first | (show sameM _ _; exact ⟨rfl, rfl⟩) | (show mulOk _ _; unfold mulOk; omega) | (show divOk _; unfold divOk; omega) | (show powOk _ _; unfold powOk; decide) | (show _ ≠ _; omega) | (show isNon _ = true; rfl) | exact len_lit (by rfl) | exact len2_lit (by rfl)), ?_⟩ | refine ⟨true, by decide +kernel, ?_⟩ | refine ⟨false, by decide +kernel, ?_⟩ | refine itv_lst ?_ | refine itv_tup ?_ | refine itv_scr ?_ | refine itv_str ?_ | refine itv_dct ?_)); (try (conv => whnf))
    refine condD_of (fun h => ?_) (fun h => ?_)
    · have hp : 0 < rs.length := by
        have : (0 : Int) < ((rs.map Rc.d).length : Int) := h
        rw [lenm] at this
        omega
      (repeat ((conv => whnf); first | refine ⟨_, by first | ((with_reducible show L2.atI _ _ = some _); first | exact atI_0 | exact atI_1 | exact atI_2 | exact atI_3 | exact atI_4 | exact atI_5 | exact atI_6 | exact atI_7) | ((with_reducible show L2.ixN _ _ = some _); first | exact ix_0 | exact ix_1 | exact ix_2 | exact ix_3 | exact ix_4 | exact ix_5 | exact ix_6 | exact ix_7), ?_⟩ | refine ⟨by (first | (show sameM _ _; exact ⟨rfl, rfl⟩) | (show mulOk _ _; unfold mulOk; omega) | (show divOk _; unfold divOk; omega) | (show powOk _ _; unfold powOk; decide) | (show _ ≠ _; omega) | (show isNon _ = true; rfl) | exact len_lit (by rfl) | exact len2_lit (by rfl)), ?_⟩ | refine ⟨true, by decide +kernel, ?_⟩ | refine ⟨false, by decide +kernel, ?_⟩ | refine itv_lst ?_ | refine itv_tup ?_ | refine itv_scr ?_ | refine itv_str ?_ | refine itv_dct ?_)); (try (conv => whnf))
      refine ⟨dw hD (by decide) (by decide) fun z m z0 z1 hD => ?_⟩
      (repeat ((conv => whnf); first | refine ⟨_, by first | ((with_reducible show L2.atI _ _ = some _); first | exact atI_0 | exact atI_1 | exact atI_2 | exact atI_3 | exact atI_4 | exact atI_5 | exact atI_6 | exact atI_7) | ((with_reducible show L2.ixN _ _ = some _); first | exact ix_0 | exact ix_1 | exact ix_2 | exact ix_3 | exact ix_4 | exact ix_5 | exact ix_6 | exact ix_7), ?_⟩ | refine ⟨by (first | (show sameM _ _; exact ⟨rfl, rfl⟩) | (show mulOk _ _; unfold mulOk; omega) | (show divOk _; unfold divOk; omega) | (show powOk _ _; unfold powOk; decide) | (show _ ≠ _; omega) | (show isNon _ = true; rfl) | exact len_lit (by rfl) | exact len2_lit (by rfl)), ?_⟩ | refine ⟨true, by decide +kernel, ?_⟩ | refine ⟨false, by decide +kernel, ?_⟩ | refine itv_lst ?_ | refine itv_tup ?_ | refine itv_scr ?_ | refine itv_str ?_ | refine itv_dct ?_)); (try (conv => whnf))
      refine condD_of (fun h2 => ?_) (fun h2 => ?_)
      · (repeat ((conv => whnf); first | refine ⟨_, by first | ((with_reducible show L2.atI _ _ = some _); first | exact atI_0 | exact atI_1 | exact atI_2 | exact atI_3 | exact atI_4 | exact atI_5 | exact atI_6 | exact atI_7) | ((with_reducible show L2.ixN _ _ = some _); first | exact ix_0 | exact ix_1 | exact ix_2 | exact ix_3 | exact ix_4 | exact ix_5 | exact ix_6 | exact ix_7), ?_⟩ | refine ⟨by (first | (show sameM _ _; exact ⟨rfl, rfl⟩) | (show mulOk _ _; unfold mulOk; omega) | (show divOk _; unfold divOk; omega) | (show powOk _ _; unfold powOk; decide) | (show _ ≠ _; omega) | (show isNon _ = true; rfl) | exact len_lit (by rfl) | exact len2_lit (by rfl)), ?_⟩ | refine ⟨true, by decide +kernel, ?_⟩ | refine ⟨false, by decide +kernel, ?_⟩ | refine itv_lst ?_ | refine itv_tup ?_ | refine itv_scr ?_ | refine itv_str ?_ | refine itv_dct ?_)); (try (conv => whnf))
        refine ⟨dw hD (by rw [lenm]; omega) (by rw [lenm]; omega) fun a m a0 a1 hD => ?_⟩
        obtain ⟨o, ho, eo⟩ := atI_map (g := Rc.d) (xs := rs) a0 (by rw [lenm] at a1; exact a1)
        (repeat ((conv => whnf); first | refine ⟨_, by first | ((with_reducible show L2.atI _ _ = some _); first | exact atI_0 | exact atI_1 | exact atI_2 | exact atI_3 | exact atI_4 | exact atI_5 | exact atI_6 | exact atI_7) | ((with_reducible show L2.ixN _ _ = some _); first | exact ix_0 | exact ix_1 | exact ix_2 | exact ix_3 | exact ix_4 | exact ix_5 | exact ix_6 | exact ix_7), ?_⟩ | refine ⟨by (first | (show sameM _ _; exact ⟨rfl, rfl⟩) | (show mulOk _ _; unfold mulOk; omega) | (show divOk _; unfold divOk; omega) | (show powOk _ _; unfold powOk; decide) | (show _ ≠ _; omega) | (show isNon _ = true; rfl) | exact len_lit (by rfl) | exact len2_lit (by rfl)), ?_⟩ | refine ⟨true, by decide +kernel, ?_⟩ | refine ⟨false, by decide +kernel, ?_⟩ | refine itv_lst ?_ | refine itv_tup ?_ | refine itv_scr ?_ | refine itv_str ?_ | refine itv_dct ?_)); (try (conv => whnf))
        refine ⟨_, eo, ?_⟩
        (repeat ((conv => whnf); first | refine ⟨_, by first | ((with_reducible show L2.atI _ _ = some _); first | exact atI_0 | exact atI_1 | exact atI_2 | exact atI_3 | exact atI_4 | exact atI_5 | exact atI_6 | exact atI_7) | ((with_reducible show L2.ixN _ _ = some _); first | exact ix_0 | exact ix_1 | exact ix_2 | exact ix_3 | exact ix_4 | exact ix_5 | exact ix_6 | exact ix_7), ?_⟩ | refine ⟨by (first | (show sameM _ _; exact ⟨rfl, rfl⟩) | (show mulOk _ _; unfold mulOk; omega) | (show divOk _; unfold divOk; omega) | (show powOk _ _; unfold powOk; decide) | (show _ ≠ _; omega) | (show isNon _ = true; rfl) | exact len_lit (by rfl) | exact len2_lit (by rfl)), ?_⟩ | refine ⟨true, by decide +kernel, ?_⟩ | refine ⟨false, by decide +kernel, ?_⟩ | refine itv_lst ?_ | refine itv_tup ?_ | refine itv_scr ?_ | refine itv_str ?_ | refine itv_dct ?_)); (try (conv => whnf))
        refine ⟨dw hD (by decide) (by decide) fun k m k0 k1 hD => ?_⟩
        obtain ⟨i, hi, ei⟩ := @edge_at o k k0 k1
        have hor := hr o (List.mem_of_getElem? ho)
        have hox := hx o (List.mem_of_getElem? ho)
        have ox := hor.x
        have oy := hor.y
        (repeat ((conv => whnf); first | refine ⟨_, by first | ((with_reducible show L2.atI _ _ = some _); first | exact atI_0 | exact atI_1 | exact atI_2 | exact atI_3 | exact atI_4 | exact atI_5 | exact atI_6 | exact atI_7) | ((with_reducible show L2.ixN _ _ = some _); first | exact ix_0 | exact ix_1 | exact ix_2 | exact ix_3 | exact ix_4 | exact ix_5 | exact ix_6 | exact ix_7), ?_⟩ | refine ⟨by (first | (show sameM _ _; exact ⟨rfl, rfl⟩) | (show mulOk _ _; unfold mulOk; omega) | (show divOk _; unfold divOk; omega) | (show powOk _ _; unfold powOk; decide) | (show _ ≠ _; omega) | (show isNon _ = true; rfl) | exact len_lit (by rfl) | exact len2_lit (by rfl)), ?_⟩ | refine ⟨true, by decide +kernel, ?_⟩ | refine ⟨false, by decide +kernel, ?_⟩ | refine itv_lst ?_ | refine itv_tup ?_ | refine itv_scr ?_ | refine itv_str ?_ | refine itv_dct ?_)); (try (conv => whnf))
        refine ⟨_, ei, ?_⟩
        (repeat ((conv => whnf); first | refine ⟨_, by first | ((with_reducible show L2.atI _ _ = some _); first | exact atI_0 | exact atI_1 | exact atI_2 | exact atI_3 | exact atI_4 | exact atI_5 | exact atI_6 | exact atI_7) | ((with_reducible show L2.ixN _ _ = some _); first | exact ix_0 | exact ix_1 | exact ix_2 | exact ix_3 | exact ix_4 | exact ix_5 | exact ix_6 | exact ix_7), ?_⟩ | refine ⟨by (first | (show sameM _ _; exact ⟨rfl, rfl⟩) | (show mulOk _ _; unfold mulOk; omega) | (show divOk _; unfold divOk; omega) | (show powOk _ _; unfold powOk; decide) | (show _ ≠ _; omega) | (show isNon _ = true; rfl) | exact len_lit (by rfl) | exact len2_lit (by rfl)), ?_⟩ | refine ⟨true, by decide +kernel, ?_⟩ | refine ⟨false, by decide +kernel, ?_⟩ | refine itv_lst ?_ | refine itv_tup ?_ | refine itv_scr ?_ | refine itv_str ?_ | refine itv_dct ?_)); (try (conv => whnf))
        refine ⟨dw hD (by decide) (by decide) fun w m w0 w1 hD => ?_⟩
        obtain ⟨f0, f1⟩ := @fmod_lt (k + 2 * w) 4 (by decide)
        obtain ⟨j, hj, ej⟩ := @edge_at c ((k + 2 * w).fmod 4) f0 f1
        (repeat ((conv => whnf); first | refine ⟨_, by first | ((with_reducible show L2.atI _ _ = some _); first | exact atI_0 | exact atI_1 | exact atI_2 | exact atI_3 | exact atI_4 | exact atI_5 | exact atI_6 | exact atI_7) | ((with_reducible show L2.ixN _ _ = some _); first | exact ix_0 | exact ix_1 | exact ix_2 | exact ix_3 | exact ix_4 | exact ix_5 | exact ix_6 | exact ix_7), ?_⟩ | refine ⟨by (first | (show sameM _ _; exact ⟨rfl, rfl⟩) | (show mulOk _ _; unfold mulOk; omega) | (show divOk _; unfold divOk; omega) | (show powOk _ _; unfold powOk; decide) | (show _ ≠ _; omega) | (show isNon _ = true; rfl) | exact len_lit (by rfl) | exact len2_lit (by rfl)), ?_⟩ | refine ⟨true, by decide +kernel, ?_⟩ | refine ⟨false, by decide +kernel, ?_⟩ | refine itv_lst ?_ | refine itv_tup ?_ | refine itv_scr ?_ | refine itv_str ?_ | refine itv_dct ?_)); (try (conv => whnf))
        refine ⟨_, ej, ?_⟩
        have okx : Rok ⟨c.l + (i - j), c.t, c.r + (i - j), c.b⟩ := ⟨by have := hc.x; show c.l + (i - j) < c.r + (i - j); omega, hc.y⟩
        have cx := hc.x
        have cy := hc.y
        have bx : -(200 + 100 * (rs.length : Int)) ≤ c.l + (i - j) ∧ c.r + (i - j) ≤ 200 + 100 * rs.length ∧ -(200 + 100 * (rs.length : Int)) ≤ c.t + (i - j) ∧ c.b + (i - j) ≤ 200 + 100 * rs.length := by omega
        have oky : Rok ⟨c.l, c.t + (i - j), c.r, c.b + (i - j)⟩ := ⟨hc.x, by have := hc.y; show c.t + (i - j) < c.b + (i - j); omega⟩
        (repeat ((conv => whnf); first | refine ⟨_, by first | ((with_reducible show L2.atI _ _ = some _); first | exact atI_0 | exact atI_1 | exact atI_2 | exact atI_3 | exact atI_4 | exact atI_5 | exact atI_6 | exact atI_7) | ((with_reducible show L2.ixN _ _ = some _); first | exact ix_0 | exact ix_1 | exact ix_2 | exact ix_3 | exact ix_4 | exact ix_5 | exact ix_6 | exact ix_7), ?_⟩ | refine ⟨by (first | (show sameM _ _; exact ⟨rfl, rfl⟩) | (show mulOk _ _; unfold mulOk; omega) | (show divOk _; unfold divOk; omega) | (show powOk _ _; unfold powOk; decide) | (show _ ≠ _; omega) | (show isNon _ = true; rfl) | exact len_lit (by rfl) | exact len2_lit (by rfl)), ?_⟩ | refine ⟨true, by decide +kernel, ?_⟩ | refine ⟨false, by decide +kernel, ?_⟩ | refine itv_lst ?_ | refine itv_tup ?_ | refine itv_scr ?_ | refine itv_str ?_ | refine itv_dct ?_)); (try (conv => whnf))
        refine condD_of (fun h3 => ?_) (fun h3 => ?_)
        · (repeat ((conv => whnf); first | refine ⟨_, by first | ((with_reducible show L2.atI _ _ = some _); first | exact atI_0 | exact atI_1 | exact atI_2 | exact atI_3 | exact atI_4 | exact atI_5 | exact atI_6 | exact atI_7) | ((with_reducible show L2.ixN _ _ = some _); first | exact ix_0 | exact ix_1 | exact ix_2 | exact ix_3 | exact ix_4 | exact ix_5 | exact ix_6 | exact ix_7), ?_⟩ | refine ⟨by (first | (show sameM _ _; exact ⟨rfl, rfl⟩) | (show mulOk _ _; unfold mulOk; omega) | (show divOk _; unfold divOk; omega) | (show powOk _ _; unfold powOk; decide) | (show _ ≠ _; omega) | (show isNon _ = true; rfl) | exact len_lit (by rfl) | exact len2_lit (by rfl)), ?_⟩ | refine ⟨true, by decide +kernel, ?_⟩ | refine ⟨false, by decide +kernel, ?_⟩ | refine itv_lst ?_ | refine itv_tup ?_ | refine itv_scr ?_ | refine itv_str ?_ | refine itv_dct ?_)); (try (conv => whnf))
          refine ⟨room, ?_⟩
          (repeat ((conv => whnf); first | refine ⟨_, by first | ((with_reducible show L2.atI _ _ = some _); first | exact atI_0 | exact atI_1 | exact atI_2 | exact atI_3 | exact atI_4 | exact atI_5 | exact atI_6 | exact atI_7) | ((with_reducible show L2.ixN _ _ = some _); first | exact ix_0 | exact ix_1 | exact ix_2 | exact ix_3 | exact ix_4 | exact ix_5 | exact ix_6 | exact ix_7), ?_⟩ | refine ⟨by (first | (show sameM _ _; exact ⟨rfl, rfl⟩) | (show mulOk _ _; unfold mulOk; omega) | (show divOk _; unfold divOk; omega) | (show powOk _ _; unfold powOk; decide) | (show _ ≠ _; omega) | (show isNon _ = true; rfl) | exact len_lit (by rfl) | exact len2_lit (by rfl)), ?_⟩ | refine ⟨true, by decide +kernel, ?_⟩ | refine ⟨false, by decide +kernel, ?_⟩ | refine itv_lst ?_ | refine itv_tup ?_ | refine itv_scr ?_ | refine itv_str ?_ | refine itv_dct ?_)); (try (conv => whnf))
          exact more _ m _ _ _ _ _ okx ⟨bx.1, bx.2.1, by show _ ≤ c.t; omega, by show c.b ≤ _; omega, by show c.r + (i - j) - (c.l + (i - j)) ≤ 14; omega, by show c.b - c.t ≤ 14; omega⟩ hD
        · (repeat ((conv => whnf); first | refine ⟨_, by first | ((with_reducible show L2.atI _ _ = some _); first | exact atI_0 | exact atI_1 | exact atI_2 | exact atI_3 | exact atI_4 | exact atI_5 | exact atI_6 | exact atI_7) | ((with_reducible show L2.ixN _ _ = some _); first | exact ix_0 | exact ix_1 | exact ix_2 | exact ix_3 | exact ix_4 | exact ix_5 | exact ix_6 | exact ix_7), ?_⟩ | refine ⟨by (first | (show sameM _ _; exact ⟨rfl, rfl⟩) | (show mulOk _ _; unfold mulOk; omega) | (show divOk _; unfold divOk; omega) | (show powOk _ _; unfold powOk; decide) | (show _ ≠ _; omega) | (show isNon _ = true; rfl) | exact len_lit (by rfl) | exact len2_lit (by rfl)), ?_⟩ | refine ⟨true, by decide +kernel, ?_⟩ | refine ⟨false, by decide +kernel, ?_⟩ | refine itv_lst ?_ | refine itv_tup ?_ | refine itv_scr ?_ | refine itv_str ?_ | refine itv_dct ?_)); (try (conv => whnf))
          refine condD_of (fun h4 => ?_) (fun h4 => ?_)
          · (repeat ((conv => whnf); first | refine ⟨_, by first | ((with_reducible show L2.atI _ _ = some _); first | exact atI_0 | exact atI_1 | exact atI_2 | exact atI_3 | exact atI_4 | exact atI_5 | exact atI_6 | exact atI_7) | ((with_reducible show L2.ixN _ _ = some _); first | exact ix_0 | exact ix_1 | exact ix_2 | exact ix_3 | exact ix_4 | exact ix_5 | exact ix_6 | exact ix_7), ?_⟩ | refine ⟨by (first | (show sameM _ _; exact ⟨rfl, rfl⟩) | (show mulOk _ _; unfold mulOk; omega) | (show divOk _; unfold divOk; omega) | (show powOk _ _; unfold powOk; decide) | (show _ ≠ _; omega) | (show isNon _ = true; rfl) | exact len_lit (by rfl) | exact len2_lit (by rfl)), ?_⟩ | refine ⟨true, by decide +kernel, ?_⟩ | refine ⟨false, by decide +kernel, ?_⟩ | refine itv_lst ?_ | refine itv_tup ?_ | refine itv_scr ?_ | refine itv_str ?_ | refine itv_dct ?_)); (try (conv => whnf))
            refine ⟨room, ?_⟩
            (repeat ((conv => whnf); first | refine ⟨_, by first | ((with_reducible show L2.atI _ _ = some _); first | exact atI_0 | exact atI_1 | exact atI_2 | exact atI_3 | exact atI_4 | exact atI_5 | exact atI_6 | exact atI_7) | ((with_reducible show L2.ixN _ _ = some _); first | exact ix_0 | exact ix_1 | exact ix_2 | exact ix_3 | exact ix_4 | exact ix_5 | exact ix_6 | exact ix_7), ?_⟩ | refine ⟨by (first | (show sameM _ _; exact ⟨rfl, rfl⟩) | (show mulOk _ _; unfold mulOk; omega) | (show divOk _; unfold divOk; omega) | (show powOk _ _; unfold powOk; decide) | (show _ ≠ _; omega) | (show isNon _ = true; rfl) | exact len_lit (by rfl) | exact len2_lit (by rfl)), ?_⟩ | refine ⟨true, by decide +kernel, ?_⟩ | refine ⟨false, by decide +kernel, ?_⟩ | refine itv_lst ?_ | refine itv_tup ?_ | refine itv_scr ?_ | refine itv_str ?_ | refine itv_dct ?_)); (try (conv => whnf))
            exact more _ m _ _ _ _ _ okx ⟨bx.1, bx.2.1, by show _ ≤ c.t; omega, by show c.b ≤ _; omega, by show c.r + (i - j) - (c.l + (i - j)) ≤ 14; omega, by show c.b - c.t ≤ 14; omega⟩ hD
          · (repeat ((conv => whnf); first | refine ⟨_, by first | ((with_reducible show L2.atI _ _ = some _); first | exact atI_0 | exact atI_1 | exact atI_2 | exact atI_3 | exact atI_4 | exact atI_5 | exact atI_6 | exact atI_7) | ((with_reducible show L2.ixN _ _ = some _); first | exact ix_0 | exact ix_1 | exact ix_2 | exact ix_3 | exact ix_4 | exact ix_5 | exact ix_6 | exact ix_7), ?_⟩ | refine ⟨by (first | (show sameM _ _; exact ⟨rfl, rfl⟩) | (show mulOk _ _; unfold mulOk; omega) | (show divOk _; unfold divOk; omega) | (show powOk _ _; unfold powOk; decide) | (show _ ≠ _; omega) | (show isNon _ = true; rfl) | exact len_lit (by rfl) | exact len2_lit (by rfl)), ?_⟩ | refine ⟨true, by decide +kernel, ?_⟩ | refine ⟨false, by decide +kernel, ?_⟩ | refine itv_lst ?_ | refine itv_tup ?_ | refine itv_scr ?_ | refine itv_str ?_ | refine itv_dct ?_)); (try (conv => whnf))
            refine ⟨room, ?_⟩
            (repeat ((conv => whnf); first | refine ⟨_, by first | ((with_reducible show L2.atI _ _ = some _); first | exact atI_0 | exact atI_1 | exact atI_2 | exact atI_3 | exact atI_4 | exact atI_5 | exact atI_6 | exact atI_7) | ((with_reducible show L2.ixN _ _ = some _); first | exact ix_0 | exact ix_1 | exact ix_2 | exact ix_3 | exact ix_4 | exact ix_5 | exact ix_6 | exact ix_7), ?_⟩ | refine ⟨by (first | (show sameM _ _; exact ⟨rfl, rfl⟩) | (show mulOk _ _; unfold mulOk; omega) | (show divOk _; unfold divOk; omega) | (show powOk _ _; unfold powOk; decide) | (show _ ≠ _; omega) | (show isNon _ = true; rfl) | exact len_lit (by rfl) | exact len2_lit (by rfl)), ?_⟩ | refine ⟨true, by decide +kernel, ?_⟩ | refine ⟨false, by decide +kernel, ?_⟩ | refine itv_lst ?_ | refine itv_tup ?_ | refine itv_scr ?_ | refine itv_str ?_ | refine itv_dct ?_)); (try (conv => whnf))
            exact more _ m _ _ _ _ _ oky ⟨by show _ ≤ c.l; omega, by show c.r ≤ _; omega, bx.2.2.1, bx.2.2.2, by show c.r - c.l ≤ 14; omega, by show c.b + (i - j) - (c.t + (i - j)) ≤ 14; omega⟩ hD
      · (repeat ((conv => whnf); first | refine ⟨_, by first | ((with_reducible show L2.atI _ _ = some _); first | exact atI_0 | exact atI_1 | exact atI_2 | exact atI_3 | exact atI_4 | exact atI_5 | exact atI_6 | exact atI_7) | ((with_reducible show L2.ixN _ _ = some _); first | exact ix_0 | exact ix_1 | exact ix_2 | exact ix_3 | exact ix_4 | exact ix_5 | exact ix_6 | exact ix_7), ?_⟩ | refine ⟨by (first | (show sameM _ _; exact ⟨rfl, rfl⟩) | (show mulOk _ _; unfold mulOk; omega) | (show divOk _; unfold divOk; omega) | (show powOk _ _; unfold powOk; decide) | (show _ ≠ _; omega) | (show isNon _ = true; rfl) | exact len_lit (by rfl) | exact len2_lit (by rfl)), ?_⟩ | refine ⟨true, by decide +kernel, ?_⟩ | refine ⟨false, by decide +kernel, ?_⟩ | refine itv_lst ?_ | refine itv_tup ?_ | refine itv_scr ?_ | refine itv_str ?_ | refine itv_dct ?_)); (try (conv => whnf))
        refine ⟨room, ?_⟩
        (repeat ((conv => whnf); first | refine ⟨_, by first | ((with_reducible show L2.atI _ _ = some _); first | exact atI_0 | exact atI_1 | exact atI_2 | exact atI_3 | exact atI_4 | exact atI_5 | exact atI_6 | exact atI_7) | ((with_reducible show L2.ixN _ _ = some _); first | exact ix_0 | exact ix_1 | exact ix_2 | exact ix_3 | exact ix_4 | exact ix_5 | exact ix_6 | exact ix_7), ?_⟩ | refine ⟨by (first | (show sameM _ _; exact ⟨rfl, rfl⟩) | (show mulOk _ _; unfold mulOk; omega) | (show divOk _; unfold divOk; omega) | (show powOk _ _; unfold powOk; decide) | (show _ ≠ _; omega) | (show isNon _ = true; rfl) | exact len_lit (by rfl) | exact len2_lit (by rfl)), ?_⟩ | refine ⟨true, by decide +kernel, ?_⟩ | refine ⟨false, by decide +kernel, ?_⟩ | refine itv_lst ?_ | refine itv_tup ?_ | refine itv_scr ?_ | refine itv_str ?_ | refine itv_dct ?_)); (try (conv => whnf))
        exact more c m _ _ _ _ _ hc (by omega) hD
    · (repeat ((conv => whnf); first | refine ⟨_, by first | ((with_reducible show L2.atI _ _ = some _); first | exact atI_0 | exact atI_1 | exact atI_2 | exact atI_3 | exact atI_4 | exact atI_5 | exact atI_6 | exact atI_7) | ((with_reducible show L2.ixN _ _ = some _); first | exact ix_0 | exact ix_1 | exact ix_2 | exact ix_3 | exact ix_4 | exact ix_5 | exact ix_6 | exact ix_7), ?_⟩ | refine ⟨by (first | (show sameM _ _; exact ⟨rfl, rfl⟩) | (show mulOk _ _; unfold mulOk; omega) | (show divOk _; unfold divOk; omega) | (show powOk _ _; unfold powOk; decide) | (show _ ≠ _; omega) | (show isNon _ = true; rfl) | exact len_lit (by rfl) | exact len2_lit (by rfl)), ?_⟩ | refine ⟨true, by decide +kernel, ?_⟩ | refine ⟨false, by decide +kernel, ?_⟩ | refine itv_lst ?_ | refine itv_tup ?_ | refine itv_scr ?_ | refine itv_str ?_ | refine itv_dct ?_)); (try (conv => whnf))
      refine ⟨room, ?_⟩
      (repeat ((conv => whnf); first | refine ⟨_, by first | ((with_reducible show L2.atI _ _ = some _); first | exact atI_0 | exact atI_1 | exact atI_2 | exact atI_3 | exact atI_4 | exact atI_5 | exact atI_6 | exact atI_7) | ((with_reducible show L2.ixN _ _ = some _); first | exact ix_0 | exact ix_1 | exact ix_2 | exact ix_3 | exact ix_4 | exact ix_5 | exact ix_6 | exact ix_7), ?_⟩ | refine ⟨by (first | (show sameM _ _; exact ⟨rfl, rfl⟩) | (show mulOk _ _; unfold mulOk; omega) | (show divOk _; unfold divOk; omega) | (show powOk _ _; unfold powOk; decide) | (show _ ≠ _; omega) | (show isNon _ = true; rfl) | exact len_lit (by rfl) | exact len2_lit (by rfl)), ?_⟩ | refine ⟨true, by decide +kernel, ?_⟩ | refine ⟨false, by decide +kernel, ?_⟩ | refine itv_lst ?_ | refine itv_tup ?_ | refine itv_scr ?_ | refine itv_str ?_ | refine itv_dct ?_)); (try (conv => whnf))
      exact more c m _ _ _ _ _ hc (by omega) hD
  · subst hS
    have hd := List.drop_eq_nil_iff.mp hd.symm
    rw [range_len] at hd
    (repeat ((conv => whnf); first | refine ⟨_, by first | ((with_reducible show L2.atI _ _ = some _); first | exact atI_0 | exact atI_1 | exact atI_2 | exact atI_3 | exact atI_4 | exact atI_5 | exact atI_6 | exact atI_7) | ((with_reducible show L2.ixN _ _ = some _); first | exact ix_0 | exact ix_1 | exact ix_2 | exact ix_3 | exact ix_4 | exact ix_5 | exact ix_6 | exact ix_7), ?_⟩ | refine ⟨by (first | (show sameM _ _; exact ⟨rfl, rfl⟩) | (show mulOk _ _; unfold mulOk; omega) | (show divOk _; unfold divOk; omega) | (show powOk _ _; unfold powOk; decide) | (show _ ≠ _; omega) | (show isNon _ = true; rfl) | exact len_lit (by rfl) | exact len2_lit (by rfl)), ?_⟩ | refine ⟨true, by decide +kernel, ?_⟩ | refine ⟨false, by decide +kernel, ?_⟩ | refine itv_lst ?_ | refine itv_tup ?_ | refine itv_scr ?_ | refine itv_str ?_ | refine itv_dct ?_)); (try (conv => whnf))
    exact hQ rs _ (by omega) hr (fun c hc => by have := hx c hc; omega) hD
/-- the edges of rectangles -/
def exs (rs : List Rc) : List Int := rs.flatMap fun c => [c.l, c.r]
def eys (rs : List Rc) : List Int := rs.flatMap fun c => [c.t, c.b]
theorem exs_len (rs : List Rc) : (exs rs).length = 2 * rs.length ∧ (eys rs).length = 2 * rs.length := by
  induction rs with
  | nil => exact ⟨rfl, rfl⟩
  | cons c rs ih =>
    obtain ⟨h1, h2⟩ := ih
    constructor
    · show (exs rs).length + 1 + 1 = _
      rw [h1, List.length_cons]; omega
    · show (eys rs).length + 1 + 1 = _
      rw [h2, List.length_cons]; omega
theorem raw_rg {EX EY : List Int} {rs : List Rc} (hl : rs.length ≤ 100) (hx : ∀ e ∈ exs rs, e ∈ EX) (hy : ∀ e ∈ eys rs, e ∈ EY) : Rg EX EY rs := by
  refine ⟨fun c hc => ⟨⟨hx _ ?_, hx _ ?_⟩, hy _ ?_, hy _ ?_⟩, by omega⟩
  · exact List.mem_flatMap.mpr ⟨c, hc, List.mem_cons_self⟩
  · exact List.mem_flatMap.mpr ⟨c, hc, List.mem_cons_of_mem _ List.mem_cons_self⟩
  · exact List.mem_flatMap.mpr ⟨c, hc, List.mem_cons_self⟩
  · exact List.mem_flatMap.mpr ⟨c, hc, List.mem_cons_of_mem _ List.mem_cons_self⟩
/-- drawn rectangles and their points -/
structure Dr (rs : List Rc) : Prop where
  ok : ∀ c ∈ rs, Rok c
  bd : ∀ c ∈ rs, -2100 ≤ c.l ∧ c.r ≤ 2100 ∧ -2100 ≤ c.t ∧ c.b ≤ 2100 ∧ c.r - c.l ≤ 14 ∧ c.b - c.t ≤ 14
theorem Dr.bx {rs : List Rc} (h : Dr rs) : ∀ c ∈ rs, -2100 ≤ c.l ∧ c.r ≤ 2100 ∧ -2100 ≤ c.t ∧ c.b ≤ 2100 ∧ c.l ≤ 2100 ∧ -2100 ≤ c.r ∧ c.t ≤ 2100 ∧ -2100 ≤ c.b := fun c hc => by
  have h1 := h.bd c hc
  have h2 := (h.ok c hc).x
  have h3 := (h.ok c hc).y
  omega
theorem Dr.pl {rs : List Rc} (h : Dr rs) : (rs.flatMap rcPts).length ≤ rs.length * 196 := len_flatMap fun c hc => by
  have h1 := h.bd c hc
  exact rcPts_len (k := 14) (by omega) (by omega)
theorem Dr.pn {rs : List Rc} (h : Dr rs) : (ptsOf rs).length ≤ rs.length * 196 := ptsOf_len fun c hc => by
  have h1 := h.bd c hc
  exact rcPts_len (k := 14) (by omega) (by omega)
theorem is_int_wp {n : Nat} {i : Int} {m : MS} {Q : D × Kd → MS → Prop} (hQ : Q (.bl true, .sh) m) : wpx noE (callL (n + 1) 8 [.int i, .int i] m) Q := by
  refine wp_callF (F := d_law_is.F) rfl rfl ?_
  generalize callF (gls.map fun p => p.2.d) (defs.map (·.F)) n = cf
  (repeat ((conv => whnf); first | refine ⟨_, by first | ((with_reducible show L2.atI _ _ = some _); first | exact atI_0 | exact atI_1 | exact atI_2 | exact atI_3 | exact atI_4 | exact atI_5 | exact atI_6 | exact atI_7) | ((with_reducible show L2.ixN _ _ = some _); first | exact ix_0 | exact ix_1 | exact ix_2 | exact ix_3 | exact ix_4 | exact ix_5 | exact ix_6 | exact ix_7), ?_⟩ | refine ⟨by (first | (show sameM _ _; exact ⟨rfl, rfl⟩) | (show mulOk _ _; unfold mulOk; omega) | (show divOk _; unfold divOk; omega) | (show powOk _ _; unfold powOk; decide) | (show _ ≠ _; omega) | (show isNon _ = true; rfl) | exact len_lit (by rfl) | exact len2_lit (by rfl)), ?_⟩ | refine ⟨true, by decide +kernel, ?_⟩ | refine ⟨false, by decide +kernel, ?_⟩ | refine itv_lst ?_ | refine itv_tup ?_ | refine itv_scr ?_ | refine itv_str ?_ | refine itv_dct ?_)); (try (conv => whnf))
  rw [decide_eq_true (rfl : i = i)]
  exact hQ
theorem is_tup_wp {n : Nat} {ds : List D} {m : MS} {d : D} {Q : D × Kd → MS → Prop} (hd : d = .tup ds) (hl : ds.length < sizeLine) (hi : ∀ d ∈ ds, ∀ {Q : D × Kd → MS → Prop}, Q (.bl true, .sh) m → wpx noE (callL n 8 [d, d] m) Q) (hQ : Q (.bl true, .sh) m) : wpx noE (callL (n + 1) 8 [d, d] m) Q := by
  refine wp_callF (F := d_law_is.F) rfl rfl ?_
  have iw : ∀ d ∈ ds, ∀ {Q : D × Kd → MS → Prop}, Q (.bl true, .sh) m → wpx noE (callF (gls.map fun p => p.2.d) (defs.map (·.F)) n 8 [d, d] m) Q := hi
  generalize callF (gls.map fun p => p.2.d) (defs.map (·.F)) n = cf at iw
  have hl2 : ds.length < 16777216 := by rw [← sizeLine_eq]; exact hl
  subst hd
  (repeat ((conv => whnf); first | refine ⟨_, by first | ((with_reducible show L2.atI _ _ = some _); first | exact atI_0 | exact atI_1 | exact atI_2 | exact atI_3 | exact atI_4 | exact atI_5 | exact atI_6 | exact atI_7) | ((with_reducible show L2.ixN _ _ = some _); first | exact ix_0 | exact ix_1 | exact ix_2 | exact ix_3 | exact ix_4 | exact ix_5 | exact ix_6 | exact ix_7), ?_⟩ | refine ⟨by (first | (show sameM _ _; exact ⟨rfl, rfl⟩) | (show mulOk _ _; unfold mulOk; omega) | (show divOk _; unfold divOk; omega) | (show powOk _ _; unfold powOk; decide) | (show _ ≠ _; omega) | (show isNon _ = true; rfl) | exact len_lit (by rfl) | exact len2_lit (by rfl)), ?_⟩ | refine ⟨true, by decide +kernel, ?_⟩ | refine ⟨false, by decide +kernel, ?_⟩ | refine itv_lst ?_ | refine itv_tup ?_ | refine itv_scr ?_ | refine itv_str ?_ | refine itv_dct ?_)); (try (conv => whnf))
  refine condP_f (by simp) ?_
  (repeat ((conv => whnf); first | refine ⟨_, by first | ((with_reducible show L2.atI _ _ = some _); first | exact atI_0 | exact atI_1 | exact atI_2 | exact atI_3 | exact atI_4 | exact atI_5 | exact atI_6 | exact atI_7) | ((with_reducible show L2.ixN _ _ = some _); first | exact ix_0 | exact ix_1 | exact ix_2 | exact ix_3 | exact ix_4 | exact ix_5 | exact ix_6 | exact ix_7), ?_⟩ | refine ⟨by (first | (show sameM _ _; exact ⟨rfl, rfl⟩) | (show mulOk _ _; unfold mulOk; omega) | (show divOk _; unfold divOk; omega) | (show powOk _ _; unfold powOk; decide) | (show _ ≠ _; omega) | (show isNon _ = true; rfl) | exact len_lit (by rfl) | exact len2_lit (by rfl)), ?_⟩ | refine ⟨true, by decide +kernel, ?_⟩ | refine ⟨false, by decide +kernel, ?_⟩ | refine itv_lst ?_ | refine itv_tup ?_ | refine itv_scr ?_ | refine itv_str ?_ | refine itv_dct ?_)); (try (conv => whnf))
  refine ⟨⟨by unfold inR; omega, Nat.le_of_lt (by rw [Int.toNat_natCast]; exact hl)⟩, ?_⟩
  refine ⟨wp_loop (fun es S m' => m' = m ∧ ∃ (i : Nat) (c2 : Slot), es = (rangeL 0 (ds.length : Int)).drop i ∧ S = [some (.tup ds, false), some (.tup ds, false), c2]) (fun e es S m' ⟨hm, i, c2, hd, hS⟩ => ?_) (fun S m' ⟨hm, i, c2, hd, hS⟩ => ?_) _ _ _ ⟨rfl, 0, _, rfl, rfl⟩⟩
  · obtain ⟨i1, rfl, hd2⟩ := range_drop hd
    subst hm hS
    obtain ⟨x, hx, ex⟩ := atI_map (g := id) (xs := ds) (k := 0 + (i : Nat)) (by omega) (by omega)
    rw [List.map_id] at ex
    refine wp_turn ?_
    (repeat ((conv => whnf); first | refine ⟨_, by first | ((with_reducible show L2.atI _ _ = some _); first | exact atI_0 | exact atI_1 | exact atI_2 | exact atI_3 | exact atI_4 | exact atI_5 | exact atI_6 | exact atI_7) | ((with_reducible show L2.ixN _ _ = some _); first | exact ix_0 | exact ix_1 | exact ix_2 | exact ix_3 | exact ix_4 | exact ix_5 | exact ix_6 | exact ix_7), ?_⟩ | refine ⟨by (first | (show sameM _ _; exact ⟨rfl, rfl⟩) | (show mulOk _ _; unfold mulOk; omega) | (show divOk _; unfold divOk; omega) | (show powOk _ _; unfold powOk; decide) | (show _ ≠ _; omega) | (show isNon _ = true; rfl) | exact len_lit (by rfl) | exact len2_lit (by rfl)), ?_⟩ | refine ⟨true, by decide +kernel, ?_⟩ | refine ⟨false, by decide +kernel, ?_⟩ | refine itv_lst ?_ | refine itv_tup ?_ | refine itv_scr ?_ | refine itv_str ?_ | refine itv_dct ?_)); (try (conv => whnf))
    refine ⟨_, ex, ?_⟩
    (repeat ((conv => whnf); first | refine ⟨_, by first | ((with_reducible show L2.atI _ _ = some _); first | exact atI_0 | exact atI_1 | exact atI_2 | exact atI_3 | exact atI_4 | exact atI_5 | exact atI_6 | exact atI_7) | ((with_reducible show L2.ixN _ _ = some _); first | exact ix_0 | exact ix_1 | exact ix_2 | exact ix_3 | exact ix_4 | exact ix_5 | exact ix_6 | exact ix_7), ?_⟩ | refine ⟨by (first | (show sameM _ _; exact ⟨rfl, rfl⟩) | (show mulOk _ _; unfold mulOk; omega) | (show divOk _; unfold divOk; omega) | (show powOk _ _; unfold powOk; decide) | (show _ ≠ _; omega) | (show isNon _ = true; rfl) | exact len_lit (by rfl) | exact len2_lit (by rfl)), ?_⟩ | refine ⟨true, by decide +kernel, ?_⟩ | refine ⟨false, by decide +kernel, ?_⟩ | refine itv_lst ?_ | refine itv_tup ?_ | refine itv_scr ?_ | refine itv_str ?_ | refine itv_dct ?_)); (try (conv => whnf))
    refine ⟨_, ex, ?_⟩
    (repeat ((conv => whnf); first | refine ⟨_, by first | ((with_reducible show L2.atI _ _ = some _); first | exact atI_0 | exact atI_1 | exact atI_2 | exact atI_3 | exact atI_4 | exact atI_5 | exact atI_6 | exact atI_7) | ((with_reducible show L2.ixN _ _ = some _); first | exact ix_0 | exact ix_1 | exact ix_2 | exact ix_3 | exact ix_4 | exact ix_5 | exact ix_6 | exact ix_7), ?_⟩ | refine ⟨by (first | (show sameM _ _; exact ⟨rfl, rfl⟩) | (show mulOk _ _; unfold mulOk; omega) | (show divOk _; unfold divOk; omega) | (show powOk _ _; unfold powOk; decide) | (show _ ≠ _; omega) | (show isNon _ = true; rfl) | exact len_lit (by rfl) | exact len2_lit (by rfl)), ?_⟩ | refine ⟨true, by decide +kernel, ?_⟩ | refine ⟨false, by decide +kernel, ?_⟩ | refine itv_lst ?_ | refine itv_tup ?_ | refine itv_scr ?_ | refine itv_str ?_ | refine itv_dct ?_)); (try (conv => whnf))
    refine ⟨iw _ (List.mem_of_getElem? hx) ?_⟩
    (repeat ((conv => whnf); first | refine ⟨_, by first | ((with_reducible show L2.atI _ _ = some _); first | exact atI_0 | exact atI_1 | exact atI_2 | exact atI_3 | exact atI_4 | exact atI_5 | exact atI_6 | exact atI_7) | ((with_reducible show L2.ixN _ _ = some _); first | exact ix_0 | exact ix_1 | exact ix_2 | exact ix_3 | exact ix_4 | exact ix_5 | exact ix_6 | exact ix_7), ?_⟩ | refine ⟨by (first | (show sameM _ _; exact ⟨rfl, rfl⟩) | (show mulOk _ _; unfold mulOk; omega) | (show divOk _; unfold divOk; omega) | (show powOk _ _; unfold powOk; decide) | (show _ ≠ _; omega) | (show isNon _ = true; rfl) | exact len_lit (by rfl) | exact len2_lit (by rfl)), ?_⟩ | refine ⟨true, by decide +kernel, ?_⟩ | refine ⟨false, by decide +kernel, ?_⟩ | refine itv_lst ?_ | refine itv_tup ?_ | refine itv_scr ?_ | refine itv_str ?_ | refine itv_dct ?_)); (try (conv => whnf))
    exact ⟨rfl, i + 1, _, hd2, rfl⟩
  · subst hm hS
    (repeat ((conv => whnf); first | refine ⟨_, by first | ((with_reducible show L2.atI _ _ = some _); first | exact atI_0 | exact atI_1 | exact atI_2 | exact atI_3 | exact atI_4 | exact atI_5 | exact atI_6 | exact atI_7) | ((with_reducible show L2.ixN _ _ = some _); first | exact ix_0 | exact ix_1 | exact ix_2 | exact ix_3 | exact ix_4 | exact ix_5 | exact ix_6 | exact ix_7), ?_⟩ | refine ⟨by (first | (show sameM _ _; exact ⟨rfl, rfl⟩) | (show mulOk _ _; unfold mulOk; omega) | (show divOk _; unfold divOk; omega) | (show powOk _ _; unfold powOk; decide) | (show _ ≠ _; omega) | (show isNon _ = true; rfl) | exact len_lit (by rfl) | exact len2_lit (by rfl)), ?_⟩ | refine ⟨true, by decide +kernel, ?_⟩ | refine ⟨false, by decide +kernel, ?_⟩ | refine itv_lst ?_ | refine itv_tup ?_ | refine itv_scr ?_ | refine itv_str ?_ | refine itv_dct ?_)); (try (conv => whnf))
    exact hQ
theorem is_lst_wp {n : Nat} {ds : List D} {m : MS} {d : D} {Q : D × Kd → MS → Prop} (hd : d = .lst ds) (hl : ds.length < sizeLine) (hi : ∀ d ∈ ds, ∀ {Q : D × Kd → MS → Prop}, Q (.bl true, .sh) m → wpx noE (callL n 8 [d, d] m) Q) (hQ : Q (.bl true, .sh) m) : wpx noE (callL (n + 1) 8 [d, d] m) Q := by
  refine wp_callF (F := d_law_is.F) rfl rfl ?_
  have iw : ∀ d ∈ ds, ∀ {Q : D × Kd → MS → Prop}, Q (.bl true, .sh) m → wpx noE (callF (gls.map fun p => p.2.d) (defs.map (·.F)) n 8 [d, d] m) Q := hi
  generalize callF (gls.map fun p => p.2.d) (defs.map (·.F)) n = cf at iw
  have hl2 : ds.length < 16777216 := by rw [← sizeLine_eq]; exact hl
  subst hd
  (repeat ((conv => whnf); first | refine ⟨_, by first | ((with_reducible show L2.atI _ _ = some _); first | exact atI_0 | exact atI_1 | exact atI_2 | exact atI_3 | exact atI_4 | exact atI_5 | exact atI_6 | exact atI_7) | ((with_reducible show L2.ixN _ _ = some _); first | exact ix_0 | exact ix_1 | exact ix_2 | exact ix_3 | exact ix_4 | exact ix_5 | exact ix_6 | exact ix_7), ?_⟩ | refine ⟨by (first | (show sameM _ _; exact ⟨rfl, rfl⟩) | (show mulOk _ _; unfold mulOk; omega) | (show divOk _; unfold divOk; omega) | (show powOk _ _; unfold powOk; decide) | (show _ ≠ _; omega) | (show isNon _ = true; rfl) | exact len_lit (by rfl) | exact len2_lit (by rfl)), ?_⟩ | refine ⟨true, by decide +kernel, ?_⟩ | refine ⟨false, by decide +kernel, ?_⟩ | refine itv_lst ?_ | refine itv_tup ?_ | refine itv_scr ?_ | refine itv_str ?_ | refine itv_dct ?_)); (try (conv => whnf))
  refine condP_f (by simp) ?_
  (repeat ((conv => whnf); first | refine ⟨_, by first | ((with_reducible show L2.atI _ _ = some _); first | exact atI_0 | exact atI_1 | exact atI_2 | exact atI_3 | exact atI_4 | exact atI_5 | exact atI_6 | exact atI_7) | ((with_reducible show L2.ixN _ _ = some _); first | exact ix_0 | exact ix_1 | exact ix_2 | exact ix_3 | exact ix_4 | exact ix_5 | exact ix_6 | exact ix_7), ?_⟩ | refine ⟨by (first | (show sameM _ _; exact ⟨rfl, rfl⟩) | (show mulOk _ _; unfold mulOk; omega) | (show divOk _; unfold divOk; omega) | (show powOk _ _; unfold powOk; decide) | (show _ ≠ _; omega) | (show isNon _ = true; rfl) | exact len_lit (by rfl) | exact len2_lit (by rfl)), ?_⟩ | refine ⟨true, by decide +kernel, ?_⟩ | refine ⟨false, by decide +kernel, ?_⟩ | refine itv_lst ?_ | refine itv_tup ?_ | refine itv_scr ?_ | refine itv_str ?_ | refine itv_dct ?_)); (try (conv => whnf))
  refine ⟨⟨by unfold inR; omega, Nat.le_of_lt (by rw [Int.toNat_natCast]; exact hl)⟩, ?_⟩
  refine ⟨wp_loop (fun es S m' => m' = m ∧ ∃ (i : Nat) (c2 : Slot), es = (rangeL 0 (ds.length : Int)).drop i ∧ S = [some (.lst ds, false), some (.lst ds, false), c2]) (fun e es S m' ⟨hm, i, c2, hd, hS⟩ => ?_) (fun S m' ⟨hm, i, c2, hd, hS⟩ => ?_) _ _ _ ⟨rfl, 0, _, rfl, rfl⟩⟩
  · obtain ⟨i1, rfl, hd2⟩ := range_drop hd
    subst hm hS
    obtain ⟨x, hx, ex⟩ := atI_map (g := id) (xs := ds) (k := 0 + (i : Nat)) (by omega) (by omega)
    rw [List.map_id] at ex
    refine wp_turn ?_
    (repeat ((conv => whnf); first | refine ⟨_, by first | ((with_reducible show L2.atI _ _ = some _); first | exact atI_0 | exact atI_1 | exact atI_2 | exact atI_3 | exact atI_4 | exact atI_5 | exact atI_6 | exact atI_7) | ((with_reducible show L2.ixN _ _ = some _); first | exact ix_0 | exact ix_1 | exact ix_2 | exact ix_3 | exact ix_4 | exact ix_5 | exact ix_6 | exact ix_7), ?_⟩ | refine ⟨by (first | (show sameM _ _; exact ⟨rfl, rfl⟩) | (show mulOk _ _; unfold mulOk; omega) | (show divOk _; unfold divOk; omega) | (show powOk _ _; unfold powOk; decide) | (show _ ≠ _; omega) | (show isNon _ = true; rfl) | exact len_lit (by rfl) | exact len2_lit (by rfl)), ?_⟩ | refine ⟨true, by decide +kernel, ?_⟩ | refine ⟨false, by decide +kernel, ?_⟩ | refine itv_lst ?_ | refine itv_tup ?_ | refine itv_scr ?_ | refine itv_str ?_ | refine itv_dct ?_)); (try (conv => whnf))
    refine ⟨_, ex, ?_⟩
    (repeat ((conv => whnf); first | refine ⟨_, by first | ((with_reducible show L2.atI _ _ = some _); first | exact atI_0 | exact atI_1 | exact atI_2 | exact atI_3 | exact atI_4 | exact atI_5 | exact atI_6 | exact atI_7) | ((with_reducible show L2.ixN _ _ = some _); first | exact ix_0 | exact ix_1 | exact ix_2 | exact ix_3 | exact ix_4 | exact ix_5 | exact ix_6 | exact ix_7), ?_⟩ | refine ⟨by (first | (show sameM _ _; exact ⟨rfl, rfl⟩) | (show mulOk _ _; unfold mulOk; omega) | (show divOk _; unfold divOk; omega) | (show powOk _ _; unfold powOk; decide) | (show _ ≠ _; omega) | (show isNon _ = true; rfl) | exact len_lit (by rfl) | exact len2_lit (by rfl)), ?_⟩ | refine ⟨true, by decide +kernel, ?_⟩ | refine ⟨false, by decide +kernel, ?_⟩ | refine itv_lst ?_ | refine itv_tup ?_ | refine itv_scr ?_ | refine itv_str ?_ | refine itv_dct ?_)); (try (conv => whnf))
    refine ⟨_, ex, ?_⟩
    (repeat ((conv => whnf); first | refine ⟨_, by first | ((with_reducible show L2.atI _ _ = some _); first | exact atI_0 | exact atI_1 | exact atI_2 | exact atI_3 | exact atI_4 | exact atI_5 | exact atI_6 | exact atI_7) | ((with_reducible show L2.ixN _ _ = some _); first | exact ix_0 | exact ix_1 | exact ix_2 | exact ix_3 | exact ix_4 | exact ix_5 | exact ix_6 | exact ix_7), ?_⟩ | refine ⟨by (first | (show sameM _ _; exact ⟨rfl, rfl⟩) | (show mulOk _ _; unfold mulOk; omega) | (show divOk _; unfold divOk; omega) | (show powOk _ _; unfold powOk; decide) | (show _ ≠ _; omega) | (show isNon _ = true; rfl) | exact len_lit (by rfl) | exact len2_lit (by rfl)), ?_⟩ | refine ⟨true, by decide +kernel, ?_⟩ | refine ⟨false, by decide +kernel, ?_⟩ | refine itv_lst ?_ | refine itv_tup ?_ | refine itv_scr ?_ | refine itv_str ?_ | refine itv_dct ?_)); (try (conv => whnf))
    refine ⟨iw _ (List.mem_of_getElem? hx) ?_⟩
    (repeat ((conv => whnf); first | refine ⟨_, by first | ((with_reducible show L2.atI _ _ = some _); first | exact atI_0 | exact atI_1 | exact atI_2 | exact atI_3 | exact atI_4 | exact atI_5 | exact atI_6 | exact atI_7) | ((with_reducible show L2.ixN _ _ = some _); first | exact ix_0 | exact ix_1 | exact ix_2 | exact ix_3 | exact ix_4 | exact ix_5 | exact ix_6 | exact ix_7), ?_⟩ | refine ⟨by (first | (show sameM _ _; exact ⟨rfl, rfl⟩) | (show mulOk _ _; unfold mulOk; omega) | (show divOk _; unfold divOk; omega) | (show powOk _ _; unfold powOk; decide) | (show _ ≠ _; omega) | (show isNon _ = true; rfl) | exact len_lit (by rfl) | exact len2_lit (by rfl)), ?_⟩ | refine ⟨true, by decide +kernel, ?_⟩ | refine ⟨false, by decide +kernel, ?_⟩ | refine itv_lst ?_ | refine itv_tup ?_ | refine itv_scr ?_ | refine itv_str ?_ | refine itv_dct ?_)); (try (conv => whnf))
    exact ⟨rfl, i + 1, _, hd2, rfl⟩
  · subst hm hS
    (repeat ((conv => whnf); first | refine ⟨_, by first | ((with_reducible show L2.atI _ _ = some _); first | exact atI_0 | exact atI_1 | exact atI_2 | exact atI_3 | exact atI_4 | exact atI_5 | exact atI_6 | exact atI_7) | ((with_reducible show L2.ixN _ _ = some _); first | exact ix_0 | exact ix_1 | exact ix_2 | exact ix_3 | exact ix_4 | exact ix_5 | exact ix_6 | exact ix_7), ?_⟩ | refine ⟨by (first | (show sameM _ _; exact ⟨rfl, rfl⟩) | (show mulOk _ _; unfold mulOk; omega) | (show divOk _; unfold divOk; omega) | (show powOk _ _; unfold powOk; decide) | (show _ ≠ _; omega) | (show isNon _ = true; rfl) | exact len_lit (by rfl) | exact len2_lit (by rfl)), ?_⟩ | refine ⟨true, by decide +kernel, ?_⟩ | refine ⟨false, by decide +kernel, ?_⟩ | refine itv_lst ?_ | refine itv_tup ?_ | refine itv_scr ?_ | refine itv_str ?_ | refine itv_dct ?_)); (try (conv => whnf))
    exact hQ
theorem is_ref_wp {n : Nat} {ds : List D} {m : MS} {k : Nat} {Q : D × Kd → MS → Prop} (hl : ds.length < sizeLine) (hi : ∀ d ∈ ds, ∀ {Q : D × Kd → MS → Prop}, Q (.bl true, .sh) m → wpx noE (callL n 8 [d, d] m) Q) (hk : m.objs[k]? = some (.lst ds)) (hQ : Q (.bl true, .sh) m) : wpx noE (callL (n + 1) 8 [.ref k, .lst ds] m) Q := by
  refine wp_callF (F := d_law_is.F) rfl rfl ?_
  have iw : ∀ d ∈ ds, ∀ {Q : D × Kd → MS → Prop}, Q (.bl true, .sh) m → wpx noE (callF (gls.map fun p => p.2.d) (defs.map (·.F)) n 8 [d, d] m) Q := hi
  generalize callF (gls.map fun p => p.2.d) (defs.map (·.F)) n = cf at iw
  have hl2 : ds.length < 16777216 := by rw [← sizeLine_eq]; exact hl
  have e1 : isiD .tuple (.ref k) m = some false := by simp [isiD, hk]
  have e2 : isiD .list (.ref k) m = some true := by simp [isiD, hk]
  have e3 : bltD .len [.ref k] m = some (.int ds.length, .sh) := by simp [bltD, lenD, itemsD, hk]
  (repeat ((conv => whnf); first | refine ⟨_, by first | ((with_reducible show L2.atI _ _ = some _); first | exact atI_0 | exact atI_1 | exact atI_2 | exact atI_3 | exact atI_4 | exact atI_5 | exact atI_6 | exact atI_7) | ((with_reducible show L2.ixN _ _ = some _); first | exact ix_0 | exact ix_1 | exact ix_2 | exact ix_3 | exact ix_4 | exact ix_5 | exact ix_6 | exact ix_7), ?_⟩ | refine ⟨by (first | (show sameM _ _; exact ⟨rfl, rfl⟩) | (show mulOk _ _; unfold mulOk; omega) | (show divOk _; unfold divOk; omega) | (show powOk _ _; unfold powOk; decide) | (show _ ≠ _; omega) | (show isNon _ = true; rfl) | exact len_lit (by rfl) | exact len2_lit (by rfl)), ?_⟩ | refine ⟨true, by decide +kernel, ?_⟩ | refine ⟨false, by decide +kernel, ?_⟩ | refine itv_lst ?_ | refine itv_tup ?_ | refine itv_scr ?_ | refine itv_str ?_ | refine itv_dct ?_)); (try (conv => whnf))
  show optP (isiD .tuple (.ref k) m) _
  rw [e1]
  (repeat ((conv => whnf); first | refine ⟨_, by first | ((with_reducible show L2.atI _ _ = some _); first | exact atI_0 | exact atI_1 | exact atI_2 | exact atI_3 | exact atI_4 | exact atI_5 | exact atI_6 | exact atI_7) | ((with_reducible show L2.ixN _ _ = some _); first | exact ix_0 | exact ix_1 | exact ix_2 | exact ix_3 | exact ix_4 | exact ix_5 | exact ix_6 | exact ix_7), ?_⟩ | refine ⟨by (first | (show sameM _ _; exact ⟨rfl, rfl⟩) | (show mulOk _ _; unfold mulOk; omega) | (show divOk _; unfold divOk; omega) | (show powOk _ _; unfold powOk; decide) | (show _ ≠ _; omega) | (show isNon _ = true; rfl) | exact len_lit (by rfl) | exact len2_lit (by rfl)), ?_⟩ | refine ⟨true, by decide +kernel, ?_⟩ | refine ⟨false, by decide +kernel, ?_⟩ | refine itv_lst ?_ | refine itv_tup ?_ | refine itv_scr ?_ | refine itv_str ?_ | refine itv_dct ?_)); (try (conv => whnf))
  show optP (isiD .list (.ref k) m) _
  rw [e2]
  (repeat ((conv => whnf); first | refine ⟨_, by first | ((with_reducible show L2.atI _ _ = some _); first | exact atI_0 | exact atI_1 | exact atI_2 | exact atI_3 | exact atI_4 | exact atI_5 | exact atI_6 | exact atI_7) | ((with_reducible show L2.ixN _ _ = some _); first | exact ix_0 | exact ix_1 | exact ix_2 | exact ix_3 | exact ix_4 | exact ix_5 | exact ix_6 | exact ix_7), ?_⟩ | refine ⟨by (first | (show sameM _ _; exact ⟨rfl, rfl⟩) | (show mulOk _ _; unfold mulOk; omega) | (show divOk _; unfold divOk; omega) | (show powOk _ _; unfold powOk; decide) | (show _ ≠ _; omega) | (show isNon _ = true; rfl) | exact len_lit (by rfl) | exact len2_lit (by rfl)), ?_⟩ | refine ⟨true, by decide +kernel, ?_⟩ | refine ⟨false, by decide +kernel, ?_⟩ | refine itv_lst ?_ | refine itv_tup ?_ | refine itv_scr ?_ | refine itv_str ?_ | refine itv_dct ?_)); (try (conv => whnf))
  show optP (bltD .len [.ref k] m) _
  rw [e3]
  (repeat ((conv => whnf); first | refine ⟨_, by first | ((with_reducible show L2.atI _ _ = some _); first | exact atI_0 | exact atI_1 | exact atI_2 | exact atI_3 | exact atI_4 | exact atI_5 | exact atI_6 | exact atI_7) | ((with_reducible show L2.ixN _ _ = some _); first | exact ix_0 | exact ix_1 | exact ix_2 | exact ix_3 | exact ix_4 | exact ix_5 | exact ix_6 | exact ix_7), ?_⟩ | refine ⟨by (first | (show sameM _ _; exact ⟨rfl, rfl⟩) | (show mulOk _ _; unfold mulOk; omega) | (show divOk _; unfold divOk; omega) | (show powOk _ _; unfold powOk; decide) | (show _ ≠ _; omega) | (show isNon _ = true; rfl) | exact len_lit (by rfl) | exact len2_lit (by rfl)), ?_⟩ | refine ⟨true, by decide +kernel, ?_⟩ | refine ⟨false, by decide +kernel, ?_⟩ | refine itv_lst ?_ | refine itv_tup ?_ | refine itv_scr ?_ | refine itv_str ?_ | refine itv_dct ?_)); (try (conv => whnf))
  refine condP_f (by simp) ?_
  (repeat ((conv => whnf); first | refine ⟨_, by first | ((with_reducible show L2.atI _ _ = some _); first | exact atI_0 | exact atI_1 | exact atI_2 | exact atI_3 | exact atI_4 | exact atI_5 | exact atI_6 | exact atI_7) | ((with_reducible show L2.ixN _ _ = some _); first | exact ix_0 | exact ix_1 | exact ix_2 | exact ix_3 | exact ix_4 | exact ix_5 | exact ix_6 | exact ix_7), ?_⟩ | refine ⟨by (first | (show sameM _ _; exact ⟨rfl, rfl⟩) | (show mulOk _ _; unfold mulOk; omega) | (show divOk _; unfold divOk; omega) | (show powOk _ _; unfold powOk; decide) | (show _ ≠ _; omega) | (show isNon _ = true; rfl) | exact len_lit (by rfl) | exact len2_lit (by rfl)), ?_⟩ | refine ⟨true, by decide +kernel, ?_⟩ | refine ⟨false, by decide +kernel, ?_⟩ | refine itv_lst ?_ | refine itv_tup ?_ | refine itv_scr ?_ | refine itv_str ?_ | refine itv_dct ?_)); (try (conv => whnf))
  refine ⟨⟨by unfold inR; omega, Nat.le_of_lt (by rw [Int.toNat_natCast]; exact hl)⟩, ?_⟩
  refine ⟨wp_loop (fun es S m' => m' = m ∧ ∃ (i : Nat) (c2 : Slot), es = (rangeL 0 (ds.length : Int)).drop i ∧ S = [some (.ref k, false), some (.lst ds, false), c2]) (fun e es S m' ⟨hm, i, c2, hd, hS⟩ => ?_) (fun S m' ⟨hm, i, c2, hd, hS⟩ => ?_) _ _ _ ⟨rfl, 0, _, rfl, rfl⟩⟩
  · obtain ⟨i1, rfl, hd2⟩ := range_drop hd
    subst hm hS
    obtain ⟨x, hx, ex⟩ := atI_map (g := id) (xs := ds) (k := 0 + (i : Nat)) (by omega) (by omega)
    rw [List.map_id] at ex
    refine wp_turn ?_
    (repeat ((conv => whnf); first | refine ⟨_, by first | ((with_reducible show L2.atI _ _ = some _); first | exact atI_0 | exact atI_1 | exact atI_2 | exact atI_3 | exact atI_4 | exact atI_5 | exact atI_6 | exact atI_7) | ((with_reducible show L2.ixN _ _ = some _); first | exact ix_0 | exact ix_1 | exact ix_2 | exact ix_3 | exact ix_4 | exact ix_5 | exact ix_6 | exact ix_7), ?_⟩ | refine ⟨by (first | (show sameM _ _; exact ⟨rfl, rfl⟩) | (show mulOk _ _; unfold mulOk; omega) | (show divOk _; unfold divOk; omega) | (show powOk _ _; unfold powOk; decide) | (show _ ≠ _; omega) | (show isNon _ = true; rfl) | exact len_lit (by rfl) | exact len2_lit (by rfl)), ?_⟩ | refine ⟨true, by decide +kernel, ?_⟩ | refine ⟨false, by decide +kernel, ?_⟩ | refine itv_lst ?_ | refine itv_tup ?_ | refine itv_scr ?_ | refine itv_str ?_ | refine itv_dct ?_)); (try (conv => whnf))
    rw [hk]
    (repeat ((conv => whnf); first | refine ⟨_, by first | ((with_reducible show L2.atI _ _ = some _); first | exact atI_0 | exact atI_1 | exact atI_2 | exact atI_3 | exact atI_4 | exact atI_5 | exact atI_6 | exact atI_7) | ((with_reducible show L2.ixN _ _ = some _); first | exact ix_0 | exact ix_1 | exact ix_2 | exact ix_3 | exact ix_4 | exact ix_5 | exact ix_6 | exact ix_7), ?_⟩ | refine ⟨by (first | (show sameM _ _; exact ⟨rfl, rfl⟩) | (show mulOk _ _; unfold mulOk; omega) | (show divOk _; unfold divOk; omega) | (show powOk _ _; unfold powOk; decide) | (show _ ≠ _; omega) | (show isNon _ = true; rfl) | exact len_lit (by rfl) | exact len2_lit (by rfl)), ?_⟩ | refine ⟨true, by decide +kernel, ?_⟩ | refine ⟨false, by decide +kernel, ?_⟩ | refine itv_lst ?_ | refine itv_tup ?_ | refine itv_scr ?_ | refine itv_str ?_ | refine itv_dct ?_)); (try (conv => whnf))
    refine ⟨_, ex, ?_⟩
    (repeat ((conv => whnf); first | refine ⟨_, by first | ((with_reducible show L2.atI _ _ = some _); first | exact atI_0 | exact atI_1 | exact atI_2 | exact atI_3 | exact atI_4 | exact atI_5 | exact atI_6 | exact atI_7) | ((with_reducible show L2.ixN _ _ = some _); first | exact ix_0 | exact ix_1 | exact ix_2 | exact ix_3 | exact ix_4 | exact ix_5 | exact ix_6 | exact ix_7), ?_⟩ | refine ⟨by (first | (show sameM _ _; exact ⟨rfl, rfl⟩) | (show mulOk _ _; unfold mulOk; omega) | (show divOk _; unfold divOk; omega) | (show powOk _ _; unfold powOk; decide) | (show _ ≠ _; omega) | (show isNon _ = true; rfl) | exact len_lit (by rfl) | exact len2_lit (by rfl)), ?_⟩ | refine ⟨true, by decide +kernel, ?_⟩ | refine ⟨false, by decide +kernel, ?_⟩ | refine itv_lst ?_ | refine itv_tup ?_ | refine itv_scr ?_ | refine itv_str ?_ | refine itv_dct ?_)); (try (conv => whnf))
    refine ⟨_, ex, ?_⟩
    (repeat ((conv => whnf); first | refine ⟨_, by first | ((with_reducible show L2.atI _ _ = some _); first | exact atI_0 | exact atI_1 | exact atI_2 | exact atI_3 | exact atI_4 | exact atI_5 | exact atI_6 | exact atI_7) | ((with_reducible show L2.ixN _ _ = some _); first | exact ix_0 | exact ix_1 | exact ix_2 | exact ix_3 | exact ix_4 | exact ix_5 | exact ix_6 | exact ix_7), ?_⟩ | refine ⟨by (first | (show sameM _ _; exact ⟨rfl, rfl⟩) | (show mulOk _ _; unfold mulOk; omega) | (show divOk _; unfold divOk; omega) | (show powOk _ _; unfold powOk; decide) | (show _ ≠ _; omega) | (show isNon _ = true; rfl) | exact len_lit (by rfl) | exact len2_lit (by rfl)), ?_⟩ | refine ⟨true, by decide +kernel, ?_⟩ | refine ⟨false, by decide +kernel, ?_⟩ | refine itv_lst ?_ | refine itv_tup ?_ | refine itv_scr ?_ | refine itv_str ?_ | refine itv_dct ?_)); (try (conv => whnf))
    refine ⟨iw _ (List.mem_of_getElem? hx) ?_⟩
    (repeat ((conv => whnf); first | refine ⟨_, by first | ((with_reducible show L2.atI _ _ = some _); first | exact atI_0 | exact atI_1 | exact atI_2 | exact atI_3 | exact atI_4 | exact atI_5 | exact atI_6 | exact atI_7) | ((with_reducible show L2.ixN _ _ = some _); first | exact ix_0 | exact ix_1 | exact ix_2 | exact ix_3 | exact ix_4 | exact ix_5 | exact ix_6 | exact ix_7), ?_⟩ | refine ⟨by (first | (show sameM _ _; exact ⟨rfl, rfl⟩) | (show mulOk _ _; unfold mulOk; omega) | (show divOk _; unfold divOk; omega) | (show powOk _ _; unfold powOk; decide) | (show _ ≠ _; omega) | (show isNon _ = true; rfl) | exact len_lit (by rfl) | exact len2_lit (by rfl)), ?_⟩ | refine ⟨true, by decide +kernel, ?_⟩ | refine ⟨false, by decide +kernel, ?_⟩ | refine itv_lst ?_ | refine itv_tup ?_ | refine itv_scr ?_ | refine itv_str ?_ | refine itv_dct ?_)); (try (conv => whnf))
    exact ⟨rfl, i + 1, _, hd2, rfl⟩
  · subst hm hS
    (repeat ((conv => whnf); first | refine ⟨_, by first | ((with_reducible show L2.atI _ _ = some _); first | exact atI_0 | exact atI_1 | exact atI_2 | exact atI_3 | exact atI_4 | exact atI_5 | exact atI_6 | exact atI_7) | ((with_reducible show L2.ixN _ _ = some _); first | exact ix_0 | exact ix_1 | exact ix_2 | exact ix_3 | exact ix_4 | exact ix_5 | exact ix_6 | exact ix_7), ?_⟩ | refine ⟨by (first | (show sameM _ _; exact ⟨rfl, rfl⟩) | (show mulOk _ _; unfold mulOk; omega) | (show divOk _; unfold divOk; omega) | (show powOk _ _; unfold powOk; decide) | (show _ ≠ _; omega) | (show isNon _ = true; rfl) | exact len_lit (by rfl) | exact len2_lit (by rfl)), ?_⟩ | refine ⟨true, by decide +kernel, ?_⟩ | refine ⟨false, by decide +kernel, ?_⟩ | refine itv_lst ?_ | refine itv_tup ?_ | refine itv_scr ?_ | refine itv_str ?_ | refine itv_dct ?_)); (try (conv => whnf))
    exact hQ
theorem is_row_wp {n : Nat} {c : Rc} {d : D} {m : MS} {Q : D × Kd → MS → Prop} (hd : d = c.d) (hQ : Q (.bl true, .sh) m) : wpx noE (callL (n + 1 + 1) 8 [d, d] m) Q := by
  have e : d = .tup [.int c.l, .int c.t, .int c.r, .int c.b] := hd
  have i : ∀ e ∈ [D.int c.l, .int c.t, .int c.r, .int c.b], ∀ {Q : D × Kd → MS → Prop}, Q (.bl true, .sh) m → wpx noE (callL (n + 1) 8 [e, e] m) Q := fun e he {Q} q => by
    simp only [List.mem_cons, List.not_mem_nil, or_false] at he
    rcases he with rfl | rfl | rfl | rfl
    · exact is_int_wp (i := c.l) q
    · exact is_int_wp (i := c.t) q
    · exact is_int_wp (i := c.r) q
    · exact is_int_wp (i := c.b) q
  have z : [D.int c.l, .int c.t, .int c.r, .int c.b].length < sizeLine := small (n := 4) (by omega)
  generalize [D.int c.l, .int c.t, .int c.r, .int c.b] = ds at e i z
  exact is_tup_wp (n := n + 1) e z i hQ
theorem is_rows_wp {n : Nat} {rs : List Rc} {m : MS} {Q : D × Kd → MS → Prop} (hl : rs.length ≤ 16000000) (hQ : Q (.bl true, .sh) m) : wpx noE (callL (n + 1 + 1 + 1) 8 [.lst (rs.map Rc.d), .lst (rs.map Rc.d)] m) Q := by
  have i : ∀ d ∈ rs.map Rc.d, ∀ {Q : D × Kd → MS → Prop}, Q (.bl true, .sh) m → wpx noE (callL (n + 1 + 1) 8 [d, d] m) Q := fun d hd {Q} q => by
    obtain ⟨c, _, e⟩ := List.mem_map.mp hd
    exact is_row_wp (n := n) e.symm q
  have z : (rs.map Rc.d).length < sizeLine := by rw [lenm]; exact small hl
  generalize rs.map Rc.d = ds at i z
  exact is_lst_wp (n := n + 1 + 1) rfl z i hQ
theorem is_store_wp {n k : Nat} {rs : List Rc} {m : MS} {Q : D × Kd → MS → Prop} (hl : rs.length ≤ 16000000) (hk : m.objs[k]? = some (.lst (rs.map Rc.d))) (hQ : Q (.bl true, .sh) m) : wpx noE (callL (n + 1 + 1 + 1) 8 [.ref k, .lst (rs.map Rc.d)] m) Q := by
  have i : ∀ d ∈ rs.map Rc.d, ∀ {Q : D × Kd → MS → Prop}, Q (.bl true, .sh) m → wpx noE (callL (n + 1 + 1) 8 [d, d] m) Q := fun d hd {Q} q => by
    obtain ⟨c, _, e⟩ := List.mem_map.mp hd
    exact is_row_wp (n := n) e.symm q
  have z : (rs.map Rc.d).length < sizeLine := by rw [lenm]; exact small hl
  generalize rs.map Rc.d = ds at i z hk
  exact is_ref_wp (n := n + 1 + 1) z i hk hQ
/-! ### moved -/
def shP (u v : Int) (p : Pt) : Pt := (p.1 + u, p.2 + v)
def shR (u v : Int) (c : Rc) : Rc := ⟨c.l + u, c.t + v, c.r + u, c.b + v⟩
theorem shR_back (u v : Int) (rs : List Rc) : (rs.map (shR u v)).map (shR (-u) (-v)) = rs := by
  rw [List.map_map]
  refine (List.map_congr_left fun c _ => ?_).trans (List.map_id rs)
  obtain ⟨l, t, r, b⟩ := c
  show (⟨l + u + -u, t + v + -v, r + u + -u, b + v + -v⟩ : Rc) = ⟨l, t, r, b⟩
  congr 1 <;> omega
theorem pt_sh (u v : Int) (rs : List Rc) (x y : Int) : pt (rs.map (shR u v)) x y = pt rs (x - u) (y - v) := by
  rw [Bool.eq_iff_iff, pt_iff, pt_iff]
  constructor
  · rintro ⟨c, hc, h1, h2, h3, h4⟩
    obtain ⟨d, hd, rfl⟩ := List.mem_map.mp hc
    have h1 : d.l + u ≤ x := h1
    have h2 : x < d.r + u := h2
    have h3 : d.t + v ≤ y := h3
    have h4 : y < d.b + v := h4
    exact ⟨d, hd, by omega, by omega, by omega, by omega⟩
  · rintro ⟨d, hd, h1, h2, h3, h4⟩
    exact ⟨_, List.mem_map.mpr ⟨d, hd, rfl⟩, by show d.l + u ≤ x; omega, by show x < d.r + u; omega, by show d.t + v ≤ y; omega, by show y < d.b + v; omega⟩
theorem nf_sh {V W : Type} {z : V} {y : W} (u : Int) (f : V → W) (hf : ∀ v, f v = y → v = z) (inj : ∀ a b, f a = f b → a = b) {l : List (Cell V)} (h : NF z l) : NF y (l.map fun c => (⟨c.a + u, c.b + u, f c.v⟩ : Cell W)) := by
  refine ⟨fun c hc => ?_, fun c hc => ?_, ?_⟩
  · obtain ⟨d, hd, rfl⟩ := List.mem_map.mp hc
    have := h.lt d hd
    show d.a + u < d.b + u
    omega
  · obtain ⟨d, hd, rfl⟩ := List.mem_map.mp hc
    exact fun e => h.nz d hd (hf _ e)
  · refine List.pairwise_map.mpr (h.pw.imp fun {p q} k => ⟨by have := k.1; show p.b + u ≤ q.a + u; omega, fun e => ?_⟩)
    have e : p.b + u = q.a + u := e
    exact fun e2 => k.2 (by omega) (inj _ _ e2)
theorem canon_sh (u v : Int) {rs : List Rc} (h : Canon rs) : Canon (rs.map (shR u v)) := by
  obtain ⟨bs, n, m, rfl⟩ := h
  refine ⟨bs.map fun c => ⟨c.a + v, c.b + v, c.v.map fun p => (p.1 + u, p.2 + u)⟩, nf_sh v _ (fun r e => by cases r with | nil => rfl | cons _ _ => cases e) (fun a b e => ?_) n, fun c hc => ?_, ?_⟩
  · refine List.map_inj_right (fun p q e => ?_) |>.mp e
    obtain ⟨p1, p2⟩ := p
    obtain ⟨q1, q2⟩ := q
    injection e with e1 e2
    have e1 : p1 + u = q1 + u := e1
    have e2 : p2 + u = q2 + u := e2
    congr 1 <;> omega
  · obtain ⟨d, hd, rfl⟩ := List.mem_map.mp hc
    have := nf_sh (y := false) u id (fun b e => e) (fun a b e => e) (m d hd)
    rw [List.map_map] at this
    rw [List.map_map]
    exact this
  · unfold flat
    rw [List.map_flatMap, List.flatMap_map]
    congr 1
    funext c
    rw [List.map_map, List.map_map]
    rfl
theorem shP_nodup (u v : Int) {ps : List Pt} (h : ps.Nodup) : (ps.map (shP u v)).Nodup := by
  refine List.pairwise_map.mpr (h.imp fun {p q} n e => n ?_)
  obtain ⟨p1, p2⟩ := p
  obtain ⟨q1, q2⟩ := q
  injection e with e1 e2
  have e1 : p1 + u = q1 + u := e1
  have e2 : p2 + v = q2 + v := e2
  congr 1 <;> omega
theorem form_sh (u v : Int) {ps : List Pt} (h : ps.Nodup) : form (ps.map (shP u v)) = (form ps).map (shR u v) := by
  obtain ⟨c, q⟩ := form_spec h
  refine form_eq (shP_nodup u v h) (canon_sh u v c) fun x y => ?_
  rw [pt_sh, q, Bool.eq_iff_iff, decide_eq_true_eq, decide_eq_true_eq, List.mem_map]
  constructor
  · intro hp
    exact ⟨_, hp, by show (x - u + u, y - v + v) = (x, y); congr 1 <;> omega⟩
  · rintro ⟨⟨a, b⟩, hp, e⟩
    injection e with e1 e2
    have e1 : a + u = x := e1
    have e2 : b + v = y := e2
    rw [show x - u = a by omega, show y - v = b by omega]
    exact hp
theorem moved_wp {n : Nat} {rs : List Rc} {u v : Int} {m : MS} {Q : D × Kd → MS → Prop} (hQ : Q (.lst ((rs.map (shR u v)).map Rc.d), .own) m) : wpx noE (callL (n + 1) 0 [.lst (rs.map Rc.d), .int u, .int v] m) Q := by
  refine wp_callF (F := d_moved.F) rfl rfl ?_
  generalize callF (gls.map fun p => p.2.d) (defs.map (·.F)) n = cf
  have e1 : mapR (elR (gls.map fun p => p.2.d) cf (.tup (.cons (.bin .add (.var 3) (.var 1)) (.cons (.bin .add (.var 4) (.var 2)) (.cons (.bin .add (.var 5) (.var 1)) (.cons (.bin .add (.var 6) (.var 2)) (.nil)))))) .tru (.tt (.cons (.tn 3) (.cons (.tn 4) (.cons (.tn 5) (.cons (.tn 6) (.nil)))))) [3, 4, 5, 6] [some (.lst (rs.map Rc.d), false), some (.int u, false), some (.int v, false), none, none, none, none]) (rs.map Rc.d) m = .ok (rs.map fun c => Rc.d (shR u v c)) m := mapR_map Rc.d _ rs fun c _ => eq_of_wp (wp_el (by
    (repeat ((conv => whnf); first | refine ⟨_, by first | ((with_reducible show L2.atI _ _ = some _); first | exact atI_0 | exact atI_1 | exact atI_2 | exact atI_3 | exact atI_4 | exact atI_5 | exact atI_6 | exact atI_7) | ((with_reducible show L2.ixN _ _ = some _); first | exact ix_0 | exact ix_1 | exact ix_2 | exact ix_3 | exact ix_4 | exact ix_5 | exact ix_6 | exact ix_7), ?_⟩ | refine ⟨by (first | (show sameM _ _; exact ⟨rfl, rfl⟩) | (show mulOk _ _; unfold mulOk; omega) | (show divOk _; unfold divOk; omega) | (show powOk _ _; unfold powOk; decide) | (show _ ≠ _; omega) | (show isNon _ = true; rfl) | exact len_lit (by rfl) | exact len2_lit (by rfl)), ?_⟩ | refine ⟨true, by decide +kernel, ?_⟩ | refine ⟨false, by decide +kernel, ?_⟩ | refine itv_lst ?_ | refine itv_tup ?_ | refine itv_scr ?_ | refine itv_str ?_ | refine itv_dct ?_)); (try (conv => whnf))
    exact ⟨rfl, rfl⟩))
  rw [List.map_map] at hQ
  (repeat ((conv => whnf); first | refine ⟨_, by first | ((with_reducible show L2.atI _ _ = some _); first | exact atI_0 | exact atI_1 | exact atI_2 | exact atI_3 | exact atI_4 | exact atI_5 | exact atI_6 | exact atI_7) | ((with_reducible show L2.ixN _ _ = some _); first | exact ix_0 | exact ix_1 | exact ix_2 | exact ix_3 | exact ix_4 | exact ix_5 | exact ix_6 | exact ix_7), ?_⟩ | refine ⟨by (first | (show sameM _ _; exact ⟨rfl, rfl⟩) | (show mulOk _ _; unfold mulOk; omega) | (show divOk _; unfold divOk; omega) | (show powOk _ _; unfold powOk; decide) | (show _ ≠ _; omega) | (show isNon _ = true; rfl) | exact len_lit (by rfl) | exact len2_lit (by rfl)), ?_⟩ | refine ⟨true, by decide +kernel, ?_⟩ | refine ⟨false, by decide +kernel, ?_⟩ | refine itv_lst ?_ | refine itv_tup ?_ | refine itv_scr ?_ | refine itv_str ?_ | refine itv_dct ?_)); (try (conv => whnf))
  refine ⟨wp_of e1 ?_⟩
  (repeat ((conv => whnf); first | refine ⟨_, by first | ((with_reducible show L2.atI _ _ = some _); first | exact atI_0 | exact atI_1 | exact atI_2 | exact atI_3 | exact atI_4 | exact atI_5 | exact atI_6 | exact atI_7) | ((with_reducible show L2.ixN _ _ = some _); first | exact ix_0 | exact ix_1 | exact ix_2 | exact ix_3 | exact ix_4 | exact ix_5 | exact ix_6 | exact ix_7), ?_⟩ | refine ⟨by (first | (show sameM _ _; exact ⟨rfl, rfl⟩) | (show mulOk _ _; unfold mulOk; omega) | (show divOk _; unfold divOk; omega) | (show powOk _ _; unfold powOk; decide) | (show _ ≠ _; omega) | (show isNon _ = true; rfl) | exact len_lit (by rfl) | exact len2_lit (by rfl)), ?_⟩ | refine ⟨true, by decide +kernel, ?_⟩ | refine ⟨false, by decide +kernel, ?_⟩ | refine itv_lst ?_ | refine itv_tup ?_ | refine itv_scr ?_ | refine itv_str ?_ | refine itv_dct ?_)); (try (conv => whnf))
  exact hQ
theorem eqD_rs (a b : List Rc) (e : a = b) : eqD (.lst (a.map Rc.d)) (.lst (b.map Rc.d)) = some true := by
  subst e
  exact eqD_refl (okD_rects a)
end OD.Law


set_option Elab.async false
set_option autoImplicit false
set_option linter.all false
set_option maxRecDepth 100000
set_option maxHeartbeats 1000000
namespace OD.Law
open PySem OD
theorem keys_pD (ps : List Pt) : (ps.map pk).map (keyD true) = ps.map pD2 := by rw [List.map_map]; rfl
set_option maxHeartbeats 0 in
/-- the law, as plain Lean -/
theorem pure_ (ns : List Int) (hn : ns.length ≤ 63) : ∃ m', callL fuel 9 [.scr ns] ⟨[], 0⟩ = .ok (.bl true, .sh) m' := by
  have key : wpx noE (callL (11 + 1) 9 [.scr ns] ⟨[], 0⟩) fun x _ => x = (.bl true, .sh) := by
    refine wp_callF (F := d_law.F) rfl rfl ?_
    have dk : ∀ {Q : D × Kd → MS → Prop}, (∀ m', Deck m' → Q (.ref 0, .sh) m') → wpx noE (callF (gls.map fun p => p.2.d) (defs.map (·.F)) 11 1 [.scr ns] ⟨[], 0⟩) Q := fun q => deck_wp rfl hn q
    have dw : ∀ {b : Int} {m : MS} {Q : D × Kd → MS → Prop}, Deck m → 0 < b → b < 1073741824 → (∀ v m', 0 ≤ v → v < b → Deck m' → Q (.int v, .sh) m') → wpx noE (callF (gls.map fun p => p.2.d) (defs.map (·.F)) 11 2 [.ref 0, .int b] m) Q := fun h1 h2 h3 => draw_wp rfl h1 h2 h3
    have lw : ∀ {N : Int} {m : MS} {Q : D × Kd → MS → Prop}, Deck m → 0 ≤ N → N ≤ 20 → (∀ (rs : List Rc) m', (rs.length : Int) = N → Dr rs → Deck m' → Q (.lst (rs.map Rc.d), .own) m') → wpx noE (callF (gls.map fun p => p.2.d) (defs.map (·.F)) 11 4 [.ref 0, .int N, .int 12] m) Q := fun h1 h2 h3 q => lrects_wp (n := 8) h1 (by decide) (by decide) (by decide) h2 h3 fun rs m' a b c d => q rs m' a ⟨b, c⟩ d
    have pw : ∀ {rs : List Rc} {m : MS} {Q : D × Kd → MS → Prop}, Dr rs → rs.length ≤ 100 → Q (dctP (ptsOf rs), .sh) m → wpx noE (callF (gls.map fun p => p.2.d) (defs.map (·.F)) 11 5 [.lst (rs.map Rc.d)] m) Q := fun h1 h2 q => points_wp (n := 10) h1.bx (by have := h1.pl; omega) q
    have fw : ∀ {d : D} {ps : List Pt} {m : MS} {Q : D × Kd → MS → Prop}, Pts d ps → ps.Nodup → ps.length ≤ 4000 → Q (.lst ((form ps).map Rc.d), .sh) m → wpx noE (callF (gls.map fun p => p.2.d) (defs.map (·.F)) 11 7 [d] m) Q := fun h1 h2 h3 q => lform_wp (n := 9) h1 h2 h3 q
    have mw : ∀ {rs : List Rc} {u v : Int} {m : MS} {Q : D × Kd → MS → Prop}, Q (.lst ((rs.map (shR u v)).map Rc.d), .own) m → wpx noE (callF (gls.map fun p => p.2.d) (defs.map (·.F)) 11 0 [.lst (rs.map Rc.d), .int u, .int v] m) Q := fun q => moved_wp (n := 10) q
    have iw : ∀ {rs : List Rc} {m : MS} {Q : D × Kd → MS → Prop}, rs.length ≤ 16000000 → Q (.bl true, .sh) m → wpx noE (callF (gls.map fun p => p.2.d) (defs.map (·.F)) 11 8 [.lst (rs.map Rc.d), .lst (rs.map Rc.d)] m) Q := fun h q => is_rows_wp (n := 8) h q
    generalize callF (gls.map fun p => p.2.d) (defs.map (·.F)) 11 = cf at dk dw lw pw fw mw iw
    (repeat ((conv => whnf); first | refine ⟨_, by first | ((with_reducible show L2.atI _ _ = some _); first | exact atI_0 | exact atI_1 | exact atI_2 | exact atI_3 | exact atI_4 | exact atI_5 | exact atI_6 | exact atI_7) | ((with_reducible show L2.ixN _ _ = some _); first | exact ix_0 | exact ix_1 | exact ix_2 | exact ix_3 | exact ix_4 | exact ix_5 | exact ix_6 | exact ix_7), ?_⟩ | refine ⟨by (first | (show sameM _ _; exact ⟨rfl, rfl⟩) | (show mulOk _ _; unfold mulOk; omega) | (show divOk _; unfold divOk; omega) | (show powOk _ _; unfold powOk; decide) | (show _ ≠ _; omega) | (show isNon _ = true; rfl) | exact len_lit (by rfl) | exact len2_lit (by rfl)), ?_⟩ | refine ⟨true, by decide +kernel, ?_⟩ | refine ⟨false, by decide +kernel, ?_⟩ | refine itv_lst ?_ | refine itv_tup ?_ | refine itv_scr ?_ | refine itv_str ?_ | refine itv_dct ?_)); (try (conv => whnf))
    refine ⟨dk fun m hD => ?_⟩
    (repeat ((conv => whnf); first | refine ⟨_, by first | ((with_reducible show L2.atI _ _ = some _); first | exact atI_0 | exact atI_1 | exact atI_2 | exact atI_3 | exact atI_4 | exact atI_5 | exact atI_6 | exact atI_7) | ((with_reducible show L2.ixN _ _ = some _); first | exact ix_0 | exact ix_1 | exact ix_2 | exact ix_3 | exact ix_4 | exact ix_5 | exact ix_6 | exact ix_7), ?_⟩ | refine ⟨by (first | (show sameM _ _; exact ⟨rfl, rfl⟩) | (show mulOk _ _; unfold mulOk; omega) | (show divOk _; unfold divOk; omega) | (show powOk _ _; unfold powOk; decide) | (show _ ≠ _; omega) | (show isNon _ = true; rfl) | exact len_lit (by rfl) | exact len2_lit (by rfl)), ?_⟩ | refine ⟨true, by decide +kernel, ?_⟩ | refine ⟨false, by decide +kernel, ?_⟩ | refine itv_lst ?_ | refine itv_tup ?_ | refine itv_scr ?_ | refine itv_str ?_ | refine itv_dct ?_)); (try (conv => whnf))
    refine ⟨dw hD (by decide) (by decide) fun N m N0 N1 hD => ?_⟩
    (repeat ((conv => whnf); first | refine ⟨_, by first | ((with_reducible show L2.atI _ _ = some _); first | exact atI_0 | exact atI_1 | exact atI_2 | exact atI_3 | exact atI_4 | exact atI_5 | exact atI_6 | exact atI_7) | ((with_reducible show L2.ixN _ _ = some _); first | exact ix_0 | exact ix_1 | exact ix_2 | exact ix_3 | exact ix_4 | exact ix_5 | exact ix_6 | exact ix_7), ?_⟩ | refine ⟨by (first | (show sameM _ _; exact ⟨rfl, rfl⟩) | (show mulOk _ _; unfold mulOk; omega) | (show divOk _; unfold divOk; omega) | (show powOk _ _; unfold powOk; decide) | (show _ ≠ _; omega) | (show isNon _ = true; rfl) | exact len_lit (by rfl) | exact len2_lit (by rfl)), ?_⟩ | refine ⟨true, by decide +kernel, ?_⟩ | refine ⟨false, by decide +kernel, ?_⟩ | refine itv_lst ?_ | refine itv_tup ?_ | refine itv_scr ?_ | refine itv_str ?_ | refine itv_dct ?_)); (try (conv => whnf))
    refine ⟨lw hD N0 (by omega) fun rs m hr dr hD => ?_⟩
    have n1 := ptsOf_nodup rs
    have l1 : (ptsOf rs).length ≤ 1372 := by have := dr.pn; omega
    (repeat ((conv => whnf); first | refine ⟨_, by first | ((with_reducible show L2.atI _ _ = some _); first | exact atI_0 | exact atI_1 | exact atI_2 | exact atI_3 | exact atI_4 | exact atI_5 | exact atI_6 | exact atI_7) | ((with_reducible show L2.ixN _ _ = some _); first | exact ix_0 | exact ix_1 | exact ix_2 | exact ix_3 | exact ix_4 | exact ix_5 | exact ix_6 | exact ix_7), ?_⟩ | refine ⟨by (first | (show sameM _ _; exact ⟨rfl, rfl⟩) | (show mulOk _ _; unfold mulOk; omega) | (show divOk _; unfold divOk; omega) | (show powOk _ _; unfold powOk; decide) | (show _ ≠ _; omega) | (show isNon _ = true; rfl) | exact len_lit (by rfl) | exact len2_lit (by rfl)), ?_⟩ | refine ⟨true, by decide +kernel, ?_⟩ | refine ⟨false, by decide +kernel, ?_⟩ | refine itv_lst ?_ | refine itv_tup ?_ | refine itv_scr ?_ | refine itv_str ?_ | refine itv_dct ?_)); (try (conv => whnf))
    refine ⟨pw dr (by omega) ?_⟩
    generalize ptsOf rs = ps at n1 l1
    (repeat ((conv => whnf); first | refine ⟨_, by first | ((with_reducible show L2.atI _ _ = some _); first | exact atI_0 | exact atI_1 | exact atI_2 | exact atI_3 | exact atI_4 | exact atI_5 | exact atI_6 | exact atI_7) | ((with_reducible show L2.ixN _ _ = some _); first | exact ix_0 | exact ix_1 | exact ix_2 | exact ix_3 | exact ix_4 | exact ix_5 | exact ix_6 | exact ix_7), ?_⟩ | refine ⟨by (first | (show sameM _ _; exact ⟨rfl, rfl⟩) | (show mulOk _ _; unfold mulOk; omega) | (show divOk _; unfold divOk; omega) | (show powOk _ _; unfold powOk; decide) | (show _ ≠ _; omega) | (show isNon _ = true; rfl) | exact len_lit (by rfl) | exact len2_lit (by rfl)), ?_⟩ | refine ⟨true, by decide +kernel, ?_⟩ | refine ⟨false, by decide +kernel, ?_⟩ | refine itv_lst ?_ | refine itv_tup ?_ | refine itv_scr ?_ | refine itv_str ?_ | refine itv_dct ?_)); (try (conv => whnf))
    refine ⟨fw (.inr rfl) n1 (by omega) ?_⟩
    (repeat ((conv => whnf); first | refine ⟨_, by first | ((with_reducible show L2.atI _ _ = some _); first | exact atI_0 | exact atI_1 | exact atI_2 | exact atI_3 | exact atI_4 | exact atI_5 | exact atI_6 | exact atI_7) | ((with_reducible show L2.ixN _ _ = some _); first | exact ix_0 | exact ix_1 | exact ix_2 | exact ix_3 | exact ix_4 | exact ix_5 | exact ix_6 | exact ix_7), ?_⟩ | refine ⟨by (first | (show sameM _ _; exact ⟨rfl, rfl⟩) | (show mulOk _ _; unfold mulOk; omega) | (show divOk _; unfold divOk; omega) | (show powOk _ _; unfold powOk; decide) | (show _ ≠ _; omega) | (show isNon _ = true; rfl) | exact len_lit (by rfl) | exact len2_lit (by rfl)), ?_⟩ | refine ⟨true, by decide +kernel, ?_⟩ | refine ⟨false, by decide +kernel, ?_⟩ | refine itv_lst ?_ | refine itv_tup ?_ | refine itv_scr ?_ | refine itv_str ?_ | refine itv_dct ?_)); (try (conv => whnf))
    refine ⟨dw hD (by decide) (by decide) fun a m a0 a1 hD => ?_⟩
    (repeat ((conv => whnf); first | refine ⟨_, by first | ((with_reducible show L2.atI _ _ = some _); first | exact atI_0 | exact atI_1 | exact atI_2 | exact atI_3 | exact atI_4 | exact atI_5 | exact atI_6 | exact atI_7) | ((with_reducible show L2.ixN _ _ = some _); first | exact ix_0 | exact ix_1 | exact ix_2 | exact ix_3 | exact ix_4 | exact ix_5 | exact ix_6 | exact ix_7), ?_⟩ | refine ⟨by (first | (show sameM _ _; exact ⟨rfl, rfl⟩) | (show mulOk _ _; unfold mulOk; omega) | (show divOk _; unfold divOk; omega) | (show powOk _ _; unfold powOk; decide) | (show _ ≠ _; omega) | (show isNon _ = true; rfl) | exact len_lit (by rfl) | exact len2_lit (by rfl)), ?_⟩ | refine ⟨true, by decide +kernel, ?_⟩ | refine ⟨false, by decide +kernel, ?_⟩ | refine itv_lst ?_ | refine itv_tup ?_ | refine itv_scr ?_ | refine itv_str ?_ | refine itv_dct ?_)); (try (conv => whnf))
    refine ⟨dw hD (by decide) (by decide) fun k m k0 k1 hD => ?_⟩
    obtain ⟨u, _, eu⟩ := atI_ints2 (xs := [a - 30, 10 ^ (15 : Int).toNat, 0]) k0 k1
    (repeat ((conv => whnf); first | refine ⟨_, by first | ((with_reducible show L2.atI _ _ = some _); first | exact atI_0 | exact atI_1 | exact atI_2 | exact atI_3 | exact atI_4 | exact atI_5 | exact atI_6 | exact atI_7) | ((with_reducible show L2.ixN _ _ = some _); first | exact ix_0 | exact ix_1 | exact ix_2 | exact ix_3 | exact ix_4 | exact ix_5 | exact ix_6 | exact ix_7), ?_⟩ | refine ⟨by (first | (show sameM _ _; exact ⟨rfl, rfl⟩) | (show mulOk _ _; unfold mulOk; omega) | (show divOk _; unfold divOk; omega) | (show powOk _ _; unfold powOk; decide) | (show _ ≠ _; omega) | (show isNon _ = true; rfl) | exact len_lit (by rfl) | exact len2_lit (by rfl)), ?_⟩ | refine ⟨true, by decide +kernel, ?_⟩ | refine ⟨false, by decide +kernel, ?_⟩ | refine itv_lst ?_ | refine itv_tup ?_ | refine itv_scr ?_ | refine itv_str ?_ | refine itv_dct ?_)); (try (conv => whnf))
    refine ⟨_, eu, ?_⟩
    (repeat ((conv => whnf); first | refine ⟨_, by first | ((with_reducible show L2.atI _ _ = some _); first | exact atI_0 | exact atI_1 | exact atI_2 | exact atI_3 | exact atI_4 | exact atI_5 | exact atI_6 | exact atI_7) | ((with_reducible show L2.ixN _ _ = some _); first | exact ix_0 | exact ix_1 | exact ix_2 | exact ix_3 | exact ix_4 | exact ix_5 | exact ix_6 | exact ix_7), ?_⟩ | refine ⟨by (first | (show sameM _ _; exact ⟨rfl, rfl⟩) | (show mulOk _ _; unfold mulOk; omega) | (show divOk _; unfold divOk; omega) | (show powOk _ _; unfold powOk; decide) | (show _ ≠ _; omega) | (show isNon _ = true; rfl) | exact len_lit (by rfl) | exact len2_lit (by rfl)), ?_⟩ | refine ⟨true, by decide +kernel, ?_⟩ | refine ⟨false, by decide +kernel, ?_⟩ | refine itv_lst ?_ | refine itv_tup ?_ | refine itv_scr ?_ | refine itv_str ?_ | refine itv_dct ?_)); (try (conv => whnf))
    refine ⟨dw hD (by decide) (by decide) fun b m b0 b1 hD => ?_⟩
    (repeat ((conv => whnf); first | refine ⟨_, by first | ((with_reducible show L2.atI _ _ = some _); first | exact atI_0 | exact atI_1 | exact atI_2 | exact atI_3 | exact atI_4 | exact atI_5 | exact atI_6 | exact atI_7) | ((with_reducible show L2.ixN _ _ = some _); first | exact ix_0 | exact ix_1 | exact ix_2 | exact ix_3 | exact ix_4 | exact ix_5 | exact ix_6 | exact ix_7), ?_⟩ | refine ⟨by (first | (show sameM _ _; exact ⟨rfl, rfl⟩) | (show mulOk _ _; unfold mulOk; omega) | (show divOk _; unfold divOk; omega) | (show powOk _ _; unfold powOk; decide) | (show _ ≠ _; omega) | (show isNon _ = true; rfl) | exact len_lit (by rfl) | exact len2_lit (by rfl)), ?_⟩ | refine ⟨true, by decide +kernel, ?_⟩ | refine ⟨false, by decide +kernel, ?_⟩ | refine itv_lst ?_ | refine itv_tup ?_ | refine itv_scr ?_ | refine itv_str ?_ | refine itv_dct ?_)); (try (conv => whnf))
    refine ⟨dw hD (by decide) (by decide) fun k' m k'0 k'1 hD => ?_⟩
    obtain ⟨v, _, ev⟩ := atI_ints2 (xs := [b - 30, -(10 ^ (15 : Int).toNat), 0]) k'0 k'1
    (repeat ((conv => whnf); first | refine ⟨_, by first | ((with_reducible show L2.atI _ _ = some _); first | exact atI_0 | exact atI_1 | exact atI_2 | exact atI_3 | exact atI_4 | exact atI_5 | exact atI_6 | exact atI_7) | ((with_reducible show L2.ixN _ _ = some _); first | exact ix_0 | exact ix_1 | exact ix_2 | exact ix_3 | exact ix_4 | exact ix_5 | exact ix_6 | exact ix_7), ?_⟩ | refine ⟨by (first | (show sameM _ _; exact ⟨rfl, rfl⟩) | (show mulOk _ _; unfold mulOk; omega) | (show divOk _; unfold divOk; omega) | (show powOk _ _; unfold powOk; decide) | (show _ ≠ _; omega) | (show isNon _ = true; rfl) | exact len_lit (by rfl) | exact len2_lit (by rfl)), ?_⟩ | refine ⟨true, by decide +kernel, ?_⟩ | refine ⟨false, by decide +kernel, ?_⟩ | refine itv_lst ?_ | refine itv_tup ?_ | refine itv_scr ?_ | refine itv_str ?_ | refine itv_dct ?_)); (try (conv => whnf))
    refine ⟨_, ev, ?_⟩
    have e2 : mapR (elR (gls.map fun p => p.2.d) cf (.tup (.cons (.bin .add (.idx (.var 9) (.int 0)) (.var 4)) (.cons (.bin .add (.idx (.var 9) (.int 1)) (.var 5)) (.nil)))) (.tru) (.tn 9) [9] [some (.scr ns, false), some (.ref 0, false), some (dctP ps, false), some (.lst ((form ps).map Rc.d), false), some (.int u, false), some (.int v, false), none, none, none, none]) (ps.map pD2) m = .ok (ps.map fun p => pD2 (shP u v p)) m := mapR_map pD2 _ ps fun p _ => eq_of_wp (wp_el (by
      (repeat ((conv => whnf); first | refine ⟨_, by first | ((with_reducible show L2.atI _ _ = some _); first | exact atI_0 | exact atI_1 | exact atI_2 | exact atI_3 | exact atI_4 | exact atI_5 | exact atI_6 | exact atI_7) | ((with_reducible show L2.ixN _ _ = some _); first | exact ix_0 | exact ix_1 | exact ix_2 | exact ix_3 | exact ix_4 | exact ix_5 | exact ix_6 | exact ix_7), ?_⟩ | refine ⟨by (first | (show sameM _ _; exact ⟨rfl, rfl⟩) | (show mulOk _ _; unfold mulOk; omega) | (show divOk _; unfold divOk; omega) | (show powOk _ _; unfold powOk; decide) | (show _ ≠ _; omega) | (show isNon _ = true; rfl) | exact len_lit (by rfl) | exact len2_lit (by rfl)), ?_⟩ | refine ⟨true, by decide +kernel, ?_⟩ | refine ⟨false, by decide +kernel, ?_⟩ | refine itv_lst ?_ | refine itv_tup ?_ | refine itv_scr ?_ | refine itv_str ?_ | refine itv_dct ?_)); (try (conv => whnf))
      exact ⟨rfl, rfl⟩))
    have al := form_len (ps := ps) (by omega)
    have fe := form_sh u v n1
    have n2 := shP_nodup u v n1
    (repeat ((conv => whnf); first | refine ⟨_, by first | ((with_reducible show L2.atI _ _ = some _); first | exact atI_0 | exact atI_1 | exact atI_2 | exact atI_3 | exact atI_4 | exact atI_5 | exact atI_6 | exact atI_7) | ((with_reducible show L2.ixN _ _ = some _); first | exact ix_0 | exact ix_1 | exact ix_2 | exact ix_3 | exact ix_4 | exact ix_5 | exact ix_6 | exact ix_7), ?_⟩ | refine ⟨by (first | (show sameM _ _; exact ⟨rfl, rfl⟩) | (show mulOk _ _; unfold mulOk; omega) | (show divOk _; unfold divOk; omega) | (show powOk _ _; unfold powOk; decide) | (show _ ≠ _; omega) | (show isNon _ = true; rfl) | exact len_lit (by rfl) | exact len2_lit (by rfl)), ?_⟩ | refine ⟨true, by decide +kernel, ?_⟩ | refine ⟨false, by decide +kernel, ?_⟩ | refine itv_lst ?_ | refine itv_tup ?_ | refine itv_scr ?_ | refine itv_str ?_ | refine itv_dct ?_)); (try (conv => whnf))
    rw [keys_pD]
    refine ⟨wp_of e2 ?_⟩
    (repeat ((conv => whnf); first | refine ⟨_, by first | ((with_reducible show L2.atI _ _ = some _); first | exact atI_0 | exact atI_1 | exact atI_2 | exact atI_3 | exact atI_4 | exact atI_5 | exact atI_6 | exact atI_7) | ((with_reducible show L2.ixN _ _ = some _); first | exact ix_0 | exact ix_1 | exact ix_2 | exact ix_3 | exact ix_4 | exact ix_5 | exact ix_6 | exact ix_7), ?_⟩ | refine ⟨by (first | (show sameM _ _; exact ⟨rfl, rfl⟩) | (show mulOk _ _; unfold mulOk; omega) | (show divOk _; unfold divOk; omega) | (show powOk _ _; unfold powOk; decide) | (show _ ≠ _; omega) | (show isNon _ = true; rfl) | exact len_lit (by rfl) | exact len2_lit (by rfl)), ?_⟩ | refine ⟨true, by decide +kernel, ?_⟩ | refine ⟨false, by decide +kernel, ?_⟩ | refine itv_lst ?_ | refine itv_tup ?_ | refine itv_scr ?_ | refine itv_str ?_ | refine itv_dct ?_)); (try (conv => whnf))
    rw [show (ps.map fun p => pD2 (shP u v p)) = (ps.map (shP u v)).map pD2 by rw [List.map_map]; rfl]
    refine ⟨fw (.inl rfl) n2 (by rw [List.length_map]; omega) ?_⟩
    rw [fe]
    generalize form ps = A at al
    have al2 : (A.map (shR u v)).length ≤ 16000000 := by rw [List.length_map]; exact al
    (repeat ((conv => whnf); first | refine ⟨_, by first | ((with_reducible show L2.atI _ _ = some _); first | exact atI_0 | exact atI_1 | exact atI_2 | exact atI_3 | exact atI_4 | exact atI_5 | exact atI_6 | exact atI_7) | ((with_reducible show L2.ixN _ _ = some _); first | exact ix_0 | exact ix_1 | exact ix_2 | exact ix_3 | exact ix_4 | exact ix_5 | exact ix_6 | exact ix_7), ?_⟩ | refine ⟨by (first | (show sameM _ _; exact ⟨rfl, rfl⟩) | (show mulOk _ _; unfold mulOk; omega) | (show divOk _; unfold divOk; omega) | (show powOk _ _; unfold powOk; decide) | (show _ ≠ _; omega) | (show isNon _ = true; rfl) | exact len_lit (by rfl) | exact len2_lit (by rfl)), ?_⟩ | refine ⟨true, by decide +kernel, ?_⟩ | refine ⟨false, by decide +kernel, ?_⟩ | refine itv_lst ?_ | refine itv_tup ?_ | refine itv_scr ?_ | refine itv_str ?_ | refine itv_dct ?_)); (try (conv => whnf))
    refine ⟨mw ?_⟩
    (repeat ((conv => whnf); first | refine ⟨_, by first | ((with_reducible show L2.atI _ _ = some _); first | exact atI_0 | exact atI_1 | exact atI_2 | exact atI_3 | exact atI_4 | exact atI_5 | exact atI_6 | exact atI_7) | ((with_reducible show L2.ixN _ _ = some _); first | exact ix_0 | exact ix_1 | exact ix_2 | exact ix_3 | exact ix_4 | exact ix_5 | exact ix_6 | exact ix_7), ?_⟩ | refine ⟨by (first | (show sameM _ _; exact ⟨rfl, rfl⟩) | (show mulOk _ _; unfold mulOk; omega) | (show divOk _; unfold divOk; omega) | (show powOk _ _; unfold powOk; decide) | (show _ ≠ _; omega) | (show isNon _ = true; rfl) | exact len_lit (by rfl) | exact len2_lit (by rfl)), ?_⟩ | refine ⟨true, by decide +kernel, ?_⟩ | refine ⟨false, by decide +kernel, ?_⟩ | refine itv_lst ?_ | refine itv_tup ?_ | refine itv_scr ?_ | refine itv_str ?_ | refine itv_dct ?_)); (try (conv => whnf))
    refine ⟨iw al2 ?_⟩
    (repeat ((conv => whnf); first | refine ⟨_, by first | ((with_reducible show L2.atI _ _ = some _); first | exact atI_0 | exact atI_1 | exact atI_2 | exact atI_3 | exact atI_4 | exact atI_5 | exact atI_6 | exact atI_7) | ((with_reducible show L2.ixN _ _ = some _); first | exact ix_0 | exact ix_1 | exact ix_2 | exact ix_3 | exact ix_4 | exact ix_5 | exact ix_6 | exact ix_7), ?_⟩ | refine ⟨by (first | (show sameM _ _; exact ⟨rfl, rfl⟩) | (show mulOk _ _; unfold mulOk; omega) | (show divOk _; unfold divOk; omega) | (show powOk _ _; unfold powOk; decide) | (show _ ≠ _; omega) | (show isNon _ = true; rfl) | exact len_lit (by rfl) | exact len2_lit (by rfl)), ?_⟩ | refine ⟨true, by decide +kernel, ?_⟩ | refine ⟨false, by decide +kernel, ?_⟩ | refine itv_lst ?_ | refine itv_tup ?_ | refine itv_scr ?_ | refine itv_str ?_ | refine itv_dct ?_)); (try (conv => whnf))
    refine ⟨true, eqD_rs _ _ rfl, ?_⟩
    (repeat ((conv => whnf); first | refine ⟨_, by first | ((with_reducible show L2.atI _ _ = some _); first | exact atI_0 | exact atI_1 | exact atI_2 | exact atI_3 | exact atI_4 | exact atI_5 | exact atI_6 | exact atI_7) | ((with_reducible show L2.ixN _ _ = some _); first | exact ix_0 | exact ix_1 | exact ix_2 | exact ix_3 | exact ix_4 | exact ix_5 | exact ix_6 | exact ix_7), ?_⟩ | refine ⟨by (first | (show sameM _ _; exact ⟨rfl, rfl⟩) | (show mulOk _ _; unfold mulOk; omega) | (show divOk _; unfold divOk; omega) | (show powOk _ _; unfold powOk; decide) | (show _ ≠ _; omega) | (show isNon _ = true; rfl) | exact len_lit (by rfl) | exact len2_lit (by rfl)), ?_⟩ | refine ⟨true, by decide +kernel, ?_⟩ | refine ⟨false, by decide +kernel, ?_⟩ | refine itv_lst ?_ | refine itv_tup ?_ | refine itv_scr ?_ | refine itv_str ?_ | refine itv_dct ?_)); (try (conv => whnf))
    refine ⟨mw ?_⟩
    rw [shR_back]
    (repeat ((conv => whnf); first | refine ⟨_, by first | ((with_reducible show L2.atI _ _ = some _); first | exact atI_0 | exact atI_1 | exact atI_2 | exact atI_3 | exact atI_4 | exact atI_5 | exact atI_6 | exact atI_7) | ((with_reducible show L2.ixN _ _ = some _); first | exact ix_0 | exact ix_1 | exact ix_2 | exact ix_3 | exact ix_4 | exact ix_5 | exact ix_6 | exact ix_7), ?_⟩ | refine ⟨by (first | (show sameM _ _; exact ⟨rfl, rfl⟩) | (show mulOk _ _; unfold mulOk; omega) | (show divOk _; unfold divOk; omega) | (show powOk _ _; unfold powOk; decide) | (show _ ≠ _; omega) | (show isNon _ = true; rfl) | exact len_lit (by rfl) | exact len2_lit (by rfl)), ?_⟩ | refine ⟨true, by decide +kernel, ?_⟩ | refine ⟨false, by decide +kernel, ?_⟩ | refine itv_lst ?_ | refine itv_tup ?_ | refine itv_scr ?_ | refine itv_str ?_ | refine itv_dct ?_)); (try (conv => whnf))
    refine ⟨iw al ?_⟩
    (repeat ((conv => whnf); first | refine ⟨_, by first | ((with_reducible show L2.atI _ _ = some _); first | exact atI_0 | exact atI_1 | exact atI_2 | exact atI_3 | exact atI_4 | exact atI_5 | exact atI_6 | exact atI_7) | ((with_reducible show L2.ixN _ _ = some _); first | exact ix_0 | exact ix_1 | exact ix_2 | exact ix_3 | exact ix_4 | exact ix_5 | exact ix_6 | exact ix_7), ?_⟩ | refine ⟨by (first | (show sameM _ _; exact ⟨rfl, rfl⟩) | (show mulOk _ _; unfold mulOk; omega) | (show divOk _; unfold divOk; omega) | (show powOk _ _; unfold powOk; decide) | (show _ ≠ _; omega) | (show isNon _ = true; rfl) | exact len_lit (by rfl) | exact len2_lit (by rfl)), ?_⟩ | refine ⟨true, by decide +kernel, ?_⟩ | refine ⟨false, by decide +kernel, ?_⟩ | refine itv_lst ?_ | refine itv_tup ?_ | refine itv_scr ?_ | refine itv_str ?_ | refine itv_dct ?_)); (try (conv => whnf))
    refine ⟨by rw [lenm]; exact small al2, ?_⟩
    (repeat ((conv => whnf); first | refine ⟨_, by first | ((with_reducible show L2.atI _ _ = some _); first | exact atI_0 | exact atI_1 | exact atI_2 | exact atI_3 | exact atI_4 | exact atI_5 | exact atI_6 | exact atI_7) | ((with_reducible show L2.ixN _ _ = some _); first | exact ix_0 | exact ix_1 | exact ix_2 | exact ix_3 | exact ix_4 | exact ix_5 | exact ix_6 | exact ix_7), ?_⟩ | refine ⟨by (first | (show sameM _ _; exact ⟨rfl, rfl⟩) | (show mulOk _ _; unfold mulOk; omega) | (show divOk _; unfold divOk; omega) | (show powOk _ _; unfold powOk; decide) | (show _ ≠ _; omega) | (show isNon _ = true; rfl) | exact len_lit (by rfl) | exact len2_lit (by rfl)), ?_⟩ | refine ⟨true, by decide +kernel, ?_⟩ | refine ⟨false, by decide +kernel, ?_⟩ | refine itv_lst ?_ | refine itv_tup ?_ | refine itv_scr ?_ | refine itv_str ?_ | refine itv_dct ?_)); (try (conv => whnf))
    refine ⟨true, eqD_rs _ _ rfl, ?_⟩
    (repeat ((conv => whnf); first | refine ⟨_, by first | ((with_reducible show L2.atI _ _ = some _); first | exact atI_0 | exact atI_1 | exact atI_2 | exact atI_3 | exact atI_4 | exact atI_5 | exact atI_6 | exact atI_7) | ((with_reducible show L2.ixN _ _ = some _); first | exact ix_0 | exact ix_1 | exact ix_2 | exact ix_3 | exact ix_4 | exact ix_5 | exact ix_6 | exact ix_7), ?_⟩ | refine ⟨by (first | (show sameM _ _; exact ⟨rfl, rfl⟩) | (show mulOk _ _; unfold mulOk; omega) | (show divOk _; unfold divOk; omega) | (show powOk _ _; unfold powOk; decide) | (show _ ≠ _; omega) | (show isNon _ = true; rfl) | exact len_lit (by rfl) | exact len2_lit (by rfl)), ?_⟩ | refine ⟨true, by decide +kernel, ?_⟩ | refine ⟨false, by decide +kernel, ?_⟩ | refine itv_lst ?_ | refine itv_tup ?_ | refine itv_scr ?_ | refine itv_str ?_ | refine itv_dct ?_)); (try (conv => whnf))
    refine ⟨mw ?_⟩
    (repeat ((conv => whnf); first | refine ⟨_, by first | ((with_reducible show L2.atI _ _ = some _); first | exact atI_0 | exact atI_1 | exact atI_2 | exact atI_3 | exact atI_4 | exact atI_5 | exact atI_6 | exact atI_7) | ((with_reducible show L2.ixN _ _ = some _); first | exact ix_0 | exact ix_1 | exact ix_2 | exact ix_3 | exact ix_4 | exact ix_5 | exact ix_6 | exact ix_7), ?_⟩ | refine ⟨by (first | (show sameM _ _; exact ⟨rfl, rfl⟩) | (show mulOk _ _; unfold mulOk; omega) | (show divOk _; unfold divOk; omega) | (show powOk _ _; unfold powOk; decide) | (show _ ≠ _; omega) | (show isNon _ = true; rfl) | exact len_lit (by rfl) | exact len2_lit (by rfl)), ?_⟩ | refine ⟨true, by decide +kernel, ?_⟩ | refine ⟨false, by decide +kernel, ?_⟩ | refine itv_lst ?_ | refine itv_tup ?_ | refine itv_scr ?_ | refine itv_str ?_ | refine itv_dct ?_)); (try (conv => whnf))
    refine ⟨iw al2 ?_⟩
    (repeat ((conv => whnf); first | refine ⟨_, by first | ((with_reducible show L2.atI _ _ = some _); first | exact atI_0 | exact atI_1 | exact atI_2 | exact atI_3 | exact atI_4 | exact atI_5 | exact atI_6 | exact atI_7) | ((with_reducible show L2.ixN _ _ = some _); first | exact ix_0 | exact ix_1 | exact ix_2 | exact ix_3 | exact ix_4 | exact ix_5 | exact ix_6 | exact ix_7), ?_⟩ | refine ⟨by (first | (show sameM _ _; exact ⟨rfl, rfl⟩) | (show mulOk _ _; unfold mulOk; omega) | (show divOk _; unfold divOk; omega) | (show powOk _ _; unfold powOk; decide) | (show _ ≠ _; omega) | (show isNon _ = true; rfl) | exact len_lit (by rfl) | exact len2_lit (by rfl)), ?_⟩ | refine ⟨true, by decide +kernel, ?_⟩ | refine ⟨false, by decide +kernel, ?_⟩ | refine itv_lst ?_ | refine itv_tup ?_ | refine itv_scr ?_ | refine itv_str ?_ | refine itv_dct ?_)); (try (conv => whnf))
  obtain ⟨a, m', e, q⟩ := wp_ex key
  rw [q] at e
  exact ⟨m', e⟩
end OD.Law


set_option Elab.async false
set_option autoImplicit false
set_option linter.all false
set_option maxRecDepth 100000
set_option maxHeartbeats 0
open PySem PySem.W PySem.Calls PyProof.Rows
theorem PySem.Challenge.cw_onlythedirt_k10_moved_holds : PySem.Challenge.rw_onlythedirt_k10_moved.Holds := by
  w_on; o_law
  refine HandSHeadRun.head_any (r := OpenLaw.row PySem.Challenge.rw_onlythedirt_k10_moved) (q := view (OpenLaw.row PySem.Challenge.rw_onlythedirt_k10_moved).prog [11]) (H := OD.Law.hk) (ob := OD.Law.ob) (M := 1140) (loose := OD.Law.loose) (d := HandSHeadRun.topDef (OpenLaw.row PySem.Challenge.rw_onlythedirt_k10_moved).prog 11) (kwd := []) OD.Law.ob_eq
    (by kernel_rfl) (fun s => by kernel_rfl) OD.Law.run (by kernel_rfl) (by kernel_rfl) (by kernel_rfl) (by rfl) (by first | assumption | decide +kernel) (by decide +kernel) ⟨rfl, rfl, rfl, rfl, rfl, by decide +kernel⟩ ?hw ?hc
  case hw => w_witness2
  case hc =>
    refine OD.walkG (l := PySem.Challenge.rw_onlythedirt_k10_moved) (n := 63) (k := OD.Law.fuel + 4) (x := "_law_script") rfl (by decide) (by kernel_rfl) ⟨rfl, by decide, by decide⟩ ?F
    intro w mg fa h Y G hmg0
    obtain ⟨K, KX, c⟩ := Y
    have hmg : mg ("law" : PySem.Str) = some (.ref fa) := by
      have e : (HandSHeadRun.topDef (OpenLaw.row PySem.Challenge.rw_onlythedirt_k10_moved).prog 11).name = ("law" : PySem.Str) := by kernel_rfl
      rw [← e]
      exact hmg0
    obtain ⟨fd, sp, h1, h2, h3⟩ := OD.law_facts (P := (PySem.Challenge.rw_onlythedirt_k10_moved).prog) (w := w) (li := 9) (dl := OD.Law.d_law) (x := "_law_script") OD.Law.chk OD.Law.okc OD.Law.bc OD.Law.bo rfl rfl rfl OD.Law.pure_ KX G hmg c
    exact ⟨K, fd, sp, KX, h1, h2, h3⟩
