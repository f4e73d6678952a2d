import PyProof.Rows.All
import Wide.All
import OpenK.AllK
import Wide.FinOn
import HandS.ForMost
import HandS.ForExc
import HandS.Lambda
import HandS.CallSlots
import HandS.TupAny
import HandS.TupMul
import HandS.Text
import HandS.Deep
import HandS.Wide
import KE.DataEq
import PyProof.StrBlock2
import HandS.Strs
import PyProof.CollectStr
import HandS.Exc
import HandS.ExcOwn
import HandS.Small
import HandS.ExcCtx
import HandS.Iter
import PyProof.Draws
import PyProof.EnumMake
import HandS.RevRange
import KE.GoesMore
import HandS.IsInst
import HandS.TupLen
import KE.KTupSum
import HandS.WideBits
import HandS.WordsExc
import HandS.WordsList
import HandS.WordsDict
import HandS.EndTab
import HandS.HotCalls
import HandS.ExcIs
import PyProof.SumWalk
import PyProof.Walks
import HandS.Replace
import HandS.SuiteRaise
import HandS.NestedK
import KE.KNestM
import HandS.DictComp
import PyProof.StrLawsFirst
import HandS.Style
import PyProof.Rows.StrRev
import PyProof.SliceStr2
import PyProof.Rows.SortShellAny
import KE.DataMinMax
import PyProof.Logic
import HandS.ReplaceList
import PyProof.ConsumeS
import PySem.Challenge.RW_lastout_k18_whole_cut_ballots
set_option Elab.async false
set_option linter.all false
set_option maxRecDepth 100000
set_option maxHeartbeats 4000000
/-! DL0: pure data, a small language over it, its weakest preconditions. -/
namespace DL
open PySem L2

/-- pure data; a dice is a list of two ints that changes -/
inductive D where
  | non | bl (b : Bool) | int (i : Int) | str (s : List Nat)
  | tup (xs : List D) | lst (xs : List D) | dic (ks : List (List Nat)) (vs : List D)
  | dice
  deriving Inhabited

mutual
/-- Python's == -/
def D.eqv : D → D → Bool
  | .non, .non => true
  | .bl a, .bl b => a == b
  | .bl a, .int j => (if a then 1 else 0) == j
  | .int i, .bl b => i == (if b then 1 else 0)
  | .int i, .int j => i == j
  | .str x, .str y => x == y
  | .lst xs, .lst ys => D.eqvs xs ys
  | .tup xs, .tup ys => D.eqvs xs ys
  | _, _ => false
def D.eqvs : List D → List D → Bool
  | [], [] => true
  | x :: xs, y :: ys => D.eqv x y && D.eqvs xs ys
  | _, _ => false
end
mutual
/-- no dict, no dice within -/
def D.pl : D → Bool
  | .dic _ _ => false
  | .dice => false
  | .tup xs => D.pls xs
  | .lst xs => D.pls xs
  | _ => true
def D.pls : List D → Bool
  | [] => true
  | x :: xs => D.pl x && D.pls xs
end
mutual
def D.dep : D → Nat
  | .tup xs => D.deps xs + 1
  | .lst xs => D.deps xs + 1
  | _ => 0
def D.deps : List D → Nat
  | [] => 0
  | x :: xs => max (D.dep x) (D.deps xs)
end
def D.nd : D → Bool
  | .dice => false
  | _ => true
/-- a list or a dict: what may be changed by its owner -/
def D.isBox : D → Bool
  | .lst _ => true
  | .dic _ _ => true
  | _ => false

inductive Slot where
  | no | imm (d : D) | own (d : D)
abbrev DEnv := List Slot

inductive BOp where
  | add | sub | mul | mod | fdiv
  deriving DecidableEq
inductive COp where
  | eq | ne | lt | le | gt | ge | inn | nin
  deriving DecidableEq
inductive Ty where
  | int | bool | str | tuple | list
  deriving DecidableEq
/-- built-ins of one argument -/
inductive B1 where
  | len | sum | all | any | sorted | list | tuple | max | min | str | int | join (sep : List Nat) | lenset | sortset
  deriving DecidableEq
/-- .. of two: methods among them -/
inductive B2 where
  | max2 | min2 | repl0 | index | lindex | split | get
  deriving DecidableEq
/-- a def's promise: its arguments, what is wanted of its answer, of its exceptions -/
abbrev FS := List D → (D → Prop) → (Nat → Prop) → Prop
inductive MG where
  | nm (i : Nat) | tp (gs : List MG)

inductive ME where
  | con (d : D)
  | var (i : Nat) | peek (i : Nat)
  | bin (op : BOp) (a b : ME) | neg (a : ME)
  | not (a : ME) | and (a b : ME) | or (a b : ME) | ife (c a b : ME)
  | cmp (op : COp) (a b : ME) | chain (o1 o2 : COp) (a b c : ME) | isn (neg : Bool) (a : ME)
  | tup (es : List ME) | lst (es : List ME) | dict (ks vs : List ME)
  | sub (a i : ME) | subS (a i : ME) | sl (a lo hi : ME) | nop | rev (a : ME)
  | lc (tg : MG) (src : ME) (ifs : List ME) (elt : ME) | dc (tg : MG) (src k v : ME)
  | call (f : FS) (es : List ME)
  | b1 (f : B1) (a : ME) | b2 (f : B2) (a b : ME) | get3 (a b c : ME)
  | isi (a : ME) (t : Ty)
  | told (e : ME)
  | enum (e : ME) | enumS (e : ME) | lcX (tg : MG) (src elt : ME) | rng1 (a : ME) | rng2 (a b : ME) | rrng (a : ME)

inductive MS where
  | asg (g : MG) (fr : List Nat) (e : ME)
  | par (i j : Nat) (fr : List Nat) (a b : ME)
  | par3 (i j k : Nat) (fr : List Nat) (a b c : ME)
  | aug (i : Nat) (op : BOp) (fr : List Nat) (e : ME)
  | setix (i : Nat) (fr : List Nat) (ix e : ME)
  | swp (i : Nat) (fr : List Nat) (ix jx a b : ME)
  | augix (i : Nat) (fr : List Nat) (ix e : ME)
  | app (i : Nat) (fr : List Nat) (e : ME)
  | ret (fr : List Nat) (e : ME)
  | expr (fr : List Nat) (e : ME)
  | for (g : MG) (fr : List Nat) (src : ME) (body : List MS)
  | whl (c : ME) (body : List MS)
  | ifs (c : ME) (a b : List MS)
  | raise (k : Nat)

/-! ### the operations -/
def sumLen (a b : Nat) : Bool := decide (a + b ≤ 16777216)
def ltL (x y : List Nat) : Bool := decide (x < y)
/-- one factor below 2^64, or both below 2^200 -/
def mulOk (a b : Int) : Bool := decide (a.natAbs < 2 ^ 64) || decide (b.natAbs < 2 ^ 64) || (decide (a.natAbs < 2 ^ 200) && decide (b.natAbs < 2 ^ 200))
def binD : BOp → D → D → Option D
  | .add, .int a, .int b => some (.int (a + b))
  | .add, .str a, .str b => if sumLen a.length b.length then some (.str (a ++ b)) else none
  | .add, .lst a, .lst b => if sumLen a.length b.length then some (.lst (a ++ b)) else none
  | .add, .tup a, .tup b => if sumLen a.length b.length then some (.tup (a ++ b)) else none
  | .sub, .int a, .int b => some (.int (a - b))
  | .mul, .int a, .int b => if mulOk a b then some (.int (a * b)) else none
  | .mul, .lst a, .int k => if decide (0 ≤ k) && decide (k ≤ 1000) && decide (a.length ≤ 1000) then some (.lst (List.replicate k.toNat a).flatten) else none
  | .mul, .tup a, .int k => if decide (2 ≤ k) && decide (k ≤ 1000) && decide (0 < a.length) && decide (a.length ≤ 1000) then some (.tup (List.replicate k.toNat a).flatten) else none
  | .mul, .str a, .int k => if decide (0 ≤ k) && decide (k ≤ 1000) && decide (a.length ≤ 1000) then some (.str (List.replicate k.toNat a).flatten) else none
  | .mod, .int a, .int b => if decide (0 < b) then some (.int (a % b)) else none
  | .fdiv, .int a, .int b => if decide (0 < b) && decide (b.natAbs < 2 ^ 100) then some (.int (a / b)) else none
  | _, _, _ => none
def eqOk (x y : D) : Bool := x.pl && y.pl && decide (min x.dep y.dep ≤ 30)
def cmpD : COp → D → D → Option Bool
  | .eq, x, y => if eqOk x y then some (D.eqv x y) else none
  | .ne, x, y => if eqOk x y then some (!D.eqv x y) else none
  | .lt, .int a, .int b => some (decide (a < b))
  | .le, .int a, .int b => some (decide (a ≤ b))
  | .gt, .int a, .int b => some (decide (b < a))
  | .ge, .int a, .int b => some (decide (b ≤ a))
  | .lt, .str a, .str b => some (ltL a b)
  | .gt, .str a, .str b => some (ltL b a)
  | .inn, .str [c], .str s => some (decide (c ∈ s))
  | .nin, .str [c], .str s => some (!decide (c ∈ s))
  | .inn, x, .lst ys => if eqOk x (.lst ys) then some (ys.any fun z => D.eqv z x) else none
  | .nin, x, .lst ys => if eqOk x (.lst ys) then some (!ys.any fun z => D.eqv z x) else none
  | .inn, .str k, .dic ks _ => some (decide (k ∈ ks))
  | .nin, .str k, .dic ks _ => some (!decide (k ∈ ks))
  | _, _, _ => none
/-- the place that an index of any sign means -/
def lookD : List (List Nat) → List D → List Nat → Option D
  | k :: ks, v :: vs, x => if k = x then some v else lookD ks vs x
  | _, _, _ => none
def subD : D → D → Option D
  | .lst xs, .int i => atI xs i
  | .tup xs, .int i => atI xs i
  | .str s, .int i => if s.length ≤ 16777216 then (atI s i).map fun c => .str [c] else none
  | .dic ks vs, .str k => lookD ks vs k
  | _, _ => none
/-- a text's sign -/
def subS : D → D → Option D
  | .str s, .int i => subD (.str s) (.int i)
  | _, _ => none
def cutL {α : Type} (xs : List α) (lo hi : Option Int) : List α := (xs.drop (HT.sIx xs.length 0 lo)).take (HT.sIx xs.length xs.length hi - HT.sIx xs.length 0 lo)
def slD : D → Option Int → Option Int → Option D
  | .lst xs, lo, hi => some (.lst (cutL xs lo hi))
  | .tup xs, lo, hi => some (.tup (cutL xs lo hi))
  | .str s, lo, hi => if s.length ≤ 16777216 then some (.str (cutL s lo hi)) else none
  | _, _, _ => none
def revD : D → Option D
  | .lst xs => some (.lst xs.reverse)
  | .tup xs => some (.tup xs.reverse)
  | .str s => if s.length ≤ 16777216 then some (.str s.reverse) else none
  | _ => none
def chars (s : List Nat) : List D := s.map fun c => .str [c]
def itemsD : D → Option (List D)
  | .lst xs => some xs
  | .tup xs => some xs
  | .str s => some (chars s)
  | .dic ks _ => some (ks.map .str)
  | _ => none
/-- .. but of no dict -/
def itemsS : D → Option (List D)
  | .dic _ _ => none
  | d => itemsD d
/-- .. a list, a tuple, a text -/
def itemsE : D → Option (List D)
  | .lst xs => some xs
  | .tup xs => some xs
  | .str s => some (chars s)
  | _ => none
def enumD (xs : List D) : List D := xs.mapIdx fun i x => .tup [.int i, x]
def intsD : List D → Option (List Int)
  | [] => some []
  | .int i :: r => (intsD r).map (i :: ·)
  | _ => none
def blsD : List D → Option (List Bool)
  | [] => some []
  | .bl b :: r => (blsD r).map (b :: ·)
  | _ => none
def strsD : List D → Option (List (List Nat))
  | [] => some []
  | .str s :: r => (strsD r).map (s :: ·)
  | _ => none
def leL (x y : List Nat) : Bool := !ltL y x
def sortL (xs : List (List Nat)) : List (List Nat) := xs.mergeSort leL
def maxI : List Int → Option Int
  | [] => none
  | x :: xs => some (xs.foldl max x)
def minI : List Int → Option Int
  | [] => none
  | x :: xs => some (xs.foldl min x)
def maxL2 (x y : List Nat) : List Nat := if ltL x y then y else x
def minL2 (x y : List Nat) : List Nat := if ltL y x then y else x
def maxS : List (List Nat) → Option (List Nat)
  | [] => none
  | x :: xs => some (xs.foldl maxL2 x)
def joinL (sep : List Nat) : List (List Nat) → List Nat
  | [] => []
  | [x] => x
  | x :: r => x ++ sep ++ joinL sep r
/-- how many different ones -/
def difC : List (List Nat) → Nat
  | [] => 0
  | x :: r => if r.any (· == x) = true then difC r else difC r + 1
def dedup : List (List Nat) → List (List Nat)
  | [] => []
  | x :: r => x :: (dedup r).filter fun y => y != x
def b1D : B1 → D → Option D
  | .len, .str s => if s.length ≤ 16777216 then some (.int s.length) else none
  | .len, .lst xs => some (.int xs.length)
  | .len, .tup xs => some (.int xs.length)
  | .sum, .lst xs => (intsD xs).map fun ns => .int ns.sum
  | .sum, .tup xs => (intsD xs).map fun ns => .int ns.sum
  | .all, .lst xs => (blsD xs).map fun bs => .bl (bs.all id)
  | .any, .lst xs => (blsD xs).map fun bs => .bl (bs.any id)
  | .sorted, .str s => if s.length ≤ 1000 then some (.lst ((sortL (s.map fun c => [c])).map .str)) else none
  | .sorted, .lst xs => (strsD xs).bind fun ss => if ss.length ≤ 1000 then some (.lst ((sortL ss).map .str)) else none
  | .list, d => (itemsS d).bind fun xs => if xs.length ≤ 1000 then some (.lst xs) else none
  | .tuple, .lst xs => some (.tup xs)
  | .tuple, .tup xs => some (.tup xs)
  | .max, .lst xs => match intsD xs with
    | some ns => (maxI ns).map .int
    | none => (strsD xs).bind fun ss => (maxS ss).map .str
  | .max, .str s => (maxS (s.map fun c => [c])).map .str
  | .min, .lst xs => (intsD xs).bind fun ns => (minI ns).map .int
  | .str, .int i => if decide (0 ≤ i) && decide (i < 1000) then some (.str ((toString i).toList.map Char.toNat)) else none
  | .int, .bl b => some (.int (if b then 1 else 0))
  | .int, .str s => if decide (1 ≤ s.length) && decide (s.length ≤ 3) && s.all (fun c => decide (48 ≤ c) && decide (c ≤ 57)) then some (.int (s.foldl (fun (n : Int) (c : Nat) => 10 * n + ((c : Int) - 48)) 0)) else none
  | .join sep, .lst xs => (strsD xs).bind fun ss => if decide (ss.length ≤ 1000) && ss.all (fun s => decide (s.length ≤ 1000)) && decide (sep.length ≤ 10) then some (.str (joinL sep ss)) else none
  | .lenset, .str s => if s.length ≤ 1000 then some (.int (difC (s.map fun c => [c]).reverse)) else none
  | .lenset, .lst xs => (strsD xs).bind fun ss => if ss.length ≤ 1000 then some (.int (difC ss.reverse)) else none
  | .sortset, .lst xs => (strsD xs).bind fun ss => if ss.length ≤ 1000 then some (.lst ((sortL (dedup ss)).map .str)) else none
  | _, _ => none
def idxL {α : Type} [DecidableEq α] (xs : List α) (x : α) : Option Nat := xs.findIdx? fun y => decide (y = x)
/-- cut at each sep, a sign -/
def splitL (sep : Nat) : List Nat → List (List Nat)
  | [] => [[]]
  | c :: r => if c = sep then [] :: splitL sep r else match splitL sep r with
    | [] => [[c]]
    | h :: t => (c :: h) :: t
def b2D : B2 → D → D → Option D
  | .max2, .int a, .int b => some (.int (max a b))
  | .min2, .int a, .int b => some (.int (min a b))
  | .min2, .str a, .str b => some (.str (minL2 a b))
  | .min2, .tup [.int a, .str s], .tup [.int b, .str t] => some (if b < a ∨ (b = a ∧ ltL t s = true) then .tup [.int b, .str t] else .tup [.int a, .str s])
  | .repl0, .str s, .str [c] => if s.length ≤ 1000 then some (.str (s.filter fun x => x != c)) else none
  | .index, .str s, .str [c] => (idxL s c).map fun (i : Nat) => D.int (i : Nat)
  | .lindex, .lst xs, .str k => (strsD xs).bind fun ss => (idxL ss k).map fun (i : Nat) => D.int (i : Nat)
  | .split, .str s, .str [c] => if s.length ≤ 1000 then some (.lst ((splitL c s).map .str)) else none
  | .get, .dic ks vs, .str k => some ((lookD ks vs k).getD .non)
  | _, _, _ => none
/-- the receiver of a method -/
def b2T : B2 → D → Bool
  | .repl0, .str _ => true
  | .index, .str _ => true
  | .split, .str _ => true
  | .lindex, .lst _ => true
  | .get, .dic _ _ => true
  | .max2, _ => true
  | .min2, _ => true
  | _, _ => false
def isiD : D → Ty → Bool
  | .int _, .int => true
  | .bl _, .int => true
  | .bl _, .bool => true
  | .str _, .str => true
  | .tup _, .tuple => true
  | .lst _, .list => true
  | _, _ => false
/-- the dict {k: v} grown -/
def putD (ks : List (List Nat)) (vs : List D) (x : List Nat) (d : D) : List (List Nat) × List D :=
  if x ∈ ks then (ks, List.zipWith (fun k v => if k = x then d else v) ks vs) else (ks ++ [x], vs ++ [d])

/-! ### environments -/
def Slot.frz : Slot → Slot
  | .own d => .imm d
  | s => s
def frz1 : Nat → DEnv → DEnv
  | _, [] => []
  | 0, s :: r => s.frz :: r
  | i + 1, s :: r => s :: frz1 i r
def frz : List Nat → DEnv → DEnv
  | [], ρ => ρ
  | i :: r, ρ => frz r (frz1 i ρ)
def notOwn (ρ : DEnv) (i : Nat) : Bool := match ρ[i]? with
  | some (.own _) => false
  | _ => true
mutual
def MG.slots : MG → List Nat
  | .nm i => [i]
  | .tp gs => MG.slotss gs
def MG.slotss : List MG → List Nat
  | [] => []
  | g :: gs => MG.slots g ++ MG.slotss gs
end
mutual
def asgG : MG → D → DEnv → Option DEnv
  | .nm i, d, ρ => some (ρ.set i (.imm d))
  | .tp gs, .tup ds, ρ => asgGs gs ds ρ
  | _, _, _ => none
def asgGs : List MG → List D → DEnv → Option DEnv
  | [], [], ρ => some ρ
  | g :: gs, d :: ds, ρ => (asgG g d ρ).bind fun ρ' => asgGs gs ds ρ'
  | _, _, _ => none
end
/-- the comprehension's own names forgotten -/
def wipeD (ρ : DEnv) : List Nat → DEnv
  | [] => ρ
  | v :: vs => (wipeD ρ vs).set v .no
/-- the value is a new list or dict -/
def ME.fresh : ME → Bool
  | .bin .add _ _ => true
  | .bin .mul _ _ => true
  | .lst _ => true
  | .dict _ _ => true
  | .lc _ _ _ _ => true
  | .lcX _ _ _ => true
  | .dc _ _ _ _ => true
  | .b1 .list _ => true
  | .b1 .sorted _ => true
  | .b1 .sortset _ => true
  | _ => false
/-- what a slot holds behind x = e -/
def slotOf (e : ME) (d : D) : Slot := if e.fresh && d.isBox then .own d else .imm d

/-! ### weakest preconditions -/
def onS {α : Type} (o : Option α) (Q : α → Prop) : Prop := match o with
  | some a => Q a
  | none => False
def onB (Q : Bool → Prop) (d : D) : Prop := match d with
  | .bl b => Q b
  | _ => False
def onI (Q : Option Int → Prop) (d : D) : Prop := match d with
  | .int i => Q (some i)
  | _ => False
def ME.isNop : ME → Bool
  | .nop => true
  | _ => false
def onP (nop : Bool) (Q : Option Int → Prop) (d : D) : Prop := if nop = true then Q none else onI Q d
/-- the items of what is walked -/
def onIt (Q : List D → Prop) (d : D) : Prop := onS (itemsS d) Q
def smallI (i : Int) : Bool := decide (-(2 ^ 62) ≤ i) && decide (i < 2 ^ 62)
def rngD (lo : Int) (n : Nat) : List D := (List.range n).map fun k => .int (lo + (k : Nat))
/-- a comprehension's turns -/
def wLC (ρ : DEnv) (tg : MG) (c : DEnv → (Bool → Prop) → Prop) (el : DEnv → (D → Prop) → Prop) : List D → List D → (List D → Prop) → Prop
  | [], acc, Q => Q acc
  | x :: xs, acc, Q => onS (asgG tg x ρ) fun ρ' => c ρ' fun b => if b = true then acc.length < 16777216 ∧ el ρ' fun d => wLC ρ tg c el xs (acc ++ [d]) Q else wLC ρ tg c el xs acc Q
def wDC (ρ : DEnv) (tg : MG) (k v : DEnv → (D → Prop) → Prop) : List D → List (List Nat) → List D → (List (List Nat) → List D → Prop) → Prop
  | [], ks, vs, Q => Q ks vs
  | x :: xs, ks, vs, Q => onS (asgG tg x ρ) fun ρ' => k ρ' fun kd => v ρ' fun vd => match kd with
    | .str s => ks.length < 16777216 ∧ wDC ρ tg k v xs (putD ks vs s vd).1 (putD ks vs s vd).2 Q
    | _ => False
def excName : Nat → List Nat := fun k => ([("InvalidVotes" : String), "InvalidCandidate", "InvalidBallot", "InvalidTimes", "InvalidNames", "InvalidCandidates", "InvalidNumber", "InvalidText", "TooMany", "Unlike", "NotThere", "NothingToUndo"].map fun s => s.toList.map Char.toNat).getD k []
def errD (k : Nat) : D := .tup [.str [101, 114, 114, 111, 114], .str (excName k)]

mutual
def wE : ME → DEnv → (D → Prop) → (Nat → Prop) → Prop
  | .con d, _, Q, _ => Q d
  | .var i, ρ, Q, _ => match ρ[i]? with
    | some (.imm d) => Q d
    | _ => False
  | .peek i, ρ, Q, _ => match ρ[i]? with
    | some (.imm d) => Q d
    | some (.own d) => Q d
    | _ => False
  | .bin op a b, ρ, Q, X => wE a ρ (fun x => wE b ρ (fun y => onS (binD op x y) Q) X) X
  | .neg a, ρ, Q, X => wE a ρ (fun x => match x with
    | .int i => Q (.int (-i))
    | _ => False) X
  | .not a, ρ, Q, X => wE a ρ (onB fun b => Q (.bl (!b))) X
  | .and a b, ρ, Q, X => wE a ρ (onB fun c => if c = true then wE b ρ (onB fun e => Q (.bl e)) X else Q (.bl false)) X
  | .or a b, ρ, Q, X => wE a ρ (onB fun c => if c = true then Q (.bl true) else wE b ρ (onB fun e => Q (.bl e)) X) X
  | .ife c a b, ρ, Q, X => wE c ρ (onB fun t => if t = true then wE a ρ Q X else wE b ρ Q X) X
  | .cmp op a b, ρ, Q, X => wE a ρ (fun x => wE b ρ (fun y => onS (cmpD op x y) fun r => Q (.bl r)) X) X
  | .chain o1 o2 a b c, ρ, Q, X => wE a ρ (fun x => wE b ρ (fun y => onS (cmpD o1 x y) fun r => if r = true then wE c ρ (fun z => onS (cmpD o2 y z) fun r => Q (.bl r)) X else Q (.bl false)) X) X
  | .isn neg a, ρ, Q, X => wE a ρ (fun x => match x with
    | .non => Q (.bl (!neg))
    | _ => Q (.bl neg)) X
  | .tup es, ρ, Q, X => wEs es ρ (fun ds => ds.length ≤ 16777216 ∧ Q (.tup ds)) X
  | .lst es, ρ, Q, X => wEs es ρ (fun ds => ds.length ≤ 16777216 ∧ Q (.lst ds)) X
  | .dict [] [], _, Q, _ => Q (.dic [] [])
  | .dict [k] [v], ρ, Q, X => wE k ρ (fun kd => wE v ρ (fun vd => match kd with
    | .str s => Q (.dic [s] [vd])
    | _ => False) X) X
  | .dict _ _, _, _, _ => False
  | .sub a i, ρ, Q, X => wE a ρ (fun x => wE i ρ (fun y => onS (subD x y) Q) X) X
  | .subS a i, ρ, Q, X => wE a ρ (fun x => wE i ρ (fun y => onS (subS x y) Q) X) X
  | .sl a lo hi, ρ, Q, X => wE a ρ (fun x => wE lo ρ (onP lo.isNop fun l => wE hi ρ (onP hi.isNop fun h => onS (slD x l h) Q) X) X) X
  | .nop, _, Q, _ => Q .non
  | .rev a, ρ, Q, X => wE a ρ (fun x => onS (revD x) Q) X
  | .lc tg src ifs elt, ρ, Q, X => tg.slots.all (notOwn ρ) = true ∧ wE src ρ (onIt fun xs => wLC (wipeD ρ tg.slots) tg (fun ρ' K => wIfs ifs ρ' K) (fun ρ' K => wE elt ρ' K fun _ => False) xs [] fun ds => Q (.lst ds)) X
  | .dc tg src k v, ρ, Q, X => tg.slots.all (notOwn ρ) = true ∧ wE src ρ (onIt fun xs => wDC (wipeD ρ tg.slots) tg (fun ρ' K => wE k ρ' K fun _ => False) (fun ρ' K => wE v ρ' K fun _ => False) xs [] [] fun ks vs => Q (.dic ks vs)) X
  | .call f es, ρ, Q, X => wEs es ρ (fun ds => f ds Q X) X
  | .b1 f a, ρ, Q, X => wE a ρ (fun x => onS (b1D f x) Q) X
  | .b2 f a b, ρ, Q, X => wE a ρ (fun x => b2T f x = true ∧ wE b ρ (fun y => onS (b2D f x y) Q) X) X
  | .get3 a b c, ρ, Q, X => wE a ρ (fun x => match x with
    | .dic ks vs => wE b ρ (fun y => wE c ρ (fun z => match y with
      | .str k => Q ((lookD ks vs k).getD z)
      | _ => False) X) X
    | _ => False) X
  | .isi a t, ρ, Q, X => wE a ρ (fun x => x.nd = true ∧ Q (.bl (isiD x t))) X
  | .told e, ρ, Q, _ => wE e ρ Q fun k => k < 12 ∧ Q (errD k)
  | .enum a, ρ, Q, X => wE a ρ (fun x => onS (itemsE x) fun xs => Q (.lst (enumD xs))) X
  | .enumS a, ρ, Q, X => wE a ρ (fun x => match x with
    | .str s => Q (.lst (enumD (chars s)))
    | _ => False) X
  | .lcX tg src elt, ρ, Q, X => tg.slots.all (notOwn ρ) = true ∧ wE src ρ (onIt fun xs => wLC (wipeD ρ tg.slots) tg (fun _ K => K true) (fun ρ' K => wE elt ρ' K X) xs [] fun ds => Q (.lst ds)) X
  | .rng1 a, ρ, Q, X => wE a ρ (fun x => match x with
    | .int n => smallI n = true ∧ Q (.lst (rngD 0 n.toNat))
    | _ => False) X
  | .rng2 a b, ρ, Q, X => wE a ρ (fun x => wE b ρ (fun y => match x, y with
    | .int i, .int j => smallI i = true ∧ smallI j = true ∧ Q (.lst (rngD i (j - i).toNat))
    | _, _ => False) X) X
  | .rrng a, ρ, Q, X => wE a ρ (fun x => match x with
    | .int n => smallI n = true ∧ Q (.lst (rngD 0 n.toNat).reverse)
    | _ => False) X
def wEs : List ME → DEnv → (List D → Prop) → (Nat → Prop) → Prop
  | [], _, Q, _ => Q []
  | e :: es, ρ, Q, X => wE e ρ (fun d => wEs es ρ (fun ds => Q (d :: ds)) X) X
def wIfs : List ME → DEnv → (Bool → Prop) → Prop
  | [], _, Q => Q true
  | [e], ρ, Q => wE e ρ (onB Q) fun _ => False
  | _, _, _ => False
end

/-- the turns of a loop -/
def wLoop (step : D → DEnv → (DEnv → Prop) → Prop) : List D → DEnv → (DEnv → Prop) → Prop
  | [], ρ, K => K ρ
  | x :: xs, ρ, K => step x ρ fun ρ' => wLoop step xs ρ' K
def wWhl (c : DEnv → (Bool → Prop) → Prop) (b : DEnv → (DEnv → Prop) → Prop) : Nat → DEnv → (DEnv → Prop) → Prop
  | 0, _, _ => False
  | n + 1, ρ, K => c ρ fun t => if t = true then b ρ fun ρ' => wWhl c b n ρ' K else K ρ

mutual
def wS : MS → DEnv → (DEnv → Prop) → (D → Prop) → (Nat → Prop) → Prop
  | .asg (.nm i) fr e, ρ, N, _, X => wE e (frz fr ρ) (fun d => N ((frz fr ρ).set i (slotOf e d))) X
  | .asg g fr e, ρ, N, _, X => wE e (frz fr ρ) (fun d => onS (asgG g d (frz fr ρ)) N) X
  | .par i j fr a b, ρ, N, _, X => wE a (frz fr ρ) (fun x => wE b (frz fr ρ) (fun y => N (((frz fr ρ).set i (slotOf a x)).set j (slotOf b y))) X) X
  | .par3 i j k fr a b c, ρ, N, _, X => wE a (frz fr ρ) (fun x => wE b (frz fr ρ) (fun y => wE c (frz fr ρ) (fun z => N ((((frz fr ρ).set i (slotOf a x)).set j (slotOf b y)).set k (slotOf c z))) X) X) X
  | .aug i op fr e, ρ, N, _, X => match (frz fr ρ)[i]? with
    | some (.imm (.int x)) => wE e (frz fr ρ) (fun y => match y with
      | .int _ => onS (binD op (.int x) y) fun z => N ((frz fr ρ).set i (.imm z))
      | _ => False) X
    | _ => False
  | .setix i fr ix e, ρ, N, _, X => wE e (frz fr ρ) (fun y => match (frz fr ρ)[i]? with
    | some (.own (.lst xs)) => wE ix (frz fr ρ) (fun k => match k with
      | .int n => onS (ixN xs.length n) fun j => N ((frz fr ρ).set i (.own (.lst (xs.set j y))))
      | _ => False) X
    | some (.own (.dic ks vs)) => wE ix (frz fr ρ) (fun k => match k with
      | .str s => ks.length < 16777216 ∧ N ((frz fr ρ).set i (.own (.dic (putD ks vs s y).1 (putD ks vs s y).2)))
      | _ => False) X
    | _ => False) X
  | .swp i fr ix jx a b, ρ, N, _, X => wE a (frz fr ρ) (fun x => wE b (frz fr ρ) (fun y => match (frz fr ρ)[i]? with
    | some (.own (.lst xs)) => wE ix (frz fr ρ) (fun k => match k with
      | .int n => onS (ixN xs.length n) fun j => wE jx ((frz fr ρ).set i (.own (.lst (xs.set j x)))) (fun l => match l with
        | .int n' => onS (ixN xs.length n') fun j' => N ((frz fr ρ).set i (.own (.lst ((xs.set j x).set j' y))))
        | _ => False) X
      | _ => False) X
    | _ => False) X) X
  | .augix i fr ix e, ρ, N, _, X => match (frz fr ρ)[i]? with
    | some (.own (.dic ks vs)) => wE ix (frz fr ρ) (fun k => match k with
      | .str s => match lookD ks vs s with
        | some (.int x) => wE e (frz fr ρ) (fun y => match y with
          | .int n => ks.length < 16777216 ∧ N ((frz fr ρ).set i (.own (.dic (putD ks vs s (.int (x + n))).1 (putD ks vs s (.int (x + n))).2)))
          | _ => False) X
        | _ => False
      | _ => False) X
    | _ => False
  | .app i fr e, ρ, N, _, X => match (frz fr ρ)[i]? with
    | some (.own (.lst xs)) => wE e (frz fr ρ) (fun y => xs.length < 16777216 ∧ N ((frz fr ρ).set i (.own (.lst (xs ++ [y]))))) X
    | _ => False
  | .ret fr e, ρ, _, R, X => wE e (frz fr ρ) R X
  | .expr fr e, ρ, N, _, X => wE e (frz fr ρ) (fun _ => N (frz fr ρ)) X
  | .for g fr src body, ρ, N, R, X => wE src (frz fr ρ) (onIt fun xs => wLoop (fun x ρ' K => onS (asgG g x ρ') fun ρ'' => wSs body ρ'' K R X) xs (frz fr ρ) N) X
  | .whl c body, ρ, N, R, X => ∃ n, wWhl (fun ρ' K => wE c ρ' (onB K) X) (fun ρ' K => wSs body ρ' K R X) n ρ N
  | .ifs c a b, ρ, N, R, X => wE c ρ (onB fun t => if t = true then wSs a ρ N R X else wSs b ρ N R X) X
  | .raise k, _, _, _, X => X k
def wSs : List MS → DEnv → (DEnv → Prop) → (D → Prop) → (Nat → Prop) → Prop
  | [], ρ, N, _, _ => N ρ
  | s :: r, ρ, N, R, X => wS s ρ (fun ρ' => wSs r ρ' N R X) R X
end
/-- the slots at a def's entry -/
def envD (n : Nat) (ds : List D) : DEnv := ds.map .imm ++ List.replicate (n - ds.length) .no
end DL

set_option Elab.async false
set_option linter.all false
set_option maxRecDepth 100000
set_option maxHeartbeats 4000000
/-! DL2: how data lies in the abstract heap. -/
namespace DL
open PySem PySem.Spec PyProof.Rows L2
abbrev St := L2.St

abbrev mkS (s : List Nat) : Str := ⟨s.toArray⟩
abbrev kk (s : List Nat) : Key := .inr (mkS s)
theorem mkS_inj {s t : List Nat} (h : mkS s = mkS t) : s = t := by
  have h1 := congrArg (fun z : Str => z.cps.toList) h
  simpa using h1
theorem kk_inj {s t : List Nat} (h : kk s = kk t) : s = t := mkS_inj (Sum.inr.inj h)
theorem mkS_of (z : Str) : mkS z.cps.toList = z := by cases z; simp [mkS]

/-- the tables of code objects -/
class Tb where
  tabs : List (Addr × Str)
variable [Tb]
/-- what may change under a def's feet: dices; tables of code objects -/
structure GI where
  dice : Addr → Prop
def GI.tabs (_ : GI) : List (Addr × Str) := Tb.tabs
def GI.mv (G : GI) (a : Addr) : Prop := G.dice a ∨ ∃ q, (a, q) ∈ G.tabs
def GInv (G : GI) (H : Hp) : Prop := (∀ a, G.dice a → ∃ i j, H a = some (.lst [.int i, .int j])) ∧ LamX.Tabs G.tabs H
structure Ext (G : GI) (H H' : Hp) : Prop where
  keep : ∀ a o, H a = some o → ¬ G.mv a → H' a = some o
  inv : GInv G H → GInv G H'
theorem Ext.refl (G : GI) (H : Hp) : Ext G H H := ⟨fun _ _ h _ => h, fun h => h⟩
theorem Ext.trans {G : GI} {H H1 H2 : Hp} (a : Ext G H H1) (b : Ext G H1 H2) : Ext G H H2 := ⟨fun c o h n => b.keep c o (a.keep c o h n) n, fun h => b.inv (a.inv h)⟩
theorem GInv.same {G : GI} {H H' : Hp} (i : GInv G H) (h : Same H H') : GInv G H' :=
  ⟨fun a d => let ⟨x, y, e⟩ := i.1 a d; ⟨x, y, h _ _ e⟩, i.2.ext h⟩
theorem Ext.same {G : GI} {H H' : Hp} (h : Same H H') : Ext G H H' := ⟨fun a o e _ => h a o e, fun i => i.same h⟩
theorem same_upd {H : Hp} {p : Addr} {o : HO} (hp : H p = none) : Same H (upd H p o) := fun b u e => by
  rw [upd_ne (ne_of_none e hp)]; exact e
theorem Ext.new {G : GI} {H : Hp} {p : Addr} {o : HO} (hp : H p = none) : Ext G H (upd H p o) := .same (same_upd hp)
theorem GInv.trk {G : GI} {H : Hp} (i : GInv G H) {a : Addr} (m : G.mv a) : (∃ x y, H a = some (.lst [.int x, .int y])) ∨ ∃ ps, H a = some (.tbl ps) := by
  rcases m with m | ⟨q, m⟩
  · exact .inl (i.1 a m)
  · obtain ⟨ps, e, _⟩ := i.2 _ m
    exact .inr ⟨ps, e⟩
theorem GInv.tup {G : GI} {H : Hp} (i : GInv G H) {a : Addr} {xs : List V} (h : Rd H a (.tup xs)) : ¬ G.mv a := fun m => by
  rcases i.trk m with ⟨x, y, e⟩ | ⟨ps, e⟩
  · rcases h with h | ⟨o, h⟩ <;> (rw [h] at e; cases e)
  · rcases h with h | ⟨o, h⟩ <;> (rw [h] at e; cases e)

mutual
/-- d lies at v; no list or dict of it stands in U -/
def Rp (G : GI) (U : Addr → Prop) (H : Hp) : D → V → Prop
  | .non, v => v = .non
  | .bl b, v => v = .bl b
  | .int i, v => v = .int i
  | .str s, v => v = .str (mkS s)
  | .tup ds, v => ∃ a xs, v = .ref a ∧ Rd H a (.tup xs) ∧ RpL G U H ds xs
  | .lst ds, v => ∃ a xs, v = .ref a ∧ H a = some (.lst xs) ∧ ¬ U a ∧ RpL G U H ds xs
  | .dic ks vs, v => ∃ a kvs, v = .ref a ∧ Rd H a (.dK kvs) ∧ ¬ U a ∧ kvs.map (·.1) = ks.map kk ∧ RpL G U H vs (kvs.map (·.2))
  | .dice, v => ∃ a, v = .ref a ∧ G.dice a
def RpL (G : GI) (U : Addr → Prop) (H : Hp) : List D → List V → Prop
  | [], vs => vs = []
  | d :: ds, vs => ∃ v r, vs = v :: r ∧ Rp G U H d v ∧ RpL G U H ds r
end
/-- .. the outermost may stand in U -/
def RpP (G : GI) (U : Addr → Prop) (H : Hp) : D → V → Prop
  | .lst ds, v => ∃ a xs, v = .ref a ∧ H a = some (.lst xs) ∧ RpL G U H ds xs
  | .dic ks vs, v => ∃ a kvs, v = .ref a ∧ Rd H a (.dK kvs) ∧ kvs.map (·.1) = ks.map kk ∧ RpL G U H vs (kvs.map (·.2))
  | d, v => Rp G U H d v
/-- an owned list or dict at a -/
def OwnAt (G : GI) (U : Addr → Prop) (H : Hp) (a : Addr) : D → Prop
  | .lst ds => ∃ xs, H a = some (.lst xs) ∧ RpL G U H ds xs
  | .dic ks vs => ∃ kvs, H a = some (.dK kvs) ∧ kvs.map (·.1) = ks.map kk ∧ RpL G U H vs (kvs.map (·.2))
  | _ => False

theorem Rp.p {G : GI} {U : Addr → Prop} {H : Hp} {d : D} {v : V} (h : Rp G U H d v) : RpP G U H d v := by
  cases d with
  | lst ds => obtain ⟨a, xs, e, r, _, l⟩ := h; exact ⟨a, xs, e, r, l⟩
  | dic ks vs => obtain ⟨a, xs, e, r, _, l⟩ := h; exact ⟨a, xs, e, r, l⟩
  | _ => exact h
theorem OwnAt.p {G : GI} {U : Addr → Prop} {H : Hp} {a : Addr} {d : D} (h : OwnAt G U H a d) : RpP G U H d (.ref a) := by
  cases d with
  | lst ds => obtain ⟨xs, r, l⟩ := h; exact ⟨a, xs, rfl, r, l⟩
  | dic ks vs => obtain ⟨xs, r, l⟩ := h; exact ⟨a, xs, rfl, .inl r, l⟩
  | _ => exact h.elim
theorem OwnAt.box {G : GI} {U : Addr → Prop} {H : Hp} {a : Addr} {d : D} (h : OwnAt G U H a d) : d.isBox = true := by
  cases d <;> first | rfl | exact h.elim
theorem OwnAt.trk {G : GI} {U : Addr → Prop} {H : Hp} {a : Addr} {d : D} (h : OwnAt G U H a d) : ∃ o, H a = some o := by
  cases d with
  | lst ds => obtain ⟨xs, r, l⟩ := h; exact ⟨_, r⟩
  | dic ks vs => obtain ⟨xs, r, l⟩ := h; exact ⟨_, r⟩
  | _ => exact h.elim

/-- outside U lists and dicts are kept; tuples too -/
structure Kp (U : Addr → Prop) (H H' : Hp) : Prop where
  lst : ∀ a xs, H a = some (.lst xs) → ¬ U a → H' a = some (.lst xs)
  dK : ∀ a kvs, Rd H a (.dK kvs) → ¬ U a → Rd H' a (.dK kvs)
  tup : ∀ a xs, Rd H a (.tup xs) → Rd H' a (.tup xs)
theorem Kp.of {U : Addr → Prop} {H H' : Hp} (k : ∀ a o, H a = some o → ¬ U a → H' a = some o) (t : ∀ a xs, Rd H a (.tup xs) → Rd H' a (.tup xs)) : Kp U H H' :=
  ⟨fun a _ h n => k a _ h n, fun a _ h n => h.elim (fun h => .inl (k _ _ h n)) fun ⟨u, h⟩ => .inr ⟨u, k _ _ h n⟩, t⟩
theorem Ext.rd {G : GI} {H H' : Hp} (k : Ext G H H') {a : Addr} {o : HO} (h : Rd H a o) (n : ¬ G.mv a) : Rd H' a o := by
  rcases h with h | ⟨u, h⟩
  · exact .inl (k.keep _ _ h n)
  · exact .inr ⟨u, k.keep _ _ h n⟩
theorem Ext.kp {G : GI} {U : Addr → Prop} {H H' : Hp} (e : Ext G H H') (i : GInv G H) (hU : ∀ a, G.mv a → U a) : Kp U H H' :=
  .of (fun a o h n => e.keep a o h fun m => n (hU a m)) fun a xs h => e.rd h (i.tup h)
theorem Same.rd {H H' : Hp} (e : Same H H') {a : Addr} {o : HO} (h : Rd H a o) : Rd H' a o := h.elim (fun h => .inl (e _ _ h)) fun ⟨u, h⟩ => .inr ⟨u, e _ _ h⟩
theorem Same.kp {U : Addr → Prop} {H H' : Hp} (e : Same H H') : Kp U H H' := .of (fun a o h _ => e a o h) fun a xs h => Same.rd e h
theorem Kp.trans {U : Addr → Prop} {H H1 H2 : Hp} (a : Kp U H H1) (b : Kp U H1 H2) : Kp U H H2 :=
  ⟨fun c o h n => b.lst c o (a.lst c o h n) n, fun c o h n => b.dK c o (a.dK c o h n) n, fun c xs h => b.tup c xs (a.tup c xs h)⟩

mutual
theorem Rp.keep {G : GI} {U U' : Addr → Prop} {H H' : Hp} (k : Kp U H H') (hs : ∀ a, U' a → U a ∨ H a = none) : ∀ (d : D) (v : V), Rp G U H d v → Rp G U' H' d v
  | .non, _, h => h
  | .bl _, _, h => h
  | .int _, _, h => h
  | .str _, _, h => h
  | .tup ds, _, ⟨a, xs, e, r, l⟩ => ⟨a, xs, e, k.tup _ _ r, RpL.keep k hs ds xs l⟩
  | .lst ds, _, ⟨a, xs, e, r, n, l⟩ => ⟨a, xs, e, k.lst _ _ r n, fun m => by
      rcases hs a m with m | m
      · exact n m
      · (rw [r] at m; cases m), RpL.keep k hs ds xs l⟩
  | .dic ks vs, _, ⟨a, xs, e, r, n, q, l⟩ => ⟨a, xs, e, k.dK _ _ r n, fun m => by
      rcases hs a m with m | m
      · exact n m
      · rcases r with r | ⟨u, r⟩ <;> (rw [r] at m; cases m), q, RpL.keep k hs vs _ l⟩
  | .dice, _, h => h
theorem RpL.keep {G : GI} {U U' : Addr → Prop} {H H' : Hp} (k : Kp U H H') (hs : ∀ a, U' a → U a ∨ H a = none) : ∀ (ds : List D) (vs : List V), RpL G U H ds vs → RpL G U' H' ds vs
  | [], _, h => h
  | d :: ds, _, ⟨v, r, e, h1, h2⟩ => ⟨v, r, e, Rp.keep k hs d v h1, RpL.keep k hs ds r h2⟩
end
theorem Kp.refl (U : Addr → Prop) (H : Hp) : Kp U H H := ⟨fun _ _ h _ => h, fun _ _ h _ => h, fun _ _ h => h⟩
theorem Rp.anti {G : GI} {U U' : Addr → Prop} {H : Hp} (hs : ∀ a, U' a → U a ∨ H a = none) {d : D} {v : V} (h : Rp G U H d v) : Rp G U' H d v := Rp.keep (Kp.refl U H) hs d v h
theorem RpL.anti {G : GI} {U U' : Addr → Prop} {H : Hp} (hs : ∀ a, U' a → U a ∨ H a = none) {d : List D} {v : List V} (h : RpL G U H d v) : RpL G U' H d v := RpL.keep (Kp.refl U H) hs d v h
theorem RpL.len {G : GI} {U : Addr → Prop} {H : Hp} : ∀ {ds : List D} {vs : List V}, RpL G U H ds vs → vs.length = ds.length
  | [], _, h => by cases (show _ = [] from h); rfl
  | d :: ds, _, ⟨v, r, e, _, h2⟩ => by subst e; simp [RpL.len h2]
theorem RpL.get {G : GI} {U : Addr → Prop} {H : Hp} : ∀ {ds : List D} {vs : List V} {i : Nat} {d : D}, RpL G U H ds vs → ds[i]? = some d → ∃ v, vs[i]? = some v ∧ Rp G U H d v
  | [], _, _, _, _, e => by simp at e
  | d :: ds, _, 0, _, ⟨v, r, e, h1, _⟩, q => by subst e; simp at q; subst q; exact ⟨v, rfl, h1⟩
  | d :: ds, _, i + 1, _, ⟨v, r, e, _, h2⟩, q => by
    subst e
    obtain ⟨w, h, g⟩ := RpL.get (i := i) h2 (by simpa using q)
    exact ⟨w, by simpa using h, g⟩
theorem RpL.append {G : GI} {U : Addr → Prop} {H : Hp} : ∀ {ds es : List D} {vs ws : List V}, RpL G U H ds vs → RpL G U H es ws → RpL G U H (ds ++ es) (vs ++ ws)
  | [], _, _, _, h, g => by cases (show _ = [] from h); exact g
  | d :: ds, _, _, _, ⟨v, r, e, h1, h2⟩, g => by subst e; exact ⟨v, r ++ _, rfl, h1, RpL.append h2 g⟩
theorem RpL.set {G : GI} {U : Addr → Prop} {H : Hp} {d : D} {v : V} (h : Rp G U H d v) : ∀ {ds : List D} {vs : List V} (i : Nat), RpL G U H ds vs → RpL G U H (ds.set i d) (vs.set i v)
  | [], _, i, q => by cases (show _ = [] from q); exact rfl
  | _ :: _, _, 0, ⟨w, r, e, _, h2⟩ => by subst e; exact ⟨v, r, rfl, h, h2⟩
  | _ :: _, _, i + 1, ⟨w, r, e, h1, h2⟩ => by subst e; exact ⟨w, _, rfl, h1, RpL.set h i h2⟩
theorem RpL.of {G : GI} {U : Addr → Prop} {H : Hp} : ∀ {ds : List D} {vs : List V}, vs.length = ds.length → (∀ (i : Nat) (d : D) (v : V), ds[i]? = some d → vs[i]? = some v → Rp G U H d v) → RpL G U H ds vs
  | [], [], _, _ => rfl
  | d :: ds, v :: vs, e, h => ⟨v, vs, rfl, h 0 d v rfl rfl, RpL.of (by simpa using e) fun i d v e1 e2 => h (i + 1) d v (by simpa using e1) (by simpa using e2)⟩
  | [], _ :: _, e, _ => by simp at e
  | _ :: _, [], e, _ => by simp at e
theorem RpL.drop {G : GI} {U : Addr → Prop} {H : Hp} : ∀ {ds : List D} {vs : List V} (n : Nat), RpL G U H ds vs → RpL G U H (ds.drop n) (vs.drop n)
  | _, _, 0, h => h
  | [], _, n + 1, h => by cases (show _ = [] from h); exact rfl
  | _ :: _, _, n + 1, ⟨_, _, e, _, h2⟩ => by subst e; exact RpL.drop n h2
theorem RpL.take {G : GI} {U : Addr → Prop} {H : Hp} : ∀ {ds : List D} {vs : List V} (n : Nat), RpL G U H ds vs → RpL G U H (ds.take n) (vs.take n)
  | _, _, 0, h => rfl
  | [], _, n + 1, h => by cases (show _ = [] from h); exact rfl
  | _ :: _, _, n + 1, ⟨v, _, e, h1, h2⟩ => by subst e; exact ⟨v, _, rfl, h1, RpL.take n h2⟩
theorem RpL.reverse {G : GI} {U : Addr → Prop} {H : Hp} : ∀ {ds : List D} {vs : List V}, RpL G U H ds vs → RpL G U H ds.reverse vs.reverse
  | [], _, h => by cases (show _ = [] from h); exact rfl
  | d :: ds, _, ⟨v, r, e, h1, h2⟩ => by
    subst e
    rw [List.reverse_cons, List.reverse_cons]
    exact RpL.append (RpL.reverse h2) ⟨v, [], rfl, h1, rfl⟩
theorem RpL.rep {G : GI} {U : Addr → Prop} {H : Hp} {ds : List D} {vs : List V} (h : RpL G U H ds vs) : ∀ n : Nat, RpL G U H (List.replicate n ds).flatten (List.replicate n vs).flatten
  | 0 => rfl
  | n + 1 => by
    rw [List.replicate_succ, List.replicate_succ, List.flatten_cons, List.flatten_cons]
    exact RpL.append h (RpL.rep h n)
theorem RpL.cut {G : GI} {U : Addr → Prop} {H : Hp} {ds : List D} {vs : List V} (h : RpL G U H ds vs) (lo hi : Option Int) : RpL G U H (cutL ds lo hi) (cutV vs lo hi) := by
  have e := h.len
  unfold cutL cutV
  rw [e]
  exact RpL.take _ (RpL.drop _ h)
theorem RpL.ints {G : GI} {U : Addr → Prop} {H : Hp} : ∀ {ds : List D} {vs : List V} {ns : List Int}, RpL G U H ds vs → intsD ds = some ns → vs = ns.map V.int
  | [], _, ns, h, e => by cases (show _ = [] from h); cases (show some [] = some ns from e); rfl
  | .int i :: ds, _, ns, ⟨v, r, e1, h1, h2⟩, e => by
    subst e1
    simp only [intsD, Option.map_eq_some_iff] at e
    obtain ⟨ms, em, e⟩ := e
    subst e
    rw [List.map_cons, ← RpL.ints h2 em, show v = .int i from h1]
  | .non :: ds, _, ns, _, e => by simp [intsD] at e
  | .bl _ :: ds, _, ns, _, e => by simp [intsD] at e
  | .str _ :: ds, _, ns, _, e => by simp [intsD] at e
  | .tup _ :: ds, _, ns, _, e => by simp [intsD] at e
  | .lst _ :: ds, _, ns, _, e => by simp [intsD] at e
  | .dic _ _ :: ds, _, ns, _, e => by simp [intsD] at e
  | .dice :: ds, _, ns, _, e => by simp [intsD] at e
theorem RpL.bls {G : GI} {U : Addr → Prop} {H : Hp} : ∀ {ds : List D} {vs : List V} {ns : List Bool}, RpL G U H ds vs → blsD ds = some ns → vs = ns.map V.bl
  | [], _, ns, h, e => by cases (show _ = [] from h); cases (show some [] = some ns from e); rfl
  | .bl i :: ds, _, ns, ⟨v, r, e1, h1, h2⟩, e => by
    subst e1
    simp only [blsD, Option.map_eq_some_iff] at e
    obtain ⟨ms, em, e⟩ := e
    subst e
    rw [List.map_cons, ← RpL.bls h2 em, show v = .bl i from h1]
  | .non :: ds, _, ns, _, e => by simp [blsD] at e
  | .int _ :: ds, _, ns, _, e => by simp [blsD] at e
  | .str _ :: ds, _, ns, _, e => by simp [blsD] at e
  | .tup _ :: ds, _, ns, _, e => by simp [blsD] at e
  | .lst _ :: ds, _, ns, _, e => by simp [blsD] at e
  | .dic _ _ :: ds, _, ns, _, e => by simp [blsD] at e
  | .dice :: ds, _, ns, _, e => by simp [blsD] at e
theorem RpL.strs {G : GI} {U : Addr → Prop} {H : Hp} : ∀ {ds : List D} {vs : List V} {ns : List (List Nat)}, RpL G U H ds vs → strsD ds = some ns → vs = (ns.map mkS).map V.str
  | [], _, ns, h, e => by cases (show _ = [] from h); cases (show some [] = some ns from e); rfl
  | .str i :: ds, _, ns, ⟨v, r, e1, h1, h2⟩, e => by
    subst e1
    simp only [strsD, Option.map_eq_some_iff] at e
    obtain ⟨ms, em, e⟩ := e
    subst e
    rw [List.map_cons, List.map_cons, ← RpL.strs h2 em, show v = .str (mkS i) from h1]
  | .non :: ds, _, ns, _, e => by simp [strsD] at e
  | .int _ :: ds, _, ns, _, e => by simp [strsD] at e
  | .bl _ :: ds, _, ns, _, e => by simp [strsD] at e
  | .tup _ :: ds, _, ns, _, e => by simp [strsD] at e
  | .lst _ :: ds, _, ns, _, e => by simp [strsD] at e
  | .dic _ _ :: ds, _, ns, _, e => by simp [strsD] at e
  | .dice :: ds, _, ns, _, e => by simp [strsD] at e
theorem RpL.mkStrs {G : GI} {U : Addr → Prop} {H : Hp} : ∀ (ns : List (List Nat)), RpL G U H (ns.map .str) ((ns.map mkS).map V.str)
  | [] => rfl
  | n :: ns => ⟨_, _, rfl, rfl, RpL.mkStrs ns⟩
theorem RpL.mkInts {G : GI} {U : Addr → Prop} {H : Hp} : ∀ (ns : List Int), RpL G U H (ns.map .int) (ns.map V.int)
  | [] => rfl
  | n :: ns => ⟨_, _, rfl, rfl, RpL.mkInts ns⟩

/-! ### slots -/
def Uo (U0 : Addr → Prop) (ρ : DEnv) (σ : St) (a : Addr) : Prop := U0 a ∨ ∃ (i : Nat) (d : D), ρ[i]? = some (.own d) ∧ σ[i]? = some (some (.ref a))
structure RE (G : GI) (U0 : Addr → Prop) (He H : Hp) (σ : St) (ρ : DEnv) : Prop where
  len : σ.length = ρ.length
  mv : ∀ a, G.mv a → U0 a
  trk : ∀ a, U0 a → ∃ o, H a = some o
  inv : GInv G H
  ext : ∀ a o, He a = some o → ¬ G.mv a → H a = some o
  imm : ∀ (i : Nat) (d : D), ρ[i]? = some (.imm d) → ∃ v, σ[i]? = some (some v) ∧ Rp G (Uo U0 ρ σ) H d v
  own : ∀ (i : Nat) (d : D), ρ[i]? = some (.own d) → ∃ a, σ[i]? = some (some (.ref a)) ∧ ¬ U0 a ∧ He a = none ∧ OwnAt G (Uo U0 ρ σ) H a d
  sep : ∀ (i j : Nat) (a : Addr) (d d' : D), ρ[i]? = some (.own d) → ρ[j]? = some (.own d') → σ[i]? = some (some (.ref a)) → σ[j]? = some (some (.ref a)) → i = j
section
variable {G : GI} {U0 : Addr → Prop} {He H H' : Hp} {σ : St} {ρ : DEnv}
theorem RE.mvU (r : RE G U0 He H σ ρ) : ∀ a, G.mv a → Uo U0 ρ σ a := fun a m => .inl (r.mv a m)
theorem RE.trkU (r : RE G U0 He H σ ρ) {a : Addr} (h : Uo U0 ρ σ a) : ∃ o, H a = some o := by
  rcases h with h | ⟨i, d, e1, e2⟩
  · exact r.trk a h
  · obtain ⟨b, e, _, _, q⟩ := r.own i d e1
    rw [e2] at e; cases e
    exact q.trk
theorem RE.newU (r : RE G U0 He H σ ρ) {p : Addr} (h : H p = none) : ¬ Uo U0 ρ σ p := fun m => by
  obtain ⟨o, e⟩ := r.trkU m
  rw [h] at e; cases e
theorem OwnAt.step {U U' : Addr → Prop} {a : Addr} {d : D} (k : Kp U H H') (hs : ∀ a, U' a → U a ∨ H a = none) (e : ∀ o, H a = some o → H' a = some o) (h : OwnAt G U H a d) : OwnAt G U' H' a d := by
  cases d with
  | lst ds => obtain ⟨xs, r, l⟩ := h; exact ⟨xs, e _ r, RpL.keep k hs _ _ l⟩
  | dic ks vs => obtain ⟨xs, r, q, l⟩ := h; exact ⟨xs, e _ r, q, RpL.keep k hs _ _ l⟩
  | _ => exact h.elim
theorem RE.step (r : RE G U0 He H σ ρ) (e : Ext G H H') : RE G U0 He H' σ ρ := by
  have k : Kp (Uo U0 ρ σ) H H' := e.kp r.inv r.mvU
  have nmv : ∀ {a}, ¬ U0 a → ¬ G.mv a := fun n m => n (r.mv _ m)
  refine ⟨r.len, r.mv, fun a h => ?_, e.inv r.inv, fun a o h n => e.keep a o (r.ext a o h n) n, fun i d h => ?_, fun i d h => ?_, r.sep⟩
  · by_cases m : G.mv a
    · rcases (e.inv r.inv).trk m with ⟨x, y, q⟩ | ⟨ps, q⟩
      · exact ⟨_, q⟩
      · exact ⟨_, q⟩
    · obtain ⟨o, q⟩ := r.trk a h
      exact ⟨o, e.keep a o q m⟩
  · obtain ⟨v, h1, h2⟩ := r.imm i d h
    exact ⟨v, h1, Rp.keep k (fun _ z => .inl z) d v h2⟩
  · obtain ⟨a, h1, h2, h3, h4⟩ := r.own i d h
    exact ⟨a, h1, h2, h3, h4.step k (fun _ z => .inl z) fun o q => e.keep a o q (nmv h2)⟩
theorem RE.get (r : RE G U0 He H σ ρ) {i : Nat} {d : D} (h : ρ[i]? = some (.imm d) ∨ ρ[i]? = some (.own d)) : ∃ v, σ[i]? = some (some v) ∧ RpP G (Uo U0 ρ σ) H d v := by
  rcases h with h | h
  · obtain ⟨v, h1, h2⟩ := r.imm i d h
    exact ⟨v, h1, h2.p⟩
  · obtain ⟨a, h1, _, _, h4⟩ := r.own i d h
    exact ⟨_, h1, h4.p⟩

/-! #### freezing -/
theorem frz1_get : ∀ (i : Nat) (ρ : DEnv) (j : Nat), (frz1 i ρ)[j]? = if j = i then (ρ[j]?).map Slot.frz else ρ[j]?
  | _, [], j => by simp [frz1]
  | 0, s :: r, 0 => by simp [frz1]
  | 0, s :: r, j + 1 => by simp [frz1]
  | i + 1, s :: r, 0 => by simp [frz1]
  | i + 1, s :: r, j + 1 => by simp [frz1, frz1_get i r j]
theorem frz1_len : ∀ (i : Nat) (ρ : DEnv), (frz1 i ρ).length = ρ.length
  | _, [] => by simp [frz1]
  | 0, s :: r => by simp [frz1]
  | i + 1, s :: r => by simp [frz1, frz1_len i r]
theorem frz1_own {i j : Nat} {ρ : DEnv} {d : D} (h : (frz1 i ρ)[j]? = some (.own d)) : ρ[j]? = some (.own d) ∧ j ≠ i := by
  rw [frz1_get] at h
  by_cases e : j = i
  · rw [if_pos e] at h
    cases q : ρ[j]? with
    | none => rw [q] at h; cases h
    | some s => rw [q] at h; cases s <;> cases h
  · rw [if_neg e] at h
    exact ⟨h, e⟩
theorem Uo.frz1 {i : Nat} {a : Addr} (h : Uo U0 (frz1 i ρ) σ a) : Uo U0 ρ σ a := by
  rcases h with h | ⟨j, d, e1, e2⟩
  · exact .inl h
  · exact .inr ⟨j, d, (frz1_own e1).1, e2⟩
theorem RE.frz1 (r : RE G U0 He H σ ρ) (i : Nat) : RE G U0 He H σ (frz1 i ρ) := by
  have hs : ∀ a, Uo U0 (DL.frz1 i ρ) σ a → Uo U0 ρ σ a ∨ H a = none := fun a h => .inl h.frz1
  refine ⟨by rw [r.len, frz1_len], r.mv, r.trk, r.inv, r.ext, fun j d h => ?_, fun j d h => ?_, fun j k a d d' h1 h2 => r.sep j k a d d' (frz1_own h1).1 (frz1_own h2).1⟩
  · rw [frz1_get] at h
    by_cases e : j = i
    · rw [if_pos e] at h
      cases q : ρ[j]? with
      | none => rw [q] at h; cases h
      | some s =>
        rw [q] at h
        cases s with
        | no => cases h
        | imm d' =>
          cases h
          obtain ⟨v, h1, h2⟩ := r.imm j d q
          exact ⟨v, h1, h2.anti hs⟩
        | own d' =>
          cases h
          obtain ⟨a, h1, h2, h3, h4⟩ := r.own j d q
          refine ⟨_, h1, ?_⟩
          have na : ¬ Uo U0 (DL.frz1 i ρ) σ a := fun m => by
            rcases m with m | ⟨k, d'', e1, e2⟩
            · exact h2 m
            · obtain ⟨e3, e4⟩ := frz1_own e1
              exact e4 ((r.sep k j a _ _ e3 q e2 h1).trans e)
          cases d with
          | lst ds => obtain ⟨xs, g, l⟩ := h4; exact ⟨a, xs, rfl, g, na, l.anti hs⟩
          | dic ks vs => obtain ⟨xs, g, w, l⟩ := h4; exact ⟨a, xs, rfl, .inl g, na, w, l.anti hs⟩
          | _ => exact h4.elim
    · rw [if_neg e] at h
      obtain ⟨v, h1, h2⟩ := r.imm j d h
      exact ⟨v, h1, h2.anti hs⟩
  · obtain ⟨e1, _⟩ := frz1_own h
    obtain ⟨a, h1, h2, h3, h4⟩ := r.own j d e1
    exact ⟨a, h1, h2, h3, h4.step (Kp.refl _ H) hs fun _ z => z⟩
theorem RE.frz (r : RE G U0 He H σ ρ) : ∀ fr : List Nat, RE G U0 He H σ (frz fr ρ) := by
  intro fr
  induction fr generalizing ρ with
  | nil => exact r
  | cons i l ih => exact ih (r.frz1 i)

/-! #### storing -/
theorem get_set {α : Type} {l : List α} {i j : Nat} {x y : α} (h : (l.set i x)[j]? = some y) : (j = i ∧ y = x) ∨ (j ≠ i ∧ l[j]? = some y) := by
  by_cases e : j = i
  · subst e
    rw [List.getElem?_set_self'] at h
    cases q : l[j]? with
    | none => rw [q] at h; cases h
    | some z => rw [q] at h; cases h; exact .inl ⟨rfl, rfl⟩
  · rw [List.getElem?_set_ne (Ne.symm e)] at h
    exact .inr ⟨e, h⟩
theorem lt_of_get {α : Type} {l : List α} {i : Nat} {x : α} (h : l[i]? = some x) : i < l.length := (List.getElem?_eq_some_iff.mp h).1
/-- x = (a value that no list or dict of ours) -/
theorem RE.setImm (r : RE G U0 He H σ ρ) {i : Nat} {d : D} {v : V} (h : Rp G (Uo U0 ρ σ) H d v) : RE G U0 He H (σ.set i (some v)) (ρ.set i (.imm d)) := by
  have hU : ∀ a, Uo U0 (ρ.set i (.imm d)) (σ.set i (some v)) a → Uo U0 ρ σ a := fun a m => by
    rcases m with m | ⟨j, d', e1, e2⟩
    · exact .inl m
    · rcases get_set e1 with ⟨_, q⟩ | ⟨ne, q⟩
      · cases q
      · rw [List.getElem?_set_ne (Ne.symm ne)] at e2
        exact .inr ⟨j, d', q, e2⟩
  have hs : ∀ a, Uo U0 (ρ.set i (.imm d)) (σ.set i (some v)) a → Uo U0 ρ σ a ∨ H a = none := fun a m => .inl (hU a m)
  refine ⟨by simpa using r.len, r.mv, r.trk, r.inv, r.ext, fun j d' e => ?_, fun j d' e => ?_, fun j k a d' d'' e1 e2 e3 e4 => ?_⟩
  · rcases get_set e with ⟨q, q2⟩ | ⟨ne, q⟩
    · cases q2
      subst q
      have hl : j < σ.length := by
        have := lt_of_get e
        rw [r.len]
        simpa using this
      exact ⟨v, by rw [List.getElem?_set_self hl], h.anti hs⟩
    · obtain ⟨w, h1, h2⟩ := r.imm j d' q
      exact ⟨w, by rw [List.getElem?_set_ne (Ne.symm ne)]; exact h1, h2.anti hs⟩
  · rcases get_set e with ⟨_, q⟩ | ⟨ne, q⟩
    · cases q
    · obtain ⟨a, h1, h2, h3, h4⟩ := r.own j d' q
      exact ⟨a, by rw [List.getElem?_set_ne (Ne.symm ne)]; exact h1, h2, h3, h4.step (Kp.refl _ H) hs fun _ z => z⟩
  · rcases get_set e1 with ⟨_, q⟩ | ⟨n1, q1⟩
    · cases q
    · rcases get_set e2 with ⟨_, q⟩ | ⟨n2, q2⟩
      · cases q
      · rw [List.getElem?_set_ne (Ne.symm n1)] at e3
        rw [List.getElem?_set_ne (Ne.symm n2)] at e4
        exact r.sep j k a _ _ q1 q2 e3 e4
/-- x = a new list or dict at a -/
theorem RE.setOwn (r : RE G U0 He H σ ρ) {i : Nat} {d : D} {a : Addr} (hU0 : ¬ Uo U0 ρ σ a) (hHe : He a = none) (hav : ∀ (j : Nat) (d' : D), ρ[j]? = some (.imm d') → ∀ v, σ[j]? = some (some v) → Rp G (fun b => Uo U0 ρ σ b ∨ b = a) H d' v)
    (hao : ∀ (j : Nat) (d' : D) (b : Addr), ρ[j]? = some (.own d') → σ[j]? = some (some (.ref b)) → OwnAt G (fun b => Uo U0 ρ σ b ∨ b = a) H b d')
    (h : OwnAt G (fun b => Uo U0 ρ σ b ∨ b = a) H a d) : RE G U0 He H (σ.set i (some (.ref a))) (ρ.set i (.own d)) := by
  have hU : ∀ b, Uo U0 (ρ.set i (.own d)) (σ.set i (some (.ref a))) b → Uo U0 ρ σ b ∨ b = a := fun b m => by
    rcases m with m | ⟨j, d', e1, e2⟩
    · exact .inl (.inl m)
    · rcases get_set e1 with ⟨q, q2⟩ | ⟨ne, q⟩
      · subst q
        rcases get_set e2 with ⟨_, q3⟩ | ⟨ne, _⟩
        · cases q3; exact .inr rfl
        · exact absurd rfl ne
      · rw [List.getElem?_set_ne (Ne.symm ne)] at e2
        exact .inl (.inr ⟨j, d', q, e2⟩)
  have hs : ∀ b, Uo U0 (ρ.set i (.own d)) (σ.set i (some (.ref a))) b → (Uo U0 ρ σ b ∨ b = a) ∨ H b = none := fun b m => .inl (hU b m)
  refine ⟨by simpa using r.len, r.mv, r.trk, r.inv, r.ext, fun j d' e => ?_, fun j d' e => ?_, fun j k b d' d'' e1 e2 e3 e4 => ?_⟩
  · rcases get_set e with ⟨_, q⟩ | ⟨ne, q⟩
    · cases q
    · obtain ⟨w, h1, _⟩ := r.imm j d' q
      exact ⟨w, by rw [List.getElem?_set_ne (Ne.symm ne)]; exact h1, (hav j d' q w h1).anti hs⟩
  · rcases get_set e with ⟨q, q2⟩ | ⟨ne, q⟩
    · cases q2
      subst q
      have hl : j < σ.length := by
        have := lt_of_get e
        rw [r.len]
        simpa using this
      exact ⟨a, by rw [List.getElem?_set_self hl], fun m => hU0 (.inl m), hHe, h.step (Kp.refl _ H) hs fun _ z => z⟩
    · obtain ⟨b, h1, h2, h3, h4⟩ := r.own j d' q
      exact ⟨b, by rw [List.getElem?_set_ne (Ne.symm ne)]; exact h1, h2, h3, (hao j d' b q h1).step (Kp.refl _ H) hs fun _ z => z⟩
  · have at_ : ∀ {j : Nat} {d' : D}, (ρ.set i (.own d))[j]? = some (.own d') → (σ.set i (some (.ref a)))[j]? = some (some (.ref b)) → (j = i ∧ b = a) ∨ (j ≠ i ∧ ρ[j]? = some (.own d') ∧ σ[j]? = some (some (.ref b))) := fun {j d'} e e' => by
      rcases get_set e with ⟨q, _⟩ | ⟨ne, q⟩
      · subst q
        rcases get_set e' with ⟨_, q3⟩ | ⟨ne, _⟩
        · cases q3; exact .inl ⟨rfl, rfl⟩
        · exact absurd rfl ne
      · rw [List.getElem?_set_ne (Ne.symm ne)] at e'
        exact .inr ⟨ne, q, e'⟩
    rcases at_ e1 e3 with ⟨q1, z⟩ | ⟨_, q1, q2⟩
    · subst z
      rcases at_ e2 e4 with ⟨q2, _⟩ | ⟨_, q3, q4⟩
      · exact q1.trans q2.symm
      · exact (hU0 (.inr ⟨k, _, q3, q4⟩)).elim
    · rcases at_ e2 e4 with ⟨_, z⟩ | ⟨_, q3, q4⟩
      · subst z; exact (hU0 (.inr ⟨j, _, q1, q2⟩)).elim
      · exact r.sep j k b _ _ q1 q3 q2 q4
/-- the owned list or dict of slot i is rewritten -/
theorem RE.write (r : RE G U0 He H σ ρ) {i : Nat} {d d' : D} {a : Addr} {o : HO} (hi : ρ[i]? = some (.own d)) (hσ : σ[i]? = some (some (.ref a))) (hbox : (∃ xs, H a = some (.lst xs)) ∨ ∃ kvs, H a = some (.dK kvs))
    (h : OwnAt G (Uo U0 ρ σ) (upd H a o) a d') : RE G U0 He (upd H a o) σ (ρ.set i (.own d')) := by
  obtain ⟨a', e, n0, nHe, oa⟩ := r.own i d hi
  rw [hσ] at e; cases e
  have hil := lt_of_get hi
  have hU : ∀ b, Uo U0 (ρ.set i (.own d')) σ b → Uo U0 ρ σ b := fun b m => by
    rcases m with m | ⟨j, d'', e1, e2⟩
    · exact .inl m
    · rcases get_set e1 with ⟨q, q2⟩ | ⟨ne, q⟩
      · subst q; exact .inr ⟨_, d, hi, e2⟩
      · exact .inr ⟨j, d'', q, e2⟩
  have hs : ∀ b, Uo U0 (ρ.set i (.own d')) σ b → Uo U0 ρ σ b ∨ H b = none := fun b m => .inl (hU b m)
  have ha : Uo U0 ρ σ a := .inr ⟨i, d, hi, hσ⟩
  have k : Kp (Uo U0 ρ σ) H (upd H a o) := .of (fun b u e n => by rw [upd_ne (fun z => n (by rw [z]; exact ha))]; exact e) (fun b xs e => by
    have ne : b ≠ a := fun z => by
      subst z
      rcases hbox with ⟨ys, q⟩ | ⟨kvs, q⟩ <;> rcases e with e | ⟨u, e⟩ <;> (rw [q] at e; cases e)
    rcases e with e | ⟨u, e⟩
    · exact .inl (by rw [upd_ne ne]; exact e)
    · exact .inr ⟨u, by rw [upd_ne ne]; exact e⟩)
  have nmv : ¬ G.mv a := fun m => n0 (r.mv _ m)
  refine ⟨by simpa using r.len, r.mv, fun b m => ?_, ⟨fun b dd => ?_, fun p hp => ?_⟩, fun b u e n => ?_, fun j d'' e => ?_, fun j d'' e => ?_, fun j k b d1 d2 e1 e2 e3 e4 => ?_⟩
  · obtain ⟨u, q⟩ := r.trk b m
    by_cases z : b = a
    · subst z; exact ⟨o, upd_same⟩
    · exact ⟨u, by rw [upd_ne z]; exact q⟩
  · obtain ⟨x, y, q⟩ := r.inv.1 b dd
    exact ⟨x, y, by rw [upd_ne (fun z => nmv (by rw [← z]; exact .inl dd))]; exact q⟩
  · obtain ⟨ps, e1, e2, e3⟩ := r.inv.2 p hp
    have ne : p.1 ≠ a := fun z => nmv (by rw [← z]; exact .inr ⟨p.2, hp⟩)
    refine ⟨ps, by rw [upd_ne ne]; exact e1, e2, fun pos cv hc => ?_⟩
    obtain ⟨c, h1, h2⟩ := e3 pos cv hc
    refine ⟨c, h1, ?_⟩
    rw [upd_ne]
    · exact h2
    · intro z
      subst z
      rcases hbox with ⟨ys, q⟩ | ⟨kvs, q⟩ <;> (rw [q] at h2; cases h2)
  · have q := r.ext b u e n
    rw [upd_ne]
    · exact q
    · intro z; subst z; rw [nHe] at e; cases e
  · rcases get_set e with ⟨_, q⟩ | ⟨ne, q⟩
    · cases q
    · obtain ⟨w, h1, h2⟩ := r.imm j d'' q
      exact ⟨w, h1, Rp.keep k hs _ _ h2⟩
  · rcases get_set e with ⟨q, q2⟩ | ⟨ne, q⟩
    · cases q2
      subst q
      exact ⟨a, hσ, n0, nHe, h.step (Kp.refl _ _) (fun b m => .inl (hU b m)) fun _ z => z⟩
    · obtain ⟨b, h1, h2, h3, h4⟩ := r.own j d'' q
      have nba : b ≠ a := fun z => ne (by subst z; exact r.sep j i b _ _ q hi h1 hσ)
      exact ⟨b, h1, h2, h3, h4.step k hs fun u e => by rw [upd_ne nba]; exact e⟩
  · have at_ : ∀ {j : Nat} {d1 : D}, (ρ.set i (.own d'))[j]? = some (.own d1) → ∃ d2, ρ[j]? = some (.own d2) := fun {j d1} e => by
      rcases get_set e with ⟨q, _⟩ | ⟨_, q⟩
      · subst q; exact ⟨_, hi⟩
      · exact ⟨_, q⟩
    obtain ⟨_, q1⟩ := at_ e1
    obtain ⟨_, q2⟩ := at_ e2
    exact r.sep j k b _ _ q1 q2 e3 e4
/-- a slot forgotten that owned nothing -/
theorem RE.forget (r : RE G U0 He H σ ρ) {i : Nat} {u : Option V} (h : notOwn ρ i = true) : RE G U0 He H (σ.set i u) (ρ.set i .no) := by
  have nown : ∀ d : D, ρ[i]? ≠ some (.own d) := fun d e => by simp [notOwn, e] at h
  have hU : ∀ a, Uo U0 (ρ.set i .no) (σ.set i u) a → Uo U0 ρ σ a := fun a m => by
    rcases m with m | ⟨j, d', e1, e2⟩
    · exact .inl m
    · rcases get_set e1 with ⟨_, q⟩ | ⟨ne, q⟩
      · cases q
      · rw [List.getElem?_set_ne (Ne.symm ne)] at e2
        exact .inr ⟨j, d', q, e2⟩
  have hs : ∀ a, Uo U0 (ρ.set i .no) (σ.set i u) a → Uo U0 ρ σ a ∨ H a = none := fun a m => .inl (hU a m)
  refine ⟨by simpa using r.len, r.mv, r.trk, r.inv, r.ext, fun j d' e => ?_, fun j d' e => ?_, fun j k a d' d'' e1 e2 e3 e4 => ?_⟩
  · rcases get_set e with ⟨_, q2⟩ | ⟨ne, q⟩
    · cases q2
    · obtain ⟨w, h1, h2⟩ := r.imm j d' q
      exact ⟨w, by rw [List.getElem?_set_ne (Ne.symm ne)]; exact h1, h2.anti hs⟩
  · rcases get_set e with ⟨_, q⟩ | ⟨ne, q⟩
    · cases q
    · obtain ⟨a, h1, h2, h3, h4⟩ := r.own j d' q
      exact ⟨a, by rw [List.getElem?_set_ne (Ne.symm ne)]; exact h1, h2, h3, h4.step (Kp.refl _ H) hs fun _ z => z⟩
  · rcases get_set e1 with ⟨_, q⟩ | ⟨n1, q1⟩
    · cases q
    · rcases get_set e2 with ⟨_, q⟩ | ⟨n2, q2⟩
      · cases q
      · rw [List.getElem?_set_ne (Ne.symm n1)] at e3
        rw [List.getElem?_set_ne (Ne.symm n2)] at e4
        exact r.sep j k a _ _ q1 q2 e3 e4
/-- Uo only grows smaller when a slot that owned nothing is forgotten; and not at all -/
theorem Uo.forget {i : Nat} {u : Option V} (h : notOwn ρ i = true) {a : Addr} (m : Uo U0 ρ σ a) : Uo U0 (ρ.set i .no) (σ.set i u) a := by
  rcases m with m | ⟨j, d, e1, e2⟩
  · exact .inl m
  · have ne : j ≠ i := fun z => by subst z; simp [notOwn, e1] at h
    exact .inr ⟨j, d, by rw [List.getElem?_set_ne (Ne.symm ne)]; exact e1, by rw [List.getElem?_set_ne (Ne.symm ne)]; exact e2⟩
end
end DL

set_option Elab.async false
set_option linter.all false
set_option maxRecDepth 100000
set_option maxHeartbeats 4000000
/-! DL3: operators on data. -/
namespace DL
open PySem PySem.Spec PyProof.Rows L2
variable [Tb]

/-- what a value that came out of an operation is -/
def Out (G : GI) (U : Addr → Prop) (H : Hp) (d : D) (Q : VK) : Prop := ∀ v H', Same H H' → Rp G U H' d v → (d.isBox = true → ∃ a, v = .ref a ∧ H a = none ∧ OwnAt G (fun b => U b ∨ b = a) H' a d) → Q v H'
def rB (od : D → D → Option D) : R2 := fun x y H Q => ∃ G U dx dy dz, (∀ p, H p = none → ¬ U p) ∧ RpP G U H dx x ∧ RpP G U H dy y ∧ od dx dy = some dz ∧ Out G U H dz Q
section
variable {G : GI} {U : Addr → Prop} {H : Hp} {d : D} {Q : VK}
theorem Out.flat {v : V} (h : Out G U H d Q) (r : Rp G U H d v) (b : d.isBox = false) : Q v H := h v H (Same.refl H) r fun z => by rw [b] at z; cases z
theorem Out.newL {ds : List D} {xs : List V} {p : Addr} (h : Out G U H (.lst ds) Q) (hU : ∀ p, H p = none → ¬ U p) (l : RpL G U H ds xs) (hp : H p = none) : Q (.ref p) (upd H p (.lst xs)) := by
  have s := same_upd (o := .lst xs) hp
  refine h _ _ s ⟨p, xs, rfl, upd_same, hU p hp, RpL.keep (Same.kp s) (fun _ z => .inl z) _ _ l⟩ fun _ => ⟨p, rfl, hp, xs, upd_same, RpL.keep (Same.kp s) (fun a z => ?_) _ _ l⟩
  rcases z with z | z
  · exact .inl z
  · subst z; exact .inr hp
theorem Out.newT {ds : List D} {xs : List V} {p : Addr} (h : Out G U H (.tup ds) Q) (l : RpL G U H ds xs) (hp : H p = none) : Q (.ref p) (upd H p (.tup xs)) := by
  have s := same_upd (o := .tup xs) hp
  exact h _ _ s ⟨p, xs, rfl, .inl upd_same, RpL.keep (Same.kp s) (fun _ z => .inl z) _ _ l⟩ fun z => by cases z
theorem sumLen_le {a b : Nat} (h : sumLen a b = true) : a + b ≤ sizeLine := by rw [sizeLine_eq]; exact of_decide_eq_true h
theorem mkS_app (a b : List Nat) : mkS a ++ mkS b = mkS (a ++ b) := by
  show Str.append (mkS a) (mkS b) = _
  simp [Str.append, mkS]
theorem mkS_len (a : List Nat) : (mkS a).length = a.length := by simp [mkS, Str.length]
end
theorem bin_add {dx dy dz : D} (h : binD .add dx dy = some dz) : (∃ a b, dx = .int a ∧ dy = .int b ∧ dz = .int (a + b)) ∨ (∃ a b, dx = .str a ∧ dy = .str b ∧ sumLen a.length b.length = true ∧ dz = .str (a ++ b)) ∨
    (∃ a b, dx = .lst a ∧ dy = .lst b ∧ sumLen a.length b.length = true ∧ dz = .lst (a ++ b)) ∨ (∃ a b, dx = .tup a ∧ dy = .tup b ∧ sumLen a.length b.length = true ∧ dz = .tup (a ++ b)) := by
  cases dx <;> cases dy <;> simp only [binD] at h <;> first
    | cases h
    | (split at h <;> first
        | cases h
        | skip)
  · exact .inl ⟨_, _, rfl, rfl, rfl⟩
  · rename_i q; exact .inr (.inl ⟨_, _, rfl, rfl, q, rfl⟩)
  · rename_i q; exact .inr (.inr (.inr ⟨_, _, rfl, rfl, q, rfl⟩))
  · rename_i q; exact .inr (.inr (.inl ⟨_, _, rfl, rfl, q, rfl⟩))
section
variable {X : Cx}
theorem or_add : OpR X (binaryOp .Add) (rB (binD .add)) := by
  intro pins s σ H x y v u Q I rx ry ⟨G, U, dx, dy, dz, hU, px, py, e, o⟩
  rcases bin_add e with ⟨a, b, rfl, rfl, rfl⟩ | ⟨a, b, rfl, rfl, hl, rfl⟩ | ⟨a, b, rfl, rfl, hl, rfl⟩ | ⟨a, b, rfl, rfl, hl, rfl⟩
  · exact op_add pins s σ H x y v u Q I rx ry ⟨a, b, px, py, o.flat rfl rfl⟩
  · exact op_add_str pins s σ H x y v u Q I rx ry ⟨mkS a, mkS b, px, py, by rw [mkS_len, mkS_len]; exact sumLen_le hl, o.flat (mkS_app a b ▸ rfl) rfl⟩
  · obtain ⟨p, xs, ex, hx, lx⟩ := px
    obtain ⟨q, ys, ey, hy, ly⟩ := py
    refine op_cat pins s σ H x y v u Q I rx ry ⟨p, q, xs, ys, ex, ey, hx, hy, by rw [lx.len, ly.len]; exact sumLen_le hl, fun r hr => o.newL hU (lx.append ly) hr⟩
  · obtain ⟨p, xs, ex, hx, lx⟩ := px
    obtain ⟨q, ys, ey, hy, ly⟩ := py
    refine op_catA pins s σ H x y v u Q I rx ry ⟨p, q, xs, ys, ex, ey, .inl hx, .inl hy, by rw [lx.len, ly.len]; exact sumLen_le hl, fun z => ?_, fun n z => ?_, fun _ _ r hr => o.newT (lx.append ly) hr⟩
    · have e2 := lx.len
      rw [z] at e2
      have : a = [] := List.eq_nil_of_length_eq_zero e2.symm
      subst this
      exact o.flat ⟨q, ys, rfl, hy, ly⟩ rfl
    · have e2 := ly.len
      rw [z] at e2
      have : b = [] := List.eq_nil_of_length_eq_zero e2.symm
      subst this
      rw [List.append_nil] at o
      exact o.flat ⟨p, xs, rfl, hx, lx⟩ rfl
theorem or_sub : OpR X (binaryOp .Sub) (rB (binD .sub)) := by
  intro pins s σ H x y v u Q I rx ry ⟨G, U, dx, dy, dz, hU, px, py, e, o⟩
  cases dx <;> cases dy <;> simp only [binD] at e <;> first
    | cases e
    | skip
  exact op_sub pins s σ H x y v u Q I rx ry ⟨_, _, px, py, o.flat rfl rfl⟩
theorem or_mod : OpR X (binaryOp .Mod) (rB (binD .mod)) := by
  intro pins s σ H x y v u Q I rx ry ⟨G, U, dx, dy, dz, hU, px, py, e, o⟩
  cases dx <;> cases dy <;> simp only [binD] at e <;> first
    | cases e
    | skip
  split at e
  · rename_i h
    cases e
    exact op_mod pins s σ H x y v u Q I rx ry ⟨_, _, px, py, of_decide_eq_true h, o.flat rfl rfl⟩
  · cases e
theorem or_fdiv : OpR X (binaryOp .FloorDiv) (rB (binD .fdiv)) := by
  intro pins s σ H x y v u Q I rx ry ⟨G, U, dx, dy, dz, hU, px, py, e, o⟩
  cases dx <;> cases dy <;> simp only [binD] at e <;> first
    | cases e
    | skip
  split at e
  · rename_i h
    cases e
    rw [Bool.and_eq_true] at h
    exact op_fdivW pins s σ H x y v u Q I rx ry ⟨_, _, px, py, wide_div (of_decide_eq_true h.1) (of_decide_eq_true h.2) (by decide) (by decide), o.flat rfl rfl⟩
  · cases e
end

/-! ### == -/
mutual
def toPy : D → PyData
  | .non => .none
  | .bl b => .bool b
  | .int i => .int i
  | .str s => .str (mkS s)
  | .tup xs => .tuple (toPys xs)
  | .lst xs => .list (toPys xs)
  | _ => .none
def toPys : List D → List PyData
  | [] => []
  | x :: xs => toPy x :: toPys xs
end
mutual
theorem toPy_plain : ∀ d : D, (toPy d).plain = true
  | .non => rfl
  | .bl _ => rfl
  | .int _ => rfl
  | .str _ => rfl
  | .tup xs => by simp only [toPy, PyData.plain]; exact toPys_plain xs
  | .lst xs => by simp only [toPy, PyData.plain]; exact toPys_plain xs
  | .dic _ _ => rfl
  | .dice => rfl
theorem toPys_plain : ∀ ds : List D, PyData.plainAll (toPys ds) = true
  | [] => rfl
  | d :: ds => by simp only [toPys, PyData.plainAll, toPy_plain d, toPys_plain ds, Bool.and_self]
end
mutual
theorem toPy_dep : ∀ d : D, (toPy d).depth = d.dep
  | .non => by simp [toPy, D.dep, PyData.depth]
  | .bl _ => by simp [toPy, D.dep, PyData.depth]
  | .int _ => by simp [toPy, D.dep, PyData.depth]
  | .str _ => by simp [toPy, D.dep, PyData.depth]
  | .tup xs => by simp [toPy, D.dep, PyData.depth, toPys_dep xs]
  | .lst xs => by simp [toPy, D.dep, PyData.depth, toPys_dep xs]
  | .dic _ _ => by simp [toPy, D.dep, PyData.depth]
  | .dice => by simp [toPy, D.dep, PyData.depth]
theorem toPys_dep : ∀ ds : List D, PyData.depthAll (toPys ds) = D.deps ds
  | [] => by simp [toPys, D.deps, PyData.depthAll]
  | d :: ds => by simp [toPys, D.deps, PyData.depthAll, toPy_dep d, toPys_dep ds]
end
theorem mkS_beq (x y : List Nat) : (mkS x == mkS y) = (x == y) := by
  by_cases h : x = y
  · subst h; simp
  · have : mkS x ≠ mkS y := fun e => h (mkS_inj e)
    rw [beq_eq_false_iff_ne.mpr h, beq_eq_false_iff_ne.mpr this]
mutual
theorem eqv_py : ∀ x y : D, x.pl = true → y.pl = true → PyData.eqv (toPy x) (toPy y) = D.eqv x y
  | .non, y, _, hy => by cases y <;> first | (simp [toPy, PyData.eqv, D.eqv]; done) | (simp [D.pl] at hy; done)
  | .bl _, y, _, hy => by cases y <;> first | (simp [toPy, PyData.eqv, D.eqv]; done) | (simp [D.pl] at hy; done)
  | .int _, y, _, hy => by cases y <;> first | (simp [toPy, PyData.eqv, D.eqv]; done) | (simp [D.pl] at hy; done)
  | .str x, y, _, hy => by
    cases y <;> first | (simp [toPy, PyData.eqv, D.eqv]; done) | (simp [D.pl] at hy; done) | skip
    rename_i z
    simp only [toPy, PyData.eqv, D.eqv]
    exact mkS_beq x z
  | .tup xs, y, hx, hy => by
    cases y <;> first | (simp [toPy, PyData.eqv, D.eqv]; done) | (simp [D.pl] at hy; done) | skip
    rename_i ys
    simp only [toPy, PyData.eqv, D.eqv]
    exact eqvs_py xs ys (by simpa [D.pl] using hx) (by simpa [D.pl] using hy)
  | .lst xs, y, hx, hy => by
    cases y <;> first | (simp [toPy, PyData.eqv, D.eqv]; done) | (simp [D.pl] at hy; done) | skip
    rename_i ys
    simp only [toPy, PyData.eqv, D.eqv]
    exact eqvs_py xs ys (by simpa [D.pl] using hx) (by simpa [D.pl] using hy)
  | .dic _ _, _, h, _ => by simp [D.pl] at h
  | .dice, _, h, _ => by simp [D.pl] at h
theorem eqvs_py : ∀ xs ys : List D, D.pls xs = true → D.pls ys = true → PyData.eqvAll (toPys xs) (toPys ys) = D.eqvs xs ys
  | [], [], _, _ => by simp [toPys, PyData.eqvAll, D.eqvs]
  | [], _ :: _, _, _ => by simp [toPys, PyData.eqvAll, D.eqvs]
  | _ :: _, [], _, _ => by simp [toPys, PyData.eqvAll, D.eqvs]
  | x :: xs, y :: ys, hx, hy => by
    simp only [D.pls, Bool.and_eq_true] at hx hy
    simp only [toPys, PyData.eqvAll, D.eqvs, eqv_py x y hx.1 hy.1, eqvs_py xs ys hx.2 hy.2]
end
mutual
theorem Rp.dp {K : PySem.W.Frag} {G : GI} {U : Addr → Prop} {H : Hp} : ∀ (d : D) (v : V), d.pl = true → Rp G U H d v → Dp K H v (toPy d)
  | .non, _, _, h => by cases (show _ = V.non from h); exact .non
  | .bl b, _, _, h => by cases (show _ = V.bl b from h); exact .bl b
  | .int i, _, _, h => by cases (show _ = V.int i from h); exact .int i
  | .str s, _, _, h => by cases (show _ = V.str (mkS s) from h); exact .str _
  | .tup ds, _, q, ⟨a, xs, e, r, l⟩ => by
    subst e
    simp only [toPy]
    exact .tup (.inl r) (RpL.dp ds xs (by simpa [D.pl] using q) l)
  | .lst ds, _, q, ⟨a, xs, e, r, _, l⟩ => by
    subst e
    simp only [toPy]
    exact .lst (.inl (.inl r)) (RpL.dp ds xs (by simpa [D.pl] using q) l)
  | .dic _ _, _, q, _ => by simp [D.pl] at q
  | .dice, _, q, _ => by simp [D.pl] at q
theorem RpL.dp {K : PySem.W.Frag} {G : GI} {U : Addr → Prop} {H : Hp} : ∀ (ds : List D) (vs : List V), D.pls ds = true → RpL G U H ds vs → DpAll K H vs (toPys ds)
  | [], _, _, h => by cases (show _ = [] from h); exact .nil
  | d :: ds, _, q, ⟨v, r, e, h1, h2⟩ => by
    subst e
    simp only [D.pls, Bool.and_eq_true] at q
    exact .cons (Rp.dp d v q.1 h1) (RpL.dp ds r q.2 h2)
end
theorem RpP.dp {K : PySem.W.Frag} {G : GI} {U : Addr → Prop} {H : Hp} {d : D} {v : V} (q : d.pl = true) (h : RpP G U H d v) : Dp K H v (toPy d) := by
  cases d with
  | lst ds =>
    obtain ⟨a, xs, e, r, l⟩ := h
    subst e
    simp only [toPy]
    exact .lst (.inl (.inl r)) (RpL.dp ds xs (by simpa [D.pl] using q) l)
  | dic ks vs => simp [D.pl] at q
  | _ => exact Rp.dp (G := G) (U := U) _ v q h
theorem eqOk_of {x y : D} (h : eqOk x y = true) : x.pl = true ∧ y.pl = true ∧ min x.dep y.dep ≤ 30 := by
  unfold eqOk at h
  rw [Bool.and_eq_true, Bool.and_eq_true] at h
  exact ⟨h.1.1, h.1.2, of_decide_eq_true h.2⟩
/-- a comparison's reading -/
def rC (op : COp) : R2 := fun x y H Q => ∃ G U dx dy r, RpP G U H dx x ∧ RpP G U H dy y ∧ cmpD op dx dy = some r ∧ Q (.bl r) H
section
variable {X : Cx}
theorem oc_eq (hu : X.A.units + 64 < cLine) : OpR X (compareOp .Eq) (rC .eq) := by
  intro pins s σ H x y v u Q I rx ry ⟨G, U, dx, dy, r, px, py, e, q⟩
  simp only [cmpD] at e
  split at e
  · rename_i ok
    cases e
    obtain ⟨a1, a2, a3⟩ := eqOk_of ok
    obtain ⟨as, r1⟩ := Dp.reads I _ x v (px.dp a1) rx
    obtain ⟨bs, r2⟩ := Dp.reads I _ y u (py.dp a2) ry
    refine SeqAt.eq_plain r1 r2 (toPy_plain _) (toPy_plain _) (by rw [toPy_dep, toPy_dep]; omega) ?_
    rw [eqv_py _ _ a1 a2]
    exact ⟨.bl _, H, I, rfl, q⟩
  · cases e
theorem oc_ne (hu : X.A.units + 64 < cLine) : OpR X (compareOp .NotEq) (rC .ne) := by
  intro pins s σ H x y v u Q I rx ry ⟨G, U, dx, dy, r, px, py, e, q⟩
  simp only [cmpD] at e
  split at e
  · rename_i ok
    cases e
    obtain ⟨a1, a2, a3⟩ := eqOk_of ok
    obtain ⟨as, r1⟩ := Dp.reads I _ x v (px.dp a1) rx
    obtain ⟨bs, r2⟩ := Dp.reads I _ y u (py.dp a2) ry
    refine SeqAt.ne_plain r1 r2 (toPy_plain _) (toPy_plain _) (by rw [toPy_dep, toPy_dep]; omega) ?_
    rw [eqv_py _ _ a1 a2]
    exact ⟨.bl _, H, I, rfl, q⟩
  · cases e
theorem oc_lt : OpR X (compareOp .Lt) (rC .lt) := by
  intro pins s σ H x y v u Q I rx ry ⟨G, U, dx, dy, r, px, py, e, q⟩
  cases dx <;> cases dy <;> simp only [cmpD] at e <;> first
    | cases e
    | skip
  · exact op_lt pins s σ H x y v u Q I rx ry ⟨_, _, px, py, q⟩
  · exact op_lt_str pins s σ H x y v u Q I rx ry ⟨_, _, px, py, q⟩
theorem oc_gt : OpR X (compareOp .Gt) (rC .gt) := by
  intro pins s σ H x y v u Q I rx ry ⟨G, U, dx, dy, r, px, py, e, q⟩
  cases dx <;> cases dy <;> simp only [cmpD] at e <;> first
    | cases e
    | skip
  · exact op_gt pins s σ H x y v u Q I rx ry ⟨_, _, px, py, q⟩
  · exact op_gt_str pins s σ H x y v u Q I rx ry ⟨_, _, px, py, q⟩
theorem oc_le : OpR X (compareOp .LtE) (rC .le) := by
  intro pins s σ H x y v u Q I rx ry ⟨G, U, dx, dy, r, px, py, e, q⟩
  cases dx <;> cases dy <;> simp only [cmpD] at e <;> first
    | cases e
    | skip
  · exact op_le pins s σ H x y v u Q I rx ry ⟨_, _, px, py, q⟩
theorem oc_ge : OpR X (compareOp .GtE) (rC .ge) := by
  intro pins s σ H x y v u Q I rx ry ⟨G, U, dx, dy, r, px, py, e, q⟩
  cases dx <;> cases dy <;> simp only [cmpD] at e <;> first
    | cases e
    | skip
  · exact op_ge pins s σ H x y v u Q I rx ry ⟨_, _, px, py, q⟩
theorem lookD_val {ks : List (List Nat)} {vs : List D} {k : List Nat} {G : GI} {U : Addr → Prop} {H : Hp} : ∀ {kvs : List (Key × V)}, kvs.map (·.1) = ks.map kk → RpL G U H vs (kvs.map (·.2)) →
    (∀ d, lookD ks vs k = some d → ∃ v, valV kvs (kk k) = some v ∧ Rp G U H d v) ∧ (lookD ks vs k = none → valV kvs (kk k) = none) ∧ (decide (k ∈ ks) = (valV kvs (kk k)).isSome) := by
  induction ks generalizing vs with
  | nil =>
    intro kvs h1 h2
    cases kvs with
    | nil => cases vs <;> simp [lookD, valV_nil]
    | cons p r => simp at h1
  | cons j ks ih =>
    intro kvs h1 h2
    cases kvs with
    | nil => simp at h1
    | cons p r =>
      simp only [List.map_cons, List.cons.injEq] at h1
      cases vs with
      | nil => cases (show _ = [] from h2)
      | cons d ds =>
        obtain ⟨v, w, e, g1, g2⟩ := h2
        simp only [List.map_cons, List.cons.injEq] at e
        obtain ⟨e1, e2⟩ := e
        subst e1 e2
        obtain ⟨i1, i2, i3⟩ := ih h1.2 g2
        by_cases z : j = k
        · subst z
          have e3 : p.1 = kk j := h1.1
          refine ⟨fun d' hd => ?_, fun hn => ?_, ?_⟩
          · simp [lookD] at hd
            subst hd
            exact ⟨p.2, valV_pos e3, g1⟩
          · simp [lookD] at hn
          · rw [valV_pos e3]; simp
        · have e3 : ¬ p.1 = kk k := fun q => z (kk_inj (h1.1.symm.trans q))
          refine ⟨fun d' hd => ?_, fun hn => ?_, ?_⟩
          · simp only [lookD, if_neg z] at hd
            rw [valV_neg e3]
            exact i1 d' hd
          · simp only [lookD, if_neg z] at hn
            rw [valV_neg e3]
            exact i2 hn
          · rw [valV_neg e3, ← i3]
            have : k ≠ j := fun q => z q.symm
            simp [this]
theorem cmp_in {x y : D} {r : Bool} (h : cmpD .inn x y = some r) : (∃ c s, x = .str [c] ∧ y = .str s ∧ r = decide (c ∈ s)) ∨ (∃ ys, y = .lst ys ∧ eqOk x (.lst ys) = true ∧ r = ys.any fun z => D.eqv z x) ∨ (∃ k ks vs, x = .str k ∧ y = .dic ks vs ∧ r = decide (k ∈ ks)) := by
  unfold cmpD at h
  split at h <;> first
    | (injection h; done)
    | skip
  all_goals first
    | contradiction
    | skip
  · rename_i c s; cases h; exact .inl ⟨_, _, rfl, rfl, rfl⟩
  · rename_i ys
    split at h
    · rename_i ok; cases h; exact .inr (.inl ⟨_, rfl, ok, rfl⟩)
    · cases h
  · cases h; exact .inr (.inr ⟨_, _, _, rfl, rfl, rfl⟩)
theorem cmp_nin {x y : D} {r : Bool} (h : cmpD .nin x y = some r) : (∃ c s, x = .str [c] ∧ y = .str s ∧ r = !decide (c ∈ s)) ∨ (∃ ys, y = .lst ys ∧ eqOk x (.lst ys) = true ∧ r = !ys.any fun z => D.eqv z x) ∨ (∃ k ks vs, x = .str k ∧ y = .dic ks vs ∧ r = !decide (k ∈ ks)) := by
  unfold cmpD at h
  split at h <;> first
    | (injection h; done)
    | skip
  all_goals first
    | contradiction
    | skip
  · rename_i c s; cases h; exact .inl ⟨_, _, rfl, rfl, rfl⟩
  · rename_i ys
    split at h
    · rename_i ok; cases h; exact .inr (.inl ⟨_, rfl, ok, rfl⟩)
    · cases h
  · cases h; exact .inr (.inr ⟨_, _, _, rfl, rfl, rfl⟩)
theorem pls_mem : ∀ {ys : List D} {z : D}, D.pls ys = true → z ∈ ys → z.pl = true
  | y :: ys, z, h, m => by
    simp only [D.pls, Bool.and_eq_true] at h
    rcases List.mem_cons.mp m with e | m
    · subst e; exact h.1
    · exact pls_mem h.2 m
  | [], _, _, m => by cases m
theorem any_py (x : D) (hx : x.pl = true) : ∀ ys : List D, D.pls ys = true → ((toPys ys).any fun y => PyData.eqv y (toPy x)) = ys.any fun z => D.eqv z x
  | [], _ => rfl
  | y :: ys, h => by
    simp only [D.pls, Bool.and_eq_true] at h
    simp only [toPys, List.any_cons, eqv_py y x h.1 hx, any_py x hx ys h.2]
theorem oc_in (hu : X.A.units + 64 < cLine) : OpR X (compareOp .In) (rC .inn) := by
  intro pins s σ H x y v u Q I rx ry ⟨G, U, dx, dy, r, px, py, e, q⟩
  rcases cmp_in e with ⟨c, z, rfl, rfl, rfl⟩ | ⟨ys, rfl, ok, rfl⟩ | ⟨k, ks, vs, rfl, rfl, rfl⟩
  · exact op_in_sign pins s σ H x y v u Q I rx ry ⟨c, mkS z, px, py, q⟩
  · obtain ⟨a1, a2, a3⟩ := eqOk_of ok
    obtain ⟨as, r1⟩ := Dp.reads I _ x v (px.dp a1) rx
    obtain ⟨bs, r2⟩ := Dp.reads I _ y u (py.dp a2) ry
    simp only [toPy] at r2
    have a2' : D.pls ys = true := by simpa [D.pl] using a2
    have a3' : min dx.dep (D.deps ys + 1) ≤ 30 := by simpa [D.dep] using a3
    refine SeqAt.in_list_data r2 r1 (toPys_plain _) (toPy_plain _) (by rw [toPys_dep, toPy_dep]; omega) ?_
    rw [any_py _ a1 _ a2']
    exact ⟨.bl _, H, I, rfl, q⟩
  · obtain ⟨a, kvs, ex, rd, h1, h2⟩ := py
    subst ex
    cases (show x = V.str (mkS k) from px)
    obtain rfl : u = Value.ref a := ry
    have g : DGet H a (.str (mkS k)) (valV kvs (kk k)) := .inl ⟨kvs, kk k, rd, rfl, rfl⟩
    refine d_in (by omega) I g rx fun s3 I3 => ⟨.bl _, H, I3, rfl, ?_⟩
    rw [← (lookD_val h1 h2).2.2]
    exact q
theorem oc_nin (hu : X.A.units + 64 < cLine) : OpR X (compareOp .NotIn) (rC .nin) := by
  intro pins s σ H x y v u Q I rx ry ⟨G, U, dx, dy, r, px, py, e, q⟩
  rcases cmp_nin e with ⟨c, z, rfl, rfl, rfl⟩ | ⟨ys, rfl, ok, rfl⟩ | ⟨k, ks, vs, rfl, rfl, rfl⟩
  · exact op_notIn_sign pins s σ H x y v u Q I rx ry ⟨c, mkS z, px, py, q⟩
  · obtain ⟨a1, a2, a3⟩ := eqOk_of ok
    obtain ⟨as, r1⟩ := Dp.reads I _ x v (px.dp a1) rx
    obtain ⟨bs, r2⟩ := Dp.reads I _ y u (py.dp a2) ry
    simp only [toPy] at r2
    have a2' : D.pls ys = true := by simpa [D.pl] using a2
    have a3' : min dx.dep (D.deps ys + 1) ≤ 30 := by simpa [D.dep] using a3
    refine SeqAt.notIn_list_data r2 r1 (toPys_plain _) (toPy_plain _) (by rw [toPys_dep, toPy_dep]; omega) ?_
    rw [any_py _ a1 _ a2']
    exact ⟨.bl _, H, I, rfl, q⟩
  · obtain ⟨a, kvs, ex, rd, h1, h2⟩ := py
    subst ex
    cases (show x = V.str (mkS k) from px)
    obtain rfl : u = Value.ref a := ry
    have g : DGet H a (.str (mkS k)) (valV kvs (kk k)) := .inl ⟨kvs, kk k, rd, rfl, rfl⟩
    refine d_notIn (by omega) I g rx fun s3 I3 => ⟨.bl _, H, I3, rfl, ?_⟩
    rw [← (lookD_val h1 h2).2.2]
    exact q
end
end DL

set_option Elab.async false
set_option linter.all false
set_option maxRecDepth 100000
set_option maxHeartbeats 4000000
/-! DL3b: products, subscripts, slices. -/
namespace DL
open PySem PySem.Spec PyProof.Rows L2
variable [Tb]
section
variable {X : Cx}
theorem rep_foldl (x : List Nat) : ∀ (n : Nat) (acc : Array Nat), (List.replicate n x.toArray).foldl (· ++ ·) acc = acc ++ ((List.replicate n x).flatten).toArray
  | 0, acc => by simp
  | n + 1, acc => by
    rw [List.replicate_succ, List.foldl_cons, rep_foldl x n, List.replicate_succ, List.flatten_cons]
    simp
theorem txt_mul {x : List Nat} {n : Int} (h0 : 0 ≤ n) : Txt.mul (mkS x) n = mkS (List.replicate n.toNat x).flatten := by
  unfold Txt.mul
  split
  · have : n.toNat = 0 := by omega
    rw [this]; rfl
  · split
    · rename_i h1 h2
      rcases Bool.or_eq_true _ _ ▸ h2 with h2 | h2
      · have : n = 1 := by simpa using h2
        subst this
        simp
      · have hx : x = [] := by
          have : (mkS x).length = 0 := by simpa using h2
          rw [mkS_len] at this
          exact List.eq_nil_of_length_eq_zero this
        subst hx
        simp
    · show (⟨_⟩ : Str) = _
      rw [rep_foldl]
      simp
theorem rep_len {α : Type} (x : List α) : ∀ n : Nat, (List.replicate n x).flatten.length = n * x.length
  | 0 => by simp
  | n + 1 => by rw [List.replicate_succ, List.flatten_cons, List.length_append, rep_len x n, Nat.succ_mul, Nat.add_comm]
theorem or_mul : OpR X (binaryOp .Mult) (rB (binD .mul)) := by
  intro pins s σ H x y v u Q I rx ry ⟨G, U, dx, dy, dz, hU, px, py, e, o⟩
  cases dx <;> cases dy <;> simp only [binD] at e <;> first
    | cases e
    | skip
  · -- ints
    split at e
    · rename_i h
      cases e
      unfold mulOk at h
      simp only [Bool.or_eq_true, Bool.and_eq_true, decide_eq_true_eq] at h
      rcases h with (h | h) | h
      · exact op_mul pins s σ H x y v u Q I rx ry ⟨_, _, px, py, .inl ⟨by omega, by omega⟩, o.flat rfl rfl⟩
      · exact op_mul pins s σ H x y v u Q I rx ry ⟨_, _, px, py, .inr ⟨by omega, by omega⟩, o.flat rfl rfl⟩
      · exact op_mulW pins s σ H x y v u Q I rx ry ⟨_, _, px, py, wide_mul h.1 h.2 (by decide) (by decide) (by decide), o.flat rfl rfl⟩
    · cases e
  · -- text times int
    split at e
    · rename_i a k h
      cases e
      simp only [Bool.and_eq_true, decide_eq_true_eq] at h
      obtain ⟨⟨h0, h1⟩, h2⟩ := h
      cases (show x = V.str (mkS a) from px)
      cases (show y = V.int k from py)
      obtain ⟨t, rfl⟩ := rx
      obtain ⟨t', rfl⟩ := ry
      have hle : k.toNat ≤ 1000 := by omega
      have hlen : a.length * k.toNat ≤ 1000000 := Nat.mul_le_mul h2 hle
      refine SB.mul ⟨?_, fun n1 n2 => ?_, fun n1 n2 => ?_⟩ fun t'' k' => ⟨.str _, H, I.tok k', ⟨t'', rfl⟩, ?_⟩
      · rw [decide_eq_false (by omega), decide_eq_false (by omega)]; rfl
      · rw [mkS_len]
        have hk : k ≤ 1000 := h1
        have : (1000 : Int) ≤ (2 ^ 63 - 1) / k := by
          rw [Int.le_ediv_iff_mul_le (by omega)]
          omega
        omega
      · rw [mkS_len]
        unfold Builtin.Str.tooLong
        have z : sizeLine = 16777216 := sizeLine_eq
        first
          | (simp only [decide_eq_false_iff_not]; omega)
          | (apply decide_eq_false; omega)
          | (simp; omega)
      · rw [txt_mul h0]
        exact o.flat rfl rfl
    · cases e
  · -- tuple times int
    split at e
    · rename_i a k h
      cases e
      simp only [Bool.and_eq_true, decide_eq_true_eq] at h
      obtain ⟨⟨⟨h0, h1⟩, h2⟩, h3⟩ := h
      obtain ⟨p, xs, ex, hx, lx⟩ := px
      have el := lx.len
      refine op_repT pins s σ H x y v u Q I rx ry ⟨p, k, xs, ex, py, .inl hx, fun z => ?_, h0, h1, by omega, fun r hr => o.newT (lx.rep _) hr⟩
      rw [z] at el
      simp at el
      omega
    · cases e
  · -- list times int
    split at e
    · rename_i a k h
      cases e
      simp only [Bool.and_eq_true, decide_eq_true_eq] at h
      obtain ⟨⟨h0, h1⟩, h2⟩ := h
      obtain ⟨p, xs, ex, hx, lx⟩ := px
      have el := lx.len
      refine op_rep pins s σ H x y v u Q I rx ry ⟨p, k, xs, ex, py, hx, by omega, by omega, ?_, fun r hr => o.newL hU (lx.rep _) hr⟩
      have : xs.length * k.toNat ≤ 1000 * 1000 := Nat.mul_le_mul (by omega) (by omega)
      rw [sizeLine_eq]
      omega
    · cases e

/-! ### o[i] -/
theorem atI_rp {G : GI} {U : Addr → Prop} {H : Hp} {ds : List D} {xs : List V} {i : Int} {d : D} (l : RpL G U H ds xs) (h : atI ds i = some d) : ∃ v, atI xs i = some v ∧ Rp G U H d v := by
  unfold atI at h ⊢
  rw [l.len]
  cases e : ixN ds.length i with
  | none => rw [e] at h; cases h
  | some j =>
    rw [e] at h
    exact l.get h
def rIxD : R2 := fun x y H Q => ∃ G U dx dy dz, RpP G U H dx x ∧ RpP G U H dy y ∧ subD dx dy = some dz ∧ ∀ v, Rp G U H dz v → Q v H
theorem ixr_d (hu : X.A.units + 1 < cLine) : IxR X rIxD := by
  intro value slice pins s σ H x y v u Q I rx ry ⟨G, U, dx, dy, dz, px, py, e, q⟩ hs
  cases dx <;> cases dy <;> simp only [subD] at e <;> first
    | cases e
    | skip
  · rename_i a i
    split at e
    · rename_i hl
      rw [Option.map_eq_some_iff] at e
      obtain ⟨c, e, rfl⟩ := e
      exact ix_str value slice pins s σ H x y v u Q I rx ry ⟨mkS a, i, c, px, py, by rw [mkS_len, sizeLine_eq]; exact hl, e, q _ rfl⟩ hs
    · cases e
  · obtain ⟨p, xs, ex, hx, lx⟩ := px
    obtain ⟨w, h1, h2⟩ := atI_rp lx e
    exact ix_tup value slice pins s σ H x y v u Q I rx ry ⟨p, xs, _, w, ex, py, .inl hx, h1, q w h2⟩ hs
  · obtain ⟨p, xs, ex, hx, lx⟩ := px
    obtain ⟨w, h1, h2⟩ := atI_rp lx e
    exact ix_list value slice pins s σ H x y v u Q I rx ry ⟨p, xs, _, w, ex, py, .inl (.inl hx), h1, q w h2⟩ hs
  · rename_i ks vs k
    obtain ⟨p, kvs, ex, hx, h1, h2⟩ := px
    subst ex
    cases (show y = V.str (mkS k) from py)
    obtain rfl : v = Value.ref p := rx
    obtain ⟨w, hw, rw⟩ := (lookD_val h1 h2).1 _ e
    have g : DGet H p (.str (mkS k)) (some w) := .inl ⟨kvs, kk k, hx, rfl, hw.symm⟩
    have hT := dict_typeIs I g
    unfold subscriptTail
    refine wpAny_bind ?_
    rw [getitemInPython_of_ne hT.not_modules]
    refine wpAny_bind (wpAny_specialOf hT PySem.F.slot_dict_getitem.lookup ?_)
    have fin : wpAny (model X.prog X.w) X.A (subscripted slice false (.ref p) u) (fun r s₃ => wpAny (model X.prog X.w) X.A (letTemporaryGo value (.ref p) r >>= fun _ => pure r) (EP X pins σ Q) X.xe s₃) X.xe s := by
      rw [hs]
      exact wpAny_operating (d_getItem hu I g ry fun w' s3 I3 rw' => wpAny_bind (wpAny_letTemporaryGo (wpAny_pure ⟨w, H, I3, rw', q w rw⟩)))
    first
      | exact wpAny_pure (wpAny_bind fin)
      | exact wpAny_bind (wpAny_pure (wpAny_bind fin))
      | exact wpAny_bind fin

/-! ### slices -/
def rSlD : V → Option Int → Option Int → Hp → VK → Prop := fun x lo hi H Q => ∃ G U dx dz, (∀ p, H p = none → ¬ U p) ∧ RpP G U H dx x ∧ slD dx lo hi = some dz ∧ Out G U H dz Q
theorem cutS_mk (a : List Nat) (lo hi : Option Int) : cutS (mkS a) lo hi = mkS (cutL a lo hi) := by
  unfold cutS cutL
  simp [mkS, Str.length]
theorem sl_d : SlR X rSlD := by
  intro pins s σ H x v vl vu lo hi sl Q I rx hs pl pu ⟨G, U, dx, dz, hU, px, e, o⟩
  cases dx <;> simp only [slD] at e <;> first
    | cases e
    | skip
  · rename_i a
    split at e
    · rename_i hl
      cases e
      refine sl_str pins s σ H x v vl vu lo hi sl Q I rx hs pl pu ⟨mkS a, px, by rw [mkS_len, sizeLine_eq]; exact hl, ?_⟩
      rw [cutS_mk]
      exact o.flat rfl rfl
    · cases e
  · obtain ⟨p, xs, ex, hx, lx⟩ := px
    refine sl_tupA pins s σ H x v vl vu lo hi sl Q I rx hs pl pu ⟨p, xs, ex, .inl hx, fun hw => ?_, fun _ q hq => o.newT (lx.cut lo hi) hq⟩
    rename_i ds
    have ec : cutL ds lo hi = ds := by
      unfold cutL
      rw [← lx.len, hw.1, hw.2, lx.len]
      simp
    rw [ec] at o
    exact o.flat ⟨p, xs, rfl, hx, lx⟩ rfl
  · obtain ⟨p, xs, ex, hx, lx⟩ := px
    refine sl_list pins s σ H x v vl vu lo hi sl Q I rx hs pl pu ⟨p, xs, ex, .inl (.inl hx), fun q hq => o.newL hU (lx.cut lo hi) hq⟩
end
end DL

set_option Elab.async false
set_option linter.all false
set_option maxRecDepth 100000
set_option maxHeartbeats 8000000
/-! DLset: set(x) of texts, its length. -/
namespace DL
open PySem PySem.Spec PyProof.Rows
variable [Tb]
/-- how many different ones -/
def cnt : List Str → Nat
  | [] => 0
  | x :: r => if r.any (· == x) = true then cnt r else cnt r + 1
/-- the first i of xs, from the end (a set grows by what comes) -/
def cntTo (xs : List Str) (i : Nat) : Nat := cnt (xs.take i).reverse
theorem cntTo_succ {xs : List Str} {i : Nat} {x : Str} (h : xs[i]? = some x) : cntTo xs (i + 1) = if (xs.take i).any (· == x) = true then cntTo xs i else cntTo xs i + 1 := by
  unfold cntTo
  have e : xs.take (i + 1) = xs.take i ++ [x] := by
    rw [List.take_succ, h]; rfl
  rw [e, List.reverse_append]
  show cnt (x :: (xs.take i).reverse) = _
  rw [cnt, List.any_reverse]
theorem cnt_le : ∀ xs : List Str, cnt xs ≤ xs.length
  | [] => Nat.le_refl _
  | x :: r => by
    unfold cnt
    have := cnt_le r
    split <;> simp only [List.length_cons] <;> omega
theorem cntTo_le (xs : List Str) (i : Nat) : cntTo xs i ≤ xs.length := by
  unfold cntTo
  have := cnt_le (xs.take i).reverse
  rw [List.length_reverse, List.length_take] at this
  omega
section
variable {prog : Program} {w : World} {A : Around} {R : Result → Shared → Prop} {I : Addr} {fp wr : List Addr} {G : Array GenState → Array GenState → Prop} {n : Nat} {P : Nat → Value → Prop} {St : Nat → Shared → Prop}
theorem loopSet (W : WalksS prog w A.in1 I fp wr G n P St) (S : Addr) (hSf : S ∉ fp) (xs : List Str) (hsz : xs.length = n) (hb : n + 1 < scanBound)
    (hval : ∀ i v, P i v → ∃ t, v = .str (xs.getD i Str.empty) t) :
    ∀ (k i : Nat) (s : Shared), n - i = k → i ≤ n → St i s →
      s.heap.SetOf (PySem.strKind prog w) S (fun k' => (xs.take i).any (· == k')) (cntTo xs i) →
      (∀ s', Moved (S :: wr) G s s' → s'.heap.SetOf (PySem.strKind prog w) S (fun k' => (xs.take n).any (· == k')) (cntTo xs n) → R (.ok (.ret .none)) s') →
      codeAny (model prog w) A (.builtin "set.update.loop" ⟨[.ref S, .ref I], []⟩) R s := by
  have hSw : S ∉ wr := fun h => hSf (W.sub _ h)
  have hsub : ∀ b ∈ wr, b ∈ S :: wr := fun b hb => List.mem_cons_of_mem _ hb
  intro k
  induction k with
  | zero =>
    intro i s hk hi hst hS hR
    obtain rfl : i = n := by omega
    refine codeAny_builtin PyProof.Rows.F.entry_set_update_loop ?_
    rw [Around.under_plainId PyProof.Rows.F.plain_set_update_loop _]
    show wpAny _ A.in1 (pyNext (.ref I) >>= _) _ _ s
    refine wpAny_bind (W.done s _ _ hst fun s' hm => ?_)
    show wpAny _ A.in1 (ret Value.none) _ _ s'
    obtain ⟨o, es, ep, t, ho, rest⟩ := hS
    exact wpAny_pure (hR s' (hm.mono hsub) ⟨o, es, ep, t, hm.heap S _ hSw ho, rest⟩)
  | succ k ih =>
    intro i s hk hi hst hS hR
    have hlt : i < n := by omega
    have hxi : xs[i]? = some (xs.getD i Str.empty) := by
      rw [List.getD_eq_getElem?_getD, List.getElem?_eq_getElem (by omega)]; rfl
    refine codeAny_builtin PyProof.Rows.F.entry_set_update_loop ?_
    rw [Around.under_plainId PyProof.Rows.F.plain_set_update_loop _]
    show wpAny _ A.in1 (pyNext (.ref I) >>= _) _ _ s
    refine wpAny_bind (W.item i s _ _ hlt hst fun v s' hP hst' hm => ?_)
    obtain ⟨t, rfl⟩ := hval i v hP
    generalize xs.getD i Str.empty = x at hxi ⊢
    obtain ⟨o, es, ep, tb, ho, rest⟩ := hS
    have hS' : s'.heap.SetOf (PySem.strKind prog w) S (fun k' => (xs.take i).any (· == k')) (cntTo xs i) := ⟨o, es, ep, tb, hm.heap S _ hSw ho, rest⟩
    show wpAny _ A.in1 (holding [Value.str x t] (setAdd S (.str x t)) >>= _) _ _ s'
    refine wpAny_bind (wpAny_holding ?_)
    unfold setAdd
    refine wpAny_holding (wpAny_bind ((PySem.strKind prog w).pyHash (k := x) (strKind_is _ _ _ _) ?_))
    have hroom : cntTo xs i + 1 < scanBound := by
      have := cntTo_le xs i
      omega
    refine wpAny_setAddHashed_of (knd := PySem.strKind prog w) (s := { s' with toks := s'.toks + 1 }) (strKind_is _ _ _ _) rfl hS' hroom fun h' hsb hS2 => ?_
    have hSi : h'.SetOf (PySem.strKind prog w) S (fun k' => (xs.take (i + 1)).any (· == k')) (cntTo xs (i + 1)) := by
      refine SetOf_congr hS2 (fun k' => ?_) (cntTo_succ hxi).symm
      have e : xs.take (i + 1) = xs.take i ++ [x] := by
        rw [List.take_succ, hxi]; rfl
      rw [e, List.any_append]
      by_cases e : k' = x
      · subst e; simp
      · have hb : (x == k') = false := by simpa [beq_iff_eq] using (fun h' : x = k' => e h'.symm)
        simp [hb, e]
    refine wpAny_pure ⟨plainId_quiet PyProof.Rows.F.plain_set_update_loop _, ih (i + 1) _ (by omega) hlt (W.frame _ s' _ _ hst' (Nat.le_succ _) fun b hb o e => ?_) hSi fun s'' hm'' hS'' => ?_⟩
    · rw [hsb.2 b (fun h : b = S => hSf (by rw [← h]; exact hb))]; exact e
    · refine hR s'' (Moved.trans W.gtrans ((hm.mono hsub).then_heap (Nat.le_succ _) fun b o hb e => ?_) hm'') hS''
      rw [hsb.2 b (fun h : b = S => hb (by rw [h]; exact List.mem_cons_self))]; exact e
end
section
variable {prog : Program} {w : World} {A : Around} {E : Value → Shared → Prop} {s : Shared}
abbrev set0 (led : Bool) : Obj := { cls := .type "set", dict := none, data := .set #[] 0 (.fresh 0 0 led) }
/-- what set.__init__ leaves -/
def SetMade (prog : Program) (w : World) (s : Shared) (xs : List Str) (r : Value) (s₂ : Shared) : Prop := r = .none ∧ ∃ h' tk, s₂ = { s with heap := h', toks := tk } ∧
  h'.SetOf (PySem.strKind prog w) s.heap.objs.size (fun k' => (xs.take xs.length).any (· == k')) (cntTo xs xs.length) ∧ (∀ b o, b < s.heap.objs.size → s.heap.get? b = some o → h'.get? b = some o)
theorem call_set_of {v : Value} {xs : List Str} {Q : Value → Shared → Prop}
    (hinit : ∀ led : Bool, wpAny (model prog w) A.in1.in1 (Builtin.«set.__init__» ⟨[.ref s.heap.objs.size, v], []⟩) (fun fin s' => match fin with
      | .done f => wants (SetMade prog w s xs) E (.ok f) s'
      | .again c' => c'.quiet = true ∧ codeAny (model prog w) A.in1 c' (wants (SetMade prog w s xs) E) s') (fun e s' => wants (SetMade prog w s xs) E (.error e) s') { s with heap := s.heap.push (set0 led) })
    (h : ∀ (h' : Heap) (tk : Nat), h'.SetOf (PySem.strKind prog w) s.heap.objs.size (fun k' => (xs.take xs.length).any (· == k')) (cntTo xs xs.length) →
      (∀ b o, b < s.heap.objs.size → s.heap.get? b = some o → h'.get? b = some o) → Q (.ref s.heap.objs.size) { s with heap := h', toks := tk }) :
    wpAny (model prog w) A (call (.type "set") [v]) Q E s := by
  obtain ⟨c, tl, hmro⟩ := PySem.F.called_set.mro
  have hmade := PySem.F.called_set.made
  have hsub := PySem.F.called_set.sub
  refine wpAny_call (codeAny_of_tree ?_)
  show wpAny _ _ (callAny (.type "set") _) _ _ _
  refine wpAny_pure ⟨Code.quiet_builtin _ (by decide +kernel), codeAny_builtin PySem.F.entry_type_call ?_⟩
  rw [Around.under_plain (weight_type_call_type "set" [v] []) rfl]
  have h1 := PySem.F.called_set.notType
  have h2 := PySem.F.called_set.canCreate
  have hct := PySem.F.typeCall_set_1 v
  repeat (any_goals (first | assumption | wp_step))
  refine codeAny_mono (code_set_new_1 v (E := E) (Q₁ := fun obj s₁ => ∃ led : Bool, obj = .ref s.heap.objs.size ∧ s₁ = { s with heap := s.heap.push (set0 led) }) fun led => ⟨led, rfl, rfl⟩) fun r s₁ hr => ?_
  cases r with
  | error e => exact hr
  | ok fl =>
    cases fl with
    | ret obj =>
      obtain ⟨led, rfl, rfl⟩ := hr
      have hi := hinit led
      have hS : (s.heap.push (set0 led)).get? s.heap.objs.size = some (set0 led) := Heap.get?_push_size _ rfl
      generalize s.heap.push (set0 led) = H1 at hS hi ⊢
      have hT : Shared.TypeIs { s with heap := H1 } (.ref s.heap.objs.size) "set" := ⟨_, hS, rfl⟩
      have hli := PySem.F.called_set.init.lookup
      have hbi := PySem.F.called_set.init.bind (.ref s.heap.objs.size)
      repeat (any_goals (first | assumption | wp_step))
      refine codeAny_mono (codeAny_call_builtin (R := wants (SetMade prog w s xs) E) PySem.F.called_set.init.plain PySem.F.entry_set_init (check_set_init_1 hT hi)) fun r₂ s₂ hr₂ => ?_
      cases r₂ with
      | error e => exact hr₂
      | ok fl₂ =>
        cases fl₂ with
        | ret r =>
          obtain ⟨rfl, h', tk, rfl, hS', hk'⟩ := hr₂
          repeat (any_goals (first | assumption | wp_step))
          exact h _ _ hS' hk'
        | _ => exact hr₂.elim
    | _ => exact hr.elim
/-- the loop within, its walk told -/
theorem set_fill {v : Value} {xs : List Str} {led : Bool} {I : Addr} {fp : List Addr} {G : Array GenState → Array GenState → Prop} {P : Nat → Value → Prop} {St : Nat → Shared → Prop} {o : Obj} {A' : Around} (hG : ∀ a b, G a b → b = a)
    (hI : I = s.heap.objs.size + 1) (W : WalksS prog w A'.in1 I fp [I] G xs.length P St) (hfp : ∀ b ∈ fp, b = I ∨ b < s.heap.objs.size) (hb : xs.length + 1 < scanBound) (hval : ∀ i v, P i v → ∃ t, v = .str (xs.getD i Str.empty) t)
    (hst : St 0 { s with heap := (s.heap.push (set0 led)).push o }) {R : Result → Shared → Prop} (hR : ∀ s', SetMade prog w s xs .none s' → R (.ok (.ret .none)) s') :
    codeAny (model prog w) A' (.builtin "set.update.loop" ⟨[.ref s.heap.objs.size, .ref I], []⟩) R { s with heap := (s.heap.push (set0 led)).push o } := by
  have hS : ((s.heap.push (set0 led)).push o).get? s.heap.objs.size = some (set0 led) := Heap.get?_push_of_some _ (Heap.get?_push_size _ rfl)
  refine loopSet W s.heap.objs.size (fun hm => ?_) xs rfl hb hval (xs.length - 0) 0 _ (by omega) (Nat.zero_le _) hst ?_ fun s' hm hS' => ?_
  · rcases hfp _ hm with z | z
    · rw [hI] at z; exact absurd z (Nat.ne_of_lt (Nat.lt_succ_self _))
    · exact absurd z (Nat.lt_irrefl _)
  · exact SetOf_congr ((setObjOf_fresh (knd := PySem.strKind prog w) led).setOf hS (Nat.lt_of_le_of_lt (Nat.zero_le _) hb)) (fun _ => rfl) rfl
  · obtain ⟨h', g', d', tk', os'⟩ := s'
    have eg : g' = s.gens := hG _ _ hm.gens
    have ed : d' = s.drawn := hm.drawn
    have eo : os' = s.os := hm.os
    subst eg; subst ed; subst eo
    refine hR _ ⟨rfl, h', tk', rfl, hS', fun b ob hb' e => ?_⟩
    refine hm.heap b ob (fun hm' => ?_) (Heap.get?_push_of_some _ (Heap.get?_push_of_some _ e))
    rcases List.mem_cons.mp hm' with z | z
    · exact absurd hb' (by rw [z]; exact Nat.lt_irrefl _)
    · rw [List.mem_singleton.mp z, hI] at hb'
      exact absurd hb' (Nat.lt_asymm (Nat.lt_succ_self _))
theorem call_set_strs {l : Addr} {items : Array Value} {xs : List Str} {Q : Value → Shared → Prop} (hh : A.handled = none) (hl : s.heap.IsList l items) (hi : PyProof.Rows.StrsAre items.toList xs) (hb : xs.length + 1 < scanBound)
    (h : ∀ (h' : Heap) (tk : Nat), h'.SetOf (PySem.strKind prog w) s.heap.objs.size (fun k' => (xs.take xs.length).any (· == k')) (cntTo xs xs.length) →
      (∀ b o, b < s.heap.objs.size → s.heap.get? b = some o → h'.get? b = some o) → Q (.ref s.heap.objs.size) { s with heap := h', toks := tk }) :
    wpAny (model prog w) A (call (.type "set") [.ref l]) Q E s := by
  refine call_set_of (fun led => ?_) h
  have hS : (s.heap.push (set0 led)).get? s.heap.objs.size = some (set0 led) := Heap.get?_push_size _ rfl
  obtain ⟨ol, hol, hcl, nl, hdl⟩ := hl
  obtain ⟨ocls, odict, odata, oslots⟩ := ol
  simp only at hcl hdl
  subst hcl; subst hdl
  have hol' : (s.heap.push (set0 led)).get? l = some { cls := .type "list", dict := odict, data := .seq items nl, slots := oslots } := Heap.get?_push_of_some _ hol
  have hlS : l < s.heap.objs.size := Heap.lt_size hol
  have hz : (s.heap.push (set0 led)).objs.size = s.heap.objs.size + 1 := Heap.size_push _ _
  have e : items.size = xs.length := by rw [← StrsAre.len_eq hi, Array.length_toList]
  have W0 := (Walks.list (prog := prog) (w := w) (A := A.in1.in1.in1) hh (s.heap.push (set0 led)).objs.size l (Nat.ne_of_lt (by rw [hz]; exact Nat.lt_succ_of_lt hlS)) items).toS
  rw [e] at W0
  have hsls := PySem.F.sub_list_set
  have hslf := PySem.F.sub_list_frozenset
  have hne : (Value.type "list" == Value.type "dict") = false := by decide
  have hl1 : (s.heap.push (set0 led)).IsList l items := ⟨_, hol', rfl, nl, rfl⟩
  unfold Builtin.«set.__init__» noKeywords Builtin.Frozenset.updateFrom
  generalize hPI : pyIter = PI
  wp_walk
  subst hPI
  refine wpAny_pyIter_list hl1 ?_
  refine wpAny_bind (wpAny_runValue ?_)
  refine set_fill (v := .ref l) (fun _ _ z => z) hz W0 (fun b hm => ?_) hb (fun i v hv => SS.strs_at hi i v (by rw [Array.getElem?_toList]; exact hv)) ⟨⟨_, Heap.get?_push_size _ rfl, rfl, rfl⟩, hl1.push _⟩ fun s' hs' => ?_
  · rcases List.mem_cons.mp hm with z | z
    · exact .inl z
    · rw [List.mem_singleton.mp z]; exact .inr hlS
  · refine wpAny_pure ?_
    show wpAny _ _ (ret Value.none) _ _ _
    exact wpAny_pure hs'
end
end DL

set_option Elab.async false
set_option linter.all false
set_option maxRecDepth 100000
set_option maxHeartbeats 4000000
/-! DL4: an expression does what its form over data tells. -/
namespace DL
open PySem PySem.Spec PyProof.Rows L2
variable [Tb]

theorem _root_.L2.PE.imp {X : Cx} {e : Expr} {t t' : TE} (h : PE X e t) (i : ∀ σ H Q, t' σ H Q → t σ H Q) : PE X e t' := ⟨fun pins s σ H Q I q => h.run pins s σ H Q I (i _ _ _ q)⟩
theorem _root_.L2.PT.imp {X : Cx} {e : Expr} {t t' : TT} (h : PT X e t) (i : ∀ σ H Q, t' σ H Q → t σ H Q) : PT X e t' := ⟨fun pins s σ H Q I q => h.run pins s σ H Q I (i _ _ _ q)⟩
theorem _root_.L2.PW.imp {X : Cx} {e : Expr} {t t' : TT} (h : PW X e t) (i : ∀ σ H Q, t' σ H Q → t σ H Q) : PW X e t' := ⟨fun wh pins s σ H Q I q => h.run wh pins s σ H Q I (i _ _ _ q)⟩
theorem _root_.L2.PA.imp {X : Cx} {e : List Expr} {t t' : TA} (h : PA X e t) (i : ∀ σ H Q, t' σ H Q → t σ H Q) : PA X e t' := ⟨fun pos pins s σ H Q I q => h.run pos pins s σ H Q I (i _ _ _ q)⟩
theorem _root_.L2.PS.imp {X : Cx} {e : Stmt} {t t' : TS} (h : PS X e t) (i : ∀ D σ H, t' D σ H → t D σ H) : PS X e t' := ⟨fun pins s σ H D I q => h.run pins s σ H D I (i _ _ _ q)⟩
theorem _root_.L2.PSs.imp {X : Cx} {e : List Stmt} {t t' : TS} (h : PSs X e t) (i : ∀ D σ H, t' D σ H → t D σ H) : PSs X e t' := ⟨fun pins s σ H D I q => h.run pins s σ H D I (i _ _ _ q)⟩
theorem _root_.L2.PI.imp {X : Cx} {tg e : Expr} {t t' : TI} (h : PI X tg e t) (i : ∀ σ H R, t' σ H R → t σ H R) : PI X tg e t' := ⟨fun pins s σ H Q I q => h.run pins s σ H Q I (i _ _ _ q)⟩
theorem _root_.L2.PG.imp {X : Cx} {tg : Expr} {t t' : TG} (h : PG X tg t) (i : ∀ v σ H R, t' v σ H R → t v σ H R) : PG X tg t' := ⟨fun pins s σ H v u Q I r q => h.run pins s σ H v u Q I r (i _ _ _ _ q)⟩
theorem _root_.L2.PGs.imp {X : Cx} {tg : List Expr} {t t' : TGs} (h : PGs X tg t) (i : ∀ v σ H R, t' v σ H R → t v σ H R) : PGs X tg t' := ⟨fun pins s σ H v u Q I r q => h.run pins s σ H v u Q I r (i _ _ _ _ q)⟩

/-- what is known of a value that came out -/
def Res : Bool → GI → (Addr → Prop) → Hp → D → V → Prop
  | true, G, U, H, d, v => Rp G U H d v
  | false, G, U, H, d, v => RpP G U H d v ∧ (d.isBox = true → ∀ a, v = .ref a → ¬ G.mv a)
/-- a new list or dict, nobody else's -/
def Fre (m : ME) (G : GI) (U : Addr → Prop) (H0 H : Hp) (d : D) (v : V) : Prop := m.fresh = true → d.isBox = true → ∃ a, v = .ref a ∧ H0 a = none ∧ OwnAt G (fun b => U b ∨ b = a) H a d
section
variable {G : GI} {U U0 : Addr → Prop} {He H H' : Hp} {σ : St} {ρ : DEnv} {d : D} {v : V} {esc : Bool}
theorem Rp.nmv (hU : ∀ a, G.mv a → U a) (h : Rp G U H d v) : d.isBox = true → ∀ a, v = .ref a → ¬ G.mv a := fun b a e m => by
  cases d <;> first
    | cases b
    | skip
  · obtain ⟨c, xs, e', _, n, _⟩ := h
    rw [e] at e'; cases e'
    exact n (hU _ m)
  · obtain ⟨c, xs, e', _, n, _⟩ := h
    rw [e] at e'; cases e'
    exact n (hU _ m)
theorem Res.weak (hU : ∀ a, G.mv a → U a) (h : Rp G U H d v) : ∀ esc, Res esc G U H d v
  | true => h
  | false => ⟨h.p, h.nmv hU⟩
theorem Res.p : ∀ {esc : Bool}, Res esc G U H d v → RpP G U H d v
  | true, h => Rp.p h
  | false, h => h.1
theorem RpP.step (k : Kp U H H') (e : Ext G H H') (n : d.isBox = true → ∀ a, v = .ref a → ¬ G.mv a) (h : RpP G U H d v) : RpP G U H' d v := by
  cases d with
  | lst ds => obtain ⟨a, xs, q, r, l⟩ := h; exact ⟨a, xs, q, e.keep _ _ r (n rfl a q), RpL.keep k (fun _ z => .inl z) _ _ l⟩
  | dic ks vs => obtain ⟨a, xs, q, r, w, l⟩ := h; exact ⟨a, xs, q, e.rd r (n rfl a q), w, RpL.keep k (fun _ z => .inl z) _ _ l⟩
  | _ => exact Rp.keep k (fun _ z => .inl z) _ _ h
theorem RE.kp (r : RE G U0 He H σ ρ) (e : Ext G H H') : Kp (Uo U0 ρ σ) H H' := e.kp r.inv r.mvU
theorem Res.step (r : RE G U0 He H σ ρ) (e : Ext G H H') : ∀ {esc : Bool}, Res esc G (Uo U0 ρ σ) H d v → Res esc G (Uo U0 ρ σ) H' d v
  | true, h => Rp.keep (r.kp e) (fun _ z => .inl z) _ _ h
  | false, h => ⟨RpP.step (r.kp e) e h.2 h.1, h.2⟩
theorem RE.back (r : RE G U0 He H σ ρ) (e : Ext G H H') {a : Addr} (h : H' a = none) : H a = none := by
  cases q : H a with
  | none => rfl
  | some o =>
    by_cases m : G.mv a
    · obtain ⟨o', q'⟩ := (r.step e).trk a (r.mv a m)
      rw [h] at q'; cases q'
    · have := e.keep a o q m
      rw [h] at this; cases this
theorem Fre.no {m : ME} (h : m.fresh = false) {H0 : Hp} : Fre m G U H0 H d v := fun z => by rw [h] at z; cases z
theorem Fre.flat {m : ME} (h : d.isBox = false) {H0 : Hp} : Fre m G U H0 H d v := fun _ z => by rw [h] at z; cases z
end

/-- what a form over data is wished for: an exception of class k stands as W has it -/
def tD (cls : Nat → Addr) (W : WX) (esc : Bool) (m : ME) : TE := fun σ H Q => ∃ (G : GI) (U0 : Addr → Prop) (He : Hp) (ρ : DEnv) (Qd : D → Prop) (Xd : Nat → Prop),
  RE G U0 He H σ ρ ∧ wE m ρ Qd Xd ∧
  (∀ d v H', Ext G H H' → Res esc G (Uo U0 ρ σ) H' d v → Fre m G (Uo U0 ρ σ) H H' d v → Qd d → Q v H') ∧
  (∀ k H', Ext G H H' → Xd k → W (.ref (cls k)) none σ H')
def tT (cls : Nat → Addr) (W : WX) (m : ME) : TT := fun σ H Q => ∃ (G : GI) (U0 : Addr → Prop) (He : Hp) (ρ : DEnv) (Qd : Bool → Prop) (Xd : Nat → Prop),
  RE G U0 He H σ ρ ∧ wE m ρ (onB Qd) Xd ∧ (∀ b H', Ext G H H' → Qd b → Q b H') ∧ (∀ k H', Ext G H H' → Xd k → W (.ref (cls k)) none σ H')
def tDs (cls : Nat → Addr) (W : WX) (ms : List ME) : TA := fun σ H Q => ∃ (G : GI) (U0 : Addr → Prop) (He : Hp) (ρ : DEnv) (Qd : List D → Prop) (Xd : Nat → Prop),
  RE G U0 He H σ ρ ∧ wEs ms ρ Qd Xd ∧
  (∀ ds vs H', Ext G H H' → RpL G (Uo U0 ρ σ) H' ds vs → Qd ds → Q vs H') ∧
  (∀ k H', Ext G H H' → Xd k → W (.ref (cls k)) none σ H')
section
variable {X : Cx} {cls : Nat → Addr} {W : WX} {esc : Bool} {m m1 m2 m3 : ME} {ms : List ME} {e a b c : Expr} {es : List Expr} {pos : Pos} {G : GI} {U0 : Addr → Prop} {He H : Hp} {σ : St} {ρ : DEnv} {Qd : D → Prop} {Xd : Nat → Prop}
theorem tD_in {Q : VK} (r : RE G U0 He H σ ρ) (w : wE m ρ Qd Xd) (k : ∀ d v H', Ext G H H' → RE G U0 He H' σ ρ → Res esc G (Uo U0 ρ σ) H' d v → Fre m G (Uo U0 ρ σ) H H' d v → Qd d → Q v H')
    (x : ∀ k H', Ext G H H' → Xd k → W (.ref (cls k)) none σ H') : tD cls W esc m σ H Q := ⟨G, U0, He, ρ, Qd, Xd, r, w, fun d v H' e p f q => k d v H' e (r.step e) p f q, x⟩
theorem tT_in {Qb : Bool → Prop} {Q : Bool → Hp → Prop} (r : RE G U0 He H σ ρ) (w : wE m ρ (onB Qb) Xd) (k : ∀ b H', Ext G H H' → RE G U0 He H' σ ρ → Qb b → Q b H')
    (x : ∀ k H', Ext G H H' → Xd k → W (.ref (cls k)) none σ H') : tT cls W m σ H Q := ⟨G, U0, He, ρ, Qb, Xd, r, w, fun d H' e q => k d H' e (r.step e) q, x⟩
theorem tDs_in {Ql : List D → Prop} {Q : List V → Hp → Prop} (r : RE G U0 He H σ ρ) (w : wEs ms ρ Ql Xd) (k : ∀ ds vs H', Ext G H H' → RE G U0 He H' σ ρ → RpL G (Uo U0 ρ σ) H' ds vs → Ql ds → Q vs H')
    (x : ∀ k H', Ext G H H' → Xd k → W (.ref (cls k)) none σ H') : tDs cls W ms σ H Q := ⟨G, U0, He, ρ, Ql, Xd, r, w, fun d v H' e p q => k d v H' e (r.step e) p q, x⟩

/-! ### modes -/
theorem te_pk (h : PE X e (tD cls W true m)) : PE X e (tD cls W false m) := h.imp fun σ H Q ⟨G, U0, He, ρ, Qd, Xd, r, w, k, x⟩ => ⟨G, U0, He, ρ, Qd, Xd, r, w, fun d v H' e p f q => k' r e p f q k, x⟩
where k' {G : GI} {U0 : Addr → Prop} {He : Hp} {ρ : DEnv} {Qd : D → Prop} {σ : St} {H H' : Hp} {Q : VK} {d : D} {v : V} (r : RE G U0 He H σ ρ) (e : Ext G H H') (p : Res true G (Uo U0 ρ σ) H' d v) (f : Fre m G (Uo U0 ρ σ) H H' d v) (q : Qd d)
    (k : ∀ d v H', Ext G H H' → Res false G (Uo U0 ρ σ) H' d v → Fre m G (Uo U0 ρ σ) H H' d v → Qd d → Q v H') : Q v H' := k d v H' e (Res.weak r.mvU p false) f q
/-- a test of a value that is a bool -/
theorem tt_val (h : PE X e (tD cls W true m)) (he : ∀ whole, isTrue e X.env whole = (do let v ← whole; standAt e.pos; holding [v] (truthy v)) := by intro _; rfl) : PT X e (tT cls W m) :=
  (pt_val h he).imp fun σ H Q ⟨G, U0, He, ρ, Qd, Xd, r, w, k, x⟩ => tD_in r w (fun d v H' e r' p f q => by
    cases d <;> first
      | exact (q : False).elim
      | exact ⟨_, p, k _ H' e q⟩) x

/-! ### constants and names -/
theorem te_con {d : D} {v : V} (h : PE X e (tC v)) (hr : ∀ (G : GI) U H, Rp G U H d v) (hb : d.isBox = false := by rfl) : PE X e (tD cls W true (.con d)) :=
  h.imp fun σ H Q ⟨G, U0, He, ρ, Qd, Xd, r, w, k, x⟩ => k d v H (Ext.refl G H) (hr _ _ _) (Fre.flat hb) (by simpa only [wE] using w)
theorem te_int {i j} : PE X (.Constant (.int i) j pos) (tD cls W true (.con (.int i))) := te_con pe_int fun _ _ _ => rfl
theorem te_bl {i j} : PE X (.Constant (.bool i) j pos) (tD cls W true (.con (.bl i))) := te_con pe_bl fun _ _ _ => rfl
theorem te_non {j} : PE X (.Constant .none j pos) (tD cls W true (.con .non)) := te_con pe_non fun _ _ _ => rfl
theorem te_str {x : Str} {j} (s : List Nat) (hs : x = mkS s := by rfl) : PE X (.Constant (.str x) j pos) (tD cls W true (.con (.str s))) := te_con (v := .str (mkS s)) (hs ▸ pe_str) fun _ _ _ => rfl
theorem te_glob {x : Str} {u : Value} {s : List Nat} (hg : Gl X x) (hm : X.mg x = some u) (r : RelV (.str (mkS s)) u) (hd : (x == ("__debug__" : Str)) = false := by decide) : PE X (.Name x pos) (tD cls W true (.con (.str s))) := te_con (v := .str (mkS s)) (pe_glob hg hm r hd) fun _ _ _ => rfl
theorem te_var {i : Nat} {x : Str} (hN : X.N[i]? = some x) (hv : Vis X.env.scope x) (hd : (x == ("__debug__" : Str)) = false := by decide) (hcd : (x == ("__classdict__" : Str)) = false := by decide) : PE X (.Name x pos) (tD cls W true (.var i)) :=
  (pe_var hN hv hd hcd).imp fun σ H Q ⟨G, U0, He, ρ, Qd, Xd, r, w, k, x⟩ => by
    simp only [wE] at w
    split at w
    · rename_i d e
      obtain ⟨v, h1, h2⟩ := r.imm _ _ e
      exact ⟨v, h1, k d v H (Ext.refl G H) h2 (Fre.no rfl) w⟩
    · exact w.elim
theorem te_peek {i : Nat} {x : Str} (hN : X.N[i]? = some x) (hv : Vis X.env.scope x) (hd : (x == ("__debug__" : Str)) = false := by decide) (hcd : (x == ("__classdict__" : Str)) = false := by decide) : PE X (.Name x pos) (tD cls W false (.peek i)) :=
  (pe_var hN hv hd hcd).imp fun σ H Q ⟨G, U0, He, ρ, Qd, Xd, r, w, k, x⟩ => by
    simp only [wE] at w
    split at w
    · rename_i d e
      obtain ⟨v, h1, h2⟩ := r.imm _ _ e
      exact ⟨v, h1, k d v H (Ext.refl G H) (Res.weak r.mvU h2 false) (Fre.no rfl) w⟩
    · rename_i d e
      obtain ⟨a, h1, h2, h3, h4⟩ := r.own _ _ e
      exact ⟨_, h1, k d _ H (Ext.refl G H) ⟨h4.p, fun _ c z m => by cases z; exact h2 (r.mv _ m)⟩ (Fre.no rfl) w⟩
    · exact w.elim

/-! ### operators -/
theorem te_bin {op : Operator} {o : BOp} (ho : OpR X (binaryOp op) (rB (binD o))) (ha : PE X a (tD cls W false m1)) (hb : PE X b (tD cls W false m2)) : PE X (.BinOp a op b pos) (tD cls W true (.bin o m1 m2)) :=
  (pe_op ho ha hb).imp fun σ H Q ⟨G, U0, He, ρ, Qd, Xd, r, w, k, x⟩ => by
    simp only [wE] at w
    refine tD_in r w (fun d1 v1 H1 e1 r1 p1 _ w1 => tD_in r1 w1 (fun d2 v2 H2 e2 r2 p2 _ w2 => ?_) fun j H2 e2 q => x j H2 (e1.trans e2) q) x
    cases q : binD o d1 d2 with
    | none => rw [q] at w2; exact w2.elim
    | some dz =>
      rw [q] at w2
      exact ⟨G, _, d1, d2, dz, fun p hp => r2.newU hp, (p1.step r1 e2).p, p2.p, q, fun v H3 sm rp fr => k dz v H3 ((e1.trans e2).trans (.same sm)) rp (fun _ bx => let ⟨a, h1, h2, h3⟩ := fr bx; ⟨a, h1, r.back (e1.trans e2) h2, h3⟩) w2⟩
theorem te_cmp {op : CmpOp} {o : COp} (ho : OpR X (compareOp op) (rC o)) (ha : PE X a (tD cls W false m1)) (hb : PE X b (tD cls W false m2)) (hm : behindInMarks op b = false := by with_unfolding_all rfl) : PE X (.Compare a [op] [b] pos) (tD cls W true (.cmp o m1 m2)) :=
  (pe_cmpR ho ha hb hm).imp fun σ H Q ⟨G, U0, He, ρ, Qd, Xd, r, w, k, x⟩ => by
    simp only [wE] at w
    refine tD_in r w (fun d1 v1 H1 e1 r1 p1 _ w1 => tD_in r1 w1 (fun d2 v2 H2 e2 r2 p2 _ w2 => ?_) fun j H2 e2 q => x j H2 (e1.trans e2) q) x
    cases q : cmpD o d1 d2 with
    | none => rw [q] at w2; exact w2.elim
    | some z =>
      rw [q] at w2
      exact ⟨G, _, d1, d2, z, (p1.step r1 e2).p, p2.p, q, k (.bl z) _ H2 (e1.trans e2) rfl (Fre.no rfl) w2⟩
theorem te_chain {op op' : CmpOp} {o o' : COp} (ho : OpR X (compareOp op) (rC o)) (ho' : OpR X (compareOp op') (rC o')) (ha : PE X a (tD cls W false m1)) (hb : PE X b (tD cls W false m2)) (hc : PE X c (tD cls W false m3))
    (hm : lastMarks [op, op'] [b, c] = false := by with_unfolding_all rfl) : PE X (.Compare a [op, op'] [b, c] pos) (tD cls W true (.chain o o' m1 m2 m3)) :=
  (pe_chain ho ho' ha hb hc hm).imp fun σ H Q ⟨G, U0, He, ρ, Qd, Xd, r, w, k, x⟩ => by
    simp only [wE] at w
    refine tD_in r w (fun d1 v1 H1 e1 r1 p1 _ w1 => tD_in r1 w1 (fun d2 v2 H2 e2 r2 p2 _ w2 => ?_) fun j H2 e2 q => x j H2 (e1.trans e2) q) x
    cases q : cmpD o d1 d2 with
    | none => rw [q] at w2; exact w2.elim
    | some z =>
      rw [q] at w2
      refine ⟨G, _, d1, d2, z, (p1.step r1 e2).p, p2.p, q, z, rfl, ?_⟩
      have w2 : if z = true then _ else _ := w2
      cases z with
      | false => exact k (.bl false) _ H2 (e1.trans e2) rfl (Fre.no rfl) w2
      | true =>
        refine tD_in r2 w2 (fun d3 v3 H3 e3 r3 p3 _ w3 => ?_) fun j H3 e3 q => x j H3 ((e1.trans e2).trans e3) q
        cases q' : cmpD o' d2 d3 with
        | none => rw [q'] at w3; exact w3.elim
        | some z =>
          rw [q'] at w3
          exact ⟨G, _, d2, d3, z, (p2.step r2 e3).p, p3.p, q', k (.bl z) _ H3 ((e1.trans e2).trans e3) rfl (Fre.no rfl) w3⟩
theorem tt_cmp {op : CmpOp} {o : COp} (ho : OpR X (compareOp op) (rC o)) (ha : PE X a (tD cls W false m1)) (hb : PE X b (tD cls W false m2)) (hm : behindInMarks op b = false := by with_unfolding_all rfl) : PT X (.Compare a [op] [b] pos) (tT cls W (.cmp o m1 m2)) :=
  (pt_cmpR ho ha hb hm).imp fun σ H Q ⟨G, U0, He, ρ, Qd, Xd, r, w, k, x⟩ => by
    simp only [wE] at w
    refine tD_in r w (fun d1 v1 H1 e1 r1 p1 _ w1 => tD_in r1 w1 (fun d2 v2 H2 e2 r2 p2 _ w2 => ?_) fun j H2 e2 q => x j H2 (e1.trans e2) q) x
    cases q : cmpD o d1 d2 with
    | none => rw [q] at w2; exact w2.elim
    | some z =>
      rw [q] at w2
      exact ⟨G, _, d1, d2, z, (p1.step r1 e2).p, p2.p, q, z, rfl, k z H2 (e1.trans e2) w2⟩
theorem tt_chain {op op' : CmpOp} {o o' : COp} (ho : OpR X (compareOp op) (rC o)) (ho' : OpR X (compareOp op') (rC o')) (ha : PE X a (tD cls W false m1)) (hb : PE X b (tD cls W false m2)) (hc : PE X c (tD cls W false m3))
    (hm : lastMarks [op, op'] [b, c] = false := by with_unfolding_all rfl) : PT X (.Compare a [op, op'] [b, c] pos) (tT cls W (.chain o o' m1 m2 m3)) :=
  (pt_chain ho ho' ha hb hc hm).imp fun σ H Q ⟨G, U0, He, ρ, Qd, Xd, r, w, k, x⟩ => by
    simp only [wE] at w
    refine tD_in r w (fun d1 v1 H1 e1 r1 p1 _ w1 => tD_in r1 w1 (fun d2 v2 H2 e2 r2 p2 _ w2 => ?_) fun j H2 e2 q => x j H2 (e1.trans e2) q) x
    cases q : cmpD o d1 d2 with
    | none => rw [q] at w2; exact w2.elim
    | some z =>
      rw [q] at w2
      refine ⟨G, _, d1, d2, z, (p1.step r1 e2).p, p2.p, q, z, rfl, ?_⟩
      have w2 : if z = true then _ else _ := w2
      cases z with
      | false => exact ⟨false, rfl, k false H2 (e1.trans e2) w2⟩
      | true =>
        refine tD_in r2 w2 (fun d3 v3 H3 e3 r3 p3 _ w3 => ?_) fun j H3 e3 q => x j H3 ((e1.trans e2).trans e3) q
        cases q' : cmpD o' d2 d3 with
        | none => rw [q'] at w3; exact w3.elim
        | some z =>
          rw [q'] at w3
          exact ⟨G, _, d2, d3, z, (p2.step r2 e3).p, p3.p, q', z, rfl, k z H3 ((e1.trans e2).trans e3) w3⟩
theorem tt_of {op : CmpOp} {t : TE} (h : PC X op a b t) (i : ∀ σ H Q, tT cls W m σ H Q → t σ H fun x H' => ∃ c, x = .bl c ∧ Q c H') (h1 : behindInMarks op b = false := by first | exact nobehind _ (by decide) (by decide) | rfl) : PT X (.Compare a [op] [b] pos) (tT cls W m) := (pt_cmp h h1).imp i
theorem isN_v {d : D} {v : V} {G : GI} {U : Addr → Prop} {H : Hp} (h : RpP G U H d v) : decide (v = .non) = (match d with | .non => true | _ => false) := by
  cases d <;> simp only [RpP, Rp] at h <;> first
    | (obtain ⟨a, _, e, _⟩ := h; subst e; rfl)
    | (obtain ⟨a, e, _⟩ := h; subst e; rfl)
    | (subst h; rfl)
theorem tt_isN {j p} (ha : PE X a (tD cls W false m1)) : PT X (.Compare a [.Is] [.Constant .none j p] pos) (tT cls W (.isn false m1)) :=
  tt_of (pc_isN ha) fun σ H Q ⟨G, U0, He, ρ, Qd, Xd, r, w, k, x⟩ => by
    simp only [wE] at w
    refine tD_in r w (fun d1 v1 H1 e1 r1 p1 _ w1 => ⟨decide (v1 = .non), rfl, ?_⟩) x
    refine k _ H1 e1 ?_
    rw [isN_v p1.p]
    cases d1 <;> exact w1
theorem tt_notN {j p} (ha : PE X a (tD cls W false m1)) : PT X (.Compare a [.IsNot] [.Constant .none j p] pos) (tT cls W (.isn true m1)) :=
  tt_of (pc_notN ha) fun σ H Q ⟨G, U0, He, ρ, Qd, Xd, r, w, k, x⟩ => by
    simp only [wE] at w
    refine tD_in r w (fun d1 v1 H1 e1 r1 p1 _ w1 => ⟨!decide (v1 = .non), rfl, ?_⟩) x
    refine k _ H1 e1 ?_
    rw [isN_v p1.p]
    cases d1 <;> exact w1
theorem te_isN {j p} (ha : PE X a (tD cls W false m1)) : PE X (.Compare a [.Is] [.Constant .none j p] pos) (tD cls W true (.isn false m1)) :=
  (pe_cmp (pc_isN ha)).imp fun σ H Q ⟨G, U0, He, ρ, Qd, Xd, r, w, k, x⟩ => by
    simp only [wE] at w
    refine tD_in r w (fun d1 v1 H1 e1 r1 p1 _ w1 => ?_) x
    refine k (.bl (decide (v1 = .non))) _ H1 e1 rfl (Fre.no rfl) ?_
    have := p1.p
    cases d1 <;> simp only [RpP, Rp] at this <;> first
      | (obtain ⟨a, _, e, _⟩ := this; subst e; exact w1)
      | (obtain ⟨a, e, _⟩ := this; subst e; exact w1)
      | (subst this; exact w1)
theorem te_notN {j p} (ha : PE X a (tD cls W false m1)) : PE X (.Compare a [.IsNot] [.Constant .none j p] pos) (tD cls W true (.isn true m1)) :=
  (pe_cmp (pc_notN ha)).imp fun σ H Q ⟨G, U0, He, ρ, Qd, Xd, r, w, k, x⟩ => by
    simp only [wE] at w
    refine tD_in r w (fun d1 v1 H1 e1 r1 p1 _ w1 => ?_) x
    refine k (.bl (!decide (v1 = .non))) _ H1 e1 rfl (Fre.no rfl) ?_
    have := p1.p
    cases d1 <;> simp only [RpP, Rp] at this <;> first
      | (obtain ⟨a, _, e, _⟩ := this; subst e; exact w1)
      | (obtain ⟨a, e, _⟩ := this; subst e; exact w1)
      | (subst this; exact w1)
theorem te_neg (ha : PE X a (tD cls W false m1)) : PE X (.UnaryOp .USub a pos) (tD cls W true (.neg m1)) :=
  (pe_un un_neg ha).imp fun σ H Q ⟨G, U0, He, ρ, Qd, Xd, r, w, k, x⟩ => by
    simp only [wE] at w
    refine tD_in r w (fun d1 v1 H1 e1 r1 p1 _ w1 => ?_) x
    cases d1 <;> first
      | exact (w1 : False).elim
      | exact ⟨_, p1.p, k (.int _) _ H1 e1 rfl (Fre.no rfl) w1⟩
/-! #### truth -/
theorem onB_bl {Q : Bool → Prop} {d : D} (h : onB Q d) : ∃ b, d = .bl b ∧ Q b := by
  cases d <;> first
    | exact (h : False).elim
    | exact ⟨_, rfl, h⟩
theorem te_not (ha : PE X a (tD cls W true m1)) : PE X (.UnaryOp .Not a pos) (tD cls W true (.not m1)) :=
  (pe_not ha).imp fun σ H Q ⟨G, U0, He, ρ, Qd, Xd, r, w, k, x⟩ => by
    simp only [wE] at w
    refine tD_in r w (fun d1 v1 H1 e1 r1 p1 _ w1 => ?_) x
    cases d1 <;> first
      | exact (w1 : False).elim
      | exact ⟨_, p1, k (.bl _) _ H1 e1 rfl (Fre.no rfl) w1⟩
theorem te_and {rest : List Expr} (ha : PE X a (tD cls W true m1)) (hb : PE X (.BoolOp .And (b :: rest) pos) (tD cls W true m2)) : PE X (.BoolOp .And (a :: b :: rest) pos) (tD cls W true (.and m1 m2)) :=
  (pe_and ha hb).imp fun σ H Q ⟨G, U0, He, ρ, Qd, Xd, r, w, k, x⟩ => by
    simp only [wE] at w
    refine tD_in r w (fun d1 v1 H1 e1 r1 p1 fz w1 => ?_) x
    clear fz
    obtain ⟨z, rfl, w1⟩ := onB_bl w1
    refine ⟨z, p1, ?_⟩
    cases z with
    | false => exact k (.bl false) _ H1 e1 rfl (Fre.no rfl) w1
    | true => exact tD_in (m := m2) r1 w1 (fun d2 v2 H2 e2 r2 p2 _ w2 => by
        cases d2 <;> first
          | exact (w2 : False).elim
          | exact k _ _ H2 (e1.trans e2) p2 (Fre.no rfl) w2) fun j H2 e2 q => x j H2 (e1.trans e2) q
theorem te_or {rest : List Expr} (ha : PE X a (tD cls W true m1)) (hb : PE X (.BoolOp .Or (b :: rest) pos) (tD cls W true m2)) : PE X (.BoolOp .Or (a :: b :: rest) pos) (tD cls W true (.or m1 m2)) :=
  (pe_or ha hb).imp fun σ H Q ⟨G, U0, He, ρ, Qd, Xd, r, w, k, x⟩ => by
    simp only [wE] at w
    refine tD_in r w (fun d1 v1 H1 e1 r1 p1 fz w1 => ?_) x
    clear fz
    obtain ⟨z, rfl, w1⟩ := onB_bl w1
    refine ⟨z, p1, ?_⟩
    cases z with
    | true => exact k (.bl true) _ H1 e1 rfl (Fre.no rfl) w1
    | false => exact tD_in (m := m2) r1 w1 (fun d2 v2 H2 e2 r2 p2 _ w2 => by
        cases d2 <;> first
          | exact (w2 : False).elim
          | exact k _ _ H2 (e1.trans e2) p2 (Fre.no rfl) w2) fun j H2 e2 q => x j H2 (e1.trans e2) q
theorem te_one {op} (h : PE X a (tD cls W esc m)) : PE X (.BoolOp op [a] pos) (tD cls W esc m) := pe_one h
theorem tt_not (ha : PT X a (tT cls W m1)) : PT X (.UnaryOp .Not a pos) (tT cls W (.not m1)) :=
  (pt_not ha).imp fun σ H Q ⟨G, U0, He, ρ, Qd, Xd, r, w, k, x⟩ => by
    simp only [wE] at w
    exact tT_in r w (fun b H1 e1 r1 w1 => k _ H1 e1 w1) x
theorem tw_one1 {op} (ha : PT X a (tT cls W m1)) (h : op = .And ∨ op = .Or) : PW X (.BoolOp op [a] pos) (tT cls W m1) := by
  rcases h with h | h <;> subst h
  · exact pw_and1 ha
  · exact pw_or1 ha
theorem onB_mono {Q Q' : Bool → Prop} (h : ∀ b, Q b → Q' b) : ∀ d, onB Q d → onB Q' d := fun d q => by
  cases d <;> first
    | exact (q : False).elim
    | exact h _ q
theorem tw_and {rest : List Expr} (ha : PT X a (tT cls W m1)) (hb : PW X (.BoolOp .And (b :: rest) pos) (tT cls W m2)) : PW X (.BoolOp .And (a :: b :: rest) pos) (tT cls W (.and m1 m2)) :=
  (pw_and ha hb).imp fun σ H Q ⟨G, U0, He, ρ, Qd, Xd, r, w, k, x⟩ => by
    simp only [wE] at w
    refine tT_in r w (fun z H1 e1 r1 w1 => ?_) x
    cases z with
    | false => exact k _ H1 e1 w1
    | true => exact tT_in (m := m2) r1 w1 (fun b H2 e2 r2 w2 => k _ H2 (e1.trans e2) w2) fun j H2 e2 q => x j H2 (e1.trans e2) q
theorem tw_or {rest : List Expr} (ha : PT X a (tT cls W m1)) (hb : PW X (.BoolOp .Or (b :: rest) pos) (tT cls W m2)) : PW X (.BoolOp .Or (a :: b :: rest) pos) (tT cls W (.or m1 m2)) :=
  (pw_or ha hb).imp fun σ H Q ⟨G, U0, He, ρ, Qd, Xd, r, w, k, x⟩ => by
    simp only [wE] at w
    refine tT_in r w (fun z H1 e1 r1 w1 => ?_) x
    cases z with
    | true => exact k _ H1 e1 w1
    | false => exact tT_in (m := m2) r1 w1 (fun b H2 e2 r2 w2 => k _ H2 (e1.trans e2) w2) fun j H2 e2 q => x j H2 (e1.trans e2) q
theorem te_ife (hc : PT X c (tT cls W m1)) (ha : PE X a (tD cls W esc m2)) (hb : PE X b (tD cls W esc m3)) : PE X (.IfExp c a b pos) (tD cls W esc (.ife m1 m2 m3)) :=
  (pe_ifExp hc ha hb).imp fun σ H Q ⟨G, U0, He, ρ, Qd, Xd, r, w, k, x⟩ => by
    simp only [wE] at w
    refine tT_in r w (fun z H1 e1 r1 w1 => ?_) x
    cases z with
    | true => exact tD_in (m := m2) r1 w1 (fun d v H2 e2 r2 p f w2 => k _ _ H2 (e1.trans e2) p (Fre.no rfl) w2) fun j H2 e2 q => x j H2 (e1.trans e2) q
    | false => exact tD_in (m := m3) r1 w1 (fun d v H2 e2 r2 p f w2 => k _ _ H2 (e1.trans e2) p (Fre.no rfl) w2) fun j H2 e2 q => x j H2 (e1.trans e2) q

/-! ### lists of expressions, displays -/
theorem tas_nil : PA X [] (tDs cls W []) := pa_nil.imp fun σ H Q ⟨G, U0, He, ρ, Qd, Xd, r, w, k, x⟩ => by
  simp only [wEs] at w
  exact k [] [] H (Ext.refl G H) rfl w
theorem tas_cons (ha : PE X e (tD cls W true m)) (hr : PA X es (tDs cls W ms)) (hs : starEach (e :: es) X.env = (false, eval e X.env) :: starEach es X.env := by rfl) : PA X (e :: es) (tDs cls W (m :: ms)) :=
  (pa_cons ha hr hs).imp fun σ H Q ⟨G, U0, He, ρ, Qd, Xd, r, w, k, x⟩ => by
    simp only [wEs] at w
    refine tD_in r w (fun d v H1 e1 r1 p _ w1 => tDs_in r1 w1 (fun ds vs H2 e2 r2 l w2 => k (d :: ds) _ H2 (e1.trans e2) ⟨_, _, rfl, p.step r1 e2, l⟩ w2) fun j H2 e2 q => x j H2 (e1.trans e2) q) x
theorem te_tup {n} (h : PA X es (tDs cls W ms)) : PE X (.Tuple es n pos) (tD cls W true (.tup ms)) :=
  (pe_tup h).imp fun σ H Q ⟨G, U0, He, ρ, Qd, Xd, r, w, k, x⟩ => by
    simp only [wE] at w
    refine tDs_in r w (fun ds vs H1 e1 r1 l ⟨hl, w1⟩ => ⟨by rw [l.len, sizeLine_eq]; exact hl, fun p hp => ?_⟩) x
    have sm := same_upd (o := .tup vs) hp
    exact k (.tup ds) _ _ (e1.trans (.same sm)) ⟨p, vs, rfl, .inl upd_same, RpL.keep (Same.kp sm) (fun _ z => .inl z) _ _ l⟩ (Fre.no rfl) w1
theorem te_lst (h : PA X es (tDs cls W ms)) : PE X (.List es pos) (tD cls W true (.lst ms)) :=
  (pe_lst h).imp fun σ H Q ⟨G, U0, He, ρ, Qd, Xd, r, w, k, x⟩ => by
    simp only [wE] at w
    refine tDs_in r w (fun ds vs H1 e1 r1 l ⟨hl, w1⟩ => ⟨by rw [l.len, sizeLine_eq]; exact hl, fun p hp => ?_⟩) x
    have o : Out G (Uo U0 ρ σ) H1 (.lst ds) fun v H2 => Q v H2 := fun v H2 sm rp fr => k (.lst ds) v H2 (e1.trans (.same sm)) rp (fun _ bx => let ⟨a, h1, h2, h3⟩ := fr bx; ⟨a, h1, r.back e1 h2, h3⟩) w1
    exact o.newL (fun p hp => r1.newU hp) l hp

/-! ### o[i], o[i:j] -/
theorem te_sub (hu : X.A.units + 1 < cLine) (ha : PE X a (tD cls W false m1)) (hb : PE X b (tD cls W false m2)) (hs : PlainIx b := by intro _ _; rfl) : PE X (.Subscript a b pos) (tD cls W true (.sub m1 m2)) :=
  (pe_ix (ixr_d hu) ha hb hs).imp fun σ H Q ⟨G, U0, He, ρ, Qd, Xd, r, w, k, x⟩ => by
    simp only [wE] at w
    refine tD_in r w (fun d1 v1 H1 e1 r1 p1 _ w1 => tD_in r1 w1 (fun d2 v2 H2 e2 r2 p2 _ w2 => ?_) fun j H2 e2 q => x j H2 (e1.trans e2) q) x
    cases q : subD d1 d2 with
    | none => rw [q] at w2; exact w2.elim
    | some dz =>
      rw [q] at w2
      exact ⟨G, _, d1, d2, dz, (p1.step r1 e2).p, p2.p, q, fun v rp => k dz v H2 (e1.trans e2) rp (Fre.no rfl) w2⟩
/-- a slice's part -/
def tO (cls : Nat → Addr) (W : WX) (m : ME) : TO := fun σ H Q => ∃ (G : GI) (U0 : Addr → Prop) (He : Hp) (ρ : DEnv) (Qd : Option Int → Prop) (Xd : Nat → Prop),
  RE G U0 He H σ ρ ∧ wE m ρ (onP m.isNop Qd) Xd ∧ (∀ o H', Ext G H H' → Qd o → Q o H') ∧ (∀ k H', Ext G H H' → Xd k → W (.ref (cls k)) none σ H')
theorem po_imp {e : Option Expr} {t t' : TO} (h : PO X e t) (i : ∀ σ H Q, t' σ H Q → t σ H Q) : PO X e t' := ⟨fun pins s σ H Q I q => h.run pins s σ H Q I (i _ _ _ q)⟩
theorem to_none : PO X none (tO cls W .nop) := po_imp po_none fun σ H Q ⟨G, U0, He, ρ, Qd, Xd, r, w, k, x⟩ => by
  simp only [wE] at w
  exact k none H (Ext.refl G H) w
theorem to_some (h : PE X e (tD cls W true m)) (hn : m.isNop = false := by rfl) : PO X (some e) (tO cls W m) := po_imp (po_some h) fun σ H Q ⟨G, U0, He, ρ, Qd, Xd, r, w, k, x⟩ => by
  refine tD_in r w (fun d v H' e r' p f q => ?_) x
  unfold onP at q
  rw [hn] at q
  simp only [Bool.false_eq_true, if_false] at q
  cases d <;> first
    | exact (q : False).elim
    | exact ⟨_, p, k _ H' e q⟩
theorem te_sl {lo hi : Option Expr} {p2 : Pos} (ha : PE X a (tD cls W false m1)) (hl : PO X lo (tO cls W m2)) (hh : PO X hi (tO cls W m3)) : PE X (.Subscript a (.Slice lo hi none p2) pos) (tD cls W true (.sl m1 m2 m3)) :=
  (pe_slice sl_d ha hl hh).imp fun σ H Q ⟨G, U0, He, ρ, Qd, Xd, r, w, k, x⟩ => by
    simp only [wE] at w
    refine tD_in r w (fun d1 v1 H1 e1 r1 p1 _ w1 => ?_) x
    refine ⟨G, U0, He, ρ, _, Xd, r1, w1, fun l H2 e2 w2 => ?_, fun j H2 e2 q => x j H2 (e1.trans e2) q⟩
    refine ⟨G, U0, He, ρ, _, Xd, r1.step e2, w2, fun h H3 e3 w3 => ?_, fun j H3 e3 q => x j H3 ((e1.trans e2).trans e3) q⟩
    have r3 := (r1.step e2).step e3
    cases q : slD d1 l h with
    | none => rw [q] at w3; exact w3.elim
    | some dz =>
      rw [q] at w3
      exact ⟨G, _, d1, dz, fun p hp => r3.newU hp, ((p1.step r1 e2).step (r1.step e2) e3).p, q, fun v H4 sm rp fr => k dz v H4 (((e1.trans e2).trans e3).trans (.same sm)) rp (Fre.no rfl) w3⟩
end
end DL

set_option Elab.async false
set_option linter.all false
set_option maxRecDepth 100000
set_option maxHeartbeats 4000000
/-! DL5: targets, statements, calls of defs. -/
namespace DL
open PySem PySem.Spec PyProof.Rows L2
variable [Tb]
section
variable {G : GI} {U U0 : Addr → Prop} {He H H' H1 : Hp} {σ : St} {ρ : DEnv} {d : D} {v : V} {esc : Bool}
theorem wipe_get : ∀ (vs : List Nat) (σ : St) (i : Nat), (wipe σ vs)[i]? = if i ∈ vs then (σ[i]?).map (fun _ => none) else σ[i]?
  | [], σ, i => by simp [wipe]
  | w :: vs, σ, i => by
    unfold wipe
    by_cases h : i = w
    · subst h
      rw [List.getElem?_set_self', wipe_get]
      simp only [List.mem_cons, true_or, if_true]
      split <;> cases σ[i]? <;> simp
    · rw [List.getElem?_set_ne (Ne.symm h), wipe_get]
      simp only [List.mem_cons, h, false_or]
theorem wipe_wipe (vs : List Nat) (σ : St) : wipe (wipe σ vs) vs = wipe σ vs := by
  apply List.ext_getElem?
  intro i
  rw [wipe_get, wipe_get]
  split
  · cases σ[i]? <;> simp
  · rfl
theorem wipe_set {vs : List Nat} {σ : St} {i : Nat} {u : Option V} (h : i ∈ vs) : wipe (σ.set i u) vs = wipe σ vs := by
  apply List.ext_getElem?
  intro j
  rw [wipe_get, wipe_get]
  split
  · by_cases e : i = j
    · subst e; rw [List.getElem?_set_self']; cases σ[i]? <;> simp
    · rw [List.getElem?_set_ne e]
  · rename_i n
    have e : i ≠ j := fun z => n (z ▸ h)
    rw [List.getElem?_set_ne e]
theorem Uo.setImm {i : Nat} {a : Addr} {w : Option V} (m : Uo U0 (ρ.set i (.imm d)) (σ.set i w) a) : Uo U0 ρ σ a := by
  rcases m with m | ⟨j, d', e1, e2⟩
  · exact .inl m
  · rcases get_set e1 with ⟨_, q⟩ | ⟨ne, q⟩
    · cases q
    · rw [List.getElem?_set_ne (Ne.symm ne)] at e2
      exact .inr ⟨j, d', q, e2⟩
theorem RE.newHe (r : RE G U0 He H σ ρ) {a : Addr} (h : H a = none) : He a = none := by
  cases q : He a with
  | none => rfl
  | some o =>
    by_cases m : G.mv a
    · obtain ⟨o', q'⟩ := r.trk a (r.mv a m)
      rw [h] at q'; cases q'
    · have := r.ext a o q m
      rw [h] at this; cases this
theorem RE.setFresh (r : RE G U0 He H σ ρ) (e : Ext G H H1) {a : Addr} (h0 : H a = none) (i : Nat) (h : OwnAt G (fun b => Uo U0 ρ σ b ∨ b = a) H1 a d) : RE G U0 He H1 (σ.set i (some (.ref a))) (ρ.set i (.own d)) := by
  have k := r.kp e
  have hs : ∀ b, (Uo U0 ρ σ b ∨ b = a) → Uo U0 ρ σ b ∨ H b = none := fun b z => z.elim .inl fun z => .inr (z ▸ h0)
  refine (r.step e).setOwn (fun m => r.newU h0 m) (r.newHe h0) (fun j d' hj w hw => ?_) (fun j d' b hj hw => ?_) h
  · obtain ⟨w', h1, h2⟩ := r.imm j d' hj
    rw [hw] at h1; cases h1
    exact Rp.keep k hs _ _ h2
  · obtain ⟨b', h1, n0, h3, h4⟩ := r.own j d' hj
    rw [hw] at h1; cases h1
    exact h4.step k hs fun o q => e.keep b o q fun m => n0 (r.mv _ m)
theorem RE.setSlot {m : ME} (r : RE G U0 He H σ ρ) (e : Ext G H H1) (i : Nat) (p : Rp G (Uo U0 ρ σ) H1 d v) (f : Fre m G (Uo U0 ρ σ) H H1 d v) : RE G U0 He H1 (σ.set i (some v)) (ρ.set i (slotOf m d)) := by
  unfold slotOf
  split
  · rename_i c
    rw [Bool.and_eq_true] at c
    obtain ⟨a, rfl, h0, h⟩ := f c.1 c.2
    exact r.setFresh e h0 i h
  · exact (r.step e).setImm p
/-- a new list or dict in hand, not yet stored -/
theorem RE.more (r : RE G U0 He H σ ρ) (e : Ext G H H1) {a : Addr} (h0 : H a = none) (h1 : ∃ o, H1 a = some o) : RE G (fun b => U0 b ∨ b = a) He H1 σ ρ := by
  have k := r.kp e
  have r1 := r.step e
  have hU : ∀ b, Uo (fun b => U0 b ∨ b = a) ρ σ b → Uo U0 ρ σ b ∨ b = a := fun b m => by
    rcases m with (m | m) | m
    · exact .inl (.inl m)
    · exact .inr m
    · exact .inl (.inr m)
  have hs : ∀ b, Uo (fun b => U0 b ∨ b = a) ρ σ b → Uo U0 ρ σ b ∨ H b = none := fun b m => (hU b m).elim .inl fun z => .inr (z ▸ h0)
  refine ⟨r.len, fun b m => .inl (r.mv b m), fun b m => m.elim (r1.trk b) fun z => z ▸ h1, r1.inv, r1.ext, fun j d' hj => ?_, fun j d' hj => ?_, r.sep⟩
  · obtain ⟨w, g1, g2⟩ := r.imm j d' hj
    exact ⟨w, g1, Rp.keep k hs _ _ g2⟩
  · obtain ⟨b, g1, n0, g3, g4⟩ := r.own j d' hj
    refine ⟨b, g1, fun m => m.elim n0 fun z => ?_, g3, g4.step k hs fun o q => e.keep b o q fun m => n0 (r.mv _ m)⟩
    subst z
    obtain ⟨o, q⟩ := g4.trk
    rw [h0] at q; cases q
end

/-! ### targets -/
/-- behind a store -/
structure GK (G : GI) (U0 : Addr → Prop) (He H : Hp) (ρ : DEnv) (σ : St) (sl : List Nat) (ρ' : DEnv) (σ' : St) : Prop where
  re : RE G U0 He H σ' ρ'
  uo : ∀ a, Uo U0 ρ' σ' a → Uo U0 ρ σ a
  ws : ∀ vs : List Nat, (∀ i ∈ sl, i ∈ vs) → wipe σ' vs = wipe σ vs
  no : ∀ i, notOwn ρ i = true → notOwn ρ' i = true
  ou : (∀ i ∈ sl, notOwn ρ i = true) → ∀ a, Uo U0 ρ σ a → Uo U0 ρ' σ' a
def gD (g : MG) : TG := fun v σ H Q => ∃ (G : GI) (U0 : Addr → Prop) (He : Hp) (ρ : DEnv) (d : D) (ρ' : DEnv), RE G U0 He H σ ρ ∧ Rp G (Uo U0 ρ σ) H d v ∧ asgG g d ρ = some ρ' ∧
  (∀ σ', GK G U0 He H ρ σ g.slots ρ' σ' → Q σ' H)
def gDs (gs : List MG) : TGs := fun vs σ H Q => ∃ (G : GI) (U0 : Addr → Prop) (He : Hp) (ρ : DEnv) (ds : List D) (ρ' : DEnv), RE G U0 He H σ ρ ∧ RpL G (Uo U0 ρ σ) H ds vs ∧ asgGs gs ds ρ = some ρ' ∧
  (∀ σ', GK G U0 He H ρ σ (MG.slotss gs) ρ' σ' → Q σ' H)
theorem asgGs_len : ∀ {gs : List MG} {ds : List D} {ρ ρ' : DEnv}, asgGs gs ds ρ = some ρ' → ds.length = gs.length
  | [], [], _, _, _ => rfl
  | [], _ :: _, _, _, h => by cases h
  | _ :: _, [], _, _, h => by cases h
  | g :: gs, d :: ds, _, _, h => by
    simp only [asgGs, Option.bind_eq_some_iff] at h
    obtain ⟨_, _, h⟩ := h
    simp [asgGs_len h]
theorem notOwn_set {ρ : DEnv} {i j : Nat} {d : D} (h : notOwn ρ j = true) : notOwn (ρ.set i (.imm d)) j = true := by
  unfold notOwn at h ⊢
  by_cases e : i = j
  · subst e
    rw [List.getElem?_set_self']
    cases q : ρ[i]? <;> simp
  · rw [List.getElem?_set_ne e]
    exact h
theorem Uo.setImm' {U0 : Addr → Prop} {ρ : DEnv} {σ : St} {d : D} {i : Nat} {a : Addr} {w : Option V} (h : notOwn ρ i = true) (m : Uo U0 ρ σ a) : Uo U0 (ρ.set i (.imm d)) (σ.set i w) a := by
  rcases m with m | ⟨j, d', e1, e2⟩
  · exact .inl m
  · have ne : j ≠ i := fun z => by subst z; simp [notOwn, e1] at h
    exact .inr ⟨j, d', by rw [List.getElem?_set_ne (Ne.symm ne)]; exact e1, by rw [List.getElem?_set_ne (Ne.symm ne)]; exact e2⟩
section
variable {X : Cx} {pos : Pos} {g : MG} {gs : List MG} {e : Expr} {es : List Expr}
theorem tg_nm {i : Nat} {x : Str} (hN : X.N.Nodup) (hi : X.N[i]? = some x) (hx : Loc X.env.scope x) (hf : X.fn x = true ∨ X.env.scope.names.lookup x = some .local := by first | exact .inl rfl | exact .inr rfl | assumption) : PG X (.Name x pos) (gD (.nm i)) :=
  (pg_name hN hi hx hf).imp fun v σ H Q ⟨G, U0, He, ρ, d, ρ', r, p, a, k⟩ => by
    cases a
    exact k _ ⟨r.setImm p, fun a m => m.setImm, fun vs h => wipe_set (h i (by simp [MG.slots])), fun _ h => notOwn_set h, fun h a m => m.setImm' (h i (by simp [MG.slots]))⟩
theorem tgs_nil : PGs X [] (gDs []) := pgs_nil.imp fun v σ H Q ⟨G, U0, He, ρ, d, ρ', r, p, a, k⟩ => by
  cases d with
  | nil => cases a; exact ⟨p, k σ ⟨r, fun _ m => m, fun _ _ => rfl, fun _ h => h, fun _ _ m => m⟩⟩
  | cons _ _ => cases a
theorem tgs_cons (h1 : PG X e (gD g)) (h2 : PGs X es (gDs gs)) (hs : (assignEach (e :: es) X.env).map (·.2) = assign e X.env :: (assignEach es X.env).map (·.2) := by rfl) : PGs X (e :: es) (gDs (g :: gs)) :=
  (pgs_cons h1 h2 hs).imp fun v σ H Q ⟨G, U0, He, ρ, d, ρ', r, p, a, k⟩ => by
    cases d with
    | nil => cases a
    | cons d ds =>
      obtain ⟨w, rs, rfl, p1, p2⟩ := p
      simp only [asgGs, Option.bind_eq_some_iff] at a
      obtain ⟨ρ1, a1, a2⟩ := a
      refine ⟨w, rs, rfl, G, U0, He, ρ, d, ρ1, r, p1, a1, fun σ1 k1 => ?_⟩
      refine ⟨G, U0, He, ρ1, ds, ρ', k1.re, p2.anti fun b m => .inl (k1.uo b m), a2, fun σ2 k2 => k σ2 ⟨k2.re, fun b m => k1.uo b (k2.uo b m), fun vs h => ?_, fun i h => k2.no i (k1.no i h), fun h b m => ?_⟩⟩
      · rw [k2.ws vs fun i hi => h i (by simp [MG.slotss, hi]), k1.ws vs fun i hi => h i (by simp [MG.slotss, hi])]
      · exact k2.ou (fun i hi => k1.no i (h i (by simp [MG.slotss, hi]))) b (k1.ou (fun i hi => h i (by simp [MG.slotss, hi])) b m)
theorem tg_tup {n m : Nat} (hc : X.calm = true) (h : PGs X es (gDs gs)) (hl : gs.length = n := by rfl)
    (hn : (assignEach es X.env).length = n := by rfl) (hst : (assignEach es X.env).findIdx? (·.1) = none := by rfl) : PG X (.Tuple es m pos) (gD (.tp gs)) :=
  (pg_tup hc h hn hst).imp fun v σ H Q ⟨G, U0, He, ρ, d, ρ', r, p, a, k⟩ => by
    cases d <;> first
      | cases a
      | skip
    rename_i ds
    obtain ⟨c, xs, rfl, rd, l⟩ := p
    have a : asgGs gs ds ρ = some ρ' := a
    refine ⟨c, xs, rfl, .inl rd, ?_, G, U0, He, ρ, ds, ρ', r, l, a, fun σ' k' => k σ' (by simpa only [MG.slots] using k')⟩
    rw [l.len, ← hl]
    exact asgGs_len a
end

/-- around a body nothing is let out -/
theorem takes0 {X : Cx} : L2N.Takes X (fun _ _ _ _ => False) := fun _ _ x => by
  obtain ⟨_, _, _, _, _, _, _, _, _, _, _, _, _, _, _, _, z⟩ := x
  exact z.elim
/-! ### statements -/
structure KS (cls : Nat → Addr) (W : WX) (G : GI) (U0 : Addr → Prop) (He : Hp) (N : DEnv → Prop) (R : D → Prop) (Xd : Nat → Prop) (E : Ends) : Prop where
  nx : ∀ ρ' σ' H', RE G U0 He H' σ' ρ' → N ρ' → E.nx σ' H'
  rt : ∀ d v ρ' σ' H', RE G U0 He H' σ' ρ' → Rp G (Uo U0 ρ' σ') H' d v → R d → E.rt v H'
  xc : ∀ k ρ' σ' H', RE G U0 He H' σ' ρ' → Xd k → W (.ref (cls k)) none σ' H'
def tS (cls : Nat → Addr) (W : WX) (m : MS) : TS := fun E σ H => ∃ (G : GI) (U0 : Addr → Prop) (He : Hp) (ρ : DEnv) (N : DEnv → Prop) (R : D → Prop) (Xd : Nat → Prop), RE G U0 He H σ ρ ∧ wS m ρ N R Xd ∧ KS cls W G U0 He N R Xd E
def tSs (cls : Nat → Addr) (W : WX) (ms : List MS) : TS := fun E σ H => ∃ (G : GI) (U0 : Addr → Prop) (He : Hp) (ρ : DEnv) (N : DEnv → Prop) (R : D → Prop) (Xd : Nat → Prop), RE G U0 He H σ ρ ∧ wSs ms ρ N R Xd ∧ KS cls W G U0 He N R Xd E
section
variable {X : Cx} {cls : Nat → Addr} {W : WX} {m m1 m2 m3 : ME} {ms : List ME} {e a b c : Expr} {es : List Expr} {pos : Pos} {G : GI} {U0 : Addr → Prop} {He H : Hp} {σ : St} {ρ : DEnv} {st : Stmt} {sts sts2 : List Stmt} {s s1 s2 : MS} {ss ss2 : List MS} {N : DEnv → Prop} {R : D → Prop} {Xd : Nat → Prop} {E : Ends} {fr : List Nat}
theorem tss_nil : PSs X [] (tSs cls W []) := pss_nil.imp fun E σ H ⟨G, U0, He, ρ, N, R, Xd, r, w, k⟩ => k.nx ρ σ H r (by simpa only [wSs] using w)
theorem tss_cons (h1 : PS X st (tS cls W s)) (h2 : PSs X sts (tSs cls W ss)) : PSs X (st :: sts) (tSs cls W (s :: ss)) :=
  (pss_cons h1 h2).imp fun E σ H ⟨G, U0, He, ρ, N, R, Xd, r, w, k⟩ => by
    simp only [wSs] at w
    exact ⟨G, U0, He, ρ, _, R, Xd, r, w, ⟨fun ρ' σ' H' r' w' => ⟨G, U0, He, ρ', N, R, Xd, r', w', k⟩, k.rt, k.xc⟩⟩
theorem tss_one (h : PS X st (tS cls W s)) : PSs X [st] (tSs cls W [s]) := tss_cons h tss_nil
/-- a docstring -/
theorem tss_doc {x j p p'} (h : PSs X sts (tSs cls W ss)) : PSs X (.Expr (.Constant (.str x) j p) p' :: sts) (tSs cls W ss) := (pss_cons ps_doc h).imp fun E σ H q => q
theorem KS.xe (k : KS cls W G U0 He N R Xd E) (r : RE G U0 He H σ ρ) : ∀ j H', Ext G H H' → Xd j → W (.ref (cls j)) none σ H' := fun j H' e q => k.xc j ρ σ H' (r.step e) q
theorem imp_set {i : Nat} {E : Ends} (q : tS cls W (.asg (.nm i) fr m) E σ H) : tAsg (tD cls W true m) (gName i) E σ H := by
  obtain ⟨G, U0, He, ρ, N, R, Xd, r, w, k⟩ := q
  simp only [wS] at w
  have r0 := r.frz fr
  refine tD_in r0 w (fun d v H1 e1 r1 p f w1 => k.nx _ _ _ (r0.setSlot e1 i p f) w1) (k.xe r0)
theorem ts_set {i : Nat} {x : Str} {pos' : Pos} (hN : X.N.Nodup) (hi : X.N[i]? = some x) (hx : Loc X.env.scope x) (he : PE X e (tD cls W true m)) (hs : swapsWith e (some (.Name x pos')) pos.line X.env = pure false := by rfl) (hf : X.fn x = true ∨ X.env.scope.names.lookup x = some .local := by first | exact .inl rfl | exact .inr rfl | assumption) :
    PS X (.Assign [.Name x pos'] e pos) (tS cls W (.asg (.nm i) fr m)) := (ps_set hN hi hx he hs hf).imp fun E σ H q => imp_set q
theorem ts_tup {tg : Expr} {gs : List MG} (he : PE X e (tD cls W true m)) (hg : PG X tg (gD (.tp gs))) (hs : swapsWithSole [tg] e pos.line X.env = pure false := by rfl) (hw : swappedStores [tg] e X.env = pure none := by rfl)
    (h1 : (assignEach [tg] X.env).map (·.2) = [assign tg X.env] := by rfl) : PS X (.Assign [tg] e pos) (tS cls W (.asg (.tp gs) fr m)) := (ps_asg he hg hs hw h1).imp fun E σ H ⟨G, U0, He, ρ, N, R, Xd, r, w, k⟩ => by
  simp only [wS] at w
  have r0 := r.frz fr
  refine tD_in r0 w (fun d v H1 e1 r1 p f w1 => ?_) (k.xe r0)
  cases q : asgG (.tp gs) d (DL.frz fr ρ) with
  | none => rw [q] at w1; exact w1.elim
  | some ρ' =>
    rw [q] at w1
    exact ⟨G, U0, He, _, d, ρ', r1, p, q, fun σ' k' => k.nx _ _ _ k'.re w1⟩
theorem imp_par {i j : Nat} {E : Ends} (z : tS cls W (.par i j fr m1 m2) E σ H) : tPar i j (tCons (tD cls W true m1) (tCons (tD cls W true m2) tNil)) E σ H := by
  obtain ⟨G, U0, He, ρ, N, R, Xd, r, w, k⟩ := z
  simp only [wS] at w
  have r0 := r.frz fr
  refine tD_in r0 w (fun d1 v1 H1 e1 r1 p1 f1 w1 => ?_) (k.xe r0)
  have s1 := r0.setSlot e1 i p1 f1
  by_cases c : (m1.fresh && d1.isBox) = true
  · have c' := c
    rw [Bool.and_eq_true] at c'
    obtain ⟨q, rfl, h0, h⟩ := f1 c'.1 c'.2
    have rm := r0.more e1 h0 h.trk
    have es : slotOf m1 d1 = .own d1 := by unfold slotOf; rw [if_pos c]
    have hU : ∀ z, Uo U0 ((DL.frz fr ρ).set i (slotOf m1 d1)) (σ.set i (some (.ref q))) z → Uo (fun b => U0 b ∨ b = q) (DL.frz fr ρ) σ z := fun z hz => by
      rw [es] at hz
      rcases hz with hz | ⟨n, d', g1, g2⟩
      · exact .inl (.inl hz)
      · rcases get_set g1 with ⟨en, _⟩ | ⟨ne, g1⟩
        · subst en
          rcases get_set g2 with ⟨_, g3⟩ | ⟨ne, _⟩
          · cases g3; exact .inl (.inr rfl)
          · exact absurd rfl ne
        · rw [List.getElem?_set_ne (Ne.symm ne)] at g2
          exact .inr ⟨n, d', g1, g2⟩
    refine tD_in rm w1 (fun d2 v2 H2 e2 r2 p2 f2 w2 => ⟨_, _, rfl, ?_⟩) fun j H2 e2 q => k.xe r0 j H2 (e1.trans e2) q
    refine k.nx _ _ _ (s1.setSlot e2 j (Rp.anti (fun z hz => .inl (hU z hz)) p2) fun x1 x2 => ?_) w2
    obtain ⟨q2, g1, g2, g3⟩ := f2 x1 x2
    exact ⟨q2, g1, g2, g3.step (Kp.refl _ _) (fun z hz => .inl (hz.elim (fun hz => .inl (hU z hz)) .inr)) fun _ z => z⟩
  · have es : slotOf m1 d1 = .imm d1 := by unfold slotOf; rw [if_neg c]
    refine tD_in r1 w1 (fun d2 v2 H2 e2 r2 p2 f2 w2 => ⟨_, _, rfl, ?_⟩) fun j H2 e2 q => k.xe r0 j H2 (e1.trans e2) q
    have hU : ∀ z, Uo U0 ((DL.frz fr ρ).set i (slotOf m1 d1)) (σ.set i (some v1)) z → Uo U0 (DL.frz fr ρ) σ z := fun z hz => by
      rw [es] at hz
      exact hz.setImm
    refine k.nx _ _ _ (s1.setSlot e2 j (Rp.anti (fun z hz => .inl (hU z hz)) p2) fun x1 x2 => ?_) w2
    obtain ⟨q2, g1, g2, g3⟩ := f2 x1 x2
    exact ⟨q2, g1, g2, g3.step (Kp.refl _ _) (fun z hz => .inl (hz.elim (fun hz => .inl (hU z hz)) .inr)) fun _ z => z⟩
theorem ts_par {i j : Nat} {x y : Str} {px py pt : Pos} {kt k2 pt2} (hc : X.calm = true) (hN : X.N.Nodup) (hi : X.N[i]? = some x) (hj : X.N[j]? = some y) (hij : i ≠ j)
    (hx : X.env.scope.names.lookup x = some .local) (hy : X.env.scope.names.lookup y = some .local) (ha : PE X a (tD cls W true m1)) (hb : PE X b (tD cls W true m2))
    (hw : swappedStores [.Tuple [.Name x px, .Name y py] kt pt] (.Tuple [a, b] k2 pt2) X.env = pure (some [x, y]))
    (hs : swapsWithSole [.Tuple [.Name x px, .Name y py] kt pt] (.Tuple [a, b] k2 pt2) pos.line X.env = pure false := by rfl)
    (hs1 : starEach [a, b] X.env = (false, eval a X.env) :: starEach [b] X.env := by rfl) (hs2 : starEach [b] X.env = (false, eval b X.env) :: starEach [] X.env := by rfl) :
    PS X (.Assign [.Tuple [.Name x px, .Name y py] kt pt] (.Tuple [a, b] k2 pt2) pos) (tS cls W (.par i j fr m1 m2)) :=
  (ps_par hc hN hi hj hij hx hy (pa_cons ha (pa_cons hb pa_nil hs2) hs1) hw hs).imp fun E σ H q => imp_par q
theorem ts_aug {i : Nat} {x : Str} {op : Operator} {o : BOp} {f : Int → Int → Int} {pos' : Pos} (hN : X.N.Nodup) (hi : X.N[i]? = some x) (hx : Loc X.env.scope x) (he : PE X e (tD cls W true m)) (ho : PIp X op (ipI f)) (hof : ∀ x y, binD o (.int x) (.int y) = some (.int (f x y)))
    (hf : X.fn x = true ∨ X.env.scope.names.lookup x = some .local := by first | exact .inl rfl | exact .inr rfl | assumption) : PS X (.AugAssign (.Name x pos') op e pos) (tS cls W (.aug i o fr m)) :=
  (ps_aug hN hi hx he ho hf).imp fun E σ H ⟨G, U0, He, ρ, N, R, Xd, r, w, k⟩ => by
    simp only [wS] at w
    have r0 := r.frz fr
    split at w
    · rename_i n hn
      obtain ⟨v, h1, h2⟩ := r0.imm _ _ hn
      refine ⟨v, h1, tD_in r0 w (fun d1 v1 H1 e1 r1 p1 fz w1 => ?_) (k.xe r0)⟩
      clear fz
      cases d1 with
      | int n1 =>
        simp only [hof] at w1
        exact ⟨n, n1, h2, p1, k.nx _ _ _ (r1.setImm (d := .int (f n n1)) rfl) w1⟩
      | _ => exact (w1 : False).elim
    · exact w.elim
theorem ts_ret (he : PE X e (tD cls W true m)) : PS X (.Return (some e) pos) (tS cls W (.ret fr m)) := (ps_ret he).imp fun E σ H ⟨G, U0, He, ρ, N, R, Xd, r, w, k⟩ => by
  simp only [wS] at w
  exact tD_in (r.frz fr) w (fun d1 v1 H1 e1 r1 p1 _ w1 => k.rt _ _ _ _ _ r1 p1 w1) (k.xe (r.frz fr))
theorem ts_expr (he : PE X e (tD cls W true m)) (hs : swapsWith e none pos.line X.env = pure false := by rfl) : PS X (.Expr e pos) (tS cls W (.expr fr m)) := (ps_expr he hs).imp fun E σ H ⟨G, U0, He, ρ, N, R, Xd, r, w, k⟩ => by
  simp only [wS] at w
  exact tD_in (r.frz fr) w (fun d1 v1 H1 e1 r1 p1 _ w1 => k.nx _ _ _ r1 w1) (k.xe (r.frz fr))
theorem ts_if (hc : PT X c (tT cls W m)) (ha : PSs X sts (tSs cls W ss)) (hb : PSs X sts2 (tSs cls W ss2)) : PS X (.If c sts sts2 pos) (tS cls W (.ifs m ss ss2)) := (ps_if hc ha hb).imp fun E σ H ⟨G, U0, He, ρ, N, R, Xd, r, w, k⟩ => by
  simp only [wS] at w
  refine tT_in r w (fun z H1 e1 r1 w1 => ?_) (k.xe r)
  cases z with
  | true => exact ⟨G, U0, He, ρ, N, R, Xd, r1, w1, k⟩
  | false => exact ⟨G, U0, He, ρ, N, R, Xd, r1, w1, k⟩
theorem wWhl_step {cc : DEnv → (Bool → Prop) → Prop} {bb : DEnv → (DEnv → Prop) → Prop} {K : DEnv → Prop} {ρ : DEnv} : ∀ {n : Nat}, wWhl cc bb n ρ K → ∃ n', n = n' + 1 ∧ cc ρ fun t => if t = true then bb ρ fun ρ' => wWhl cc bb n' ρ' K else K ρ
  | 0, h => h.elim
  | n + 1, h => ⟨n, rfl, h⟩
theorem ts_while (hp : PassesOwn (model X.prog X.w) X.A X.env X.xe) (hc : PT X c (tT cls W m)) (hb : PSs X sts (tSs cls W ss)) : PS X (.While c sts [] pos) (tS cls W (.whl m ss)) := (ps_while hp hc hb).imp fun E σ H ⟨G, U0, He, ρ, N, R, Xd, r, w, k⟩ => by
  simp only [wS] at w
  obtain ⟨n, w⟩ := w
  refine ⟨fun j σ H => ∃ ρ, RE G U0 He H σ ρ ∧ wWhl (fun ρ' K => wE m ρ' (onB K) Xd) (fun ρ' K => wSs ss ρ' K R Xd) j ρ N, ⟨n, ρ, r, w⟩, fun j σ H ⟨ρ, r, w⟩ => ?_⟩
  obtain ⟨j', rfl, w⟩ := wWhl_step w
  refine tT_in r w (fun z H1 e1 r1 w1 => ?_) (k.xe r)
  cases z with
  | false => exact k.nx _ _ _ r1 w1
  | true =>
    refine ⟨fun σ' H' => ∃ ρ', RE G U0 He H' σ' ρ' ∧ wWhl (fun ρ' K => wE m ρ' (onB K) Xd) (fun ρ' K => wSs ss ρ' K R Xd) j' ρ' N, fun σ' H' h => ⟨j', Nat.lt_succ_self _, h⟩, ?_⟩
    exact ⟨G, U0, He, ρ, _, R, Xd, r1, w1, ⟨fun ρ' σ' H' r' w' => ⟨ρ', r', w'⟩, k.rt, k.xc⟩⟩
theorem ts_raise {C : Str} {msg : Str} {j kx : Nat} {p p2 pos2 : Pos} {bmB : List Value} {B newId initId : String} (hc : X.calm = true) (tk : L2N.Takes X W) (F : ExcBaseFacts B newId initId bmB) (q : PySem.W.excIn X.K (cls kx) bmB newId = true) (gC : X.mg C = some (.ref (cls kx))) (kC : PySem.W.keepIn X.K (.ref (cls kx)) = true) (rs : Raises X (.ref (cls kx))) (hg : Gl X C)
    (hdb : (C == ("__debug__" : Str)) = false := by decide) : PS X (.Raise (some (.Call (.Name C p) [.Constant (.str msg) j p2] [] pos)) none pos2) (tS cls W (.raise kx)) :=
  (L2N.ps_raise hc tk (L2N.pmk_own F q gC kC rs hg hdb)).imp fun E σ H ⟨G, U0, He, ρ, N, R, Xd, r, w, k⟩ => by
    simp only [wS] at w
    exact k.xc kx ρ σ H r w

/-! ### a list's append -/
theorem ts_app {i : Nat} {x : Str} {p apos cpos : Pos} (hN : X.N[i]? = some x) (hv : Vis X.env.scope x) (he : PE X e (tD cls W true m))
    (hd : (x == ("__debug__" : Str)) = false := by decide) (hcd : (x == ("__classdict__" : Str)) = false := by decide)
    (hbase : attributeBase (.Name x p) "append" X.env (eval (.Name x p) X.env) = eval (.Name x p) X.env := by rfl)
    (hfew : ((backTo cpos (starEach [e] X.env)).all (fun x => !x.1) && (backToKw cpos (keywordEach [] X.env)).all (fun x => x.1.isSome)
      && decide ([e].length + ([] : List Keyword).length + (if ([] : List Keyword).isEmpty then 0 else 1) < 30)) = true := by rfl)
    (hline : (apos.endLine == cpos.line) = true := by rfl) (hs : starEach [e] X.env = (false, eval e X.env) :: starEach [] X.env := by rfl)
    (hsw : swapsWith (.Call (.Attribute (.Name x p) "append" apos) [e] [] cpos) none pos.line X.env = pure false := by rfl) :
    PS X (.Expr (.Call (.Attribute (.Name x p) "append" apos) [e] [] cpos) pos) (tS cls W (.app i fr m)) :=
  (ps_expr (pe_bm PySem.F.plainAttrs_list PySem.F.slot_list_append PySem.F.type_list_append mt_append (pe_var hN hv hd hcd) (pa_cons he pa_nil hs) hbase hfew hline hs rfl) hsw).imp fun E σ H ⟨G, U0, He, ρ, N, R, Xd, r, w, k⟩ => by
    simp only [wS] at w
    have r0 := r.frz fr
    split at w
    · rename_i ds hn
      obtain ⟨a, h1, n0, h3, xs, hx, lx⟩ := r0.own _ _ hn
      refine ⟨_, h1, .inl ⟨rfl, _, SqL.of hx⟩, tD_in r0 w (fun d1 v1 H1 e1 r1 p1 _ w1 => ?_) (k.xe r0)⟩
      have hx1 := e1.keep a _ hx fun mm => n0 (r0.mv _ mm)
      have lx1 := RpL.keep (r0.kp e1) (fun _ z => .inl z) _ _ lx
      refine ⟨a, xs, v1, rfl, rfl, hx1, by rw [lx.len, sizeLine_eq]; exact w1.1, ?_⟩
      refine k.nx _ _ _ (r1.write (d' := .lst (ds ++ [d1])) hn h1 (.inl ⟨xs, hx1⟩) ⟨xs ++ [v1], upd_same, ?_⟩) w1.2
      have ha : Uo U0 (DL.frz fr ρ) σ a := .inr ⟨i, _, hn, h1⟩
      have kp : Kp (Uo U0 (DL.frz fr ρ) σ) H1 (upd H1 a (.lst (xs ++ [v1]))) := .of (fun b u e n => by rw [upd_ne (fun z => n (by rw [z]; exact ha))]; exact e) (fun b ys e => by
        have ne : b ≠ a := fun z => by
          subst z
          rcases e with e | ⟨u, e⟩ <;> (rw [hx1] at e; cases e)
        rcases e with e | ⟨u, e⟩
        · exact .inl (by rw [upd_ne ne]; exact e)
        · exact .inr ⟨u, by rw [upd_ne ne]; exact e⟩)
      exact RpL.keep kp (fun _ z => .inl z) _ _ (lx1.append ⟨v1, [], rfl, p1, rfl⟩)
    · exact w.elim

/-! ### calls of defs -/
def spD (cls : Nat → Addr) (S : FS) : Sp := fun vs H Q E => ∃ (G : GI) (U0 : Addr → Prop) (ds : List D) (Qd : D → Prop) (Xd : Nat → Prop), (∀ a, G.mv a → U0 a) ∧ (∀ a, U0 a → ∃ o, H a = some o) ∧ GInv G H ∧ RpL G U0 H ds vs ∧ S ds Qd Xd ∧
  (∀ d v H', Ext G H H' → Rp G U0 H' d v → Qd d → Q v H') ∧ (∀ k H', Ext G H H' → Xd k → E (.ref (cls k)) none H')
theorem te_call {S : FS} {CXa : CXT} {kk : Nat} {f : Addr} {fd : FuncData} {ps : List Str} {x : Str} {p : Pos} (F : FnOk X.prog X.w X.K X.mg X.base (L2N.CX X.prog X.w) kk f fd ps (spD cls S)) (hr : Room kk X.A) (hg : Gl X x) (hm : X.mg x = some (.ref f)) (hk : PySem.W.keepIn X.K (.ref f) = true) (hb : Binds X.K fd ps []) (tk : L2N.Takes X W)
    (ha : PA X (e :: es) (tDs cls W ms)) (hdb : (x == ("__debug__" : Str)) = false := by decide) (he : starEach (e :: es) X.env = (false, eval e X.env) :: starEach es X.env := by rfl) (hpl : (backTo pos (starEach es X.env)).any (·.1) = false := by rfl) :
    PE X (.Call (.Name x p) (e :: es) [] pos) (tD cls W true (.call S ms)) :=
  (pe_callS F hr hg hm hk hb (fun σ => L2N.passAt tk σ) ha hdb he hpl).imp fun σ H Q ⟨G, U0, He, ρ, Qd, Xd, r, w, k, x⟩ => by
    simp only [wE] at w
    refine tDs_in r w (fun ds vs H1 e1 r1 l w1 => ?_) x
    exact ⟨G, Uo U0 ρ σ, ds, Qd, Xd, r1.mvU, fun a m => r1.trkU m, r1.inv, l, w1, fun d v H2 e2 p2 q => k d v H2 (e1.trans e2) p2 (Fre.no rfl) q, fun j H2 e2 q => x j H2 (e1.trans e2) q⟩
end
theorem RE.start {G : GI} {U0 : Addr → Prop} {H : Hp} {ds : List D} {vs : List V} {N : List Str} (hm : ∀ a, G.mv a → U0 a) (ht : ∀ a, U0 a → ∃ o, H a = some o) (hi : GInv G H) (l : RpL G U0 H ds vs) (hn : ds.length ≤ N.length) : RE G U0 H H (L2.start N vs) (envD N.length ds) := by
  have el := l.len
  have nown : ∀ (i : Nat) (d : D), (envD N.length ds)[i]? ≠ some (.own d) := fun i d e => by
    unfold envD at e
    rw [List.getElem?_append] at e
    split at e
    · rw [List.getElem?_map] at e
      cases q : ds[i]? <;> (rw [q] at e; cases e)
    · rw [List.getElem?_replicate] at e
      split at e <;> cases e
  refine ⟨?_, hm, ht, hi, fun _ _ e _ => e, fun i d e => ?_, fun i d e => (nown i d e).elim, fun i j a d d' e => (nown i d e).elim⟩
  · unfold L2.start envD
    simp [el]
  · unfold envD at e
    rw [List.getElem?_append] at e
    split at e
    · rename_i hlt
      rw [List.getElem?_map] at e
      cases q : ds[i]? with
      | none => rw [q] at e; cases e
      | some d' =>
        rw [q] at e; cases e
        obtain ⟨v, h1, h2⟩ := l.get q
        refine ⟨v, ?_, h2.anti fun a m => ?_⟩
        · unfold L2.start
          rw [List.getElem?_append_left (by simp [el]; simpa using hlt), List.getElem?_map, h1]; rfl
        · rcases m with m | ⟨j, d', e1, _⟩
          · exact .inl m
          · exact (nown j d' e1).elim
    · rw [List.getElem?_replicate] at e
      split at e <;> cases e
section
variable {P : Program} {w : World} {K : PySem.W.Frag} {mg : Str → Option Value} {base : Heap} {cls : Nat → Addr}
/-- what a def's body may lean on -/
structure Body (P : Program) (w : World) (K : PySem.W.Frag) (mg : Str → Option Value) (base : Heap) (cls : Nat → Addr) (k : Nat) (X : Cx) (W : WX) : Prop where
  calm : X.calm = true
  room : Room k X.A
  takes : L2N.Takes X W
  pass : PassesOwn (model X.prog X.w) X.A X.env X.xe
/-- a def over data, by its body -/
theorem fnD {S : FS} {ms : List MS} {x qual : Str} {st : Stmt} {f : Addr} {fd : FuncData} {N ps : List Str} {k : Nat} (F : Fun K x qual st f fd) (Sc : FnScope N ps (defScope st)) (hn : ps.length ≤ N.length) (hlen : ∀ ds Q X, S ds Q X → ds.length = ps.length)
    (hbody : ∀ (cdv : Value) (A : Around) (outer : List Env) (s : Shared) (H : Hp) (E : XK), Body P w K mg base cls k (cxOf (L2N.CX P w) P w K mg base N qual (defScope st) f cdv A outer s H E) (fun c d _ H => E c d H) →
      PSs (cxOf (L2N.CX P w) P w K mg base N qual (defScope st) f cdv A outer s H E) (defBody st) (tSs cls (fun c d _ H => E c d H) ms))
    (obl : ∀ ds Q Xd, S ds Q Xd → wSs ms (envD N.length ds) (fun _ => Q .non) Q Xd) : FnOk P w K mg base (L2N.CX P w) (k + 1) f fd ps (spD cls S) := by
  obtain ⟨oc, od, kV, doc, pm, an, cdv, ct, osl, rfl, lk, hcd⟩ := F.ex
  refine fn_of lk hcd Sc (fun vs H Q E h => ?_) fun A outer s H vs Q E hr h => ?_
  · obtain ⟨G, U0, ds, Qd, Xd, _, _, _, l, w, _⟩ := h
    rw [l.len]
    exact hlen _ _ _ w
  · obtain ⟨G, U0, ds, Qd, Xd, hm, ht, hi, l, w, k1, k2⟩ := h
    refine ⟨_, hbody cdv A outer s H E ⟨rfl, hr, L2N.takes_of rfl rfl rfl rfl, passes_of rfl⟩, ?_⟩
    refine ⟨G, U0, H, _, _, Qd, Xd, RE.start hm ht hi l (by rw [hlen _ _ _ w]; exact hn), obl _ _ _ w, ⟨fun ρ' σ' H' r q => ?_, fun d v ρ' σ' H' r p q => ?_, fun j ρ' σ' H' r q => ?_⟩⟩
    · exact k1 .non .non H' ⟨r.ext, fun _ => r.inv⟩ rfl q
    · exact k1 d v H' ⟨r.ext, fun _ => r.inv⟩ (p.anti fun a m => .inl (.inl m)) q
    · exact k2 j H' ⟨r.ext, fun _ => r.inv⟩ q
end
end DL

set_option Elab.async false
set_option linter.all false
set_option maxRecDepth 100000
set_option maxHeartbeats 4000000
/-! DL6: what is walked; for; list comprehensions. -/
namespace DL
open PySem PySem.Spec PyProof.Rows L2
variable [Tb]
open Classical in
theorem RE.rebase {G : GI} {U0 : Addr → Prop} {He H : Hp} {σ : St} {ρ : DEnv} (r : RE G U0 He H σ ρ) : ∃ Hb : Hp, RE G U0 Hb H σ ρ ∧ (∀ d v, Rp G (Uo U0 ρ σ) H d v → Rp G U0 Hb d v) ∧
    (∀ H' σ' ρ', RE G U0 Hb H' σ' ρ' → RE G U0 He H' σ' ρ') ∧ ∀ a o, Hb a = some o → H a = some o := by
  let O : Addr → Prop := fun a => ∃ (i : Nat) (d : D), ρ[i]? = some (.own d) ∧ σ[i]? = some (some (.ref a))
  have bx : ∀ a, O a → (∃ xs, H a = some (.lst xs)) ∨ ∃ kvs, H a = some (.dK kvs) := fun a ⟨i, d, h1, h2⟩ => by
    obtain ⟨b, g1, n0, _, g4⟩ := r.own i d h1
    rw [h2] at g1; cases g1
    cases d with
    | lst ds => obtain ⟨xs, q, _⟩ := g4; exact .inl ⟨_, q⟩
    | dic ks vs => obtain ⟨xs, q, _⟩ := g4; exact .inr ⟨_, q⟩
    | _ => exact g4.elim
  have nu : ∀ a, O a → ¬ U0 a := fun a ⟨i, d, h1, h2⟩ => by
    obtain ⟨b, g1, n0, _, g4⟩ := r.own i d h1
    rw [h2] at g1; cases g1
    exact n0
  have he : ∀ a, O a → He a = none := fun a ⟨i, d, h1, h2⟩ => by
    obtain ⟨b, g1, n0, g3, g4⟩ := r.own i d h1
    rw [h2] at g1; cases g1
    exact g3
  let Hb : Hp := fun a => if O a then none else H a
  have hb : ∀ a, ¬ O a → Hb a = H a := fun a n => if_neg n
  have hb' : ∀ a o, Hb a = some o → ¬ O a ∧ H a = some o := fun a o e => by
    by_cases z : O a
    · have q : Hb a = none := if_pos z
      rw [q] at e; cases e
    · exact ⟨z, (hb a z).symm.trans e⟩
  refine ⟨Hb, ⟨r.len, r.mv, r.trk, r.inv, fun a o e _ => (hb' a o e).2, r.imm, fun i d h => ?_, r.sep⟩, fun d v h => ?_, fun H' σ' ρ' r' => ?_, fun a o e => (hb' a o e).2⟩
  · obtain ⟨a, g1, g2, g3, g4⟩ := r.own i d h
    exact ⟨a, g1, g2, if_pos ⟨i, d, h, g1⟩, g4⟩
  · refine Rp.keep (U := Uo U0 ρ σ) (H := H) (.of (fun a o e n => ?_) fun a xs e => ?_) (fun a m => .inl (.inl m)) d v h
    · rw [hb a fun z => n (.inr z)]; exact e
    · have no : ¬ O a := fun z => by
        rcases bx a z with ⟨ys, q⟩ | ⟨ys, q⟩ <;> rcases e with e | ⟨u, e⟩ <;> (rw [q] at e; cases e)
      rcases e with e | ⟨u, e⟩
      · exact .inl ((hb a no).trans e)
      · exact .inr ⟨u, (hb a no).trans e⟩
  · refine ⟨r'.len, r'.mv, r'.trk, r'.inv, fun a o e n => ?_, r'.imm, fun i d h => ?_, r'.sep⟩
    · have no : ¬ O a := fun z => by rw [he a z] at e; cases e
      exact r'.ext a o ((hb a no).trans (r.ext a o e n)) n
    · obtain ⟨a, g1, g2, g3, g4⟩ := r'.own i d h
      refine ⟨a, g1, g2, ?_, g4⟩
      cases q : He a with
      | none => rfl
      | some o =>
        have no : ¬ O a := fun z => by rw [he a z] at q; cases q
        have := r.ext a o q fun m => g2 (r'.mv a m)
        rw [(hb a no).symm.trans g3.symm.symm] at this
        cases this
structure LE (G : GI) (Hb H : Hp) : Prop where
  keep : ∀ a o, Hb a = some o → ¬ G.mv a → H a = some o
  tup : ∀ a xs, Rd Hb a (.tup xs) → Rd H a (.tup xs)
/-- an iterator yields data -/
structure IsIt (G : GI) (U0 : Addr → Prop) (Hb : Hp) (J : It) (xs : List D) : Prop where
  at_ : ∀ H, LE G Hb H → ∀ i x, xs[i]? = some x → J.go i H ∧ ∀ v H', J.yld i H v H' → Same H H' ∧ ∀ U : Addr → Prop, (∀ a, U a → U0 a ∨ Hb a = none) → Rp G U H' x v
  stop : ∀ H, LE G Hb H → J.stop xs.length H
theorem RE.le {G : GI} {U0 : Addr → Prop} {Hb H0 H : Hp} {σ σ0 : St} {ρ ρ0 : DEnv} (r0 : RE G U0 Hb H0 σ0 ρ0) (hs : ∀ a o, Hb a = some o → H0 a = some o) (r : RE G U0 Hb H σ ρ) : LE G Hb H :=
  ⟨r.ext, fun a xs e => by
    have n : ¬ G.mv a := r0.inv.tup (xs := xs) (e.elim (fun e => .inl (hs _ _ e)) fun ⟨u, e⟩ => .inr ⟨u, hs _ _ e⟩)
    rcases e with e | ⟨u, e⟩
    · exact .inl (r.ext _ _ e n)
    · exact .inr ⟨u, r.ext _ _ e n⟩⟩
theorem RE.uo {G : GI} {U0 : Addr → Prop} {Hb H : Hp} {σ : St} {ρ : DEnv} (r : RE G U0 Hb H σ ρ) : ∀ a, Uo U0 ρ σ a → U0 a ∨ Hb a = none := fun a m => by
  rcases m with m | ⟨i, d, e1, e2⟩
  · exact .inl m
  · obtain ⟨b, g1, _, g3, _⟩ := r.own i d e1
    rw [e2] at g1; cases g1
    exact .inr g3
theorem LE.rp {G : GI} {U0 U : Addr → Prop} {Hb H : Hp} (hm : ∀ a, G.mv a → U0 a) (l : LE G Hb H) (hU : ∀ a, U a → U0 a ∨ Hb a = none) {d : D} {v : V} (h : Rp G U0 Hb d v) : Rp G U H d v :=
  Rp.keep ⟨fun a xs e n => l.keep a _ e fun m => n (hm a m), fun a kvs e n => e.elim (fun e => .inl (l.keep a _ e fun m => n (hm a m))) fun ⟨u, e⟩ => .inr ⟨u, l.keep a _ e fun m => n (hm a m)⟩, l.tup⟩ hU d v h

/-- what is wished of a source -/
def iD (cls : Nat → Addr) (W : WX) (m : ME) : TI := fun σ H R => ∃ (G : GI) (U0 : Addr → Prop) (He : Hp) (ρ : DEnv) (Qd : List D → Prop) (Xd : Nat → Prop), RE G U0 He H σ ρ ∧ wE m ρ (onIt Qd) Xd ∧
  (∀ xs J H' Hb, Ext G H H' → RE G U0 Hb H' σ ρ → (∀ H'' σ' ρ', RE G U0 Hb H'' σ' ρ' → RE G U0 He H'' σ' ρ') → (∀ a o, Hb a = some o → H' a = some o) → IsIt G U0 Hb J xs → Qd xs → R J H') ∧
  (∀ k H', Ext G H H' → Xd k → W (.ref (cls k)) none σ H')
theorem onS_some {α : Type} {o : Option α} {Q : α → Prop} (h : onS o Q) : ∃ a, o = some a ∧ Q a := by
  cases o with
  | none => exact (h : False).elim
  | some a => exact ⟨a, rfl, h⟩
theorem IsIt.list {K : PySem.W.Frag} {G : GI} {U0 : Addr → Prop} {Hb : Hp} {a : Addr} {xs : List V} {ds : List D} (hm : ∀ a, G.mv a → U0 a) (e : Hb a = some (.lst xs)) (n : ¬ G.mv a) (l : RpL G U0 Hb ds xs) : IsIt G U0 Hb (Itl K a) ds :=
  ⟨fun H le i x hx => by
    have eH := le.keep a _ e n
    obtain ⟨v, hv, rv⟩ := l.get hx
    exact ⟨⟨xs, v, SqL.of eH, hv⟩, fun w H' ⟨eq, hw⟩ => by
      subst eq
      have := hw xs (SqL.of eH)
      rw [hv] at this; cases this
      exact ⟨Same.refl _, fun U hU => le.rp hm hU rv⟩⟩,
   fun H le => ⟨xs, SqL.of (le.keep a _ e n), Nat.le_of_eq l.len⟩⟩
theorem IsIt.tup {K : PySem.W.Frag} {G : GI} {U0 : Addr → Prop} {Hb : Hp} {a : Addr} {xs : List V} {ds : List D} (hm : ∀ a, G.mv a → U0 a) (e : Rd Hb a (.tup xs)) (l : RpL G U0 Hb ds xs) : IsIt G U0 Hb (Itt K a) ds :=
  ⟨fun H le i x hx => by
    have eH := le.tup a _ e
    obtain ⟨v, hv, rv⟩ := l.get hx
    exact ⟨⟨xs, v, .inl eH, hv⟩, fun w H' ⟨eq, hw⟩ => by
      subst eq
      have := hw xs (.inl eH)
      rw [hv] at this; cases this
      exact ⟨Same.refl _, fun U hU => le.rp hm hU rv⟩⟩,
   fun H le => ⟨xs, .inl (le.tup a _ e), Nat.le_of_eq l.len⟩⟩
theorem chars_get {s : List Nat} {i : Nat} {x : D} (h : (chars s)[i]? = some x) : ∃ c, s[i]? = some c ∧ x = .str [c] := by
  unfold chars at h
  rw [List.getElem?_map] at h
  cases q : s[i]? with
  | none => rw [q] at h; cases h
  | some c => rw [q] at h; cases h; exact ⟨c, rfl, rfl⟩
theorem IsIt.str {G : GI} {U0 : Addr → Prop} {Hb : Hp} (s : List Nat) : IsIt G U0 Hb (Its (mkS s)) (chars s) :=
  ⟨fun H le i x hx => by
    obtain ⟨c, hc, rfl⟩ := chars_get hx
    have hi := lt_of_get hc
    refine ⟨by show i < s.toArray.size; simpa using hi, fun w H' ⟨eq, c', hc', ew⟩ => ?_⟩
    subst eq ew
    have hc2 : s[i]? = some c' := by simpa [mkS] using hc'
    rw [hc] at hc2; cases hc2
    exact ⟨Same.refl _, fun U hU => rfl⟩,
   fun H le => by show s.toArray.size ≤ _; simp [chars]⟩
theorem rng_get {lo : Int} {n i : Nat} {x : D} (h : (rngD lo n)[i]? = some x) : i < n ∧ x = .int (lo + i) := by
  unfold rngD at h
  rw [List.getElem?_map] at h
  by_cases hi : i < n
  · rw [List.getElem?_range hi] at h
    cases h; exact ⟨hi, rfl⟩
  · rw [List.getElem?_eq_none (by simp; omega)] at h
    cases h
theorem IsIt.rng {G : GI} {U0 : Addr → Prop} {Hb : Hp} (lo : Int) (n : Nat) : IsIt G U0 Hb (Itr lo n) (rngD lo n) :=
  ⟨fun H le i x hx => by
    obtain ⟨hi, rfl⟩ := rng_get hx
    exact ⟨hi, fun w H' ⟨eq, ew⟩ => by subst eq ew; exact ⟨Same.refl _, fun U hU => rfl⟩⟩,
   fun H le => by show n ≤ _; simp [rngD]⟩
section
variable {X : Cx} {cls : Nat → Addr} {W : WX} {m m1 m2 m3 : ME} {ms : List ME} {e a b c tg : Expr} {es : List Expr} {pos p : Pos}
/-- a list, a tuple or a str -/
def seqD : D → Bool
  | .lst _ => true
  | .tup _ => true
  | .str _ => true
  | _ => false
theorem ti_seq (he : PE X e (tD cls W true m)) : PI X tg e (iD cls W m) := by
  refine ⟨fun pins s σ H R I ⟨G, U0, He, ρ, Qd, Xd, r, w, k, x⟩ => ?_⟩
  refine thn (he.run pins s σ H _ I (tD_in r w (fun d v H' e r' p f q => (⟨d, e, r', p, q⟩ : ∃ d, Ext G H H' ∧ RE G U0 He H' σ ρ ∧ Rp G (Uo U0 ρ σ) H' d v ∧ onIt Qd d)) x)) fun u s1 ⟨v, H1, I1, r1, d, e1, r1', p1, q1⟩ => ?_
  obtain ⟨xs, ex, q⟩ := onS_some q1
  obtain ⟨Hb, rb, kb, bk, hb⟩ := r1'.rebase
  have pb := kb _ _ p1
  cases d <;> first
    | cases ex
    | skip
  · rename_i t
    cases (show v = V.str (mkS t) from p1)
    obtain ⟨tk, rfl⟩ := r1
    have R1 := k _ _ H1 Hb e1 rb bk hb (IsIt.str t) q
    cases ha : (mkS t).cps.all (· < 128)
    · exact wpAny_pyIter_wide ha (pi_one (tk := s1.toks) I1 _ (turn_str _ (mkS t) tk "str_iterator" (.inr rfl)) ⟨_, Heap.get?_push_size _ rfl, rfl, rfl⟩ R1)
    · exact wpAny_pyIter_ascii ha (pi_one (tk := s1.toks) I1 _ (turn_str _ (mkS t) tk "str_ascii_iterator" (.inl rfl)) ⟨_, Heap.get?_push_size _ rfl, rfl, rfl⟩ R1)
  · obtain ⟨c, vs, rfl, rd, l⟩ := p1
    obtain ⟨c', vs', e', rd', l'⟩ := pb
    cases e'
    cases r1
    obtain ⟨its, rv, pt, hz⟩ := I1.tuple (.inl rd)
    exact wpAny_pyIter_tuple (show s1.heap.IsTuple c its.toArray from pt) (pi_one (tk := s1.toks) I1 _ (turn_tuple c _) ⟨_, Heap.get?_push_size _ rfl, rfl, rfl⟩ (k _ _ H1 Hb e1 rb bk hb (IsIt.tup rb.mv rd' l') q))
  · obtain ⟨c, vs, rfl, rd, n, l⟩ := p1
    obtain ⟨c', vs', e', rd', n', l'⟩ := pb
    cases e'
    cases r1
    obtain ⟨its, rv, pt, hz⟩ := I1.list (SqL.of rd)
    exact wpAny_pyIter_list pt.isList (pi_one (tk := s1.toks) I1 _ (turn_list c _) ⟨_, Heap.get?_push_size _ rfl, rfl, rfl⟩ (k _ _ H1 Hb e1 rb bk hb (IsIt.list rb.mv rd' (fun m => n' (rb.mv _ m)) l') q))
/-- what is wished of a comprehension's source: it may be owned -/
def iDp (cls : Nat → Addr) (W : WX) (m : ME) : TI := fun σ H R => ∃ (G : GI) (U0 : Addr → Prop) (He : Hp) (ρ : DEnv) (Qd : List D → Prop) (Xd : Nat → Prop), RE G U0 He H σ ρ ∧ wE m ρ (onIt Qd) Xd ∧
  (∀ xs J H', Ext G H H' → RE G U0 He H' σ ρ → IsIt G (Uo U0 ρ σ) H' J xs → Qd xs → R J H') ∧
  (∀ k H', Ext G H H' → Xd k → W (.ref (cls k)) none σ H')
theorem IsIt.lift {G : GI} {U0 : Addr → Prop} {Hb H1 : Hp} {σ : St} {ρ : DEnv} {J : It} {xs : List D} (it : IsIt G U0 Hb J xs) (rb : RE G U0 Hb H1 σ ρ) (hb : ∀ a o, Hb a = some o → H1 a = some o) : IsIt G (Uo U0 ρ σ) H1 J xs := by
  have lf : ∀ H2, LE G H1 H2 → LE G Hb H2 := fun H2 le => ⟨fun a o z n => le.keep a o (hb a o z) n, fun a ys z => le.tup a ys (z.elim (fun z => .inl (hb _ _ z)) fun ⟨u, z⟩ => .inr ⟨u, hb _ _ z⟩)⟩
  refine ⟨fun H2 le i y hy => ?_, fun H2 le => it.stop H2 (lf H2 le)⟩
  obtain ⟨go, yl⟩ := it.at_ H2 (lf H2 le) i y hy
  refine ⟨go, fun v H3 yy => ?_⟩
  obtain ⟨sm, rp⟩ := yl v H3 yy
  refine ⟨sm, fun U hU => rp U fun a m => ?_⟩
  rcases hU a m with z | z
  · exact rb.uo a z
  · right
    cases q' : Hb a with
    | none => rfl
    | some o => have := hb a o q'; rw [z] at this; cases this
theorem tip (h : PI X tg e (iD cls W m)) : PI X tg e (iDp cls W m) := h.imp fun σ H R ⟨G, U0, He, ρ, Qd, Xd, r, w, k, x⟩ => ⟨G, U0, He, ρ, Qd, Xd, r, w, fun xs J H' Hb e1 rb bk hb it q => k xs J H' e1 (bk _ _ _ rb) (it.lift rb hb) q, x⟩
theorem ti_seqP (he : PE X e (tD cls W false m)) : PI X tg e (iDp cls W m) := by
  refine ⟨fun pins s σ H R I ⟨G, U0, He, ρ, Qd, Xd, r, w, k, x⟩ => ?_⟩
  refine thn (he.run pins s σ H _ I (tD_in r w (fun d v H' e r' p f q => (⟨d, e, r', p, q⟩ : ∃ d, Ext G H H' ∧ RE G U0 He H' σ ρ ∧ Res false G (Uo U0 ρ σ) H' d v ∧ onIt Qd d)) x)) fun u s1 ⟨v, H1, I1, r1, d, e1, r1', p1, q1⟩ => ?_
  obtain ⟨xs, ex, q⟩ := onS_some q1
  obtain ⟨p1, nm⟩ := p1
  cases d <;> first
    | cases ex
    | skip
  · rename_i t
    cases (show v = V.str (mkS t) from p1)
    obtain ⟨tk, rfl⟩ := r1
    have R1 := k _ _ H1 e1 r1' (IsIt.str t) q
    cases ha : (mkS t).cps.all (· < 128)
    · exact wpAny_pyIter_wide ha (pi_one (tk := s1.toks) I1 _ (turn_str _ (mkS t) tk "str_iterator" (.inr rfl)) ⟨_, Heap.get?_push_size _ rfl, rfl, rfl⟩ R1)
    · exact wpAny_pyIter_ascii ha (pi_one (tk := s1.toks) I1 _ (turn_str _ (mkS t) tk "str_ascii_iterator" (.inl rfl)) ⟨_, Heap.get?_push_size _ rfl, rfl, rfl⟩ R1)
  · obtain ⟨c, vs, rfl, rd, l⟩ := p1
    cases r1
    obtain ⟨its, rv, pt, hz⟩ := I1.tuple (.inl rd)
    exact wpAny_pyIter_tuple (show s1.heap.IsTuple c its.toArray from pt) (pi_one (tk := s1.toks) I1 _ (turn_tuple c _) ⟨_, Heap.get?_push_size _ rfl, rfl, rfl⟩ (k _ _ H1 e1 r1' (IsIt.tup r1'.mvU rd l) q))
  · obtain ⟨c, vs, rfl, rd, l⟩ := p1
    cases r1
    obtain ⟨its, rv, pt, hz⟩ := I1.list (SqL.of rd)
    exact wpAny_pyIter_list pt.isList (pi_one (tk := s1.toks) I1 _ (turn_list c _) ⟨_, Heap.get?_push_size _ rfl, rfl, rfl⟩ (k _ _ H1 e1 r1' (IsIt.list r1'.mvU rd (nm rfl c rfl) l) q))
theorem smallI_of {i : Int} (h : smallI i = true) : -(2 ^ 62) ≤ i ∧ i < 2 ^ 62 := by
  unfold smallI at h
  simp only [Bool.and_eq_true, decide_eq_true_eq] at h
  exact h
theorem ti_rng1 (hg : Gl X "range") (hm : X.mg "range" = none) (ha : PE X a (tD cls W true m)) (hs : starEach [a] X.env = (false, eval a X.env) :: starEach [] X.env := by rfl) : PI X tg (.Call (.Name "range" p) [a] [] pos) (iD cls W (.rng1 m)) :=
  (pi_range1 hg hm (pa_cons ha pa_nil hs) hs).imp fun σ H R ⟨G, U0, He, ρ, Qd, Xd, r, w, k, x⟩ => by
    simp only [wE] at w
    refine tD_in r w (fun d v H1 e1 r1 p1 f1 w1 => ?_) x
    cases d with
    | int n =>
      obtain ⟨sm, w2⟩ := w1
      obtain ⟨h1, h2⟩ := smallI_of sm
      obtain ⟨Hb, rb, kb, bk, hb⟩ := r1.rebase
      exact ⟨n, by rw [show v = V.int n from p1], h1, h2, k _ _ H1 Hb e1 rb bk hb (IsIt.rng 0 n.toNat) w2⟩
    | _ => exact (w1 : False).elim
theorem ti_rng2 (hg : Gl X "range") (hm : X.mg "range" = none) (ha : PE X a (tD cls W true m1)) (hb : PE X b (tD cls W true m2)) (hs : starEach [a, b] X.env = (false, eval a X.env) :: starEach [b] X.env := by rfl) (hs2 : starEach [b] X.env = (false, eval b X.env) :: starEach [] X.env := by rfl) :
    PI X tg (.Call (.Name "range" p) [a, b] [] pos) (iD cls W (.rng2 m1 m2)) :=
  (pi_range2 hg hm (pa_cons ha (pa_cons hb pa_nil hs2) hs) (hs.trans (by rw [hs2]; rfl)) hs2).imp fun σ H R ⟨G, U0, He, ρ, Qd, Xd, r, w, k, x⟩ => by
    simp only [wE] at w
    refine tD_in r w (fun d v H1 e1 r1 p1 f1 w1 => tD_in r1 w1 (fun d' v' H2 e2 r2 p2 f2 w2 => ?_) fun j H2 e2 q => x j H2 (e1.trans e2) q) x
    cases d with
    | int n =>
      cases d' with
      | int n' =>
        obtain ⟨sm, sm', w3⟩ := w2
        obtain ⟨h1, h2⟩ := smallI_of sm
        obtain ⟨h3, h4⟩ := smallI_of sm'
        obtain ⟨Hb, rb, kb, bk, hb⟩ := r2.rebase
        exact ⟨n, n', by rw [show v = V.int n from p1, show v' = V.int n' from p2], ⟨h1, h2, h3, h4⟩, k _ _ H2 Hb (e1.trans e2) rb bk hb (IsIt.rng n (n' - n).toNat) w3⟩
      | _ => exact (w2 : False).elim
    | _ => exact (w2 : False).elim

/-! ### for -/
variable {ss : List MS} {sts : List Stmt} {g : MG} {fr : List Nat}
theorem ts_for (hp : PassesOwn (model X.prog X.w) X.A X.env X.xe) (hc : X.calm = true) (hi : PI X tg e (iD cls W m)) (hg : PG X tg (gD g)) (hb : PSs X sts (tSs cls W ss)) (hs : ∀ x, foldedSetIterable e X.env x = pure x := by intro _; rfl) :
    PS X (.For tg e sts [] pos) (tS cls W (.for g fr m ss)) :=
  (ps_for hp hc hi hg hb hs).imp fun E σ H ⟨G, U0, He, ρ, N, R, Xd, r, w, k⟩ => by
    simp only [wS] at w
    have r0 := r.frz fr
    refine ⟨G, U0, He, _, _, Xd, r0, w, fun xs J H1 Hb e1 rb bk hsub it q => ?_, k.xe r0⟩
    refine ⟨fun i mm σ' H' => mm = xs.length - i ∧ i ≤ xs.length ∧ ∃ ρ', RE G U0 Hb H' σ' ρ' ∧ wLoop (fun x ρ' K => onS (asgG g x ρ') fun ρ'' => wSs ss ρ'' K R Xd) (xs.drop i) ρ' N,
      ⟨_, rfl, Nat.zero_le _, _, rb, q⟩, fun i mm σ' H' ⟨hm, hi, ρ', r', w'⟩ => ?_⟩
    have le := rb.le hsub r'
    by_cases hlt : i < xs.length
    · refine .inr ?_
      have hx : xs[i]? = some xs[i] := List.getElem?_eq_getElem hlt
      obtain ⟨go, yl⟩ := it.at_ H' le i _ hx
      rw [List.drop_eq_getElem_cons hlt] at w'
      have w' : onS (asgG g xs[i] ρ') fun ρ'' => wSs ss ρ'' (fun ρ' => wLoop (fun x ρ' K => onS (asgG g x ρ') fun ρ'' => wSs ss ρ'' K R Xd) (xs.drop (i + 1)) ρ' N) R Xd := w'
      obtain ⟨ρ2, a2, w2⟩ := onS_some w'
      refine ⟨go, fun σ' H' => ∃ ρ', RE G U0 Hb H' σ' ρ' ∧ wLoop (fun x ρ' K => onS (asgG g x ρ') fun ρ'' => wSs ss ρ'' K R Xd) (xs.drop (i + 1)) ρ' N,
        fun σ' H' h => ⟨xs.length - (i + 1), by omega, rfl, hlt, h⟩, fun v H2 y => ?_⟩
      obtain ⟨sm, rp⟩ := yl v H2 y
      have r2 := r'.step (Ext.same sm)
      refine ⟨G, U0, Hb, ρ', _, ρ2, r2, rp _ r'.uo, a2, fun σ3 k3 => ?_⟩
      have r3 := k3.re
      exact ⟨G, U0, Hb, ρ2, _, R, Xd, r3, w2, ⟨fun ρ4 σ4 H4 r4 w4 => ⟨ρ4, r4, w4⟩, fun d v ρ4 σ4 H4 r4 p4 q4 => k.rt d v ρ4 σ4 H4 (bk _ _ _ r4) p4 q4, fun j ρ4 σ4 H4 r4 q4 => k.xc j ρ4 σ4 H4 (bk _ _ _ r4) q4⟩⟩
    · have ei : i = xs.length := by omega
      subst ei
      rw [List.drop_length] at w'
      exact .inl ⟨it.stop H' le, k.nx _ _ _ (bk _ _ _ r') w'⟩

/-! ### list comprehensions -/
theorem RE.wipe {G : GI} {U0 : Addr → Prop} {He H : Hp} {σ : St} {ρ : DEnv} (r : RE G U0 He H σ ρ) : ∀ (vs : List Nat), vs.all (notOwn ρ) = true →
    RE G U0 He H (wipe σ vs) (wipeD ρ vs) ∧ (∀ a, Uo U0 ρ σ a → Uo U0 (wipeD ρ vs) (wipe σ vs) a) ∧ ∀ (i : Nat) (d : D), (wipeD ρ vs)[i]? = some (Slot.own d) → ρ[i]? = some (Slot.own d)
  | [], _ => ⟨r, fun _ m => m, fun _ _ h => h⟩
  | v :: vs, h => by
    simp only [List.all_cons, Bool.and_eq_true] at h
    obtain ⟨r1, u1, o1⟩ := r.wipe vs h.2
    have no : notOwn (wipeD ρ vs) v = true := by
      unfold notOwn
      cases q : (wipeD ρ vs)[v]? with
      | none => rfl
      | some s =>
        cases s with
        | own d =>
          have := o1 v d q
          have h1 := h.1
          unfold notOwn at h1
          rw [this] at h1
          cases h1
        | _ => rfl
    refine ⟨r1.forget no, fun a m => (u1 a m).forget no, fun i d e => ?_⟩
    rcases get_set e with ⟨_, q⟩ | ⟨_, q⟩
    · cases q
    · exact o1 i d q
def tTs (cls : Nat → Addr) (W : WX) (ms : List ME) : TT := fun σ H Q => ∃ (G : GI) (U0 : Addr → Prop) (He : Hp) (ρ : DEnv) (Qd : Bool → Prop), RE G U0 He H σ ρ ∧ wIfs ms ρ Qd ∧ (∀ b H', Ext G H H' → Qd b → Q b H')
theorem tts_nil : PTs X [] (tTs cls W []) := ⟨fun pins s σ H Q I ⟨G, U0, He, ρ, Qd, r, w, k⟩ => pts_nil.run pins s σ H Q I (k true H (Ext.refl G H) (by simpa only [wIfs] using w))⟩
abbrev noW : WX := fun _ _ _ _ => False
theorem tts_one (h : PT X c (tT cls W m)) : PTs X [c] (tTs cls W [m]) := ⟨fun pins s σ H Q I ⟨G, U0, He, ρ, Qd, r, w, k⟩ => (pts_one h).run pins s σ H Q I (tT_in (Xd := fun _ => False) r (by simpa only [wIfs] using w) (fun b H1 e1 r1 q => k b H1 e1 q) fun _ _ _ z => z.elim)⟩
theorem Kp.listUpd {G : GI} {U : Addr → Prop} {H : Hp} {D : Addr} {xs ys : List V} (h : H D = some (.lst xs)) (hU : U D) : Kp U H (upd H D (.lst ys)) := .of (fun b u e n => by rw [upd_ne (fun z => n (by rw [z]; exact hU))]; exact e) (fun b zs e => by
  have ne : b ≠ D := fun z => by
    subst z
    rcases e with e | ⟨u, e⟩ <;> (rw [h] at e; cases e)
  rcases e with e | ⟨u, e⟩
  · exact .inl (by rw [upd_ne ne]; exact e)
  · exact .inr ⟨u, by rw [upd_ne ne]; exact e⟩)
/-- the new list of a comprehension stands apart: it is as a slot of its own -/
theorem imp_lc {mi : List ME} {me : ME} {vs : List Nat} {σ : St} {H : Hp} {Q : VK} (hv : vs = g.slots) (q : tD cls W true (.lc g m mi me) σ H Q) : tLc (iDp cls W m) (gD g) (tTs cls noW mi) (tD cls noW true me) vs σ H Q := by
  obtain ⟨G, U0, He, ρ, Qd, Xd, r, w, k, x⟩ := q
  subst hv
  simp only [wE] at w
  obtain ⟨hno, w⟩ := w
  refine ⟨G, U0, He, ρ, _, Xd, r, w, fun xs J H1 e1 rb it q => ?_, x⟩
  intro Dn hD
  have sm0 : Same H1 (upd H1 Dn (.lst [])) := same_upd hD
  have ext0 : Ext G H1 (upd H1 Dn (.lst [])) := .same sm0
  have hDb : He Dn = none := rb.newHe hD
  -- the list in hand
  let U1 : Addr → Prop := fun b => U0 b ∨ b = Dn
  have S : ∀ H', RE G U1 He H' σ ρ → RE G U1 He H' (wipe σ g.slots) (wipeD ρ g.slots) := fun H' r' => (r'.wipe _ hno).1
  refine ⟨fun i mm H' => mm = xs.length - i ∧ i ≤ xs.length ∧ ∃ (ds : List D) (acc : List V), RE G U1 He H' σ ρ ∧ H' Dn = some (.lst acc) ∧ Ext G H1 (fun b => if b = Dn then H1 Dn else H' b) ∧ RpL G (Uo U1 ρ σ) H' ds acc ∧
      wLC (wipeD ρ g.slots) g (fun ρ' K => wIfs mi ρ' K) (fun ρ' K => wE me ρ' K fun _ => False) (xs.drop i) ds fun ds => Qd (.lst ds), ⟨_, rfl, Nat.zero_le _, [], [], ?_, upd_same, ?_, rfl, q⟩, fun i mm H' ⟨hm, hi, ds, acc, r', hacc, ex, l, w'⟩ => ?_⟩
  · exact rb.more ext0 hD ⟨_, upd_same⟩
  · have e : (fun b => if b = Dn then H1 Dn else upd H1 Dn (.lst []) b) = H1 := by
      funext b
      by_cases z : b = Dn
      · rw [if_pos z, z]
      · rw [if_neg z, upd_ne z]
    rw [e]; exact Ext.refl G H1
  have rw1 := S H' r'
  have uo1 : ∀ a, Uo U1 ρ σ a → Uo U1 (wipeD ρ g.slots) (wipe σ g.slots) a := (r'.wipe _ hno).2.1
  have kk1 : ∀ a o, H1 a = some o → ¬ G.mv a → H' a = some o := fun a o e n => by
    have q1 := ex.keep a o e n
    have ne : a ≠ Dn := fun z => by rw [z, hD] at e; cases e
    have q2 : (if a = Dn then H1 Dn else H' a) = some o := q1
    rw [if_neg ne] at q2; exact q2
  have le := LE.mk (G := G) (Hb := H1) (H := H') kk1 fun a ys e => by
    have n : ¬ G.mv a := rb.inv.tup (xs := ys) e
    rcases e with e | ⟨u, e⟩
    · exact .inl (kk1 _ _ e n)
    · exact .inr ⟨u, kk1 _ _ e n⟩
  have hDm : ¬ G.mv Dn := fun m => by
    obtain ⟨o, z⟩ := rb.trk _ (rb.mv _ m)
    rw [hD] at z; cases z
  by_cases hlt : i < xs.length
  · refine .inr ?_
    have hx : xs[i]? = some xs[i] := List.getElem?_eq_getElem hlt
    obtain ⟨go, yl⟩ := it.at_ H' le i _ hx
    rw [List.drop_eq_getElem_cons hlt] at w'
    simp only [wLC] at w'
    obtain ⟨ρ2, a2, w2⟩ := onS_some w'
    refine ⟨go, fun H' => ∃ (ds : List D) (acc : List V), RE G U1 He H' σ ρ ∧ H' Dn = some (.lst acc) ∧ Ext G H1 (fun b => if b = Dn then H1 Dn else H' b) ∧ RpL G (Uo U1 ρ σ) H' ds acc ∧
      wLC (wipeD ρ g.slots) g (fun ρ' K => wIfs mi ρ' K) (fun ρ' K => wE me ρ' K fun _ => False) (xs.drop (i + 1)) ds fun ds => Qd (.lst ds), fun H' h => ⟨xs.length - (i + 1), by omega, rfl, hlt, h⟩, fun v H2 y => ?_⟩
    obtain ⟨sm, rp⟩ := yl v H2 y
    have r2 := r'.step (Ext.same sm)
    have rw2 := S H2 r2
    -- heaps behind H'
    have cont : ∀ H4, Ext G H2 H4 → RE G U1 He H4 σ ρ ∧ H4 Dn = some (.lst acc) ∧ Ext G H1 (fun b => if b = Dn then H1 Dn else H4 b) ∧ RpL G (Uo U1 ρ σ) H4 ds acc := fun H4 e4 => by
      have eA := (Ext.same (G := G) sm).trans e4
      refine ⟨r2.step e4, eA.keep _ _ hacc hDm, ⟨fun b o e n => ?_, fun gi => ?_⟩, RpL.keep (r'.kp eA) (fun _ z => .inl z) _ _ l⟩
      · have q1 := ex.keep b o e n
        show (if b = Dn then H1 Dn else H4 b) = some o
        by_cases z : b = Dn
        · rw [if_pos z]; rw [if_pos z] at q1; exact q1
        · rw [if_neg z]; rw [if_neg z] at q1; exact eA.keep b o q1 n
      · have i4 := (r2.step e4).inv
        refine ⟨fun b dd => ?_, fun p hp => ?_⟩
        · obtain ⟨x1, y1, z1⟩ := i4.1 b dd
          have ne : b ≠ Dn := fun z => hDm (z ▸ .inl dd)
          exact ⟨x1, y1, (if_neg ne).trans z1⟩
        · obtain ⟨ps, z1, z2, z3⟩ := i4.2 p hp
          have ne : p.1 ≠ Dn := fun z => hDm (z ▸ .inr ⟨p.2, hp⟩)
          refine ⟨ps, (if_neg ne).trans z1, z2, fun ps' cv hc => ?_⟩
          obtain ⟨c1, h1, h2⟩ := z3 ps' cv hc
          refine ⟨c1, h1, ?_⟩
          have ne2 : c1 ≠ Dn := fun z => by
            rw [z, eA.keep _ _ hacc hDm] at h2; cases h2
          exact (if_neg ne2).trans h2
    refine ⟨G, U1, He, _, _, ρ2, rw2, rp _ (fun a m => ?_), a2, fun σ3 k3 => ⟨?_, ?_⟩⟩
    · rcases m with (z | z) | ⟨j, d', z1, z2⟩
      · exact .inl (.inl z)
      · exact .inr (z ▸ hD)
      · refine .inl (.inr ⟨j, d', (r'.wipe _ hno).2.2 j d' z1, ?_⟩)
        exact (wipe_some z2).1
    · rw [k3.ws g.slots fun i hi => hi, wipe_wipe]
    · have r3 := k3.re
      have hno2 : ∀ i ∈ g.slots, notOwn (wipeD ρ g.slots) i = true := fun i hi => by
        have h1 := List.all_eq_true.mp hno i hi
        unfold notOwn at h1 ⊢
        cases q : (wipeD ρ g.slots)[i]? with
        | none => rfl
        | some s =>
          cases s with
          | own d =>
            rw [(r'.wipe _ hno).2.2 i d q] at h1; cases h1
          | _ => rfl
      refine ⟨G, U1, He, ρ2, _, r3, w2, fun bb H3 e3 w3 => ?_⟩
      cases bb with
      | true =>
        obtain ⟨hlen, w3⟩ := w3
        refine tD_in (r3.step e3) w3 (fun d v4 H4 e4 r4 p4 f4 w4 => ?_) fun _ _ _ z => z.elim
        obtain ⟨c1, c2, c3, c4⟩ := cont H4 (e3.trans e4)
        refine ⟨acc, c2, by rw [l.len, sizeLine_eq]; exact hlen, ds ++ [d], acc ++ [v4], ?_, upd_same, ?_, ?_, w4⟩
        · -- the list grown
          have hUD : Uo U1 ρ σ Dn := .inl (.inr rfl)
          have kp : Kp (Uo U1 ρ σ) H4 (upd H4 Dn (.lst (acc ++ [v4]))) := Kp.listUpd (G := G) c2 hUD
          refine ⟨c1.len, c1.mv, fun b m => ?_, ⟨fun b dd => ?_, fun p hp => ?_⟩, fun b o e n => ?_, fun j d' hj => ?_, fun j d' hj => ?_, c1.sep⟩
          · by_cases z : b = Dn
            · exact ⟨_, by rw [z]; exact upd_same⟩
            · rw [upd_ne z]; exact c1.trk b m
          · obtain ⟨x1, y1, z1⟩ := c1.inv.1 b dd
            have ne : b ≠ Dn := fun z => hDm (z ▸ .inl dd)
            exact ⟨x1, y1, by rw [upd_ne ne]; exact z1⟩
          · obtain ⟨ps, z1, z2, z3⟩ := c1.inv.2 p hp
            have ne : p.1 ≠ Dn := fun z => hDm (z ▸ .inr ⟨p.2, hp⟩)
            refine ⟨ps, by rw [upd_ne ne]; exact z1, z2, fun ps' cv hc => ?_⟩
            obtain ⟨cc, h1, h2⟩ := z3 ps' cv hc
            exact ⟨cc, h1, by rw [upd_ne fun z => by rw [z, c2] at h2; cases h2]; exact h2⟩
          · rw [upd_ne fun z => by rw [z, hDb] at e; cases e]
            exact c1.ext b o e n
          · obtain ⟨w5, g1, g2⟩ := c1.imm j d' hj
            exact ⟨w5, g1, Rp.keep kp (fun _ z => .inl z) _ _ g2⟩
          · obtain ⟨b, g1, n0, g3, g4⟩ := c1.own j d' hj
            have nb : b ≠ Dn := fun z => n0 (.inr z)
            exact ⟨b, g1, n0, g3, g4.step kp (fun _ z => .inl z) fun o z => by rw [upd_ne nb]; exact z⟩
        · have e : (fun b => if b = Dn then H1 Dn else upd H4 Dn (.lst (acc ++ [v4])) b) = fun b => if b = Dn then H1 Dn else H4 b := by
            funext b
            by_cases z : b = Dn
            · rw [if_pos z, if_pos z]
            · rw [if_neg z, if_neg z, upd_ne z]
          rw [e]; exact c3
        · have hUD : Uo U1 ρ σ Dn := .inl (.inr rfl)
          have hUD3 : Uo U1 ρ2 σ3 Dn := .inl (.inr rfl)
          have kp : Kp (Uo U1 ρ σ) H4 (upd H4 Dn (.lst (acc ++ [v4]))) := Kp.listUpd (G := G) c2 hUD
          refine RpL.keep kp (fun _ z => .inl z) _ _ (c4.append ⟨v4, [], rfl, ?_, rfl⟩)
          exact Rp.anti (fun b m => .inl (k3.ou hno2 b (uo1 b m))) p4
      | false =>
        obtain ⟨c1, c2, c3, c4⟩ := cont H3 e3
        exact ⟨ds, acc, c1, c2, c3, c4, w3⟩
  · have ei : i = xs.length := by omega
    subst ei
    rw [List.drop_length] at w'
    refine .inl ⟨it.stop H' le, ?_⟩
    have w' : Qd (.lst ds) := w'
    have eF : Ext G H H' := by
      refine e1.trans ⟨fun b o e n => ?_, fun _ => r'.inv⟩
      have q1 := ex.keep b o e n
      by_cases z : b = Dn
      · rw [z, hD] at e; cases e
      · have q2 : (if b = Dn then H1 Dn else H' b) = some o := q1
        rw [if_neg z] at q2; exact q2
    have nU : ¬ Uo U0 ρ σ Dn := rb.newU hD
    have hU : ∀ b, Uo U0 ρ σ b → Uo U1 ρ σ b := fun b m => m.elim (fun m => .inl (.inl m)) .inr
    have hD0 : H Dn = none := r.back e1 hD
    refine k (.lst ds) (.ref Dn) H' eF ⟨Dn, acc, rfl, hacc, nU, l.anti fun b m => .inl (hU b m)⟩ (fun _ _ => ⟨Dn, rfl, hD0, acc, hacc, l.anti fun b m => .inl ?_⟩) w'
    rcases m with m | m
    · exact hU b m
    · exact .inl (.inr m)
end
end DL

set_option Elab.async false
set_option linter.all false
set_option maxRecDepth 100000
set_option maxHeartbeats 1000000
/-! DL6t: enumerate over a tuple, in the model. -/
namespace DL
open PySem PySem.Spec PyProof.Rows L2
theorem meets_enumT (a : Addr) (items : Array Value) :
    Meets (Builtin.«enumerate.__new__» ⟨[.type "enumerate", .ref a], []⟩) (fun _ R s => s.heap.IsTuple a items ∧
      R (.ok (.ret (.ref (s.heap.push { cls := .type "tuple_iterator", data := .fields #[.ref a, .int 0 0] }).objs.size)))
        { s with heap := (s.heap.push { cls := .type "tuple_iterator", data := .fields #[.ref a, .int 0 0] }).push { cls := .type "enumerate", data := .fields #[.none, .bool false, .ref s.heap.objs.size, rawInt 0, .none, .none] } }) :=
  .of_wp fun prog w A R s h => by
    obtain ⟨ht, h⟩ := h
    obtain ⟨hp, g, d, tk, os⟩ := s
    have hsub := sub_enumerate
    wp_walk
    refine wpAny_stack_any fun st => wpAny_pure ?_
    split
    · rename_i c _ _ _ _ _
      cases (c == Value.type "enumerate")
      · wp_walk using (wpAny_pyIter_tuple ht)
        exact ⟨_, rfl, h⟩
      · wp_walk using (wpAny_pyIter_tuple ht)
        exact ⟨_, rfl, h⟩
    · wp_walk using (wpAny_pyIter_tuple ht)
      exact ⟨_, rfl, h⟩
section
variable {prog : Program} {w : World} {A : Around} {E : Value → Shared → Prop} {s : Shared}
theorem call_enumT {a : Addr} {items : Array Value} {Q : Value → Shared → Prop} (ht : s.heap.IsTuple a items)
    (h : ∀ g, IsEnum g (s.heap.objs.size + 1) s.heap.objs.size 0 .none → g.IsTupleIter s.heap.objs.size a 0 → (∀ b o, s.heap.get? b = some o → g.get? b = some o) → Q (.ref (s.heap.objs.size + 1)) { s with heap := g }) :
    wpAny (model prog w) A (call (.type "enumerate") [.ref a]) Q E s := by
  refine callType_new F.called_enumerate (by decide) (F.typeCall_enumerate_1 _) (F.newCall_enumerate_1 _) (fun obj => F.args_object_init_2 obj _) F.entry_enumerate_new (meets_enumT a items) ⟨ht, ?_⟩
  generalize hi : ({ cls := .type "tuple_iterator", data := .fields #[.ref a, .int 0 0] } : Obj) = io
  have hz : (s.heap.push io).objs.size = s.heap.objs.size + 1 := Heap.size_push ..
  have hio : (s.heap.push io).get? s.heap.objs.size = some io := Heap.get?_push_size _ (by rw [← hi]; rfl)
  show _ ∧ _
  rw [hz]
  generalize he : ({ cls := .type "enumerate", data := .fields #[.none, .bool false, .ref s.heap.objs.size, rawInt 0, .none, .none] } : Obj) = eo
  have heo : ((s.heap.push io).push eo).get? (s.heap.objs.size + 1) = some eo := by
    have := Heap.get?_push_size (s.heap.push io) (o := eo) (by rw [← he]; rfl)
    rwa [hz] at this
  refine ⟨⟨_, heo, by cases he; rfl⟩, h _ (by rw [← he] at heo ⊢; exact heo) ⟨_, Heap.get?_push_of_some _ hio, by cases hi; rfl, by cases hi; rfl⟩ fun b o x => Heap.get?_push_of_some _ (Heap.get?_push_of_some _ x)⟩
end
/-- what an iterator draws, told less of -/
theorem drawsWeak {prog : Program} {w : World} {A : Around} {it : Addr} {fp : List Addr} {n : Nat} {P P' : Nat → Value → Prop} {St : Nat → Heap → Prop} (D : Draws prog w A it fp n P St) (h : ∀ i v, P i v → P' i v) : Draws prog w A it fp n P' St where
  live := D.live
  frame := D.frame
  item := fun i s Q E hi st hQ => D.item i s Q E hi st fun v g tk hv st' hs => hQ v g tk (h _ _ hv) st' hs
  done := D.done
end DL

set_option Elab.async false
set_option linter.all false
set_option maxRecDepth 100000
set_option maxHeartbeats 4000000
/-! DL6b: comprehensions as values and stored; enumerate. -/
namespace DL
open PySem PySem.Spec PyProof.Rows L2
variable [Tb]
section
variable {X : Cx} {cls : Nat → Addr} {W : WX} {m me : ME} {mi : List ME} {g : MG} {elt tg iter : Expr} {ifs : List Expr} {scope : Scope} {own : List (Str × Nat)} {pos p : Pos} {fr : List Nat}
theorem te_lc (hc : X.calm = true) (hN : X.N.Nodup) (hi : PI X tg iter (iDp cls W m)) (ok : BlkOk X.N X.env.scope scope own) (hv : own.map (·.2) = g.slots)
    (hg : ∀ (s : Shared) (H : Hp) (C : Addr) (cl : List (Str × Addr)) (fp : List Addr), PG (X.blk s H scope (compEnvC scope cl C X.env) fp) tg (gD g))
    (ht : ∀ (s : Shared) (H : Hp) (C : Addr) (cl : List (Str × Addr)) (fp : List Addr), PTs (X.blk s H scope (compEnvC scope cl C X.env) fp) ifs (tTs cls noW mi))
    (he : ∀ (s : Shared) (H : Hp) (C : Addr) (cl : List (Str × Addr)) (fp : List Addr), PE (X.blk s H scope (compEnvC scope cl C X.env) fp) elt (tD cls noW true me)) (hs : ∀ x, foldedSetIterable iter X.env x = pure x := by intro _; rfl) :
    PE X (.ListComp elt [⟨tg, iter, ifs, 0⟩] scope pos) (tD cls W true (.lc g m mi me)) :=
  (pe_lc hc hN hi ok hg ht he hs).imp fun σ H Q q => imp_lc hv q
theorem ts_setLc {i : Nat} {y : Str} {py spos : Pos} (hc : X.calm = true) (hN : X.N.Nodup) (hy : X.N[i]? = some y) (hyl : X.env.scope.names.lookup y = some .local)
    (hsw : swapsWith (.ListComp elt [⟨tg, iter, ifs, 0⟩] scope pos) (some (.Name y py)) spos.line X.env = pure true) (hi : PI X tg iter (iDp cls W m)) (ok : BlkOk X.N X.env.scope scope own) (hv : own.map (·.2) = g.slots)
    (hg : ∀ (s : Shared) (H : Hp) (C : Addr) (cl : List (Str × Addr)) (fp : List Addr), PG (X.blk s H scope (compEnvC scope cl C X.env) fp) tg (gD g))
    (ht : ∀ (s : Shared) (H : Hp) (C : Addr) (cl : List (Str × Addr)) (fp : List Addr), PTs (X.blk s H scope (compEnvC scope cl C X.env) fp) ifs (tTs cls noW mi))
    (he : ∀ (s : Shared) (H : Hp) (C : Addr) (cl : List (Str × Addr)) (fp : List Addr), PE (X.blk s H scope (compEnvC scope cl C X.env) fp) elt (tD cls noW true me)) (hs : ∀ x, foldedSetIterable iter X.env x = pure x := by intro _; rfl) :
    PS X (.Assign [.Name y py] (.ListComp elt [⟨tg, iter, ifs, 0⟩] scope pos) spos) (tS cls W (.asg (.nm i) fr (.lc g m mi me))) :=
  (ps_setLc hc hN hy hyl hsw hi ok hg ht he hs).imp fun E σ H q => by
    have q := imp_set q
    unfold tAsg at q ⊢
    exact imp_lc hv q
end

/-! ### enumerate -/
/-- by what an iterator draws: each item in a new pair -/
def ItD (n : Nat) (V0 : Nat → V) (go : Hp → Prop) : It := ⟨fun i H => go H ∧ i < n, fun i H v H' => ∃ T, v = .ref T ∧ H T = none ∧ H' = upd H T (.tup [.int (i : Nat), V0 i]), fun i H => go H ∧ i = n⟩
theorem turn_enumD {P : Program} {w : World} {K : PySem.W.Frag} {elts : List Expr} {kk : Nat} {tpos : Pos} {n : Nat} {V0 : Nat → V} {go : Hp → Prop} {it e : Addr} (hne : e ≠ it) {Sx : Nat → Heap → Prop} {Pv : Nat → Value → Prop}
    (hP : ∀ i v, Pv i v → RelV (V0 i) v) (keep : ∀ i h h', Sx i h → (∀ o, h.get? it = some o → h'.get? it = some o) → Sx i h') (there : ∀ i h, Sx i h → ∃ o, h.get? it = some o ∧ ∀ v, o.data ≠ .cell v)
    (dr : ∀ (X : Cx) (pins : List (Addr × Obj)) (s : Shared) (σ : St) (H : Hp) (i : Nat), X.prog = P → X.w = w → X.K = K → X.A.handled = none → Inv X pins σ H s → go H → Sx i s.heap → (∀ b ∈ [e, it], FpOk X pins H b) → ∃ (fp : List Addr) (St : Nat → Heap → Prop), Draws P w X.A.in1 it fp n Pv St ∧ St i s.heap ∧ e ∉ fp ∧ ∀ h, St (i + 1) h → Sx (i + 1) h) :
    Turn P w K (.Tuple elts kk tpos) (ItD n V0 go) [e, it] e (fun i h => (∃ old, IsEnum h e it ((i : Nat) : Int) old) ∧ Sx i h) where
  mem := by simp
  obj := fun i h st b hb => by
    obtain ⟨⟨old, he⟩, hs⟩ := st
    have e' : b = e ∨ b = it := by simpa using hb
    rcases e' with z | z
    · rw [z]; exact ⟨_, he, fun v q => nomatch q⟩
    · rw [z]; exact there i h hs
  keep := fun i h h' st k => let ⟨⟨old, he⟩, hi⟩ := st; ⟨⟨old, k e (by simp) _ he⟩, keep i h h' hi fun o q => k it (by simp) o q⟩
  item := by
    intro X hP' hw hK hc i pins s σ H E I hf st hg
    obtain ⟨⟨old, he⟩, hst⟩ := st
    obtain ⟨hgo, hlt⟩ := hg
    obtain ⟨fp, St', D0, h0, hef, hback⟩ := dr X pins s σ H i hP' hw hK (I.ok.hd hc) I hgo hst hf
    subst hP' hw hK
    have hel : e < s.heap.objs.size := Heap.lt_size he
    have hil : it < s.heap.objs.size := by obtain ⟨_, q, _⟩ := there i _ hst; exact Heap.lt_size q
    refine wpAny_pyNext_enum_itemD D0 he h0 hlt hne hef fun u h' tk hu ho hst' hT hsz hk => ?_
    refine ⟨_, rfl, wpAny_letOwnedTupleGo_enum (s := { s with heap := h', toks := tk + 1 }) ho fun h'' he' sb => ?_⟩
    have hT2 : h''.get? s.heap.objs.size = some { cls := .type "tuple", data := .seq #[.int i tk, u] } := (sb.2 _ (Nat.ne_of_gt hel)).trans hT
    have new : ObjOk X.prog X.w (upd H s.heap.objs.size (.tup [.int (i : Nat), V0 i])) h'' s.heap.objs.size (.tup [.int (i : Nat), V0 i]) :=
      ⟨by show 2 ≤ sizeLine; decide, [.int i tk, u], .cons ⟨_, rfl⟩ (.cons (hP i u hu) .nil), ⟨_, hT2, rfl, _, rfl⟩⟩
    have I1 : Inv X pins σ (upd H s.heap.objs.size (.tup [.int (i : Nat), V0 i])) { s with heap := h'', toks := tk + 1 } :=
      I.turnedNew (ch := [e, it]) (fun b ob hb q => (sb.2 b (fun z => hb (by simp [z]))).trans (hk b ob (fun z => hb (by simp [z])) (fun z => hb (by simp [z])) q)) hf (Nat.le_refl _) new
    refine ⟨.ref s.heap.objs.size, _, I1, rfl, ⟨_, rfl, I.hok.fresh (Nat.le_refl _), rfl⟩, ⟨⟨u, ?_⟩, keep _ h' _ (hback _ hst') fun o q => (sb.2 it (Ne.symm hne)).trans q⟩, fun b hb => ?_⟩
    · have e1 : ((i + 1 : Nat) : Int) = (i : Int) + 1 := by omega
      rw [e1]; exact he'
    · have hb' : b < s.heap.objs.size := by
        have e' : b = e ∨ b = it := by simpa using hb
        rcases e' with z | z
        · rw [z]; exact hel
        · rw [z]; exact hil
      rw [upd_ne (Nat.ne_of_lt hb')]
      exact (hf b hb).1
  done := by
    intro X hP' hw hK hc i pins s σ H E I hf st hg
    obtain ⟨⟨old, he⟩, hst⟩ := st
    obtain ⟨hgo, rfl⟩ := hg
    obtain ⟨fp, St', D0, h0, hef, hback⟩ := dr X pins s σ H i hP' hw hK (I.ok.hd hc) I hgo hst hf
    subst hP' hw hK
    obtain ⟨f0, f1, f2, f3, f4, f5⟩ := hf it (by simp)
    exact wpAny_pyNext_enum_endD D0 he h0 fun h' eb => ⟨rfl, I.turned (t' := s.toks) (fun b o hb q => eb b o hb q) f0 f1 f3 f4 f5⟩
  self := fun A i s Q E st h => let ⟨⟨_, he⟩, _⟩ := st; wpAny_pyIter_enum he h
theorem enum_get {xs : List D} {i : Nat} {x : D} (h : (enumD xs)[i]? = some x) : ∃ y, xs[i]? = some y ∧ x = .tup [.int i, y] := by
  unfold enumD at h
  rw [List.getElem?_mapIdx] at h
  cases q : xs[i]? with
  | none => rw [q] at h; cases h
  | some y => rw [q] at h; cases h; exact ⟨y, rfl, rfl⟩
theorem IsIt.enum {G : GI} {U0 : Addr → Prop} {Hb : Hp} {n : Nat} {V0 : Nat → V} {go : Hp → Prop} {xs : List D} (hm : ∀ a, G.mv a → U0 a) (hn : xs.length = n) (hgo : ∀ H, LE G Hb H → go H) (hv : ∀ i y, xs[i]? = some y → Rp G U0 Hb y (V0 i)) :
    IsIt G U0 Hb (ItD n V0 go) (enumD xs) :=
  ⟨fun H le i x hx => by
    obtain ⟨y, hy, rfl⟩ := enum_get hx
    refine ⟨⟨hgo H le, by rw [← hn]; exact lt_of_get hy⟩, fun w H' ⟨T, ew, hT, eH⟩ => ?_⟩
    subst ew eH
    have sm := same_upd (o := .tup [.int (i : Nat), V0 i]) hT
    refine ⟨sm, fun U hU => ⟨T, _, rfl, .inl upd_same, _, _, rfl, rfl, _, _, rfl, ?_, rfl⟩⟩
    exact Rp.keep (Same.kp sm) (fun _ z => .inl z) _ _ (le.rp hm hU (hv i y hy)),
   fun H le => ⟨hgo H le, by simp [enumD, hn]⟩⟩
section
variable {X : Cx} {cls : Nat → Addr} {W : WX} {m : ME} {e : Expr} {pos p tpos : Pos} {elts : List Expr} {kk : Nat}
/-- a str or a list -/
def slD2 : D → Bool
  | .lst _ => true
  | .str _ => true
  | _ => false
theorem ti_enum (hg : Gl X "enumerate") (hm : X.mg "enumerate" = none) (he : PE X e (tD cls W true m))
    (hs : starEach [e] X.env = (false, eval e X.env) :: starEach [] X.env := by rfl) :
    PI X (.Tuple elts kk tpos) (.Call (.Name "enumerate" p) [e] [] pos) (iD cls W (.enum m)) := by
  refine ⟨fun pins s σ H R I ⟨G, U0, He, ρ, Qd, Xd, r, w, k, x⟩ => ?_⟩
  simp only [wE] at w
  refine Call_ (ld_blt I hg hm boot_enumerate (PyProof.Rows.callWith_type1 (thn ((pa_cons he pa_nil hs).run pos pins s σ H (fun vs H' => ∃ v' d, vs = [v'] ∧ Ext G H H' ∧ RE G U0 He H' σ ρ ∧ Rp G (Uo U0 ρ σ) H' d v' ∧ onS (itemsE d) fun xs => onIt Qd (.lst (enumD xs))) I (tD_in r w (fun d v H' e r' p f q => ⟨v, d, rfl, e, r', p, q⟩) x)) fun us s1 ⟨vs, H1, I1, r1, q1⟩ => ?_) hs rfl))
  obtain ⟨v, d, ex, e1, r1', p1, q1⟩ := q1
  subst ex
  obtain ⟨u, rfl, ru⟩ := vals1 r1
  obtain ⟨xs, ex, q⟩ := onS_some q1
  obtain ⟨Hb, rb, kb, bk, hb⟩ := r1'.rebase
  have pb := kb _ _ p1
  have q' : Qd (enumD xs) := q
  clear q
  cases d <;> first
    | cases ex
    | skip
  · rename_i t
    cases (show v = V.str (mkS t) from p1)
    obtain ⟨tk, rfl⟩ := ru
    refine call_enumerate_str fun h' he' hit hsz hk => wpAny_pyIter_enum he' ?_
    have I2 : Inv X pins σ H1 { s1 with heap := h' } := I1.kept (t' := s1.toks) hk
    have T := turn_enumD (P := X.prog) (w := X.w) (K := X.K) (elts := elts) (kk := kk) (tpos := tpos) (n := (mkS t).cps.size) (V0 := fun i => .str ⟨#[t.getD i 0]⟩) (go := fun _ => True) (it := s1.heap.objs.size) (e := s1.heap.objs.size + 1) (Nat.succ_ne_self _)
      (Sx := fun i h => h.IsStrIter s1.heap.objs.size (strIterType (mkS t)) (mkS t) tk i) (Pv := fun i v => ∃ c u, (mkS t).cps[i]? = some c ∧ v = .str ⟨#[c]⟩ u)
      (fun i v ⟨c, u, hc, ev⟩ => ⟨u, by
        have : t[i]? = some c := by simpa [mkS] using hc
        rw [ev, List.getD_eq_getElem?_getD, this]; rfl⟩)
      (fun i h h' ⟨o, ho, q⟩ kp => ⟨o, kp o ho, q⟩) (fun i h ⟨o, ho, hc, hd⟩ => ⟨o, ho, fun v z => by rw [hd] at z; cases z⟩)
      (fun X' pins' s' σ' H' i hP hw hK hh I' _ hs hf => by
        by_cases ha : (mkS t).cps.all (· < 128) = true
        · have e : strIterType (mkS t) = "str_ascii_iterator" := if_pos ha
          rw [e] at hs
          refine ⟨_, _, Draws.strAscii (A := X'.A.in1) hh s1.heap.objs.size (mkS t) tk, hs, ?_, fun h z => ?_⟩
          · intro z
            exact absurd (List.mem_singleton.mp z) (Nat.succ_ne_self _)
          · rw [e]; exact z
        · have e : strIterType (mkS t) = "str_iterator" := if_neg ha
          rw [e] at hs
          refine ⟨_, _, Draws.strWide (A := X'.A.in1) hh s1.heap.objs.size (mkS t) tk, hs, ?_, fun h z => ?_⟩
          · intro z
            exact absurd (List.mem_singleton.mp z) (Nat.succ_ne_self _)
          · rw [e]; exact z)
    refine ⟨s1.heap.objs.size + 1, [s1.heap.objs.size + 1, s1.heap.objs.size], _, _, H1, rfl, I2, T, ⟨⟨.none, he'⟩, hit⟩, fun b hb => ?_, k _ _ H1 Hb e1 rb bk hb (IsIt.enum rb.mv (by simp [chars, mkS]) (fun _ _ => trivial) fun i y hy => ?_) q'⟩
    · have e' : b = s1.heap.objs.size + 1 ∨ b = s1.heap.objs.size := by simpa using hb
      have hle : s1.heap.objs.size ≤ b := by
        rcases e' with z | z
        · rw [z]; exact Nat.le_add_right _ _
        · rw [z]; exact Nat.le_refl _
      exact I1.fpOk hle (I1.hok.fresh hle)
    · obtain ⟨c, hc, rfl⟩ := chars_get hy
      show V.str _ = V.str _
      rw [List.getD_eq_getElem?_getD, hc]; rfl
  · rename_i ds
    obtain ⟨c, vs, rfl, rd, l⟩ := p1
    obtain ⟨c', vs', e', rd', l'⟩ := pb
    cases e'
    cases ru
    obtain ⟨its, rv, pt, hz⟩ := I1.tuple (.inl rd)
    have hts : s1.heap.IsTuple c its.toArray := pt
    refine call_enumT hts fun g he' hit hk => wpAny_pyIter_enum he' ?_
    have I2 : Inv X pins σ H1 { s1 with heap := g } := I1.kept (t' := s1.toks) hk
    have hlv := l.len
    have evs : vs' = vs := by
      rcases rd with z1 | ⟨u1, z1⟩ <;> rcases rd' with z2 | ⟨u2, z2⟩
      all_goals
        have z3 := hb _ _ z2
        rw [z1] at z3
        first
          | (cases z3; rfl)
          | cases z3
    subst evs
    have T := turn_enumD (P := X.prog) (w := X.w) (K := X.K) (elts := elts) (kk := kk) (tpos := tpos) (n := vs'.length) (V0 := fun i => vs'.getD i .non) (go := fun H => Rd H c (.tup vs')) (it := s1.heap.objs.size) (e := s1.heap.objs.size + 1) (Nat.succ_ne_self _)
      (Sx := fun i h => h.IsTupleIter s1.heap.objs.size c i) (Pv := fun i v => L2.RelV (vs'.getD i .non) v)
      (fun i v h => h) (fun i h h' ⟨o, ho, q⟩ kp => ⟨o, kp o ho, q⟩) (fun i h ⟨o, ho, hc, hd⟩ => ⟨o, ho, fun v z => by rw [hd] at z; cases z⟩)
      (fun X' pins' s' σ' H' i hP hw hK hh I' hgo hs hf => by
        obtain ⟨its', rv', pt', _⟩ := I'.tuple (.inl hgo)
        have hl' : its'.toArray.size = vs'.length := by rw [List.size_toArray]; exact rv'.length.symm
        have hcl : c < s1.heap.objs.size := by obtain ⟨o, ho, _⟩ := hts; exact Heap.lt_size ho
        have D0 := drawsWeak (P' := fun i v => L2.RelV (vs'.getD i .non) v) (Draws.tuple (prog := X'.prog) (w := X'.w) (A := X'.A.in1) hh s1.heap.objs.size c (Nat.ne_of_lt hcl) its'.toArray) fun i v hv => by
          have hv' : its'[i]? = some v := by simpa using hv
          have hi : i < vs'.length := by
            have := lt_of_get hv'
            rw [rv'.length]; exact this
          obtain ⟨w', e1, e2⟩ := rv'.get (List.getElem?_eq_getElem hi)
          rw [hv'] at e1; cases e1
          rw [List.getD_eq_getElem?_getD, List.getElem?_eq_getElem hi]
          exact e2
        rw [hl', hP, hw] at D0
        refine ⟨_, _, D0, ⟨hs, pt'⟩, fun z => ?_, fun h z => z.1⟩
        rcases List.mem_cons.mp z with z | z
        · exact Nat.succ_ne_self _ z
        · have z : s1.heap.objs.size + 1 = c := List.mem_singleton.mp z
          exact absurd hcl (by rw [← z]; exact Nat.not_lt.mpr (Nat.le_succ _)))
    refine ⟨s1.heap.objs.size + 1, [s1.heap.objs.size + 1, s1.heap.objs.size], _, _, H1, rfl, I2, T, ⟨⟨.none, he'⟩, hit⟩, fun b hbm => ?_, k _ _ H1 Hb e1 rb bk hb (IsIt.enum rb.mv hlv.symm (fun H le => le.tup c _ rd') fun i y hy => ?_) q'⟩
    · have e' : b = s1.heap.objs.size + 1 ∨ b = s1.heap.objs.size := by simpa using hbm
      have hle : s1.heap.objs.size ≤ b := by
        rcases e' with z | z
        · rw [z]; exact Nat.le_add_right _ _
        · rw [z]; exact Nat.le_refl _
      exact I1.fpOk hle (I1.hok.fresh hle)
    · obtain ⟨v, hv, rv3⟩ := l'.get hy
      rw [List.getD_eq_getElem?_getD, hv]
      exact rv3
  · rename_i ds
    obtain ⟨c, vs, rfl, rd, n, l⟩ := p1
    obtain ⟨c', vs', e', rd', n', l'⟩ := pb
    cases e'
    cases ru
    have evs : vs' = vs := by
      have := hb _ _ rd'
      rw [rd] at this; cases this; rfl
    subst evs
    obtain ⟨its, rv, pt, hz⟩ := I1.list (SqL.of rd)
    refine call_enumerate_list pt.isList fun h' he' hit hsz hk => wpAny_pyIter_enum he' ?_
    have I2 : Inv X pins σ H1 { s1 with heap := h' } := I1.kept (t' := s1.toks) hk
    have hne : ∀ (i : Nat) (h : Heap), h.IsListIter s1.heap.objs.size c i → True := fun _ _ _ => trivial
    refine ⟨s1.heap.objs.size + 1, [s1.heap.objs.size + 1, s1.heap.objs.size], _, _, H1, rfl, I2, turn_enum c (s1.heap.objs.size + 1) s1.heap.objs.size, ⟨⟨.none, he'⟩, hit, Nat.succ_ne_self _⟩, fun b hb => ?_, k _ _ H1 Hb e1 rb bk hb ?_ q'⟩
    · have e' : b = s1.heap.objs.size + 1 ∨ b = s1.heap.objs.size := by simpa using hb
      have hle : s1.heap.objs.size ≤ b := by
        rcases e' with z | z
        · rw [z]; exact Nat.le_add_right _ _
        · rw [z]; exact Nat.le_refl _
      exact I1.fpOk hle (I1.hok.fresh hle)
    · refine ⟨fun H le i x hx => ?_, fun H le => ⟨vs', SqL.of (le.keep c _ rd' fun m => n' (rb.mv c m)), by simp [enumD, l'.len]⟩⟩
      obtain ⟨y, hy, rfl⟩ := enum_get hx
      obtain ⟨v, hv, rv'⟩ := l'.get hy
      have eH := le.keep c _ rd' fun m => n' (rb.mv c m)
      refine ⟨⟨vs', v, SqL.of eH, hv⟩, fun w H' ⟨T, x', ew, hT, eU, hw⟩ => ?_⟩
      subst ew eU
      have := hw vs' (SqL.of eH)
      rw [hv] at this; cases this
      have sm := same_upd (o := .tup [.int (i : Nat), v]) hT
      refine ⟨sm, fun U hU => ⟨T, _, rfl, .inl upd_same, _, _, rfl, rfl, _, _, rfl, ?_, rfl⟩⟩
      exact Rp.keep (Same.kp sm) (fun _ z => .inl z) _ _ (le.rp rb.mv hU rv')
end
end DL

set_option Elab.async false
set_option linter.all false
set_option maxRecDepth 100000
set_option maxHeartbeats 4000000
/-! DL7: built-ins on data. -/
namespace DL
open PySem PySem.Spec PyProof.Rows L2
variable [Tb]
/-- a built-in of one argument -/
def rK1 (f : D → Option D) : List V → Hp → VK → Prop := fun xs H Q => ∃ (G : GI) (U : Addr → Prop) (dx dz : D) (x : V), xs = [x] ∧ (∀ p, H p = none → ¬ U p) ∧ RpP G U H dx x ∧ f dx = some dz ∧ Out G U H dz Q
section
variable {X : Cx} {cls : Nat → Addr} {W : WX} {m m1 m2 : ME} {e a b : Expr} {pos p p2 : Pos}
theorem imp_k1 {f : B1} {σ : St} {H : Hp} {Q : VK} (q : tD cls W true (.b1 f m) σ H Q) : tCB (rK1 (b1D f)) (tCons (tD cls W false m) tNil) σ H Q := by
  obtain ⟨G, U0, He, ρ, Qd, Xd, r, w, k, x⟩ := q
  simp only [wE] at w
  refine tD_in r w (fun d v H1 e1 r1 p1 _ w1 => ?_) x
  obtain ⟨dz, q, w2⟩ := onS_some w1
  exact ⟨G, _, d, dz, v, rfl, fun p hp => r1.newU hp, p1.p, q, fun v H3 sm rp fr => k dz v H3 (e1.trans (.same sm)) rp (fun _ bx => let ⟨a, h1, h2, h3⟩ := fr bx; ⟨a, h1, r.back e1 h2, h3⟩) w2⟩
theorem te_b1B {f : B1} {id : String} {x : Str} (hc : CallR X (.builtin id) (rK1 (b1D f))) (hg : Gl X x) (hm : X.mg x = none) (hv : bootBuiltins x = some (.builtin id)) (ha : PE X e (tD cls W false m)) (hn : x ≠ "__name__" := by decide) (hdb : (x == ("__debug__" : Str)) = false := by decide)
    (he : starEach [e] X.env = (false, eval e X.env) :: starEach [] X.env := by rfl) (hpl : (backTo pos (starEach [] X.env)).any (·.1) = false := by rfl) : PE X (.Call (.Name x p) [e] [] pos) (tD cls W true (.b1 f m)) :=
  (pe_callB hc hg hm hv (pa_cons ha pa_nil he) hn hdb he hpl).imp fun σ H Q q => imp_k1 q
theorem te_b1T {f : B1} {T : String} {x : Str} (hc : CallR X (.type T) (rK1 (b1D f))) (hg : Gl X x) (hm : X.mg x = none) (hv : bootBuiltins x = some (.type T)) (ha : PE X e (tD cls W false m)) (hn : x ≠ "__name__" := by decide) (hdb : (x == ("__debug__" : Str)) = false := by decide)
    (he : starEach [e] X.env = (false, eval e X.env) :: starEach [] X.env := by rfl) (hpl : (backTo pos (starEach [] X.env)).any (·.1) = false := by rfl) : PE X (.Call (.Name x p) [e] [] pos) (tD cls W true (.b1 f m)) :=
  (pe_callTy hc hg hm hv (pa_cons ha pa_nil he) hn hdb he hpl).imp fun σ H Q q => imp_k1 q
/-! ### len, sum, all, any, tuple, list -/
theorem RpL.allBls {G : GI} {U : Addr → Prop} {H : Hp} : True := trivial
theorem k_len : CallR X (.builtin "len") (rK1 (b1D .len)) := by
  rintro pins s σ H xs us Q I rs ⟨G, U, dx, dz, x, rfl, hU, px, e, o⟩
  cases dx <;> simp only [b1D] at e <;> first
    | cases e
    | skip
  · rename_i t
    split at e
    · rename_i hl
      cases e
      exact call_len pins s σ H [x] us Q I rs ⟨x, t.length, rfl, by rw [show x = V.str (mkS t) from px]; exact ⟨by rw [mkS_len, sizeLine_eq]; exact hl, by rw [mkS_len]⟩, o.flat rfl rfl⟩
    · cases e
  · obtain ⟨a, vs, ex, hx, lx⟩ := px
    subst ex
    exact call_len pins s σ H _ us Q I rs ⟨_, _, rfl, .inr ⟨vs, .inl hx, lx.len.symm⟩, o.flat rfl rfl⟩
  · obtain ⟨a, vs, ex, hx, lx⟩ := px
    subst ex
    exact call_len pins s σ H _ us Q I rs ⟨_, _, rfl, .inl ⟨vs, SqL.of hx, lx.len.symm⟩, o.flat rfl rfl⟩
theorem k_all (hc : X.calm = true) : CallR X (.builtin "all") (rK1 (b1D .all)) := by
  rintro pins s σ H xs us Q I rs ⟨G, U, dx, dz, x, rfl, hU, px, e, o⟩
  cases dx <;> simp only [b1D] at e <;> first
    | cases e
    | skip
  rw [Option.map_eq_some_iff] at e
  obtain ⟨bs, eb, rfl⟩ := e
  obtain ⟨a, vs, ex, hx, lx⟩ := px
  rw [lx.bls eb] at hx
  exact cr_all hc pins s σ H [x] us Q I rs ⟨a, bs, by rw [ex], SqL.of hx, o.flat rfl rfl⟩
theorem k_any (hc : X.calm = true) : CallR X (.builtin "any") (rK1 (b1D .any)) := by
  rintro pins s σ H xs us Q I rs ⟨G, U, dx, dz, x, rfl, hU, px, e, o⟩
  cases dx <;> simp only [b1D] at e <;> first
    | cases e
    | skip
  rw [Option.map_eq_some_iff] at e
  obtain ⟨bs, eb, rfl⟩ := e
  obtain ⟨a, vs, ex, hx, lx⟩ := px
  rw [lx.bls eb] at hx
  exact cr_any hc pins s σ H [x] us Q I rs ⟨a, bs, by rw [ex], SqL.of hx, o.flat rfl rfl⟩
theorem k_tuple : CallR X (.type "tuple") (rK1 (b1D .tuple)) := by
  rintro pins s σ H xs us Q I rs ⟨G, U, dx, dz, x, rfl, hU, px, e, o⟩
  cases dx <;> simp only [b1D] at e <;> cases e
  · obtain ⟨a, vs, ex, hx, lx⟩ := px
    subst ex
    exact call_tuple_of pins s σ H _ us Q I rs ⟨a, vs, rfl, .inr ⟨.inl hx, o.flat ⟨a, vs, rfl, hx, lx⟩ rfl⟩⟩
  · obtain ⟨a, vs, ex, hx, lx⟩ := px
    subst ex
    exact call_tuple_of pins s σ H _ us Q I rs ⟨a, vs, rfl, .inl ⟨SqL.of hx, fun l hl => o.newT lx hl⟩⟩
theorem chars_rp {G : GI} {U : Addr → Prop} {H : Hp} (s : List Nat) : RpL G U H (chars s) (s.map fun c => V.str ⟨#[c]⟩) := by
  induction s with
  | nil => rfl
  | cons c r ih => exact ⟨_, _, rfl, rfl, ih⟩
theorem vals_of_get : ∀ {xs : List V} {us : List Value}, us.length = xs.length → (∀ (i : Nat) (x : V) (u : Value), xs[i]? = some x → us[i]? = some u → RelV x u) → Vals xs us
  | [], [], _, _ => .nil
  | [], _ :: _, h, _ => by simp at h
  | _ :: _, [], h, _ => by simp at h
  | x :: xs, u :: us, h, g => .cons (g 0 x u rfl rfl) (vals_of_get (by simpa using h) fun i y w e1 e2 => g (i + 1) y w (by simpa using e1) (by simpa using e2))
theorem itemsOf_vals {t : List Nat} {acc : Array Value} (h : ItemsOf (SignAt (mkS t)) acc (mkS t).cps.size) : Vals (t.map fun c => V.str ⟨#[c]⟩) acc.toList := by
  obtain ⟨h1, h2⟩ := h
  have hl : acc.size = t.length := by simpa [mkS] using h1
  refine vals_of_get (by simp [hl]) fun i a b ha hb => ?_
  obtain ⟨c, u, hc, rfl⟩ := h2 i b (by simpa using hb)
  rw [List.getElem?_map] at ha
  have hc' : t[i]? = some c := by simpa [mkS] using hc
  rw [hc'] at ha
  cases ha
  exact ⟨u, rfl⟩
theorem k_list (hc : X.calm = true) : CallR X (.type "list") (rK1 (b1D .list)) := by
  rintro pins s σ H xs us Q I rs ⟨G, U, dx, dz, x, rfl, hU, px, e, o⟩
  cases dx <;> simp only [b1D, itemsS, itemsD, Option.bind_some, Option.bind_none] at e <;> first
    | cases e
    | (split at e <;> first
        | cases e
        | skip)
  · rename_i t hl
    obtain ⟨u, rfl, ru⟩ := vals1 rs
    cases (show x = V.str (mkS t) from px)
    obtain ⟨tk, rfl⟩ := ru
    refine call_list_str (I.ok.hd hc) (mkS t) tk (fun h' tk' acc' c' hk he hit => ?_) ?_
    · refine ⟨.ref s.heap.objs.size, _, I.laid (t' := tk') hk (Nat.le_refl _) (show ObjOk X.prog X.w _ h' _ (.lst (t.map fun c => V.str ⟨#[c]⟩)) from ⟨?_, acc'.toList, c', itemsOf_vals hit, by simpa using he⟩), rfl, o.newL hU (chars_rp t) (I.hok.fresh (Nat.le_refl _))⟩
      rw [sizeLine_eq]; simp [chars] at hl ⊢; omega
    · rw [sizeLine_eq]; simp [chars, mkS] at hl ⊢; omega
  · obtain ⟨a, vs, ex, hx, lx⟩ := px
    subst ex
    exact call_list_of pins s σ H _ us Q I rs ⟨a, vs, rfl, .inr (.inl hx), fun l hl => o.newL hU lx hl⟩
  · obtain ⟨a, vs, ex, hx, lx⟩ := px
    subst ex
    exact call_list_of pins s σ H _ us Q I rs ⟨a, vs, rfl, .inl (SqL.of hx), fun l hl => o.newL hU lx hl⟩
/-! ### isinstance -/
def tyN : Ty → String
  | .int => "int"
  | .bool => "bool"
  | .str => "str"
  | .tuple => "tuple"
  | .list => "list"
theorem kt_non : ∀ t : Ty, kitB "NoneType" (tyN t) = some false := by intro t; cases t <;> decide +kernel
theorem kt_bl : ∀ t : Ty, kitB "bool" (tyN t) = some (isiD (.bl true) t) := by intro t; cases t <;> decide +kernel
theorem kt_int : ∀ t : Ty, kitB "int" (tyN t) = some (isiD (.int 0) t) := by intro t; cases t <;> decide +kernel
theorem kt_str : ∀ t : Ty, kitB "str" (tyN t) = some (isiD (.str []) t) := by intro t; cases t <;> decide +kernel
theorem kt_tup : ∀ t : Ty, kitB "tuple" (tyN t) = some (isiD (.tup []) t) := by intro t; cases t <;> decide +kernel
theorem kt_lst : ∀ t : Ty, kitB "list" (tyN t) = some (isiD (.lst []) t) := by intro t; cases t <;> decide +kernel
theorem kt_dict : ∀ t : Ty, kitB "dict" (tyN t) = some false := by intro t; cases t <;> decide +kernel
theorem k_isi {G : GI} {U : Addr → Prop} {H : Hp} {d : D} {v : V} {K : PySem.W.Frag} (h : RpP G U H d v) (hd : d ≠ .dice) (t : Ty) : ∃ u, TyX K H v u ∧ PySem.W.kitOne K u (.type (tyN t)) = some (isiD d t) := by
  cases d with
  | dice => exact absurd rfl hd
  | non => cases (show v = .non from h); exact ⟨_, .base .non, (kit_ty (kt_non t)).trans (by cases t <;> rfl)⟩
  | bl b => cases (show v = .bl b from h); exact ⟨_, .base (.bl b), (kit_ty (kt_bl t)).trans (by cases t <;> rfl)⟩
  | int i => cases (show v = .int i from h); exact ⟨_, .base (.int i), (kit_ty (kt_int t)).trans (by cases t <;> rfl)⟩
  | str s => cases (show v = .str (mkS s) from h); exact ⟨_, .base (.str _), (kit_ty (kt_str t)).trans (by cases t <;> rfl)⟩
  | tup xs =>
    obtain ⟨a, vs, ex, hx, _⟩ := h
    subst ex
    rcases hx with hx | ⟨o, hx⟩
    · exact ⟨_, .base (.tup hx), (kit_ty (kt_tup t)).trans (by cases t <;> rfl)⟩
    · exact ⟨_, .fTuple hx, (kit_ty (kt_tup t)).trans (by cases t <;> rfl)⟩
  | lst xs =>
    obtain ⟨a, vs, ex, hx, _⟩ := h
    subst ex
    exact ⟨_, .base (.lst hx), (kit_ty (kt_lst t)).trans (by cases t <;> rfl)⟩
  | dic ks ds =>
    obtain ⟨a, vs, ex, hx, _⟩ := h
    subst ex
    rcases hx with hx | ⟨o, hx⟩
    · exact ⟨_, .base (.dK hx), (kit_ty (kt_dict t)).trans (by cases t <;> rfl)⟩
    · exact ⟨_, .fDict hx, (kit_ty (kt_dict t)).trans (by cases t <;> rfl)⟩
theorem te_isi {t : Ty} {n : Str} (hg : Gl X "isinstance") (hm : X.mg "isinstance" = none) (hg2 : Gl X n) (hm2 : X.mg n = none) (hv2 : bootBuiltins n = some (.type (tyN t))) (ha : PE X e (tD cls W false m))
    (hn2 : n ≠ "__name__" := by decide) (hdb2 : (n == ("__debug__" : Str)) = false := by decide)
    (he : starEach [e, .Name n p2] X.env = (false, eval e X.env) :: starEach [.Name n p2] X.env := by rfl) (he2 : starEach [.Name n p2] X.env = (false, eval (.Name n p2) X.env) :: starEach [] X.env := by rfl) (hpl : (backTo pos (starEach [.Name n p2] X.env)).any (·.1) = false := by rfl) :
    PE X (.Call (.Name "isinstance" p) [e, .Name n p2] [] pos) (tD cls W true (.isi m t)) :=
  (pe_callB call_isi hg hm PyProof.Rows.boot_isinstance (pa_cons ha (pa_cons (pe_bltn (v := .ty (tyN t)) hg2 hm2 hv2 rfl hn2 hdb2) pa_nil he2) he) (by decide) (by decide) he hpl).imp fun σ H Q ⟨G, U0, He, ρ, Qd, Xd, r, w, k, x⟩ => by
    simp only [wE] at w
    refine tD_in r w (fun d v H1 e1 r1 p1 _ w1 => ?_) x
    obtain ⟨u, h1, h2⟩ := k_isi (K := X.K) p1.p (fun z => by rw [z] at w1; cases w1.1) t
    exact ⟨v, .ty (tyN t), u, _, _, rfl, .ty _, h1, h2, k (.bl _) _ H1 e1 rfl (Fre.no rfl) w1.2⟩
end
end DL

set_option Elab.async false
set_option linter.all false
set_option maxRecDepth 100000
set_option maxHeartbeats 4000000
/-! DL7b: len(set(..)), sum, join. -/
namespace DL
open PySem PySem.Spec PyProof.Rows L2
variable [Tb]
section
variable {prog : Program} {w : World} {A : Around} {E : Value → Shared → Prop} {s : Shared}
theorem call_set_str {x : Str} {t : Tok} {xs : List Str} {Q : Value → Shared → Prop} (hh : A.handled = none) (hx : x.cps.size = xs.length) (hxs : ∀ (i c : Nat), x.cps[i]? = some c → xs.getD i Str.empty = ⟨#[c]⟩) (hb : xs.length + 1 < scanBound)
    (h : ∀ (h' : Heap) (tk : Nat), h'.SetOf (PySem.strKind prog w) s.heap.objs.size (fun k' => (xs.take xs.length).any (· == k')) (cntTo xs xs.length) →
      (∀ b o, b < s.heap.objs.size → s.heap.get? b = some o → h'.get? b = some o) → Q (.ref s.heap.objs.size) { s with heap := h', toks := tk }) :
    wpAny (model prog w) A (call (.type "set") [.str x t]) Q E s := by
  refine call_set_of (fun led => ?_) h
  have hS : (s.heap.push (set0 led)).get? s.heap.objs.size = some (set0 led) := Heap.get?_push_size _ rfl
  have hz : (s.heap.push (set0 led)).objs.size = s.heap.objs.size + 1 := Heap.size_push _ _
  have hsls := PySem.F.sub_str_set
  have hslf := PySem.F.sub_str_frozenset
  have hne : (Value.type "str" == Value.type "dict") = false := by decide
  unfold Builtin.«set.__init__» noKeywords Builtin.Frozenset.updateFrom
  generalize hPI : pyIter = PI
  wp_walk
  subst hPI
  refine wpAny_pyIter_str fun o St W st => ?_
  have W0 := (W A.in1.in1.in1 hh).toS
  rw [hx] at W0
  refine wpAny_bind (wpAny_runValue ?_)
  refine set_fill (v := .str x t) (fun _ _ z => z) hz W0 (fun b hm => .inl (List.mem_singleton.mp hm)) hb (fun i v ⟨c, u, hc, ev⟩ => ⟨u, by rw [ev, hxs i c hc]⟩) st fun s' hs' => ?_
  refine wpAny_pure ?_
  show wpAny _ _ (ret Value.none) _ _ _
  exact wpAny_pure hs'
end
theorem cnt_mk : ∀ xs : List (List Nat), cnt (xs.map mkS) = difC xs
  | [] => rfl
  | x :: r => by
    have e : ((r.map mkS).any fun y => y == mkS x) = r.any fun y => y == x := by
      rw [List.any_map]
      congr 1
      funext y
      exact mkS_beq y x
    show (if ((r.map mkS).any fun y => y == mkS x) = true then cnt (r.map mkS) else cnt (r.map mkS) + 1) = _
    rw [e, cnt_mk r]
    rfl
theorem cntTo_mk (xs : List (List Nat)) : cntTo (xs.map mkS) (xs.map mkS).length = difC xs.reverse := by
  unfold cntTo
  rw [List.take_length, ← List.map_reverse, cnt_mk]
theorem scan_room {n : Nat} (h : n ≤ 1000) : n + 1 < scanBound := by unfold scanBound; omega
section
variable {X : Cx} {cls : Nat → Addr} {W : WX} {m m1 m2 : ME} {e a b : Expr} {pos p p2 q : Pos}
theorem tb_lenset (hc : X.calm = true) (hm : X.mg "len" = none) (hm2 : X.mg "set" = none) (ha : PE X a (tD cls W false m)) (hg : Gl X "len" := by rfl) (hg2 : Gl X "set" := by rfl)
    (na : starEach [a] X.env = (false, eval a X.env) :: starEach [] X.env := by rfl) : PE X (.Call (.Name "len" p) [.Call (.Name "set" p2) [a] [] q] [] pos) (tD cls W true (.b1 .lenset m)) := by
  refine ⟨fun pins s σ H Q I ⟨G, U0, He, ρ, Qd, Xd, r, w, k, x⟩ => ?_⟩
  simp only [wE] at w
  refine Call_ (ld_blt I hg hm boot_len ?_)
  refine PyProof.Rows.callWith_builtin1 (PyProof.Rows.args_cons ?_ rfl) rfl rfl
  refine Call_ (ld_blt I hg2 hm2 boot_set ?_)
  refine PyProof.Rows.callWith_type1 (PyProof.Rows.args_cons (thn (ha.run pins s σ H _ I (tD_in r w (fun d v H' e r' p f q => (⟨d, e, r', p.p, q⟩ : ∃ d, Ext G H H' ∧ RE G U0 He H' σ ρ ∧ RpP G (Uo U0 ρ σ) H' d v ∧ onS (b1D .lenset d) Qd)) x)) fun v s1 ⟨y, H1, I1, r1, d, e1, r1', p1, q1⟩ => PyProof.Rows.args_nil ?_) na) na rfl
  obtain ⟨dz, ez, q1⟩ := onS_some q1
  have fin : ∀ (n : Nat) (Sx : Str → Bool) (h' : Heap) (tk : Nat), n ≤ 1000 → dz = .int n → h'.SetOf (PySem.strKind X.prog X.w) s1.heap.objs.size Sx n →
      (∀ b o, b < s1.heap.objs.size → s1.heap.get? b = some o → h'.get? b = some o) →
      wpAny (model X.prog X.w) X.A (spliced (backTo pos (starEach [] X.env))) (fun vs s₂ => wpAny (model X.prog X.w) X.A (call (.builtin "len") (Value.ref s1.heap.objs.size :: vs)) (EP X pins σ Q) X.xe s₂) X.xe { s1 with heap := h', toks := tk } := fun n Sx h' tk hn0 hz hS hk => by
    refine PyProof.Rows.args_nil ?_
    obtain ⟨o, es, ep, t, ho, hex, hd, _, _, _, hf, hn⟩ := hS
    have I2 : Inv X pins σ H1 { s1 with heap := h', toks := tk } := I1.kept fun b o e => hk b o (Heap.lt_size e) e
    subst hz
    refine call_len_set ho hex hd hf (by rw [hn] <;> omega) ⟨.int n, H1, I2.tok _, ⟨_, by rw [hn]⟩, k (.int n) (.int n) H1 e1 rfl (Fre.no rfl) q1⟩
  cases d <;> simp only [b1D] at ez <;> first
    | cases ez
    | skip
  · rename_i t
    split at ez
    · rename_i hl
      cases ez
      cases (show y = V.str (mkS t) from p1)
      obtain ⟨tk, rfl⟩ := r1
      have el : (t.map fun c => mkS [c]).length = t.length := by simp
      have ec : cntTo (t.map fun c => mkS [c]) (t.map fun c => mkS [c]).length = difC (t.map fun c => [c]).reverse := by
        have := cntTo_mk (t.map fun c => [c])
        rw [List.map_map] at this
        exact this
      refine call_set_str (xs := t.map fun c => mkS [c]) (I1.ok.hd hc) (by simp [mkS]) (fun i c hci => ?_) (by rw [el]; exact scan_room hl) fun h' tk' hS hk => fin _ _ h' tk' ?_ (by rw [ec]) hS hk
      · have hc' : t[i]? = some c := by simpa [mkS] using hci
        rw [List.getD_eq_getElem?_getD, List.getElem?_map, hc']
        rfl
      · exact Nat.le_trans (cntTo_le _ _) (by rw [el]; exact hl)
    · cases ez
  · rename_i ds
    rw [Option.bind_eq_some_iff] at ez
    obtain ⟨ss, es, ez⟩ := ez
    split at ez
    · rename_i hl
      cases ez
      obtain ⟨c, vs, ey, rd, l⟩ := p1
      subst ey
      obtain rfl : v = Value.ref c := r1
      rw [l.strs es] at rd
      obtain ⟨its, rv, pl, hz⟩ := I1.list (SqL.of rd)
      refine call_set_strs (xs := ss.map mkS) (I1.ok.hd hc) pl.isList (by simpa using L2.strsAre_of rv) (by rw [List.length_map]; exact scan_room hl) fun h' tk' hS hk => fin _ _ h' tk' ?_ (by rw [cntTo_mk]) hS hk
      exact Nat.le_trans (cntTo_le _ _) (by rw [List.length_map]; exact hl)
    · cases ez
theorem sum_tup_raw {prog : Program} {w : World} {A : Around} {E : Value → Shared → Prop} {s : Shared} {l : Addr} {its : List Value} {ns : List Int} {Q : Value → Shared → Prop} (hh : A.handled = none) (hl : s.heap.IsTuple l its.toArray) (hi : IntsAre its ns)
    (h : ∀ g tk t', (∀ b o, s.heap.get? b = some o → g.get? b = some o) → Q (.int ns.sum t') { s with heap := g, toks := tk }) : wpAny (model prog w) A (call (.builtin "sum") [.ref l]) Q E s := by
  obtain ⟨xs, e⟩ := hi.allInts.items
  have hn : numsOf (intItems xs).toList = ns := by rw [← e]; exact hi.numsOf
  rw [nums_intItems] at hn
  rw [e] at hl
  refine PySem.W.ktm_sumG hh hl fun g tk t' hk => ?_
  have := h g tk t' hk
  rw [preSum_eq, List.take_of_length_le (by simp), hn]; exact this
theorem k_sum (hc : X.calm = true) : CallR X (.builtin "sum") (rK1 (b1D .sum)) := by
  rintro pins s σ H xs us Q I rs ⟨G, U, dx, dz, x, rfl, hU, px, e, o⟩
  cases dx <;> simp only [b1D] at e <;> first
    | cases e
    | skip
  · rw [Option.map_eq_some_iff] at e
    obtain ⟨ns, en, rfl⟩ := e
    obtain ⟨a, vs, ex, hx, lx⟩ := px
    subst ex
    rw [lx.ints en] at hx
    obtain ⟨its, rv, pl, hz⟩ := I.tuple (.inl hx)
    rw [Vals.ref1 rs]
    exact sum_tup_raw (I.ok.hd hc) (show s.heap.IsTuple a its.toArray from pl) rv.ints fun g tk t' hk => ⟨.int _, H, I.kept hk, ⟨_, rfl⟩, o.flat rfl rfl⟩
  · rw [Option.map_eq_some_iff] at e
    obtain ⟨ns, en, rfl⟩ := e
    obtain ⟨a, vs, ex, hx, lx⟩ := px
    rw [lx.ints en] at hx
    exact cr_sum hc pins s σ H [x] us Q I rs ⟨a, ns, by rw [ex], SqL.of hx, o.flat rfl rfl⟩
end
end DL

set_option Elab.async false
set_option linter.all false
set_option maxRecDepth 100000
set_option maxHeartbeats 4000000
/-! DL8: short words for printed walks; the law's own defs. -/
namespace DL
open PySem PySem.Spec PyProof.Rows L2
variable [Tb]
/-- a def that may be called by its name -/
structure Cal (P : Program) (w : World) (K : PySem.W.Frag) (mg : Str → Option Value) (base : Heap) (cls : Nat → Addr) (k : Nat) (x : Str) (S : FS) : Prop where
  ex : ∃ (f : Addr) (fd : FuncData) (ps : List Str), FnOk P w K mg base (L2N.CX P w) k f fd ps (spD cls S) ∧ mg x = some (.ref f) ∧ PySem.W.keepIn K (.ref f) = true ∧ Binds K fd ps []
section
variable {X : Cx} {cls : Nat → Addr} {W : WX} {m m1 m2 : ME} {ms : List ME} {e a b : Expr} {es : List Expr} {pos p p2 : Pos} {x : Str} {i : Nat}
theorem te_fn {S : FS} {k j : Nat} (c : Cal X.prog X.w X.K X.mg X.base cls k x S) (tk : L2N.Takes X W) (hr : Room j X.A) (hk : k ≤ j)
    (ha : PA X (e :: es) (tDs cls W ms)) (hg : Gl X x := by rfl) (hdb : (x == ("__debug__" : Str)) = false := by decide) (he : starEach (e :: es) X.env = (false, eval e X.env) :: starEach es X.env := by rfl) (hpl : (backTo pos (starEach es X.env)).any (·.1) = false := by rfl) :
    PE X (.Call (.Name x p) (e :: es) [] pos) (tD cls W true (.call S ms)) := by
  obtain ⟨f, fd, ps, F, hm, kp, hb⟩ := c.ex
  exact te_call (CXa := L2N.CX X.prog X.w) F (hr.mono hk) hg hm kp hb tk ha hdb he hpl
theorem vis3 {sc : Scope} (h : sc.names.lookup x = some .local ∨ sc.names.lookup x = some .cell ∨ sc.names.lookup x = some .free) : Vis sc x := h
/-- a local name -/
theorem tv (i : Nat) (hN : X.N[i]? = some x := by rfl) (hv : Vis X.env.scope x := by first | exact .inl rfl | exact .inr (.inl rfl) | exact .inr (.inr rfl)) (hd : (x == ("__debug__" : Str)) = false := by decide) (hcd : (x == ("__classdict__" : Str)) = false := by decide) :
    PE X (.Name x pos) (tD cls W true (.var i)) := te_var hN hv hd hcd
theorem tp (i : Nat) (hN : X.N[i]? = some x := by rfl) (hv : Vis X.env.scope x := by first | exact .inl rfl | exact .inr (.inl rfl) | exact .inr (.inr rfl)) (hd : (x == ("__debug__" : Str)) = false := by decide) (hcd : (x == ("__classdict__" : Str)) = false := by decide) :
    PE X (.Name x pos) (tD cls W false (.peek i)) := te_peek hN hv hd hcd
/-- a name as a target -/
theorem gn (i : Nat) (hN : X.N.Nodup) (hi : X.N[i]? = some x := by rfl) (hx : Loc X.env.scope x := by first | exact .inl rfl | exact .inr rfl) (hf : X.fn x = true ∨ X.env.scope.names.lookup x = some .local := by first | exact .inl rfl | exact .inr rfl) : PG X (.Name x pos) (gD (.nm i)) := tg_nm hN hi hx hf
theorem ts_nm (i : Nat) {fr : List Nat} {pos' : Pos} (hN : X.N.Nodup) (he : PE X e (tD cls W true m)) (hi : X.N[i]? = some x := by rfl) (hx : Loc X.env.scope x := by first | exact .inl rfl | exact .inr rfl) (hs : swapsWith e (some (.Name x pos')) pos.line X.env = pure false := by rfl) (hf : X.fn x = true ∨ X.env.scope.names.lookup x = some .local := by first | exact .inl rfl | exact .inr rfl) :
    PS X (.Assign [.Name x pos'] e pos) (tS cls W (.asg (.nm i) fr m)) := ts_set hN hi hx he hs hf
theorem tsl {es : List Expr} (h : PT X e (tT cls W m)) : PT X e (tT cls W m) := h
theorem units0 {k : Nat} (hr : Room k X.A) : X.A.units + 64 < cLine := by have := hr.un; omega
theorem units1 {k : Nat} (hr : Room k X.A) : X.A.units + 1 < cLine := by have := hr.un; omega
theorem tb_len (hm : X.mg "len" = none) (ha : PE X e (tD cls W false m)) (hg : Gl X "len" := by rfl) (he : starEach [e] X.env = (false, eval e X.env) :: starEach [] X.env := by rfl) (hpl : (backTo pos (starEach [] X.env)).any (·.1) = false := by rfl) :
    PE X (.Call (.Name "len" p) [e] [] pos) (tD cls W true (.b1 .len m)) := te_b1B k_len hg hm PySem.boot_len ha (by decide) (by decide) he hpl
theorem tb_all (hc : X.calm = true) (hm : X.mg "all" = none) (ha : PE X e (tD cls W false m)) (hg : Gl X "all" := by rfl) (he : starEach [e] X.env = (false, eval e X.env) :: starEach [] X.env := by rfl) (hpl : (backTo pos (starEach [] X.env)).any (·.1) = false := by rfl) :
    PE X (.Call (.Name "all" p) [e] [] pos) (tD cls W true (.b1 .all m)) := te_b1B (k_all hc) hg hm PyProof.Rows.boot_all ha (by decide) (by decide) he hpl
theorem tb_any (hc : X.calm = true) (hm : X.mg "any" = none) (ha : PE X e (tD cls W false m)) (hg : Gl X "any" := by rfl) (he : starEach [e] X.env = (false, eval e X.env) :: starEach [] X.env := by rfl) (hpl : (backTo pos (starEach [] X.env)).any (·.1) = false := by rfl) :
    PE X (.Call (.Name "any" p) [e] [] pos) (tD cls W true (.b1 .any m)) := te_b1B (k_any hc) hg hm PyProof.Rows.boot_any ha (by decide) (by decide) he hpl
theorem tb_tuple (hm : X.mg "tuple" = none) (ha : PE X e (tD cls W false m)) (hg : Gl X "tuple" := by rfl) (he : starEach [e] X.env = (false, eval e X.env) :: starEach [] X.env := by rfl) (hpl : (backTo pos (starEach [] X.env)).any (·.1) = false := by rfl) :
    PE X (.Call (.Name "tuple" p) [e] [] pos) (tD cls W true (.b1 .tuple m)) := te_b1T k_tuple hg hm PyProof.Rows.boot_tuple ha (by decide) (by decide) he hpl
theorem tb_list (hc : X.calm = true) (hm : X.mg "list" = none) (ha : PE X e (tD cls W false m)) (hg : Gl X "list" := by rfl) (he : starEach [e] X.env = (false, eval e X.env) :: starEach [] X.env := by rfl) (hpl : (backTo pos (starEach [] X.env)).any (·.1) = false := by rfl) :
    PE X (.Call (.Name "list" p) [e] [] pos) (tD cls W true (.b1 .list m)) := te_b1T (k_list hc) hg hm PyProof.Rows.boot_list ha (by decide) (by decide) he hpl
theorem tb_sum (hc : X.calm = true) (hm : X.mg "sum" = none) (ha : PE X e (tD cls W false m)) (hg : Gl X "sum" := by rfl) (he : starEach [e] X.env = (false, eval e X.env) :: starEach [] X.env := by rfl) (hpl : (backTo pos (starEach [] X.env)).any (·.1) = false := by rfl) :
    PE X (.Call (.Name "sum" p) [e] [] pos) (tD cls W true (.b1 .sum m)) := te_b1B (k_sum hc) hg hm PyProof.Rows.boot_sum ha (by decide) (by decide) he hpl
theorem ti {t : Ty} {n : Str} (hm : X.mg "isinstance" = none) (hm2 : X.mg n = none) (ha : PE X e (tD cls W false m)) (hn : n = Str.ofString (tyN t) := by rfl) (hg : Gl X "isinstance" := by rfl) (hg2 : Gl X n := by rfl) (hv2 : bootBuiltins n = some (.type (tyN t)) := by decide +kernel)
    (hn2 : n ≠ "__name__" := by decide) (hdb2 : (n == ("__debug__" : Str)) = false := by decide)
    (he : starEach [e, .Name n p2] X.env = (false, eval e X.env) :: starEach [.Name n p2] X.env := by rfl) (he2 : starEach [.Name n p2] X.env = (false, eval (.Name n p2) X.env) :: starEach [] X.env := by rfl) (hpl : (backTo pos (starEach [.Name n p2] X.env)).any (·.1) = false := by rfl) :
    PE X (.Call (.Name "isinstance" p) [e, .Name n p2] [] pos) (tD cls W true (.isi m t)) := te_isi hg hm hg2 hm2 hv2 ha hn2 hdb2 he he2 hpl
end
section
variable {P : Program} {w : World} {K : PySem.W.Frag} {mg : Str → Option Value} {base : Heap} {cls : Nat → Addr}
/-- a def over data that may be called -/
theorem calD {S : FS} {ms : List MS} {x : Str} {st : Stmt} {f : Addr} {fd : FuncData} {N ps : List Str} {k : Nat} (F : Fun K x x st f fd) (hm : mg x = some (.ref f)) (hb : Binds K fd ps []) (Sc : FnScope N ps (defScope st)) (hn : ps.length ≤ N.length) (hlen : ∀ ds Q X, S ds Q X → ds.length = ps.length)
    (hbody : ∀ (cdv : Value) (A : Around) (outer : List Env) (s : Shared) (H : Hp) (E : XK), Body P w K mg base cls k (cxOf (L2N.CX P w) P w K mg base N x (defScope st) f cdv A outer s H E) (fun c d _ H => E c d H) →
      PSs (cxOf (L2N.CX P w) P w K mg base N x (defScope st) f cdv A outer s H E) (defBody st) (tSs cls (fun c d _ H => E c d H) ms))
    (obl : ∀ ds Q Xd, S ds Q Xd → wSs ms (envD N.length ds) (fun _ => Q .non) Q Xd) : Cal P w K mg base cls (k + 1) x S :=
  ⟨f, fd, ps, fnD F Sc hn hlen hbody obl, hm, F.kp, hb⟩
end
end DL

set_option Elab.async false
set_option linter.all false
set_option maxRecDepth 100000
set_option maxHeartbeats 4000000
/-! DL9: the dice, the cells, the rounds of a law. -/
namespace DL
open PySem PySem.Spec PyProof.Rows L2
variable [Tb]
/-- what _law_drawn promises: some int -/
def S_drawn : FS := fun ds Q _ => ∃ a b : Int, ds = [.int a, .int b] ∧ ∀ r : Int, Q (.int r)
def S_roll : FS := fun ds Q _ => ∃ n : Int, ds = [.dice, .int n] ∧ 0 < n ∧ n < 1073741824 ∧ ∀ r : Int, 0 ≤ r → r < n → Q (.int r)
/-- _law_drawn(dice[0], dice[1]), by values -/
def tDr (K : PySem.W.Frag) : TE := fun σ H Q => ∃ a i j, σ[0]? = some (some (.ref a)) ∧ H a = some (.lst [.int i, .int j]) ∧ LamX.Tabs Tb.tabs H ∧ ∀ (r : Int) H', Ext ⟨fun _ => False⟩ H H' → Q (.int r) H'
section
variable {X : Cx} {cls : Nat → Addr} {W : WX} {x : Str} {pos p : Pos} {e1 e2 : Expr} {k j : Nat}
theorem pe_dr (c : Cal X.prog X.w X.K X.mg X.base cls k x S_drawn) (tk : L2N.Takes X W) (hr : Room j X.A) (hk : k ≤ j) (ha : PA X [e1, e2] (tCons (tOp (rIx X.K) (tVar 0) (tC (.int 0))) (tCons (tOp (rIx X.K) (tVar 0) (tC (.int 1))) tNil)))
    (hg : Gl X x := by rfl) (hdb : (x == ("__debug__" : Str)) = false := by decide) (he : starEach [e1, e2] X.env = (false, eval e1 X.env) :: starEach [e2] X.env := by rfl) (hpl : (backTo pos (starEach [e2] X.env)).any (·.1) = false := by rfl) :
    PE X (.Call (.Name x p) [e1, e2] [] pos) (tDr X.K) := by
  obtain ⟨f, fd, ps, F, hm, kp, hb⟩ := c.ex
  refine (pe_callS F (hr.mono hk) hg hm kp hb (fun σ => L2N.passAt tk σ) ha hdb he hpl).imp fun σ H Q ⟨a, i, j, h0, hH, hT, q⟩ => ?_
  have at0 : atI [V.int i, V.int j] 0 = some (V.int i) := atI_nat (xs := [V.int i, V.int j]) (j := 0) rfl
  have at1 : atI [V.int i, V.int j] 1 = some (V.int j) := atI_nat (xs := [V.int i, V.int j]) (j := 1) rfl
  refine ⟨_, h0, .inl ⟨a, _, _, _, rfl, rfl, SqL.of hH, at0, _, h0, .inl ⟨a, _, _, _, rfl, rfl, SqL.of hH, at1, ?_⟩⟩⟩
  refine ⟨⟨fun _ => False⟩, GI.mv ⟨fun _ => False⟩, [.int i, .int j], fun d => ∃ r : Int, d = .int r, fun _ => False, fun _ z => z, ?_, ⟨fun _ z => z.elim, hT⟩, ⟨_, _, rfl, rfl, _, _, rfl, rfl, rfl⟩, ⟨i, j, rfl, fun r => ⟨r, rfl⟩⟩, ?_, fun _ _ _ z => z.elim⟩
  · rintro b (z | ⟨_, z⟩)
    · exact z.elim
    · obtain ⟨ps, z, _⟩ := hT _ z
      exact ⟨_, z⟩
  · rintro d v H' ex p ⟨r, rfl⟩
    rw [show v = V.int r from p]
    exact q r H' ex
end
theorem Ext.none {G : GI} {H H' : Hp} (e : Ext ⟨fun _ => False⟩ H H') : Ext G H H' := by
  refine ⟨fun a o h n => e.keep a o h fun z => n (z.elim False.elim .inr), fun g => ⟨fun b db => ?_, (e.inv ⟨fun _ z => z.elim, g.2⟩).2⟩⟩
  obtain ⟨i, j, h⟩ := g.1 b db
  refine ⟨i, j, e.keep b _ h ?_⟩
  rintro (z | ⟨_, z⟩)
  · exact z.elim
  · obtain ⟨ps, z, _⟩ := g.2 _ z
    rw [h] at z; cases z
/-- the body of _law_roll, read -/
def tRoll (K : PySem.W.Frag) : TS :=
  tSeq (tIfS (tTest (tOp (rI0 fun i j => .bl (decide (j ≤ i))) (tOp (rIx K) (tVar 0) (tC (.int 0))) (tOp (rI CPow fun i j => .int (i ^ j.toNat)) (tC (.int 10)) (tC (.int 18)))))
    (tSeq (tAsg (tOp (rI (fun _ j => 0 < j) fun i j => .int (i % j)) (tOp (rIx K) (tVar 0) (tC (.int 0))) (tVar 1)) (gName 2))
      (tSeq (tAsg (tOp (rI CDiv fun i j => .int (i / j)) (tOp (rIx K) (tVar 0) (tC (.int 0))) (tVar 1)) (gSub (tVar 0) (tC (.int 0)) rSetL)) (tRet (tVar 2)))) tNext)
  (tSeq (tAsg (tOp (rI0 fun i j => .int (i + j)) (tOp (rIx K) (tVar 0) (tC (.int 1))) (tC (.int 1))) (gSub (tVar 0) (tC (.int 1)) rSetL))
    (tRet (tOp (rI (fun _ j => 0 < j) fun i j => .int (i % j)) (tOp (rI CDiv fun i j => .int (i / j)) (tDr K) (tC (.int 8))) (tVar 1))))
theorem roll_run {cls : Nat → Addr} {K : PySem.W.Frag} {vs : List V} {H : Hp} {Q : VK} {E : XK} {N : List Str} (hN : N.length = 3) (h : spD cls S_roll vs H Q E) : tRoll K { nx := fun _ H' => Q .non H', rt := Q } (L2.start N vs) H := by
  obtain ⟨G, U0, ds, Qd, Xd, hm, ht, hi, l, ⟨n, rfl, n0, n1, q⟩, k1, k2⟩ := h
  obtain ⟨v0, r0, rfl, p0, v1, r1, rfl, p1, rfl⟩ := l
  obtain ⟨a, rfl, da⟩ := p0
  cases (show v1 = V.int n from p1)
  obtain ⟨i, j, hH⟩ := hi.1 a da
  have es : L2.start N [V.ref a, V.int n] = [some (V.ref a), some (V.int n), none] := by
    unfold L2.start
    rw [hN]; rfl
  rw [es]
  have at0 : ∀ x y : V, atI [x, y] 0 = some x := fun x y => atI_nat (xs := [x, y]) (j := 0) rfl
  have at1 : ∀ x y : V, atI [x, y] 1 = some y := fun x y => atI_nat (xs := [x, y]) (j := 1) rfl
  have mva : G.mv a := .inl da
  have ix0 : ixN [V.int i, V.int j].length 0 = some 0 := rfl
  have ix1 : ixN [V.int i, V.int j].length 1 = some 1 := rfl
  have extU : ∀ i' j' : Int, Ext G H (upd H a (.lst [.int i', .int j'])) := fun i' j' => ⟨fun b o z nm => by rw [upd_ne (fun e => nm (by rw [e]; exact mva))]; exact z, fun g => ⟨fun b db => by
      by_cases e : b = a
      · subst e; exact ⟨i', j', upd_same⟩
      · obtain ⟨x, y, z⟩ := g.1 b db; exact ⟨x, y, by rw [upd_ne e]; exact z⟩, fun p hp => by
      obtain ⟨ps, z1, z2, z3⟩ := g.2 p hp
      have ne : p.1 ≠ a := fun e => by rw [e, hH] at z1; cases z1
      refine ⟨ps, by rw [upd_ne ne]; exact z1, z2, fun ps' cv hc => ?_⟩
      obtain ⟨c, h1, h2⟩ := z3 ps' cv hc
      refine ⟨c, h1, ?_⟩
      rw [upd_ne (fun e => by rw [e, hH] at h2; cases h2)]; exact h2⟩⟩
  have fin : ∀ (z : Int) (i' j' : Int) (H' : Hp), Ext G (upd H a (.lst [.int i', .int j'])) H' → 0 ≤ z → z < n → Q (.int z) H' := fun z i' j' H' sm z0 z1 => k1 (.int z) (.int z) H' ((extU i' j').trans sm) rfl (q z z0 z1)
  refine ⟨_, rfl, .inl ⟨a, _, 0, _, rfl, rfl, SqL.of hH, at0 _ _, (10 : Int), (18 : Int), rfl, rfl, ⟨by decide, by decide, by decide⟩, i, _, rfl, rfl, _, rfl, ?_⟩⟩
  refine ite2 (fun _ => ?_) (fun _ => ?_)
  · refine ⟨_, rfl, .inl ⟨a, _, 0, _, rfl, rfl, SqL.of hH, at0 _ _, _, rfl, i, n, rfl, rfl, n0, ?_⟩⟩
    refine ⟨_, rfl, .inl ⟨a, _, 0, _, rfl, rfl, SqL.of hH, at0 _ _, _, rfl, i, n, rfl, rfl, ⟨n0, n1⟩, ?_⟩⟩
    refine ⟨_, rfl, a, _, 0, 0, rfl, rfl, hH, ix0, ?_⟩
    exact ⟨_, rfl, fin (i % n) (i / n) j _ (Ext.refl _ _) (Int.emod_nonneg _ (by omega)) (Int.emod_lt_of_pos _ n0)⟩
  · refine ⟨_, rfl, .inl ⟨a, _, 1, _, rfl, rfl, SqL.of hH, at1 _ _, j, 1, rfl, rfl, ?_⟩⟩
    refine ⟨_, rfl, a, _, 1, 1, rfl, rfl, hH, ix1, ?_⟩
    refine ⟨a, i, j + 1, rfl, upd_same, ((extU i (j + 1)).inv hi).2, fun r H' sm => ?_⟩
    exact ⟨r, 8, rfl, rfl, ⟨by decide, by decide⟩, _, rfl, _, n, rfl, rfl, n0, fin _ i (j + 1) H' sm.none (Int.emod_nonneg _ (by omega)) (Int.emod_lt_of_pos _ n0)⟩
end DL

set_option Elab.async false
set_option linter.all false
set_option maxRecDepth 100000
set_option maxHeartbeats 4000000
/-! DL9b: the cells, the rounds, the loop of a law. -/
namespace DL
open PySem PySem.Spec PyProof.Rows L2
variable [Tb]
/-- a script is nothing -/
def rEqE (K : PySem.W.Frag) : R2 := fun x y H Q => ∃ (a b : Addr) (ns : List Int), x = .ref a ∧ y = .ref b ∧ SqL K H a (ns.map V.int) ∧ H b = some (.lst []) ∧ Q (.bl ns.isEmpty) H
theorem dp_ints {K : PySem.W.Frag} {H : Hp} : ∀ ns : List Int, DpAll K H (ns.map V.int) (ns.map PyData.int)
  | [] => .nil
  | n :: ns => .cons (.int n) (dp_ints ns)
theorem ints_plain : ∀ ns : List Int, PyData.plainAll (ns.map PyData.int) = true ∧ PyData.depthAll (ns.map PyData.int) = 0
  | [] => ⟨rfl, rfl⟩
  | n :: ns => by
    obtain ⟨h1, h2⟩ := ints_plain ns
    exact ⟨by simp [PyData.plainAll, PyData.plain, h1], by simp [PyData.depthAll, PyData.depth, h2]⟩
section
variable {X : Cx}
theorem oc_eqE (hu : X.A.units + 64 < cLine) : OpR X (compareOp .Eq) (rEqE X.K) := by
  intro pins s σ H x y v u Q I rx ry ⟨a, b, ns, ex, ey, h1, h2, q⟩
  subst ex ey
  obtain ⟨as, r1⟩ := Dp.reads I (.list (ns.map .int)) _ v (.lst h1 (dp_ints ns)) rx
  obtain ⟨bs, r2⟩ := Dp.reads I (.list []) _ u (.lst (SqL.of h2) .nil) ry
  obtain ⟨p1, d1⟩ := ints_plain ns
  refine SeqAt.eq_plain r1 r2 (by simpa [PyData.plain] using p1) rfl (by simp [PyData.depth, PyData.depthAll]; omega) ?_
  have e : PyData.eqv (.list (ns.map .int)) (.list []) = ns.isEmpty := by
    cases ns with
    | nil => simp [PyData.eqv, PyData.eqvAll]
    | cons n r => simp [PyData.eqv, PyData.eqvAll]
  rw [e]
  exact ⟨.bl _, H, I, rfl, q⟩
end
def rLenK (K : PySem.W.Frag) : List V → Hp → VK → Prop := fun xs H Q => ∃ x n, xs = [x] ∧ LenV K x H n ∧ Q (.int n) H
/-- _law_cell's promise -/
def spCellL (K : PySem.W.Frag) : Sp := fun vs H Q _ => ∃ (a : Addr) (ns : List Int) (k : Nat), vs = [.ref a, .int (k : Int)] ∧ SqL K H a (ns.map V.int) ∧ ns.length ≤ 63 ∧ k ≤ 1000 ∧ ∀ (r : Int) H', Same H H' → Q (.int r) H'
def tCellL (K : PySem.W.Frag) : TS :=
  tSeq (tIfS (tTest (tOp (rEqE K) (tVar 0) (tLst tNil))) (tSeq (tRet (tOp (rI CMul fun i j => .int (i * j)) (tVar 1) (tC (.int 7919)))) tNext) tNext)
  (tRet (tOp (rI0 fun i j => .int (i + j)) (tOp (rIx K) (tVar 0) (tOp (rI (fun _ j => 0 < j) fun i j => .int (i % j)) (tVar 1) (tCB (rLenK K) (tCons (tVar 0) tNil))))
    (tOp (rI CMul fun i j => .int (i * j)) (tOp (rI CDiv fun i j => .int (i / j)) (tVar 1) (tCB (rLenK K) (tCons (tVar 0) tNil))) (tC (.int 104729)))))
theorem Same.seq {K : PySem.W.Frag} {H H' : Hp} (e : Same H H') {a : Addr} {xs : List V} (h : SqL K H a xs) : SqL K H' a xs := h.elim (fun h => .inl (Same.rd e h)) .inr
theorem cell_runL {K : PySem.W.Frag} {vs : List V} {H : Hp} {Q : VK} {E : XK} {N : List Str} (h : spCellL K vs H Q E) : tCellL K { nx := fun _ H' => Q .non H', rt := Q } (L2.start N vs) H := by
  obtain ⟨a, ns, k, rfl, hs, hl, hk, q⟩ := h
  have s0 : (L2.start N [V.ref a, V.int (k : Int)])[0]? = some (some (V.ref a)) := rfl
  have s1 : (L2.start N [V.ref a, V.int (k : Int)])[1]? = some (some (V.int (k : Int))) := rfl
  refine ⟨_, s0, Nat.zero_le _, fun p hp => ⟨a, p, ns, rfl, rfl, Same.seq (same_upd hp) hs, upd_same, _, rfl, ?_⟩⟩
  have cm : ∀ (i j : Int), j.natAbs < 2 ^ 60 → CMul i j := fun i j h => .inr ⟨by omega, by omega⟩
  cases ns with
  | nil => exact ⟨_, s1, k, 7919, rfl, rfl, cm _ _ (by decide), q _ _ (same_upd hp)⟩
  | cons n r =>
    have hs' := Same.seq (same_upd (o := .lst []) hp) hs
    have hln : (0 : Int) < (((n :: r).map V.int).length : Nat) := by rw [List.length_map, List.length_cons]; omega
    have lenv : LenV K (.ref a) (upd H p (.lst [])) ((n :: r).map V.int).length := .inl ⟨_, hs', rfl⟩
    refine ⟨_, s0, _, s1, _, s0, _, _, rfl, lenv, _, _, rfl, rfl, hln, ?_⟩
    have h0 := Int.emod_nonneg (k : Int) (Int.ne_of_gt hln)
    have h1 := Int.emod_lt_of_pos (k : Int) hln
    obtain ⟨j, hj⟩ : ∃ j : Nat, (k : Int) % (((n :: r).map V.int).length : Nat) = j := ⟨_, (Int.toNat_of_nonneg h0).symm⟩
    have hj2 : j < (n :: r).length := by rw [hj, List.length_map] at h1; omega
    have at_ : atI ((n :: r).map V.int) ((k : Int) % (((n :: r).map V.int).length : Nat)) = some (.int ((n :: r)[j])) := by
      rw [hj]
      refine atI_nat ?_
      rw [List.getElem?_map, List.getElem?_eq_getElem hj2]; rfl
    refine .inl ⟨a, _, _, _, rfl, rfl, hs', at_, ?_⟩
    refine ⟨_, s1, _, s0, _, _, rfl, lenv, _, _, rfl, rfl, ⟨hln, by simp at hl ⊢; omega⟩, ?_⟩
    exact ⟨_, _, rfl, rfl, cm _ _ (by decide), _, _, rfl, rfl, q _ _ (same_upd hp)⟩
/-- _law_rounds' promise: new dices -/
def spRounds (K : PySem.W.Frag) : Sp := fun vs H Q _ => ∃ (a : Addr) (ns : List Int) (m : Nat), vs = [.ref a, .int (m : Int)] ∧ SqL K H a (ns.map V.int) ∧ ns.length ≤ 63 ∧ m ≤ 100 ∧
  ∀ (L : Addr) (ds : List Addr) H', Same H H' → H L = none → H' L = some (.lst (ds.map V.ref)) → (∀ d ∈ ds, H d = none ∧ d ≠ L ∧ ∃ i j, H' d = some (.lst [.int i, .int j])) → Q (.ref L) H'
def rMax2 : List V → Hp → VK → Prop := fun xs H Q => ∃ i j : Int, xs = [.int i, .int j] ∧ Q (.int (if j > i then j else i)) H
def rMin2 : List V → Hp → VK → Prop := fun xs H Q => ∃ i j : Int, xs = [.int i, .int j] ∧ Q (.int (if j < i then j else i)) H
def tRounds (K : PySem.W.Frag) (E : St → XK) : TS :=
  tRet (tLc (iRng1 (tCons (tCB rMax2 (tCons (tC (.int 1)) (tCons (tCB rMin2 (tCons (tVar 1) (tCons (tCB (rLenK K) (tCons (tVar 0) tNil)) tNil))) tNil))) tNil)) (gName 2) tYes
    (tLst (tCons (tCallS (spCellL K) E (tCons (tVar 0) (tCons (tVar 2) tNil))) (tCons (tC (.int 0)) tNil))) [2])
theorem rounds_run {K : PySem.W.Frag} {vs : List V} {H : Hp} {Q : VK} {E : XK} {E' : St → XK} {N : List Str} (hN : N.length = 3) (h : spRounds K vs H Q E) : tRounds K E' { nx := fun _ H' => Q .non H', rt := Q } (L2.start N vs) H := by
  obtain ⟨a, ns, m, rfl, hs, hl, hm, q⟩ := h
  have es : L2.start N [V.ref a, V.int (m : Int)] = [some (V.ref a), some (V.int (m : Int)), none] := by
    unfold L2.start
    rw [hN]; rfl
  rw [es]
  have lenv : LenV K (.ref a) H (ns.map V.int).length := .inl ⟨_, hs, rfl⟩
  obtain ⟨tt, ett, ht⟩ : ∃ tt : Int, tt = (if (if (((ns.map V.int).length : Nat) : Int) < (m : Int) then (((ns.map V.int).length : Nat) : Int) else (m : Int)) > 1 then (if (((ns.map V.int).length : Nat) : Int) < (m : Int) then (((ns.map V.int).length : Nat) : Int) else (m : Int)) else 1) ∧ 0 ≤ tt ∧ tt ≤ 100 := by
    refine ⟨_, rfl, ?_⟩
    rw [List.length_map]
    split <;> (try split) <;> omega
  refine ⟨_, rfl, _, rfl, _, _, rfl, lenv, _, _, rfl, _, _, rfl, tt, by rw [ett], by omega, by omega, ?_⟩
  intro Dn hD
  refine lc_range (fun i H' => ∃ ds : List Addr, H' Dn = some (.lst (ds.map V.ref)) ∧ ds.length ≤ i ∧ (∀ b o, H b = some o → H' b = some o) ∧ ∀ d ∈ ds, H d = none ∧ d ≠ Dn ∧ ∃ i j, H' d = some (.lst [.int i, .int j])) ?_ (fun i H' hi ⟨ds, h1, h2, h3, h4⟩ => ?_) fun H' ⟨ds, h1, h2, h3, h4⟩ => ?_
  · exact ⟨[], upd_same, Nat.le_refl _, same_upd hD, by simp⟩
  · refine ⟨rfl, ?_⟩
    refine ⟨_, rfl, _, rfl, a, ns, i, by rw [Int.zero_add], Same.seq h3 hs, hl, by omega, fun r H2 sm => ?_⟩
    refine ⟨by show 2 ≤ sizeLine; decide, fun p hp => ?_⟩
    have pD : Dn ≠ p := ne_of_none (sm _ _ h1) hp
    refine ⟨_, by rw [upd_ne pD]; exact sm _ _ h1, by rw [List.length_map, sizeLine_eq]; omega, ds ++ [p], ?_, by simp; omega, fun b o z => ?_, fun d hd => ?_⟩
    · rw [upd_same, List.map_append]; rfl
    · have z2 := sm _ _ (h3 b o z)
      have nb : b ≠ Dn := fun e => by rw [e, hD] at z; cases z
      rw [upd_ne nb, upd_ne (ne_of_none z2 hp)]; exact z2
    · rcases List.mem_append.mp hd with hd | hd
      · obtain ⟨g1, g2, i', j', g3⟩ := h4 d hd
        exact ⟨g1, g2, i', j', by rw [upd_ne g2, upd_ne (ne_of_none (sm _ _ g3) hp)]; exact sm _ _ g3⟩
      · rw [List.mem_singleton] at hd
        subst hd
        refine ⟨?_, pD.symm, r, 0, by rw [upd_ne pD.symm, upd_same]⟩
        cases z : H d with
        | none => rfl
        | some o =>
          have := sm _ _ (h3 d o z)
          rw [hp] at this; cases this
  · exact q Dn ds H' h3 hD h1 h4

/-! ### the law -/
def envLaw (n : Nat) : DEnv := .no :: .imm .dice :: List.replicate (n - 2) .no
def spLawD (K : PySem.W.Frag) : Sp := fun vs H Q _ => ∃ (a : Addr) (ns : List Int), vs = [.ref a] ∧ SqL K H a (ns.map V.int) ∧ ns.length ≤ 63 ∧ LamX.Tabs Tb.tabs H ∧ ∀ H', Q (.bl true) H'
def tLaw (K : PySem.W.Frag) (E : St → XK) (m : Int) (cls : Nat → Addr) (W : WX) (ms : List MS) : TS :=
  tSeq (tFor (iList K (tCallS (spRounds K) E (tCons (tVar 0) (tCons (tC (.int m)) tNil)))) (gName 1) (tSs cls W ms)) (tRet (tC (.bl true)))
theorem law_run {K : PySem.W.Frag} {vs : List V} {H : Hp} {Q : VK} {E : XK} {E' : St → XK} {N : List Str} {m : Nat} {cls : Nat → Addr} {W : WX} {ms : List MS} (hN : 2 ≤ N.length) (hm : m ≤ 100) (h : spLawD K vs H Q E)
    (ob : wSs ms (envLaw N.length) (fun ρ' => ρ'.length = N.length) (fun _ => False) fun _ => False) : tLaw K E' m cls W ms { nx := fun _ H' => Q .non H', rt := Q } (L2.start N vs) H := by
  obtain ⟨a, ns, rfl, hs, hl, hT, q⟩ := h
  have s0 : (L2.start N [V.ref a])[0]? = some (some (V.ref a)) := rfl
  refine ⟨_, s0, a, ns, m, rfl, hs, hl, hm, fun L ds H1 sm hL h1 hd => ?_⟩
  have hT1 : LamX.Tabs Tb.tabs H1 := hT.ext sm
  have Lnt : ∀ p ∈ Tb.tabs, p.1 ≠ L := fun p hp e => by
    obtain ⟨ps, z, _⟩ := hT p hp
    rw [e, hL] at z; cases z
  refine ⟨L, rfl, ⟨_, SqL.of h1⟩, for_list (K := K) (a := L) (xs := ds.map V.ref) (fun _ σ H' => σ.length = N.length ∧ H' L = some (.lst (ds.map V.ref)) ∧ LamX.Tabs Tb.tabs H' ∧ ∀ d ∈ ds, ∃ i j, H' d = some (.lst [.int i, .int j])) ?_ (fun i σ H' _ z => SqL.of z.2.1) (fun i x σ H' hx ⟨z1, z2, z3, z4⟩ => ?_) (fun σ H' _ => q H')⟩
  · refine ⟨?_, h1, hT1, fun d hd' => (hd d hd').2.2⟩
    unfold L2.start
    simp; omega
  · obtain ⟨d, hdm, rfl⟩ : ∃ d ∈ ds, x = V.ref d := by
      rw [List.getElem?_map] at hx
      cases e : ds[i]? with
      | none => rw [e] at hx; cases hx
      | some d => rw [e] at hx; cases hx; exact ⟨d, List.mem_of_getElem? e, rfl⟩
    obtain ⟨i1, j1, hd1⟩ := z4 d hdm
    have r0 : RE ⟨fun b => b = d⟩ (GI.mv ⟨fun b => b = d⟩) H' H' (σ.set 1 (some (V.ref d))) (envLaw N.length) := by
      refine ⟨by simp [envLaw, z1]; omega, fun _ m => m, fun b m => ?_, ⟨fun b e => by subst e; exact ⟨i1, j1, hd1⟩, z3⟩, fun _ _ e _ => e, fun j dd e => ?_, fun j dd e => ?_, fun i j c dd _ e => ?_⟩
      · rcases m with m | ⟨p, m⟩
        · subst m; exact ⟨_, hd1⟩
        · obtain ⟨ps, e, _⟩ := z3 _ m
          exact ⟨_, e⟩
      · match j with
        | 0 => cases e
        | 1 =>
          cases e
          exact ⟨.ref d, by rw [List.getElem?_set_self (by omega)], d, rfl, rfl⟩
        | j + 2 =>
          have e : (List.replicate (N.length - 2) Slot.no)[j]? = some (.imm dd) := e
          rw [List.getElem?_replicate] at e
          split at e <;> cases e
      · match j with
        | 0 => cases e
        | 1 => cases e
        | j + 2 =>
          have e : (List.replicate (N.length - 2) Slot.no)[j]? = some (.own dd) := e
          rw [List.getElem?_replicate] at e
          split at e <;> cases e
      · match i with
        | 0 => cases e
        | 1 => cases e
        | j + 2 =>
          have e : (List.replicate (N.length - 2) Slot.no)[j]? = some (.own dd) := e
          rw [List.getElem?_replicate] at e
          split at e <;> cases e
    refine ⟨_, _, H', envLaw N.length, _, _, _, r0, ob, ⟨fun ρ' σ' H'' r w => ⟨by rw [r.len]; exact w, ?_, r.inv.2, fun d' hd' => ?_⟩, fun _ _ _ _ _ _ _ z => z.elim, fun _ _ _ _ _ z => z.elim⟩⟩
    · refine r.ext L _ z2 ?_
      rintro (e | ⟨p, e⟩)
      · have e : L = d := e
        exact (hd d hdm).2.1 e.symm
      · exact Lnt _ e rfl
    · by_cases e : d' = d
      · subst e; exact r.inv.1 d' rfl
      · obtain ⟨i', j', z⟩ := z4 d' hd'
        refine ⟨i', j', r.ext d' _ z ?_⟩
        rintro (e' | ⟨p, e'⟩)
        · exact e e'
        · obtain ⟨ps, z', _⟩ := z3 _ e'
          rw [z] at z'; cases z'
end DL

set_option Elab.async false
set_option linter.all false
set_option maxRecDepth 100000
set_option maxHeartbeats 4000000
/-! DT1: a list walked to its end while an exception is handled. -/
namespace DL
open PySem PySem.Spec PyProof.Rows L2 HotX
variable [Tb]
section
variable {prog : Program} {w : World} {A : Around} {E : Value → Shared → Prop} {s : Shared}
theorem pyNext_list_end_hot {it l x1 : Addr} {i : Nat} {items : Array Value} {Q : Option Value → Shared → Prop} (hot : HotAt A x1 s.heap) (hne : x1 ≠ it)
    (hit : s.heap.IsListIter it l i) (hl : s.heap.IsList l items) (hx : items[i]? = none)
    (hQ : ∀ h', Heap.ExtBut it s.heap h' → Q none { s with heap := h' }) : wpAny (model prog w) A (pyNext (.ref it)) Q E s := by
  obtain ⟨o, ho, hc, hd⟩ := id hit
  obtain ⟨ol, hol, _, nl, hdl⟩ := hl
  obtain ⟨hh, o1, vs1, h1, d1, c1⟩ := hot
  unfold pyNext
  refine wpAny_bind (wpAny_attempt (wpAny_callSpecial?_slot (name := Str.ofString "__next__") hit.typeIs slot_listiter_next
    (wpAny_call_entry slot_listiter_next hit.typeIs entry_listiter_next ?_ (args_listiter_next _))))
  show wpAny _ _ (field (.ref it) 0 >>= _) _ _ s
  refine wpAny_bind (wpAny_field ho hd (x := .ref l) rfl ?_)
  show wpAny _ _ (if (Value.ref l == Value.none) = true then _ else _) _ _ s
  rw [if_neg (show ¬ ((Value.ref l == Value.none) = true) from Bool.false_ne_true)]
  show wpAny _ _ (field (.ref it) 1 >>= _) _ _ s
  refine wpAny_bind (wpAny_field ho hd (x := .int i 0) rfl ?_)
  show wpAny _ _ (seqItems? (.ref l) >>= _) _ _ s
  refine wpAny_bind (wpAny_seqItems hol hdl ?_)
  simp only [Int.toNat_natCast, hx]
  refine wpAny_bind (wpAny_rule (wpAny_bind (wpAny_setField ho hd (by simp) ?_)))
  have hs₁ : Heap.SameBut it s.heap (s.heap.update it (Obj.mapFields (·.setIfInBounds 0 .none))) := Heap.SameBut.update ..
  generalize s.heap.update it (Obj.mapFields (·.setIfInBounds 0 .none)) = h₁ at hs₁ ⊢
  have h1' : h₁.get? x1 = some o1 := hs₁.extBut _ _ hne h1
  show wpAny _ _ (newExc (.type "StopIteration") [] >>= _) _ _ _
  refine wpAny_bind ?_
  simp only [newExc, newTuple]
  refine wpAny_bind (wpAny_newObj_type ?_ (by size_fits))
  refine wpAny_bind (m := firstArgMember _ _) (wpAny_of_eq (a := Value.none) (by first | rfl | (simp only [firstArgMember]; rfl)) ?_)
  refine wpAny_newObj_type ?_ (by size_fits)
  refine raiseNew_hot ⟨hh, o1, vs1, Heap.get?_push_of_some _ (Heap.get?_push_of_some _ h1'), d1, c1⟩ (Nat.ne_of_lt (Heap.lt_size (Heap.get?_push_of_some _ h1'))) (Heap.get?_push_size _ rfl) rfl (by first | (simp; done) | (simp; omega) | (simp only [Array.size_append]; simp; omega)) ?_
  refine wpAny_bind (wpAny_isInstance (T := "StopIteration") (b := true) ⟨_, Heap.get?_update_self _ (Heap.get?_push_size _ rfl) rfl, rfl⟩ isSubtype_stop ?_)
  refine wpAny_pure (hQ _ fun b o hb e => ?_)
  have e1 := hs₁.extBut b o hb e
  rw [Heap.get?_update_other _ _ (Nat.ne_of_gt (Heap.lt_size (Heap.get?_push_of_some _ e1)))]
  exact Heap.get?_push_of_some _ (Heap.get?_push_of_some _ e1)
end
section
variable {prog : Program} {w : World} {A : Around}
/-- the walk of a list, the handled exception within the footprint -/
theorem Walks.listHot {x1 : Addr} {o1 : Obj} {vs1 : Array Value} (hh : A.handled = some (.ref x1)) (d1 : o1.data = .fields vs1) (c1 : vs1[2]? = some .none) (I ax : Addr) (hne : ax ≠ I) (hx : x1 ≠ I) (items : Array Value) :
    Walks prog w A I [I, ax, x1] [I] items.size (fun i v => items[i]? = some v) (fun i h => h.IsListIter I ax i ∧ h.IsList ax items ∧ h.get? x1 = some o1) where
  sub := fun b hb => by simp at hb; simp [hb]
  frame := fun _ _ _ st hk => ⟨st.1.at fun o e => hk I (by simp) o e, st.2.1.at fun o e => hk ax (by simp) o e, hk x1 (by simp) _ st.2.2⟩
  item := fun i s Q E hi st hQ => by
    refine wpAny_pyNext_list_item st.1 st.2.1 (x := items[i]) (by simp [hi]) fun h' hit' hs' => ?_
    exact hQ _ h' s.toks (by simp [hi]) ⟨hit', st.2.1.extBut hs'.extBut hne, hs'.extBut _ _ hx st.2.2⟩ fun b o hb e => hs'.extBut b o (fun h => hb (by simp [h])) e
  done := fun s Q E st hQ => by
    refine pyNext_list_end_hot ⟨hh, o1, vs1, st.2.2, d1, c1⟩ hx st.1 st.2.1 (by simp) fun h' he => ?_
    exact hQ h' s.toks fun b o hb e => he b o (fun h => hb (by simp [h])) e
  self := fun _ _ _ _ st hQ => wpAny_pyIter_listiter st.1 hQ
end
/-! ### sum([int(x) for x in xs]) there -/
section
variable {X : Cx}
theorem names_hot {i : Nat} {x : Str} {v : V} {pos : Pos} {Q E : Value → Shared → Prop} {pins : List (Addr × Obj)} {σ : St} {H : Hp} {s : Shared} (hN : X.N[i]? = some x) (hv : Vis X.env.scope x) (I : Inv X pins σ H s) (hσ : σ[i]? = some (some v)) (fin : ∀ u, RelV v u → Q u s)
    (hd : (x == ("__debug__" : Str)) = false) (hcd : (x == ("__classdict__" : Str)) = false) : wpAny (model X.prog X.w) X.A (eval (.Name x pos) X.env) Q E s := raw_name hN hv I hσ fin hd hcd
def b01 (b : Bool) : Int := if b then 1 else 0
theorem boolVals {bs : List Bool} {its : List Value} (r : Vals (bs.map V.bl) its) : its = bs.map Value.bool := Vals.bls r
theorem pe_sumHot {i : Nat} {y z : Str} {p0 p1 p2 p3 p4 p5 p6 p7 : Pos} {scope : Scope} {pe : Addr × Obj} (hp : L2H.Hot1 X.A pe) (hpn : pe ∈ X.pn) (hN : X.N[i]? = some y) (hv : Vis X.env.scope y) (hs0 : X.mg "sum" = none) (hi0 : X.mg "int" = none)
    (hfree : ∀ y ∈ scope.names, y.2 ≠ .free) (hcell : ∀ y ∈ scope.names, y.2 ≠ .cell) (hkind : scope.kind = .function) (hnames : ∀ y ∈ scope.names, y.2 = .local → scope.names.lookup y.1 = some .local) (hx : scope.names.lookup z = some .local) (hint : scope.names.lookup ("int" : Str) = some .globalImplicit)
    (hd : (y == ("__debug__" : Str)) = false) (hcd : (y == ("__classdict__" : Str)) = false) (hdz : (z == ("__debug__" : Str)) = false) (hg : Gl X "sum" := by rfl)
    (he1 : starEach [Expr.ListComp (.Call (.Name "int" p2) [.Name z p3] [] p4) [⟨.Name z p5, .Name y p6, [], 0⟩] scope p1] X.env = [(false, eval (Expr.ListComp (.Call (.Name "int" p2) [.Name z p3] [] p4) [⟨.Name z p5, .Name y p6, [], 0⟩] scope p1) X.env)] := by rfl) :
    PE X (.Call (.Name "sum" p0) [.ListComp (.Call (.Name "int" p2) [.Name z p3] [] p4) [⟨.Name z p5, .Name y p6, [], 0⟩] scope p1] [] p7)
      (fun σ H Q => ∃ (a : Addr) (bs : List Bool), σ[i]? = some (some (.ref a)) ∧ H a = some (.lst (bs.map V.bl)) ∧ bs.length ≤ 1000 ∧ Q (.int (bs.map b01).sum) H) := by
  refine ⟨fun pins s σ H Q I ⟨a, bs, h0, hH, hl, q⟩ => ?_⟩
  obtain ⟨hh, vs1, d1, c1⟩ := hp
  obtain ⟨hx1, nx1, _⟩ := I.pin pe (List.mem_append_left _ hpn)
  obtain ⟨mb, hb1, hb2⟩ := I.mod.blt
  refine Call_ (ld_blt I hg hs0 PyProof.Rows.boot_sum ?_)
  refine PyProof.Rows.callWith_builtin1 (PyProof.Rows.args_cons ?_ he1) he1 rfl
  refine wpAny_ListComp_walk (fun _ => true) (fun v u => ∃ b t, v = Value.bool b ∧ u = Value.int (b01 b) t) hfree hcell hkind hnames hx (names_hot hN hv I h0 (fun u ru => ?_) hd hcd)
  cases ru
  obtain ⟨its, rv, pl, hz⟩ := I.list (SqL.of hH)
  have eits := boolVals rv
  have sz : its.toArray.size = bs.length := by simp [eits]
  refine wpAny_pyIter_list pl.isList ?_
  obtain ⟨ol, hol, _⟩ := id pl.isList
  have na : a ≠ s.heap.objs.size := Nat.ne_of_lt (Heap.lt_size hol)
  have nx : pe.1 ≠ s.heap.objs.size := Nat.ne_of_lt (Heap.lt_size hx1)
  refine ⟨s.heap.objs.size, _, _, _, _, _, rfl, Walks.listHot (prog := X.prog) (w := X.w) hh d1 c1 s.heap.objs.size a na nx its.toArray, ?_, ⟨⟨_, Heap.get?_push_size _ rfl, rfl, rfl⟩, pl.isList.push _, Heap.get?_push_of_some _ hx1⟩, ?_, ⟨?_, ?_⟩, ?_⟩
  · rw [sz, sizeLine_eq]; omega
  · intro b hb
    have hlt : ∀ c, c < s.heap.objs.size → c < (s.heap.push { cls := .type "list_iterator", data := .fields #[.ref a, .int 0 0] }).objs.size := fun c hc => by rw [Heap.size_push]; exact Nat.lt_succ_of_lt hc
    rcases List.mem_cons.mp hb with e | hb
    · rw [e, Heap.size_push]; exact Nat.lt_succ_self _
    rcases List.mem_cons.mp hb with e | hb
    · rw [e]; exact hlt _ (Heap.lt_size hol)
    · rw [List.mem_singleton.mp hb]; exact hlt _ (Heap.lt_size hx1)
  · intro C i v s3 m3 E' hP hn hm hk _
    exact wpAny_tests_nil ⟨rfl, s3.heap, s3.toks, rfl, fun _ _ e => e⟩
  · intro C j v s3 m3 E' hP _ hn hm hk _
    obtain ⟨b, rfl⟩ : ∃ b, v = Value.bool b := by
      rw [eits] at hP
      have hP : (bs.map Value.bool)[j]? = some v := by simpa using hP
      rw [List.getElem?_map] at hP
      cases e : bs[j]? with
      | none => rw [e] at hP; cases hP
      | some b => rw [e] at hP; cases hP; exact ⟨b, rfl⟩
    have kb : ∀ b o, X.base.get? b = some o → s3.heap.get? b = some o := fun b o e => hk b o (fun z => by
      have := List.mem_singleton.mp z
      have e2 := I.bk b o e
      rw [this] at e2
      exact absurd (Heap.lt_size e2) (Nat.lt_irrefl _)) (Heap.get?_push_of_some _ (I.bk b o e))
    have hk2 : (compEnv scope C X.env).scope.kind = .function := hkind
    refine Call_ (Calls.Name_function_global hk2 hint (Calls.loadGlobal_builtin (by show s3.heap.Ns X.env.globals X.mg; rw [I.ok.glob]; exact I.mod.glob.keeps kb) hi0 (by show s3.heap.Ns X.env.builtins mb; rw [I.ok.blt]; exact hb1.keeps kb) ((hb2 "int" (by decide)).trans PyProof.Rows.boot_int) ?_) (by decide)) rfl
    refine PyProof.Rows.callWith_type1 (PyProof.Rows.args_cons ?_ rfl) rfl rfl
    refine wpAny_Name (wpAny_loadName_local hk2 hx hn hm (PyProof.Rows.args_nil ?_)) hdz
    exact call_int_bool ⟨⟨b, s3.toks, rfl, rfl⟩, s3.heap, s3.toks + 1, rfl, fun _ _ e => e⟩
  · intro D h' tk ys vs hD hl' hpl hlen hP hF hk
    refine PyProof.Rows.args_nil ?_
    have evs : vs = its := by
      apply List.ext_getElem?
      intro j
      by_cases hj : j < vs.length
      · have e1 : vs[j]? = some vs[j] := List.getElem?_eq_getElem hj
        have e2 := hP j _ e1
        rw [e1]
        exact (by simpa using e2 : its[j]? = some vs[j]).symm
      · rw [List.getElem?_eq_none (by omega), List.getElem?_eq_none (by rw [hlen] at hj; simpa using hj)]
    have eF : vs.filter (fun _ => true) = bs.map Value.bool := by
      rw [List.filter_eq_self.mpr (fun _ _ => rfl), evs, eits]
    rw [eF] at hF
    have old : ∀ b o, s.heap.get? b = some o → h'.get? b = some o := fun b o e => hk b o (fun z => by
      have := List.mem_singleton.mp z
      rw [this] at e
      exact absurd (Heap.lt_size e) (Nat.lt_irrefl _)) (Heap.get?_push_of_some _ e)
    have hyl : ys.size = bs.length := by
      have := Paired.length hF
      simpa using this.symm
    have hyv : ∀ j v, ys[j]? = some v → ∃ t, v = Value.int (b01 (bs.getD j false)) t := fun j v hj => by
      have hg : ∀ (l₁ l₂ : List Value) (j : Nat) (v : Value), Paired (fun v u => ∃ b t, v = Value.bool b ∧ u = Value.int (b01 b) t) l₁ l₂ → l₂[j]? = some v → ∃ b t, l₁[j]? = some (Value.bool b) ∧ v = Value.int (b01 b) t := by
        intro l₁ l₂ j v h
        induction h generalizing j with
        | nil => intro z; simp at z
        | cons r _ ih =>
          intro z
          cases j with
          | zero =>
            obtain ⟨b, t, h1, h2⟩ := r
            simp at z
            subst z h1
            exact ⟨b, t, rfl, h2⟩
          | succ j => exact ih j (by simpa using z)
      obtain ⟨b, t, h1, h2⟩ := hg _ _ j v hF (by simpa using hj)
      rw [List.getElem?_map] at h1
      cases e : bs[j]? with
      | none => rw [e] at h1; cases h1
      | some c =>
        rw [e] at h1
        have h1 : some (Value.bool c) = some (Value.bool b) := h1
        cases h1
        exact ⟨t, by rw [List.getD_eq_getElem?_getD, e]; exact h2⟩
    have hps : ∀ n, n ≤ bs.length → preSum (fun j => b01 (bs.getD j false)) n = ((bs.take n).map b01).sum := fun n => by
      induction n with
      | zero => intro _; rfl
      | succ n ih =>
        intro hn
        have e : bs[n]? = some bs[n] := List.getElem?_eq_getElem hn
        rw [preSum, ih (by omega), List.take_succ, e, List.map_append, List.sum_append, List.getD_eq_getElem?_getD, e]
        simp
    have hb1 : ∀ l : List Bool, 0 ≤ (l.map b01).sum ∧ (l.map b01).sum ≤ l.length := fun l => by
      induction l with
      | nil => simp
      | cons b r ih =>
        have : 0 ≤ b01 b ∧ b01 b ≤ 1 := by cases b <;> simp [b01]
        simp only [List.map_cons, List.sum_cons, List.length_cons]
        omega
    refine call_sum_walk (wpAny_pyIter_list hl' ?_)
    obtain ⟨oD, hoD, _⟩ := id hl'
    have nD : D ≠ h'.objs.size := Nat.ne_of_lt (Heap.lt_size hoD)
    have hx2 := old _ _ hx1
    have nx2 : pe.1 ≠ h'.objs.size := Nat.ne_of_lt (Heap.lt_size hx2)
    refine ⟨h'.objs.size, _, _, _, _, _, fun j => b01 (bs.getD j false), rfl, Walks.listHot (prog := X.prog) (w := X.w) (A := X.A.in1) hh d1 c1 h'.objs.size D nD nx2 ys, ⟨⟨_, Heap.get?_push_size _ rfl, rfl, rfl⟩, hl'.push _, Heap.get?_push_of_some _ hx2⟩, ?_, fun j v hj => hyv j v hj, fun j hj => ?_, fun h'' tk' t' hk' => ?_⟩
    · intro b hb
      have hlt : ∀ c, c < h'.objs.size → c < (h'.push { cls := .type "list_iterator", data := .fields #[.ref D, .int 0 0] }).objs.size := fun c hc => by rw [Heap.size_push]; exact Nat.lt_succ_of_lt hc
      show b < (h'.push { cls := .type "list_iterator", data := .fields #[.ref D, .int 0 0] }).objs.size
      rcases List.mem_cons.mp hb with e | hb
      · rw [e, Heap.size_push]; exact Nat.lt_succ_self _
      rcases List.mem_cons.mp hb with e | hb
      · rw [e]; exact hlt _ (Heap.lt_size hoD)
      · rw [List.mem_singleton.mp hb]; exact hlt _ (Heap.lt_size hx2)
    · rw [hyl] at hj
      have b1 : 0 ≤ b01 (bs.getD j false) ∧ b01 (bs.getD j false) ≤ 1 := by cases bs.getD j false <;> simp [b01]
      have eps : preSum (fun j => b01 (bs.getD j false)) (j + 1) = ((bs.take (j + 1)).map b01).sum := hps (j + 1) hj
      have b2 := hb1 (bs.take (j + 1))
      have b3 : (bs.take (j + 1)).length ≤ 1000 := by rw [List.length_take]; omega
      exact ⟨show InLong (b01 (bs.getD j false)) from ⟨by omega, by omega⟩, by rw [eps]; exact ⟨by omega, by omega⟩⟩
    · rw [hyl, hps _ (Nat.le_refl _), List.take_length]
      refine ⟨.int (bs.map b01).sum, H, I.kept (t' := tk') fun b o e => hk' b o (fun z => ?_) (Heap.get?_push_of_some _ (old b o e)), ⟨t', rfl⟩, q⟩
      have := List.mem_singleton.mp z
      have e2 := old b o e
      rw [this] at e2
      exact absurd (Heap.lt_size e2) (Nat.lt_irrefl _)
end
end DL

set_option Elab.async false
set_option linter.all false
set_option maxRecDepth 100000
set_option maxHeartbeats 4000000
/-! DT2: what an exception is told to be. -/
namespace DL
open PySem PySem.Spec PyProof.Rows L2 HotX
variable [Tb]
section
variable {X : Cx} {pe : Addr × Obj} {D : Addr}
theorem call_isP (hpn : pe ∈ X.pn) (C : ExcC X.K D) (hz : Zc (.ref D) none pe.2) (hf : ∃ vs, pe.2.data = .fields vs) : CallR X (.builtin "isinstance") (rIsE X.K D pe.1) := by
  intro pins s σ H xs us Q I r ⟨c, cv, b, ex, hcv, hk, q⟩
  subst ex
  cases r with
  | cons rx rr =>
    cases rr with
    | cons rt rr =>
      cases rr
      cases rx
      have ec := hcv _ rt
      subst ec
      have hget := (I.pin pe (List.mem_append_left _ hpn)).1
      obtain ⟨vs, hv⟩ := hf
      have J : PySem.W.InstAt s.heap pe.1 pe.2 D none := by
        obtain ⟨a, oe⟩ := pe
        obtain ⟨oc, od, oda, osl⟩ := oe
        obtain ⟨z1, z2⟩ := hz
        dsimp only at z1 z2 hv
        subst z1 z2 hv
        exact ⟨hget, rfl, rfl, trivial⟩
      refine PySem.W.kia_one (PySem.W.handS_kitx_exc C.hg C.hk C.hs C.hd C.ha C.hn C.ht C.hm) I.kIn J hk (fun z => nomatch z) fun tk => ?_
      exact ⟨.bl b, H, I.kept (t' := tk) fun _ _ z => z, rfl, q⟩
/-- isinstance(e, ..), e in slot 0 -/
def tIs (a : Addr) (b : Bool) : TE := fun σ H Q => σ[0]? = some (some (.ref a)) ∧ Q (.bl b) H
theorem pe_isP {y n : Str} {C' : Addr} {b : Bool} {p0 p1 p2 p3 : Pos} (hpn : pe ∈ X.pn) (C : ExcC X.K D) (hz : Zc (.ref D) none pe.2) (hf : ∃ vs, pe.2.data = .fields vs) (hk : PySem.W.kitOne X.K (.ref D) (.ref C') = some b) (hn : X.mg n = some (.ref C')) (hm : X.mg "isinstance" = none)
    (hg : Gl X "isinstance" := by rfl) (hgn : Gl X n := by rfl) (hN : X.N[0]? = some y := by rfl) (hv : Vis X.env.scope y := by first | exact .inl rfl | exact .inr (.inl rfl) | exact .inr (.inr rfl)) (hd : (y == ("__debug__" : Str)) = false := by decide) (hcd : (y == ("__classdict__" : Str)) = false := by decide) (hdn : (n == ("__debug__" : Str)) = false := by decide) :
    PE X (.Call (.Name "isinstance" p0) [.Name y p1, .Name n p2] [] p3) (tIs pe.1 b) :=
  (pe_callB (call_isP hpn C hz hf) hg hm PyProof.Rows.boot_isinstance (pa_cons (pe_var hN hv hd hcd) (pa_cons (pe_glob (v := .ref C') hgn hn rfl hdn) pa_nil))).imp fun σ H Q ⟨h, q⟩ => ⟨.ref pe.1, h, .ref C', .ref C', b, rfl, fun u r => r, hk, q⟩
theorem pe_isV {y : Str} {b : Bool} {p0 p1 p2 p3 : Pos} (hpn : pe ∈ X.pn) (C : ExcC X.K D) (hz : Zc (.ref D) none pe.2) (hf : ∃ vs, pe.2.data = .fields vs) (hk : PySem.W.kitOne X.K (.ref D) (.type "ValueError") = some b) (hn : X.mg "ValueError" = none) (hm : X.mg "isinstance" = none)
    (hg : Gl X "isinstance" := by rfl) (hgn : Gl X "ValueError" := by rfl) (hN : X.N[0]? = some y := by rfl) (hv : Vis X.env.scope y := by first | exact .inl rfl | exact .inr (.inl rfl) | exact .inr (.inr rfl)) (hd : (y == ("__debug__" : Str)) = false := by decide) (hcd : (y == ("__classdict__" : Str)) = false := by decide) :
    PE X (.Call (.Name "isinstance" p0) [.Name y p1, .Name "ValueError" p2] [] p3) (tIs pe.1 b) :=
  (pe_callB (call_isP hpn C hz hf) hg hm PyProof.Rows.boot_isinstance (pa_cons (pe_var hN hv hd hcd) (pa_cons (pe_bltn (v := .ty "ValueError") (u := .type "ValueError") hgn hn (by decide +kernel) rfl) pa_nil))).imp fun σ H Q ⟨h, q⟩ => ⟨.ref pe.1, h, .ty "ValueError", .type "ValueError", b, rfl, fun u r => r, hk, q⟩
end
/-! ### _law_term -/
def tSumH (i : Nat) : TE := fun σ H Q => ∃ (a : Addr) (bs : List Bool), σ[i]? = some (some (.ref a)) ∧ H a = some (.lst (bs.map V.bl)) ∧ bs.length ≤ 1000 ∧ Q (.int (bs.map b01).sum) H
def tK (s : List Nat) : TE := tC (.str (mkS s))
theorem pe_k {X : Cx} {x : Str} {j : Nat} {pos : Pos} (s : List Nat) (hs : x = mkS s := by rfl) : PE X (.Constant (.str x) j pos) (tK s) := by
  subst hs
  exact pe_str
def tA3 (x y z : TE) : TA := tCons x (tCons y (tCons z tNil))
def tA6 (a b c x y z : TE) : TA := tCons a (tCons b (tCons c (tA3 x y z)))
def tTerm (K : PySem.W.Frag) (a : Addr) (fl : Nat → Bool) (ve : Bool) : TS :=
  tSeq (tAsg (tLst (tA3 (tIs a (fl 0)) (tIs a (fl 1)) (tIs a (fl 2)))) (gName 1))
  (tSeq (tAsg (tOp rCat (tVar 1) (tLst (tA3 (tIs a (fl 3)) (tIs a (fl 4)) (tIs a (fl 5))))) (gName 1))
  (tSeq (tAsg (tOp rCat (tVar 1) (tLst (tA3 (tIs a (fl 6)) (tIs a (fl 7)) (tIs a (fl 8))))) (gName 1))
  (tSeq (tAsg (tOp rCat (tVar 1) (tLst (tA3 (tIs a (fl 9)) (tIs a (fl 10)) (tIs a (fl 11))))) (gName 1))
  (tSeq (tAsg (tLst (tA6 (tK (excName 0)) (tK (excName 1)) (tK (excName 2)) (tK (excName 3)) (tK (excName 4)) (tK (excName 5)))) (gName 2))
  (tSeq (tAsg (tOp rCat (tVar 2) (tLst (tA6 (tK (excName 6)) (tK (excName 7)) (tK (excName 8)) (tK (excName 9)) (tK (excName 10)) (tK (excName 11))))) (gName 2))
  (tSeq (tIfS (tOr (tB (tNeI (tSumH 1) (tC (.int 1)))) (tNot (tB (tIs a ve)))) (tSeq (tRet (tTup (tCons (tK [101, 114, 114, 111, 114]) (tCons (tK [111, 116, 104, 101, 114]) tNil)))) tNext) tNext)
  (tSeq (tRet (tTup (tCons (tK [101, 114, 114, 111, 114]) (tCons (tOp (rIx K) (tVar 2) (tBM K "list" (rIndex K) (tVar 1) (tCons (tC (.bl true)) tNil))) tNil)))) tNext)))))))
def flV (j : Nat) : List V := (List.range 12).map fun k => V.bl (decide (j = k))
def kdV : List V := (List.range 12).map fun k => V.str (mkS (excName k))
theorem fl_sum : ∀ j < 12, (((List.range 12).map fun k => decide (j = k)).map b01).sum = 1 := by decide
theorem newF {H H' : Hp} {p : Addr} {o : HO} (n : H p = none) (e : upd H p o = H') : Same H H' ∧ H' p = some o := e ▸ ⟨same_upd n, upd_same⟩
theorem term_run {K : PySem.W.Frag} {a : Addr} {j : Nat} {N : List Str} {H : Hp} {Q : VK} (hN : N.length = 3) (hj : j < 12) (h : ∀ (p : Addr) (H' : Hp), Same H H' → H' p = some (.tup [.str (mkS [101, 114, 114, 111, 114]), .str (mkS (excName j))]) → Q (.ref p) H') :
    tTerm K a (fun k => decide (j = k)) true { nx := fun _ H' => Q .non H', rt := Q } (L2.start N [.ref a]) H := by
  have es : L2.start N [V.ref a] = [some (V.ref a), none, none] := by
    unfold L2.start
    rw [hN]; rfl
  rw [es]
  have sz : ∀ n : Nat, n ≤ 1000 → n ≤ sizeLine := fun n h => by rw [sizeLine_eq]; omega
  refine ⟨rfl, rfl, rfl, sz _ (by simp), fun p1 n1 => ?_⟩
  generalize hh : upd H p1 _ = H1
  obtain ⟨s1, e1⟩ := newF n1 hh
  clear hh
  refine ⟨_, rfl, rfl, rfl, rfl, sz _ (by simp), fun p2 n2 => ?_⟩
  generalize hh : upd H1 p2 _ = H2
  obtain ⟨s2, e2⟩ := newF n2 hh
  clear hh
  refine ⟨p1, p2, _, _, rfl, rfl, s2 _ _ e1, e2, sz _ (by simp), fun p3 n3 => ?_⟩
  generalize hh : upd H2 p3 _ = H3
  obtain ⟨s3, e3⟩ := newF n3 hh
  clear hh
  refine ⟨_, rfl, rfl, rfl, rfl, sz _ (by simp), fun p4 n4 => ?_⟩
  generalize hh : upd H3 p4 _ = H4
  obtain ⟨s4, e4⟩ := newF n4 hh
  clear hh
  refine ⟨p3, p4, _, _, rfl, rfl, s4 _ _ e3, e4, sz _ (by simp), fun p5 n5 => ?_⟩
  generalize hh : upd H4 p5 _ = H5
  obtain ⟨s5, e5⟩ := newF n5 hh
  clear hh
  refine ⟨_, rfl, rfl, rfl, rfl, sz _ (by simp), fun p6 n6 => ?_⟩
  generalize hh : upd H5 p6 _ = H6
  obtain ⟨s6, e6⟩ := newF n6 hh
  clear hh
  refine ⟨p5, p6, _, _, rfl, rfl, s6 _ _ e5, e6, sz _ (by simp), fun p7 n7 => ?_⟩
  generalize hh : upd H6 p7 _ = H7
  obtain ⟨s7, e7⟩ := newF n7 hh
  clear hh
  refine ⟨sz _ (by simp), fun p8 n8 => ?_⟩
  generalize hh : upd H7 p8 _ = H8
  obtain ⟨s8, e8⟩ := newF n8 hh
  clear hh
  refine ⟨_, rfl, sz _ (by simp), fun p9 n9 => ?_⟩
  generalize hh : upd H8 p9 _ = H9
  obtain ⟨s9, e9⟩ := newF n9 hh
  clear hh
  refine ⟨p8, p9, _, _, rfl, rfl, s9 _ _ e8, e9, sz _ (by simp), fun p10 n10 => ?_⟩
  generalize hh : upd H9 p10 _ = H10
  obtain ⟨s10, e10⟩ := newF n10 hh
  clear hh
  have t10 := ((((((((s1.trans s2).trans s3).trans s4).trans s5).trans s6).trans s7).trans s8).trans s9).trans s10
  have f7 : H10 p7 = some (.lst (flV j)) := s10 _ _ (s9 _ _ (s8 _ _ e7))
  have f10 : H10 p10 = some (.lst kdV) := e10
  refine ⟨p7, (List.range 12).map fun k => decide (j = k), rfl, by rw [f7]; simp [flV], by simp, ?_⟩
  rw [fl_sum j hj]
  refine ⟨1, 1, rfl, rfl, false, rfl, ?_⟩
  refine ⟨rfl, true, rfl, ?_⟩
  refine ⟨_, rfl, _, rfl, .inl ⟨rfl, _, SqL.of f7⟩, ?_⟩
  refine ⟨p7, flV j, .bl true, j, .bl true, rfl, rfl, SqL.of f7, rfl, ?_, ?_, rfl, fun m z hm hz => ?_, ?_⟩
  · simp [flV, flatV]
  · simp [flV, hj]
  · unfold flV at hz
    rw [List.getElem?_map, List.getElem?_range (by omega)] at hz
    cases hz
    have : decide (j = m) = false := by simp; omega
    show eqV (V.bl (decide (j = m))) (V.bl true) = false
    rw [this]; rfl
  refine .inl ⟨p10, kdV, j, .str (mkS (excName j)), rfl, rfl, SqL.of f10, atI_nat ?_, sz _ (by simp), fun p np => ?_⟩
  · unfold kdV
    rw [List.getElem?_map, List.getElem?_range hj]; rfl
  exact h p _ (t10.trans (same_upd np)) upd_same
/-! ### a def called while an exception is handled, its promise told of that exception -/
section
variable {X : Cx} {pe : Addr × Obj}
theorem pe_callP {x : Str} {st : Stmt} {f : Addr} {fd : FuncData} {N ps : List Str} {k : Nat} {e : Expr} {es : List Expr} {t : TA} {tb : TS} {q pos : Pos} (hpn : pe ∈ X.pn) (hot : L2H.Hot1 X.A pe) (F : Fun X.K x x st f fd) (S : FnScope N ps (defScope st)) (hr : L2H.RoomH (k + 1) X.A) (hg : Gl X x) (hm : X.mg x = some (.ref f)) (hb : Binds X.K fd ps [])
    (ha : PA X (e :: es) t)
    (hbody : ∀ (cdv : Value) (A : Around) (outer : List Env) (s : Shared) (H : Hp), L2H.Hot1 A pe → L2H.RoomH k (A.deeper (envOfC x (defScope st) s.heap.objs.size f cdv)) → PSs (L2H.cxH (L2N.CX X.prog X.w) X.prog X.w X.K X.mg X.base N x (defScope st) f cdv A outer s H (fun _ _ _ => False) pe) (defBody st) tb)
    (hdb : (x == ("__debug__" : Str)) = false := by decide) (he : starEach (e :: es) X.env = (false, eval e X.env) :: starEach es X.env := by rfl) (hpl : (backTo pos (starEach es X.env)).any (·.1) = false := by rfl) :
    PE X (.Call (.Name x q) (e :: es) [] pos) (fun σ H Q => t σ H fun vs H1 => vs.length = ps.length ∧ tb { nx := fun _ H' => Q .non H', rt := Q } (L2.start N vs) H1) := by
  refine ⟨fun pins s σ H Q I h => ?_⟩
  have kf := F.kp
  obtain ⟨oc, od, kV, doc, pm, an, cdv, ct, osl, rfl, lk, hcd⟩ := F.ex
  refine wpAny_Call_Name_kw (ld_glob I hg hm ?_ hdb)
  refine PySem.W.callWith_K (h₀ := X.base) I.ok.mod.kin kf (thn (ha.run pos pins s σ H _ I h) fun us s1 ⟨vs, H1, I1, r, hl, q1⟩ => ⟨I1.kIn, ?_⟩) he hpl
  have e0 := I1.env0
  have P1 := I1.pin pe (List.mem_append_left _ hpn)
  have hpin : L2H.PinOk X.stack H1 s1 pe := ⟨P1.1, P1.2.1, fun z => (List.mem_cons.mp (I1.stkSub pe.1 z)).elim P1.2.2.1 P1.2.2.2.1, P1.2.2.2.2⟩
  have bd := hb s1 us I1.kIn (by rw [List.append_nil, ← r.length]; exact hl)
  rw [List.append_nil] at bd
  have KX : X.K.In s1.heap := I1.kIn
  have knd : ∀ y ∈ ps.zip us, (defScope st).names.lookup y.1 = some .local ∨ ((defScope st).names.lookup y.1 = some .cell ∧ ((cellsFrom (s1.heap.objs.size + 1) (defScope st).names []).lookup y.1).isSome = true) := fun ⟨n, v⟩ hy =>
    (S.par n (List.of_mem_zip hy).1).imp id fun z => ⟨z, PySem.W.cellsFrom_some _ _ _ (.inl z)⟩
  have run : codeAny (model X.prog X.w) X.A (.call (.ref f) ⟨us, []⟩) (CR (L2N.CX X.prog X.w) X.stack X.prog X.w H1 s1 Q (fun _ _ _ => False)) s1 := by
    refine codeAny_call_function hr.depth (KX _ _ lk) rfl S.co S.gen rfl (PySem.W.codeRec_of KX hcd) (bd _ _ _ _ (wpAny_newFunctionEnv_cells S.kind knd fun env he' s2 x2 => ?_))
    subst he'
    refine ⟨I1.nolimit.keeps x2.toInCall.keep, codeAny_func ?_⟩
    have J := L2H.inv_startH (CX := L2N.CX X.prog X.w) (qual := x) (f := f) (cd := cdv) (E := fun _ _ _ => False) S hpin e0 hl r x2
    refine wpAny_mono ((hbody cdv X.A X.stack s1 H1 hot (hr.deeper _)).run [] s2 _ H1 _ J q1) (fun fl s' hs => ?_) fun e s' hs => hs
    cases fl with
    | ret u =>
      obtain ⟨v, σ', H', J', rv, z⟩ := hs
      exact ⟨v, H', J'.os, J'.bare, J'.base, J'.hok, rv, z⟩
    | next =>
      obtain ⟨σ', H', J', z⟩ := hs
      exact ⟨V.non, H', J'.os, J'.bare, J'.base, J'.hok, rfl, z⟩
    | brk => exact hs.elim fun _ z => z.elim fun _ z => z.2.elim
    | cont => exact hs.elim fun _ z => z.elim fun _ z => z.2.elim
  refine wpAny_call (codeAny_mono run fun r s' hq => ?_)
  cases r with
  | error e =>
    obtain ⟨_, _, _, _, _, _, _, _, _, _, _, _, z⟩ := hq
    exact z.elim
  | ok fl =>
    cases fl with
    | ret u => exact I1.after hq
    | next => exact False.elim hq
    | brk => exact False.elim hq
    | cont => exact False.elim hq
end
/-- _law_term may be called -/
structure TermC (P : Program) (w : World) (K : PySem.W.Frag) (mg : Str → Option Value) (base : Heap) (cls : Nat → Addr) (tm : Str) : Prop where
  ex : ∃ (f : Addr) (fd : FuncData) (st : Stmt) (N : List Str) (y : Str), Fun K tm tm st f fd ∧ mg tm = some (.ref f) ∧ Binds K fd [y] [] ∧ FnScope N [y] (defScope st) ∧ N.length = 3 ∧ tm ≠ "__debug__" ∧
    ∀ j < 12, ∀ (pe : Addr × Obj) (cdv : Value) (A : Around) (outer : List Env) (s : Shared) (H : Hp), Zc (.ref (cls j)) none pe.2 → (∃ vs, pe.2.data = .fields vs) → L2H.Hot1 A pe → L2H.RoomH 0 (A.deeper (envOfC tm (defScope st) s.heap.objs.size f cdv)) →
      PSs (L2H.cxH (L2N.CX P w) P w K mg base N tm (defScope st) f cdv A outer s H (fun _ _ _ => False) pe) (defBody st) (tTerm K pe.1 (fun k => decide (j = k)) true)
end DL

set_option Elab.async false
set_option linter.all false
set_option maxRecDepth 100000
set_option maxHeartbeats 4000000
/-! DT3: told(lambda: ..). -/
namespace DL
open PySem PySem.Spec PyProof.Rows L2 HotX LamX
variable [Tb]
section
variable {X : Cx} {pins : List (Addr × Obj)} {σ : L2.St} {H HZ : Hp} {s s1 : Shared}
/-- a lambda is made: nothing but its table's object changes -/
theorem lam_make3 {T : List (Addr × Str)} {c P : Addr} {params : Arguments} {body : Expr} {scope : Scope} {pos : Pos} {E : Value → Shared → Prop} {Q : Value → Shared → Prop} (I : Inv X pins σ H s) (B : TabB X.base X.mg c P) (hcode : X.env.code = .ref c)
    (hm : (P, X.env.qual ++ "<lambda>") ∈ T) (hu : ∀ p ∈ T, p.1 = P → p.2 = X.env.qual ++ "<lambda>") (hT : Tabs T H) (hdef : defaultsOf params X.env = ([], [])) (hfree : ∀ y ∈ scope.names, y.2 = .free → ∃ c, X.env.cells.lookup y.1 = some c)
    (h : ∀ (f c' : Addr) (pm ctv : Value) (H1 : Hp) (s' : Shared), Inv X pins σ H1 s' → (∀ b o, b ≠ P → H b = some o → H1 b = some o) → Tabs T H1 →
      s'.heap.get? f = some (PySem.W.kla_obj "<lambda>" (X.env.qual ++ "<lambda>") params body scope (cloFrom X.env.cells scope.names []) pm c' ctv) → H1 f = none → f ∉ frs X.stack → H1 c' = some (CodeO c' (X.env.qual ++ "<lambda>")) → Q (.ref f) s') :
    wpAny (model X.prog X.w) X.A (eval (.Lambda params body scope pos) X.env) Q E s := by
  obtain ⟨tb, eP, tri, every⟩ := hT _ hm
  have bP : s.heap.BuiltinsAt X.mg P := B.bm.keeps I.bk
  have gP := I.hok P _ eP
  have away : ∀ f, s.heap.objs.size ≤ f → f ∉ frs X.stack := fun f hf z => (List.mem_cons.mp (I.stkSub _ z)).elim (fun e => by
    have z1 := I.lt
    rw [← e] at z1
    exact absurd (Nat.lt_of_lt_of_le z1 hf) (Nat.lt_irrefl _)) (fun e => I.nofs hf e)
  refine PySem.W.kla_eval hdef ?_
  cases hc : codeAmong pos tb.toList with
  | some cv =>
    obtain ⟨c', rfl, kc⟩ := every pos cv hc
    refine PySem.W.kla_makeFunctionHit (mg := X.mg) (c := c) (P := P) (ps := tb) (closure_ok hfree) I.ok.glob (I.mod.glob.keeps I.bk) hcode (B.code.keeps I.bk) gP tri hc bP fun ctv h' tk hx hsz => ?_
    have J : Inv X pins σ H { s with heap := h'.push (PySem.W.kla_obj "<lambda>" (X.env.qual ++ "<lambda>") params body scope (cloFrom X.env.cells scope.names []) ((X.mg "__name__").getD .none) c' ctv), toks := tk } := I.kept fun b o e => Heap.get?_push_of_some _ (hx b o e)
    exact h _ c' _ ctv H _ J (fun _ _ _ e => e) hT (Heap.get?_push_size _ rfl) (I.hok.fresh hsz) (away _ hsz) kc
  | none =>
    refine PySem.W.kla_makeFunction (mg := X.mg) (c := c) (P := P) (ps := tb) (closure_ok hfree) I.ok.glob (I.mod.glob.keeps I.bk) hcode (B.code.keeps I.bk) gP tri hc B.gP bP fun c' ctv h' tk hx hge hlt hrec htb => ?_
    obtain ⟨c2, oc, vs, t, e2, hoc, hd, hv⟩ := hrec
    cases e2
    have hsz : s.heap.objs.size ≤ h'.objs.size := Nat.le_trans hge (Nat.le_of_lt hlt)
    have nC : H c' = none := I.hok.fresh hge
    have J := inv_table (t' := tk) (more := #[rawInt pos.line, rawInt pos.col, .ref c']) (h' := h'.push (PySem.W.kla_obj "<lambda>" (X.env.qual ++ "<lambda>") params body scope (cloFrom X.env.cells scope.names []) ((X.mg "__name__").getD .none) c' ctv)) I eP
      (fun b o hb e => Heap.get?_push_of_some _ (hx b o hb e)) (Heap.get?_push_of_some _ htb) hge ⟨oc, vs, t, Heap.get?_push_of_some _ hoc, hd, hv⟩
    have keepE : ∀ b o, b ≠ P → H b = some o → upd (upd H P (.tbl (tb ++ #[rawInt pos.line, rawInt pos.col, .ref c']))) c' (CodeO c' (X.env.qual ++ "<lambda>")) b = some o := fun b o nb e => by
      rw [upd_ne (ne_of_none e nC), upd_ne nb]; exact e
    have keepC : ∀ c0 q, H c0 = some (CodeO c0 q) → upd (upd H P (.tbl (tb ++ #[rawInt pos.line, rawInt pos.col, .ref c']))) c' (CodeO c' (X.env.qual ++ "<lambda>")) c0 = some (CodeO c0 q) := fun c0 q e => keepE c0 _ (fun z => by
      subst z; rw [eP] at e
      exact codeO_ne _ (Option.some.inj e).symm) e
    have eL : (tb ++ #[rawInt pos.line, rawInt pos.col, .ref c']).toList = tb.toList ++ [rawInt pos.line, rawInt pos.col, .ref c'] := by simp
    refine h h'.objs.size c' ((X.mg "__name__").getD .none) ctv _ _ J keepE (fun p hp => ?_) (Heap.get?_push_size _ rfl) ?_ (away _ hsz) upd_same
    · by_cases hb : p.1 = P
      · rw [hu p hp hb, hb]
        refine ⟨_, by rw [upd_ne (ne_of_none eP nC), upd_same], by rw [eL]; exact PySem.TriplesOk_snoc _ _ _ _ tri, fun p' cv hcv => ?_⟩
        rw [eL] at hcv
        rcases among_app _ tri hcv with z | z
        · obtain ⟨c0, e1, e2⟩ := every p' cv z
          exact ⟨c0, e1, keepC _ _ e2⟩
        · exact ⟨c', z, upd_same⟩
      · obtain ⟨ps', a1, a2, a3⟩ := hT p hp
        refine ⟨ps', keepE _ _ hb a1, a2, fun p' cv hcv => ?_⟩
        obtain ⟨c0, e1, e2⟩ := a3 p' cv hcv
        exact ⟨c0, e1, keepC _ _ e2⟩
    · rw [upd_ne (Nat.ne_of_gt hlt), upd_ne (Nat.ne_of_gt (Nat.lt_of_lt_of_le (Heap.lt_size gP) hsz))]
      exact I.hok.fresh hsz
/-- the lambda's context, exceptions with their context -/
abbrev lamE (X : Cx) (A : Around) (outer : List Env) (s : Shared) (H : Hp) (E : XK) (scope : Scope) (f c' : Addr) : Cx :=
  { lamCx X A outer s H E scope f c' with xe := fun e s' => wpAny (model X.prog X.w) (A.deeper (lamEnv X scope s.heap.objs.size f c')) (leaving (lamEnv X scope s.heap.objs.size f c') e) (fun _ s'' => L2N.CX X.prog X.w outer H s E e s'') (fun e' s'' => L2N.CX X.prog X.w outer H s E e' s'') s' }
theorem pe_actE {Eg : XK} {Ng : List Str} {qg : Str} {sg : Scope} {g f c' : Addr} {cdg pm ctv : Value} {params : Arguments} {body : Expr} {scope : Scope} {k i : Nat} {a : Str} {pn : List (Addr × Obj)} {xe : Value → Shared → Prop} {W : WX} {E : XK} {tb : TE} {p1 p2 : Pos}
    (I : Inv X pins σ H s) (L : LamS X.env.scope scope) (hf : s.heap.get? f = some (PySem.W.kla_obj "<lambda>" (X.env.qual ++ "<lambda>") params body scope (cloFrom X.env.cells scope.names []) pm c' ctv)) (hfn : H f = none) (hfr : f ∉ frs X.stack)
    (hbind : bindArgs (PySem.W.kla_fn "<lambda>" (X.env.qual ++ "<lambda>") params body scope (cloFrom X.env.cells scope.names []) pm (.ref c') ctv) ⟨[], []⟩ = pure [])
    (tk : L2N.Takes ((cxOf (L2N.CX X.prog X.w) X.prog X.w X.K X.mg X.base Ng qg sg g cdg X.A X.stack s H Eg).tr pn xe) W) (hW : ∀ cls d σ' H', E cls d H' → W cls d σ' H') (hr : Room (k + 1) (X.A.deeper (envOfC qg sg s.heap.objs.size g cdg)))
    (hbody : ∀ (A : Around) (outer : List Env) (s : Shared) (H : Hp), Room k (A.deeper (lamEnv X scope s.heap.objs.size f c')) → PE (lamE X A outer s H E scope f c') body tb)
    (hN : Ng[i]? = some a) (hv : Vis sg a) (hd : (a == ("__debug__" : Str)) = false) (hcd : (a == ("__classdict__" : Str)) = false) :
    PE ((cxOf (L2N.CX X.prog X.w) X.prog X.w X.K X.mg X.base Ng qg sg g cdg X.A X.stack s H Eg).tr pn xe) (.Call (.Name a p1) [] [] p2)
      (fun σZ HZ Q => σZ[i]? = some (some (.ref f)) ∧ HZ c' = some (CodeO c' (X.env.qual ++ "<lambda>")) ∧ tb σ HZ Q) := by
  refine ⟨fun pinsZ sZ σZ HZ Q IZ ⟨z1, z2, z3⟩ => ?_⟩
  refine wpAny_Call_Name_kw (thn ((pe_var (pos := p1) (i := i) hN hv hd hcd).run pinsZ sZ σZ HZ (fun v H1 => v = .ref f ∧ H1 = HZ) IZ ⟨.ref f, z1, rfl, rfl⟩) fun u s1 ⟨v, H1, I1, r1, ev, eH⟩ => ?_)
  subst ev
  rw [eH] at I1
  obtain rfl : u = Value.ref f := r1
  have there := I1.base.keep f _ hf hfn hfr (fun z => nomatch (show f ∈ ([] : List Addr) from z))
  refine PySem.W.callWith_F0 ⟨_, _, _, _, there⟩ ?_
  obtain ⟨⟨oc, vs, t, hoc, hdc, hvc⟩, _, _⟩ := I1.hok c' _ z2
  have rc : codeAny (model X.prog X.w) (X.A.deeper (envOfC qg sg s.heap.objs.size g cdg)) (.call (.ref f) ⟨[], []⟩) (CR (L2N.CX X.prog X.w) (envOfC qg sg s.heap.objs.size g cdg :: X.stack) X.prog X.w HZ s1 Q E) s1 := by
    refine PySem.W.kla_callFunE hr.depth there rfl L.co L.gen rfl ⟨c', oc, vs, t, rfl, hoc, hdc, hvc⟩ (hbind.symm ▸ ?_)
    refine wpAny_pure (wpAny_newFunctionEnv (fun y hy => (L.own y hy).2) (fun y hy => absurd hy (by simp)) (fun h₁ hns hsb => ⟨I1.nolimit.fresh _ hsb, ?_⟩) L.kind)
    show codeAny _ _ (.expr body (lamEnv X scope s1.heap.objs.size f c')) _ _
    have J := lam_start2 (E := E) (f := f) (c' := c') (tk := s1.toks + ([] : List (Str × Value)).length) I L I1.env0 hr.hd (show Un (frs X.stack) [] H HZ s.heap s1.heap from I1.base) hns (fun b o e => hsb.extBut b o (Nat.ne_of_lt (Heap.lt_size e)) (Heap.get?_push_of_some _ e))
    refine PySem.W.kla_codeExpr (wpAny_mono ((hbody _ _ s1 HZ (hr.deeper _)).run [] _ σ HZ Q (J.wish _) z3) (fun v s' ⟨w', H', J', rv, q⟩ => ?_) fun e s' hq => hq)
    exact ⟨w', H', J'.os, J'.bare, J'.base, J'.hok, rv, q⟩
  have hx := L2N.passes_call tk hW
  refine wpAny_call (codeAny_mono rc fun r s' hq => ?_)
  cases r with
  | error e => exact hx pinsZ σZ HZ s1 e s' I1 hq
  | ok fl =>
    cases fl with
    | ret u => exact I1.after hq
    | next => exact False.elim hq
    | brk => exact False.elim hq
    | cont => exact False.elim hq
/-- _law_told may be called -/
structure ToldC (K : PySem.W.Frag) (mg : Str → Option Value) (cls : Nat → Addr) (x tm : Str) : Prop where
  ex : ∃ (g : Addr) (fd : FuncData) (st : Stmt) (Ng : List Str) (a en ve : Str) (VE : Addr) (p1 p2 p3 p4 p6 p7 p8 p9 p10 p11 : Pos), Fun K x x st g fd ∧ mg x = some (.ref g) ∧ Binds K fd [a] [] ∧ FnScope Ng [a] (defScope st) ∧ Ng = [a, en] ∧
    defBody st = [.Try [.Return (some (.Call (.Name a p1) [] [] p2)) p3] [.ExceptHandler (some (.Name ve p4)) (some en) [.Return (some (.Call (.Name tm p9) [.Name en p10] [] p11)) p6] p7] [] [] p8] ∧
    Vis (defScope st) a ∧ (defScope st).names.lookup en = some .local ∧ (defScope st).names.lookup ve = some .globalImplicit ∧ (defScope st).names.lookup tm = some .globalImplicit ∧ mg ve = some (.ref VE) ∧
    (a == ("__debug__" : Str)) = false ∧ (a == ("__classdict__" : Str)) = false ∧ (en == ("__debug__" : Str)) = false ∧ (en == ("__classdict__" : Str)) = false ∧ (ve == ("__debug__" : Str)) = false ∧ (tm == ("__debug__" : Str)) = false ∧ x ≠ "__debug__" ∧
    ∀ j < 12, PySem.W.exmOne K (.ref (cls j)) (.ref VE) = some true
theorem te_told {cls : Nat → Addr} {W : WX} {m : ME} {k : Nat} {x tm : Str} {c P : Addr} {params : Arguments} {body : Expr} {scope : Scope} {p lpos pos : Pos} (TC : ToldC X.K X.mg cls x tm) (TM : TermC X.prog X.w X.K X.mg X.base cls tm) (B : TabB X.base X.mg c P) (hcode : X.env.code = .ref c)
    (hmT : (P, X.env.qual ++ "<lambda>") ∈ Tb.tabs) (hu : ∀ p ∈ Tb.tabs, p.1 = P → p.2 = X.env.qual ++ "<lambda>") (hr : Room (k + 2) X.A) (L : LamS X.env.scope scope) (hdef : defaultsOf params X.env = ([], []))
    (hbind : ∀ (q : Str) (cl : List (Str × Addr)) (pm cv ctv : Value), bindArgs (PySem.W.kla_fn "<lambda>" q params body scope cl pm cv ctv) ⟨[], []⟩ = pure [])
    (hbody : ∀ (A : Around) (outer : List Env) (s : Shared) (H : Hp) (E : XK) (f c' : Addr), Room k (A.deeper (lamEnv X scope s.heap.objs.size f c')) → L2N.Takes (lamE X A outer s H E scope f c') (fun c d _ H => E c d H) → PE (lamE X A outer s H E scope f c') body (tD cls (fun c d _ H => E c d H) true m)) (hg : Gl X x := by rfl) :
    PE X (.Call (.Name x p) [.Lambda params body scope lpos] [] pos) (tD cls W true (.told m)) := by
  refine ⟨fun pins s σ H Q I ⟨G, U0, He, ρ, Qd, Xd, r, w, kq, _⟩ => ?_⟩
  simp only [wE] at w
  obtain ⟨g, fd, st, Ng, a, en, ve, VE, p1, p2, p3, p4, p6, p7, p8, p9, p10, p11, F, hm, hb, Sg, eN, ebody, hva, hle, hlv, hlt, hve, d1, d2, d3, d4, d5, d6, d7, hex⟩ := TC.ex
  obtain ⟨f2, fd2, st2, N2, y2, F2, hm2, hb2, S2, hN2, _, hterm⟩ := TM.ex
  have kg := F.kp
  obtain ⟨oc, od, kV, doc, pm, an, cdv, ct, osl, rfl, lk, hcg⟩ := F.ex
  refine wpAny_Call_Name_kw (ld_glob I hg hm ?_ (by simpa using d7))
  refine PySem.W.callWith_K (h₀ := X.base) I.ok.mod.kin kg ?_ (by rfl) (by rfl)
  show wpAny _ _ (spliced ((false, eval (.Lambda params body scope lpos) X.env) :: backTo pos (starEach [] X.env))) _ _ s
  refine Calls.spliced_cons (lam_make3 I B hcode hmT hu r.inv.2 hdef (L.has I.ok) fun f c' pm' ctv H1 s' I1 keepE T1 hf hfn hfr hco => ?_)
  refine Calls.spliced_nil ⟨I1.kIn, ?_⟩
  have ext1 : Ext G H H1 := by
    refine ⟨fun b o e n => keepE b o (fun z => n ?_) e, fun gi => ⟨fun b db => ?_, T1⟩⟩
    · subst z
      exact .inr ⟨_, hmT⟩
    · obtain ⟨i, j, e⟩ := gi.1 b db
      refine ⟨i, j, keepE b _ (fun z => ?_) e⟩
      obtain ⟨tb, e2, _⟩ := gi.2 _ hmT
      have e2 : H P = some (.tbl tb) := e2
      rw [← z, e] at e2
      cases e2
  have r1 := r.step ext1
  subst eN
  have rc : codeAny (model X.prog X.w) X.A (.call (.ref g) ⟨[.ref f], []⟩) (CR (L2N.CX X.prog X.w) X.stack X.prog X.w H1 s' Q (fun _ _ _ => False)) s' := by
    refine run_ofS (N := [a, en]) (ps := [a]) (us := [.ref f]) (vs := [.ref f]) lk hcg Sg hr I1.env0 (hb s' [.ref f] I1.kIn rfl) (.cons rfl .nil) rfl fun hr' => ?_
    rw [ebody]
    refine ⟨_, pss_one (L2N.ps_try_as (X := cxOf (L2N.CX X.prog X.w) X.prog X.w X.K X.mg X.base [a, en] x (defScope st) g cdv X.A X.stack s' H1 (fun _ _ _ => False)) (i := 1) (c := .ref VE) (Wout := fun _ _ _ _ => False)
      (tb := fun W D σ' H' => ∃ Ech : XK, (∀ cl d σ2 H2, Ech cl d H2 → W cl d σ2 H2) ∧ σ'[0]? = some (some (.ref f)) ∧ H' c' = some (CodeO c' (X.env.qual ++ "<lambda>")) ∧ tD cls (fun c d _ H => Ech c d H) true m σ H' D.rt)
      (ts := fun ax cl d D σ' H' => (1 < σ'.length → σ'[1]? = some (some (.ref ax))) ∧ ∃ j, j < 12 ∧ cl = .ref (cls j) ∧ d = none ∧ tTerm X.K ax (fun k => decide (j = k)) true { nx := fun _ H2 => D.rt .non H2, rt := D.rt } (L2.start N2 [.ref ax]) H')
      rfl rfl Sg.nd rfl hle ⟨hlv, d5, .inl hve⟩ takes0 (fun W pn xe tk _ => ?_) (fun ax oe cl d pn hz hfl => ?_)), ?_⟩
    · refine pss_one ⟨fun pins s2 σ2 H2 D I2 ⟨Ech, hW, h1, h2, h3⟩ => ?_⟩
      exact (ps_ret (pos := p3) (pe_actE (i := 0) (E := Ech) (p1 := p1) (p2 := p2) I1 L hf hfn hfr (hbind _ _ _ _ _) tk hW hr' (fun A outer s H hr2 => hbody A outer s H Ech f c' hr2 (L2N.takes_of rfl rfl rfl rfl)) rfl hva d1 d2)).run pins s2 σ2 H2 D I2 ⟨h1, h2, h3⟩
    · refine pss_one ⟨fun pins s2 σ2 H2 D I2 ⟨h1, j, hj, e1, e2, h3⟩ => ?_⟩
      subst e1 e2
      obtain ⟨vs, hvs⟩ := hfl
      have hot : L2H.Hot1 (X.A.mark (some (.ref ax))) (ax, oe) := ⟨rfl, vs, hvs, hz.2.2 vs hvs⟩
      have i1 : σ2[1]? = some (some (V.ref ax)) := h1 (by rw [I2.len]; show 1 < 2; decide)
      refine (ps_ret (pos := p6) (pe_callP (X := (cxOf (L2N.CX X.prog X.w) X.prog X.w X.K X.mg X.base [a, en] x (defScope st) g cdv X.A X.stack s' H1 (fun _ _ _ => False)).suite ax ((ax, oe) :: pn)) (pe := (ax, oe)) (N := N2) (ps := [y2]) (k := 0) (t := tCons (tVar 1) tNil) (tb := tTerm X.K ax (fun k => decide (j = k)) true) (q := p9) (pos := p11) List.mem_cons_self ⟨rfl, vs, hvs, hz.2.2 vs hvs⟩ F2 S2 ⟨by have := hr'.dp; show (X.A.deeper (envOfC x (defScope st) s'.heap.objs.size g cdv)).depth + 3 * 1 + 5 < _; omega, by have := hr'.un; show (X.A.deeper (envOfC x (defScope st) s'.heap.objs.size g cdv)).units + 16 * 1 + 200 < _; omega⟩ hlt hm2 hb2 (pa_cons (pe_var (i := 1) rfl (.inl hle) d3 d4) pa_nil)
        (fun cdv A outer s H hot hrh => hterm j hj (ax, oe) cdv A outer s H hz.zc ⟨vs, hvs⟩ hot hrh) d6)).run pins s2 σ2 H2 D I2 ?_
      exact ⟨_, i1, rfl, h3⟩
    · refine ⟨fun cl d H' => ∃ j, j < 12 ∧ cl = .ref (cls j) ∧ d = none ∧ Ext G H1 H' ∧ Qd (errD j), fun cl d σ2 H2 ⟨j, hj, e1, e2, ex, q⟩ => ?_, rfl, hco, ?_⟩
      · subst e1 e2
        refine ⟨true, hex j hj, fun _ ax na => ⟨fun hl => ?_, j, hj, rfl, rfl, term_run hN2 hj fun pz H3 sm at3 => ?_⟩, fun z => by cases z⟩
        · rw [List.getElem?_set_self (by simpa using hl)]
        · refine kq (errD j) (.ref pz) H3 ((ext1.trans ex).trans (.same sm)) ?_ (Fre.no rfl) q
          exact ⟨pz, _, rfl, .of at3, _, _, rfl, rfl, _, _, rfl, rfl, rfl⟩
      · exact tD_in r1 w (fun d v H2 e2 r2 p2 f2 q => kq d v H2 (ext1.trans e2) p2 (Fre.no rfl) q) fun j H2 e2 ⟨hj, q⟩ => ⟨j, hj, rfl, rfl, e2, q⟩
  refine wpAny_call (codeAny_mono rc fun r s2 hq => ?_)
  cases r with
  | error e =>
    obtain ⟨_, _, _, _, _, _, _, _, _, _, _, _, z⟩ := hq
    exact z.elim
  | ok fl =>
    cases fl with
    | ret u => exact I1.after hq
    | next => exact False.elim hq
    | brk => exact False.elim hq
    | cont => exact False.elim hq
end
end DL

set_option Elab.async false
set_option linter.all false
set_option maxRecDepth 100000
set_option maxHeartbeats 4000000
/-! DT4: sep.join(..). -/
namespace DL
open PySem PySem.Spec PyProof.Rows L2
variable [Tb]
theorem mk_app (a b : List Nat) : mkS (a ++ b) = mkS a ++ mkS b := by
  show Str.mk (a ++ b).toArray = Str.mk (a.toArray ++ b.toArray)
  simp
theorem str_join_mk (sep : List Nat) : ∀ ss : List (List Nat), Str.join (mkS sep) (ss.map mkS) = mkS (DL.joinL sep ss)
  | [] => rfl
  | [x] => rfl
  | x :: z :: r => by
    show mkS x ++ mkS sep ++ Str.join (mkS sep) ((z :: r).map mkS) = mkS (x ++ sep ++ DL.joinL sep (z :: r))
    rw [str_join_mk sep (z :: r), mk_app, mk_app]
theorem sum_le {n : Nat} : ∀ ss : List (List Nat), ss.all (fun s => decide (s.length ≤ n)) = true → (ss.map (·.length)).sum ≤ ss.length * n
  | [], _ => by simp
  | x :: r, h => by
    simp only [List.all_cons, Bool.and_eq_true, decide_eq_true_eq] at h
    have := sum_le r h.2
    simp only [List.map_cons, List.sum_cons, List.length_cons, Nat.succ_mul]
    omega
section
variable {X : Cx} {cls : Nat → Addr} {W : WX} {m : ME} {e : Expr} {x : Str} {j : Nat} {p2 apos pos : Pos}
theorem te_join (sep : List Nat) (ha : PE X e (tD cls W false m)) (hx : x = mkS sep := by rfl) (hs : starEach [e] X.env = [(false, eval e X.env)] := by rfl) (hbase : attributeBase (.Constant (.str x) j p2) "join" X.env (eval (.Constant (.str x) j p2) X.env) = eval (.Constant (.str x) j p2) X.env := by rfl) (hline : (apos.endLine == pos.line) = true := by rfl) :
    PE X (.Call (.Attribute (.Constant (.str x) j p2) "join" apos) [e] [] pos) (tD cls W true (.b1 (.join sep) m)) := by
  subst hx
  refine (pe_join pe_str ha hs hbase hline).imp fun σ H Q ⟨G, U0, He, ρ, Qd, Xd, r, w, k, x⟩ => ?_
  simp only [wE] at w
  refine ⟨⟨_, rfl⟩, tD_in r w (fun d v H1 e1 r1 p1 ff w1 => ?_) x⟩
  have p1 := p1.p
  cases d with
  | lst xs =>
    simp only [b1D] at w1
    cases es : strsD xs with
    | none => rw [es] at w1; exact w1.elim
    | some ss =>
      rw [es] at w1
      simp only [Option.bind_some] at w1
      split at w1
      · rename_i hc
        simp only [Bool.and_eq_true, decide_eq_true_eq] at hc
        obtain ⟨⟨c1, c2⟩, c3⟩ := hc
        obtain ⟨a, vs, ex, hx, lx⟩ := p1
        rw [lx.strs es] at hx
        refine ⟨mkS sep, a, ss.map mkS, rfl, by rw [ex], .inl (SqL.of hx), ?_, ?_⟩
        · have := sum_le ss c2
          have e2 : ((ss.map mkS).map (·.length)).sum = (ss.map (·.length)).sum := by
            rw [List.map_map]
            congr 1
          rw [e2, List.length_map]
          have e3 : (mkS sep).length = sep.length := by simp [mkS, Str.length]
          rw [e3]
          have a1 : ss.length * 1000 ≤ 1000 * 1000 := Nat.mul_le_mul_right _ c1
          have a2 : ss.length * sep.length ≤ 1000 * 10 := Nat.mul_le_mul c1 c3
          omega
        · rw [TL.join_eq, str_join_mk]
          exact k (.str _) _ H1 e1 rfl (Fre.no rfl) w1
      · exact w1.elim
  | _ =>
    simp only [b1D] at w1
    exact w1.elim
end
end DL

set_option Elab.async false
set_option linter.all false
set_option maxRecDepth 100000
set_option maxHeartbeats 4000000
/-! DT5: facts of a program's exception classes, checked at once. -/
namespace DL
open PySem PySem.Spec PyProof.Rows L2
def clsL (l : List Addr) : Nat → Addr := fun j => l.getD j 0
def allB (n : Nat) (p : Nat → Bool) : Bool := (List.range n).all p
theorem allB_of {n : Nat} {p : Nat → Bool} (h : allB n p = true) : ∀ j < n, p j = true := fun j hj => List.all_eq_true.mp h j (List.mem_range.mpr hj)
def xcB (K : PySem.W.Frag) (C : Addr) : Bool :=
  (PySem.W.findIn K (.ref C) "__getattribute__" == some (some (.builtin "BaseException.__getattribute__"))) && ((PySem.W.findIn K (.ref C) "__getattr__" == some none) && ((PySem.W.subIn K (.ref C) (.type "BaseException") == some true) && (PySem.W.hasDictIn K C &&
  ((PySem.W.findIn K (.ref C) "__class__" == some (some (.builtin "object.__class__"))) && ((PySem.W.specialIn K (.builtin "object.__class__") "__get__" == some (some (.builtin "getset_descriptor.__get__"))) && ((PySem.W.takesIn K (.builtin "object.__class__") == some true) && (PySem.W.mroIn K C (.type "object") == some true)))))))
theorem xc_of {K : PySem.W.Frag} {C : Addr} (h : xcB K C = true) : ExcC K C := by
  unfold xcB at h
  simp only [Bool.and_eq_true, beq_iff_eq] at h
  obtain ⟨h1, h2, h3, h4, h5, h6, h7, h8⟩ := h
  exact ⟨h1, h2, h3, h4, h5, h6, h7, h8⟩
def kitB (K : PySem.W.Frag) (cls : Nat → Addr) : Bool := allB 12 fun j => allB 12 fun k => PySem.W.kitOne K (.ref (cls j)) (.ref (cls k)) == some (decide (j = k))
theorem kit_of {K : PySem.W.Frag} {cls : Nat → Addr} (h : kitB K cls = true) : ∀ j < 12, ∀ k < 12, PySem.W.kitOne K (.ref (cls j)) (.ref (cls k)) = some (decide (j = k)) := fun j hj k hk => beq_iff_eq.mp (allB_of (allB_of h j hj) k hk)
theorem one_of {f : Nat → Option Bool} (h : allB 12 (fun j => f j == some true) = true) : ∀ j < 12, f j = some true := fun j hj => beq_iff_eq.mp (allB_of h j hj)
theorem okN {CX : CXT} {P : Program} {w : World} {K : PySem.W.Frag} {mg : Str → Option Value} {base : Heap} {x qual : Str} {st : Stmt} {f : Addr} {fd : FuncData} {N ps : List Str} {k : Nat} {sp : Sp} (F : Fun K x qual st f fd) (Sc : FnScope N ps (defScope st)) (len : ∀ vs H Q E, sp vs H Q E → vs.length = ps.length)
    (hbody : ∀ (cdv : Value) (A : Around) (outer : List Env) (s : Shared) (H : Hp) (vs : List V) (Q : VK) (E : XK), Room k (A.deeper (envOfC qual (defScope st) s.heap.objs.size f cdv)) → sp vs H Q E →
      ∃ t, PSs (cxOf CX P w K mg base N qual (defScope st) f cdv A outer s H E) (defBody st) t ∧ t { nx := fun _ H' => Q .non H', rt := Q } (L2.start N vs) H) : FnOk P w K mg base CX (k + 1) f fd ps sp := by
  obtain ⟨oc, od, kV, doc, pm, an, cdv, ct, osl, rfl, lk, hcd⟩ := F.ex
  exact fn_of lk hcd Sc len fun A outer s H vs Q E hr h => hbody cdv A outer s H vs Q E hr h
end DL

set_option Elab.async false
set_option linter.all false
set_option maxRecDepth 100000
set_option maxHeartbeats 4000000
/-! DM1: a text's index; lists and dicts written at a place; dict comprehensions. -/
namespace DL
open PySem PySem.Spec PyProof.Rows L2
variable [Tb]
/-! ### text.index(sign) -/
theorem at_sign {s : List Nat} {c i : Nat} : PySem.StrLaws.At (mkS s) (mkS [c]) (mkS s).length i ↔ s[i]? = some c := by
  unfold PySem.StrLaws.At
  rw [mkS_len, mkS_len, PySem.StrLaws.subAt_eq]
  simp only [List.length_cons, List.length_nil]
  show _ ∧ ((s.drop i).take 1 == [c]) = true ↔ _
  rw [beq_iff_eq]
  constructor
  · rintro ⟨_, h⟩
    have := congrArg (·[0]?) h
    simpa using this
  · intro h
    have hl := (List.getElem?_eq_some_iff.mp h).1
    refine ⟨by omega, ?_⟩
    rw [List.drop_eq_getElem_cons hl, List.take_succ_cons, List.take_zero]
    rw [List.getElem?_eq_getElem hl] at h
    cases h; rfl
theorem idx_first {s : List Nat} {c i : Nat} (h : idxL s c = some i) : s[i]? = some c ∧ ∀ k, k < i → s[k]? ≠ some c := by
  unfold idxL at h
  rw [List.findIdx?_eq_some_iff_getElem] at h
  obtain ⟨hl, h1, h2⟩ := h
  refine ⟨by rw [List.getElem?_eq_getElem hl]; simpa using h1, fun k hk e => ?_⟩
  have := h2 k hk
  rw [List.getElem?_eq_getElem (by omega)] at e
  simp at this
  cases e
  exact this rfl
theorem occ_sign {s : List Nat} {c i : Nat} (h : idxL s c = some i) : ∃ rest, Builtin.Str.occurrences (mkS s) (mkS [c]) 0 (mkS s).length 1 = i :: rest := by
  obtain ⟨h1, h2⟩ := idx_first h
  rcases PySem.StrLaws.occ_head (mkS s) (mkS [c]) 1 (Nat.le_refl _) with ⟨_, n⟩ | ⟨j, r, e, hj, hn⟩
  · exact (n i (at_sign.mpr h1)).elim
  · have hj' := at_sign.mp hj
    have : j = i := by
      rcases Nat.lt_trichotomy j i with z | z | z
      · exact (h2 j z hj').elim
      · exact z
      · exact (hn i z (at_sign.mpr h1)).elim
    subst this
    exact ⟨r, e⟩
theorem ix_txt (s : List Nat) (c : Nat) : b2D .index (.str s) (.str [c]) = (idxL s c).map fun (i : Nat) => D.int i := by
  cases h : idxL s c <;> simp [b2D, h]
theorem b2_index {x y dz : D} (h : b2D .index x y = some dz) : ∃ s c i, x = .str s ∧ y = .str [c] ∧ idxL s c = some i ∧ dz = .int (i : Nat) := by
  unfold b2D at h
  split at h <;> first
    | (injection h; done)
    | contradiction
    | skip
  all_goals first
    | contradiction
    | skip
  rename_i s c _
  have h : b2D .index (.str s) (.str [c]) = some dz := h
  rw [ix_txt, Option.map_eq_some_iff] at h
  obtain ⟨i, e, rfl⟩ := h
  exact ⟨s, c, i, rfl, rfl, e, rfl⟩
section
variable {X : Cx} {cls : Nat → Addr} {W : WX} {m m1 m2 : ME} {e o a b : Expr} {pos p apos cpos : Pos}
theorem te_index (ho : PE X o (tD cls W false m1)) (he : PE X e (tD cls W false m2))
    (hbase : attributeBase o "index" X.env (eval o X.env) = eval o X.env := by rfl)
    (hfew : ((backTo cpos (starEach [e] X.env)).all (fun x => !x.1) && (backToKw cpos (keywordEach [] X.env)).all (fun x => x.1.isSome)
      && decide ([e].length + ([] : List Keyword).length + (if ([] : List Keyword).isEmpty then 0 else 1) < 30)) = true := by rfl)
    (hline : (apos.endLine == cpos.line) = true := by rfl) (hs : starEach [e] X.env = (false, eval e X.env) :: starEach [] X.env := by rfl) :
    PE X (.Call (.Attribute o "index" apos) [e] [] cpos) (tD cls W true (.b2 .index m1 m2)) :=
  (pe_bm PySem.F.plainAttrs_str PySem.F.slot_str_index PySem.F.type_str_index mt_sindex ho (pa_cons he pa_nil hs) hbase hfew hline hs rfl).imp fun σ H Q ⟨G, U0, He, ρ, Qd, Xd, r, w, k, x⟩ => by
    simp only [wE] at w
    refine tD_in r w (fun d1 v1 H1 e1 r1 p1 fz1 w1 => ?_) x
    obtain ⟨bt, w1⟩ := w1
    cases d1 <;> first
      | cases bt
      | skip
    rename_i s
    cases (show v1 = V.str (mkS s) from p1.p)
    refine ⟨rfl, tD_in r1 w1 (fun d2 v2 H2 e2 r2 p2 fz2 w2 => ?_) fun j H2 e2 q => x j H2 (e1.trans e2) q⟩
    obtain ⟨dz, q, w3⟩ := onS_some w2
    obtain ⟨s', c, i, es, rfl, hi, rfl⟩ := b2_index q
    cases es
    cases (show v2 = V.str (mkS [c]) from p2.p)
    obtain ⟨rest, hr⟩ := occ_sign hi
    exact ⟨mkS s, mkS [c], i, rest, rfl, rfl, hr, k (.int (i : Nat)) _ H2 (e1.trans e2) rfl (Fre.no rfl) w3⟩
end
/-! ### tables grown -/
theorem putK_kk {G : GI} {U : Addr → Prop} {H : Hp} {ks : List (List Nat)} {vs : List D} {kvs : List (Key × V)} {x : List Nat} {d : D} {v : V} (h1 : kvs.map (·.1) = ks.map kk) (h2 : RpL G U H vs (kvs.map (·.2))) (hv : Rp G U H d v) :
    (putK kvs (kk x) v).map (·.1) = (putD ks vs x d).1.map kk ∧ RpL G U H (putD ks vs x d).2 ((putK kvs (kk x) v).map (·.2)) := by
  have hany : (kvs.any fun kv => decide (kv.1 = kk x)) = decide (x ∈ ks) := by
    have e1 : (kvs.any fun kv => decide (kv.1 = kk x)) = (kvs.map (·.1)).any fun k => decide (k = kk x) := by rw [List.any_map]; rfl
    rw [e1, h1, Bool.eq_iff_iff, List.any_eq_true, decide_eq_true_iff]
    constructor
    · rintro ⟨k, hk, e⟩
      obtain ⟨y, hy, rfl⟩ := List.mem_map.mp hk
      rw [decide_eq_true_iff] at e
      rw [← kk_inj e]; exact hy
    · intro h
      exact ⟨kk x, List.mem_map.mpr ⟨x, h, rfl⟩, by simp⟩
  unfold putK putD
  rw [hany]
  by_cases hx : x ∈ ks
  · rw [if_pos (by simpa using hx), if_pos hx]
    clear hany hx
    refine ⟨?_, ?_⟩
    · rw [← h1, List.map_map]
      apply List.map_congr_left
      intro kv _
      simp only [Function.comp]
      split <;> rfl
    · induction ks generalizing vs kvs with
      | nil =>
        cases kvs with
        | nil => exact rfl
        | cons p r => simp at h1
      | cons j ks ih =>
        cases kvs with
        | nil => simp at h1
        | cons p r =>
          simp only [List.map_cons, List.cons.injEq] at h1
          cases vs with
          | nil => cases (show _ = [] from h2)
          | cons d0 ds =>
            obtain ⟨w, ws, e, g1, g2⟩ := h2
            simp only [List.map_cons, List.cons.injEq] at e
            obtain ⟨e1, e2⟩ := e
            subst e1 e2
            simp only [List.map_cons, List.zipWith_cons_cons]
            refine ⟨_, _, rfl, ?_, ih h1.2 g2⟩
            by_cases z : j = x
            · rw [if_pos z, if_pos (by rw [h1.1, z])]; exact hv
            · rw [if_neg z, if_neg (fun q => z (kk_inj (h1.1.symm.trans q)))]; exact g1
  · rw [if_neg (by simpa using hx), if_neg hx, List.map_append, List.map_append, List.map_append, h1]
    exact ⟨rfl, h2.append ⟨v, [], rfl, hv, rfl⟩⟩
theorem map_len {ks : List (List Nat)} {kvs : List (Key × V)} (h : kvs.map (·.1) = ks.map kk) : kvs.length = ks.length := by
  have := congrArg List.length h
  simpa using this
theorem Kp.boxUpd {G : GI} {U : Addr → Prop} {H : Hp} {a : Addr} {o : HO} (ha : U a) (hb : (∃ xs, H a = some (.lst xs)) ∨ ∃ kvs, H a = some (.dK kvs)) : Kp U H (upd H a o) := .of (fun b u e n => by rw [upd_ne (fun z => n (by rw [z]; exact ha))]; exact e) (fun b ys e => by
  have ne : b ≠ a := fun z => by
    subst z
    rcases hb with ⟨zs, q⟩ | ⟨zs, q⟩ <;> rcases e with e | ⟨u, e⟩ <;> (rw [q] at e; cases e)
  rcases e with e | ⟨u, e⟩
  · exact .inl (by rw [upd_ne ne]; exact e)
  · exact .inr ⟨u, by rw [upd_ne ne]; exact e⟩)
section
variable {X : Cx} {cls : Nat → Addr} {W : WX} {m m1 m2 mx : ME} {e ix : Expr} {pos p tpos : Pos} {fr : List Nat} {i : Nat} {x : Str}
/-- d[k] read -/
def rGetD : V → V → Hp → VK → Prop := fun o i H Q => ∃ a v, o = .ref a ∧ DGet H a i (some v) ∧ Q v H
theorem get_dict (hu : X.A.units + 1 < cLine) : PGet X rGetD := by
  intro pins s σ H o i ov iv Q I ro ri ⟨a, v, eo, g, q⟩
  subst eo
  cases (show ov = Value.ref a from ro)
  exact d_getItem hu I g ri fun w' s' I' rw' => ⟨v, H, I', rw', q⟩
/-- d[k] += n -/
theorem ts_augix (hu : X.A.units + 1 < cLine) (hN : X.N[i]? = some x) (hv : Vis X.env.scope x) (hix : PE X ix (tD cls W false mx)) (he : PE X e (tD cls W false m))
    (hd : (x == ("__debug__" : Str)) = false := by decide) (hcd : (x == ("__classdict__" : Str)) = false := by decide)
    (ha : ∀ ov iv new, augStore ix ov iv new = (do holding [new, ov, iv] (setItem ov iv new); release [new, ov, iv] []; pure .next) := by intros; rfl) :
    PS X (.AugAssign (.Subscript (.Name x p) ix tpos) .Add e pos) (tS cls W (.augix i fr mx m)) :=
  (ps_augS (pe_var hN hv hd hcd) hix (get_dict hu) he ip_add (set_dict hu) ha).imp fun E σ H ⟨G, U0, He, ρ, N, R, Xd, r, w, k⟩ => by
    simp only [wS] at w
    have r0 := r.frz fr
    split at w
    · rename_i ks vs hn
      obtain ⟨a, h1, n0, h3, kvs, hx, hk, lx⟩ := r0.own _ _ hn
      have nmv : ¬ G.mv a := fun mm => n0 (r0.mv _ mm)
      have ua : Uo U0 (DL.frz fr ρ) σ a := .inr ⟨i, _, hn, h1⟩
      refine ⟨_, h1, tD_in r0 w (fun d1 v1 H1 e1 r1 p1 fz1 w1 => ?_) (k.xe r0)⟩
      cases d1 <;> first
        | exact (w1 : False).elim
        | skip
      rename_i t
      have w1 : (match lookD ks vs t with | some (.int x) => _ | _ => False) := w1
      split at w1
      · rename_i n hl
        cases (show v1 = V.str (mkS t) from p1.p)
        have hx1 := e1.keep a _ hx nmv
        have lx1 := RpL.keep (r0.kp e1) (fun _ z => .inl z) _ _ lx
        obtain ⟨w0, hw, rw⟩ := (lookD_val hk lx1).1 _ hl
        cases (show w0 = V.int n from rw)
        refine ⟨a, .int n, rfl, .inl ⟨kvs, kk t, .inl hx1, rfl, hw.symm⟩, tD_in r1 w1 (fun d2 v2 H2 e2 r2 p2 fz2 w2 => ?_) fun j H2 e2 q => k.xe r0 j H2 (e1.trans e2) q⟩
        cases d2 <;> first
          | exact (w2 : False).elim
          | skip
        rename_i n2
        have hx2 := e2.keep a _ hx1 nmv
        have lx2 := RpL.keep (r1.kp e2) (fun _ z => .inl z) _ _ lx1
        obtain ⟨g1, g2⟩ := putK_kk (x := t) (d := .int (n + n2)) (v := .int (n + n2)) hk lx2 rfl
        refine ⟨n, n2, rfl, p2.p, a, _, rfl, DPut.k (k := kk t) hx2 (by rw [map_len hk, sizeLine_eq]; exact w2.1), ?_⟩
        have kp := Kp.boxUpd (G := G) (o := .dK (putK kvs (kk t) (.int (n + n2)))) ua (.inr ⟨kvs, hx2⟩)
        exact k.nx _ _ _ (r2.write (d' := .dic _ _) hn h1 (.inr ⟨kvs, hx2⟩) ⟨_, upd_same, g1, RpL.keep kp (fun _ z => .inl z) _ _ g2⟩) w2.2
      · exact w1.elim
    · exact w.elim
/-- xs[i] = v -/
theorem ts_setix (hN : X.N[i]? = some x) (hv : Vis X.env.scope x) (hix : PE X ix (tD cls W false mx)) (he : PE X e (tD cls W true m))
    (hd : (x == ("__debug__" : Str)) = false := by decide) (hcd : (x == ("__classdict__" : Str)) = false := by decide)
    (ha : ∀ v, assign (.Subscript (.Name x p) ix tpos) X.env v = (do
      let ov ← holding [v] (eval (.Name x p) X.env)
      let iv ← holding [v, ov] (eval ix X.env)
      standAt tpos
      holding [v, ov, iv] (setItem ov iv v)
      release [v, ov, iv] []) := by intro _; rfl)
    (hs : swapsWithSole [.Subscript (.Name x p) ix tpos] e pos.line X.env = pure false := by rfl) (hw : swappedStores [.Subscript (.Name x p) ix tpos] e X.env = pure none := by rfl)
    (h1 : (assignEach [.Subscript (.Name x p) ix tpos] X.env).map (·.2) = [assign (.Subscript (.Name x p) ix tpos) X.env] := by rfl) (hu : X.A.units + 1 < cLine) :
    PS X (.Assign [.Subscript (.Name x p) ix tpos] e pos) (tS cls W (.setix i fr mx m)) :=
  (ps_asg he (pg_sub (pe_var hN hv hd hcd) hix (fun pins s σ H o i v ov iv u Q I ro ri rv (h : rSetL o i v H Q ∨ rSetD o i v H Q) => h.elim (set_list pins s σ H o i v ov iv u Q I ro ri rv) (set_dict hu pins s σ H o i v ov iv u Q I ro ri rv)) ha) hs hw h1).imp fun E σ H ⟨G, U0, He, ρ, N, R, Xd, r, w, k⟩ => by
    simp only [wS] at w
    have r0 := r.frz fr
    refine tD_in r0 w (fun d v H1 e1 r1 p f w1 => ?_) (k.xe r0)
    split at w1
    · rename_i ds hn
      obtain ⟨a, h1, n0, h3, xs, hx, lx⟩ := r1.own _ _ hn
      have nmv : ¬ G.mv a := fun mm => n0 (r0.mv _ mm)
      have ua : Uo U0 (DL.frz fr ρ) σ a := .inr ⟨i, _, hn, h1⟩
      refine ⟨_, h1, tD_in r1 w1 (fun d2 v2 H2 e2 r2 p2 fz2 w2 => ?_) fun j H2 e2 q => k.xe r0 j H2 (e1.trans e2) q⟩
      cases d2 <;> first
        | exact (w2 : False).elim
        | skip
      rename_i n
      cases (show v2 = V.int n from p2.p)
      obtain ⟨j, hj, w3⟩ := onS_some w2
      have hx2 := e2.keep a _ hx nmv
      have lx2 := RpL.keep (r1.kp e2) (fun _ z => .inl z) _ _ lx
      have p' := Rp.keep (r1.kp e2) (fun _ z => .inl z) _ _ p
      refine .inl ⟨a, xs, n, j, rfl, rfl, hx2, by rw [lx2.len]; exact hj, ?_⟩
      have kp := Kp.boxUpd (G := G) (o := .lst (xs.set j v)) ua (.inl ⟨xs, hx2⟩)
      exact k.nx _ _ _ (r2.write (d' := .lst (ds.set j d)) hn h1 (.inl ⟨xs, hx2⟩) ⟨_, upd_same, RpL.keep kp (fun _ z => .inl z) _ _ (lx2.set p' j)⟩) w3
    · rename_i ks vs hn
      obtain ⟨a, h1, n0, h3, kvs, hx, hk, lx⟩ := r1.own _ _ hn
      have nmv : ¬ G.mv a := fun mm => n0 (r0.mv _ mm)
      have ua : Uo U0 (DL.frz fr ρ) σ a := .inr ⟨i, _, hn, h1⟩
      refine ⟨_, h1, tD_in r1 w1 (fun d2 v2 H2 e2 r2 p2 fz2 w2 => ?_) fun j H2 e2 q => k.xe r0 j H2 (e1.trans e2) q⟩
      cases d2 <;> first
        | exact (w2 : False).elim
        | skip
      rename_i t
      cases (show v2 = V.str (mkS t) from p2.p)
      have hx2 := e2.keep a _ hx nmv
      have lx2 := RpL.keep (r1.kp e2) (fun _ z => .inl z) _ _ lx
      have p' := Rp.keep (r1.kp e2) (fun _ z => .inl z) _ _ p
      obtain ⟨g1, g2⟩ := putK_kk (x := t) (d := d) (v := v) hk lx2 p'
      refine .inr ⟨a, _, rfl, DPut.k (k := kk t) hx2 (by rw [map_len hk, sizeLine_eq]; exact w2.1), ?_⟩
      have kp := Kp.boxUpd (G := G) (o := .dK (putK kvs (kk t) v)) ua (.inr ⟨kvs, hx2⟩)
      exact k.nx _ _ _ (r2.write (d' := .dic _ _) hn h1 (.inr ⟨kvs, hx2⟩) ⟨_, upd_same, g1, RpL.keep kp (fun _ z => .inl z) _ _ g2⟩) w2.2
    · exact w1.elim
end
end DL

set_option Elab.async false
set_option linter.all false
set_option maxRecDepth 100000
set_option maxHeartbeats 4000000
/-! DM2: dict comprehensions. -/
namespace DL
open PySem PySem.Spec PyProof.Rows L2
variable [Tb]
section
variable {X : Cx} {cls : Nat → Addr} {W : WX} {m mk mv : ME} {g : MG} {kx vx tg iter : Expr} {scope : Scope} {own : List (Str × Nat)} {pos p : Pos}
theorem imp_dc {vs : List Nat} {σ : St} {H : Hp} {Q : VK} (hv : vs = g.slots) (q : tD cls W true (.dc g m mk mv) σ H Q) : tDc (iDp cls W m) (gD g) (tTs cls noW []) (tD cls noW true mk) (tD cls noW true mv) vs σ H Q := by
  obtain ⟨G, U0, He, ρ, Qd, Xd, r, w, k, x⟩ := q
  subst hv
  simp only [wE] at w
  obtain ⟨hno, w⟩ := w
  refine ⟨G, U0, He, ρ, _, Xd, r, w, fun xs J H1 e1 rb it q => ?_, x⟩
  intro Dn hD
  have sm0 : Same H1 (upd H1 Dn (.dK [])) := same_upd hD
  have ext0 : Ext G H1 (upd H1 Dn (.dK [])) := .same sm0
  have hDb : He Dn = none := rb.newHe hD
  let U1 : Addr → Prop := fun b => U0 b ∨ b = Dn
  have S : ∀ H', RE G U1 He H' σ ρ → RE G U1 He H' (wipe σ g.slots) (wipeD ρ g.slots) := fun H' r' => (r'.wipe _ hno).1
  let Wd : List D → List (List Nat) → List D → Prop := fun xs ks vs => wDC (wipeD ρ g.slots) g (fun ρ' K => wE mk ρ' K fun _ => False) (fun ρ' K => wE mv ρ' K fun _ => False) xs ks vs fun ks vs => Qd (.dic ks vs)
  let St : Nat → Hp → Prop := fun i H' => ∃ (ks : List (List Nat)) (vs : List D) (kvs : List (Key × V)), RE G U1 He H' σ ρ ∧ H' Dn = some (.dK kvs) ∧ Ext G H1 (fun b => if b = Dn then H1 Dn else H' b) ∧ kvs.map (·.1) = ks.map kk ∧ RpL G (Uo U1 ρ σ) H' vs (kvs.map (·.2)) ∧ Wd (xs.drop i) ks vs
  refine ⟨fun i mm H' => mm = xs.length - i ∧ i ≤ xs.length ∧ St i H', ⟨_, rfl, Nat.zero_le _, [], [], [], ?_, upd_same, ?_, rfl, rfl, q⟩, fun i mm H' ⟨hm, hi, ks, vs, kvs, r', hacc, ex, hk, l, w'⟩ => ?_⟩
  · exact rb.more ext0 hD ⟨_, upd_same⟩
  · have e : (fun b => if b = Dn then H1 Dn else upd H1 Dn (.dK []) b) = H1 := by
      funext b
      by_cases z : b = Dn
      · rw [if_pos z, z]
      · rw [if_neg z, upd_ne z]
    rw [e]; exact Ext.refl G H1
  have uo1 : ∀ a, Uo U1 ρ σ a → Uo U1 (wipeD ρ g.slots) (wipe σ g.slots) a := (r'.wipe _ hno).2.1
  have kk1 : ∀ a o, H1 a = some o → ¬ G.mv a → H' a = some o := fun a o e n => by
    have q1 := ex.keep a o e n
    have ne : a ≠ Dn := fun z => by rw [z, hD] at e; cases e
    have q2 : (if a = Dn then H1 Dn else H' a) = some o := q1
    rw [if_neg ne] at q2; exact q2
  have le := LE.mk (G := G) (Hb := H1) (H := H') kk1 fun a ys e => by
    have n : ¬ G.mv a := rb.inv.tup (xs := ys) e
    rcases e with e | ⟨u, e⟩
    · exact .inl (kk1 _ _ e n)
    · exact .inr ⟨u, kk1 _ _ e n⟩
  have hDm : ¬ G.mv Dn := fun m => by
    obtain ⟨o, z⟩ := rb.trk _ (rb.mv _ m)
    rw [hD] at z; cases z
  by_cases hlt : i < xs.length
  · refine .inr ?_
    have hx : xs[i]? = some xs[i] := List.getElem?_eq_getElem hlt
    obtain ⟨go, yl⟩ := it.at_ H' le i _ hx
    rw [List.drop_eq_getElem_cons hlt] at w'
    simp only [Wd, wDC] at w'
    obtain ⟨ρ2, a2, w2⟩ := onS_some w'
    refine ⟨go, St (i + 1), fun H' h => ⟨xs.length - (i + 1), by omega, rfl, hlt, h⟩, fun v H2 y => ?_⟩
    obtain ⟨sm, rp⟩ := yl v H2 y
    have r2 := r'.step (Ext.same sm)
    have rw2 := S H2 r2
    have cont : ∀ H4, Ext G H2 H4 → RE G U1 He H4 σ ρ ∧ H4 Dn = some (.dK kvs) ∧ Ext G H1 (fun b => if b = Dn then H1 Dn else H4 b) ∧ RpL G (Uo U1 ρ σ) H4 vs (kvs.map (·.2)) := fun H4 e4 => by
      have eA := (Ext.same (G := G) sm).trans e4
      refine ⟨r2.step e4, eA.keep _ _ hacc hDm, ⟨fun b o e n => ?_, fun gi => ?_⟩, RpL.keep (r'.kp eA) (fun _ z => .inl z) _ _ l⟩
      · have q1 := ex.keep b o e n
        show (if b = Dn then H1 Dn else H4 b) = some o
        by_cases z : b = Dn
        · rw [if_pos z]; rw [if_pos z] at q1; exact q1
        · rw [if_neg z]; rw [if_neg z] at q1; exact eA.keep b o q1 n
      · have i4 := (r2.step e4).inv
        refine ⟨fun b dd => ?_, fun p hp => ?_⟩
        · obtain ⟨x1, y1, z1⟩ := i4.1 b dd
          have ne : b ≠ Dn := fun z => hDm (z ▸ .inl dd)
          exact ⟨x1, y1, (if_neg ne).trans z1⟩
        · obtain ⟨ps, z1, z2, z3⟩ := i4.2 p hp
          have ne : p.1 ≠ Dn := fun z => hDm (z ▸ .inr ⟨p.2, hp⟩)
          refine ⟨ps, (if_neg ne).trans z1, z2, fun ps' cv hc => ?_⟩
          obtain ⟨c1, h1, h2⟩ := z3 ps' cv hc
          refine ⟨c1, h1, ?_⟩
          have ne2 : c1 ≠ Dn := fun z => by
            rw [z, eA.keep _ _ hacc hDm] at h2; cases h2
          exact (if_neg ne2).trans h2
    refine ⟨G, U1, He, _, _, ρ2, rw2, rp _ (fun a m => ?_), a2, fun σ3 k3 => ⟨?_, ?_⟩⟩
    · rcases m with (z | z) | ⟨j, d', z1, z2⟩
      · exact .inl (.inl z)
      · exact .inr (z ▸ hD)
      · refine .inl (.inr ⟨j, d', (r'.wipe _ hno).2.2 j d' z1, ?_⟩)
        exact (wipe_some z2).1
    · rw [k3.ws g.slots fun i hi => hi, wipe_wipe]
    · have r3 := k3.re
      have hno2 : ∀ i ∈ g.slots, notOwn (wipeD ρ g.slots) i = true := fun i hi => by
        have h1 := List.all_eq_true.mp hno i hi
        unfold notOwn at h1 ⊢
        cases q : (wipeD ρ g.slots)[i]? with
        | none => rfl
        | some s =>
          cases s with
          | own d =>
            rw [(r'.wipe _ hno).2.2 i d q] at h1; cases h1
          | _ => rfl
      refine ⟨G, U1, He, ρ2, fun b => b = true ∧ _, r3, ⟨rfl, w2⟩, fun bb H3 e3 ⟨eb, w3⟩ => ?_⟩
      subst eb
      rw [if_pos rfl]
      refine tD_in (r3.step e3) w3 (fun dk v4 H4 e4 r4 p4 f4 w4 => tD_in r4 w4 (fun dv v5 H5 e5 r5 p5 f5 w5 => ?_) fun _ _ _ z => z.elim) fun _ _ _ z => z.elim
      obtain ⟨c1, c2, c3, c4⟩ := cont H5 ((e3.trans e4).trans e5)
      cases dk <;> first
        | exact (w5 : False).elim
        | skip
      rename_i t
      obtain ⟨hlen, w5⟩ := w5
      have hUD : Uo U1 ρ σ Dn := .inl (.inr rfl)
      have kp : Kp (Uo U1 ρ σ) H5 (upd H5 Dn (.dK (putK kvs (kk t) v5))) := Kp.boxUpd (G := G) hUD (.inr ⟨_, c2⟩)
      have p5' : Rp G (Uo U1 ρ σ) H5 dv v5 := Rp.anti (fun b m => .inl (k3.ou hno2 b (uo1 b m))) p5
      obtain ⟨g1, g2⟩ := putK_kk (x := t) hk c4 p5'
      refine ⟨kvs, kk t, (show v4 = V.str (mkS t) from p4), c2, by rw [map_len hk, sizeLine_eq]; exact hlen, (putD ks vs t dv).1, (putD ks vs t dv).2, putK kvs (kk t) v5, ?_, upd_same, ?_, g1, RpL.keep kp (fun _ z => .inl z) _ _ g2, w5⟩
      · refine ⟨c1.len, c1.mv, fun b m => ?_, ⟨fun b dd => ?_, fun p hp => ?_⟩, fun b o e n => ?_, fun j d' hj => ?_, fun j d' hj => ?_, c1.sep⟩
        · by_cases z : b = Dn
          · exact ⟨_, by rw [z]; exact upd_same⟩
          · rw [upd_ne z]; exact c1.trk b m
        · obtain ⟨x1, y1, z1⟩ := c1.inv.1 b dd
          have ne : b ≠ Dn := fun z => hDm (z ▸ .inl dd)
          exact ⟨x1, y1, by rw [upd_ne ne]; exact z1⟩
        · obtain ⟨ps, z1, z2, z3⟩ := c1.inv.2 p hp
          have ne : p.1 ≠ Dn := fun z => hDm (z ▸ .inr ⟨p.2, hp⟩)
          refine ⟨ps, by rw [upd_ne ne]; exact z1, z2, fun ps' cv hc => ?_⟩
          obtain ⟨cc, h1, h2⟩ := z3 ps' cv hc
          exact ⟨cc, h1, by rw [upd_ne fun z => by rw [z, c2] at h2; cases h2]; exact h2⟩
        · rw [upd_ne fun z => by rw [z, hDb] at e; cases e]
          exact c1.ext b o e n
        · obtain ⟨w5, g1, g2⟩ := c1.imm j d' hj
          exact ⟨w5, g1, Rp.keep kp (fun _ z => .inl z) _ _ g2⟩
        · obtain ⟨b, g1, n0, g3, g4⟩ := c1.own j d' hj
          have nb : b ≠ Dn := fun z => n0 (.inr z)
          exact ⟨b, g1, n0, g3, g4.step kp (fun _ z => .inl z) fun o z => by rw [upd_ne nb]; exact z⟩
      · have e : (fun b => if b = Dn then H1 Dn else upd H5 Dn (.dK (putK kvs (kk t) v5)) b) = fun b => if b = Dn then H1 Dn else H5 b := by
          funext b
          by_cases z : b = Dn
          · rw [if_pos z, if_pos z]
          · rw [if_neg z, if_neg z, upd_ne z]
        rw [e]; exact c3
  · have ei : i = xs.length := by omega
    subst ei
    rw [List.drop_length] at w'
    refine .inl ⟨it.stop H' le, ?_⟩
    have w' : Qd (.dic ks vs) := w'
    have eF : Ext G H H' := by
      refine e1.trans ⟨fun b o e n => ?_, fun _ => r'.inv⟩
      have q1 := ex.keep b o e n
      by_cases z : b = Dn
      · rw [z, hD] at e; cases e
      · have q2 : (if b = Dn then H1 Dn else H' b) = some o := q1
        rw [if_neg z] at q2; exact q2
    have nU : ¬ Uo U0 ρ σ Dn := rb.newU hD
    have hU : ∀ b, Uo U0 ρ σ b → Uo U1 ρ σ b := fun b m => m.elim (fun m => .inl (.inl m)) .inr
    have hD0 : H Dn = none := r.back e1 hD
    refine k (.dic ks vs) (.ref Dn) H' eF ⟨Dn, kvs, rfl, .inl hacc, nU, hk, l.anti fun b m => .inl (hU b m)⟩ (fun _ _ => ⟨Dn, rfl, hD0, kvs, hacc, hk, l.anti fun b m => .inl ?_⟩) w'
    rcases m with m | m
    · exact hU b m
    · exact .inl (.inr m)
theorem te_dc (hc : X.calm = true) (hN : X.N.Nodup) (hi : PI X tg iter (iDp cls W m)) (ok : BlkOk X.N X.env.scope scope own) (hv : own.map (·.2) = g.slots)
    (hg : ∀ (s : Shared) (H : Hp) (C : Addr) (cl : List (Str × Addr)) (fp : List Addr), PG (X.blk s H scope (compEnvC scope cl C X.env) fp) tg (gD g))
    (hk : ∀ (s : Shared) (H : Hp) (C : Addr) (cl : List (Str × Addr)) (fp : List Addr), PE (X.blk s H scope (compEnvC scope cl C X.env) fp) kx (tD cls noW true mk))
    (he : ∀ (s : Shared) (H : Hp) (C : Addr) (cl : List (Str × Addr)) (fp : List Addr), PE (X.blk s H scope (compEnvC scope cl C X.env) fp) vx (tD cls noW true mv)) (hs : ∀ x, foldedSetIterable iter X.env x = pure x := by intro _; rfl) :
    PE X (.DictComp kx vx [⟨tg, iter, [], 0⟩] scope pos) (tD cls W true (.dc g m mk mv)) :=
  (pe_dc hc hN hi ok hg (fun _ _ _ _ _ => tts_nil) hk he hs).imp fun σ H Q q => imp_dc hv q
end
end DL

set_option Elab.async false
set_option linter.all false
set_option maxRecDepth 100000
set_option maxHeartbeats 4000000
/-! DM3: a text, a list, a tuple turned round. -/
namespace DL
open PySem PySem.Spec PyProof.Rows L2 HT
section
variable {prog : Program} {w : World} {A : Around} {E : Value → Shared → Prop} {s : Shared}
/-- where [::-1] begins, how many places it has -/
theorem rv_applied {sl : Addr} {vs : Value} {n : Nat} {Q : Int × Int × Nat → Shared → Prop} (hs : s.heap.get? sl = some { cls := .type "slice", data := .fields #[.none, .none, vs] }) (ps : IsPart vs (some (-1)))
    (h : Q ((n : Int) - 1, -1, n) s) : wpAny (model prog w) A (Builtin.Slice.sliceApplied (.ref sl) (pure (n : Int))) Q E s := by
  unfold Builtin.Slice.sliceApplied Builtin.Slice.sliceFields
  refine wpAny_bind (wpAny_bind (wpAny_field hs rfl (x := .none) rfl (wpAny_bind (wpAny_field hs rfl (x := .none) rfl (wpAny_bind (wpAny_field hs rfl (x := vs) rfl (wpAny_pure ?_)))))))
  refine wpAny_bind (slicePart_ ps ?_)
  show wpAny _ _ (if ((-1 : Int) == 0) = true then _ else _) _ _ s
  rw [if_neg (by decide)]
  refine wpAny_bind (slicePart_ .none (wpAny_bind (slicePart_ .none (wpAny_bind (wpAny_pure ?_)))))
  have e2 : Builtin.Slice.slicePlaces ((n : Int) - 1) (-1) (-1) = n := by
    unfold Builtin.Slice.slicePlaces
    rw [if_neg (show ¬ ((-1 : Int) > 0) by omega)]
    have e3 : (- -1 : Int) = 1 := by decide
    rw [e3, Int.ediv_one]
    by_cases hn : (n : Int) - 1 > -1
    · rw [if_pos hn]; omega
    · rw [if_neg hn]; omega
  show wpAny _ _ (pure (((n : Int) - 1), (-1 : Int), Builtin.Slice.slicePlaces ((n : Int) - 1) (-1) (-1))) _ _ s
  rw [e2]
  exact wpAny_pure h
theorem rv_pick (xs : Array Value) : ((List.range xs.size).filterMap fun (m : Nat) => xs[((xs.size : Int) - 1 + (m : Int) * -1).toNat]?).toArray = xs.toList.reverse.toArray := by
  rw [← PySem.W.krv_all xs, ← List.filterMap_reverse, ← PySem.W.krv_range, List.filterMap_map]
  congr 2
  funext m
  have : ((xs.size : Int) - 1 + (m : Int) * -1).toNat = xs.size - 1 - m := by omega
  rw [this]; rfl
/-- t[::-1], t a tuple of two or more; or fewer: a new one too -/
theorem getItem_tuple_rv {t sl : Addr} {items : Array Value} {vs : Value} {Q : Value → Shared → Prop} (ht : IsTup s.heap t items) (hs : s.heap.get? sl = some { cls := .type "slice", data := .fields #[.none, .none, vs] }) (ps : IsPart vs (some (-1)))
    (h : Q (.ref s.heap.objs.size) { s with heap := s.heap.push { cls := .type "tuple", data := .seq items.toList.reverse.toArray } })
    (hsz : items.size ≤ sizeLine) : wpAny (model prog w) A (getItem (.ref t) (.ref sl)) Q E s := by
  have htake : sizeOk (.seq items.toList.reverse.toArray) := by
    show items.toList.reverse.toArray.size ≤ sizeLine
    simpa using hsz
  have hTs : s.TypeIs (.ref sl) "slice" := ⟨_, hs, rfl⟩
  unfold getItem
  try with_reducible refine wpAny_holding ?_
  first | refine wpAny_bind (wpAny_pure ?_) | skip
  refine wpAny_bind (wpAny_sequenceKey ht.typeIs (by decide) ?_)
  refine wpAny_bind (wpAny_callSpecial?_slot (name := Str.ofString "__getitem__") ht.typeIs PyProof.Rows.slot_tuple_getitem
    (wpAny_call_entry PyProof.Rows.slot_tuple_getitem ht.typeIs entry_tuple_getitem ?_ (args_tuple_getitem _ _)))
  show wpAny _ _ (Builtin.Tuple.tupleItemsOf (.ref t) >>= _) _ _ s
  refine wpAny_bind (tupleItemsOf_ ht (wpAny_bind (wpAny_typeOf hTs ?_)))
  rw [if_pos (by decide)]
  refine wpAny_bind (rv_applied hs ps ?_)
  have hno : ¬ ((((items.size : Int) - 1) == 0 && (-1 : Int) == 1 && items.size == items.size) = true) := by simp
  show wpAny _ _ (if (((items.size : Int) - 1) == 0 && (-1 : Int) == 1 && items.size == items.size) = true then _ else _) _ _ s
  rw [if_neg hno, rv_pick]
  first
    | exact wpAny_bind (m := Builtin.Tuple.tupleExact _) (wpAny_newObj_type (wpAny_pure ⟨_, rfl, wpAny_pure h⟩) htake)
    | exact wpAny_bind (m := Builtin.Tuple.tupleExact _) (wpAny_newObj_type (wpAny_bind (wpAny_pure (wpAny_pure ⟨_, rfl, wpAny_pure h⟩))) htake)
    | exact wpAny_bind (wpAny_bind (m := Builtin.Tuple.tupleExact _) (wpAny_newObj_type (wpAny_pure (wpAny_pure ⟨_, rfl, wpAny_pure h⟩)) htake))
    | exact wpAny_bind (wpAny_bind (m := Builtin.Tuple.tupleExact _) (wpAny_newObj_type (wpAny_pure ⟨_, rfl, wpAny_pure h⟩) htake))
end
variable [Tb]
section
variable {X : Cx} {cls : Nat → Addr} {W : WX} {m : ME} {e : Expr}
theorem rv_txt (a : List Nat) (u : Tok) : (Txt.sliceBy (mkS a) none none (-1, u)) = mkS a.reverse := by
  have h := step_rev_list (mkS a) u
  have h2 : ((List.range (mkS a).length).map fun k => (mkS a).cps.getD ((mkS a).length - 1 - k) 0) = a.reverse := by
    rw [mkS_len]
    apply List.ext_getElem
    · simp
    · intro i h1 h2
      simp only [List.length_map, List.length_range] at h1
      rw [List.getElem_map, List.getElem_range, List.getElem_reverse]
      show a.toArray.getD (a.length - 1 - i) 0 = a[a.length - 1 - i]
      rw [Array.getD_eq_getD_getElem?, List.getElem?_toArray, List.getElem?_eq_getElem (by omega)]
      rfl
  rw [h2] at h
  generalize (Txt.sliceBy (mkS a) none none (-1, u)) = z at h
  obtain ⟨⟨l⟩⟩ := z
  cases (show l = a.reverse from h)
  rfl
theorem te_rev {k : Nat} {p1 p2 p3 pos : Pos} (he : PE X e (tD cls W false m)) : PE X (.Subscript e (.Slice none none (some (.UnaryOp .USub (.Constant (.int 1) k p1) p2)) p3) pos) (tD cls W true (.rev m)) := by
  refine ⟨fun pins s σ H Q I ⟨G, U0, He, ρ, Qd, Xd, r, w, kq, x⟩ => ?_⟩
  simp only [wE] at w
  refine Subscript_ (thn (he.run pins s σ H _ I (tD_in r w (fun d v H' e r' p f q => (⟨d, e, r', p.p, q⟩ : ∃ d, Ext G H H' ∧ RE G U0 He H' σ ρ ∧ RpP G (Uo U0 ρ σ) H' d v ∧ onS (revD d) Qd)) x)) fun v s1 ⟨y, H1, I1, r1, d, e1, r1', p1', q1⟩ => ?_)
  have hst : PO X (some (.UnaryOp .USub (.Constant (.int 1) k p1) p2)) (tPart (tUn (rU fun i => .int (-i)) (tC (.int 1)))) := po_some (pe_un un_neg pe_int)
  refine wpAny_Slice (thn (po_none.run pins s1 σ H1 (fun o H2 => o = none ∧ H2 = H1) I1 ⟨rfl, rfl⟩) fun vl s2 ⟨l, H2, I2, pl, el, e2⟩ => ?_)
  subst el e2
  refine thn (po_none.run pins s2 σ H2 (fun o H3 => o = none ∧ H3 = H2) I2 ⟨rfl, rfl⟩) fun vu s3 ⟨u, H3, I3, pu, eu, e3⟩ => ?_
  subst eu e3
  refine thn (hst.run pins s3 σ H3 (fun o H4 => o = some (-1) ∧ H4 = H3) I3 ⟨1, rfl, -1, rfl, rfl, rfl⟩) fun vs s4 ⟨o, H4, I4, ps, eo, e4⟩ => ?_
  subst eo e4
  cases pl
  cases pu
  have I5 : Inv X pins σ H4 { s4 with heap := s4.heap.push { cls := .type "slice", data := .fields #[Value.none, Value.none, vs] } } := I4.kept (t' := s4.toks) fun b ob q => Heap.get?_push_of_some _ q
  have hsl : (s4.heap.push { cls := .type "slice", data := .fields #[Value.none, Value.none, vs] }).get? s4.heap.objs.size = some { cls := .type "slice", data := .fields #[Value.none, Value.none, vs] } := Heap.get?_push_size _ rfl
  show wpAny (model X.prog X.w) X.A (subscriptTail e (.Slice none none (some (.UnaryOp .USub (.Constant (.int 1) k p1) p2)) p3) v (.ref s4.heap.objs.size)) (EP X pins σ Q) X.xe { s4 with heap := s4.heap.push { cls := .type "slice", data := .fields #[Value.none, Value.none, vs] } }
  obtain ⟨dz, ez, q2⟩ := onS_some q1
  clear q1
  cases d <;> simp only [revD] at ez <;> first
    | cases ez
    | skip
  · rename_i a
    split at ez <;> first
      | cases ez
      | skip
    rename_i hz0
    cases (show y = V.str (mkS a) from p1')
    obtain ⟨t, rfl⟩ := r1
    obtain ⟨tk, rfl⟩ : ∃ tk, vs = .int (-1) tk := by cases ps; exact ⟨_, rfl⟩
    refine tail_any (ops := [.ref s4.heap.objs.size, .str (mkS a) t]) (typeIs_str _ _ _) (PySem.F.slot_str_getitem.lookup) ?_ (by with_unfolding_all rfl)
    refine wpAny_getItem_str_slice (l := none) (u := none) (st := some (-1, tk)) ⟨_, hsl, rfl, rfl⟩ rfl ?_
    have e : sliceMade (mkS a) t none none (some (-1, tk)) = .str (mkS a.reverse) := by
      rw [← rv_txt a tk]
      unfold sliceMade Txt.sliceBy
      have hn : ¬ (((((some ((-1 : Int), tk)).map (·.1)).getD 1 == 1) && ((slicePicked (mkS a) none none (some (-1, tk))).length == (mkS a).length)) = true) := by
        have : ((((some ((-1 : Int), tk)).map (·.1)).getD 1 == 1)) = false := rfl
        rw [this]; simp
      rw [if_neg hn, if_neg hn]
    rw [e]
    have hl : (mkS a).length ≤ sizeLine := by rw [mkS_len, sizeLine_eq]; exact hz0
    exact ⟨by rw [mkS_len, List.length_reverse, ← mkS_len]; exact hl, .str _, _, I5.tok _, ⟨_, rfl⟩, kq (.str a.reverse) _ _ e1 rfl (Fre.no rfl) q2⟩
  · rename_i ds
    obtain ⟨a, xs, ex, hx, lx⟩ := p1'
    subst ex
    cases r1
    obtain ⟨its, rv, ht, hz⟩ := I5.tuple (.inl hx)
    refine tail_any (ops := [.ref a, .ref s4.heap.objs.size]) ht.typeIs (PyProof.Rows.slot_tuple_getitem.lookup) ?_ (by with_unfolding_all rfl)
    refine getItem_tuple_rv ht hsl ps ?_ (by rw [List.size_toArray, ← rv.length]; exact hz)
    have hp := I5.hok.fresh (Nat.le_refl _)
    have sm := same_upd (o := .tup xs.reverse) hp
    refine ⟨.ref _, _, I5.laid (t' := s4.toks) (o := .tup xs.reverse) (fun b ob q => Heap.get?_push_of_some _ q) (Nat.le_refl _) ?_, rfl, kq (.tup ds.reverse) _ _ (e1.trans (.same sm)) ⟨_, xs.reverse, rfl, .inl upd_same, RpL.keep (Same.kp sm) (fun _ z => .inl z) _ _ lx.reverse⟩ (Fre.no rfl) q2⟩
    exact ⟨by rw [List.length_reverse]; exact hz, _, rv.reverse, IsTup.new _ _⟩
  · rename_i ds
    obtain ⟨a, xs, ex, hx, lx⟩ := p1'
    subst ex
    cases r1
    obtain ⟨its, rv, ht, hz⟩ := I5.list (SqL.of hx)
    refine tail_any (ops := [.ref a, .ref s4.heap.objs.size]) ht.isList.typeIs (PySem.slot_list_getitem.lookup) ?_ (by with_unfolding_all rfl)
    refine wpAny_getItem_list_slice ht.isList (Heap.IsSliceOf.new _ .none .none vs) .none .none ps (by decide) ?_ (by rw [List.size_toArray, ← rv.length]; exact hz)
    rw [PySem.W.krv_pick]
    have hp := I5.hok.fresh (Nat.le_refl _)
    have sm := same_upd (o := .lst xs.reverse) hp
    refine ⟨.ref _, _, I5.laid (t' := s4.toks) (o := .lst xs.reverse) (fun b ob q => Heap.get?_push_of_some _ q) (Nat.le_refl _) ?_, rfl, kq (.lst ds.reverse) _ _ (e1.trans (.same sm)) ⟨_, xs.reverse, rfl, upd_same, r1'.newU hp, RpL.keep (Same.kp sm) (fun _ z => .inl z) _ _ lx.reverse⟩ (Fre.no rfl) q2⟩
    exact ⟨by rw [List.length_reverse]; exact hz, _, 0, rv.reverse, Heap.get?_push_size _ rfl⟩
end
end DL

set_option Elab.async false
set_option linter.all false
set_option maxRecDepth 100000
set_option maxHeartbeats 4000000
/-! DM4: a text sorted; two places of a list exchanged. -/
namespace DL
open PySem PySem.Spec PyProof.Rows L2
/-! ### sorted ones are told by what they hold -/
theorem ltL_irr (x : List Nat) : ltL x x = false := by
  unfold ltL; rw [decide_eq_false]; exact List.lt_irrefl x
theorem leL_tr (a b c : List Nat) (h1 : leL a b = true) (h2 : leL b c = true) : leL a c = true := by
  unfold leL ltL at *
  simp only [Bool.not_eq_true', decide_eq_false_iff_not] at *
  exact List.not_lt.mpr (List.le_trans (List.not_lt.mp h1) (List.not_lt.mp h2))
theorem leL_tot (a b : List Nat) : (leL a b || leL b a) = true := by
  unfold leL ltL
  simp only [Bool.or_eq_true, Bool.not_eq_true', decide_eq_false_iff_not]
  rcases List.le_total a b with h | h
  · exact .inl (List.not_lt.mpr h)
  · exact .inr (List.not_lt.mpr h)
theorem leL_anti (a b : List Nat) (h1 : leL a b = true) (h2 : leL b a = true) : a = b := by
  unfold leL ltL at *
  simp only [Bool.not_eq_true', decide_eq_false_iff_not] at *
  exact List.le_antisymm (List.not_lt.mp h1) (List.not_lt.mp h2)
theorem sortL_pair (xs : List (List Nat)) : (sortL xs).Pairwise fun a b => leL a b = true := List.pairwise_mergeSort (fun a b c => leL_tr a b c) leL_tot xs
theorem sortL_uniq {xs ys : List (List Nat)} (hp : ys.Perm xs) (hs : ys.Pairwise fun a b => leL a b = true) : ys = sortL xs :=
  List.Perm.eq_of_pairwise (fun a b _ _ h1 h2 => leL_anti a b h1 h2) hs (sortL_pair xs) (hp.trans (List.mergeSort_perm xs leL).symm)
theorem rising_pair : ∀ (l : List (List Nat)) (p : List Nat), risingS (mkS p) (l.map mkS) = true → (p :: l).Pairwise fun a b => leL a b = true
  | [], p, _ => by simp
  | x :: r, p, h => by
    have h : (!ltCps x p && risingS (mkS x) (r.map mkS)) = true := h
    rw [Bool.and_eq_true, ltCps_eq] at h
    have ih := rising_pair r x h.2
    have h1 : leL p x = true := h.1
    rw [List.pairwise_cons] at ih ⊢
    refine ⟨fun y hy => ?_, List.pairwise_cons.mpr ih⟩
    rcases List.mem_cons.mp hy with rfl | hy
    · exact h1
    · exact leL_tr _ _ _ h1 (ih.1 y hy)
theorem sortedS_pair (l : List (List Nat)) (h : sortedS (l.map mkS) = true) : l.Pairwise fun a b => leL a b = true := by
  cases l with
  | nil => simp
  | cons x r => exact rising_pair r x h
theorem mk_perm {ss : List Str} {xs : List (List Nat)} (hp : ss.Perm (xs.map mkS)) : ∃ ys : List (List Nat), ss = ys.map mkS ∧ ys.Perm xs := by
  refine ⟨ss.map fun z => z.cps.toList, ?_, ?_⟩
  · rw [List.map_map]
    have : (mkS ∘ fun z : Str => z.cps.toList) = id := by funext z; exact mkS_of z
    rw [this, List.map_id]
  · have := hp.map fun z : Str => z.cps.toList
    rw [List.map_map] at this
    have e : ((fun z : Str => z.cps.toList) ∘ mkS) = id := by funext z; simp [mkS]
    rwa [e, List.map_id] at this
variable [Tb]
section
variable {prog : Program} {w : World} {A : Around} {E : Value → Shared → Prop} {s : Shared}
theorem call_sorted_txt {Q : Value → Shared → Prop} (hh : A.handled = none) (t : List Nat) (tk : Tok) (hn : t.length ≤ 1000)
    (h : ∀ (h1 h' : Heap) (tk' : Nat) (out : Array Value) (ss' : List Str) (ep : Nat), (∀ b o, s.heap.get? b = some o → h1.get? b = some o) → (∀ b o, h1.get? b = some o → h'.get? b = some o) → h'.get? h1.objs.size = some (seqObj "list" out ep) → StrsAre out.toList ss' →
      ss'.Perm ((t.map fun c => [c]).map mkS) → sortedS ss' = true → Q (.ref h1.objs.size) { s with heap := h', toks := tk' }) : wpAny (model prog w) A (call (.builtin "sorted") [.str (mkS t) tk]) Q E s := by
  refine Calls.call_function_entry kind_sorted plain_sorted entry_sorted (args_sorted1 _) ?_
  unfold Builtin.«sorted»
  refine wpAny_bind (m := checkCount "sorted" 1 1 _) (wpAny_pure ?_)
  refine wpAny_bind (wpAny_collect_str (A := A.in1) hh (mkS t) tk (fun s' acc hk hg hd ho hit => ?_) (by rw [sizeLine_eq]; simp [mkS]; omega))
  have hv := itemsOf_vals hit
  have hS : StrsAre acc.toList ((t.map fun c => [c]).map mkS) := by
    have e : (t.map fun c => V.str ⟨#[c]⟩) = (((t.map fun c => [c]).map mkS).map V.str) := by simp [Function.comp_def]
    rw [e] at hv
    exact hv.strs
  have hl : acc.toList.length ≤ sizeLine := by
    have := hv.length
    rw [sizeLine_eq]; simp at this ⊢; omega
  refine wpAny_bind (wpAny_newList ?_ (by exact hl))
  have hoL : (s'.heap.push (seqObj "list" acc.toList.toArray 0)).get? s'.heap.objs.size = some (seqObj "list" acc.toList.toArray 0) := Heap.get?_push_size _ rfl
  refine wpAny_bind (wpAny_holding (wpAny_call_entry slot_list_sort ⟨_, hoL, rfl⟩ entry_list_sort (list_sort_treeKAny strKind_oneLt hoL hS.keysOf (fun v₁ v₂ rest e => keyKind_strs (by rw [← e]; exact hS)) hl fun st' a1 a2 => ⟨_, rfl, ?_⟩) (args_list_sort _)))
  obtain ⟨ss', h1, h2, h3⟩ := sorted_out_str hS a1 a2
  refine wpAny_pure ⟨_, rfl, ?_⟩
  obtain ⟨ep, hp⟩ := sortedHeap_at (out := (arrOf st').map fun (z : Keyed) => z.2) hoL
  have g := h s'.heap _ s'.toks _ ss' ep hk (fun b o e => ?_) hp h1 h2 h3
  · have e : { s' with heap := sortedHeap (s'.heap.push (seqObj "list" acc.toList.toArray 0)) s'.heap.objs.size acc.toList ((arrOf st').map fun (z : Keyed) => z.2) } = { s with heap := sortedHeap (s'.heap.push (seqObj "list" acc.toList.toArray 0)) s'.heap.objs.size acc.toList ((arrOf st').map fun (z : Keyed) => z.2), toks := s'.toks } := by
      cases s'
      cases s
      cases hg
      cases hd
      cases ho
      rfl
    exact e ▸ g
  · have hlt := Heap.lt_size e
    rw [sortedHeap_old (Nat.ne_of_lt hlt) (by rw [Heap.size_push]; exact Nat.lt_succ_of_lt hlt)]
    exact Heap.get?_push_of_some _ e
end
section
variable {X : Cx} {cls : Nat → Addr} {W : WX} {m m1 m2 mx mj : ME} {e a b ix jx : Expr} {pos p p' tpos tpos' : Pos} {fr : List Nat} {i : Nat} {x : Str}
theorem k_sorted (hc : X.calm = true) : CallR X (.builtin "sorted") (rK1 (b1D .sorted)) := by
  rintro pins s σ H xs us Q I rs ⟨G, U, dx, dz, x, rfl, hU, px, e, o⟩
  cases dx <;> simp only [b1D] at e <;> first
    | cases e
    | skip
  · rename_i t
    split at e <;> first
      | cases e
      | skip
    rename_i hl
    obtain ⟨u, rfl, ru⟩ := vals1 rs
    cases (show x = V.str (mkS t) from px)
    obtain ⟨tk, rfl⟩ := ru
    refine call_sorted_txt (I.ok.hd hc) t tk hl fun h1 h' tk' out ss' ep k1 k2 hp hS hperm hsort => ?_
    have I1 : Inv X pins σ H { s with heap := h1 } := I.kept (t' := s.toks) k1
    obtain ⟨ys, rfl, hy⟩ := mk_perm hperm
    have := sortL_uniq hy (sortedS_pair ys hsort)
    subst this
    have hn := I1.hok.fresh (Nat.le_refl _)
    refine ⟨.ref h1.objs.size, _, I1.laid (t' := tk') k2 (Nat.le_refl _) (show ObjOk X.prog X.w _ h' _ (.lst (((sortL (t.map fun c => [c])).map mkS).map V.str)) from ⟨?_, out.toList, ep, vals_of_strs hS, by simpa [seqObj] using hp⟩), rfl, o.newL hU (RpL.mkStrs _) hn⟩
    rw [List.length_map, List.length_map, hy.length_eq, sizeLine_eq, List.length_map]; omega
  · rename_i ds
    rw [Option.bind_eq_some_iff] at e
    obtain ⟨ss, es, e⟩ := e
    split at e <;> first
      | cases e
      | skip
    rename_i hl
    obtain ⟨a, vs, ex, hx, lx⟩ := px
    subst ex
    rw [lx.strs es] at hx
    obtain ⟨its, rv, hlist, hz⟩ := I.list (SqL.of hx)
    rw [Vals.ref1 rs]
    have hlen := rv.length
    refine PyProof.Rows.sorted_strsAny hlist.isList rv.strs (by rw [← hlen]; exact hz) fun out ss' h1 h2 h3 => ?_
    obtain ⟨ep, he'⟩ := PyProof.Rows.sortedAll_at s.heap its out
    obtain ⟨ys, rfl, hy⟩ := mk_perm h2
    have := sortL_uniq hy (sortedS_pair ys h3)
    subst this
    refine ⟨.ref _, _, I.laid (t' := s.toks) (fun _ _ => PyProof.Rows.sortedAll_old) (Nat.le_succ _) (show ObjOk X.prog X.w _ _ _ (.lst (((sortL ss).map mkS).map V.str)) from ⟨?_, out.toList, ep, vals_of_strs h1, he'⟩), rfl, o.newL hU (RpL.mkStrs _) (I.hok.fresh (Nat.le_succ _))⟩
    rw [List.length_map, List.length_map, hy.length_eq, sizeLine_eq]; omega
theorem tb_sorted (hc : X.calm = true) (hm : X.mg "sorted" = none) (ha : PE X e (tD cls W false m)) (hg : Gl X "sorted" := by rfl) (he : starEach [e] X.env = (false, eval e X.env) :: starEach [] X.env := by rfl) (hpl : (backTo pos (starEach [] X.env)).any (·.1) = false := by rfl) :
    PE X (.Call (.Name "sorted" p) [e] [] pos) (tD cls W true (.b1 .sorted m)) := te_b1B (k_sorted hc) hg hm PyProof.Rows.boot_sorted ha (by decide) (by decide) he hpl
/-! ### x[i], x[j] = a, b -/
theorem ts_swp {kt k2 : Nat} {pt pt2 : Pos} (hc : X.calm = true) (hN : X.N[i]? = some x) (hv : Vis X.env.scope x) (hix : PE X ix (tD cls W false mx)) (hjx : PE X jx (tD cls W false mj)) (ha : PE X a (tD cls W true m1)) (hb : PE X b (tD cls W true m2))
    (hd : (x == ("__debug__" : Str)) = false := by decide) (hcd : (x == ("__classdict__" : Str)) = false := by decide)
    (g1 : ∀ v, assign (.Subscript (.Name x p) ix tpos) X.env v = (do
      let ov ← holding [v] (eval (.Name x p) X.env)
      let iv ← holding [v, ov] (eval ix X.env)
      standAt tpos
      holding [v, ov, iv] (setItem ov iv v)
      release [v, ov, iv] []) := by intro _; rfl)
    (g2 : ∀ v, assign (.Subscript (.Name x p') jx tpos') X.env v = (do
      let ov ← holding [v] (eval (.Name x p') X.env)
      let iv ← holding [v, ov] (eval jx X.env)
      standAt tpos'
      holding [v, ov, iv] (setItem ov iv v)
      release [v, ov, iv] []) := by intro _; rfl)
    (s1 : starEach [a, b] X.env = (false, eval a X.env) :: starEach [b] X.env := by rfl) (s2 : starEach [b] X.env = (false, eval b X.env) :: starEach [] X.env := by rfl)
    (n1 : (assignEach [.Subscript (.Name x p) ix tpos, .Subscript (.Name x p') jx tpos'] X.env).map (·.2) = assign (.Subscript (.Name x p) ix tpos) X.env :: (assignEach [.Subscript (.Name x p') jx tpos'] X.env).map (·.2) := by rfl)
    (n2 : (assignEach [.Subscript (.Name x p') jx tpos'] X.env).map (·.2) = assign (.Subscript (.Name x p') jx tpos') X.env :: (assignEach [] X.env).map (·.2) := by rfl)
    (n3 : (assignEach [.Subscript (.Name x p) ix tpos, .Subscript (.Name x p') jx tpos'] X.env).length = 2 := by rfl) (n4 : (assignEach [.Subscript (.Name x p) ix tpos, .Subscript (.Name x p') jx tpos'] X.env).findIdx? (·.1) = none := by rfl)
    (hs : swapsWithSole [.Tuple [.Subscript (.Name x p) ix tpos, .Subscript (.Name x p') jx tpos'] kt pt] (.Tuple [a, b] k2 pt2) pos.line X.env = pure false := by rfl) (hw : swappedStores [.Tuple [.Subscript (.Name x p) ix tpos, .Subscript (.Name x p') jx tpos'] kt pt] (.Tuple [a, b] k2 pt2) X.env = pure none := by rfl)
    (h1 : (assignEach [.Tuple [.Subscript (.Name x p) ix tpos, .Subscript (.Name x p') jx tpos'] kt pt] X.env).map (·.2) = [assign (.Tuple [.Subscript (.Name x p) ix tpos, .Subscript (.Name x p') jx tpos'] kt pt) X.env] := by rfl) :
    PS X (.Assign [.Tuple [.Subscript (.Name x p) ix tpos, .Subscript (.Name x p') jx tpos'] kt pt] (.Tuple [a, b] k2 pt2) pos) (tS cls W (.swp i fr mx mj m1 m2)) :=
  (ps_asg (pe_tup (pa_cons ha (pa_cons hb pa_nil s2) s1)) (pg_tup hc (pgs_cons (pg_sub (pe_var hN hv hd hcd) hix set_list g1) (pgs_cons (pg_sub (pe_var hN hv hd hcd) hjx set_list g2) pgs_nil n2) n1) n3 n4) hs hw h1).imp fun E σ H ⟨G, U0, He, ρ, N, R, Xd, r, w, k⟩ => by
    simp only [wS] at w
    have r0 := r.frz fr
    refine tD_in r0 w (fun d1 v1 H1 e1 r1 q1 fz1 w1 => tD_in r1 w1 (fun d2 v2 H2 e2 r2 q2 fz2 w2 => ?_) fun j H2 e2 q => k.xe r0 j H2 (e1.trans e2) q) (k.xe r0)
    have q1' := q1.step r1 e2
    split at w2
    · rename_i ds hn
      refine ⟨by rw [sizeLine_eq]; simp, fun T hT => ?_⟩
      have sm := same_upd (o := .tup [v1, v2]) hT
      have e3 := Ext.same (G := G) sm
      have r3 := r2.step e3
      have q13 : Rp G (Uo U0 (DL.frz fr ρ) σ) _ d1 v1 := Rp.keep (r2.kp e3) (fun _ z => .inl z) _ _ q1'
      have q23 : Rp G (Uo U0 (DL.frz fr ρ) σ) _ d2 v2 := Rp.keep (r2.kp e3) (fun _ z => .inl z) _ _ q2
      obtain ⟨ad, o1, n0, o3, xs, hx, lx⟩ := r3.own _ _ hn
      have nmv : ¬ G.mv ad := fun mm => n0 (r0.mv _ mm)
      have ua : Uo U0 (DL.frz fr ρ) σ ad := .inr ⟨i, _, hn, o1⟩
      refine ⟨T, [v1, v2], rfl, .inl (.inl upd_same), rfl, v1, [v2], rfl, _, o1, tD_in r3 w2 (fun d3 v3 H3 e4 r4 q3 fz3 w3 => ?_) fun j H3 e4 q => k.xe r0 j H3 (((e1.trans e2).trans e3).trans e4) q⟩
      cases d3 <;> first
        | exact (w3 : False).elim
        | skip
      rename_i n
      cases (show v3 = V.int n from q3.p)
      obtain ⟨j, hj, w4⟩ := onS_some w3
      have hx4 := e4.keep ad _ hx nmv
      have lx4 := RpL.keep (r3.kp e4) (fun _ z => .inl z) _ _ lx
      have q14 := Rp.keep (r3.kp e4) (fun _ z => .inl z) _ _ q13
      have q24 := Rp.keep (r3.kp e4) (fun _ z => .inl z) _ _ q23
      refine ⟨ad, xs, n, j, rfl, rfl, hx4, by rw [lx4.len]; exact hj, ?_⟩
      have kp5 := Kp.boxUpd (G := G) (o := .lst (xs.set j v1)) ua (.inl ⟨xs, hx4⟩)
      have lx5 := RpL.keep kp5 (fun _ z => .inl z) _ _ (lx4.set q14 j)
      have q25 := Rp.keep kp5 (fun _ z => .inl z) _ _ q24
      have r5 := r4.write (o := .lst (xs.set j v1)) (d' := .lst (ds.set j d1)) hn o1 (.inl ⟨xs, hx4⟩) ⟨_, upd_same, lx5⟩
      have hil := lt_of_get hn
      have hn5 : ((DL.frz fr ρ).set i (.own (.lst (ds.set j d1))))[i]? = some (.own (.lst (ds.set j d1))) := List.getElem?_set_self hil
      have ua5 : Uo U0 ((DL.frz fr ρ).set i (.own (.lst (ds.set j d1)))) σ ad := .inr ⟨i, _, hn5, o1⟩
      have hU5 : ∀ z, Uo U0 ((DL.frz fr ρ).set i (.own (.lst (ds.set j d1)))) σ z → Uo U0 (DL.frz fr ρ) σ z := fun z hz => by
        rcases hz with hz | ⟨q, dd, z1, z2⟩
        · exact .inl hz
        · rcases get_set z1 with ⟨qe, _⟩ | ⟨ne, z1⟩
          · subst qe; exact .inr ⟨q, _, hn, z2⟩
          · exact .inr ⟨q, dd, z1, z2⟩
      refine ⟨v2, [], rfl, _, o1, tD_in r5 w4 (fun d6 v6 H6 e6 r6 q6 fz6 w6 => ?_) fun j' H3 e6 q => k.xc j' _ σ H3 (r5.step e6) q⟩
      cases d6 <;> first
        | exact (w6 : False).elim
        | skip
      rename_i n'
      cases (show v6 = V.int n' from q6.p)
      obtain ⟨j', hj', w7⟩ := onS_some w6
      have hx6 := e6.keep ad _ upd_same nmv
      have lx6 := RpL.keep (r5.kp e6) (fun _ z => .inl z) _ _ (lx5.anti fun z hz => .inl (hU5 z hz))
      have q26 := Rp.keep (r5.kp e6) (fun _ z => .inl z) _ _ (q25.anti fun z hz => .inl (hU5 z hz))
      refine ⟨ad, _, n', j', rfl, rfl, hx6, by rw [lx6.len, List.length_set]; exact hj', rfl, ?_⟩
      have kp7 := Kp.boxUpd (G := G) (o := .lst ((xs.set j v1).set j' v2)) ua5 (.inl ⟨_, hx6⟩)
      have r7 := r6.write (o := .lst ((xs.set j v1).set j' v2)) (d' := .lst ((ds.set j d1).set j' d2)) hn5 o1 (.inl ⟨_, hx6⟩) ⟨_, upd_same, RpL.keep kp7 (fun _ z => .inl z) _ _ (lx6.set q26 j')⟩
      rw [List.set_set] at r7
      exact k.nx _ _ _ r7 w7
    · exact w2.elim
end
end DL

set_option Elab.async false
set_option linter.all false
set_option maxRecDepth 100000
set_option maxHeartbeats 4000000
/-! DK0: a frame's names are kept; which texts have a token that was given out. -/
namespace DL
open PySem PySem.Spec PyProof.Rows L2
variable [Tb]
/-- the names of the frame stand as they stood -/
structure FK (X : Cx) (s s' : Shared) : Prop where
  ns : ∀ m, s.heap.Ns X.env.locals m → s'.heap.Ns X.env.locals m
  cell : ∀ x c v, X.env.cells.lookup x = some c → s.heap.IsCell c v → s'.heap.IsCell c v
theorem FK.refl (X : Cx) (s : Shared) : FK X s s := ⟨fun _ h => h, fun _ _ _ _ h => h⟩
theorem FK.trans {X : Cx} {s s1 s2 : Shared} (a : FK X s s1) (b : FK X s1 s2) : FK X s s2 := ⟨fun m h => b.ns m (a.ns m h), fun x c v e h => b.cell x c v e (a.cell x c v e h)⟩
theorem FK.tok {X : Cx} {s : Shared} {t : Nat} : FK X s { s with toks := t } := ⟨fun _ h => h, fun _ _ _ _ h => h⟩
theorem FK.kept {X : Cx} {s : Shared} {h' : Heap} {t : Nat} (k : ∀ b u, s.heap.get? b = some u → h'.get? b = some u) : FK X s { s with heap := h', toks := t } := ⟨fun _ h => h.keeps k, fun _ _ _ _ h => h.keeps k⟩
/-- all but one tracked object -/
theorem FK.but {X : Cx} {pins : List (Addr × Obj)} {σ : L2.St} {H : Hp} {s : Shared} {h' : Heap} {t : Nat} {a : Addr} (I : Inv X pins σ H s) (ha : H a ≠ none) (k : ∀ b u, b ≠ a → s.heap.get? b = some u → h'.get? b = some u) : FK X s { s with heap := h', toks := t } := by
  refine ⟨fun m ⟨o, es, ep, ho, r⟩ => ⟨o, es, ep, k _ o (fun z => ha (by rw [← z]; exact I.free)) ho, r⟩, fun x c v e ⟨o, ho, hd⟩ => ⟨o, k _ o (fun z => ha (by rw [← z]; exact I.freeC x c e)) ho, hd⟩⟩
/-- behind a call -/
theorem FK.call {X : Cx} {pins : List (Addr × Obj)} {σ : L2.St} {H H' : Hp} {s s' : Shared} {fs : List Addr} (I : Inv X pins σ H s) (u : Un fs [] H H' s.heap s'.heap) : FK X s s' := by
  refine ⟨fun m ⟨o, es, ep, ho, r⟩ => ?_, fun x c v e ⟨o, ho, hd⟩ => ?_⟩
  · obtain ⟨sl, h⟩ := u.any ho I.free (by simp)
    exact ⟨_, es, ep, h, r⟩
  · obtain ⟨sl, h⟩ := u.any ho (I.freeC x c e) (by simp)
    exact ⟨_, h, hd⟩
/-- a text whose token was given out before n -/
def TokS (n : Nat) (u : Value) : Prop := ∃ c t, u = Value.str c t ∧ t ≠ 0 ∧ t < n
theorem TokS.mono {n m : Nat} {u : Value} (h : TokS n u) (l : n ≤ m) : TokS m u := let ⟨c, t, e, h0, h1⟩ := h; ⟨c, t, e, h0, Nat.lt_of_lt_of_le h1 l⟩
/-- the name x holds such a text -/
def TokN (X : Cx) (x : Str) (s : Shared) : Prop := ∃ m u, s.heap.Ns X.env.locals m ∧ Look X.env s.heap m x u ∧ TokS s.toks u
theorem Look.fk {X : Cx} {s s' : Shared} {m : Str → Option Value} {x : Str} {u : Value} (f : FK X s s') (l : Look X.env s.heap m x u) : Look X.env s'.heap m x u := by
  rcases l with l | ⟨k, c, e, z⟩
  · exact .inl l
  · exact .inr ⟨k, c, e, f.cell x c _ e z⟩
theorem TokN.fk {X : Cx} {x : Str} {s s' : Shared} (h : TokN X x s) (f : FK X s s') (l : s.toks ≤ s'.toks) : TokN X x s' :=
  let ⟨m, u, h1, h2, h3⟩ := h
  ⟨m, u, f.ns m h1, Look.fk f h2, h3.mono l⟩

/-- what is kept: of a frame, or of the whole heap -/
class Kpr (κ : Shared → Shared → Prop) : Prop where
  refl : ∀ s, κ s s
  trans : ∀ {a b c}, κ a b → κ b c → κ a c
  kept : ∀ {s : Shared} {h' : Heap} {t : Nat}, (∀ b u, s.heap.get? b = some u → h'.get? b = some u) → κ s { s with heap := h', toks := t }
theorem Kpr.tok {κ : Shared → Shared → Prop} [Kpr κ] {s : Shared} {t : Nat} : κ s { s with toks := t } := Kpr.kept (h' := s.heap) fun _ _ e => e
instance (X : Cx) : Kpr (FK X) := ⟨FK.refl X, fun a b => a.trans b, fun k => FK.kept k⟩
/-- every object is kept -/
def HK (s s' : Shared) : Prop := ∀ b o, s.heap.get? b = some o → s'.heap.get? b = some o
instance : Kpr HK := ⟨fun _ _ _ e => e, fun a b x o e => b x o (a x o e), fun k => k⟩
theorem HK.fk {X : Cx} {s s' : Shared} (h : HK s s') : FK X s s' := ⟨fun _ z => z.keeps h, fun _ _ _ _ z => z.keeps h⟩
variable {κ : Shared → Shared → Prop} [Kpr κ]

/-! ### judgements with what is kept -/
def EPK (X : Cx) (κ : Shared → Shared → Prop) (s : Shared) (pins : List (Addr × Obj)) (σ : L2.St) (Q : VK) (u : Value) (s' : Shared) : Prop   := κ s s' ∧ EP X pins σ Q u s'
structure PEK (X : Cx) (κ : Shared → Shared → Prop) (e : Expr) (t : TE) : Prop where
  run : ∀ (pins : List (Addr × Obj)) (s : Shared) (σ : L2.St) (H : Hp) (Q : VK), Inv X pins σ H s → t σ H Q → wpAny (model X.prog X.w) X.A (eval e X.env) (EPK X κ s pins σ Q) X.xe s
structure PAK (X : Cx) (κ : Shared → Shared → Prop) (es : List Expr) (t : TA) : Prop where
  run : ∀ (pos : Pos) (pins : List (Addr × Obj)) (s : Shared) (σ : L2.St) (H : Hp) (Q : List V → Hp → Prop), Inv X pins σ H s → t σ H Q →
    wpAny (model X.prog X.w) X.A (spliced (backTo pos (starEach es X.env))) (fun us s' => κ s s' ∧ AP X pins σ Q us s') X.xe s
structure PTK (X : Cx) (κ : Shared → Shared → Prop) (e : Expr) (t : TT) : Prop where
  run : ∀ (pins : List (Addr × Obj)) (s : Shared) (σ : L2.St) (H : Hp) (Q : Bool → Hp → Prop), Inv X pins σ H s → t σ H Q → wpAny (model X.prog X.w) X.A (isTrue e X.env (eval e X.env)) (fun b s' => κ s s' ∧ TP X pins σ Q b s') X.xe s
def OpRK (X : Cx) (κ : Shared → Shared → Prop) (f : Value → Value → Sem Value) (r : R2) : Prop :=
  ∀ (pins : List (Addr × Obj)) (s : Shared) (σ : L2.St) (H : Hp) (x y : V) (v u : Value) (Q : VK), Inv X pins σ H s → RelV x v → RelV y u → r x y H Q → wpAny (model X.prog X.w) X.A (f v u) (EPK X κ s pins σ Q) X.xe s
def IxRK (X : Cx) (κ : Shared → Shared → Prop) (r : R2) : Prop :=
  ∀ (value slice : Expr) (pins : List (Addr × Obj)) (s : Shared) (σ : L2.St) (H : Hp) (x y : V) (v u : Value) (Q : VK), Inv X pins σ H s → RelV x v → RelV y u → r x y H Q →
    subscripted slice false v u = operate [v, u] (getItem v u) → wpAny (model X.prog X.w) X.A (subscriptTail value slice v u) (EPK X κ s pins σ Q) X.xe s
def CallRK (X : Cx) (κ : Shared → Shared → Prop) (f : Value) (r : List V → Hp → VK → Prop) : Prop :=
  ∀ (pins : List (Addr × Obj)) (s : Shared) (σ : L2.St) (H : Hp) (xs : List V) (us : List Value) (Q : VK), Inv X pins σ H s → Vals xs us → r xs H Q → wpAny (model X.prog X.w) X.A (call f us) (EPK X κ s pins σ Q) X.xe s
theorem PEK.imp {X : Cx} {e : Expr} {t t' : TE} (h : PEK X κ e t) (i : ∀ σ H Q, t' σ H Q → t σ H Q) : PEK X κ e t' := ⟨fun pins s σ H Q I q => h.run pins s σ H Q I (i _ _ _ q)⟩
theorem PAK.imp {X : Cx} {e : List Expr} {t t' : TA} (h : PAK X κ e t) (i : ∀ σ H Q, t' σ H Q → t σ H Q) : PAK X κ e t' := ⟨fun pos pins s σ H Q I q => h.run pos pins s σ H Q I (i _ _ _ q)⟩
theorem PTK.imp {X : Cx} {e : Expr} {t t' : TT} (h : PTK X κ e t) (i : ∀ σ H Q, t' σ H Q → t σ H Q) : PTK X κ e t' := ⟨fun pins s σ H Q I q => h.run pins s σ H Q I (i _ _ _ q)⟩
theorem PEK.pe {X : Cx} {e : Expr} {t : TE} (h : PEK X κ e t) : PE X e t := ⟨fun pins s σ H Q I q => thn (h.run pins s σ H Q I q) fun _ _ z => z.2⟩
section
variable {X : Cx} {a b e : Expr} {es : List Expr} {ta tb te : TE} {t : TA} {pos p : Pos}
theorem raw2 {i : Nat} {x : Str} {v : V} {Q E : Value → Shared → Prop} {pins : List (Addr × Obj)} {σ : L2.St} {H : Hp} {s : Shared} (hN : X.N[i]? = some x) (hv : Vis X.env.scope x) (I : Inv X pins σ H s) (hσ : σ[i]? = some (some v)) (fin : ∀ u, RelV v u → Q u s)
    (hd : (x == ("__debug__" : Str)) = false) (hcd : (x == ("__classdict__" : Str)) = false) : wpAny (model X.prog X.w) X.A (eval (.Name x pos) X.env) Q E s := raw_name hN hv I hσ fin hd hcd
theorem pek_var {i : Nat} {x : Str} (hN : X.N[i]? = some x) (hv : Vis X.env.scope x) (hd : (x == ("__debug__" : Str)) = false := by decide) (hcd : (x == ("__classdict__" : Str)) = false := by decide) : PEK X κ (.Name x pos) (tVar i) :=
  ⟨fun pins s σ H Q I ⟨v, e, h⟩ => raw_name hN hv I e (fun u r => ⟨Kpr.refl s, v, H, I, r, h⟩) hd hcd⟩
theorem pek_int {i j} : PEK X κ (.Constant (.int i) j pos) (tC (.int i)) := ⟨fun _ s _ H _ I h => wpAny_Constant_int ⟨Kpr.tok, .int i, H, I.tok _, ⟨_, rfl⟩, h⟩⟩
theorem pek_non {j} : PEK X κ (.Constant .none j pos) (tC .non) := ⟨fun _ s _ H _ I h => Constant_none ⟨Kpr.refl s, .non, H, I, rfl, h⟩⟩
theorem pek_str {x j} : PEK X κ (.Constant (.str x) j pos) (tC (.str x)) := ⟨fun _ s _ H _ I h => Calls.Constant_str ⟨Kpr.tok, .str x, H, I.tok _, ⟨_, rfl⟩, h⟩⟩
theorem binK (ha : PEK X κ a ta) (hb : PEK X κ b tb) {pins : List (Addr × Obj)} {s : Shared} {σ : L2.St} {H : Hp} {R : V → V → Hp → Prop} (I : Inv X pins σ H s) (h : ta σ H fun x H1 => tb σ H1 fun y H2 => R x y H2)
    {α : Type} {Q : α → Shared → Prop} {f : Value → Value → Sem α} (hf : ∀ v u s2 x y H2, κ s s2 → Inv X pins σ H2 s2 → RelV x v → RelV y u → R x y H2 → wpAny (model X.prog X.w) X.A (f v u) Q X.xe s2) :
    wpAny (model X.prog X.w) X.A (eval a X.env) (fun v s₁ => wpAny (model X.prog X.w) X.A (eval b X.env) (fun u s₂ => wpAny (model X.prog X.w) X.A (f v u) Q X.xe s₂) X.xe s₁) X.xe s := by
  refine thn (ha.run pins s σ H _ I h) fun v s1 ⟨k1, x, H1, I1, r1, q1⟩ => ?_
  refine thn (hb.run pins s1 σ H1 _ I1 q1) fun u s2 ⟨k2, y, H2, I2, r2, q2⟩ => ?_
  exact hf v u s2 x y H2 (Kpr.trans k1 k2) I2 r1 r2 q2
theorem EPK.of {X : Cx} {s s1 s2 : Shared} {pins : List (Addr × Obj)} {σ : L2.St} {Q : VK} {u : Value} (k : κ s s1) (h : EPK X κ s1 pins σ Q u s2) : EPK X κ s pins σ Q u s2 := ⟨Kpr.trans k h.1, h.2⟩
theorem pek_op {op : Operator} {r : R2} (ho : OpRK X κ (binaryOp op) r) (ha : PEK X κ a ta) (hb : PEK X κ b tb) : PEK X κ (.BinOp a op b pos) (tOp r ta tb) :=
  ⟨fun pins s σ H Q I h => wpAny_BinOp (binK ha hb I h fun v u s2 x y H2 k I2 rx ry q => thn (ho pins s2 σ H2 x y v u Q I2 rx ry q) fun _ _ z => EPK.of k z)⟩
theorem pek_cmp {op : CmpOp} {r : R2} (ho : OpRK X κ (compareOp op) r) (ha : PEK X κ a ta) (hb : PEK X κ b tb) (hm : behindInMarks op b = false) : PEK X κ (.Compare a [op] [b] pos) (tOp r ta tb) :=
  ⟨fun pins s σ H Q I h => wpAny_Compare1 (binK ha hb I h fun v u s2 x y H2 k I2 rx ry q => thn (ho pins s2 σ H2 x y v u Q I2 rx ry q) fun _ _ z => EPK.of k z) hm⟩
theorem ptk_cmp {op : CmpOp} {r : R2} (ho : OpRK X κ (compareOp op) r) (ha : PEK X κ a ta) (hb : PEK X κ b tb) (hm : behindInMarks op b = false) : PTK X κ (.Compare a [op] [b] pos) (tTest (tOp r ta tb)) := by
  refine ⟨fun pins s σ H Q I h => ?_⟩
  refine wpAny_isTrue_Compare1 (thn (ha.run pins s σ H _ I h) fun v s1 ⟨k1, x, H1, I1, r1, q1⟩ => thn (hb.run pins s1 σ H1 _ I1 q1) fun u s2 ⟨k2, y, H2, I2, r2, q2⟩ =>
    thn (ho pins s2 σ H2 x y v u _ I2 r1 r2 q2) fun c s3 ⟨k3, z, H3, I3, r3, k, e, q3⟩ => ?_) hm
  subst e
  cases r3
  exact wpAny_truthy_bool ⟨Kpr.trans (Kpr.trans k1 k2) k3, H3, I3, q3⟩
theorem pek_ix {r : R2} (hr : IxRK X κ r) (ha : PEK X κ a ta) (hb : PEK X κ b tb) (hs : PlainIx b) : PEK X κ (.Subscript a b pos) (tOp r ta tb) :=
  ⟨fun pins s σ H Q I h => Subscript_ (binK ha hb I h fun v u s2 x y H2 k I2 rx ry q => thn (hr a b pins s2 σ H2 x y v u Q I2 rx ry q (hs _ _)) fun _ _ z => EPK.of k z)⟩
theorem pak_nil : PAK X κ [] tNil := ⟨fun _ _ s _ H Q I h => Calls.spliced_nil ⟨Kpr.refl s, [], H, I, .nil, h⟩⟩
theorem pak_cons (ha : PEK X κ e te) (hr : PAK X κ es t) (hs : starEach (e :: es) X.env = (false, eval e X.env) :: starEach es X.env := by rfl) : PAK X κ (e :: es) (tCons te t) := by
  refine ⟨fun pos pins s σ H Q I h => ?_⟩
  rw [hs]
  show wpAny _ _ (spliced ((false, eval e X.env) :: backTo pos (starEach es X.env))) _ _ s
  refine Calls.spliced_cons (thn (ha.run pins s σ H _ I h) fun u s1 ⟨k1, x, H1, I1, r1, q1⟩ => ?_)
  exact thn (hr.run pos pins s1 σ H1 _ I1 q1) fun us s2 ⟨k2, xs, H2, I2, r2, q2⟩ => ⟨Kpr.trans k1 k2, x :: xs, H2, I2, .cons r1 r2, q2⟩
theorem pek_tup {n} (h : PAK X κ es t) : PEK X κ (.Tuple es n pos) (tTup t) := by
  refine ⟨fun pins s σ H Q I hq => ?_⟩
  refine wpAny_Tuple_spliced (thn (h.run pos pins s σ H _ I hq) fun us s1 ⟨k1, xs, H1, I1, r, z, q⟩ => ⟨by rw [← r.length]; exact z, ?_⟩)
  have hf : H1 s1.heap.objs.size = none := I1.hok.fresh (Nat.le_refl _)
  refine ⟨Kpr.trans k1 (Kpr.kept (t := s1.toks) fun b u e => Heap.get?_push_of_some _ e), .ref s1.heap.objs.size, upd H1 s1.heap.objs.size (.tup xs), I1.laid (t' := s1.toks) (fun b u e => Heap.get?_push_of_some _ e) (Nat.le_refl _) ?_, rfl, q _ hf⟩
  exact ⟨z, us, r, ⟨_, Heap.get?_push_size _ rfl, rfl, _, rfl⟩⟩
theorem pek_callB {id : String} {r : List V → Hp → VK → Prop} {x : Str} (hc : CallRK X κ (.builtin id) r) (hg : Gl X x) (hm : X.mg x = none) (hv : bootBuiltins x = some (.builtin id)) (ha : PAK X κ (e :: es) t) (hn : x ≠ "__name__" := by decide) (hdb : (x == ("__debug__" : Str)) = false := by decide)
    (he : starEach (e :: es) X.env = (false, eval e X.env) :: starEach es X.env := by rfl) (hpl : (backTo pos (starEach es X.env)).any (·.1) = false := by rfl) : PEK X κ (.Call (.Name x p) (e :: es) [] pos) (tCB r t) := by
  refine ⟨fun pins s σ H Q I h => ?_⟩
  refine wpAny_Call_Name_kw (ld_blt I hg hm hv ?_ hn hdb)
  exact PyProof.Rows.callWith_builtin1 (thn (ha.run pos pins s σ H _ I h) fun us s1 ⟨k1, vs, H1, I1, r1, q1⟩ => thn (hc pins s1 σ H1 vs us Q I1 r1 q1) fun _ _ z => EPK.of k1 z) he hpl
theorem pek_callTy {T : String} {r : List V → Hp → VK → Prop} {x : Str} (hc : CallRK X κ (.type T) r) (hg : Gl X x) (hm : X.mg x = none) (hv : bootBuiltins x = some (.type T)) (ha : PAK X κ (e :: es) t) (hn : x ≠ "__name__" := by decide) (hdb : (x == ("__debug__" : Str)) = false := by decide)
    (he : starEach (e :: es) X.env = (false, eval e X.env) :: starEach es X.env := by rfl) (hpl : (backTo pos (starEach es X.env)).any (·.1) = false := by rfl) : PEK X κ (.Call (.Name x p) (e :: es) [] pos) (tCB r t) := by
  refine ⟨fun pins s σ H Q I h => ?_⟩
  refine wpAny_Call_Name_kw (ld_blt I hg hm hv ?_ hn hdb)
  exact PyProof.Rows.callWith_type1 (thn (ha.run pos pins s σ H _ I h) fun us s1 ⟨k1, vs, H1, I1, r1, q1⟩ => thn (hc pins s1 σ H1 vs us Q I1 r1 q1) fun _ _ z => EPK.of k1 z) he hpl
theorem pek_callSD {CX : CXT} {k : Nat} {f : Addr} {fd : FuncData} {ps : List Str} {sp : Sp} {dvs : List V} {ds : List Value} {E : L2.St → XK} {x : Str} (F : FnOk X.prog X.w X.K X.mg X.base CX k f fd ps sp) (hr : Room k X.A) (hg : Gl X x) (hm : X.mg x = some (.ref f)) (hk : PySem.W.keepIn X.K (.ref f) = true) (hb : Binds X.K fd ps ds) (hd : Vals dvs ds) (hx : ∀ σ, PassesAt CX X σ (E σ))
    (ha : PAK X (FK X) (e :: es) t) (hdb : (x == ("__debug__" : Str)) = false := by decide) (he : starEach (e :: es) X.env = (false, eval e X.env) :: starEach es X.env := by rfl) (hpl : (backTo pos (starEach es X.env)).any (·.1) = false := by rfl) :
    PEK X (FK X) (.Call (.Name x p) (e :: es) [] pos) (tCallSD sp dvs E t) := by
  refine ⟨fun pins s σ H Q I h => ?_⟩
  refine wpAny_Call_Name_kw (ld_glob I hg hm ?_ hdb)
  refine PySem.W.callWith_K (h₀ := X.base) I.ok.mod.kin hk (thn (ha.run pos pins s σ H _ I h) fun us s1 ⟨k1, vs, H1, I1, r, q⟩ => ⟨I1.kIn, ?_⟩) he hpl
  have r2 : Vals (vs ++ dvs) (us ++ ds) := r.append hd
  have hl : (us ++ ds).length = ps.length := by rw [← r2.length]; exact F.len _ _ _ _ q
  refine wpAny_call (codeAny_mono (F.run X.A X.stack s1 H1 ⟨us, []⟩ (us ++ ds) (vs ++ dvs) Q (E σ) hr I1.env0 (hb s1 us I1.kIn hl) r2 q) fun r s' hq => ?_)
  cases r with
  | error e => exact hx σ pins H1 s1 e s' I1 hq
  | ok fl =>
    cases fl with
    | ret u =>
      obtain ⟨v, H', os, bare, un, hok, rv, q'⟩ := id hq
      exact ⟨Kpr.trans k1 (FK.call I1 un), I1.after hq⟩
    | next => exact False.elim hq
    | brk => exact False.elim hq
    | cont => exact False.elim hq
end
end DL

set_option Elab.async false
set_option linter.all false
set_option maxRecDepth 100000
set_option maxHeartbeats 4000000
/-! DK1: forms over data, with what is kept. -/
namespace DL
open PySem PySem.Spec PyProof.Rows L2
variable [Tb] {κ : Shared → Shared → Prop} [Kpr κ]
section
variable {X : Cx} {cls : Nat → Addr} {W : WX} {esc : Bool} {m m1 m2 m3 : ME} {ms : List ME} {e a b c : Expr} {es : List Expr} {pos p : Pos} {σ : L2.St} {H : Hp} {x : Str}
theorem imp_bin {o : BOp} {Q : VK} (q : tD cls W true (.bin o m1 m2) σ H Q) : tOp (rB (binD o)) (tD cls W false m1) (tD cls W false m2) σ H Q := by
  obtain ⟨G, U0, He, ρ, Qd, Xd, r, w, k, x⟩ := q
  simp only [wE] at w
  refine tD_in r w (fun d1 v1 H1 e1 r1 p1 _ w1 => tD_in r1 w1 (fun d2 v2 H2 e2 r2 p2 _ w2 => ?_) fun j H2 e2 q => x j H2 (e1.trans e2) q) x
  obtain ⟨dz, q, w2⟩ := onS_some w2
  exact ⟨G, _, d1, d2, dz, fun p hp => r2.newU hp, (p1.step r1 e2).p, p2.p, q, fun v H3 sm rp fr => k dz v H3 ((e1.trans e2).trans (.same sm)) rp (fun _ bx => let ⟨a, h1, h2, h3⟩ := fr bx; ⟨a, h1, r.back (e1.trans e2) h2, h3⟩) w2⟩
theorem imp_cmp {o : COp} {Q : VK} (q : tD cls W true (.cmp o m1 m2) σ H Q) : tOp (rC o) (tD cls W false m1) (tD cls W false m2) σ H Q := by
  obtain ⟨G, U0, He, ρ, Qd, Xd, r, w, k, x⟩ := q
  simp only [wE] at w
  refine tD_in r w (fun d1 v1 H1 e1 r1 p1 _ w1 => tD_in r1 w1 (fun d2 v2 H2 e2 r2 p2 _ w2 => ?_) fun j H2 e2 q => x j H2 (e1.trans e2) q) x
  obtain ⟨z, q, w2⟩ := onS_some w2
  exact ⟨G, _, d1, d2, z, (p1.step r1 e2).p, p2.p, q, k (.bl z) _ H2 (e1.trans e2) rfl (Fre.no rfl) w2⟩
theorem imp_cmpT {o : COp} {Q : Bool → Hp → Prop} (q : tT cls W (.cmp o m1 m2) σ H Q) : tTest (tOp (rC o) (tD cls W false m1) (tD cls W false m2)) σ H Q := by
  obtain ⟨G, U0, He, ρ, Qd, Xd, r, w, k, x⟩ := q
  simp only [wE] at w
  refine tD_in r w (fun d1 v1 H1 e1 r1 p1 _ w1 => tD_in r1 w1 (fun d2 v2 H2 e2 r2 p2 _ w2 => ?_) fun j H2 e2 q => x j H2 (e1.trans e2) q) x
  obtain ⟨z, q, w2⟩ := onS_some w2
  exact ⟨G, _, d1, d2, z, (p1.step r1 e2).p, p2.p, q, z, rfl, k z H2 (e1.trans e2) w2⟩
theorem imp_sub {Q : VK} (q : tD cls W true (.sub m1 m2) σ H Q) : tOp rIxD (tD cls W false m1) (tD cls W false m2) σ H Q := by
  obtain ⟨G, U0, He, ρ, Qd, Xd, r, w, k, x⟩ := q
  simp only [wE] at w
  refine tD_in r w (fun d1 v1 H1 e1 r1 p1 _ w1 => tD_in r1 w1 (fun d2 v2 H2 e2 r2 p2 _ w2 => ?_) fun j H2 e2 q => x j H2 (e1.trans e2) q) x
  obtain ⟨dz, q, w2⟩ := onS_some w2
  exact ⟨G, _, d1, d2, dz, (p1.step r1 e2).p, p2.p, q, fun v rp => k dz v H2 (e1.trans e2) rp (Fre.no rfl) w2⟩
theorem imp_cons {Q : List V → Hp → Prop} (q : tDs cls W (m :: ms) σ H Q) : tCons (tD cls W true m) (tDs cls W ms) σ H Q := by
  obtain ⟨G, U0, He, ρ, Qd, Xd, r, w, k, x⟩ := q
  simp only [wEs] at w
  exact tD_in r w (fun d v H1 e1 r1 p _ w1 => tDs_in r1 w1 (fun ds vs H2 e2 r2 l w2 => k (d :: ds) _ H2 (e1.trans e2) ⟨_, _, rfl, p.step r1 e2, l⟩ w2) fun j H2 e2 q => x j H2 (e1.trans e2) q) x
theorem imp_nil {Q : List V → Hp → Prop} (q : tDs cls W [] σ H Q) : tNil σ H Q := by
  obtain ⟨G, U0, He, ρ, Qd, Xd, r, w, k, x⟩ := q
  simp only [wEs] at w
  exact k [] [] H (Ext.refl G H) rfl w
theorem imp_tup {Q : VK} (q : tD cls W true (.tup ms) σ H Q) : tTup (tDs cls W ms) σ H Q := by
  obtain ⟨G, U0, He, ρ, Qd, Xd, r, w, k, x⟩ := q
  simp only [wE] at w
  refine tDs_in r w (fun ds vs H1 e1 r1 l ⟨hl, w1⟩ => ⟨by rw [l.len, sizeLine_eq]; exact hl, fun p hp => ?_⟩) x
  have sm := same_upd (o := .tup vs) hp
  exact k (.tup ds) _ _ (e1.trans (.same sm)) ⟨p, vs, rfl, .inl upd_same, RpL.keep (Same.kp sm) (fun _ z => .inl z) _ _ l⟩ (Fre.no rfl) w1
theorem imp_call {S : FS} {Q : VK} (q : tD cls W true (.call S ms) σ H Q) : tCallSD (spD cls S) [] (fun σ c d H => W c d σ H) (tDs cls W ms) σ H Q := by
  obtain ⟨G, U0, He, ρ, Qd, Xd, r, w, k, x⟩ := q
  simp only [wE] at w
  refine tDs_in r w (fun ds vs H1 e1 r1 l w1 => ?_) x
  rw [List.append_nil]
  exact ⟨G, Uo U0 ρ σ, ds, Qd, Xd, r1.mvU, fun a m => r1.trkU m, r1.inv, l, w1, fun d v H2 e2 p2 q => k d v H2 (e1.trans e2) p2 (Fre.no rfl) q, fun j H2 e2 q => x j H2 (e1.trans e2) q⟩
theorem imp_var {i : Nat} {Q : VK} (q : tD cls W true (.var i) σ H Q) : tVar i σ H Q := by
  obtain ⟨G, U0, He, ρ, Qd, Xd, r, w, k, x⟩ := q
  simp only [wE] at w
  split at w
  · rename_i d e
    obtain ⟨v, h1, h2⟩ := r.imm _ _ e
    exact ⟨v, h1, k d v H (Ext.refl G H) h2 (Fre.no rfl) w⟩
  · exact w.elim
theorem imp_peek {i : Nat} {Q : VK} (q : tD cls W false (.peek i) σ H Q) : tVar i σ H Q := by
  obtain ⟨G, U0, He, ρ, Qd, Xd, r, w, k, x⟩ := q
  simp only [wE] at w
  split at w
  · rename_i d e
    obtain ⟨v, h1, h2⟩ := r.imm _ _ e
    exact ⟨v, h1, k d v H (Ext.refl G H) (Res.weak r.mvU h2 false) (Fre.no rfl) w⟩
  · rename_i d e
    obtain ⟨a, h1, h2, h3, h4⟩ := r.own _ _ e
    exact ⟨_, h1, k d _ H (Ext.refl G H) ⟨h4.p, fun _ c z m => by cases z; exact h2 (r.mv _ m)⟩ (Fre.no rfl) w⟩
  · exact w.elim
theorem imp_pk {Q : VK} (q : tD cls W false m σ H Q) : tD cls W true m σ H Q := by
  obtain ⟨G, U0, He, ρ, Qd, Xd, r, w, k, x⟩ := q
  exact ⟨G, U0, He, ρ, Qd, Xd, r, w, fun d v H' e p f q => k d v H' e (Res.weak r.mvU p false) f q, x⟩
theorem imp_con {d : D} {v : V} (hr : ∀ (G : GI) U H, Rp G U H d v) (hb : d.isBox = false) {Q : VK} (q : tD cls W true (.con d) σ H Q) : tC v σ H Q := by
  obtain ⟨G, U0, He, ρ, Qd, Xd, r, w, k, x⟩ := q
  exact k d v H (Ext.refl G H) (hr _ _ _) (Fre.flat hb) (by simpa only [wE] using w)
/-! ### the rules -/
theorem kpk (h : PEK X κ e (tD cls W true m)) : PEK X κ e (tD cls W false m) := h.imp fun _ _ _ q => imp_pk q
theorem kv (i : Nat) (hN : X.N[i]? = some x := by rfl) (hv : Vis X.env.scope x := by first | exact .inl rfl | exact .inr (.inl rfl) | exact .inr (.inr rfl)) (hd : (x == ("__debug__" : Str)) = false := by decide) (hcd : (x == ("__classdict__" : Str)) = false := by decide) :
    PEK X κ (.Name x pos) (tD cls W true (.var i)) := (pek_var hN hv hd hcd).imp fun _ _ _ q => imp_var q
theorem kp (i : Nat) (hN : X.N[i]? = some x := by rfl) (hv : Vis X.env.scope x := by first | exact .inl rfl | exact .inr (.inl rfl) | exact .inr (.inr rfl)) (hd : (x == ("__debug__" : Str)) = false := by decide) (hcd : (x == ("__classdict__" : Str)) = false := by decide) :
    PEK X κ (.Name x pos) (tD cls W false (.peek i)) := (pek_var hN hv hd hcd).imp fun _ _ _ q => imp_peek q
theorem k_int {i j} : PEK X κ (.Constant (.int i) j pos) (tD cls W true (.con (.int i))) := pek_int.imp fun _ _ _ q => imp_con (d := .int i) (v := .int i) (fun _ _ _ => rfl) rfl q
theorem k_non {j} : PEK X κ (.Constant .none j pos) (tD cls W true (.con .non)) := pek_non.imp fun _ _ _ q => imp_con (d := .non) (v := .non) (fun _ _ _ => rfl) rfl q
theorem k_bin {op : Operator} {o : BOp} (ho : OpRK X κ (binaryOp op) (rB (binD o))) (ha : PEK X κ a (tD cls W false m1)) (hb : PEK X κ b (tD cls W false m2)) : PEK X κ (.BinOp a op b pos) (tD cls W true (.bin o m1 m2)) := (pek_op ho ha hb).imp fun _ _ _ q => imp_bin q
theorem k_cmp {op : CmpOp} {o : COp} (ho : OpRK X κ (compareOp op) (rC o)) (ha : PEK X κ a (tD cls W false m1)) (hb : PEK X κ b (tD cls W false m2)) (hm : behindInMarks op b = false := by with_unfolding_all rfl) : PEK X κ (.Compare a [op] [b] pos) (tD cls W true (.cmp o m1 m2)) := (pek_cmp ho ha hb hm).imp fun _ _ _ q => imp_cmp q
theorem kt_cmp {op : CmpOp} {o : COp} (ho : OpRK X κ (compareOp op) (rC o)) (ha : PEK X κ a (tD cls W false m1)) (hb : PEK X κ b (tD cls W false m2)) (hm : behindInMarks op b = false := by with_unfolding_all rfl) : PTK X κ (.Compare a [op] [b] pos) (tT cls W (.cmp o m1 m2)) := (ptk_cmp ho ha hb hm).imp fun _ _ _ q => imp_cmpT q
theorem ixk_d : IxRK X κ rIxD := by
  intro value slice pins s σ H x y v u Q I rx ry ⟨G, U, dx, dy, dz, px, py, e, q⟩ hs
  have n63 := line63
  cases dx <;> cases dy <;> simp only [subD] at e <;> first
    | cases e
    | skip
  · rename_i a i
    split at e
    · rename_i hl
      rw [Option.map_eq_some_iff] at e
      obtain ⟨c, e, rfl⟩ := e
      cases (show x = V.str (mkS a) from px)
      cases (show y = V.int i from py)
      obtain ⟨t, rfl⟩ := rx
      obtain ⟨t', rfl⟩ := ry
      obtain ⟨j, h1, h2, h3, h4, h5⟩ := atI_get e
      have hz : sizeLine = 16777216 := sizeLine_eq
      exact tail_any (typeIs_str s (mkS a) t) slot_str_getitem.lookup (getItem_str (c := c) (by
        have e1 : decide (i < -(2 ^ 63 : Int)) = false := decide_eq_false (by omega)
        have e2 : decide (i ≥ 2 ^ 63) = false := decide_eq_false (by omega)
        rw [e1, e2, Bool.or_false]) (by rw [mkS_len, h1]; simpa using h2) ⟨Kpr.tok, .str ⟨#[c]⟩, H, I.tok _, ⟨_, rfl⟩, q _ rfl⟩) hs
    · cases e
  · obtain ⟨p, xs, ex, hx, lx⟩ := px
    obtain ⟨z, he, rz⟩ := atI_rp lx e
    subst ex
    cases (show y = V.int _ from py)
    obtain rfl : v = Value.ref p := rx
    obtain ⟨t, rfl⟩ := ry
    obtain ⟨its, r, pl, hz⟩ := I.tuple (.inl hx)
    obtain ⟨j, h1, h2, h3, h4, h5⟩ := atI_get he
    obtain ⟨w, ew, rw'⟩ := r.get h2
    have hl := r.length
    have fin : EPK X κ s pins σ Q w s := ⟨Kpr.refl s, z, H, I, rw', q z rz⟩
    exact subscriptTail_builtinR (x := w) pl.typeIs slot_tuple_getitem.lookup
      (getItem_tuple (j := j) (Q := fun r s' => r = w ∧ EPK X κ s pins σ Q r s') pl (by omega) (by omega) (by rw [List.size_toArray, ← hl]; exact h1) (by simpa using ew) ⟨rfl, fin⟩) hs
  · rename_i ds ii
    obtain ⟨p, xs, ex, hx, lx⟩ := px
    obtain ⟨z, he, rz⟩ := atI_rp lx e
    subst ex
    cases (show y = V.int _ from py)
    obtain rfl : v = Value.ref p := rx
    obtain ⟨t, rfl⟩ := ry
    obtain ⟨its, r, pl, hz⟩ := I.list (SqL.of hx)
    obtain ⟨j, h1, h2, h3, h4, h5⟩ := atI_get he
    obtain ⟨w, ew, rw'⟩ := r.get h2
    have hl := r.length
    have fin : EPK X κ s pins σ Q w s := ⟨Kpr.refl s, z, H, I, rw', q z rz⟩
    by_cases h0 : 0 ≤ ii
    · have hj : ii.toNat = j := by
        rw [seqIndex_of h0 h5] at h1
        exact Option.some.inj h1
      exact item_listR pl.isList h0 (by omega) (by rw [hj]; simpa using ew) fin hs
    · have hj : (ii + (its.toArray.size : Int)).toNat = j := by
        rw [seqIndex_neg (by omega) h4] at h1
        rw [List.size_toArray, ← hl]
        exact Option.some.inj h1
      exact subscriptTail_builtinR (x := w) pl.isList.typeIs slot_list_getitem.lookup
        (wpAny_getItem_list_neg (Q := fun r s' => r = w ∧ EPK X κ s pins σ Q r s') pl.isList (by omega) (by rw [List.size_toArray] <;> omega) (by omega) (by rw [hj]; simpa using ew) ⟨rfl, fin⟩) hs
  · rename_i ks vs k
    obtain ⟨p, kvs, ex, hx, h1, h2⟩ := px
    subst ex
    cases (show y = V.str (mkS k) from py)
    obtain rfl : v = Value.ref p := rx
    obtain ⟨w, hw, rw⟩ := (lookD_val h1 h2).1 _ e
    have g : DGet H p (.str (mkS k)) (some w) := .inl ⟨kvs, kk k, hx, rfl, hw.symm⟩
    have hT := dict_typeIs I g
    obtain ⟨z, hd, vs', rel, dd⟩ := dk_rd I.hok hx
    obtain ⟨w', hw', rw'⟩ := RelO.some_of (v := w) (o := valueAt vs' (kk k)) (by rw [← hw]; exact rel.val (kk k))
    unfold subscriptTail
    refine wpAny_bind ?_
    rw [getitemInPython_of_ne hT.not_modules]
    refine wpAny_bind (wpAny_specialOf hT PySem.F.slot_dict_getitem.lookup ?_)
    have fin : wpAny (model X.prog X.w) X.A (subscripted slice false (.ref p) u) (fun r s₃ => wpAny (model X.prog X.w) X.A (letTemporaryGo value (.ref p) r >>= fun _ => pure r) (EPK X κ s pins σ Q) X.xe s₃) X.xe s := by
      rw [hs]
      exact wpAny_operating (wpAny_getItem_of (kV_is (k := kk k) ry) dd.mapOf hw' (wpAny_bind (wpAny_letTemporaryGo (wpAny_pure ⟨Kpr.tok, w, H, I.tok _, rw', q w rw⟩))))
    first
      | exact wpAny_pure (wpAny_bind fin)
      | exact wpAny_bind (wpAny_pure (wpAny_bind fin))
      | exact wpAny_bind fin
theorem k_sub (ha : PEK X κ a (tD cls W false m1)) (hb : PEK X κ b (tD cls W false m2)) (hs : PlainIx b := by intro _ _; rfl) : PEK X κ (.Subscript a b pos) (tD cls W true (.sub m1 m2)) := (pek_ix ixk_d ha hb hs).imp fun _ _ _ q => imp_sub q
theorem ks_nil : PAK X κ [] (tDs cls W []) := pak_nil.imp fun _ _ _ q => imp_nil q
theorem ks_cons (ha : PEK X κ e (tD cls W true m)) (hr : PAK X κ es (tDs cls W ms)) (hs : starEach (e :: es) X.env = (false, eval e X.env) :: starEach es X.env := by rfl) : PAK X κ (e :: es) (tDs cls W (m :: ms)) := (pak_cons ha hr hs).imp fun _ _ _ q => imp_cons q
theorem k_tup {n} (h : PAK X κ es (tDs cls W ms)) : PEK X κ (.Tuple es n pos) (tD cls W true (.tup ms)) := (pek_tup h).imp fun _ _ _ q => imp_tup q
theorem k_fn {S : FS} {k j : Nat} (c : Cal X.prog X.w X.K X.mg X.base cls k x S) (tk : L2N.Takes X W) (hr : Room j X.A) (hk : k ≤ j)
    (ha : PAK X (FK X) (e :: es) (tDs cls W ms)) (hg : Gl X x := by rfl) (hdb : (x == ("__debug__" : Str)) = false := by decide) (he : starEach (e :: es) X.env = (false, eval e X.env) :: starEach es X.env := by rfl) (hpl : (backTo pos (starEach es X.env)).any (·.1) = false := by rfl) :
    PEK X (FK X) (.Call (.Name x p) (e :: es) [] pos) (tD cls W true (.call S ms)) := by
  obtain ⟨f, fd, ps, F, hm, kp, hb⟩ := c.ex
  exact (pek_callSD F (hr.mono hk) hg hm kp hb .nil (fun σ => L2N.passAt tk σ) ha hdb he hpl).imp fun _ _ _ q => imp_call q
end
end DL

set_option Elab.async false
set_option linter.all false
set_option maxRecDepth 100000
set_option maxHeartbeats 4000000
/-! DK1b: operators on data, with what is kept. -/
namespace DL
open PySem PySem.Spec PyProof.Rows L2
variable [Tb] {κ : Shared → Shared → Prop} [Kpr κ]
section
variable {X : Cx} {cls : Nat → Addr} {W : WX} {m m1 m2 : ME} {e a b : Expr} {pos p : Pos}
theorem kc_eq (hu : X.A.units + 64 < cLine) : OpRK X κ (compareOp .Eq) (rC .eq) := by
  intro pins s σ H x y v u Q I rx ry ⟨G, U, dx, dy, r, px, py, e, q⟩
  simp only [cmpD] at e
  split at e
  · rename_i ok
    cases e
    obtain ⟨a1, a2, a3⟩ := eqOk_of ok
    obtain ⟨as, r1⟩ := Dp.reads I _ x v (px.dp a1) rx
    obtain ⟨bs, r2⟩ := Dp.reads I _ y u (py.dp a2) ry
    refine SeqAt.eq_plain r1 r2 (toPy_plain _) (toPy_plain _) (by rw [toPy_dep, toPy_dep]; omega) ?_
    rw [eqv_py _ _ a1 a2]
    exact ⟨Kpr.refl s, .bl _, H, I, rfl, q⟩
  · cases e
theorem kc_ne (hu : X.A.units + 64 < cLine) : OpRK X κ (compareOp .NotEq) (rC .ne) := by
  intro pins s σ H x y v u Q I rx ry ⟨G, U, dx, dy, r, px, py, e, q⟩
  simp only [cmpD] at e
  split at e
  · rename_i ok
    cases e
    obtain ⟨a1, a2, a3⟩ := eqOk_of ok
    obtain ⟨as, r1⟩ := Dp.reads I _ x v (px.dp a1) rx
    obtain ⟨bs, r2⟩ := Dp.reads I _ y u (py.dp a2) ry
    refine SeqAt.ne_plain r1 r2 (toPy_plain _) (toPy_plain _) (by rw [toPy_dep, toPy_dep]; omega) ?_
    rw [eqv_py _ _ a1 a2]
    exact ⟨Kpr.refl s, .bl _, H, I, rfl, q⟩
  · cases e
theorem kc_lt : OpRK X κ (compareOp .Lt) (rC .lt) := by
  intro pins s σ H x y v u Q I rx ry ⟨G, U, dx, dy, r, px, py, e, q⟩
  cases dx <;> cases dy <;> simp only [cmpD] at e <;> first
    | cases e
    | skip
  · obtain ⟨t, rfl⟩ := (show x = V.int _ from px) ▸ rx
    obtain ⟨t', rfl⟩ := (show y = V.int _ from py) ▸ ry
    exact lt_int ⟨Kpr.refl s, .bl _, H, I, rfl, q⟩
  · obtain ⟨t, rfl⟩ := (show x = V.str _ from px) ▸ rx
    obtain ⟨t', rfl⟩ := (show y = V.str _ from py) ▸ ry
    exact lt_str ⟨Kpr.refl s, .bl _, H, I, rfl, q⟩
theorem kc_gt : OpRK X κ (compareOp .Gt) (rC .gt) := by
  intro pins s σ H x y v u Q I rx ry ⟨G, U, dx, dy, r, px, py, e, q⟩
  cases dx <;> cases dy <;> simp only [cmpD] at e <;> first
    | cases e
    | skip
  · obtain ⟨t, rfl⟩ := (show x = V.int _ from px) ▸ rx
    obtain ⟨t', rfl⟩ := (show y = V.int _ from py) ▸ ry
    exact gt_int ⟨Kpr.refl s, .bl _, H, I, rfl, q⟩
  · obtain ⟨t, rfl⟩ := (show x = V.str _ from px) ▸ rx
    obtain ⟨t', rfl⟩ := (show y = V.str _ from py) ▸ ry
    exact PySem.P.gt_str ⟨Kpr.refl s, .bl _, H, I, rfl, q⟩
/-- x not in a list -/
theorem kc_nin (hu : X.A.units + 64 < cLine) : OpRK X κ (compareOp .NotIn) (rC .nin) := by
  intro pins s σ H x y v u Q I rx ry ⟨G, U, dx, dy, r, px, py, e, q⟩
  rcases cmp_nin e with ⟨c, z, rfl, rfl, rfl⟩ | ⟨ys, rfl, ok, rfl⟩ | ⟨k, ks, vs, rfl, rfl, rfl⟩
  · obtain ⟨t, rfl⟩ := (show x = V.str _ from px) ▸ rx
    obtain ⟨t', rfl⟩ := (show y = V.str _ from py) ▸ ry
    refine PyProof.Rows.notIn_str ⟨Kpr.refl s, .bl _, H, I, rfl, ?_⟩
    have := congrArg Bool.not (PySem.StrLaws.found_one (mkS z) c).symm
    rw [← this]
    exact q
  · obtain ⟨a1, a2, a3⟩ := eqOk_of ok
    obtain ⟨as, r1⟩ := Dp.reads I _ x v (px.dp a1) rx
    obtain ⟨bs, r2⟩ := Dp.reads I _ y u (py.dp a2) ry
    simp only [toPy] at r2
    have a2' : D.pls ys = true := by simpa [D.pl] using a2
    have a3' : min dx.dep (D.deps ys + 1) ≤ 30 := by simpa [D.dep] using a3
    refine SeqAt.notIn_list_data r2 r1 (toPys_plain _) (toPy_plain _) (by rw [toPys_dep, toPy_dep]; omega) ?_
    rw [any_py _ a1 _ a2']
    exact ⟨Kpr.refl s, .bl _, H, I, rfl, q⟩
  · obtain ⟨a, kvs, ex, rd, h1, h2⟩ := py
    subst ex
    cases (show x = V.str (mkS k) from px)
    obtain rfl : u = Value.ref a := ry
    obtain ⟨z, hd, vs, rel, dd⟩ := dk_rd I.hok rd
    refine wpAny_notIn_of (kV_is (k := kk k) rx) hd dd.mapOf ?_
    rw [← (rel.val (kk k)).isSome_eq]
    refine ⟨Kpr.tok, .bl _, H, I.tok _, rfl, ?_⟩
    have := (lookD_val (k := k) h1 h2).2.2
    rw [← this]
    exact q
theorem ints_items {its : List Value} {ns : List Int} (r : Vals (ns.map V.int) its) : IntsAre its ns := r.ints
theorem foldl_min : ∀ (xs : List Int) (x : Int), (xs.foldl min x = x ∨ xs.foldl min x ∈ xs) ∧ xs.foldl min x ≤ x ∧ ∀ y ∈ xs, xs.foldl min x ≤ y
  | [], x => ⟨.inl rfl, Int.le_refl _, by simp⟩
  | z :: xs, x => by
    obtain ⟨h1, h2, h3⟩ := foldl_min xs (min x z)
    rw [List.foldl_cons]
    refine ⟨?_, by omega, fun y hy => ?_⟩
    · rcases h1 with h1 | h1
      · rw [h1]
        by_cases g : x ≤ z
        · exact .inl (by omega)
        · exact .inr (by rw [Int.min_eq_right (by omega)]; simp)
      · exact .inr (List.mem_cons_of_mem _ h1)
    · rcases List.mem_cons.mp hy with e | hy
      · subst e; omega
      · exact h3 y hy
theorem minI_of {ns : List Int} {z m : Int} (h : minI ns = some z) (hm : m ∈ ns) (hl : ∀ y ∈ ns, m ≤ y) : m = z := by
  cases ns with
  | nil => cases h
  | cons x xs =>
    cases (show some (xs.foldl min x) = some z from h)
    obtain ⟨h1, h2, h3⟩ := foldl_min xs x
    have a : m ≤ xs.foldl min x := by
      rcases h1 with h1 | h1
      · rw [h1]; exact hl x (by simp)
      · exact hl _ (by simp [h1])
    rcases List.mem_cons.mp hm with e | hm
    · subst e; omega
    · have := h3 m hm; omega
theorem kk_min (hc : X.calm = true) : CallRK X κ (.builtin "min") (rK1 (b1D .min)) := by
  rintro pins s σ H xs us Q I rs ⟨G, U, dx, dz, x, rfl, hU, px, e, o⟩
  cases dx <;> simp only [b1D] at e <;> first
    | cases e
    | skip
  rw [Option.bind_eq_some_iff] at e
  obtain ⟨ns, en, e⟩ := e
  rw [Option.map_eq_some_iff] at e
  obtain ⟨z, ez, rfl⟩ := e
  obtain ⟨a, vs, ex, hx, lx⟩ := px
  subst ex
  rw [lx.ints en] at hx
  obtain ⟨its, rv, pl, hz⟩ := I.list (SqL.of hx)
  rw [Vals.ref1 rs]
  refine min_raw (I.ok.hd hc) pl.isList rv.ints (by cases ns with | nil => cases ez | cons _ _ => simp) fun h' tk m t' hk h1 h2 => ?_
  have := minI_of ez h1 h2
  subst this
  exact ⟨Kpr.kept hk, .int _, H, I.kept hk, ⟨_, rfl⟩, o.flat rfl rfl⟩
theorem kk_tuple : CallRK X κ (.type "tuple") (rK1 (b1D .tuple)) := by
  rintro pins s σ H xs us Q I rs ⟨G, U, dx, dz, x, rfl, hU, px, e, o⟩
  cases dx <;> simp only [b1D] at e <;> cases e
  · obtain ⟨a, vs, ex, hx, lx⟩ := px
    subst ex
    obtain ⟨its, r', pl, hz⟩ := I.tuple (.inl hx)
    obtain ⟨u, rfl, ru⟩ := vals1 rs
    cases ru
    exact call_tuple_same pl ⟨Kpr.refl s, .ref a, H, I, rfl, o.flat ⟨a, vs, rfl, hx, lx⟩ rfl⟩
  · obtain ⟨a, vs, ex, hx, lx⟩ := px
    subst ex
    obtain ⟨its, r', pl, hz⟩ := I.list (SqL.of hx)
    obtain ⟨u, rfl, ru⟩ := vals1 rs
    cases ru
    have hlen := r'.length
    refine call_tuple_list pl.isList (fun g kp => ?_) (by simp only [List.size_toArray] <;> omega)
    have J1 : Inv X pins σ H { s with heap := g } := I.kept (t' := s.toks) kp
    have J2 : Inv X pins σ (upd H g.objs.size (.tup vs)) { s with heap := g.push { cls := .type "tuple", data := .seq its.toArray } } :=
      J1.laid (t' := s.toks) (fun b o e => Heap.get?_push_of_some _ e) (Nat.le_refl _) (show ObjOk X.prog X.w _ _ _ (.tup vs) from ⟨hz, its, r', IsTup.new _ _⟩)
    exact ⟨Kpr.kept (t := s.toks) fun b o e => Heap.get?_push_of_some _ (kp b o e), .ref g.objs.size, _, J2, rfl, o.newT lx (J1.hok.fresh (Nat.le_refl _))⟩
theorem kb_B {f : B1} {id : String} {x : Str} (hc : CallRK X κ (.builtin id) (rK1 (b1D f))) (hg : Gl X x) (hm : X.mg x = none) (hv : bootBuiltins x = some (.builtin id)) (ha : PEK X κ e (tD cls W false m)) (hn : x ≠ "__name__" := by decide) (hdb : (x == ("__debug__" : Str)) = false := by decide)
    (he : starEach [e] X.env = (false, eval e X.env) :: starEach [] X.env := by rfl) (hpl : (backTo pos (starEach [] X.env)).any (·.1) = false := by rfl) : PEK X κ (.Call (.Name x p) [e] [] pos) (tD cls W true (.b1 f m)) :=
  (pek_callB hc hg hm hv (pak_cons ha pak_nil he) hn hdb he hpl).imp fun σ H Q q => imp_k1 q
theorem kb_T {f : B1} {T : String} {x : Str} (hc : CallRK X κ (.type T) (rK1 (b1D f))) (hg : Gl X x) (hm : X.mg x = none) (hv : bootBuiltins x = some (.type T)) (ha : PEK X κ e (tD cls W false m)) (hn : x ≠ "__name__" := by decide) (hdb : (x == ("__debug__" : Str)) = false := by decide)
    (he : starEach [e] X.env = (false, eval e X.env) :: starEach [] X.env := by rfl) (hpl : (backTo pos (starEach [] X.env)).any (·.1) = false := by rfl) : PEK X κ (.Call (.Name x p) [e] [] pos) (tD cls W true (.b1 f m)) :=
  (pek_callTy hc hg hm hv (pak_cons ha pak_nil he) hn hdb he hpl).imp fun σ H Q q => imp_k1 q
theorem kb_min (hc : X.calm = true) (hm : X.mg "min" = none) (ha : PEK X κ e (tD cls W false m)) (hg : Gl X "min" := by rfl) (he : starEach [e] X.env = (false, eval e X.env) :: starEach [] X.env := by rfl) (hpl : (backTo pos (starEach [] X.env)).any (·.1) = false := by rfl) :
    PEK X κ (.Call (.Name "min" p) [e] [] pos) (tD cls W true (.b1 .min m)) := kb_B (kk_min hc) hg hm PyProof.Rows.boot_min ha (by decide) (by decide) he hpl
end
end DL

set_option Elab.async false
set_option linter.all false
set_option maxRecDepth 100000
set_option maxHeartbeats 4000000
/-! DKdet: a run has one end. -/
namespace DL
open PySem
theorem Runs.det {M : Model} {Γ : Ctx} {p : Pos} {t : Sem Fin} {fs : List Frame} {s s1 : Shared} {e1 : End} (h : Runs M Γ p t fs s e1 s1) : ∀ {e2 : End} {s2 : Shared}, Runs M Γ p t fs s e2 s2 → e1 = e2 ∧ s1 = s2 := by
  induction h with
  | done => intro e2 s2 g; cases g; exact ⟨rfl, rfl⟩
  | raise => intro e2 s2 g; cases g; exact ⟨rfl, rfl⟩
  | again _ _ ih => intro e2 s2 g; cases g with | again _ g => exact ih g
  | rule _ ih => intro e2 s2 g; cases g with | rule g => exact ih g
  | «at» _ ih => intro e2 s2 g; cases g with | «at» g => exact ih g
  | load ho _ ih => intro e2 s2 g; cases g with | load ho' g => (rw [ho] at ho'; cases ho'; exact ih g)
  | update _ _ ih => intro e2 s2 g; cases g with | update _ g => exact ih g
  | loadIfAlive _ ih => intro e2 s2 g; cases g with | loadIfAlive g => exact ih g
  | point _ ih => intro e2 s2 g; cases g with | point g => exact ih g
  | alloc _ ih => intro e2 s2 g; cases g with | alloc g => exact ih g
  | fresh _ ih => intro e2 s2 g; cases g with | fresh g => exact ih g
  | ask _ ih => intro e2 s2 g; cases g with | ask g => exact ih g
  | choose _ _ ih => intro e2 s2 g; cases g with | choose _ g => exact ih g
  | os _ ih => intro e2 s2 g; cases g with | os g => exact ih g
  | handled _ ih => intro e2 s2 g; cases g with | handled g => exact ih g
  | genState hs _ ih => intro e2 s2 g; cases g with | genState hs' g => (rw [hs] at hs'; cases hs'; exact ih g)
  | stack _ ih => intro e2 s2 g; cases g with | stack g => exact ih g
  | thread _ ih => intro e2 s2 g; cases g with | thread g => exact ih g
  | newGen _ ih => intro e2 s2 g; cases g with | newGen g => exact ih g
  | call _ _ ih1 ih2 =>
    intro e2 s2 g
    cases g with
    | call g1 g2 =>
      obtain ⟨a, b⟩ := ih1 g1
      cases a; cases b
      exact ih2 g2
    | callSusp g1 => cases (ih1 g1).1
  | callSusp _ ih1 =>
    intro e2 s2 g
    cases g with
    | call g1 g2 => cases (ih1 g1).1
    | callSusp g1 =>
      obtain ⟨a, b⟩ := ih1 g1
      cases a; cases b
      exact ⟨rfl, rfl⟩
  | yield => intro e2 s2 g; cases g; exact ⟨rfl, rfl⟩
  | resumeFresh hg _ _ _ ih1 ih2 =>
    intro e2 s2 g
    cases g with
    | resumeFresh hg' g1 _ g2 =>
      rw [hg] at hg'; cases hg'
      obtain ⟨a, b⟩ := ih1 g1
      subst a b
      exact ih2 g2
    | resumeSuspended hg' _ _ _ => rw [hg] at hg'; cases hg'
    | resumeJustStarted hg' hv _ => exact absurd rfl hv
    | resumeRunning hg' _ => rw [hg] at hg'; cases hg'
    | resumeFinished hg' _ => rw [hg] at hg'; cases hg'
  | resumeSuspended hg _ _ _ ih1 ih2 =>
    intro e2 s2 g
    cases g with
    | resumeSuspended hg' g1 _ g2 =>
      rw [hg] at hg'; cases hg'
      obtain ⟨a, b⟩ := ih1 g1
      subst a b
      exact ih2 g2
    | resumeFresh hg' _ _ _ => rw [hg] at hg'; cases hg'
    | resumeJustStarted hg' _ _ => rw [hg] at hg'; cases hg'
    | resumeThrowFresh hg' _ => rw [hg] at hg'; cases hg'
    | resumeRunning hg' _ => rw [hg] at hg'; cases hg'
    | resumeFinished hg' _ => rw [hg] at hg'; cases hg'
  | resumeJustStarted hg hv _ ih =>
    intro e2 s2 g
    cases g with
    | resumeJustStarted hg' _ g => exact ih g
    | resumeFresh hg' _ _ _ => exact absurd rfl hv
    | resumeSuspended hg' _ _ _ => rw [hg] at hg'; cases hg'
    | resumeRunning hg' _ => rw [hg] at hg'; cases hg'
    | resumeFinished hg' _ => rw [hg] at hg'; cases hg'
  | resumeThrowFresh hg _ ih =>
    intro e2 s2 g
    cases g with
    | resumeThrowFresh hg' g => exact ih g
    | resumeSuspended hg' _ _ _ => rw [hg] at hg'; cases hg'
    | resumeRunning hg' _ => rw [hg] at hg'; cases hg'
    | resumeFinished hg' _ => rw [hg] at hg'; cases hg'
  | resumeRunning hg _ ih =>
    intro e2 s2 g
    cases g with
    | resumeRunning hg' g => exact ih g
    | resumeFresh hg' _ _ _ => rw [hg] at hg'; cases hg'
    | resumeSuspended hg' _ _ _ => rw [hg] at hg'; cases hg'
    | resumeJustStarted hg' _ _ => rw [hg] at hg'; cases hg'
    | resumeThrowFresh hg' _ => rw [hg] at hg'; cases hg'
    | resumeFinished hg' _ => rw [hg] at hg'; cases hg'
  | resumeFinished hg _ ih =>
    intro e2 s2 g
    cases g with
    | resumeFinished hg' g => exact ih g
    | resumeFresh hg' _ _ _ => rw [hg] at hg'; cases hg'
    | resumeSuspended hg' _ _ _ => rw [hg] at hg'; cases hg'
    | resumeJustStarted hg' _ _ => rw [hg] at hg'; cases hg'
    | resumeThrowFresh hg' _ => rw [hg] at hg'; cases hg'
    | resumeRunning hg' _ => rw [hg] at hg'; cases hg'
  | segRet _ _ ih1 ih2 =>
    intro e2 s2 g
    cases g with
    | segRet g1 g2 =>
      obtain ⟨a, b⟩ := ih1 g1
      cases a; cases b
      exact ih2 g2
    | segSuspOut _ g1 => cases (ih1 g1).1
    | segSuspGen _ g1 _ _ => cases (ih1 g1).1
  | segGen _ _ ih1 ih2 =>
    intro e2 s2 g
    cases g with
    | segGen g1 g2 =>
      obtain ⟨a, b⟩ := ih1 g1
      cases a; cases b
      exact ih2 g2
    | segSuspOut _ g1 => cases (ih1 g1).1
    | segSuspGen _ g1 _ _ => cases (ih1 g1).1
  | segSuspOut hn _ ih1 =>
    intro e2 s2 g
    cases g with
    | segRet g1 _ => cases (ih1 g1).1
    | segGen g1 _ => cases (ih1 g1).1
    | segSuspOut _ g1 =>
      obtain ⟨a, b⟩ := ih1 g1
      cases a; cases b
      exact ⟨rfl, rfl⟩
    | segSuspGen hn' _ _ _ => rw [hn] at hn'; cases hn'
  | segSuspGen hn _ _ _ ih1 ih2 =>
    intro e2 s2 g
    cases g with
    | segRet g1 _ => cases (ih1 g1).1
    | segGen g1 _ => cases (ih1 g1).1
    | segSuspOut hn' _ => rw [hn] at hn'; cases hn'
    | segSuspGen hn' g1 _ g2 =>
      rw [hn] at hn'; cases hn'
      obtain ⟨a, b⟩ := ih1 g1
      cases a; cases b
      exact ih2 g2
theorem Wakes.det {M : Model} {Γ : Ctx} {p : Pos} {g : Nat} {r : Resume} {s s1 s2 : Shared} {a b : GenResult} (x : Wakes M Γ p g r s a s1) (y : Wakes M Γ p g r s b s2) : a = b ∧ s1 = s2 := by
  unfold Wakes at x y
  split at x
  · exact x.elim
  · rename_i c hc
    split at x
    · rw [hc] at y
      obtain ⟨e1, z1, h1, _, rfl, rfl⟩ := x
      obtain ⟨e2, z2, h2, _, rfl, rfl⟩ := y
      obtain ⟨q1, q2⟩ := Runs.det h1 h2
      subst q1 q2; exact ⟨rfl, rfl⟩
    · rename_i v hv
      rw [hc] at y
      cases v <;> first
        | exact absurd rfl (fun z => hv z)
        | exact ⟨x.1.trans y.1.symm, x.2.trans y.2.symm⟩
    · rw [hc] at y
      exact ⟨x.1.trans y.1.symm, x.2.trans y.2.symm⟩
  · rename_i hc
    rw [hc] at y
    obtain ⟨e1, z1, h1, _, rfl, rfl⟩ := x
    obtain ⟨e2, z2, h2, _, rfl, rfl⟩ := y
    obtain ⟨q1, q2⟩ := Runs.det h1 h2
    subst q1 q2; exact ⟨rfl, rfl⟩
  · rename_i hc; rw [hc] at y; exact ⟨x.1.trans y.1.symm, x.2.trans y.2.symm⟩
  · rename_i hc; rw [hc] at y; exact ⟨x.1.trans y.1.symm, x.2.trans y.2.symm⟩
theorem wp_and {α : Type} (M : Model) (Γ : PySem.Ctx) (t : Sem α) : ∀ (Q Q' : α → Pos → Shared → Prop) (E E' : Value → Pos → Shared → Prop) (p : Pos) (s : Shared), Sem.wp M Γ t Q E p s → Sem.wp M Γ t Q' E' p s →
    Sem.wp M Γ t (fun a q s' => Q a q s' ∧ Q' a q s') (fun e q s' => E e q s' ∧ E' e q s') p s := by
  induction t with
  | pure a => intro Q Q' E E' p s h g; exact ⟨h, g⟩
  | raise e => intro Q Q' E E' p s h g; exact ⟨h, g⟩
  | unsupported _ => intro Q Q' E E' p s h g; exact h
  | finish _ => intro Q Q' E E' p s h g; exact h
  | rule _ k ih => intro Q Q' E E' p s h g; exact ih () Q Q' E E' p s h g
  | «at» q k ih => intro Q Q' E E' p s h g; exact ih () Q Q' E E' q s h g
  | load a _ k ih =>
    intro Q Q' E E' p s h g
    obtain ⟨o, ho, h⟩ := h
    obtain ⟨o', ho', g⟩ := g
    rw [ho] at ho'; cases ho'
    exact ⟨o, ho, ih o Q Q' E E' p s h g⟩
  | update a _ f k ih => intro Q Q' E E' p s h g; exact ⟨h.1, ih () Q Q' E E' p _ h.2 g.2⟩
  | loadIfAlive a k ih => intro Q Q' E E' p s h g; exact ih _ Q Q' E E' p s h g
  | point _ k ih => intro Q Q' E E' p s h g; exact ih () Q Q' E E' p s h g
  | register _ _ => intro Q Q' E E' p s h g; exact h
  | alloc o k ih => intro Q Q' E E' p s h g; exact ih _ Q Q' E E' p _ h g
  | fresh k ih => intro Q Q' E E' p s h g; exact ih _ Q Q' E E' p _ h g
  | ask k ih => intro Q Q' E E' p s h g; exact ih _ Q Q' E E' p s h g
  | choose src m k ih => intro Q Q' E E' p s h g; exact ⟨h.1, ih _ Q Q' E E' p _ h.2 g.2⟩
  | os q _ k ih => intro Q Q' E E' p s h g; exact ih _ Q Q' E E' p _ h g
  | call c hd _ _ k ih =>
    intro Q Q' E E' p s h g
    obtain ⟨r, z, hr, h⟩ := h
    obtain ⟨r', z', hr', g⟩ := g
    obtain ⟨a, b⟩ := Runs.det hr hr'
    cases a; cases b
    exact ⟨r, z, hr, ih r Q Q' E E' p z h g⟩
  | handled own k ih => intro Q Q' E E' p s h g; exact ih _ Q Q' E E' p s h g
  | genState i k ih =>
    intro Q Q' E E' p s h g
    obtain ⟨st, hs, h⟩ := h
    obtain ⟨st', hs', g⟩ := g
    rw [hs] at hs'; cases hs'
    exact ⟨st, hs, ih _ Q Q' E E' p s h g⟩
  | newGen c k ih => intro Q Q' E E' p s h g; exact ih _ Q Q' E E' p _ h g
  | resume i r _ k ih =>
    intro Q Q' E E' p s h g
    obtain ⟨res, z, hw, h⟩ := h
    obtain ⟨res', z', hw', g⟩ := g
    obtain ⟨a, b⟩ := Wakes.det hw hw'
    subst a b
    exact ⟨res, z, hw, ih res Q Q' E E' p z h g⟩
  | yield _ _ _ _ => intro Q Q' E E' p s h g; exact h
  | stack k ih => intro Q Q' E E' p s h g; exact ih _ Q Q' E E' p s h g
  | fork _ _ => intro Q Q' E E' p s h g; exact h
  | thread k ih => intro Q Q' E E' p s h g; exact ih _ Q Q' E E' p s h g
  | await _ _ _ _ _ => intro Q Q' E E' p s h g; exact h
theorem wpAny_and {α : Type} {M : Model} {A : Around} {s : Shared} {t : Sem α} {Q Q' : α → Shared → Prop} {E E' : Value → Shared → Prop} (h : wpAny M A t Q E s) (g : wpAny M A t Q' E' s) :
    wpAny M A t (fun a z => Q a z ∧ Q' a z) (fun e z => E e z ∧ E' e z) s := fun Γ p hΓ => wp_and M Γ t _ _ _ _ p s (h Γ p hΓ) (g Γ p hΓ)
end DL

set_option Elab.async false
set_option linter.all false
set_option maxRecDepth 100000
set_option maxHeartbeats 4000000
/-! DK2: what an iterator over a text hands on, its token known. -/
namespace DL
open PySem PySem.Spec PyProof.Rows L2 Builtin Builtin.Str
section
variable {prog : Program} {w : World} {A : Around} {E : Value → Shared → Prop} {s : Shared}
/-- next of a text's iterator, of either kind -/
theorem next_sign {it : Addr} {x : Str} {t : Tok} {ty : String} {i c : Nat} {Q : Value → Shared → Prop} (hty : ty = "str_ascii_iterator" ∨ ty = "str_iterator") (hit : s.heap.IsStrIter it ty x t i) (hx : x.cps[i]? = some c)
    (hQ : ∀ g, g.IsStrIter it ty x t (i + 1) → Heap.SameBut it s.heap g → Q (.str ⟨#[c]⟩ s.toks) { s with heap := g, toks := s.toks + 1 }) : wpAny (model prog w) A (Builtin.SmallTypes.nextOf (.ref it)) Q E s := by
  rcases hty with e | e
  · subst e; exact wpAny_nextOf_ascii_item hit hx hQ
  · subst e; exact wpAny_nextOf_wide_item hit hx hQ
/-- next of enumerate(text) -/
theorem enum_sign {e it : Addr} {x : Str} {t : Tok} {ty : String} {i c : Nat} {old : Value} {Q : Option Value → Shared → Prop} (hty : ty = "str_ascii_iterator" ∨ ty = "str_iterator") (he : IsEnum s.heap e it i old) (hit : s.heap.IsStrIter it ty x t i) (hx : x.cps[i]? = some c) (hne : e ≠ it)
    (hQ : ∀ g, IsEnumOut g e it ((i : Int) + 1) (.str ⟨#[c]⟩ s.toks) s.heap.objs.size → g.IsStrIter it ty x t (i + 1) → g.get? s.heap.objs.size = some { cls := .type "tuple", data := .seq #[.int i (s.toks + 1), .str ⟨#[c]⟩ s.toks] } →
      g.objs.size = s.heap.objs.size + 1 → (∀ b o, b ≠ e → b ≠ it → s.heap.get? b = some o → g.get? b = some o) → Q (some (.ref s.heap.objs.size)) { s with heap := g, toks := s.toks + 2 }) :
    wpAny (model prog w) A (pyNext (.ref e)) Q E s := by
  have hT : s.TypeIs (.ref e) "enumerate" := ⟨_, he, rfl⟩
  unfold pyNext
  refine wpAny_bind (wpAny_attempt (wpAny_callSpecial?_slot (name := Str.ofString "__next__") hT PySem.F.slot_enumerate_next
    (wpAny_call_entry PySem.F.slot_enumerate_next hT PySem.F.entry_enumerate_next ?_ (PySem.F.args_enumerate_next_1 _))))
  obtain ⟨hp, gn, dr, tk, os⟩ := s
  show wpAny _ _ (field (.ref e) 2 >>= _) _ _ _
  refine wpAny_bind (wpAny_field he rfl (x := .ref it) rfl (wpAny_bind (next_sign hty hit hx fun g1 hit1 sb1 => ?_)))
  have sb1 : Heap.SameBut it hp g1 := sb1
  have he1 : IsEnum g1 e it i old := (sb1.2 e hne).trans he
  refine wpAny_bind (wpAny_field he1 rfl (x := rawInt i) rfl (wpAny_bind (wpAny_field he1 rfl (x := .none) rfl (wpAny_bind (wpAny_mkInt (wpAny_bind (wpAny_setField_rec he1 (by simp) fun g2 he2 sb2 => ?_)))))))
  have sb2 : Heap.SameBut e g1 g2 := sb2
  have he2 : IsEnum g2 e it ((i : Int) + 1) old := he2
  refine wpAny_bind (wpAny_setField_rec he2 (by simp) fun g3 he3 sb3 => ?_)
  have sb3 : Heap.SameBut e g2 g3 := sb3
  have he3 : IsEnum g3 e it ((i : Int) + 1) old := he3
  have z3 : g3.objs.size = hp.objs.size := by rw [sb3.1, sb2.1, sb1.1]
  have it3 : ∀ o, g1.get? it = some o → g3.get? it = some o := fun o q => sb3.extBut it o (Ne.symm hne) (sb2.extBut it o (Ne.symm hne) q)
  refine wpAny_bind (wpAny_newTuple ?_)
  dsimp only
  have he4 : IsEnum (g3.push { cls := .type "tuple", data := .seq #[.int i (tk + 1), .str ⟨#[c]⟩ tk] }) e it ((i : Int) + 1) old := Heap.get?_push_of_some _ he3
  have t4 : (g3.push { cls := .type "tuple", data := .seq #[.int i (tk + 1), .str ⟨#[c]⟩ tk] }).get? g3.objs.size = some { cls := .type "tuple", data := .seq #[.int i (tk + 1), .str ⟨#[c]⟩ tk] } := Heap.get?_push_size _ rfl
  have k4 : ∀ b o, b ≠ e → b ≠ it → hp.get? b = some o → (g3.push { cls := .type "tuple", data := .seq #[.int i (tk + 1), .str ⟨#[c]⟩ tk] }).get? b = some o := fun b o n1 n2 q =>
    Heap.get?_push_of_some _ (sb3.extBut b o n1 (sb2.extBut b o n1 (sb1.extBut b o n2 q)))
  have z4 : (g3.push { cls := .type "tuple", data := .seq #[.int i (tk + 1), .str ⟨#[c]⟩ tk] }).objs.size = hp.objs.size + 1 := by rw [Heap.size_push, z3]
  have it4 : ∀ o, g1.get? it = some o → (g3.push { cls := .type "tuple", data := .seq #[.int i (tk + 1), .str ⟨#[c]⟩ tk] }).get? it = some o := fun o q => Heap.get?_push_of_some _ (it3 o q)
  rw [z3] at t4 ⊢
  show wpAny _ _ (Builtin.SmallTypes.ownedTupleIsFree (.ref e) >>= _) _ _ ⟨g3.push { cls := .type "tuple", data := .seq #[.int i (tk + 1), .str ⟨#[c]⟩ tk] }, gn, dr, tk + 1 + 1, os⟩
  generalize g3.push { cls := .type "tuple", data := .seq #[.int i (tk + 1), .str ⟨#[c]⟩ tk] } = g4 at he4 t4 k4 z4 it4 ⊢
  have hel : e < hp.objs.size := Heap.lt_size he
  refine wpAny_bind ?_
  unfold Builtin.SmallTypes.ownedTupleIsFree
  refine wpAny_bind (wpAny_field he4 rfl (x := .none) rfl (wpAny_pure ?_))
  simp only [if_true]
  refine wpAny_bind (wpAny_rule (wpAny_bind (wpAny_field he4 rfl (x := old) rfl (wpAny_bind (wpAny_setField_rec he4 (by simp) fun g5 he5 sb5 => ?_)))))
  have sb5 : Heap.SameBut e g4 g5 := sb5
  have he5 : IsEnum g5 e it ((i : Int) + 1) (.str ⟨#[c]⟩ tk) := he5
  show wpAny _ _ (Builtin.SmallTypes.ownedTupleHandOut (.ref e) (.ref hp.objs.size) >>= _) _ _ _
  refine wpAny_bind ?_
  unfold Builtin.SmallTypes.ownedTupleHandOut
  refine wpAny_bind (wpAny_setField_rec he5 (by simp) fun g6 he6 sb6 => ?_)
  have sb6 : Heap.SameBut e g5 g6 := sb6
  have he6 : IsEnumOut g6 e it ((i : Int) + 1) (.str ⟨#[c]⟩ tk) hp.objs.size := he6
  refine wpAny_setField_rec he6 (by simp) fun g7 he7 sb7 => ?_
  have sb7 : Heap.SameBut e g6 g7 := sb7
  have he7 : IsEnumOut g7 e it ((i : Int) + 1) (.str ⟨#[c]⟩ tk) hp.objs.size := he7
  have k7 : ∀ b o, b ≠ e → g4.get? b = some o → g7.get? b = some o := fun b o n q => sb7.extBut b o n (sb6.extBut b o n (sb5.extBut b o n q))
  refine wpAny_bind (wpAny_letGo (wpAny_pure ⟨_, rfl, wpAny_pure (hQ g7 he7 ?_ (k7 _ _ (Nat.ne_of_gt hel) t4) ?_ fun b o n1 n2 q => k7 b o n1 (k4 b o n1 n2 q))⟩))
  · obtain ⟨o, q, r⟩ := hit1
    exact ⟨o, k7 it o (Ne.symm hne) (it4 o q), r⟩
  · show g7.objs.size = hp.objs.size + 1
    rw [sb7.1, sb6.1, sb5.1, z4]
end
end DL

set_option Elab.async false
set_option linter.all false
set_option maxRecDepth 100000
set_option maxHeartbeats 4000000
/-! DK3: defs whose answer is told with its tokens. -/
namespace DL
open PySem PySem.Spec PyProof.Rows L2
variable [Tb]
section
variable {M : Model} {A : Around} {E : Value → Shared → Prop} {s : Shared}
/-- a call's frame: where the first parameter is a plain local a token is given out -/
theorem newFn {scope : Scope} {gl : Addr} {n : Str} {v : Value} {bs : List (Str × Value)} {qual : Str} {fu : Option Addr} {cd : Value} {bt : Addr} {Q : Env → Shared → Prop} (hk : scope.kind = .function) (hn : scope.names.lookup n = some .local)
    (hb : ∀ y ∈ bs, scope.names.lookup y.1 = some .local ∨ (scope.names.lookup y.1 = some .cell ∧ ((cellsFrom (s.heap.objs.size + 1) scope.names []).lookup y.1).isSome = true))
    (hQ : ∀ s1, 1 ≤ s1.toks → InCallC s s.heap.objs.size (bindL (newEnv scope s.heap.objs.size gl (cellsFrom (s.heap.objs.size + 1) scope.names []) qual fu cd none bt).kindOf ((n, v) :: bs) fun _ => none) (cellsFrom (s.heap.objs.size + 1) scope.names [])
      (bindC (newEnv scope s.heap.objs.size gl (cellsFrom (s.heap.objs.size + 1) scope.names []) qual fu cd none bt).kindOf ((n, v) :: bs) fun _ => none) s1 → Q (newEnv scope s.heap.objs.size gl (cellsFrom (s.heap.objs.size + 1) scope.names []) qual fu cd none bt) s1) :
    wpAny M A (newFunctionEnv scope gl [] ((n, v) :: bs) qual fu cd none bt) Q E s := by
  unfold newFunctionEnv
  simp only [Option.isSome_none, Bool.false_eq_true, if_false]
  refine wpAny_bind (wpAny_alloc (wpAny_bind (wpAny_layCells _ (fun a k cs => by cases hc : k == NameKind.cell <;> simp [hc]) _ _ _ _ ?_)))
  have c0 := cellsFrom_ok scope.names (s.heap.push { cls := .type "frame", data := .dict #[] }) (s.heap.objs.size + 1) [] ⟨fun _ _ z => (nomatch z), List.Pairwise.nil⟩ (by rw [Heap.size_push]; exact Nat.le_refl _)
  rw [Heap.size_push] at c0
  have e0 : ({ s with heap := s.heap.push { cls := .type "frame", data := .dict #[] } } : Shared).heap.objs.size = s.heap.objs.size + 1 := Heap.size_push ..
  rw [e0]
  generalize hen : newEnv scope s.heap.objs.size gl (cellsFrom (s.heap.objs.size + 1) scope.names []) qual fu cd none bt = en at hQ
  have eL : en.locals = s.heap.objs.size := by rw [← hen]; rfl
  have eC : en.cells = cellsFrom (s.heap.objs.size + 1) scope.names [] := by rw [← hen]; rfl
  have eS : en.scope = scope := by rw [← hen]; rfl
  have kO : ∀ y, en.kindOf y = scope.names.lookup y := fun y => by rw [← hen]; rfl
  have x0 : InCallC s en.locals (fun _ => none) en.cells (fun _ => none) { s with heap := pushCells (s.heap.push { cls := .type "frame", data := .dict #[] }) scope.names } := by
    rw [eL, eC]
    exact ⟨⟨⟨_, _, rfl⟩, (Heap.Ns.new s.heap (.type "frame")).keeps (pushCells_keeps _ _), fun b o z => pushCells_keeps _ _ b o (Heap.get?_push_of_some _ z), Nat.le_refl _⟩, fun a c hc => (c0.empty a c (PySem.mem_of_lookup hc)).1, c0.apart, fun a c hc => (c0.empty a c hc).2⟩
  have kl : en.kindOf n = some .local := (kO n).trans hn
  rw [show ({ scope := scope, locals := s.heap.objs.size, globals := gl, cells := cellsFrom (s.heap.objs.size + 1) scope.names [], qual := qual, func := fu, code := cd, frame := some s.heap.objs.size, builtins := bt } : Env) = en from hen]
  rw [List.forIn_cons]
  refine wpAny_bind (wpAny_bind (wpAny_bind (wpAny_storeName_local kl x0.toInCall.ns (fun g hg sb => wpAny_pure ?_) (by rw [eS, hk]; rfl))))
  have x1 : InCallC s en.locals (fun y => if y = n then some v else (fun _ => none) y) en.cells (fun _ => none) { s with heap := g, toks := s.toks + 1 } := by
    refine ⟨⟨⟨g, _, rfl⟩, hg, fun b o z => ?_, by rw [eL]; exact Nat.le_refl _⟩, fun k c hc => (x0.cell k c hc).sameBut sb (Nat.ne_of_gt (x0.above k c (PySem.mem_of_lookup hc))), x0.apart, x0.above⟩
    exact sb.extBut b o (by rw [eL]; exact Nat.ne_of_lt (Heap.lt_size z)) (x0.toInCall.keep b o z)
  refine wpAny_with_toks (n := 1) (s := { s with heap := g, toks := s.toks + 1 }) (by show 1 ≤ s.toks + 1; omega) (wpAny_bindParams _ (fun _ _ _ => rfl) (by rw [eS]; exact hk) bs _ _ _ _ x1 (fun y hy => ?_) fun s2 x2 => fun ht => wpAny_pure (hQ s2 ht ?_))
  · rw [kO, eC]
    exact hb y hy
  · rw [eL, eC] at x2
    unfold bindL bindC
    rw [if_pos kl, if_pos kl]
    exact x2
end
/-- a def that may be called: R tells more of its answer -/
structure FnR (P : Program) (w : World) (K : PySem.W.Frag) (mg : Str → Option Value) (base : Heap) (CX : CXT) (k : Nat) (f : Addr) (fd : FuncData) (ps : List Str) (sp : Sp) (R : Value → Shared → Prop) : Prop where
  len : ∀ vs H Q E, sp vs H Q E → vs.length = ps.length
  run : ∀ (A : Around) (outer : List Env) (s : Shared) (H : Hp) (args : Args) (us : List Value) (vs : List V) (Q : VK) (E : XK), Room k A → Env0 P w K mg base A outer s H → BindsTo s fd args (ps.zip us) → Vals vs us → sp vs H Q E →
    codeAny (model P w) A (.call (.ref f) args) (fun r s1 => CR CX outer P w H s Q E r s1 ∧ ∀ u, r = .ok (.ret u) → R u s1) s
theorem FnR.ok {P : Program} {w : World} {K : PySem.W.Frag} {mg : Str → Option Value} {base : Heap} {CX : CXT} {k : Nat} {f : Addr} {fd : FuncData} {ps : List Str} {sp : Sp} {R : Value → Shared → Prop} (F : FnR P w K mg base CX k f fd ps sp R) : FnOk P w K mg base CX k f fd ps sp :=
  ⟨F.len, fun A outer s H args us vs Q E hr e hb hv q => codeAny_mono (F.run A outer s H args us vs Q E hr e hb hv q) fun _ _ z => z.1⟩
/-- blocks whose answer is told of -/
structure PSR (X : Cx) (st : List Stmt) (t : TS) (R : Value → Shared → Prop) : Prop where
  run : ∀ (pins : List (Addr × Obj)) (s : Shared) (σ : L2.St) (H : Hp) (D : Ends), 1 ≤ s.toks → Inv X pins σ H s → t D σ H → wpAny (model X.prog X.w) X.A (execs st X.env) (fun f s1 => (SP X pins D f s1 ∧ f ≠ .next) ∧ ∀ u, f = .ret u → R u s1) X.xe s
/-- an expression whose value is told of; n tokens are out -/
structure PER (n : Nat) (X : Cx) (e : Expr) (t : TE) (R : Value → Shared → Prop) : Prop where
  run : ∀ (pins : List (Addr × Obj)) (s : Shared) (σ : L2.St) (H : Hp) (Q : VK), n ≤ s.toks → Inv X pins σ H s → t σ H Q → wpAny (model X.prog X.w) X.A (eval e X.env) (fun u s1 => EP X pins σ Q u s1 ∧ R u s1) X.xe s
theorem PER.imp {n : Nat} {X : Cx} {e : Expr} {t t' : TE} {R : Value → Shared → Prop} (h : PER n X e t R) (i : ∀ σ H Q, t' σ H Q → t σ H Q) : PER n X e t' R := ⟨fun pins s σ H Q h1 I q => h.run pins s σ H Q h1 I (i _ _ _ q)⟩
theorem PSR.imp {X : Cx} {st : List Stmt} {t t' : TS} {R : Value → Shared → Prop} (h : PSR X st t R) (i : ∀ D σ H, t' D σ H → t D σ H) : PSR X st t' R := ⟨fun pins s σ H D h1 I q => h.run pins s σ H D h1 I (i _ _ _ q)⟩
/-- a def by its body, its answer told of -/
theorem fn_R {CX : CXT} {P : Program} {w : World} {K : PySem.W.Frag} {mg : Str → Option Value} {base : Heap} {k : Nat} {f : Addr} {name qual : Str} {params : Arguments} {body : List Stmt} {scope : Scope} {dV kV doc pm cdv ct oc : Value} {an od : Option Addr}
    {osl : Array (Option Value)} {N ps : List Str} {p0 : Str} {pr : List Str} {sp : Sp} {R : Value → Shared → Prop} (lk : K.lookup f = some ⟨oc, od, .func (PySem.W.fnOf name qual params body scope dV kV doc pm an cdv ct), osl⟩) (hcd : PySem.W.codeIn K cdv qual = true) (S : FnScope N ps scope) (hps : ps = p0 :: pr) (hp0 : scope.names.lookup p0 = some .local)
    (len : ∀ vs H Q E, sp vs H Q E → vs.length = ps.length)
    (hbody : ∀ (A : Around) (outer : List Env) (s : Shared) (H : Hp) (vs : List V) (Q : VK) (E : XK), Room k (A.deeper (envOfC qual scope s.heap.objs.size f cdv)) → sp vs H Q E →
      ∃ t, PSR (cxOf CX P w K mg base N qual scope f cdv A outer s H E) body t R ∧ t { nx := fun _ H' => Q .non H', rt := Q } (L2.start N vs) H) :
    FnR P w K mg base CX (k + 1) f (PySem.W.fnOf name qual params body scope dV kV doc pm an cdv ct) ps sp R := by
  refine ⟨len, fun A outer s H args us vs Q E hr e0 hb r hsp => ?_⟩
  have hl := len _ _ _ _ hsp
  have hKin : K.In s.heap := e0.mod.kin.keeps fun b o z => (e0.bs b o z).1
  have hlim : s.heap.NoLimit := e0.mod.nolimit.keeps fun b o z => (e0.bs b o z).1
  have hk2 : ∀ y ∈ ps.zip us, scope.names.lookup y.1 = some .local ∨ (scope.names.lookup y.1 = some .cell ∧ ((cellsFrom (s.heap.objs.size + 1) scope.names []).lookup y.1).isSome = true) := fun ⟨n, v⟩ hy =>
    (S.par n (List.of_mem_zip hy).1).imp id fun z => ⟨z, PySem.W.cellsFrom_some _ _ _ (.inl z)⟩
  obtain ⟨u0, ur, eu⟩ : ∃ u0 ur, us = u0 :: ur := by
    cases us with
    | nil => exact absurd (hl.symm.trans r.length) (by rw [hps]; simp)
    | cons a b => exact ⟨a, b, rfl⟩
  refine codeAny_call_function hr.depth (hKin _ _ lk) rfl S.co S.gen rfl (PySem.W.codeRec_of hKin hcd) (hb _ _ _ _ ?_)
  have ez : ps.zip us = (p0, u0) :: pr.zip ur := by rw [hps, eu]; rfl
  rw [ez] at hk2 ⊢
  refine newFn S.kind hp0 (fun y hy => hk2 y (List.mem_cons_of_mem _ hy)) fun s1 ht x => ?_
  rw [← ez] at x
  refine ⟨hlim.keeps x.toInCall.keep, codeAny_func ?_⟩
  obtain ⟨t, hpt, hq⟩ := hbody A outer s H vs Q E (hr.deeper _) hsp
  have I : Inv (cxOf CX P w K mg base N qual scope f cdv A outer s H E) [] (L2.start N vs) H s1 := inv_start S hr.hd e0 hl r x
  refine wpAny_mono (hpt.run [] s1 (L2.start N vs) H _ ht I hq) (fun fl s' hs => ?_) fun e s' hs => wpAny_mono hs (fun _ _ z => ⟨z, fun _ y => nomatch y⟩) fun _ _ z => ⟨z, fun _ y => nomatch y⟩
  obtain ⟨⟨hs, hnx⟩, hr2⟩ := hs
  cases fl with
  | ret u =>
    obtain ⟨v, σ', H', J, rv, q⟩ := hs
    exact ⟨⟨v, H', J.os, J.bare, J.base, J.hok, rv, q⟩, fun z e => by cases e; exact hr2 _ rfl⟩
  | next => exact (hnx rfl).elim
  | brk => exact hs.elim fun _ z => z.elim fun _ z => z.2.elim
  | cont => exact hs.elim fun _ z => z.elim fun _ z => z.2.elim
section
variable {X : Cx} {st : Stmt} {rest : List Stmt} {t u : TS} {R : Value → Shared → Prop} {e : Expr} {te : TE} {pos : Pos}
theorem psr_cons (h1 : PS X st t) (h2 : PSR X rest u R) (hnr : ∀ D σ H, t D σ H → t { D with rt := fun _ _ => False } σ H := by intro D σ H h; exact h) : PSR X (st :: rest) (tSeq t u) R := by
  refine ⟨fun pins s σ H D h0 I h => ?_⟩
  refine wpAny_execs_cons (wpAny_mono (PySem.wpAny_toks (h1.run pins s σ H { D with nx := u D, rt := fun _ _ => False } I (hnr _ _ _ h))) (fun f s1 ⟨hk, q⟩ => ?_) fun _ _ z => z.2)
  cases f with
  | next =>
    obtain ⟨σ', H', I', q⟩ := q
    exact h2.run pins s1 σ' H' D (Nat.le_trans h0 hk) I' q
  | ret v => exact q.elim fun _ z => z.elim fun _ z => z.elim fun _ z => z.2.2.elim
  | brk => exact ⟨⟨q, fun z => nomatch z⟩, fun _ z => nomatch z⟩
  | cont => exact ⟨⟨q, fun z => nomatch z⟩, fun _ z => nomatch z⟩
theorem psr_ret {n : Nat} (h : PER n X e te R) (hn : n ≤ 1 := by decide) : PSR X [.Return (some e) pos] (tSeq (tRet te) tNext) R := by
  refine ⟨fun pins s σ H D h0 I hq => ?_⟩
  refine wpAny_execs_cons (wpAny_Return_some (thn (h.run pins s σ H _ (Nat.le_trans hn h0) I hq) fun v s1 ⟨⟨x, H1, I1, r, q⟩, hR⟩ => ?_))
  exact ⟨⟨⟨x, σ, H1, I1, r, q⟩, fun z => nomatch z⟩, fun z e => by cases e; exact hR⟩
end
end DL

set_option Elab.async false
set_option linter.all false
set_option maxRecDepth 100000
set_option maxHeartbeats 4000000
/-! DK4: comprehensions over the signs of a text, the tokens of what is kept told. -/
namespace DL
open PySem PySem.Spec PyProof.Rows L2
variable [Tb]
/-- a pair of a number and a text with its token -/
def TokP (u : Value) (s : Shared) : Prop := ∃ (T : Addr) (k : Int) (tk : Tok) (v : Value), u = .ref T ∧ s.heap.get? T = some { cls := .type "tuple", data := .seq #[.int k tk, v] } ∧ TokS s.toks v
/-- a turn whose item is told of; all objects but the iterator's own are kept -/
structure TurnR (P : Program) (w : World) (K : PySem.W.Frag) (tg : Expr) (J : It) (fp : List Addr) (it : Addr) (tn : Nat → Heap → Prop) (Rn : Value → Shared → Prop) : Prop where
  tu : Turn P w K tg J fp it tn
  item : ∀ (X : Cx), X.prog = P → X.w = w → X.K = K → X.calm = true → ∀ (i : Nat) (pins : List (Addr × Obj)) (s : Shared) (σ : L2.St) (H : Hp) (E : Value → Shared → Prop), 1 ≤ s.toks → Inv X pins σ H s → (∀ b ∈ fp, FpOk X pins H b) → tn i s.heap → J.go i H →
    wpAny (model P w) X.A (pyNext (.ref it)) (fun r s1 => ∃ u, r = some u ∧
      wpAny (model P w) X.A (letOwnedTupleGo tg (.ref it) u) (fun _ s2 => (∃ x H', Inv X pins σ H' s2 ∧ L2.RelV x u ∧ J.yld i H x H' ∧ tn (i + 1) s2.heap ∧ ∀ b ∈ fp, H' b = none) ∧ Rn u s2 ∧ s.toks ≤ s2.toks ∧ ∀ b o, b ∉ fp → s.heap.get? b = some o → s2.heap.get? b = some o) E s1) E s
  done : ∀ (X : Cx), X.prog = P → X.w = w → X.K = K → X.calm = true → ∀ (i : Nat) (pins : List (Addr × Obj)) (s : Shared) (σ : L2.St) (H : Hp) (E : Value → Shared → Prop), Inv X pins σ H s → (∀ b ∈ fp, FpOk X pins H b) → tn i s.heap → J.stop i H →
    wpAny (model P w) X.A (pyNext (.ref it)) (fun r s1 => (r = none ∧ Inv X pins σ H s1) ∧ ∀ b o, b ∉ fp → s.heap.get? b = some o → s1.heap.get? b = some o) E s
def PIRE (X : Cx) (pins : List (Addr × Obj)) (σ : L2.St) (tg : Expr) (R : It → Hp → Prop) (Rn : Value → Shared → Prop) (itv : Value) (s2 : Shared) : Prop :=
  ∃ (it : Addr) (fp : List Addr) (tn : Nat → Heap → Prop) (J : It) (H' : Hp), itv = .ref it ∧ Inv X pins σ H' s2 ∧ TurnR X.prog X.w X.K tg J fp it tn Rn ∧ tn 0 s2.heap ∧ (∀ b ∈ fp, FpOk X pins H' b) ∧ R J H'
structure PIR (X : Cx) (tg iter : Expr) (wi : TI) (Rn : Value → Shared → Prop) : Prop where
  run : ∀ (pins : List (Addr × Obj)) (s : Shared) (σ : L2.St) (H : Hp) (R : It → Hp → Prop), Inv X pins σ H s → wi σ H R →
    wpAny (model X.prog X.w) X.A (eval iter X.env) (fun v s1 => wpAny (model X.prog X.w) X.A (pyIter v) (PIRE X pins σ tg R Rn) X.xe s1) X.xe s
/-- enumerate(text) -/
theorem turnR_enum {P : Program} {w : World} {K : PySem.W.Frag} {elts : List Expr} {kk : Nat} {tpos : Pos} {it e : Addr} {x : Str} {t : Tok} {ty : String} (hty : ty = "str_ascii_iterator" ∨ ty = "str_iterator") (hne : e ≠ it) {V0 : Nat → V} (hV : ∀ i c, x.cps[i]? = some c → V0 i = .str ⟨#[c]⟩)
    (T : Turn P w K (.Tuple elts kk tpos) (ItD x.cps.size V0 fun _ => True) [e, it] e (fun i h => (∃ old, IsEnum h e it ((i : Nat) : Int) old) ∧ h.IsStrIter it ty x t i)) :
    TurnR P w K (.Tuple elts kk tpos) (ItD x.cps.size V0 fun _ => True) [e, it] e (fun i h => (∃ old, IsEnum h e it ((i : Nat) : Int) old) ∧ h.IsStrIter it ty x t i) TokP := by
  refine ⟨T, ?_, ?_⟩
  · intro X hP hw hK hc i pins s σ H E h1 I hf st hg
    obtain ⟨⟨old, he⟩, hst⟩ := st
    have hlt : i < x.cps.size := hg.2
    have hx : x.cps[i]? = some x.cps[i] := Array.getElem?_eq_getElem hlt
    subst hP hw hK
    have hel : e < s.heap.objs.size := Heap.lt_size he
    refine enum_sign hty he hst hx hne fun g hu hst' hT hsz hk => ?_
    refine ⟨_, rfl, wpAny_letOwnedTupleGo_enum (s := { s with heap := g, toks := s.toks + 2 }) hu fun g2 he2 sb => ?_⟩
    have hT2 : g2.get? s.heap.objs.size = some { cls := .type "tuple", data := .seq #[.int i (s.toks + 1), .str ⟨#[x.cps[i]]⟩ s.toks] } := (sb.2 _ (Nat.ne_of_gt hel)).trans hT
    have new : ObjOk X.prog X.w (upd H s.heap.objs.size (.tup [.int (i : Nat), V0 i])) g2 s.heap.objs.size (.tup [.int (i : Nat), V0 i]) :=
      ⟨by show 2 ≤ sizeLine; decide, [.int i (s.toks + 1), .str ⟨#[x.cps[i]]⟩ s.toks], .cons ⟨_, rfl⟩ (.cons (by rw [hV i _ hx]; exact ⟨_, rfl⟩) .nil), ⟨_, hT2, rfl, _, rfl⟩⟩
    have kall : ∀ b o, b ∉ [e, it] → s.heap.get? b = some o → g2.get? b = some o := fun b o hb q => (sb.2 b (fun z => hb (by simp [z]))).trans (hk b o (fun z => hb (by simp [z])) (fun z => hb (by simp [z])) q)
    have I1 : Inv X pins σ (upd H s.heap.objs.size (.tup [.int (i : Nat), V0 i])) { s with heap := g2, toks := s.toks + 2 } :=
      I.turnedNew (ch := [e, it]) (fun b ob hb q => kall b ob hb q) hf (Nat.le_refl _) new
    refine ⟨⟨.ref s.heap.objs.size, _, I1, rfl, ⟨_, rfl, I.hok.fresh (Nat.le_refl _), rfl⟩, ⟨⟨.str ⟨#[x.cps[i]]⟩ s.toks, ?_⟩, ?_⟩, fun b hb => ?_⟩, ⟨s.heap.objs.size, (i : Nat), s.toks + 1, .str ⟨#[x.cps[i]]⟩ s.toks, rfl, hT2, ⟨⟨#[x.cps[i]]⟩, s.toks, rfl, Nat.ne_of_gt h1, Nat.lt_add_of_pos_right (by decide)⟩⟩, Nat.le_add_right _ _, kall⟩
    · have e1 : ((i + 1 : Nat) : Int) = (i : Int) + 1 := by omega
      rw [e1]; exact he2
    · obtain ⟨o, q, r⟩ := hst'
      exact ⟨o, (sb.2 it (Ne.symm hne)).trans q, r⟩
    · have hb' : b < s.heap.objs.size := by
        have e' : b = e ∨ b = it := by simpa using hb
        rcases e' with z | z
        · rw [z]; exact hel
        · rw [z]; obtain ⟨o, q, _⟩ := hst; exact Heap.lt_size q
      rw [upd_ne (Nat.ne_of_lt hb')]
      exact (hf b hb).1
  · intro X hP hw hK hc i pins s σ H E I hf st hg
    obtain ⟨⟨old, he⟩, hst⟩ := st
    obtain ⟨hgo, rfl⟩ := hg
    subst hP hw hK
    obtain ⟨f0, f1, f2, f3, f4, f5⟩ := hf it (by simp)
    have fin : ∀ g, Heap.ExtBut it s.heap g → (none = (none : Option Value) ∧ Inv X pins σ H { s with heap := g }) ∧ ∀ b o, b ∉ [e, it] → s.heap.get? b = some o → g.get? b = some o := fun g eb =>
      ⟨⟨rfl, I.turned (t' := s.toks) (fun b o hb q => eb b o hb q) f0 f1 f3 f4 f5⟩, fun b o hb q => eb b o (fun z => hb (by simp [z])) q⟩
    rcases hty with z | z
    · subst z
      exact wpAny_pyNext_enum_endD (Draws.strAscii (A := X.A.in1) (I.ok.hd hc) it x t) he hst fun g eb => fin g eb
    · subst z
      exact wpAny_pyNext_enum_endD (Draws.strWide (A := X.A.in1) (I.ok.hd hc) it x t) he hst fun g eb => fin g eb
/-! ### the comprehension -/
/-- a target stored, the item told of: the name y holds a text whose token is known; all objects but the frame's are kept -/
structure PGR (X : Cx) (tg : Expr) (t : TG) (Rn : Value → Shared → Prop) (y : Str) : Prop where
  run : ∀ (pins : List (Addr × Obj)) (s : Shared) (σ : L2.St) (H : Hp) (v : V) (u : Value) (Q : L2.St → Hp → Prop), 1 ≤ s.toks → Rn u s → Inv X pins σ H s → L2.RelV v u → t v σ H Q →
    wpAny (model X.prog X.w) X.A (assign tg X.env u) (fun _ s' => (∃ σ' H', Inv X pins σ' H' s' ∧ Q σ' H') ∧ TokN X y s' ∧ s.toks ≤ s'.toks ∧ ∀ b o, b ≠ X.env.locals → (∀ z c, X.env.cells.lookup z = some c → b ≠ c) → s.heap.get? b = some o → s'.heap.get? b = some o) X.xe s
/-- tests that keep every object -/
structure PTsK (X : Cx) (ifs : List Expr) (t : TT) : Prop where
  run : ∀ (pins : List (Addr × Obj)) (s : Shared) (σ : L2.St) (H : Hp) (Q : Bool → Hp → Prop), Inv X pins σ H s → t σ H Q →
    wpAny (model X.prog X.w) X.A (forIn ifs true fun c r => if r = true then do let ok ← isTrue c X.env (eval c X.env); pure (ForInStep.yield ok) else pure (ForInStep.yield r)) (fun b s' => HK s s' ∧ TP X pins σ Q b s') X.xe s
theorem ptsk_nil {X : Cx} : PTsK X [] tYes := ⟨fun _ s _ H _ I h => wpAny_tests_nil ⟨Kpr.refl s, H, I, h⟩⟩
theorem ptsk_one {X : Cx} {c : Expr} {t : TT} (h : PTK X HK c t) : PTsK X [c] t := ⟨fun pins s σ H Q I hw => wpAny_tests_one (h.run pins s σ H Q I hw)⟩
/-- a list whose texts have tokens given out -/
def TokL (n : Nat) (h : Heap) (a : Addr) : Prop := ∃ (its : List Value) (k : Nat), h.get? a = some { cls := .type "list", data := .seq its.toArray k } ∧ ∀ u ∈ its, TokS n u
theorem TokL.mono {n m : Nat} {h : Heap} {a : Addr} (t : TokL n h a) (l : n ≤ m) : TokL m h a := let ⟨its, k, e, q⟩ := t; ⟨its, k, e, fun u hu => (q u hu).mono l⟩
theorem TokL.keep {n : Nat} {h h' : Heap} {a : Addr} (t : TokL n h a) (k : ∀ o, h.get? a = some o → h'.get? a = some o) : TokL n h' a := let ⟨its, j, e, q⟩ := t; ⟨its, j, k _ e, q⟩
theorem app_R {X : Cx} {pins : List (Addr × Obj)} {σ : L2.St} {H : Hp} {s : Shared} {E : Value → Shared → Prop} {D : Addr} {xs : List V} {y : V} {v : Value} {Q : Value → Shared → Prop} (I : Inv X pins σ H s) (hD : H D = some (.lst xs)) (hz : xs.length < sizeLine) (r : L2.RelV y v) (tl : TokL s.toks s.heap D) (tv : TokS s.toks v)
    (h : ∀ g, Inv X pins σ (upd H D (.lst (xs ++ [y]))) { s with heap := g } → TokL s.toks g D → (∀ b o, b ≠ D → s.heap.get? b = some o → g.get? b = some o) → Q .none { s with heap := g }) : wpAny (model X.prog X.w) X.A (call (.builtin "list.append") [.ref D, v]) Q E s := by
  obtain ⟨_, its, n, ri, e⟩ := I.hok D _ hD
  obtain ⟨its', n', e', tk⟩ := tl
  rw [e] at e'
  have ei : its = its' := by
    have := congrArg (fun o : Option Obj => o.map (·.data)) e'
    simp only [Option.map_some, Option.some.injEq, Data.seq.injEq] at this
    simpa using this.1
  subst ei
  have hl := ri.length
  refine append_at (hsz := by rw [List.size_toArray]; omega) e fun g sb ho => ?_
  have ob : g.get? D = some { cls := .type "list", data := .seq (its ++ [v]).toArray (n + 1) } := by rw [ho]; simp
  have kp : ∀ b o, b ≠ D → s.heap.get? b = some o → g.get? b = some o := fun b o hb q => (sb.2 b hb).trans q
  refine h g (I.write (t' := s.toks) (by rw [hD]; trivial) (.inl rfl) kp ⟨_, ho⟩ ⟨by rw [List.length_append]; exact hz, its ++ [v], n + 1, ri.append (.cons r .nil), ob⟩) ⟨its ++ [v], n + 1, ob, fun u hu => ?_⟩ kp
  rcases List.mem_append.mp hu with hu | hu
  · exact tk u hu
  · rw [List.mem_singleton] at hu; subst hu; exact tv
theorem Ns.uniq {h : Heap} {a : Addr} {m m' : Str → Option Value} (x : h.Ns a m) (y : h.Ns a m') : m = m' := by
  obtain ⟨o, es, ep, e1, e2, _, e3⟩ := x
  obtain ⟨o', es', ep', f1, f2, _, f3⟩ := y
  rw [e1] at f1; cases f1
  rw [e2] at f2; cases f2
  funext z
  exact (e3 z).symm.trans (f3 z)
theorem Look.uniq {X : Cx} {s : Shared} {m : Str → Option Value} {x : Str} {u v : Value} (a : Look X.env s.heap m x u) (b : Look X.env s.heap m x v) : u = v := by
  rcases a with ⟨k, e⟩ | ⟨k, c, e, o, ho, hd⟩ <;> rcases b with ⟨k', e'⟩ | ⟨k', c', e', o', ho', hd'⟩
  · rw [e] at e'; exact Option.some.inj e'
  · rcases k' with k' | k' <;> (rw [k] at k'; cases k')
  · rcases k with k | k <;> (rw [k'] at k; cases k)
  · rw [e] at e'; cases e'
    rw [ho] at ho'; cases ho'
    rw [hd] at hd'; cases hd'; rfl
/-- a name whose text's token is known, read -/
theorem name_R {X : Cx} {pins : List (Addr × Obj)} {σ : L2.St} {H : Hp} {s : Shared} {i : Nat} {x : Str} {pos : Pos} {Q : VK} {E : Value → Shared → Prop} (I : Inv X pins σ H s) (hN : X.N[i]? = some x) (hv : Vis X.env.scope x) (t : TokN X x s) (h : tVar i σ H Q)
    (hd : (x == ("__debug__" : Str)) = false) (hcd : (x == ("__classdict__" : Str)) = false) {P : Value → Shared → Prop} (fin : ∀ u, (∃ v, L2.RelV v u ∧ Q v H) → TokS s.toks u → P u s) : wpAny (model X.prog X.w) X.A (eval (.Name x pos) X.env) P E s := by
  obtain ⟨v, hσ, q⟩ := h
  obtain ⟨m, hn, hl⟩ := I.loc
  obtain ⟨u, r, l⟩ := hl i x v hN hσ hv
  obtain ⟨m', u', hn', l', tk⟩ := t
  cases Ns.uniq hn hn'
  cases Look.uniq l l'
  have := fin u ⟨v, r, q⟩ tk
  rcases l with ⟨k, e⟩ | ⟨k | k, c, hc, z⟩
  · exact wpAny_Name (wpAny_loadName_local I.ok.kind k hn e this) hd
  · exact wpAny_Name (wpAny_loadName_cell I.ok.kind k hc z this) hd
  · exact wpAny_Name (wpAny_loadName_free I.ok.kind k hc z this hcd) hd
section
variable {X : Cx}
/-- [y for target in iter if ..]: the new list at D, its texts' tokens told -/
theorem lc_R {pins : List (Addr × Obj)} {s : Shared} {σ : L2.St} {H : Hp} {Q : VK} {tg iter : Expr} {ifs : List Expr} {scope : Scope} {own : List (Str × Nat)} {pos p2 : Pos} {wi : TI} {g : TG} {tt : TT} {te : TE} {Rn : Value → Shared → Prop} {y : Str} {j : Nat}
    (hc : X.calm = true) (hN : X.N.Nodup) (h1 : 1 ≤ s.toks) (I : Inv X pins σ H s) (hi : PIR X tg iter wi Rn) (ok : BlkOk X.N X.env.scope scope own)
    (hg : ∀ (s : Shared) (H : Hp) (C : Addr) (cl : List (Str × Addr)) (fp : List Addr), PGR (X.blk s H scope (compEnvC scope cl C X.env) fp) tg g Rn y) (ht : ∀ (s : Shared) (H : Hp) (C : Addr) (cl : List (Str × Addr)) (fp : List Addr), PTsK (X.blk s H scope (compEnvC scope cl C X.env) fp) ifs tt)
    (hy : X.N[j]? = some y) (hvy : ∀ (cl : List (Str × Addr)) (C : Addr), Vis (compEnvC scope cl C X.env).scope y) (hd : (y == ("__debug__" : Str)) = false) (hcd : (y == ("__classdict__" : Str)) = false) (hs : ∀ x, foldedSetIterable iter X.env x = pure x := by intro _; rfl)
    (ite : ∀ σ H Q, te σ H Q → tVar j σ H Q) (h : tLc wi g tt te (own.map (·.2)) σ H Q) :
    wpAny (model X.prog X.w) X.A (eval (.ListComp (.Name y p2) [⟨tg, iter, ifs, 0⟩] scope pos) X.env) (fun u s' => EP X pins σ Q u s' ∧ ∃ a, u = .ref a ∧ TokL s'.toks s'.heap a) X.xe s := by
  have hfree : ∀ z ∈ scope.names, z.2 = .free → ∃ c, X.env.cells.lookup z.1 = some c := fun z hz e => (ok.free z hz e).elim (fun k => I.ok.has _ (.inl k)) fun k => I.ok.has _ (.inr k)
  rw [eval_ListComp]
  refine wpAny_comprehension_free (use := none) rfl hs (closure_ok hfree) ok.kind (fun z hz e => by rw [ok.uniq z hz, e])
    (wpAny_mono (PySem.wpAny_toks (hi.run pins s σ H _ I h)) (fun xv s1 ⟨t1, hx⟩ => wpAny_mono (PySem.wpAny_toks hx) (fun itv s2 ⟨t2, h2⟩ => ?_) fun _ _ z => z.2) fun _ _ z => z.2)
  obtain ⟨it, fp, tn, J, H2, e, I2, T, st2, f2, q⟩ := h2
  subst e
  have ht2 : 1 ≤ s2.toks := Nat.le_trans h1 (Nat.le_trans t1 t2)
  refine wpAny_newObj_type (newEnv_comp ?_) (by show 0 ≤ sizeLine; decide)
  generalize hDe : s2.heap.objs.size = D
  have hDn : H2 D = none := I2.hok.fresh (Nat.le_of_eq hDe)
  obtain ⟨Wi, ⟨m0, w0⟩, turn⟩ := q D hDn
  generalize hs3 : ({ s2 with heap := s2.heap.push { cls := .type "list", data := .seq ([] : List Value).toArray } } : Shared) = s3
  have oD3 : s3.heap.get? D = some { cls := .type "list", data := .seq ([] : List Value).toArray } := by rw [← hs3, ← hDe]; exact Heap.get?_push_size _ rfl
  have I3 : Inv X pins σ (upd H2 D (.lst [])) s3 := by
    rw [← hs3]
    exact I2.laid (t' := s2.toks) (fun b o z => Heap.get?_push_of_some _ z) (Nat.le_of_eq hDe) ⟨Nat.zero_le _, [], 0, .nil, by rw [← hs3] at oD3; exact oD3⟩
  have p3 : s3.heap = s2.heap.push { cls := .type "list", data := .seq ([] : List Value).toArray } := by rw [← hs3]
  have tk3 : s3.toks = s2.toks := by rw [← hs3]
  have ltfp : ∀ b ∈ fp, b < s2.heap.objs.size := fun b hb => let ⟨o, z, _⟩ := T.tu.obj _ _ st2 b hb; Heap.lt_size z
  have nDfp : D ∉ fp := fun hb => by have := ltfp D hb; rw [hDe] at this; exact Nat.lt_irrefl _ this
  have f3 : ∀ b ∈ fp, FpOk X pins (upd H2 D (.lst [])) b ∧ b < s3.heap.objs.size := fun b hb => by
    have hlt := ltfp b hb
    refine ⟨⟨?_, (f2 b hb).2⟩, by rw [p3, Heap.size_push]; exact Nat.lt_succ_of_lt hlt⟩
    rw [upd_ne (fun z => nDfp (by rw [← z]; exact hb))]
    exact (f2 b hb).1
  have st3 : tn 0 s3.heap := T.tu.keep _ _ _ st2 fun b _ o z => by rw [p3]; exact Heap.get?_push_of_some _ z
  have I4 := block_start I3 ok hN f3
  have pg := hg s3 (upd H2 D (.lst [])) s3.heap.objs.size (cellsFrom (s3.heap.objs.size + 1) scope.names (cloFrom X.env.cells scope.names [])) fp
  have pt := ht s3 (upd H2 D (.lst [])) s3.heap.objs.size (cellsFrom (s3.heap.objs.size + 1) scope.names (cloFrom X.env.cells scope.names [])) fp
  have pv := hvy (cellsFrom (s3.heap.objs.size + 1) scope.names (cloFrom X.env.cells scope.names [])) s3.heap.objs.size
  show codeAny _ _ (.compStart (.ListComp (.Name y p2) [⟨tg, iter, ifs, 0⟩] scope pos) 0 (.ref it) (.ref D) (compEnvC scope (cellsFrom (s3.heap.objs.size + 1) scope.names (cloFrom X.env.cells scope.names [])) s3.heap.objs.size X.env))
    (compPost (model X.prog X.w) X.A X.xe none (fun u s' => EP X pins σ Q u s' ∧ ∃ a, u = .ref a ∧ TokL s'.toks s'.heap a) (.ref D) s3.heap.objs.size) { s3 with heap := pushCells (s3.heap.push { cls := .type "dict", data := .dict #[] }) scope.names }
  have nfp : ∀ b ∈ fp, (upd H2 D (.lst [])) b = none := fun b hb => (f3 b hb).1.1
  generalize hce : compEnvC scope (cellsFrom (s3.heap.objs.size + 1) scope.names (cloFrom X.env.cells scope.names [])) s3.heap.objs.size X.env = ce at I4 pg pt pv ⊢
  have cL : ce.locals = s3.heap.objs.size := by subst hce; rfl
  have hDH : (upd H2 D (.lst [])) D = some (.lst []) := upd_same
  generalize hH3 : upd H2 D (.lst []) = H3 at I3 I4 pg pt w0 nfp f3 hDH
  have oD4 : ({ s3 with heap := pushCells (s3.heap.push { cls := .type "dict", data := .dict #[] }) scope.names } : Shared).heap.get? D = some { cls := .type "list", data := .seq ([] : List Value).toArray } := pushCells_keeps _ _ _ _ (Heap.get?_push_of_some _ oD3)
  have st4 : tn 0 ({ s3 with heap := pushCells (s3.heap.push { cls := .type "dict", data := .dict #[] }) scope.names } : Shared).heap := T.tu.keep _ _ _ st3 fun b _ o z => pushCells_keeps _ _ _ _ (Heap.get?_push_of_some _ z)
  have tk4 : 1 ≤ ({ s3 with heap := pushCells (s3.heap.push { cls := .type "dict", data := .dict #[] }) scope.names } : Shared).toks := by show 1 ≤ s3.toks; rw [tk3]; exact ht2
  generalize ({ s3 with heap := pushCells (s3.heap.push { cls := .type "dict", data := .dict #[] }) scope.names } : Shared) = s4 at I4 oD4 st4 tk4 ⊢
  have stat : ∀ {σ' : L2.St} {H' : Hp} {s' : Shared}, Inv (X.blk s3 H3 scope ce fp) [] σ' H' s' → (∀ b ∈ fp, H' b = none) → ∀ b ∈ fp, FpOk (X.blk s3 H3 scope ce fp) [] H' b := fun {σ' H' s'} I' hn b hb =>
    ⟨hn b hb, (I'.ok.exf b hb).1, I'.ok.exfs b hb, .inl hb, fun x c z => (I'.ok.exf b hb).2 x c z, fun p hp => absurd (show p ∈ ([] : List (Addr × Obj)) ++ [] from hp) (by simp)⟩
  have loop : codeAny (model X.prog X.w) X.A (.compLoop (.ListComp (.Name y p2) [⟨tg, iter, ifs, 0⟩] scope pos) 0 (.ref it) (.ref D) ce)
      (compPost (model X.prog X.w) X.A X.xe none (fun u s' => EP X pins σ Q u s' ∧ ∃ a, u = .ref a ∧ TokL s'.toks s'.heap a) (.ref D) s3.heap.objs.size) s4 := by
    refine compLoop_any (fun n s' => ∃ i H', Inv (X.blk s3 H3 scope ce fp) [] (wipe σ (own.map (·.2))) H' s' ∧ tn i s'.heap ∧ (∀ b ∈ fp, H' b = none) ∧ Wi i n H' ∧ 1 ≤ s'.toks ∧ TokL s'.toks s'.heap D) ?_ m0
      ⟨0, H3, I4, st4, nfp, w0, tk4, [], 0, oD4, by simp⟩
    rintro n s5 ⟨i, H5, I5, st5, n5, w5, tk5, tl5⟩
    have nDL : ∀ {H' : Hp} {s' : Shared} {σ' : L2.St} {pn : List (Addr × Obj)}, Inv (X.blk s3 H3 scope ce fp) pn σ' H' s' → TokL s'.toks s'.heap D → D ≠ ce.locals := fun I' ⟨its, k, e, _⟩ z => by
      obtain ⟨m, ⟨o, es, ep, e1, e2, _⟩, _⟩ := I'.loc
      rw [show (X.blk s3 H3 scope ce fp).env.locals = ce.locals from rfl, ← z, e] at e1
      cases e1; cases e2
    have nDC : ∀ {H' : Hp} {s' : Shared} {σ' : L2.St} {pn : List (Addr × Obj)}, Inv (X.blk s3 H3 scope ce fp) pn σ' H' s' → TokL s'.toks s'.heap D → ∀ z c, ce.cells.lookup z = some c → D ≠ c := fun I' ⟨its, k, e, _⟩ z c hc q => by
      obtain ⟨v, o, e1, e2⟩ := I'.cell z c hc
      rw [← q, e] at e1
      cases e1; cases e2
    rcases turn i n H5 w5 with ⟨stop, qq⟩ | ⟨go, Nx, hNx, step⟩
    · have td := PySem.wpAny_toks (T.done (X.blk s3 H3 scope ce fp) rfl rfl rfl hc i [] s5 _ H5 (fun _ _ => False) I5 (stat I5 n5) st5 stop)
      refine wpAny_mono td (fun r s6 ⟨t6, ⟨hr, I6⟩, k6⟩ => ?_) fun _ _ z => z.2.elim
      subst hr
      have I7 : Inv X pins σ H5 s6 := I3.call' (ch := fp) I6.os I6.base I6.hok I6.bare fun b hb => ⟨(f3 b hb).1.2.2.2.1, (f3 b hb).1.2.1, (f3 b hb).1.2.2.2.2.1, (f3 b hb).1.2.2.2.2.2⟩
      have nC : H5 s3.heap.objs.size = none := by
        have z : H5 ce.locals = none := I6.free
        rw [cL] at z
        exact z
      obtain ⟨m, hn, _⟩ := I6.loc
      have hn : s6.heap.Ns ce.locals m := hn
      have tl6 : TokL s6.toks s6.heap D := (tl5.mono t6).keep fun o z => k6 D o nDfp z
      have dL := nDL I6 tl6
      rw [cL] at hn dL
      refine ⟨m, hn, fun h2 sb => ⟨?_, D, rfl, tl6.keep fun o z => (sb.2 D dL).trans z⟩⟩
      obtain ⟨g0, g1, g2, g3, g4, g5⟩ := I3.fpOk (Nat.le_refl _) nC
      exact ⟨.ref D, H5, I7.turned (t' := s6.toks) (fun b o hb z => (sb.2 b hb).trans z) g0 g1 g3 g4 g5, rfl, qq⟩
    · have ti := T.item (X.blk s3 H3 scope ce fp) rfl rfl rfl hc i [] s5 _ H5 (fun _ _ => False) tk5 I5 (stat I5 n5) st5 go
      refine thnF (PySem.wpAny_mono (PySem.wpAny_toks ti) (fun _ _ z => z) fun _ _ z => z.2) fun r s6 ⟨t6, u, hr, h6⟩ => ?_
      subst hr
      refine thnF h6 fun _ s7 ⟨⟨x, H7, I7, r7, y7, st7, n7⟩, rn7, t7, k7⟩ => ?_
      have tl7 : TokL s7.toks s7.heap D := (tl5.mono t7).keep fun o z => k7 D o nDfp z
      have J7 := I7.pinned (stat I7 n7) (T.tu.obj _ _ st7)
      refine thnF (pg.run _ s7 _ H7 x u _ (Nat.le_trans tk5 t7) rn7 J7 r7 (step x H7 y7)) fun _ s8 ⟨⟨σ8, H8, I8, hw8, q8⟩, tn8, t8, k8⟩ => ?_
      have dL7 := nDL J7 tl7
      have dC7 := nDC J7 tl7
      refine thnF (PySem.wpAny_mono (PySem.wpAny_toks (pt.run _ s8 σ8 H8 _ I8 q8)) (fun _ _ z => z) fun _ _ z => z.2) fun b s9 ⟨t9, k9, H9, I9, q9⟩ => ?_
      have tn9 : TokN (X.blk s3 H3 scope ce fp) y s9 := tn8.fk (HK.fk k9) t9
      have dkeep : ∀ o, s7.heap.get? D = some o → s9.heap.get? D = some o := fun o z => k9 D o (k8 D o dL7 dC7 z)
      have tl9 : TokL s9.toks s9.heap D := (tl7.mono (Nat.le_trans t8 t9)).keep dkeep
      have fin : ∀ {s' : Shared} {H' : Hp}, Inv (X.blk s3 H3 scope ce fp) ([] ++ pinsAt fp s7.heap) σ8 H' s' → Nx H' → 1 ≤ s'.toks → TokL s'.toks s'.heap D →
          ∃ m, m < n ∧ ∃ i H', Inv (X.blk s3 H3 scope ce fp) [] (wipe σ (own.map (·.2))) H' s' ∧ tn i s'.heap ∧ (∀ b ∈ fp, H' b = none) ∧ Wi i m H' ∧ 1 ≤ s'.toks ∧ TokL s'.toks s'.heap D := fun {s' H'} I' nx t1 t2 => by
        obtain ⟨m', hm, w'⟩ := hNx H' nx
        have pin' : ∀ b ∈ fp, ∀ o, s7.heap.get? b = some o → s'.heap.get? b = some o ∧ H' b = none := fun b hb o z =>
          let y := I'.pin (b, o) (List.mem_append_right _ (List.mem_append_right _ (mem_pinsAt hb z)))
          ⟨y.1, y.2.1⟩
        have hl : (wipe σ (own.map (·.2))).length = σ8.length := by rw [← hw8, wipe_length]
        refine ⟨m', hm, i + 1, H', (I'.unpinned (pins := [])).weak hl (fun j v z => ?_), T.tu.keep _ _ _ st7 fun b hb o z => (pin' b hb o z).1, fun b hb => ?_, w', t1, t2⟩
        · rw [← hw8] at z
          exact (wipe_some z).1
        · obtain ⟨o, z, _⟩ := T.tu.obj _ _ st7 b hb
          exact (pin' b hb o z).2
      have tk9 : 1 ≤ s9.toks := Nat.le_trans tk5 (Nat.le_trans t7 (Nat.le_trans t8 t9))
      cases b with
      | false =>
        simp only [Bool.false_eq_true, if_false] at q9 ⊢
        exact fin I9 q9 tk9 tl9
      | true =>
        simp only [if_true] at q9 ⊢
        refine name_R I9 hy pv tn9 (ite _ _ _ q9) hd hcd fun u9 ⟨yv, r10, acc, hD10, hz10, nx⟩ tv => ?_
        exact app_R (X := X.blk s3 H3 scope ce fp) I9 hD10 hz10 r10 tl9 tv fun g I11 tl11 _ => fin I11 nx tk9 tl11
  exact codeAny_compStart_list loop (T.tu.self X.A 0 _ _ _ st4 loop)
end
end DL

set_option Elab.async false
set_option linter.all false
set_option maxRecDepth 100000
set_option maxHeartbeats 4000000
/-! DK5: enumerate of a text over data; stores whose token is known. -/
namespace DL
open PySem PySem.Spec PyProof.Rows L2
variable [Tb]
def RL (u : Value) (s : Shared) : Prop := ∃ a, u = .ref a ∧ TokL s.toks s.heap a
def RS (u : Value) (s : Shared) : Prop := TokS s.toks u
section
variable {X : Cx} {cls : Nat → Addr} {W : WX} {m : ME} {e tg iter : Expr} {pos p tpos : Pos} {elts : List Expr} {kk : Nat} {Rn : Value → Shared → Prop} {wi wi' : TI}
theorem PIR.imp (h : PIR X tg iter wi Rn) (i : ∀ σ H R, wi' σ H R → wi σ H R) : PIR X tg iter wi' Rn := ⟨fun pins s σ H R I q => h.run pins s σ H R I (i _ _ _ q)⟩
theorem PIR.pi (h : PIR X tg iter wi Rn) : PI X tg iter wi :=
  ⟨fun pins s σ H R I q => thn (h.run pins s σ H R I q) fun _ _ z => thn z fun _ _ ⟨it, fp, tn, J, H', e, I', T, st, f, r⟩ => ⟨it, fp, tn, J, H', e, I', T.tu, st, f, r⟩⟩
theorem tir_enumS (hg : Gl X "enumerate") (hm : X.mg "enumerate" = none) (he : PE X e (tD cls W true m)) (hs : starEach [e] X.env = (false, eval e X.env) :: starEach [] X.env := by rfl) :
    PIR X (.Tuple elts kk tpos) (.Call (.Name "enumerate" p) [e] [] pos) (iD cls W (.enumS m)) TokP := by
  refine ⟨fun pins s σ H R I ⟨G, U0, He, ρ, Qd, Xd, r, w, k, x⟩ => ?_⟩
  simp only [wE] at w
  refine Call_ (ld_blt I hg hm boot_enumerate (PyProof.Rows.callWith_type1 (thn ((pa_cons he pa_nil hs).run pos pins s σ H (fun vs H' => ∃ v' d, vs = [v'] ∧ Ext G H H' ∧ RE G U0 He H' σ ρ ∧ Rp G (Uo U0 ρ σ) H' d v' ∧ (match d with
      | .str s => onIt Qd (.lst (enumD (chars s)))
      | _ => False)) I (tD_in r w (fun d v H' e r' p f q => ⟨v, d, rfl, e, r', p, q⟩) x)) fun us s1 ⟨vs, H1, I1, r1, q1⟩ => ?_) hs rfl))
  obtain ⟨v, d, ex, e1, r1', p1, q1⟩ := q1
  subst ex
  obtain ⟨u, rfl, ru⟩ := vals1 r1
  cases d <;> first
    | exact q1.elim
    | skip
  rename_i t
  obtain ⟨Hb, rb, kb, bk, hb⟩ := r1'.rebase
  have q' : Qd (enumD (chars t)) := q1
  cases (show v = V.str (mkS t) from p1)
  obtain ⟨tk, rfl⟩ := ru
  refine call_enumerate_str fun g he' hit hsz hk => wpAny_pyIter_enum he' ?_
  have I2 : Inv X pins σ H1 { s1 with heap := g } := I1.kept (t' := s1.toks) hk
  have hty : strIterType (mkS t) = "str_ascii_iterator" ∨ strIterType (mkS t) = "str_iterator" := by
    unfold strIterType; split
    · exact .inl rfl
    · exact .inr rfl
  have T := turn_enumD (P := X.prog) (w := X.w) (K := X.K) (elts := elts) (kk := kk) (tpos := tpos) (n := (mkS t).cps.size) (V0 := fun i => .str ⟨#[t.getD i 0]⟩) (go := fun _ => True) (it := s1.heap.objs.size) (e := s1.heap.objs.size + 1) (Nat.succ_ne_self _)
    (Sx := fun i h => h.IsStrIter s1.heap.objs.size (strIterType (mkS t)) (mkS t) tk i) (Pv := fun i v => ∃ c u, (mkS t).cps[i]? = some c ∧ v = .str ⟨#[c]⟩ u)
    (fun i v ⟨c, u, hc, ev⟩ => ⟨u, by
      have : t[i]? = some c := by simpa [mkS] using hc
      rw [ev, List.getD_eq_getElem?_getD, this]; rfl⟩)
    (fun i h h' ⟨o, ho, q⟩ kp => ⟨o, kp o ho, q⟩) (fun i h ⟨o, ho, hc, hd⟩ => ⟨o, ho, fun v z => by rw [hd] at z; cases z⟩)
    (fun X' pins' s' σ' H' i hP hw hK hh I' _ hs hf => by
      have nm : s1.heap.objs.size + 1 ∉ [s1.heap.objs.size] := fun z => absurd (List.mem_singleton.mp z) (Nat.succ_ne_self _)
      rcases hty with e | e
      · rw [e] at hs
        exact ⟨_, _, Draws.strAscii (A := X'.A.in1) hh s1.heap.objs.size (mkS t) tk, hs, nm, fun h z => by rw [e]; exact z⟩
      · rw [e] at hs
        exact ⟨_, _, Draws.strWide (A := X'.A.in1) hh s1.heap.objs.size (mkS t) tk, hs, nm, fun h z => by rw [e]; exact z⟩)
  have TR := turnR_enum (w := X.w) (K := X.K) (elts := elts) (kk := kk) (tpos := tpos) (it := s1.heap.objs.size) (e := s1.heap.objs.size + 1) (x := mkS t) (t := tk) hty (Nat.succ_ne_self _) (V0 := fun i => .str ⟨#[t.getD i 0]⟩) (fun i c hc => by
    have : t[i]? = some c := by simpa [mkS] using hc
    show V.str _ = _
    rw [List.getD_eq_getElem?_getD, this]; rfl) T
  refine ⟨s1.heap.objs.size + 1, [s1.heap.objs.size + 1, s1.heap.objs.size], _, _, H1, rfl, I2, TR, ⟨⟨.none, he'⟩, hit⟩, fun b hb2 => ?_, k _ _ H1 Hb e1 rb bk hb (IsIt.enum rb.mv (by simp [chars, mkS]) (fun _ _ => trivial) fun i y hy => ?_) q'⟩
  · have e' : b = s1.heap.objs.size + 1 ∨ b = s1.heap.objs.size := by simpa using hb2
    have hle : s1.heap.objs.size ≤ b := by
      rcases e' with z | z
      · rw [z]; exact Nat.le_add_right _ _
      · rw [z]; exact Nat.le_refl _
    exact I1.fpOk hle (I1.hok.fresh hle)
  · obtain ⟨c, hc, rfl⟩ := chars_get hy
    show V.str _ = V.str _
    rw [List.getD_eq_getElem?_getD, hc]; rfl
theorem ti_enumS (hg : Gl X "enumerate") (hm : X.mg "enumerate" = none) (he : PE X e (tD cls W true m)) (hs : starEach [e] X.env = (false, eval e X.env) :: starEach [] X.env := by rfl) :
    PI X (.Tuple elts kk tpos) (.Call (.Name "enumerate" p) [e] [] pos) (iD cls W (.enumS m)) := (tir_enumS hg hm he hs).pi
theorem tipR (h : PIR X tg iter (iD cls W m) Rn) : PIR X tg iter (iDp cls W m) Rn := h.imp fun σ H R ⟨G, U0, He, ρ, Qd, Xd, r, w, k, x⟩ => ⟨G, U0, He, ρ, Qd, Xd, r, w, fun xs J H' Hb e1 rb bk hb it q => k xs J H' e1 (bk _ _ _ rb) (it.lift rb hb) q, x⟩
/-! ### stores -/
/-- a name is stored, its token known -/
theorem store_R {E : Value → Shared → Prop} {pins : List (Addr × Obj)} {σ : L2.St} {H : Hp} {s : Shared} {i : Nat} {x : Str} {v : V} {u : Value} {Q : Unit → Shared → Prop} (I : Inv X pins σ H s) (hN : X.N.Nodup) (hi : X.N[i]? = some x) (hx : Loc X.env.scope x) (r : L2.RelV v u) (ht : TokS s.toks u)
    (h : ∀ s', Inv X pins (σ.set i (some v)) H s' → TokN X x s' → s.toks ≤ s'.toks → (∃ a, Heap.SameBut a s.heap s'.heap ∧ (a = X.env.locals ∨ X.env.cells.lookup x = some a)) → Q () s') (hf : X.fn x = true ∨ X.env.scope.names.lookup x = some .local := by first | exact .inl rfl | exact .inr rfl | assumption) :
    wpAny (model X.prog X.w) X.A (storeName X.env x u) Q E s := by
  have a1 : wpAny (model X.prog X.w) X.A (storeName X.env x u) (fun _ s' => Inv X pins (σ.set i (some v)) H s' ∧ ∃ a, Heap.SameBut a s.heap s'.heap ∧ (a = X.env.locals ∨ X.env.cells.lookup x = some a)) E s := store_ok2 I hN hi hx r (fun s' I' z => ⟨I', z⟩) hf
  have a2 : wpAny (model X.prog X.w) X.A (storeName X.env x u) (fun _ s' => TokS s'.toks u ∧ ∃ m, s'.heap.Ns X.env.locals m ∧ Look X.env s'.heap m x u) E s := by
    obtain ⟨m, hn, _⟩ := I.loc
    rcases hx with hk | hk
    · refine wpAny_storeName_local hk hn (fun g hg sb => ⟨ht.mono (Nat.le_add_right _ _), _, hg, .inl ⟨hk, by simp⟩⟩) (by rw [I.ok.kind]; rfl)
    · obtain ⟨c, hc⟩ := I.ok.has x (.inl hk)
      obtain ⟨w', z⟩ := I.cell x c hc
      refine wpAny_storeName_cell I.ok.kind hk hc z fun g hg sb => ⟨ht, m, hn.sameBut sb (Ne.symm (I.cne x c hc)), .inr ⟨.inl hk, c, hc, hg⟩⟩
  refine wpAny_mono (wpAny_and (PySem.wpAny_toks a1) a2) (fun _ s' ⟨⟨t, I', z⟩, y, m, n, l⟩ => h s' I' ⟨m, u, n, l, y⟩ t z) fun _ _ z => z.1.2
/-- place, letter = a pair -/
theorem pgr_pair {a y : Str} {i j : Nat} {pa py : Pos} (hc : X.calm = true) (hN : X.N.Nodup) (hi : X.N[i]? = some a) (hj : X.N[j]? = some y) (hij : i ≠ j) (ha : Loc X.env.scope a) (hy : Loc X.env.scope y)
    (hfa : X.fn a = true ∨ X.env.scope.names.lookup a = some .local) (hfy : X.fn y = true ∨ X.env.scope.names.lookup y = some .local) :
    PGR X (.Tuple [.Name a pa, .Name y py] kk tpos) (gD (.tp [.nm i, .nm j])) TokP y := by
  refine ⟨fun pins s σ H v u Q h1 hR I r ⟨G, U0, He, ρ, d, ρ', re, p, as, k⟩ => ?_⟩
  obtain ⟨T, kz, tk, w, rfl, hT, hw⟩ := hR
  cases d <;> first
    | cases as
    | skip
  rename_i ds
  obtain ⟨c, xs, rfl, rd, l⟩ := p
  cases r
  have as : asgGs [.nm i, .nm j] ds ρ = some ρ' := as
  match ds, as, l with
  | [d1, d2], as, l =>
    simp only [asgGs, asgG, Option.bind_some, Option.some.injEq] at as
    subst as
    obtain ⟨v1, r1, rfl, p1, v2, r2, rfl, p2, rfl⟩ := l
    obtain ⟨its, rv, ht, hz⟩ := I.tuple (.inl rd)
    obtain ⟨o, ho, hcl, n, hd⟩ := ht
    rw [hT] at ho; cases ho
    have eits : its = [.int kz tk, w] := by
      have : (#[.int kz tk, w] : Array Value) = its.toArray := by injection hd
      have := congrArg Array.toList this
      simpa using this.symm
    subst eits
    cases rv with
    | cons rv1 rv =>
      cases rv with
      | cons rv2 rv =>
        refine assign_Tuple_tuple (I.ok.hd hc) ⟨_, hT, rfl, _, rfl⟩ rfl rfl fun g hx => ?_
        have kp : ∀ b o, s.heap.get? b = some o → g.get? b = some o := fun b o e => hx b o (Nat.ne_of_lt (Heap.lt_size e)) e
        have I1 : Inv X pins σ H { s with heap := g } := I.kept (t' := s.toks) kp
        show wpAny _ _ (assignInOrder [assign (.Name a pa) X.env, assign (.Name y py) X.env] [.int kz tk, w]) _ _ _
        refine assignInOrder_cons (wpAny_assign_Name (wpAny_mono (PySem.wpAny_toks (store_ok2 (Q := fun _ s' => Inv X pins (σ.set i (some v1)) H s' ∧ ∃ b, Heap.SameBut b g s'.heap ∧ (b = X.env.locals ∨ X.env.cells.lookup a = some b)) I1 hN hi ha rv1 (fun s' I' z => ⟨I', z⟩) hfa)) (fun _ s2 ⟨t2, I2, b, sb, hb⟩ => ?_) fun _ _ z => z.2))
        have t2 : s.toks ≤ s2.toks := t2
        refine assignInOrder_cons (wpAny_assign_Name (store_R I2 hN hj hy rv2 (hw.mono t2) (fun s3 I3 tn t3 ⟨b', sb', hb'⟩ => assignInOrder_nil ?_) hfy))
        have re1 := re.setImm (i := i) p1
        have re2 := re1.setImm (i := j) (p2.anti fun z hz => .inl (Uo.setImm hz))
        refine ⟨⟨_, H, I3, k _ ⟨re2, fun z hz => Uo.setImm (Uo.setImm hz), fun vs h => ?_, fun z h => notOwn_set (notOwn_set h), fun h z hz => ?_⟩⟩, tn, Nat.le_trans t2 t3, fun z o n1 n2 q => ?_⟩
        · rw [wipe_set (h j (by simp [MG.slots, MG.slotss])), wipe_set (h i (by simp [MG.slots, MG.slotss]))]
        · exact Uo.setImm' (notOwn_set (h j (by simp [MG.slots, MG.slotss]))) (Uo.setImm' (h i (by simp [MG.slots, MG.slotss])) hz)
        · have z1 : z ≠ b := fun e => by
            rcases hb with hb | hb
            · exact n1 (e.trans hb)
            · exact n2 _ _ hb e
          have z2 : z ≠ b' := fun e => by
            rcases hb' with hb' | hb'
            · exact n1 (e.trans hb')
            · exact n2 _ _ hb' e
          exact (sb'.2 z z2).trans ((sb.2 z z1).trans (kp z o q))
  | [], as, _ => simp [asgGs] at as
  | [_], as, _ => simp [asgGs, asgG] at as
  | _ :: _ :: _ :: _, as, _ => simp [asgGs, asgG] at as
end
end DL

set_option Elab.async false
set_option linter.all false
set_option maxRecDepth 100000
set_option maxHeartbeats 4000000
/-! DK6: texts taken out of texts: replace(letter, ""). -/
namespace DL
open PySem PySem.Spec PyProof.Rows L2
open PySem.W (maxD AlikeAll max_list_data dataLt_str)
variable [Tb]
/-- a def whose answer is told of, callable by its name -/
structure CalR (P : Program) (w : World) (K : PySem.W.Frag) (mg : Str → Option Value) (base : Heap) (cls : Nat → Addr) (k : Nat) (x : Str) (S : FS) (R : Value → Shared → Prop) : Prop where
  ex : ∃ (f : Addr) (fd : FuncData) (ps : List Str), FnR P w K mg base (L2N.CX P w) k f fd ps (spD cls S) R ∧ mg x = some (.ref f) ∧ PySem.W.keepIn K (.ref f) = true ∧ Binds K fd ps []
theorem CalR.cal {P : Program} {w : World} {K : PySem.W.Frag} {mg : Str → Option Value} {base : Heap} {cls : Nat → Addr} {k : Nat} {x : Str} {S : FS} {R : Value → Shared → Prop} (c : CalR P w K mg base cls k x S R) : Cal P w K mg base cls k x S :=
  let ⟨f, fd, ps, F, h1, h2, h3⟩ := c.ex
  ⟨f, fd, ps, F.ok, h1, h2, h3⟩
section
variable {X : Cx} {cls : Nat → Addr} {W : WX} {m m1 m2 : ME} {ms : List ME} {e a b : Expr} {es : List Expr} {pos p p2 : Pos} {x y : Str} {R : Value → Shared → Prop} {n : Nat}
theorem per_fn {S : FS} {k j : Nat} (c : CalR X.prog X.w X.K X.mg X.base cls k x S R) (tk : L2N.Takes X W) (hr : Room j X.A) (hk : k ≤ j)
    (ha : PA X (e :: es) (tDs cls W ms)) (hg : Gl X x := by rfl) (hdb : (x == ("__debug__" : Str)) = false := by decide) (he : starEach (e :: es) X.env = (false, eval e X.env) :: starEach es X.env := by rfl) (hpl : (backTo pos (starEach es X.env)).any (·.1) = false := by rfl) :
    PER n X (.Call (.Name x p) (e :: es) [] pos) (tD cls W true (.call S ms)) R := by
  obtain ⟨f, fd, ps, F, hm, kp, hb⟩ := c.ex
  have hr2 := hr.mono hk
  have hx : ∀ σ, PassesAt (L2N.CX X.prog X.w) X σ (fun c d H => W c d σ H) := fun σ => L2N.passAt tk σ
  refine PER.imp (t := tCallSD (spD cls S) [] (fun σ c d H => W c d σ H) (tDs cls W ms)) ⟨fun pins s σ H Q _ I h => ?_⟩ fun _ _ _ q => imp_call q
  refine wpAny_Call_Name_kw (ld_glob I hg hm ?_ hdb)
  refine PySem.W.callWith_K (h₀ := X.base) I.ok.mod.kin kp (thn (ha.run pos pins s σ H _ I h) fun us s1 ⟨vs, H1, I1, r, q⟩ => ⟨I1.kIn, ?_⟩) he hpl
  have q : spD cls S (vs ++ []) H1 Q (fun c d H => W c d σ H) := q
  rw [List.append_nil] at q
  have hl : us.length = ps.length := by rw [← r.length]; exact F.len _ _ _ _ q
  have hb1 := hb s1 us I1.kIn (by rw [List.append_nil]; exact hl)
  rw [List.append_nil] at hb1
  refine wpAny_call (codeAny_mono (F.run X.A X.stack s1 H1 ⟨us, []⟩ us vs Q (fun c d H => W c d σ H) hr2 I1.env0 hb1 r q) fun r s' ⟨hq, hR⟩ => ?_)
  cases r with
  | error e => exact hx σ pins H1 s1 e s' I1 hq
  | ok fl =>
    cases fl with
    | ret u => exact ⟨I1.after hq, hR u rfl⟩
    | next => exact False.elim hq
    | brk => exact False.elim hq
    | cont => exact False.elim hq
theorem PER.pe (h : PER 0 X e (tD cls W true m) R) : PE X e (tD cls W true m) := ⟨fun pins s σ H Q I q => thn (h.run pins s σ H Q (Nat.zero_le _) I q) fun _ _ z => z.1⟩
/-! ### max of a list of texts -/
theorem maxD_strs (x : List Nat) : ∀ xs : List (List Nat), maxD (.str (mkS x)) ((xs.map mkS).map .str) = .str (mkS (xs.foldl maxL2 x)) := by
  intro xs
  unfold maxD
  induction xs generalizing x with
  | nil => rfl
  | cons y r ih =>
    rw [List.map_cons, List.map_cons, List.foldl_cons, List.foldl_cons, dataLt_str]
    have e : maxL2 x y = if ltL x y then y else x := rfl
    rw [e]
    have : (decide ((mkS x).cps.toList < (mkS y).cps.toList)) = ltL x y := rfl
    by_cases h : ltL x y = true
    · rw [if_pos (by simpa [ltL] using h), if_pos h]
      exact ih y
    · rw [if_neg (by simpa [ltL] using h), if_neg h]
      exact ih x
theorem reads_strs {h : Heap} : ∀ {xs : List (List Nat)} {its : List Value}, Vals ((xs.map mkS).map V.str) its → ReadsAll h its ((xs.map mkS).map .str) []
  | [], _, .nil => .nil
  | x :: xs, _, .cons ⟨t, e⟩ r => by subst e; exact .cons (as := []) (.str _ t) (reads_strs r)
theorem alike_strs (xs : List (List Nat)) : AlikeAll ((xs.map mkS).map .str) := by
  refine ⟨fun a ha b hb => ?_, fun a ha => ?_⟩
  · obtain ⟨a', _, rfl⟩ := List.mem_map.mp ha
    obtain ⟨b', _, rfl⟩ := List.mem_map.mp hb
    rfl
  · obtain ⟨a', _, rfl⟩ := List.mem_map.mp ha
    simp
theorem depth_strs : ∀ xs : List (List Nat), PyData.depthAll ((xs.map mkS).map .str) = 0
  | [] => rfl
  | x :: xs => by
    show max (PyData.depth (.str (mkS x))) (PyData.depthAll ((xs.map mkS).map .str)) = 0
    rw [depth_strs xs]; rfl
theorem strs_ints {xs : List D} {ss : List (List Nat)} {ns : List Int} (h : strsD xs = some ss) (g : intsD xs = some ns) : xs = [] := by
  cases xs with
  | nil => rfl
  | cons x r => cases x <;> first
      | (simp [strsD] at h; done)
      | (simp [intsD] at g; done)
/-- max of such a list, the item itself -/
theorem max_raw_strs {A : Around} {E : Value → Shared → Prop} {s : Shared} {l : Addr} {its : List Value} {x : List Nat} {xs : List (List Nat)} {Q : Value → Shared → Prop} {P : Program} {w : World} (hh : A.handled = none) (hu : A.units + 64 < cLine) (hl : s.heap.IsList l its.toArray) (r : Vals (((x :: xs).map mkS).map V.str) its)
    (h : ∀ u g tk, u ∈ its → L2.RelV (.str (mkS (xs.foldl maxL2 x))) u → (∀ b o, s.heap.get? b = some o → g.get? b = some o) → Q u { s with heap := g, toks := tk }) : wpAny (model P w) A (call (.builtin "max") [.ref l]) Q E s := by
  refine max_list_data (x := .str (mkS x)) (xs := (xs.map mkS).map .str) (as := []) hh hl (by have := reads_strs (h := s.heap) r; simpa using this) (by have := alike_strs (x :: xs); simpa using this) (by
    have := depth_strs (x :: xs)
    have e : PyData.depthAll (PyData.str (mkS x) :: (xs.map mkS).map .str) = 0 := by simpa using this
    rw [e]; omega) fun i v g tk bs hv rd hk => ?_
  rw [maxD_strs] at rd
  refine h v g tk ?_ ?_ hk
  · have : its[i]? = some v := by simpa using hv
    exact List.mem_of_getElem? this
  · cases rd; exact ⟨_, rfl⟩
/-- max(a list whose tokens are known) -/
theorem per_max (hc : X.calm = true) (hu : X.A.units + 64 < cLine) (hm : X.mg "max" = none) (ha : PER n X e (tD cls W false m) RL) (hg : Gl X "max" := by rfl) (he : starEach [e] X.env = (false, eval e X.env) :: starEach [] X.env := by rfl) (hpl : (backTo pos (starEach [] X.env)).any (·.1) = false := by rfl) :
    PER n X (.Call (.Name "max" p) [e] [] pos) (tD cls W true (.b1 .max m)) RS := by
  refine ⟨fun pins s σ H Q h1 I ⟨G, U0, He, ρ, Qd, Xd, r, w, k, x⟩ => ?_⟩
  simp only [wE] at w
  refine wpAny_Call_Name_kw (ld_blt I hg hm PyProof.Rows.boot_max ?_)
  refine PyProof.Rows.callWith_builtin1 (by
    rw [he]
    show wpAny _ _ (spliced ((false, eval e X.env) :: backTo pos (starEach [] X.env))) _ _ s
    refine Calls.spliced_cons (thn (ha.run pins s σ H _ h1 I (tD_in r w (fun d v H' e r' p f q => (⟨d, e, r', p, q⟩ : ∃ d, Ext G H H' ∧ RE G U0 He H' σ ρ ∧ Res false G (Uo U0 ρ σ) H' d v ∧ onS (b1D .max d) Qd)) x)) fun u s1 ⟨⟨v, H1, I1, r1, d, e1, r1', p1, q1⟩, hR⟩ => Calls.spliced_nil ?_)
    obtain ⟨a, rfl, its, kz, ho, htk⟩ := hR
    obtain ⟨dz, ez, q1⟩ := onS_some q1
    cases d <;> simp only [b1D] at ez <;> first
      | cases ez
      | skip
    · obtain ⟨tt, et⟩ := (show v = V.str _ from p1.1) ▸ r1
      cases et
    · rename_i ds
      obtain ⟨⟨c, xs, ev, rd, lx⟩, _⟩ := p1
      subst ev
      cases r1
      obtain ⟨_, its', k', rv, ho'⟩ := I1.hok a _ rd
      rw [ho] at ho'
      have ei : its = its' := by injection ho' with h'; injection h' with _ _ h' _; injection h' with h'; simpa using h'
      subst ei
      cases hsd : strsD ds with
      | none =>
        exfalso
        rw [hsd] at ez
        cases hid : intsD ds with
        | none => rw [hid] at ez; cases ez
        | some ns =>
          rw [lx.ints hid] at rv
          rw [hid] at ez
          cases ns with
          | nil => cases ez
          | cons z zs =>
            cases rv with
            | cons r0 _ =>
              obtain ⟨t0, rfl⟩ := r0
              obtain ⟨c0, t1, e0, _⟩ := htk _ List.mem_cons_self
              cases e0
      | some ss =>
        rw [lx.strs hsd] at rv
        cases hid : intsD ds with
        | some ns =>
          have := strs_ints hsd hid
          subst this
          cases hid
          rw [show intsD [] = some [] from rfl] at ez
          cases ez
        | none =>
          rw [hid] at ez
          simp only [hsd, Option.bind_some] at ez
          cases ss with
          | nil => cases ez
          | cons x xs =>
            cases (show some (D.str (xs.foldl maxL2 x)) = some dz from ez)
            refine PySem.wpAny_with_toks (Nat.le_refl s1.toks) (max_raw_strs (I1.ok.hd hc) hu ⟨_, ho, rfl, _, rfl⟩ rv fun u g tk hm rr hk => fun ht => ⟨⟨_, H1, I1.kept (t' := tk) hk, rr, k (.str (xs.foldl maxL2 x)) _ H1 e1 rfl (Fre.no rfl) q1⟩, (htk u hm).mono ht⟩)) he hpl
end
end DL

set_option Elab.async false
set_option linter.all false
set_option maxRecDepth 100000
set_option maxHeartbeats 4000000
/-! DK7: values whose token is known; text.replace(letter, ""); blocks. -/
namespace DL
open PySem PySem.Spec PyProof.Rows L2
variable [Tb]
section
variable {X : Cx} {cls : Nat → Addr} {W : WX} {m m1 m2 : ME} {mi : List ME} {ms : List ME} {e a b : Expr} {es : List Expr} {pos p p2 : Pos} {x y : Str} {R : Value → Shared → Prop} {n : Nat}
/-- text[i] -/
theorem per_ixs (ha : PE X a (tD cls W false m1)) (hb : PE X b (tD cls W false m2)) (hs : PlainIx b := by intro _ _; rfl) : PER 1 X (.Subscript a b pos) (tD cls W true (.subS m1 m2)) RS := by
  refine ⟨fun pins s σ H Q h1 I ⟨G, U0, He, ρ, Qd, Xd, r, w, k, xx⟩ => ?_⟩
  simp only [wE] at w
  refine Subscript_ ?_
  refine wpAny_mono (PySem.wpAny_toks (ha.run pins s σ H _ I (tD_in r w (fun d v H' e r' p f q => (⟨d, e, r', p, q⟩ : ∃ d, Ext G H H' ∧ RE G U0 He H' σ ρ ∧ Res false G (Uo U0 ρ σ) H' d v ∧ wE m2 ρ (fun y => onS (subS d y) Qd) Xd)) xx))) (fun v s1 ⟨t1, y1, H1, I1, r1, d, e1, r1', p1, w1⟩ => ?_) fun _ _ z => z.2
  refine wpAny_mono (PySem.wpAny_toks (hb.run pins s1 σ H1 _ I1 (tD_in r1' w1 (fun d2 v H' e r' p f q => (⟨d2, e, r', p.p, q⟩ : ∃ d2, Ext G H1 H' ∧ RE G U0 He H' σ ρ ∧ RpP G (Uo U0 ρ σ) H' d2 v ∧ onS (subS d d2) Qd)) fun j H2 e2 q => xx j H2 (e1.trans e2) q))) (fun u s2 ⟨t2, y2, H2, I2, r2, d2, e2, r2', p2, w2⟩ => ?_) fun _ _ z => z.2
  obtain ⟨dz, ez, q⟩ := onS_some w2
  cases d <;> cases d2 <;> simp only [subS] at ez <;> first
    | cases ez
    | skip
  rename_i z zp i
  simp only [subD] at ez
  split at ez
  · rename_i hl
    rw [Option.map_eq_some_iff] at ez
    obtain ⟨c, ec, rfl⟩ := ez
    cases (show y1 = V.str (mkS z) from p1.1)
    cases (show y2 = V.int i from p2)
    obtain ⟨t, rfl⟩ := r1
    obtain ⟨t', rfl⟩ := r2
    obtain ⟨j, g1, g2, g3, g4, g5⟩ := atI_get ec
    have n63 := line63
    have hz : sizeLine = 16777216 := sizeLine_eq
    exact tail_any (typeIs_str s2 (mkS z) t) slot_str_getitem.lookup (getItem_str (c := c) (by
      have q1 : decide (i < -(2 ^ 63 : Int)) = false := decide_eq_false (by omega)
      have q2 : decide (i ≥ 2 ^ 63) = false := decide_eq_false (by omega)
      rw [q1, q2, Bool.or_false]) (by rw [mkS_len, g1]; simpa using g2) ⟨⟨.str ⟨#[c]⟩, H2, I2.tok _, ⟨_, rfl⟩, k (.str [c]) _ H2 (e1.trans e2) rfl (Fre.no rfl) q⟩, ⟨⟨#[c]⟩, s2.toks, rfl, Nat.ne_of_gt (Nat.lt_of_lt_of_le (Nat.le_trans h1 t1) t2), Nat.lt_succ_self _⟩⟩) (hs _ _)
  · cases ez
/-- a list of known tokens, at -1 -/
theorem per_last {q0 q1 : Pos} {j0 : Nat} (ha : PER n X a (tD cls W false m) RL) (hs : PlainIx (.UnaryOp .USub (.Constant (.int 1) j0 q0) q1) := by intro _ _; rfl) :
    PER n X (.Subscript a (.UnaryOp .USub (.Constant (.int 1) j0 q0) q1) pos) (tD cls W true (.sub m (.neg (.con (.int 1))))) RS := by
  refine ⟨fun pins s σ H Q h1 I ⟨G, U0, He, ρ, Qd, Xd, r, w, k, xx⟩ => ?_⟩
  simp only [wE] at w
  refine Subscript_ ?_
  refine thn (ha.run pins s σ H _ h1 I (tD_in r w (fun d v H' e r' p f q => (⟨d, e, r', p, q⟩ : ∃ d, Ext G H H' ∧ RE G U0 He H' σ ρ ∧ Res false G (Uo U0 ρ σ) H' d v ∧ onS (subD d (.int (-1))) Qd)) xx)) fun v s1 ⟨⟨y1, H1, I1, r1, d, e1, r1', p1, w1⟩, hR⟩ => ?_
  obtain ⟨a0, rfl, its, kz, ho, htk⟩ := hR
  refine UnaryOp_ (wpAny_Constant_int ?_)
  refine neg_int ?_
  obtain ⟨dz, ez, q⟩ := onS_some w1
  cases d <;> simp only [subD] at ez <;> first
    | cases ez
    | skip
  · obtain ⟨t, et⟩ := (show y1 = V.str _ from p1.1) ▸ r1
    cases et
  · obtain ⟨c, xs, ev, rd, _⟩ := p1.1
    subst ev
    cases r1
    obtain ⟨its2, _, ⟨o, ho2, hc2, _⟩, _⟩ := I1.tuple (.inl rd)
    rw [ho] at ho2; cases ho2; exact Value.noConfusion hc2 fun q => absurd q (by decide)
  · rename_i ds
    obtain ⟨⟨c, xs, ev, rd, lx⟩, _⟩ := p1
    subst ev
    cases r1
    obtain ⟨_, its', k', rv, ho'⟩ := I1.hok a0 _ rd
    rw [ho] at ho'
    have ei : its = its' := by injection ho' with h'; injection h' with _ _ h' _; injection h' with h'; simpa using h'
    subst ei
    obtain ⟨z, he, rz⟩ := atI_rp lx ez
    obtain ⟨j, g1, g2, g3, g4, g5⟩ := atI_get he
    obtain ⟨w', ew, rw'⟩ := rv.get g2
    have hl := rv.length
    have hm : w' ∈ its := List.mem_of_getElem? ew
    have hsz : 0 < its.length := List.length_pos_of_mem hm
    have hj : (-1 + (its.toArray.size : Int)).toNat = j := by
      rw [seqIndex_neg (by omega) g4] at g1
      rw [List.size_toArray, ← hl]
      exact Option.some.inj g1
    have n63 := line63
    have fin : ∀ tk, s1.toks ≤ tk → EP X pins σ Q w' { s1 with toks := tk } ∧ RS w' { s1 with toks := tk } := fun tk ht => ⟨⟨z, H1, I1.tok _, rw', k dz z H1 e1 rz (Fre.no rfl) q⟩, (htk _ hm).mono ht⟩
    exact subscriptTail_builtinR (x := w') (show Shared.TypeIs { s1 with toks := _ } (.ref a0) "list" from ⟨_, ho, rfl⟩) slot_list_getitem.lookup
      (wpAny_getItem_list_neg (Q := fun r s' => r = w' ∧ (EP X pins σ Q r s' ∧ RS r s')) ⟨_, ho, rfl, _, rfl⟩ (by decide) (by rw [List.size_toArray]; omega) (by omega) (by rw [hj]; simpa using ew) ⟨rfl, fin _ (by show s1.toks ≤ s1.toks + 1 + 1; omega)⟩) (hs _ _)
end
end DL

set_option Elab.async false
set_option linter.all false
set_option maxRecDepth 100000
set_option maxHeartbeats 4000000
/-! DK8: replace(letter, ""), and the statements about it. -/
namespace DL
open PySem PySem.Spec PyProof.Rows L2
variable [Tb]
theorem repl_filter (c : Nat) : ∀ s : List Nat, PySem.StrLaws.replL [c] [] s = s.filter fun x => x != c
  | [] => PySem.StrLaws.replL_nil
  | a :: s => by
    by_cases h : a = c
    · subst h
      rw [PySem.StrLaws.replL_hit (by simp) (by simp)]
      show [] ++ PySem.StrLaws.replL [a] [] s = _
      rw [repl_filter a s]
      simp
    · rw [PySem.StrLaws.replL_miss (by simp [h]), repl_filter c s, List.filter_cons, if_pos (by simpa using h)]
theorem replace_mk (s : List Nat) (c : Nat) : Txt.replace (mkS s) (mkS [c]) (mkS []) = mkS (s.filter fun x => x != c) := by
  have h := PySem.StrLaws.replace_list (x := mkS s) (y := mkS [c]) (z := mkS []) (by rw [mkS_len]; exact Nat.le_refl _)
  have h : (Txt.replace (mkS s) (mkS [c]) (mkS [])).cps.toList = PySem.StrLaws.replL [c] [] s := by simpa [mkS] using h
  rw [repl_filter] at h
  rw [← mkS_of (Txt.replace (mkS s) (mkS [c]) (mkS [])), h]
theorem b2_repl {x y dz : D} (h : b2D .repl0 x y = some dz) : ∃ (s : List Nat) (c : Nat), x = .str s ∧ y = .str [c] ∧ s.length ≤ 1000 ∧ dz = .str (s.filter fun x => x != c) := by
  unfold b2D at h
  split at h <;> first
    | contradiction
    | skip
  all_goals first
    | contradiction
    | skip
  rename_i s c _
  have h : (if s.length ≤ 1000 then some (D.str (s.filter fun x => x != c)) else none) = some dz := h
  split at h
  · rename_i hl
    cases h
    exact ⟨s, c, rfl, rfl, hl, rfl⟩
  · cases h
section
variable {X : Cx} {cls : Nat → Addr} {W : WX} {m m1 m2 : ME} {mi : List ME} {ms : List ME} {e a b : Expr} {es : List Expr} {pos p p2 : Pos} {x y : Str} {R : Value → Shared → Prop} {n : Nat}
/-- an expression where the name y holds a text of known token -/
structure PEy (X : Cx) (y : Str) (e : Expr) (t : TE) : Prop where
  run : ∀ (pins : List (Addr × Obj)) (s : Shared) (σ : L2.St) (H : Hp) (Q : VK), TokN X y s → Inv X pins σ H s → t σ H Q → wpAny (model X.prog X.w) X.A (eval e X.env) (EP X pins σ Q) X.xe s
structure PSy (X : Cx) (y : Str) (st : Stmt) (t : TS) : Prop where
  run : ∀ (pins : List (Addr × Obj)) (s : Shared) (σ : L2.St) (H : Hp) (D : Ends), TokN X y s → Inv X pins σ H s → t D σ H → wpAny (model X.prog X.w) X.A (exec st X.env) (SP X pins D) X.xe s
structure PSsy (X : Cx) (y : Str) (st : List Stmt) (t : TS) : Prop where
  run : ∀ (pins : List (Addr × Obj)) (s : Shared) (σ : L2.St) (H : Hp) (D : Ends), TokN X y s → Inv X pins σ H s → t D σ H → wpAny (model X.prog X.w) X.A (execs st X.env) (SP X pins D) X.xe s
/-- .. and y holds it still behind it -/
structure PSky (X : Cx) (y : Str) (st : Stmt) (t : TS) : Prop where
  run : ∀ (pins : List (Addr × Obj)) (s : Shared) (σ : L2.St) (H : Hp) (D : Ends), TokN X y s → Inv X pins σ H s → t D σ H → wpAny (model X.prog X.w) X.A (exec st X.env) (fun f s1 => SP X pins D f s1 ∧ (f = .next → TokN X y s1)) X.xe s
/-- blocks where n tokens are out -/
structure PSn (n : Nat) (X : Cx) (st : List Stmt) (t : TS) : Prop where
  run : ∀ (pins : List (Addr × Obj)) (s : Shared) (σ : L2.St) (H : Hp) (D : Ends), n ≤ s.toks → Inv X pins σ H s → t D σ H → wpAny (model X.prog X.w) X.A (execs st X.env) (SP X pins D) X.xe s
structure PSn1 (n : Nat) (X : Cx) (st : Stmt) (t : TS) : Prop where
  run : ∀ (pins : List (Addr × Obj)) (s : Shared) (σ : L2.St) (H : Hp) (D : Ends), n ≤ s.toks → Inv X pins σ H s → t D σ H → wpAny (model X.prog X.w) X.A (exec st X.env) (SP X pins D) X.xe s
theorem PEy.imp {t t' : TE} (h : PEy X y e t) (i : ∀ σ H Q, t' σ H Q → t σ H Q) : PEy X y e t' := ⟨fun pins s σ H Q k I q => h.run pins s σ H Q k I (i _ _ _ q)⟩
theorem PSy.imp {st : Stmt} {t t' : TS} (h : PSy X y st t) (i : ∀ D σ H, t' D σ H → t D σ H) : PSy X y st t' := ⟨fun pins s σ H D k I q => h.run pins s σ H D k I (i _ _ _ q)⟩
theorem PSsy.imp {st : List Stmt} {t t' : TS} (h : PSsy X y st t) (i : ∀ D σ H, t' D σ H → t D σ H) : PSsy X y st t' := ⟨fun pins s σ H D k I q => h.run pins s σ H D k I (i _ _ _ q)⟩
theorem PSn.imp {st : List Stmt} {t t' : TS} (h : PSn n X st t) (i : ∀ D σ H, t' D σ H → t D σ H) : PSn n X st t' := ⟨fun pins s σ H D k I q => h.run pins s σ H D k I (i _ _ _ q)⟩
theorem PSn.pss {st : List Stmt} {t : TS} (h : PSn 0 X st t) : PSs X st t := ⟨fun pins s σ H D I q => h.run pins s σ H D (Nat.zero_le _) I q⟩
theorem PSs.toN {st : List Stmt} {t : TS} (h : PSs X st t) : PSn n X st t := ⟨fun pins s σ H D _ I q => h.run pins s σ H D I q⟩
theorem PS.toN {st : Stmt} {t : TS} (h : PS X st t) : PSn1 n X st t := ⟨fun pins s σ H D _ I q => h.run pins s σ H D I q⟩
theorem imp_repl {j k : Nat} {σ : L2.St} {H : Hp} {Q : VK} (q : tD cls W true (.b2 .repl0 (.peek j) (.peek k)) σ H Q) : tVar j σ H fun x H1 => tVar k σ H1 fun z H2 => ∃ (s : List Nat) (c : Nat), x = .str (mkS s) ∧ z = .str (mkS [c]) ∧ s.length ≤ 1000 ∧ Q (.str (mkS (s.filter fun x => x != c))) H2 := by
  obtain ⟨G, U0, He, ρ, Qd, Xd, r, w, kq, xx⟩ := q
  rw [wE] at w
  refine imp_peek (cls := cls) (W := W) (tD_in r w (fun d1 v1 H1 e1 r1 p1 _ ⟨_, w1⟩ => imp_peek (cls := cls) (W := W) (tD_in r1 w1 (fun d2 v2 H2 e2 r2 p2 _ w2 => ?_) fun j H2 e2 q => xx j H2 (e1.trans e2) q)) xx)
  obtain ⟨dz, ez, q⟩ := onS_some w2
  obtain ⟨s, c, rfl, rfl, hl, rfl⟩ := b2_repl ez
  exact ⟨s, c, p1.p, p2.p, hl, kq (.str (s.filter fun x => x != c)) _ H2 (e1.trans e2) rfl (Fre.no rfl) q⟩
theorem te_repl {so : Str} {j k j0 : Nat} {p1 p2 c0 apos pos : Pos} (hNj : X.N[j]? = some so) (hvj : Vis X.env.scope so) (hNk : X.N[k]? = some y) (hvk : Vis X.env.scope y) (hdj : (so == ("__debug__" : Str)) = false) (hcj : (so == ("__classdict__" : Str)) = false) (hdk : (y == ("__debug__" : Str)) = false) (hck : (y == ("__classdict__" : Str)) = false)
    (hst : starEach [.Name y p2, .Constant (.str "") j0 c0] X.env = [(false, eval (.Name y p2) X.env), (false, eval (.Constant (.str "") j0 c0) X.env)] := by rfl)
    (hbase : attributeBase (.Name so p1) "replace" X.env (eval (.Name so p1) X.env) = eval (.Name so p1) X.env := by rfl) (hline : (apos.endLine == pos.line) = true := by rfl) :
    PEy X y (.Call (.Attribute (.Name so p1) "replace" apos) [.Name y p2, .Constant (.str "") j0 c0] [] pos) (tD cls W true (.b2 .repl0 (.peek j) (.peek k))) := by
  refine ⟨fun pins s σ H Q tk I q => ?_⟩
  obtain ⟨v1, h1, q⟩ := imp_repl q
  refine PySem.Call_method2 hbase hst hline (raw_name hNj hvj I h1 (fun v r => ?_) hdj hcj)
  obtain ⟨v2, h2, sx, c, e1, e2, hl, q⟩ := q
  subst e1 e2
  obtain ⟨tx, rfl⟩ := r
  refine ⟨"str", _, F.plainAttrs_str, F.slot_str_replace, F.type_str_replace, typeIs_str _ _ _, (fun _ e => nomatch e), Calls.callWith_builtin rfl (Calls.evalArgs_plain (Calls.spliced_cons ?_))⟩
  refine name_R I hNk hvk tk (Q := fun v H1 => v = .str (mkS [c]) ∧ H1 = H) ⟨_, h2, rfl, rfl⟩ hdk hck fun u ⟨v, ru, ev, _⟩ tu => ?_
  subst ev
  obtain ⟨tc, rfl⟩ := ru
  obtain ⟨c', t', eu, t0, tlt⟩ := tu
  cases eu
  refine Calls.spliced_cons (Calls.Constant_str (Calls.spliced_nil ?_))
  refine PySem.SC.replace (s := { s with toks := s.toks + 1 }) t0 (Nat.ne_of_gt (Nat.lt_of_le_of_lt (Nat.zero_le _) tlt)) (Nat.ne_of_lt tlt) (beq_eq_false_iff_ne.mpr fun z => by have := mkS_inj (s := [c]) (t := []) z; cases this) ?_ fun t' k' => ?_
  · show (mkS sx).length + ((mkS sx).length + 1) * 0 ≤ 16777216
    rw [mkS_len]; omega
  · refine ⟨.str (mkS (sx.filter fun x => x != c)), H, I.tok k', ⟨t', ?_⟩, q⟩
    show Value.str (Txt.replace (mkS sx) (mkS [c]) (mkS [])) t' = _
    rw [replace_mk]
end
end DL

set_option Elab.async false
set_option linter.all false
set_option maxRecDepth 100000
set_option maxHeartbeats 400000
/-! DK9: a def's blocks, the tokens of its answer told; a letter taken out. -/
namespace DL
open PySem PySem.Spec PyProof.Rows L2
variable [Tb]
section
variable {X : Cx} {cls : Nat → Addr} {W : WX} {m m1 m2 me : ME} {mi : List ME} {g : MG} {e a b : Expr} {es : List Expr} {pos p p2 : Pos} {x y : Str} {R : Value → Shared → Prop} {n : Nat} {fr : List Nat} {st : Stmt} {sts : List Stmt} {s s1 s2 : MS} {ss : List MS}
  {tg iter : Expr} {ifs : List Expr} {scope : Scope} {own : List (Str × Nat)} {Rn : Value → Shared → Prop}
/-- [y for .. in iter if ..], its texts' tokens told -/
theorem te_lcR {j : Nat} (hc : X.calm = true) (hN : X.N.Nodup) (hi : PIR X tg iter (iDp cls W m) Rn) (ok : BlkOk X.N X.env.scope scope own) (hv : own.map (·.2) = g.slots)
    (hg : ∀ (s : Shared) (H : Hp) (C : Addr) (cl : List (Str × Addr)) (fp : List Addr), PGR (X.blk s H scope (compEnvC scope cl C X.env) fp) tg (gD g) Rn y)
    (ht : ∀ (s : Shared) (H : Hp) (C : Addr) (cl : List (Str × Addr)) (fp : List Addr), PTsK (X.blk s H scope (compEnvC scope cl C X.env) fp) ifs (tTs cls noW mi))
    (hy : X.N[j]? = some y) (hvy : ∀ (cl : List (Str × Addr)) (C : Addr), Vis (compEnvC scope cl C X.env).scope y) (hd : (y == ("__debug__" : Str)) = false := by decide) (hcd : (y == ("__classdict__" : Str)) = false := by decide) (hs : ∀ x, foldedSetIterable iter X.env x = pure x := by intro _; rfl) :
    PER 1 X (.ListComp (.Name y p2) [⟨tg, iter, ifs, 0⟩] scope pos) (tD cls W true (.lc g m mi (.var j))) RL :=
  ⟨fun pins s σ H Q h1 I q => lc_R (te := tD cls noW true (.var j)) hc hN h1 I hi ok hg ht hy hvy hd hcd hs (fun _ _ _ z => imp_var z) (imp_lc hv q)⟩
theorem ttsk_one {c : Expr} (h : PTK X HK c (tT cls W m)) (hw : W = noW) : PTsK X [c] (tTs cls noW [m]) := by
  subst hw
  refine ⟨fun pins s σ H Q I ⟨G, U0, He, ρ, Qd, r, w, k⟩ => (ptsk_one h).run pins s σ H Q I (tT_in (Xd := fun _ => False) r (by simpa only [wIfs] using w) (fun b H1 e1 r1 q => k b H1 e1 q) fun _ _ _ z => z.elim)⟩
/-- name = e; .. -/
theorem imp_tss {E : Ends} {σ : L2.St} {H : Hp} (z : tSs cls W (s :: ss) E σ H) : tS cls W s { E with nx := tSs cls W ss E } σ H := by
  obtain ⟨G, U0, He, ρ, N, R, Xd, r, w, k⟩ := z
  simp only [wSs] at w
  exact ⟨G, U0, He, ρ, _, R, Xd, r, w, ⟨fun ρ' σ' H' r' w' => ⟨G, U0, He, ρ', N, R, Xd, r', w', k⟩, k.rt, k.xc⟩⟩
theorem psr_setD {i : Nat} {pos' : Pos} (hN : X.N.Nodup) (hi : X.N[i]? = some x) (hx : Loc X.env.scope x) (he : PE X e (tD cls W true m)) (h2 : PSR X sts (tSs cls W ss) R) (hs : swapsWith e (some (.Name x pos')) pos.line X.env = pure false := by rfl) (hf : X.fn x = true ∨ X.env.scope.names.lookup x = some .local := by first | exact .inl rfl | exact .inr rfl) :
    PSR X (.Assign [.Name x pos'] e pos :: sts) (tSs cls W (.asg (.nm i) fr m :: ss)) R :=
  (psr_cons (ps_set hN hi hx he hs hf) h2).imp fun E σ H z => imp_set (imp_tss z)
theorem psr_retD (h : PER n X e (tD cls W true m) R) (hn : n ≤ 1 := by decide) : PSR X [.Return (some e) pos] (tSs cls W [.ret fr m]) R :=
  (psr_ret h hn).imp fun E σ H ⟨G, U0, He, ρ, N, R, Xd, r, w, k⟩ => by
    simp only [wSs, wS] at w
    exact tD_in (r.frz fr) w (fun d1 v1 H1 e1 r1 p1 _ w1 => k.rt _ _ _ _ _ r1 p1 w1) (k.xe (r.frz fr))
/-- y = e, e's token known; then a statement that leans on it -/
theorem tss_setY {i : Nat} {pos' : Pos} (hN : X.N.Nodup) (hi : X.N[i]? = some y) (hx : Loc X.env.scope y) (he : PER 0 X e (tD cls W true m) RS) (h2 : PSy X y st (tS cls W s)) (h3 : PSs X sts (tSs cls W ss)) (hs : swapsWith e (some (.Name y pos')) pos.line X.env = pure false := by rfl) (hf : X.fn y = true ∨ X.env.scope.names.lookup y = some .local := by first | exact .inl rfl | exact .inr rfl) :
    PSs X (.Assign [.Name y pos'] e pos :: st :: sts) (tSs cls W (.asg (.nm i) fr m :: s :: ss)) := by
  refine ⟨fun pins s0 σ H D I z => ?_⟩
  have q := imp_set (imp_tss z)
  refine wpAny_execs_cons (wpAny_Assign_Name (thn (he.run pins s0 σ H _ (Nat.zero_le _) I q) fun v s1 ⟨⟨w, H1, I1, r1, q1⟩, hR⟩ => ?_) hs)
  refine store_R I1 hN hi hx r1 hR (fun s2 I2 tk _ _ => ?_) hf
  refine wpAny_execs_cons (thn (h2.run pins s2 _ H1 { D with nx := tSs cls W ss D } tk I2 (imp_tss q1)) fun f s3 q3 => ?_)
  cases f with
  | next =>
    obtain ⟨σ', H', I', q'⟩ := q3
    exact h3.run pins s3 σ' H' D I' q'
  | ret v => exact q3
  | brk => exact q3
  | cont => exact q3
end
end DL

set_option Elab.async false
set_option linter.all false
set_option maxRecDepth 100000
set_option maxHeartbeats 400000
namespace DL
open PySem PySem.Spec PyProof.Rows L2
variable [Tb]
section
variable {X : Cx} {cls : Nat → Addr} {W : WX} {m m1 m2 me : ME} {mi : List ME} {g : MG} {e a b : Expr} {es : List Expr} {pos p p2 : Pos} {x y : Str} {R : Value → Shared → Prop} {n : Nat} {fr : List Nat} {st : Stmt} {sts : List Stmt} {s s1 s2 : MS} {ss : List MS}
  {tg iter : Expr} {ifs : List Expr} {scope : Scope} {own : List (Str × Nat)} {Rn : Value → Shared → Prop}
/-! ### x, z = a, b -/
structure PAy (X : Cx) (y : Str) (es : List Expr) (t : TA) : Prop where
  run : ∀ (pos : Pos) (pins : List (Addr × Obj)) (s : Shared) (σ : L2.St) (H : Hp) (Q : List V → Hp → Prop), TokN X y s → Inv X pins σ H s → t σ H Q → wpAny (model X.prog X.w) X.A (spliced (backTo pos (starEach es X.env))) (AP X pins σ Q) X.xe s
theorem pay_pair {ta tb : TE} (ha : PEK X (FK X) a ta) (hb : PEy X y b tb) (n1 : starEach [a, b] X.env = (false, eval a X.env) :: starEach [b] X.env := by rfl) (n2 : starEach [b] X.env = (false, eval b X.env) :: starEach [] X.env := by rfl) : PAy X y [a, b] (tCons ta (tCons tb tNil)) := by
  refine ⟨fun pos pins s σ H Q tk I h => ?_⟩
  rw [n1, n2]
  show wpAny _ _ (spliced ((false, eval a X.env) :: (false, eval b X.env) :: backTo pos (starEach [] X.env))) _ _ s
  refine Calls.spliced_cons (wpAny_mono (PySem.wpAny_toks (ha.run pins s σ H _ I h)) (fun u s1 ⟨t1, k1, v1, H1, I1, r1, q1⟩ => ?_) fun _ _ z => z.2)
  refine Calls.spliced_cons (thn (hb.run pins s1 σ H1 _ (tk.fk k1 t1) I1 q1) fun u2 s2 ⟨v2, H2, I2, r2, q2⟩ => Calls.spliced_nil ?_)
  exact ⟨[v1, v2], H2, I2, .cons r1 (.cons r2 .nil), q2⟩
theorem psy_par {i j : Nat} {x1 x2 : Str} {ta : TA} {q1 q2 q3 : Pos} {kt kv : Nat} {q4 : Pos} (hc : X.calm = true) (hN : X.N.Nodup) (hi : X.N[i]? = some x1) (hj : X.N[j]? = some x2) (hij : i ≠ j) (hx : X.env.scope.names.lookup x1 = some .local) (hy : X.env.scope.names.lookup x2 = some .local) (ha : PAy X y [a, b] ta)
    (hw : swappedStores [.Tuple [.Name x1 q1, .Name x2 q2] kt q3] (.Tuple [a, b] kv q4) X.env = pure (some [x1, x2])) (hs : swapsWithSole [.Tuple [.Name x1 q1, .Name x2 q2] kt q3] (.Tuple [a, b] kv q4) pos.line X.env = pure false := by rfl) :
    PSy X y (.Assign [.Tuple [.Name x1 q1, .Name x2 q2] kt q3] (.Tuple [a, b] kv q4) pos) (tPar i j ta) := by
  refine ⟨fun pins s σ H D tk I h => ?_⟩
  rw [exec_Assign_arm]
  refine wpAny_bind (wpAny_standAt ?_)
  rw [hs]
  refine wpAny_bind (wpAny_pure ?_)
  rw [if_neg (by decide)]
  refine wpAny_bind (Tuple_ (thn (ha.run _ pins s σ H _ tk I h) fun us s1 ⟨vs, H1, I1, r1, z⟩ => ?_))
  obtain ⟨v, w, ev, z⟩ := z
  subst ev
  obtain ⟨u1, u2, rfl, rv, rw'⟩ : ∃ u1 u2, us = [u1, u2] ∧ L2.RelV v u1 ∧ L2.RelV w u2 := by
    cases r1 with
    | cons p q =>
      cases q with
      | cons p' q' => cases q'; exact ⟨_, _, rfl, p, p'⟩
  refine wpAny_newObj_type ?_ (by show 2 ≤ sizeLine; decide)
  have I2 : Inv X pins σ H1 { s1 with heap := s1.heap.push { cls := .type "tuple", data := .seq [u1, u2].toArray } } := I1.kept (t' := s1.toks) fun b o e => Heap.get?_push_of_some _ e
  rw [hw]
  refine wpAny_bind (wpAny_pure ?_)
  show wpAny _ X.A (do rule "assign.swapped-stores"; let items ← unpackItems (.ref s1.heap.objs.size) 2 none; assignInOrder [fun z => bindName X.env x2 z, fun z => bindName X.env x1 z] items.reverse; pure Flow.next) _ _ _
  refine wpAny_bind (wpAny_rule (wpAny_bind (unpackItems_tuple (items := #[u1, u2]) (I.ok.hd hc) (IsTup.new s1.heap _) fun g hg => ?_)))
  have I3 := I2.kept (h' := g) (t' := s1.toks) fun b o e => hg b o (Nat.ne_of_lt (Heap.lt_size e)) e
  show wpAny _ _ (assignInOrder [fun z => bindName X.env x2 z, fun z => bindName X.env x1 z] [u2, u1] >>= fun _ => pure Flow.next) _ _ _
  refine wpAny_bind (assignInOrder_cons (wpAny_bindName (store_ok I3 hN hj (.inl hy) rw' (fun s2 I4 => ?_) (.inr hy))))
  refine assignInOrder_cons (wpAny_bindName (store_ok I4 hN hi (.inl hx) rv (fun s3 I5 => assignInOrder_nil (wpAny_pure ?_)) (.inr hx)))
  rw [List.set_comm _ _ (Ne.symm hij)] at I5
  exact ⟨_, H1, I5, z⟩
theorem tsy_par {i j : Nat} {x1 x2 : Str} {q1 q2 q3 : Pos} {kt kv : Nat} {q4 : Pos} (hc : X.calm = true) (hN : X.N.Nodup) (hi : X.N[i]? = some x1) (hj : X.N[j]? = some x2) (hij : i ≠ j) (hx : X.env.scope.names.lookup x1 = some .local) (hy : X.env.scope.names.lookup x2 = some .local)
    (ha : PEK X (FK X) a (tD cls W true m1)) (hb : PEy X y b (tD cls W true m2)) (hw : swappedStores [.Tuple [.Name x1 q1, .Name x2 q2] kt q3] (.Tuple [a, b] kv q4) X.env = pure (some [x1, x2])) (hs : swapsWithSole [.Tuple [.Name x1 q1, .Name x2 q2] kt q3] (.Tuple [a, b] kv q4) pos.line X.env = pure false := by rfl)
    (n1 : starEach [a, b] X.env = (false, eval a X.env) :: starEach [b] X.env := by rfl) (n2 : starEach [b] X.env = (false, eval b X.env) :: starEach [] X.env := by rfl) :
    PSy X y (.Assign [.Tuple [.Name x1 q1, .Name x2 q2] kt q3] (.Tuple [a, b] kv q4) pos) (tS cls W (.par i j fr m1 m2)) :=
  (psy_par hc hN hi hj hij hx hy (pay_pair ha hb n1 n2) hw hs).imp fun E σ H q => imp_par q
end
end DL

set_option Elab.async false
set_option linter.all false
set_option maxRecDepth 100000
set_option maxHeartbeats 400000
namespace DL
open PySem PySem.Spec PyProof.Rows L2
variable [Tb]
/-! ### a def, its answer told of -/
section
variable {P : Program} {w : World} {K : PySem.W.Frag} {mg : Str → Option Value} {base : Heap} {cls : Nat → Addr}
theorem calR {S : FS} {ms : List MS} {x : Str} {st : Stmt} {f : Addr} {fd : FuncData} {N ps : List Str} {p0 : Str} {pr : List Str} {k : Nat} {R : Value → Shared → Prop} (F : Fun K x x st f fd) (hm : mg x = some (.ref f)) (hb : Binds K fd ps []) (Sc : FnScope N ps (defScope st)) (hn : ps.length ≤ N.length) (hps : ps = p0 :: pr) (hp0 : (defScope st).names.lookup p0 = some .local)
    (hlen : ∀ ds Q X, S ds Q X → ds.length = ps.length)
    (hbody : ∀ (cdv : Value) (A : Around) (outer : List Env) (s : Shared) (H : Hp) (E : XK), Body P w K mg base cls k (cxOf (L2N.CX P w) P w K mg base N x (defScope st) f cdv A outer s H E) (fun c d _ H => E c d H) →
      PSR (cxOf (L2N.CX P w) P w K mg base N x (defScope st) f cdv A outer s H E) (defBody st) (tSs cls (fun c d _ H => E c d H) ms) R)
    (obl : ∀ ds Q Xd, S ds Q Xd → wSs ms (envD N.length ds) (fun _ => Q .non) Q Xd) : CalR P w K mg base cls (k + 1) x S R := by
  obtain ⟨oc, od, kV, doc, pm, an, cdv, ct, osl, rfl, lk, hcd⟩ := F.ex
  refine ⟨f, _, ps, fn_R lk hcd Sc hps hp0 (fun vs H Q E h => ?_) (fun A outer s H vs Q E hr h => ?_), hm, F.kp, hb⟩
  · obtain ⟨G, U0, ds, Qd, Xd, _, _, _, l, w, _⟩ := h
    rw [l.len]
    exact hlen _ _ _ w
  · obtain ⟨G, U0, ds, Qd, Xd, hm, ht, hi, l, w, k1, k2⟩ := h
    refine ⟨_, hbody cdv A outer s H E ⟨rfl, hr, L2N.takes_of rfl rfl rfl rfl, passes_of rfl⟩, ?_⟩
    refine ⟨G, U0, H, _, _, Qd, Xd, RE.start hm ht hi l (by rw [hlen _ _ _ w]; exact hn), obl _ _ _ w, ⟨fun ρ' σ' H' r q => ?_, fun d v ρ' σ' H' r p q => ?_, fun j ρ' σ' H' r q => ?_⟩⟩
    · exact k1 .non .non H' ⟨r.ext, fun _ => r.inv⟩ rfl q
    · exact k1 d v H' ⟨r.ext, fun _ => r.inv⟩ (p.anti fun a m => .inl (.inl m)) q
    · exact k2 j H' ⟨r.ext, fun _ => r.inv⟩ q
end
end DL

set_option Elab.async false
set_option linter.all false
set_option maxRecDepth 100000
set_option maxHeartbeats 1000000
/-! DK9d: + keeps every object. -/
namespace DL
open PySem PySem.Spec PyProof.Rows L2
variable [Tb] {κ : Shared → Shared → Prop} [Kpr κ]
section
variable {X : Cx} {cls : Nat → Addr} {W : WX} {m m1 m2 : ME} {e a b : Expr} {n : Nat} {R : Value → Shared → Prop}
theorem kc_add : OpRK X κ (binaryOp .Add) (rB (binD .add)) := by
  intro pins s σ H x y v u Q I rx ry ⟨G, U, dx, dy, dz, hU, px, py, e, o⟩
  rcases bin_add e with ⟨a, b, rfl, rfl, rfl⟩ | ⟨a, b, rfl, rfl, hl, rfl⟩ | ⟨a, b, rfl, rfl, hl, rfl⟩ | ⟨a, b, rfl, rfl, hl, rfl⟩
  · cases (show x = V.int a from px)
    cases (show y = V.int b from py)
    obtain ⟨t, rfl⟩ := rx
    obtain ⟨t', rfl⟩ := ry
    exact add_int ⟨Kpr.tok, .int (a + b), H, I.tok _, ⟨_, rfl⟩, o.flat rfl rfl⟩
  · cases (show x = V.str (mkS a) from px)
    cases (show y = V.str (mkS b) from py)
    obtain ⟨t, rfl⟩ := rx
    obtain ⟨t', rfl⟩ := ry
    exact add_str (fun t' tk => ⟨Kpr.tok, .str (mkS a ++ mkS b), H, I.tok _, ⟨_, rfl⟩, o.flat (mkS_app a b ▸ rfl) rfl⟩) (by rw [mkS_len, mkS_len]; exact sumLen_le hl)
  · obtain ⟨p, xs, rfl, hx, lx⟩ := px
    obtain ⟨q, ys, rfl, hy, ly⟩ := py
    cases rx
    cases ry
    obtain ⟨z, its, n, r, hlen, eo⟩ := I.lstM hx
    obtain ⟨z2, its2, n2, r2, hlen2, eo2⟩ := I.lstM hy
    have hz : xs.length + ys.length ≤ sizeLine := by rw [lx.len, ly.len]; exact sumLen_le hl
    refine PySem.P.add_list eo eo2 ?_ (by rw [List.size_toArray, List.size_toArray]; omega)
    rw [show its.toArray ++ its2.toArray = (its ++ its2).toArray by simp]
    exact ⟨Kpr.kept (t := s.toks) fun _ _ e => Heap.get?_push_of_some _ e, .ref _, _, I.lnew (t' := s.toks) (r.append r2) (by rw [List.length_append]; omega), rfl, o.newL hU (lx.append ly) I.fresh⟩
  · obtain ⟨p, xs, rfl, hx, lx⟩ := px
    obtain ⟨q, ys, rfl, hy, ly⟩ := py
    cases rx
    cases ry
    obtain ⟨its, r1, p1, _⟩ := I.tuple (.inl hx)
    obtain ⟨its2, r2, p2, _⟩ := I.tuple (.inl hy)
    have hz : xs.length + ys.length ≤ sizeLine := by rw [lx.len, ly.len]; exact sumLen_le hl
    by_cases h0 : xs = []
    · subst h0
      cases r1
      have : a = [] := List.eq_nil_of_length_eq_zero (by have := lx.len; simpa using this.symm)
      subst this
      exact cat_tup0 p1 p2 ⟨Kpr.refl s, .ref q, H, I, rfl, o.flat ⟨q, ys, rfl, hy, ly⟩ rfl⟩
    · refine HT.cat_tup p1 p2 (fun z => h0 (r1.nil_iff.mp z)) (fun z => ⟨Kpr.refl s, .ref p, H, I, rfl, ?_⟩) (fun z => ?_) (by rw [← r1.length, ← r2.length]; exact hz)
      · have hy0 := r2.nil_iff.mp z
        subst hy0
        have : b = [] := List.eq_nil_of_length_eq_zero (by have := ly.len; simpa using this.symm)
        subst this
        rw [List.append_nil] at o
        exact o.flat ⟨p, xs, rfl, hx, lx⟩ rfl
      · refine ⟨Kpr.kept (t := s.toks) fun _ _ e => Heap.get?_push_of_some _ e, .ref s.heap.objs.size, _, I.laid (t' := s.toks) (o := .tup (xs ++ ys)) (fun b ob q => Heap.get?_push_of_some _ q) (Nat.le_refl _) ?_, rfl, o.newT (lx.append ly) (I.hok.fresh (Nat.le_refl _))⟩
        exact ⟨by rw [List.length_append]; exact hz, _, r1.append r2, IsTup.new _ _⟩
theorem per_pk (h : PER n X e (tD cls W true m) R) : PER n X e (tD cls W false m) R := h.imp fun σ H Q q => imp_pk q
end
end DL

set_option Elab.async false
set_option linter.all false
set_option maxRecDepth 100000
set_option maxHeartbeats 1000000
/-! DM5: max. -/
namespace DL
open PySem PySem.Spec PyProof.Rows L2
variable [Tb]
theorem fold_one (xs : List Nat) : ∀ x : Nat, xs.foldl (fun a y => if ltL [a] [y] = true then y else a) x = xs.foldl max x := by
  induction xs with
  | nil => intro x; rfl
  | cons y r ih =>
    intro x
    rw [List.foldl_cons, List.foldl_cons]
    have : (if ltL [x] [y] = true then y else x) = max x y := by
      have e : ltL [x] [y] = decide (x < y) := by
        unfold ltL
        rw [Bool.eq_iff_iff, decide_eq_true_iff, decide_eq_true_iff, List.cons_lt_cons_iff]
        simp
      rw [e]
      by_cases h : x < y
      · rw [if_pos (by simpa using h)]; omega
      · rw [if_neg (by simpa using h)]; omega
    rw [this, ih]
theorem fold_sign (xs : List Nat) : ∀ x : Nat, (xs.map fun c => [c]).foldl maxL2 [x] = [xs.foldl max x] := by
  induction xs with
  | nil => intro x; rfl
  | cons y r ih =>
    intro x
    rw [List.map_cons, List.foldl_cons, List.foldl_cons]
    have : maxL2 [x] [y] = [max x y] := by
      unfold maxL2
      have e : ltL [x] [y] = decide (x < y) := by
        unfold ltL
        rw [Bool.eq_iff_iff, decide_eq_true_iff, decide_eq_true_iff, List.cons_lt_cons_iff]
        simp
      rw [e]
      by_cases h : x < y
      · rw [if_pos (by simpa using h)]; congr 1; omega
      · rw [if_neg (by simpa using h)]; congr 1; omega
    rw [this, ih]
section
variable {prog : Program} {w : World} {A : Around} {E : Value → Shared → Prop} {s : Shared}
theorem call_max_txt {c0 : Nat} {r : List Nat} {t : Tok} {Q : Value → Shared → Prop} (hh : A.handled = none)
    (h : ∀ g tk u, (∀ b o, s.heap.get? b = some o → g.get? b = some o) → Q (.str ⟨#[r.foldl max c0]⟩ u) { s with heap := g, toks := tk }) : wpAny (model prog w) A (call (.builtin "max") [.str (mkS (c0 :: r)) t]) Q E s := by
  refine call_max_walkS (wpAny_pyIter_str fun o St W st => ?_)
  have W0 := (W A.in1 hh).toS
  refine ⟨_, _, _, _, _, _, _, fun i j => ltL [(c0 :: r).getD j 0] [(c0 :: r).getD i 0], rfl, W0, st, ?_, ?_, ?_, fun v s' hP m => ?_⟩
  · intro b hb
    rw [List.mem_singleton.mp hb, Heap.size_push]; exact Nat.lt_succ_self _
  · simp [mkS]
  · rintro i j vi vj s2 Q2 E2 ⟨c, u, hc, rfl⟩ ⟨d, u2, hd, rfl⟩ hq
    have hc' : (c0 :: r)[i]? = some c := by simpa [mkS] using hc
    have hd' : (c0 :: r)[j]? = some d := by simpa [mkS] using hd
    refine PySem.P.gt_str ?_
    have hq : Q2 (.bool (ltL [(c0 :: r).getD j 0] [(c0 :: r).getD i 0])) s2 := hq
    rw [List.getD_eq_getElem?_getD, List.getD_eq_getElem?_getD, hc', hd'] at hq
    exact hq
  · obtain ⟨c, u, hc, rfl⟩ := hP
    obtain ⟨g, tk, rfl, hk⟩ := PySem.W.moved_old rfl rfl m
    have hl : (mkS (c0 :: r)).cps.size - 1 = r.length := by simp [mkS]
    rw [hl] at hc
    have e := (PySem.W.argBest_fold (fun a b => ltL [b] [a]) 0 c0 r r.length (Nat.le_refl _)).2
    have hc' : (c0 :: r)[argBest (fun i j => ltL [(c0 :: r).getD j 0] [(c0 :: r).getD i 0]) r.length]? = some c := by simpa [mkS] using hc
    rw [List.getD_eq_getElem?_getD, hc', List.take_length] at e
    have e2 : c = r.foldl max c0 := by
      rw [← fold_one]; exact e
    rw [e2]
    exact h g tk u hk
end
section
variable {X : Cx} {cls : Nat → Addr} {W : WX} {m : ME} {e : Expr} {pos p : Pos}
theorem foldl_max : ∀ (xs : List Int) (x : Int), (xs.foldl max x = x ∨ xs.foldl max x ∈ xs) ∧ x ≤ xs.foldl max x ∧ ∀ y ∈ xs, y ≤ xs.foldl max x
  | [], x => ⟨.inl rfl, Int.le_refl _, fun _ h => by cases h⟩
  | y :: r, x => by
    obtain ⟨h1, h2, h3⟩ := foldl_max r (max x y)
    rw [List.foldl_cons]
    refine ⟨?_, by omega, fun z hz => ?_⟩
    · rcases h1 with h1 | h1
      · rw [h1]
        by_cases c : x ≤ y
        · exact .inr (by rw [show max x y = y by omega]; simp)
        · exact .inl (by omega)
      · exact .inr (List.mem_cons_of_mem _ h1)
    · rcases List.mem_cons.mp hz with rfl | hz
      · omega
      · exact h3 z hz
theorem maxI_of {ns : List Int} {z m : Int} (h : maxI ns = some z) (hm : m ∈ ns) (hl : ∀ y ∈ ns, y ≤ m) : m = z := by
  cases ns with
  | nil => cases h
  | cons x r =>
    cases (show some (r.foldl max x) = some z from h)
    obtain ⟨h1, h2, h3⟩ := foldl_max r x
    have a1 : m ≤ r.foldl max x := by
      rcases List.mem_cons.mp hm with rfl | hm
      · exact h2
      · exact h3 m hm
    have a2 : r.foldl max x ≤ m := by
      rcases h1 with h1 | h1
      · rw [h1]; exact hl x (by simp)
      · exact hl _ (by simp [h1])
    omega
theorem k_max (hc : X.calm = true) (hu : X.A.units + 64 < cLine) : CallR X (.builtin "max") (rK1 (b1D .max)) := by
  rintro pins s σ H xs us Q I rs ⟨G, U, dx, dz, x, rfl, hU, px, e, o⟩
  cases dx <;> simp only [b1D] at e <;> first
    | cases e
    | skip
  · rename_i t
    cases t with
    | nil => cases e
    | cons c0 r =>
      have e : some (D.str ((r.map fun c => [c]).foldl maxL2 [c0])) = some dz := e
      rw [fold_sign] at e
      cases e
      obtain ⟨u, rfl, ru⟩ := vals1 rs
      cases (show x = V.str (mkS (c0 :: r)) from px)
      obtain ⟨tk, rfl⟩ := ru
      exact call_max_txt (I.ok.hd hc) fun g tk' u hk => ⟨.str (mkS [r.foldl max c0]), H, I.kept hk, ⟨_, rfl⟩, o.flat rfl rfl⟩
  · rename_i ds
    obtain ⟨a, vs, ex, hx, lx⟩ := px
    subst ex
    cases hid : intsD ds with
    | some ns =>
      rw [hid] at e
      obtain ⟨z, ez, rfl⟩ := Option.map_eq_some_iff.mp (show (maxI ns).map .int = some dz from e)
      rw [lx.ints hid] at hx
      obtain ⟨its, rv, pl, hz⟩ := I.list (SqL.of hx)
      rw [Vals.ref1 rs]
      refine max_raw (I.ok.hd hc) pl.isList rv.ints (by cases ns with | nil => cases ez | cons _ _ => simp) fun h' tk m t' hk h1 h2 => ?_
      have := maxI_of ez h1 h2
      subst this
      exact ⟨.int _, H, I.kept hk, ⟨_, rfl⟩, o.flat rfl rfl⟩
    | none =>
      rw [hid] at e
      obtain ⟨ss, hsd, e⟩ := Option.bind_eq_some_iff.mp (show (strsD ds).bind (fun ss => (maxS ss).map .str) = some dz from e)
      cases ss with
      | nil => cases e
      | cons x0 r =>
        cases (show some (D.str (r.foldl maxL2 x0)) = some dz from e)
        rw [lx.strs hsd] at hx
        obtain ⟨its, rv, pl, hz⟩ := I.list (SqL.of hx)
        rw [Vals.ref1 rs]
        refine max_raw_strs (I.ok.hd hc) hu pl.isList rv fun u g tk hm rr hk => ⟨_, H, I.kept hk, rr, o.flat rfl rfl⟩
theorem k_min (hc : X.calm = true) : CallR X (.builtin "min") (rK1 (b1D .min)) := fun pins s σ H xs us Q I rs q => thn (kk_min (κ := HK) hc pins s σ H xs us Q I rs q) fun _ _ z => z.2
theorem tb_max (hc : X.calm = true) (hu : X.A.units + 64 < cLine) (hm : X.mg "max" = none) (ha : PE X e (tD cls W false m)) (hg : Gl X "max" := by rfl) (he : starEach [e] X.env = (false, eval e X.env) :: starEach [] X.env := by rfl) (hpl : (backTo pos (starEach [] X.env)).any (·.1) = false := by rfl) :
    PE X (.Call (.Name "max" p) [e] [] pos) (tD cls W true (.b1 .max m)) := te_b1B (k_max hc hu) hg hm PyProof.Rows.boot_max ha (by decide) (by decide) he hpl
theorem tb_min (hc : X.calm = true) (hm : X.mg "min" = none) (ha : PE X e (tD cls W false m)) (hg : Gl X "min" := by rfl) (he : starEach [e] X.env = (false, eval e X.env) :: starEach [] X.env := by rfl) (hpl : (backTo pos (starEach [] X.env)).any (·.1) = false := by rfl) :
    PE X (.Call (.Name "min" p) [e] [] pos) (tD cls W true (.b1 .min m)) := te_b1B (k_min hc) hg hm PyProof.Rows.boot_min ha (by decide) (by decide) he hpl
end
end DL

set_option Elab.async false
set_option linter.all false
set_option maxRecDepth 100000
set_option maxHeartbeats 1000000
/-! DK10: behind a call some token is out; a letter taken out behind that. -/
namespace DL
open PySem PySem.Spec PyProof.Rows L2
variable [Tb]
/-- a token is out -/
def RT (_ : Value) (s : Shared) : Prop := 1 ≤ s.toks
/-- a def whose first parameter is a plain local: behind a call of it a token is out -/
theorem fn_T {CX : CXT} {P : Program} {w : World} {K : PySem.W.Frag} {mg : Str → Option Value} {base : Heap} {k : Nat} {f : Addr} {name qual : Str} {params : Arguments} {body : List Stmt} {scope : Scope} {dV kV doc pm cdv ct oc : Value} {an od : Option Addr}
    {osl : Array (Option Value)} {N ps : List Str} {p0 : Str} {pr : List Str} {sp : Sp} (lk : K.lookup f = some ⟨oc, od, .func (PySem.W.fnOf name qual params body scope dV kV doc pm an cdv ct), osl⟩) (hcd : PySem.W.codeIn K cdv qual = true) (S : FnScope N ps scope) (hps : ps = p0 :: pr) (hp0 : scope.names.lookup p0 = some .local)
    (len : ∀ vs H Q E, sp vs H Q E → vs.length = ps.length)
    (hbody : ∀ (A : Around) (outer : List Env) (s : Shared) (H : Hp) (vs : List V) (Q : VK) (E : XK), Room k (A.deeper (envOfC qual scope s.heap.objs.size f cdv)) → sp vs H Q E →
      ∃ t, PSs (cxOf CX P w K mg base N qual scope f cdv A outer s H E) body t ∧ t { nx := fun _ H' => Q .non H', rt := Q } (L2.start N vs) H) :
    FnR P w K mg base CX (k + 1) f (PySem.W.fnOf name qual params body scope dV kV doc pm an cdv ct) ps sp RT := by
  refine ⟨len, fun A outer s H args us vs Q E hr e0 hb r hsp => ?_⟩
  have hl := len _ _ _ _ hsp
  have k0 := fun b o (z : base.get? b = some o) => (e0.bs b o z).1
  have hKin : K.In s.heap := e0.mod.kin.keeps k0
  have hk2 : ∀ y ∈ ps.zip us, scope.names.lookup y.1 = some .local ∨ (scope.names.lookup y.1 = some .cell ∧ ((cellsFrom (s.heap.objs.size + 1) scope.names []).lookup y.1).isSome = true) := fun ⟨n, v⟩ hy =>
    (S.par n (List.of_mem_zip hy).1).elim .inl fun z => .inr ⟨z, PySem.W.cellsFrom_some _ _ _ (.inl z)⟩
  obtain ⟨u0, ur, eu⟩ : ∃ u0 ur, us = u0 :: ur := by
    cases us with
    | nil => exact absurd (hl.symm.trans r.length) (by rw [hps]; simp)
    | cons a b => exact ⟨a, b, rfl⟩
  refine codeAny_call_function hr.depth (hKin _ _ lk) rfl S.co S.gen rfl (PySem.W.codeRec_of hKin hcd) (hb _ _ _ _ ?_)
  have ez : ps.zip us = (p0, u0) :: pr.zip ur := by rw [hps, eu]; rfl
  rw [ez] at hk2 ⊢
  refine newFn S.kind hp0 (fun y hy => hk2 y (List.mem_cons_of_mem _ hy)) fun s1 ht x => ?_
  rw [← ez] at x
  refine ⟨(e0.mod.nolimit.keeps k0).keeps x.toInCall.keep, codeAny_func ?_⟩
  obtain ⟨t, hpt, hq⟩ := hbody A outer s H vs Q E (hr.deeper _) hsp
  have I : Inv (cxOf CX P w K mg base N qual scope f cdv A outer s H E) [] (L2.start N vs) H s1 := inv_start S hr.hd e0 hl r x
  refine wpAny_mono (PySem.wpAny_toks (hpt.run [] s1 (L2.start N vs) H _ I hq)) (fun fl s' ⟨t1, hs⟩ => ?_) fun e s' ⟨_, hs⟩ => wpAny_mono hs (fun _ _ z => ⟨z, fun _ y => nomatch y⟩) fun _ _ z => ⟨z, fun _ y => nomatch y⟩
  have t2 : 1 ≤ s'.toks := Nat.le_trans ht t1
  cases fl with
  | ret u =>
    obtain ⟨v, σ', H', J, rv, q⟩ := hs
    exact ⟨⟨v, H', J.os, J.bare, J.base, J.hok, rv, q⟩, fun _ _ => t2⟩
  | next =>
    obtain ⟨σ', H', J, q⟩ := hs
    exact ⟨⟨V.non, H', J.os, J.bare, J.base, J.hok, rfl, q⟩, fun _ _ => t2⟩
  | brk => exact hs.elim fun _ z => z.elim fun _ z => z.2.elim
  | cont => exact hs.elim fun _ z => z.elim fun _ z => z.2.elim
section
variable {P : Program} {w : World} {K : PySem.W.Frag} {mg : Str → Option Value} {base : Heap} {cls : Nat → Addr}
theorem calT {S : FS} {ms : List MS} {x : Str} {st : Stmt} {f : Addr} {fd : FuncData} {N ps : List Str} {p0 : Str} {pr : List Str} {k : Nat} (F : Fun K x x st f fd) (hm : mg x = some (.ref f)) (hb : Binds K fd ps []) (Sc : FnScope N ps (defScope st)) (hn : ps.length ≤ N.length) (hps : ps = p0 :: pr) (hp0 : (defScope st).names.lookup p0 = some .local)
    (hlen : ∀ ds Q X, S ds Q X → ds.length = ps.length)
    (hbody : ∀ (cdv : Value) (A : Around) (outer : List Env) (s : Shared) (H : Hp) (E : XK), Body P w K mg base cls k (cxOf (L2N.CX P w) P w K mg base N x (defScope st) f cdv A outer s H E) (fun c d _ H => E c d H) →
      PSs (cxOf (L2N.CX P w) P w K mg base N x (defScope st) f cdv A outer s H E) (defBody st) (tSs cls (fun c d _ H => E c d H) ms))
    (obl : ∀ ds Q Xd, S ds Q Xd → wSs ms (envD N.length ds) (fun _ => Q .non) Q Xd) : CalR P w K mg base cls (k + 1) x S RT := by
  obtain ⟨oc, od, kV, doc, pm, an, cdv, ct, osl, rfl, lk, hcd⟩ := F.ex
  refine ⟨f, _, ps, fn_T lk hcd Sc hps hp0 (fun vs H Q E h => ?_) (fun A outer s H vs Q E hr h => ?_), hm, F.kp, hb⟩
  · obtain ⟨G, U0, ds, Qd, Xd, _, _, _, l, w, _⟩ := h
    rw [l.len]
    exact hlen _ _ _ w
  · obtain ⟨G, U0, ds, Qd, Xd, hm, ht, hi, l, w, k1, k2⟩ := h
    refine ⟨_, hbody cdv A outer s H E ⟨rfl, hr, L2N.takes_of rfl rfl rfl rfl, passes_of rfl⟩, ?_⟩
    refine ⟨G, U0, H, _, _, Qd, Xd, RE.start hm ht hi l (by rw [hlen _ _ _ w]; exact hn), obl _ _ _ w, ⟨fun ρ' σ' H' r q => ?_, fun d v ρ' σ' H' r p q => ?_, fun j ρ' σ' H' r q => ?_⟩⟩
    · exact k1 .non .non H' ⟨r.ext, fun _ => r.inv⟩ rfl q
    · exact k1 d v H' ⟨r.ext, fun _ => r.inv⟩ (p.anti fun a m => .inl (.inl m)) q
    · exact k2 j H' ⟨r.ext, fun _ => r.inv⟩ q
end
section
variable {X : Cx} {cls : Nat → Addr} {W : WX} {m : ME} {e : Expr} {pos : Pos} {x y : Str} {n : Nat} {fr : List Nat} {st : Stmt} {sts : List Stmt} {s : MS} {ss : List MS}
/-- x = e, behind which a token is out -/
theorem tss_setT {i : Nat} {pos' : Pos} (hN : X.N.Nodup) (hi : X.N[i]? = some x) (hx : Loc X.env.scope x) (he : PER 0 X e (tD cls W true m) RT) (h2 : PSn 1 X sts (tSs cls W ss)) (hs : swapsWith e (some (.Name x pos')) pos.line X.env = pure false := by rfl) (hf : X.fn x = true ∨ X.env.scope.names.lookup x = some .local := by first | exact .inl rfl | exact .inr rfl) :
    PSs X (.Assign [.Name x pos'] e pos :: sts) (tSs cls W (.asg (.nm i) fr m :: ss)) := by
  refine ⟨fun pins s0 σ H D I z => ?_⟩
  have q := imp_set (imp_tss z)
  refine wpAny_execs_cons (wpAny_Assign_Name (thn (he.run pins s0 σ H _ (Nat.zero_le _) I q) fun v s1 ⟨⟨w, H1, I1, r1, q1⟩, hR⟩ => ?_) hs)
  refine wpAny_mono (PySem.wpAny_toks (store_ok I1 hN hi hx r1 (Q := fun _ s2 => Inv X pins (σ.set i (some w)) H1 s2) (fun s2 I2 => I2) hf)) (fun _ s2 ⟨t2, I2⟩ => ?_) fun _ _ z => z.2
  exact h2.run pins s2 _ H1 D (Nat.le_trans hR t2) I2 q1
/-- y = e, e's token known; then a statement that leans on it -/
theorem psn_setY {i : Nat} {pos' : Pos} (hN : X.N.Nodup) (hi : X.N[i]? = some y) (hx : Loc X.env.scope y) (he : PER n X e (tD cls W true m) RS) (h2 : PSy X y st (tS cls W s)) (h3 : PSs X sts (tSs cls W ss)) (hs : swapsWith e (some (.Name y pos')) pos.line X.env = pure false := by rfl) (hf : X.fn y = true ∨ X.env.scope.names.lookup y = some .local := by first | exact .inl rfl | exact .inr rfl) :
    PSn n X (.Assign [.Name y pos'] e pos :: st :: sts) (tSs cls W (.asg (.nm i) fr m :: s :: ss)) := by
  refine ⟨fun pins s0 σ H D hn I z => ?_⟩
  have q := imp_set (imp_tss z)
  refine wpAny_execs_cons (wpAny_Assign_Name (thn (he.run pins s0 σ H _ hn I q) fun v s1 ⟨⟨w, H1, I1, r1, q1⟩, hR⟩ => ?_) hs)
  refine store_R I1 hN hi hx r1 hR (fun s2 I2 tk _ _ => ?_) hf
  refine wpAny_execs_cons (thn (h2.run pins s2 _ H1 { D with nx := tSs cls W ss D } tk I2 (imp_tss q1)) fun f s3 q3 => ?_)
  cases f with
  | next =>
    obtain ⟨σ', H', I', q'⟩ := q3
    exact h3.run pins s3 σ' H' D I' q'
  | ret v => exact q3
  | brk => exact q3
  | cont => exact q3
end
end DL

set_option Elab.async false
set_option linter.all false
set_option maxRecDepth 100000
set_option maxHeartbeats 1000000
/-! DM7: x, y, z = a, b, c. -/
namespace DL
open PySem PySem.Spec PyProof.Rows L2
variable [Tb]
section
variable {X : Cx} {cls : Nat → Addr} {W : WX} {m1 m2 m3 : ME} {a b c : Expr} {pos : Pos} {fr : List Nat}
theorem ts_par3 {i j l : Nat} {x y z : Str} {q1 q2 q3 qt qv : Pos} {kt kv : Nat} (hc : X.calm = true) (hN : X.N.Nodup) (hi : X.N[i]? = some x) (hj : X.N[j]? = some y) (hl : X.N[l]? = some z) (hij : i ≠ j) (hil : i ≠ l) (hjl : j ≠ l)
    (hx : X.env.scope.names.lookup x = some .local) (hy : X.env.scope.names.lookup y = some .local) (hz : X.env.scope.names.lookup z = some .local) (f1 : m1.fresh = false) (f2 : m2.fresh = false) (f3 : m3.fresh = false)
    (ha : PE X a (tD cls W true m1)) (hb : PE X b (tD cls W true m2)) (hd : PE X c (tD cls W true m3))
    (hw : swappedStores [.Tuple [.Name x q1, .Name y q2, .Name z q3] kt qt] (.Tuple [a, b, c] kv qv) X.env = pure (some [x, y, z])) (hs : swapsWithSole [.Tuple [.Name x q1, .Name y q2, .Name z q3] kt qt] (.Tuple [a, b, c] kv qv) pos.line X.env = pure false := by rfl)
    (n1 : starEach [a, b, c] X.env = (false, eval a X.env) :: starEach [b, c] X.env := by rfl) (n2 : starEach [b, c] X.env = (false, eval b X.env) :: starEach [c] X.env := by rfl) (n3 : starEach [c] X.env = (false, eval c X.env) :: starEach [] X.env := by rfl) :
    PS X (.Assign [.Tuple [.Name x q1, .Name y q2, .Name z q3] kt qt] (.Tuple [a, b, c] kv qv) pos) (tS cls W (.par3 i j l fr m1 m2 m3)) :=
  (ps_par3 hc hN hi hj hl hij hil hjl hx hy hz (pa_cons ha (pa_cons hb (pa_cons hd pa_nil n3) n2) n1) hw hs).imp fun E σ H ⟨G, U0, He, ρ, N, R, Xd, r, w, k⟩ => by
    simp only [wS] at w
    have r0 := r.frz fr
    refine tD_in r0 w (fun d1 v1 H1 e1 r1 p1 _ w1 => tD_in r1 w1 (fun d2 v2 H2 e2 r2 p2 _ w2 => tD_in r2 w2 (fun d3 v3 H3 e3 r3 p3 _ w3 => ⟨_, _, _, rfl, ?_⟩) fun j H3 e3 q => k.xe r0 j H3 ((e1.trans e2).trans e3) q) fun j H2 e2 q => k.xe r0 j H2 (e1.trans e2) q) (k.xe r0)
    have s1 : slotOf m1 d1 = .imm d1 := by simp [slotOf, f1]
    have s2 : slotOf m2 d2 = .imm d2 := by simp [slotOf, f2]
    have s3 : slotOf m3 d3 = .imm d3 := by simp [slotOf, f3]
    rw [s1, s2, s3] at w3
    have g1 : Rp G (Uo U0 (DL.frz fr ρ) σ) H3 d1 v1 := (p1.step r1 e2).step r2 e3
    have g2 : Rp G (Uo U0 (DL.frz fr ρ) σ) H3 d2 v2 := p2.step r2 e3
    have t1 := r3.setImm (i := i) g1
    have t2 := t1.setImm (i := j) (g2.anti fun a m => .inl m.setImm)
    have t3 := t2.setImm (i := l) (Rp.anti (fun a m => .inl (Uo.setImm (Uo.setImm m))) p3)
    exact k.nx _ _ _ t3 w3
end
end DL

set_option Elab.async false
set_option linter.all false
set_option maxRecDepth 100000
set_option maxHeartbeats 1000000
/-! DK11: blocks behind which names still hold texts of known tokens. -/
namespace DL
open PySem PySem.Spec PyProof.Rows L2
variable [Tb]
def TokNs (X : Cx) (ys : List Str) (s : Shared) : Prop := ∀ y ∈ ys, TokN X y s
theorem TokNs.nil {X : Cx} {s : Shared} : TokNs X [] s := fun _ h => nomatch h
theorem TokNs.fk {X : Cx} {ys : List Str} {s s' : Shared} (h : TokNs X ys s) (f : FK X s s') (l : s.toks ≤ s'.toks) : TokNs X ys s' := fun y hy => (h y hy).fk f l
theorem TokNs.cons {X : Cx} {y : Str} {ys : List Str} {s : Shared} (h : TokN X y s) (t : TokNs X ys s) : TokNs X (y :: ys) s := fun z hz => (List.mem_cons.mp hz).elim (fun e => e ▸ h) fun hz => t z hz
section
variable {X : Cx} {E : Value → Shared → Prop} {pins : List (Addr × Obj)} {σ : L2.St} {H : Hp} {s : Shared}
/-- another name is stored: what is known of names stays -/
theorem store_keep {i : Nat} {x : Str} {u : Value} {ys : List Str} (I : Inv X pins σ H s) (hx : Loc X.env.scope x) (hy : x ∉ ys) (tk : TokNs X ys s) : wpAny (model X.prog X.w) X.A (storeName X.env x u) (fun _ s' => TokNs X ys s') E s := by
  obtain ⟨m, hn, _⟩ := I.loc
  rcases hx with hk | hk
  · refine wpAny_storeName_local hk hn (fun g hg sb y my => ?_) (by rw [I.ok.kind]; rfl)
    obtain ⟨m', u', hn', l', t'⟩ := tk y my
    cases Ns.uniq hn hn'
    have ne : y ≠ x := fun z => hy (z ▸ my)
    refine ⟨_, u', hg, ?_, t'.mono (Nat.le_add_right _ _)⟩
    rcases l' with ⟨k, e⟩ | ⟨k, c, e, z⟩
    · exact .inl ⟨k, by simp [ne, e]⟩
    · exact .inr ⟨k, c, e, z.sameBut sb (I.cne y c e)⟩
  · obtain ⟨c, hc⟩ := I.ok.has x (.inl hk)
    obtain ⟨w', z⟩ := I.cell x c hc
    refine wpAny_storeName_cell I.ok.kind hk hc z fun g hg sb y my => ?_
    obtain ⟨m', u', hn', l', t'⟩ := tk y my
    have ne : y ≠ x := fun z => hy (z ▸ my)
    refine ⟨m', u', hn'.sameBut sb (Ne.symm (I.cne x c hc)), ?_, t'⟩
    rcases l' with ⟨k, e⟩ | ⟨k, c', e, z'⟩
    · exact .inl ⟨k, e⟩
    · refine .inr ⟨k, c', e, z'.sameBut sb fun q => ne ?_⟩
      subst q
      exact I.ok.inj _ _ _ e hc
theorem store_K {i : Nat} {x : Str} {v : V} {u : Value} {ys : List Str} {Q : Unit → Shared → Prop} (I : Inv X pins σ H s) (hN : X.N.Nodup) (hi : X.N[i]? = some x) (hx : Loc X.env.scope x) (r : L2.RelV v u) (hy : x ∉ ys) (tk : TokNs X ys s)
    (h : ∀ s', Inv X pins (σ.set i (some v)) H s' → TokNs X ys s' → s.toks ≤ s'.toks → Q () s') (hf : X.fn x = true ∨ X.env.scope.names.lookup x = some .local := by first | exact .inl rfl | exact .inr rfl | assumption) : wpAny (model X.prog X.w) X.A (storeName X.env x u) Q E s :=
  wpAny_mono (wpAny_and (PySem.wpAny_toks (store_ok (E := E) (Q := fun _ s' => Inv X pins (σ.set i (some v)) H s') I hN hi hx r (fun s' I' => I') hf)) (store_keep (i := i) (u := u) (E := E) I hx hy tk)) (fun _ s' ⟨⟨t, I'⟩, k⟩ => h s' I' k t) fun _ _ z => z.1.2
/-- a text of known token is stored, the others stay -/
theorem store_RK {i : Nat} {x : Str} {v : V} {u : Value} {ys : List Str} {Q : Unit → Shared → Prop} (I : Inv X pins σ H s) (hN : X.N.Nodup) (hi : X.N[i]? = some x) (hx : Loc X.env.scope x) (r : L2.RelV v u) (ht : TokS s.toks u) (hy : x ∉ ys) (tk : TokNs X ys s)
    (h : ∀ s', Inv X pins (σ.set i (some v)) H s' → TokNs X (x :: ys) s' → s.toks ≤ s'.toks → Q () s') (hf : X.fn x = true ∨ X.env.scope.names.lookup x = some .local := by first | exact .inl rfl | exact .inr rfl | assumption) : wpAny (model X.prog X.w) X.A (storeName X.env x u) Q E s :=
  wpAny_mono (wpAny_and (store_R (E := E) (Q := fun _ s' => Inv X pins (σ.set i (some v)) H s' ∧ TokN X x s' ∧ s.toks ≤ s'.toks) I hN hi hx r ht (fun s' I' t l _ => ⟨I', t, l⟩) hf) (store_keep (i := i) (u := u) (E := E) I hx hy tk)) (fun _ s' ⟨⟨I', t, l⟩, k⟩ => h s' I' (k.cons t) l) fun _ _ z => z.1
end
/-! ### the judgements -/
structure KSt (n : Nat) (X : Cx) (ys zs : List Str) (st : Stmt) (t : TS) : Prop where
  run : ∀ (pins : List (Addr × Obj)) (s : Shared) (σ : L2.St) (H : Hp) (D : Ends), n ≤ s.toks → TokNs X ys s → Inv X pins σ H s → t D σ H → wpAny (model X.prog X.w) X.A (exec st X.env) (fun f s1 => SP X pins D f s1 ∧ (f = .next → TokNs X zs s1)) X.xe s
structure KSb (n : Nat) (X : Cx) (ys zs : List Str) (st : List Stmt) (t : TS) : Prop where
  run : ∀ (pins : List (Addr × Obj)) (s : Shared) (σ : L2.St) (H : Hp) (D : Ends), n ≤ s.toks → TokNs X ys s → Inv X pins σ H s → t D σ H → wpAny (model X.prog X.w) X.A (execs st X.env) (fun f s1 => SP X pins D f s1 ∧ (f = .next → TokNs X zs s1)) X.xe s
theorem KSt.imp {n : Nat} {X : Cx} {ys zs : List Str} {st : Stmt} {t t' : TS} (h : KSt n X ys zs st t) (i : ∀ D σ H, t' D σ H → t D σ H) : KSt n X ys zs st t' := ⟨fun pins s σ H D a b I q => h.run pins s σ H D a b I (i _ _ _ q)⟩
theorem KSb.imp {n : Nat} {X : Cx} {ys zs : List Str} {st : List Stmt} {t t' : TS} (h : KSb n X ys zs st t) (i : ∀ D σ H, t' D σ H → t D σ H) : KSb n X ys zs st t' := ⟨fun pins s σ H D a b I q => h.run pins s σ H D a b I (i _ _ _ q)⟩
theorem KSb.psn {n : Nat} {X : Cx} {zs : List Str} {st : List Stmt} {t : TS} (h : KSb n X [] zs st t) : PSn n X st t := ⟨fun pins s σ H D a I q => thn (h.run pins s σ H D a TokNs.nil I q) fun _ _ z => z.1⟩
/-- a test, what is known of names stays -/
structure KT (n : Nat) (X : Cx) (ys : List Str) (e : Expr) (t : TT) : Prop where
  run : ∀ (pins : List (Addr × Obj)) (s : Shared) (σ : L2.St) (H : Hp) (Q : Bool → Hp → Prop), n ≤ s.toks → TokNs X ys s → Inv X pins σ H s → t σ H Q → wpAny (model X.prog X.w) X.A (isTrue e X.env (eval e X.env)) (fun b s1 => TokNs X ys s1 ∧ TP X pins σ Q b s1) X.xe s
/-- an expression, what is known of names stays -/
structure KE (n : Nat) (X : Cx) (ys : List Str) (e : Expr) (t : TE) : Prop where
  run : ∀ (pins : List (Addr × Obj)) (s : Shared) (σ : L2.St) (H : Hp) (Q : VK), n ≤ s.toks → TokNs X ys s → Inv X pins σ H s → t σ H Q → wpAny (model X.prog X.w) X.A (eval e X.env) (fun u s1 => TokNs X ys s1 ∧ EP X pins σ Q u s1) X.xe s
section
variable {X : Cx} {n : Nat} {ys zs ws : List Str} {st : Stmt} {sts : List Stmt} {cls : Nat → Addr} {W : WX} {m m1 m2 : ME} {s s1 : MS} {ss ss2 : List MS} {e c : Expr} {pos : Pos} {fr : List Nat} {x y : Str}
theorem ke_of {t : TE} (h : PEK X (FK X) e t) : KE n X ys e t :=
  ⟨fun pins s σ H Q _ tk I q => wpAny_mono (PySem.wpAny_toks (h.run pins s σ H Q I q)) (fun u s1 ⟨t1, k1, z⟩ => ⟨tk.fk k1 t1, z⟩) fun _ _ z => z.2⟩
theorem ke_nil {t : TE} (h : PE X e t) : KE n X [] e t := ⟨fun pins s σ H Q _ _ I q => thn (h.run pins s σ H Q I q) fun _ _ z => ⟨TokNs.nil, z⟩⟩
theorem kt_of {t : TT} (h : PTK X (FK X) c t) : KT n X ys c t :=
  ⟨fun pins s σ H Q _ tk I q => wpAny_mono (PySem.wpAny_toks (h.run pins s σ H Q I q)) (fun u s1 ⟨t1, k1, z⟩ => ⟨tk.fk k1 t1, z⟩) fun _ _ z => z.2⟩
theorem ktb_nil {t : TT} (h : PT X c t) : KT n X [] c t := ⟨fun pins s σ H Q _ _ I q => thn (h.run pins s σ H Q I q) fun _ _ z => ⟨TokNs.nil, z⟩⟩
theorem ksb_nil : KSb n X ys ys [] (tSs cls W []) :=
  ⟨fun pins s σ H D _ tk I q => wpAny_mono (wpAny_and (tss_nil.run pins s σ H D I q) (wpAny_execs_nil (Q := fun _ s1 => TokNs X ys s1) (E := fun _ _ => True) tk)) (fun _ _ z => ⟨z.1, fun _ => z.2⟩) fun _ _ z => z.1⟩
theorem ksb_cons (h1 : KSt n X ys ws st (tS cls W s)) (h2 : KSb n X ws zs sts (tSs cls W ss)) : KSb n X ys zs (st :: sts) (tSs cls W (s :: ss)) := by
  refine ⟨fun pins s0 σ H D hn tk I q => ?_⟩
  refine wpAny_execs_cons (wpAny_mono (PySem.wpAny_toks (h1.run pins s0 σ H { D with nx := tSs cls W ss D } hn tk I (imp_tss q))) (fun f s1 ⟨t1, q1, k1⟩ => ?_) fun _ _ z => z.2)
  cases f with
  | next =>
    obtain ⟨σ', H', I', q'⟩ := q1
    exact h2.run pins s1 σ' H' D (Nat.le_trans hn t1) (k1 rfl) I' q'
  | ret v => exact ⟨q1, fun z => nomatch z⟩
  | brk => exact ⟨q1, fun z => nomatch z⟩
  | cont => exact ⟨q1, fun z => nomatch z⟩
theorem ks_of {t : TS} (h : PS X st t) : KSt n X ys [] st t := ⟨fun pins s σ H D _ _ I q => thn (h.run pins s σ H D I q) fun _ _ z => ⟨z, fun _ => TokNs.nil⟩⟩
theorem ksb_of {t : TS} (h : PSs X sts t) : KSb n X ys [] sts t := ⟨fun pins s σ H D _ _ I q => thn (h.run pins s σ H D I q) fun _ _ z => ⟨z, fun _ => TokNs.nil⟩⟩
/-- leans on one name -/
theorem ks_y {t : TS} (h : PSy X y st t) (hy : y ∈ ys) : KSt n X ys [] st t := ⟨fun pins s σ H D _ tk I q => thn (h.run pins s σ H D (tk y hy) I q) fun _ _ z => ⟨z, fun _ => TokNs.nil⟩⟩
theorem ks_set {i : Nat} {pos' : Pos} (hN : X.N.Nodup) (hi : X.N[i]? = some x) (hx : Loc X.env.scope x) (hxy : x ∉ ys) (he : KE n X ys e (tD cls W true m)) (hs : swapsWith e (some (.Name x pos')) pos.line X.env = pure false := by rfl) (hf : X.fn x = true ∨ X.env.scope.names.lookup x = some .local := by first | exact .inl rfl | exact .inr rfl) :
    KSt n X ys ys (.Assign [.Name x pos'] e pos) (tS cls W (.asg (.nm i) fr m)) := by
  refine ⟨fun pins s0 σ H D hn tk I z => ?_⟩
  refine wpAny_Assign_Name (thn (he.run pins s0 σ H _ hn tk I (imp_set z)) fun v s1 ⟨k1, w, H1, I1, r1, q1⟩ => ?_) hs
  exact store_K I1 hN hi hx r1 hxy k1 (fun s2 I2 k2 _ => ⟨⟨_, H1, I2, q1⟩, fun _ => k2⟩) hf
/-- a name is given a text of known token -/
theorem ks_setR {i : Nat} {pos' : Pos} (hN : X.N.Nodup) (hi : X.N[i]? = some x) (hx : Loc X.env.scope x) (he : PER n X e (tD cls W true m) RS) (hs : swapsWith e (some (.Name x pos')) pos.line X.env = pure false := by rfl) (hf : X.fn x = true ∨ X.env.scope.names.lookup x = some .local := by first | exact .inl rfl | exact .inr rfl) :
    KSt n X ys [x] (.Assign [.Name x pos'] e pos) (tS cls W (.asg (.nm i) fr m)) := by
  refine ⟨fun pins s0 σ H D hn tk I z => ?_⟩
  refine wpAny_Assign_Name (thn (he.run pins s0 σ H _ hn I (imp_set z)) fun v s1 ⟨⟨w, H1, I1, r1, q1⟩, hR⟩ => ?_) hs
  exact store_RK I1 hN hi hx r1 hR (by simp) TokNs.nil (fun s2 I2 k2 _ => ⟨⟨_, H1, I2, q1⟩, fun _ => k2⟩) hf
theorem ks_if {a b : List Stmt} (hc : KT n X ys c (tT cls W m)) (ha : KSb n X ys zs a (tSs cls W ss)) (hb : KSb n X ys zs b (tSs cls W ss2)) : KSt n X ys zs (.If c a b pos) (tS cls W (.ifs m ss ss2)) := by
  refine ⟨fun pins s0 σ H D hn tk I ⟨G, U0, He, ρ, N, R, Xd, r, w, k⟩ => ?_⟩
  simp only [wS] at w
  refine wpAny_If (wpAny_mono (PySem.wpAny_toks (hc.run pins s0 σ H (fun b H1 => if b = true then tSs cls W ss D σ H1 else tSs cls W ss2 D σ H1) hn tk I (tT_in r w (fun b H1 e1 r1 w1 => ?_) (k.xe r)))) (fun b s1 ⟨t1, k1, H1, I1, q1⟩ => ?_) fun _ _ z => z.2)
  · cases b with
    | true => exact ⟨G, U0, He, ρ, N, R, Xd, r1, w1, k⟩
    | false => exact ⟨G, U0, He, ρ, N, R, Xd, r1, w1, k⟩
  · cases b with
    | true => exact ha.run pins s1 σ H1 D (Nat.le_trans hn t1) k1 I1 q1
    | false => exact hb.run pins s1 σ H1 D (Nat.le_trans hn t1) k1 I1 q1
theorem ks_ret (h : PE X e (tD cls W true m)) : KSt n X ys zs (.Return (some e) pos) (tS cls W (.ret fr m)) := by
  refine ⟨fun pins s0 σ H D hn tk I ⟨G, U0, He, ρ, N, R, Xd, r, w, k⟩ => ?_⟩
  simp only [wS] at w
  exact wpAny_Return_some (thn (h.run pins s0 σ H D.rt I (tD_in (r.frz fr) w (fun d1 v1 H1 e1 r1 p1 _ w1 => k.rt _ _ _ _ _ r1 p1 w1) (k.xe (r.frz fr)))) fun v s1 ⟨x, H1, I1, r1, q⟩ => ⟨⟨x, σ, H1, I1, r1, q⟩, fun z => nomatch z⟩)
end
end DL

set_option Elab.async false
set_option linter.all false
set_option maxRecDepth 100000
set_option maxHeartbeats 1000000
/-! DK12: loops in which names hold texts of known tokens. -/
namespace DL
open PySem PySem.Spec PyProof.Rows L2
variable [Tb]
/-! ### targets -/
structure PGY (n : Nat) (X : Cx) (ys zs : List Str) (tg : Expr) (t : TG) (Rn : Value → Shared → Prop) : Prop where
  run : ∀ (pins : List (Addr × Obj)) (s : Shared) (σ : L2.St) (H : Hp) (v : V) (u : Value) (Q : L2.St → Hp → Prop), n ≤ s.toks → Rn u s → TokNs X ys s → Inv X pins σ H s → L2.RelV v u → t v σ H Q →
    wpAny (model X.prog X.w) X.A (assign tg X.env u) (fun _ s' => (∃ σ' H', Inv X pins σ' H' s' ∧ Q σ' H') ∧ TokNs X zs s') X.xe s
structure PGYs (X : Cx) (ys : List Str) (ts : List Expr) (t : TGs) : Prop where
  run : ∀ (pins : List (Addr × Obj)) (s : Shared) (σ : L2.St) (H : Hp) (vs : List V) (us : List Value) (Q : L2.St → Hp → Prop), TokNs X ys s → Inv X pins σ H s → Vals vs us → t vs σ H Q →
    wpAny (model X.prog X.w) X.A (assignInOrder ((assignEach ts X.env).map (·.2)) us) (fun _ s' => (∃ σ' H', Inv X pins σ' H' s' ∧ Q σ' H') ∧ TokNs X ys s') X.xe s
abbrev RA : Value → Shared → Prop := fun _ _ => True
section
variable {X : Cx} {n k : Nat} {ys zs ws : List Str} {tg e : Expr} {es : List Expr} {t : TG} {u : TGs} {x y : Str} {pos : Pos} {i : Nat} {g : MG} {gs : List MG} {Rn : Value → Shared → Prop}
theorem PGY.imp {t' : TG} (h : PGY n X ys zs tg t Rn) (i : ∀ v σ H Q, t' v σ H Q → t v σ H Q) : PGY n X ys zs tg t' Rn := ⟨fun pins s σ H v u Q a b c I r q => h.run pins s σ H v u Q a b c I r (i _ _ _ _ q)⟩
theorem PGYs.imp {u' : TGs} (h : PGYs X ys es u) (i : ∀ v σ H Q, u' v σ H Q → u v σ H Q) : PGYs X ys es u' := ⟨fun pins s σ H v w Q c I r q => h.run pins s σ H v w Q c I r (i _ _ _ _ q)⟩
theorem imp_gnm {v : V} {σ : L2.St} {H : Hp} {Q : L2.St → Hp → Prop} (q : gD (.nm i) v σ H Q) : gName i v σ H Q := by
  obtain ⟨G, U0, He, ρ, d, ρ', r, p, a, k⟩ := q
  cases a
  exact k _ ⟨r.setImm p, fun a m => m.setImm, fun vs h => wipe_set (h i (by simp [MG.slots])), fun _ h => notOwn_set h, fun h a m => m.setImm' (h i (by simp [MG.slots]))⟩
theorem pgy_nm (hN : X.N.Nodup) (hi : X.N[i]? = some x) (hx : Loc X.env.scope x) (hy : x ∉ ys) (hf : X.fn x = true ∨ X.env.scope.names.lookup x = some .local := by first | exact .inl rfl | exact .inr rfl | assumption) : PGY n X ys ys (.Name x pos) (gD (.nm i)) Rn :=
  ⟨fun pins s σ H v u Q _ _ tk I r q => wpAny_assign_Name (store_K I hN hi hx r hy tk (fun s' I' k' _ => ⟨⟨_, H, I', imp_gnm q⟩, k'⟩) hf)⟩
/-- .. a text of known token -/
theorem pgy_nmR (hN : X.N.Nodup) (hi : X.N[i]? = some x) (hx : Loc X.env.scope x) (hy : x ∉ ys) (hf : X.fn x = true ∨ X.env.scope.names.lookup x = some .local := by first | exact .inl rfl | exact .inr rfl | assumption) : PGY n X ys (x :: ys) (.Name x pos) (gD (.nm i)) RS :=
  ⟨fun pins s σ H v u Q _ hR tk I r q => wpAny_assign_Name (store_RK I hN hi hx r hR hy tk (fun s' I' k' _ => ⟨⟨_, H, I', imp_gnm q⟩, k'⟩) hf)⟩
theorem pgys_nil : PGYs X ys [] (gDs []) := by
  refine ⟨fun pins s σ H vs us Q tk I r ⟨G, U0, He, ρ, d, ρ', re, p, a, k⟩ => ?_⟩
  cases d with
  | nil =>
    cases a
    cases (show vs = [] from p)
    cases r
    exact assignInOrder_nil ⟨⟨σ, H, I, k σ ⟨re, fun _ m => m, fun _ _ => rfl, fun _ h => h, fun _ _ m => m⟩⟩, tk⟩
  | cons _ _ => cases a
theorem pgys_cons (h1 : PGY 0 X ys ys e (gD g) RA) (h2 : PGYs X ys es (gDs gs)) (hs : (assignEach (e :: es) X.env).map (·.2) = assign e X.env :: (assignEach es X.env).map (·.2) := by rfl) : PGYs X ys (e :: es) (gDs (g :: gs)) := by
  refine ⟨fun pins s σ H vs us Q tk I r ⟨G, U0, He, ρ, d, ρ', re, p, a, k⟩ => ?_⟩
  cases d with
  | nil => cases a
  | cons d ds =>
    obtain ⟨w, rs, rfl, p1, p2⟩ := p
    simp only [asgGs, Option.bind_eq_some_iff] at a
    obtain ⟨ρ1, a1, a2⟩ := a
    cases r with
    | cons r rr =>
      rw [hs]
      refine assignInOrder_cons (thn (h1.run pins s σ H _ _ (fun σ' H' => gDs gs rs σ' H' Q) (Nat.zero_le _) trivial tk I r ⟨G, U0, He, ρ, d, ρ1, re, p1, a1, fun σ1 k1 => ?_⟩) fun _ s1 ⟨⟨σ1, H1, I1, q1⟩, tk1⟩ => h2.run pins s1 σ1 H1 _ _ Q tk1 I1 rr q1)
      refine ⟨G, U0, He, ρ1, ds, ρ', k1.re, p2.anti fun b m => .inl (k1.uo b m), a2, fun σ2 k2 => k σ2 ⟨k2.re, fun b m => k1.uo b (k2.uo b m), fun vs h => ?_, fun i h => k2.no i (k1.no i h), fun h b m => ?_⟩⟩
      · rw [k2.ws vs fun i hi => h i (by simp [MG.slotss, hi]), k1.ws vs fun i hi => h i (by simp [MG.slotss, hi])]
      · exact k2.ou (fun i hi => k1.no i (h i (by simp [MG.slotss, hi]))) b (k1.ou (fun i hi => h i (by simp [MG.slotss, hi])) b m)
theorem pgy_tup {l m : Nat} (hc : X.calm = true) (h : PGYs X ys es (gDs gs)) (hl : gs.length = l := by rfl)
    (hn : (assignEach es X.env).length = l := by rfl) (hst : (assignEach es X.env).findIdx? (·.1) = none := by rfl) : PGY n X ys ys (.Tuple es m pos) (gD (.tp gs)) Rn := by
  refine ⟨fun pins s σ H v u Q _ _ tk I r ⟨G, U0, He, ρ, d, ρ', re, p, a, k⟩ => ?_⟩
  cases d <;> first
    | cases a
    | skip
  rename_i ds
  obtain ⟨c, xs, rfl, rd, lx⟩ := p
  have a : asgGs gs ds ρ = some ρ' := a
  cases r
  obtain ⟨its, rv, ht, hz⟩ := I.tuple (.inl rd)
  have h1 := lx.len
  have h2 := asgGs_len a
  refine assign_Tuple_tuple (I.ok.hd hc) ht (by simp [hn, ← rv.length]; omega) hst fun h' hx => ?_
  have kp : ∀ b o, s.heap.get? b = some o → h'.get? b = some o := fun b o e => hx b o (Nat.ne_of_lt (Heap.lt_size e)) e
  have I1 : Inv X pins σ H { s with heap := h' } := I.kept (t' := s.toks) kp
  refine h.run pins _ σ H xs _ Q (tk.fk (FK.kept (t := s.toks) kp) (Nat.le_refl _)) I1 (by simpa using rv) ⟨G, U0, He, ρ, ds, ρ', re, lx, a, fun σ' k' => k σ' (by simpa only [MG.slots] using k')⟩
end
/-! ### iterators -/
/-- the signs of a text, told -/
theorem turnR_str {P : Program} {w : World} {K : PySem.W.Frag} {tg : Expr} (it : Addr) (x : Str) (t : Tok) (ty : String) (hty : ty = "str_ascii_iterator" ∨ ty = "str_iterator") :
    TurnR P w K tg (Its x) [it] it (fun i h => h.IsStrIter it ty x t i) RS := by
  refine ⟨turn_str it x t ty hty, ?_, ?_⟩
  · intro X hP hw hK hc i pins s σ H E h1 I hf st hg
    subst hP hw hK
    obtain ⟨f0, f1, f2, f3, f4, f5⟩ := hf it (by simp)
    have hlt : i < x.cps.size := hg
    have hx : x.cps[i]? = some x.cps[i] := Array.getElem?_eq_getElem hlt
    have hno : ["enumerate", "zip", "dict_itemiterator", "dict_reverseitemiterator", "odict_iterator", "itertools.zip_longest", "itertools.pairwise"].contains ty = false := by
      rcases hty with e | e
      · rw [e]; decide
      · rw [e]; decide
    have fin : ∀ h', h'.IsStrIter it ty x t (i + 1) → Heap.SameBut it s.heap h' → ∃ u, some (Value.str ⟨#[x.cps[i]]⟩ s.toks) = some u ∧
        wpAny (model X.prog X.w) X.A (letOwnedTupleGo tg (.ref it) u) (fun _ s2 => (∃ x' H', Inv X pins σ H' s2 ∧ L2.RelV x' u ∧ (Its x).yld i H x' H' ∧ s2.heap.IsStrIter it ty x t (i + 1) ∧ ∀ b ∈ [it], H' b = none) ∧ RS u s2 ∧ s.toks ≤ s2.toks ∧ ∀ b o, b ∉ [it] → s.heap.get? b = some o → s2.heap.get? b = some o) E { s with heap := h', toks := s.toks + 1 } := fun h' st' sb => by
      have kk : ∀ b o, b ∉ [it] → s.heap.get? b = some o → h'.get? b = some o := fun b o hb e => (sb.2 b (fun z => hb (by simp [z]))).trans e
      have I1 : Inv X pins σ H { s with heap := h', toks := s.toks + 1 } := I.turned (fun b o hb e => kk b o (by simpa using hb) e) f0 f1 f3 f4 f5
      obtain ⟨oi, e, cc, dd⟩ := id st'
      exact ⟨_, rfl, go_of (s := { s with heap := h', toks := s.toks + 1 }) e cc dd hno ⟨⟨.str ⟨#[x.cps[i]]⟩, H, I1, ⟨_, rfl⟩, ⟨rfl, _, hx, rfl⟩, st', fun b hb => (hf b hb).1⟩, ⟨_, _, rfl, Nat.ne_of_gt h1, Nat.lt_succ_self _⟩, Nat.le_succ _, kk⟩⟩
    rcases hty with e | e
    · subst e
      exact wpAny_pyNext_ascii_item st hx fun h' st' sb => fin h' st' sb
    · subst e
      exact wpAny_pyNext_wide_item st hx fun h' st' sb => fin h' st' sb
  · intro X hP hw hK hc i pins s σ H E I hf st hg
    subst hP hw hK
    obtain ⟨f0, f1, f2, f3, f4, f5⟩ := hf it (by simp)
    have hx : x.cps[i]? = none := Array.getElem?_eq_none hg
    have fin : ∀ h', Heap.ExtBut it s.heap h' → ((none : Option Value) = none ∧ Inv X pins σ H { s with heap := h' }) ∧ ∀ b o, b ∉ [it] → s.heap.get? b = some o → h'.get? b = some o := fun h' eb =>
      ⟨⟨rfl, I.turned (t' := s.toks) (fun b o hb e => eb b o hb e) f0 f1 f3 f4 f5⟩, fun b o hb e => eb b o (fun z => hb (by simp [z])) e⟩
    rcases hty with e | e
    · subst e
      exact wpAny_pyNext_ascii_end (I.ok.hd hc) st hx fun h' eb => fin h' eb
    · subst e
      exact wpAny_pyNext_wide_end (I.ok.hd hc) st hx fun h' eb => fin h' eb
/-- an iterator comes, what is known of names stays -/
structure PIK (n : Nat) (X : Cx) (ys : List Str) (tg iter : Expr) (wi : TI) (Rn : Value → Shared → Prop) : Prop where
  run : ∀ (pins : List (Addr × Obj)) (s : Shared) (σ : L2.St) (H : Hp) (R : It → Hp → Prop), n ≤ s.toks → TokNs X ys s → Inv X pins σ H s → wi σ H R →
    wpAny (model X.prog X.w) X.A (eval iter X.env) (fun v s1 => wpAny (model X.prog X.w) X.A (pyIter v) (fun itv s2 => TokNs X ys s2 ∧ PIRE X pins σ tg R Rn itv s2) X.xe s1) X.xe s
/-- a text -/
abbrev txtM (m : ME) : ME := .bin .add m (.con (.str []))
theorem txt_d {d : D} {Q : List D → Prop} (h : onS (binD .add d (.str [])) (onIt Q)) : ∃ t, d = .str t ∧ Q (chars t) := by
  obtain ⟨z, e, h⟩ := onS_some h
  rcases bin_add e with ⟨_, _, _, q, _⟩ | ⟨a, b, rfl, q, _, rfl⟩ | ⟨_, _, _, q, _⟩ | ⟨_, _, _, q, _⟩
  · cases q
  · cases q
    rw [List.append_nil] at h
    exact ⟨a, rfl, h⟩
  · cases q
  · cases q
section
variable {X : Cx} {n : Nat} {ys zs : List Str} {tg e : Expr} {es : List Expr} {cls : Nat → Addr} {W : WX} {m : ME} {p pos tpos : Pos} {elts : List Expr} {kk : Nat} {Rn : Value → Shared → Prop}
theorem pirone {pins : List (Addr × Obj)} {σ : L2.St} {H : Hp} {s : Shared} {R : It → Hp → Prop} {J : It} {tn : Nat → Heap → Prop} {tk : Nat} (I : Inv X pins σ H s) (o : Obj)
    (T : TurnR X.prog X.w X.K tg J [s.heap.objs.size] s.heap.objs.size tn Rn) (st : tn 0 (s.heap.push o)) (q : R J H) : PIRE X pins σ tg R Rn (.ref s.heap.objs.size) { s with heap := s.heap.push o, toks := tk } := by
  refine ⟨s.heap.objs.size, [s.heap.objs.size], tn, J, H, rfl, I.kept fun b ob e => Heap.get?_push_of_some _ e, T, st, fun b hb => ?_, q⟩
  have e : b = s.heap.objs.size := by simpa using hb
  subst e
  exact I.fpOk (Nat.le_refl _) (I.hok.fresh (Nat.le_refl _))
theorem pik_txt (he : KE n X ys e (tD cls W true m)) : PIK n X ys tg e (iD cls W (txtM m)) RS := by
  refine ⟨fun pins s σ H R hn tk I ⟨G, U0, He, ρ, Qd, Xd, r, w, k, x⟩ => ?_⟩
  simp only [wE] at w
  refine thn (he.run pins s σ H _ hn tk I (tD_in r w (fun d v H' e r' p f q => (⟨d, e, r', p, q⟩ : ∃ d, Ext G H H' ∧ RE G U0 He H' σ ρ ∧ Rp G (Uo U0 ρ σ) H' d v ∧ onS (binD .add d (.str [])) (onIt Qd))) x)) fun u s1 ⟨tk1, v, H1, I1, r1, d, e1, r1', p1, q1⟩ => ?_
  obtain ⟨t, rfl, q⟩ := txt_d q1
  obtain ⟨Hb, rb, kb, bk, hb⟩ := r1'.rebase
  cases (show v = V.str (mkS t) from p1)
  obtain ⟨tkn, rfl⟩ := r1
  have R1 := k _ _ H1 Hb e1 rb bk hb (IsIt.str t) q
  have tk2 : ∀ o, TokNs X ys { s1 with heap := s1.heap.push o } := fun o => tk1.fk (FK.kept (t := s1.toks) fun b u e => Heap.get?_push_of_some _ e) (Nat.le_refl _)
  cases ha : (mkS t).cps.all (· < 128)
  · exact wpAny_pyIter_wide ha ⟨tk2 _, pirone (tk := s1.toks) I1 _ (turnR_str _ (mkS t) tkn "str_iterator" (.inr rfl)) ⟨_, Heap.get?_push_size _ rfl, rfl, rfl⟩ R1⟩
  · exact wpAny_pyIter_ascii ha ⟨tk2 _, pirone (tk := s1.toks) I1 _ (turnR_str _ (mkS t) tkn "str_ascii_iterator" (.inl rfl)) ⟨_, Heap.get?_push_size _ rfl, rfl, rfl⟩ R1⟩
/-- enumerate(text) -/
theorem pik_enumS (hg : Gl X "enumerate") (hm : X.mg "enumerate" = none) (he : KE n X ys e (tD cls W true m)) (hs : starEach [e] X.env = (false, eval e X.env) :: starEach [] X.env := by rfl) :
    PIK n X ys (.Tuple elts kk tpos) (.Call (.Name "enumerate" p) [e] [] pos) (iD cls W (.enumS m)) TokP := by
  refine ⟨fun pins s σ H R hn tk I ⟨G, U0, He, ρ, Qd, Xd, r, w, k, x⟩ => ?_⟩
  simp only [wE] at w
  refine Call_ (ld_blt I hg hm boot_enumerate (PyProof.Rows.callWith_type1 (Q := fun v s1 => wpAny (model X.prog X.w) X.A (pyIter v) (fun itv s2 => TokNs X ys s2 ∧ PIRE X pins σ (.Tuple elts kk tpos) R TokP itv s2) X.xe s1) (by
    rw [hs]
    show wpAny _ _ (spliced ((false, eval e X.env) :: backTo pos (starEach [] X.env))) _ _ s
    refine Calls.spliced_cons (thn (he.run pins s σ H (fun v' H' => ∃ d, Ext G H H' ∧ RE G U0 He H' σ ρ ∧ Rp G (Uo U0 ρ σ) H' d v' ∧ (match d with
      | .str s => onIt Qd (.lst (enumD (chars s)))
      | _ => False)) hn tk I (tD_in r w (fun d v H' e r' p f q => ⟨d, e, r', p, q⟩) x)) fun u s1 ⟨tk1, v, H1, I1, ru, d, e1, r1', p1, q1⟩ => Calls.spliced_nil ?_)
    cases d <;> first
      | exact q1.elim
      | skip
    rename_i t
    obtain ⟨Hb, rb, kb, bk, hb⟩ := r1'.rebase
    have q' : Qd (enumD (chars t)) := q1
    cases (show v = V.str (mkS t) from p1)
    obtain ⟨tk0, rfl⟩ := ru
    refine call_enumerate_str fun g he' hit hsz hk => wpAny_pyIter_enum he' ?_
    have I2 : Inv X pins σ H1 { s1 with heap := g } := I1.kept (t' := s1.toks) hk
    have hty : strIterType (mkS t) = "str_ascii_iterator" ∨ strIterType (mkS t) = "str_iterator" := by
      unfold strIterType; split
      · exact .inl rfl
      · exact .inr rfl
    have T := turn_enumD (P := X.prog) (w := X.w) (K := X.K) (elts := elts) (kk := kk) (tpos := tpos) (n := (mkS t).cps.size) (V0 := fun i => .str ⟨#[t.getD i 0]⟩) (go := fun _ => True) (it := s1.heap.objs.size) (e := s1.heap.objs.size + 1) (Nat.succ_ne_self _)
      (Sx := fun i h => h.IsStrIter s1.heap.objs.size (strIterType (mkS t)) (mkS t) tk0 i) (Pv := fun i v => ∃ c u, (mkS t).cps[i]? = some c ∧ v = .str ⟨#[c]⟩ u)
      (fun i v ⟨c, u, hc, ev⟩ => ⟨u, by
        have : t[i]? = some c := by simpa [mkS] using hc
        rw [ev, List.getD_eq_getElem?_getD, this]; rfl⟩)
      (fun i h h' ⟨o, ho, q⟩ kp => ⟨o, kp o ho, q⟩) (fun i h ⟨o, ho, hc, hd⟩ => ⟨o, ho, fun v z => by rw [hd] at z; cases z⟩)
      (fun X' pins' s' σ' H' i hP hw hK hh I' _ hs hf => by
        have nm : s1.heap.objs.size + 1 ∉ [s1.heap.objs.size] := fun z => absurd (List.mem_singleton.mp z) (Nat.succ_ne_self _)
        rcases hty with e | e
        · rw [e] at hs
          exact ⟨_, _, Draws.strAscii (A := X'.A.in1) hh s1.heap.objs.size (mkS t) tk0, hs, nm, fun h z => by rw [e]; exact z⟩
        · rw [e] at hs
          exact ⟨_, _, Draws.strWide (A := X'.A.in1) hh s1.heap.objs.size (mkS t) tk0, hs, nm, fun h z => by rw [e]; exact z⟩)
    have TR := turnR_enum (w := X.w) (K := X.K) (elts := elts) (kk := kk) (tpos := tpos) (it := s1.heap.objs.size) (e := s1.heap.objs.size + 1) (x := mkS t) (t := tk0) hty (Nat.succ_ne_self _) (V0 := fun i => .str ⟨#[t.getD i 0]⟩) (fun i c hc => by
      have : t[i]? = some c := by simpa [mkS] using hc
      show V.str _ = _
      rw [List.getD_eq_getElem?_getD, this]; rfl) T
    refine ⟨tk1.fk (FK.kept (t := s1.toks) hk) (Nat.le_refl _), s1.heap.objs.size + 1, [s1.heap.objs.size + 1, s1.heap.objs.size], _, _, H1, rfl, I2, TR, ⟨⟨.none, he'⟩, hit⟩, fun b hb2 => ?_, k _ _ H1 Hb e1 rb bk hb (IsIt.enum rb.mv (by simp [chars, mkS]) (fun _ _ => trivial) fun i y hy => ?_) q'⟩
    · have e' : b = s1.heap.objs.size + 1 ∨ b = s1.heap.objs.size := by simpa using hb2
      have hle : s1.heap.objs.size ≤ b := by
        rcases e' with z | z
        · rw [z]; exact Nat.le_add_right _ _
        · rw [z]; exact Nat.le_refl _
      exact I1.fpOk hle (I1.hok.fresh hle)
    · obtain ⟨c, hc, rfl⟩ := chars_get hy
      show V.str _ = V.str _
      rw [List.getD_eq_getElem?_getD, hc]; rfl) hs rfl))
/-! ### for -/
variable {iter : Expr} {body : List Stmt} {wi : TI} {g : TG} {tb : TS} {xs : List Str}
theorem kfor_core (hp : PassesOwn (model X.prog X.w) X.A X.env X.xe) (hc : X.calm = true) (h1 : 1 ≤ n) (hi : PIK n X ys tg iter wi Rn) (hg : PGY n X ys xs tg g Rn) (hb : KSb n X xs ys body tb)
    (hbc : ∀ D σ H c b, tb D σ H → tb { D with ct := c, bk := b } σ H := by intro D σ H c b h; exact h)
    (hs : ∀ x, foldedSetIterable iter X.env x = pure x := by intro _; rfl) : KSt n X ys ys (.For tg iter body [] pos) (tFor wi g tb) := by
  refine ⟨fun pins s σ H D hn tk0 I h => ?_⟩
  refine wpAny_For (wpAny_mono (PySem.wpAny_toks (hi.run pins s σ H _ hn tk0 I h)) (fun v s1 ⟨t1, hv⟩ => wpAny_mono (PySem.wpAny_toks hv) (fun itv s2 ⟨t2, tk2, h2⟩ => ?_) fun _ _ z => z.2) fun _ _ z => z.2) hs
  obtain ⟨it, fp, tn, J, H2, e, I2, T, st2, f2, Wi, ⟨m0, w0⟩, turn⟩ := h2
  subst e
  have hn2 : n ≤ s2.toks := Nat.le_trans hn (Nat.le_trans t1 t2)
  have stat : ∀ {H' : Hp}, (∀ b ∈ fp, H' b = none) → ∀ b ∈ fp, FpOk X pins H' b := fun hn b hb => ⟨hn b hb, (f2 b hb).2⟩
  refine codeAny_forLoop_any (fun q s' => ∃ i σ' H', Inv X pins σ' H' s' ∧ tn i s'.heap ∧ (∀ b ∈ fp, H' b = none) ∧ Wi i q σ' H' ∧ n ≤ s'.toks ∧ TokNs X ys s') ?_ m0 ⟨0, σ, H2, I2, st2, fun b hb => (f2 b hb).1, w0, hn2, tk2⟩
  rintro q s3 ⟨i, σ3, H3, I3, st3, fr3, w3, hn3, tk3⟩
  have nfp : ∀ {s' : Shared} {σ' : L2.St} {H' : Hp}, Inv X pins σ' H' s' → (∀ b ∈ fp, H' b = none) → (∀ b o, b ∉ fp → s3.heap.get? b = some o → s'.heap.get? b = some o) → FK X s3 s' := fun {s' σ' H'} I' fr' kk => by
    have nl : X.env.locals ∉ fp := fun hm => (f2 _ hm).2.1 rfl
    refine ⟨fun m ⟨o, es, ep, ho, r⟩ => ⟨o, es, ep, kk _ o nl ho, r⟩, fun x c v e ⟨o, ho, hd⟩ => ⟨o, kk _ o (fun hm => (f2 _ hm).2.2.2.2.1 x c e rfl) ho, hd⟩⟩
  rcases turn i q σ3 H3 w3 with ⟨stop, qn⟩ | ⟨go, N, hN, step⟩
  · refine wpAny_passesOwn hp (wpAny_mono (PySem.wpAny_toks (T.done X rfl rfl rfl hc i pins s3 σ3 H3 X.xe I3 (stat fr3) st3 stop)) (fun r s4 ⟨t4, ⟨hr, I4⟩, k4⟩ => ?_) fun _ _ z => z.2)
    subst hr
    exact wpAny_execs_nil ⟨⟨σ3, H3, I4, qn⟩, fun _ => tk3.fk (nfp I4 fr3 k4) t4⟩
  · refine wpAny_passesOwn hp (wpAny_mono (PySem.wpAny_toks (T.item X rfl rfl rfl hc i pins s3 σ3 H3 X.xe (Nat.le_trans h1 hn3) I3 (stat fr3) st3 go)) (fun r s4 ⟨t4, u, hr, h4⟩ => ?_) fun _ _ z => z.2)
    subst hr
    refine wpAny_passesOwn hp (thn h4 fun _ s5 ⟨⟨x, H5, I5, r5, y5, st5, fr5⟩, rn5, t5, k5⟩ => ?_)
    have tk5 : TokNs X ys s5 := tk3.fk (nfp I5 fr5 k5) t5
    have hn5 : n ≤ s5.toks := Nat.le_trans hn3 t5
    have I5' := I5.pinned (stat fr5) (T.tu.obj _ _ st5)
    refine wpAny_passesOwn hp (wpAny_mono (PySem.wpAny_toks (hg.run _ s5 σ3 H5 x u _ hn5 rn5 tk5 I5' r5 (step x H5 y5))) (fun _ s6 ⟨t6, ⟨σ6, H6, I6, q6⟩, tk6⟩ => ?_) fun _ _ z => z.2)
    have hn6 : n ≤ s6.toks := Nat.le_trans hn5 t6
    refine wpAny_passesOwn hp (wpAny_mono (PySem.wpAny_toks (hb.run _ s6 σ6 H6 _ hn6 tk6 I6 (hbc _ _ _ (fun _ _ => False) (fun _ _ => False) q6))) (fun f s7 ⟨t7, q7, kn7⟩ => ?_) fun _ _ z => z.2)
    have hn7 : n ≤ s7.toks := Nat.le_trans hn6 t7
    cases f with
    | next =>
      obtain ⟨σ7, H7, I7, n7⟩ := q7
      obtain ⟨m', hm, w7⟩ := hN σ7 H7 n7
      refine ⟨m', hm, i + 1, σ7, H7, I7.unpinned, T.tu.keep _ _ _ st5 fun b hb o e => (I7.pin (b, o) (List.mem_append_right _ (List.mem_append_right _ (mem_pinsAt hb e)))).1, fun b hb => ?_, w7, hn7, kn7 rfl⟩
      obtain ⟨o, e, d⟩ := T.tu.obj _ _ st5 b hb
      exact (I7.pin (b, o) (List.mem_append_right _ (List.mem_append_right _ (mem_pinsAt hb e)))).2.1
    | cont => obtain ⟨_, _, _, z⟩ := q7; exact z.elim
    | brk => obtain ⟨_, _, _, z⟩ := q7; exact z.elim
    | ret v => obtain ⟨x7, σ7, H7, I7, r7, q7⟩ := q7; exact ⟨⟨x7, σ7, H7, I7.unpinned, r7, q7⟩, fun z => nomatch z⟩
end
end DL

set_option Elab.async false
set_option linter.all false
set_option maxRecDepth 100000
set_option maxHeartbeats 1000000
/-! DK13: more that keeps the frame: methods, append, tests of words; loops over data. -/
namespace DL
open PySem PySem.Spec PyProof.Rows L2
variable [Tb] {κ : Shared → Shared → Prop} [Kpr κ]
def MtK (X : Cx) (κ : Shared → Shared → Prop) (id : String) (r : V → List V → Hp → VK → Prop) : Prop :=
  ∀ (pins : List (Addr × Obj)) (s : Shared) (σ : L2.St) (H : Hp) (x : V) (xs : List V) (v : Value) (us : List Value) (Q : VK), Inv X pins σ H s → L2.RelV x v → Vals xs us → r x xs H Q → wpAny (model X.prog X.w) X.A (call (.builtin id) (v :: us)) (EPK X κ s pins σ Q) X.xe s
section
variable {X : Cx} {cls : Nat → Addr} {W : WX} {m m1 m2 : ME} {e o a b : Expr} {es : List Expr} {pos p apos cpos : Pos} {to : TE} {t : TA} {name : Str} {T id : String} {r : V → List V → Hp → VK → Prop} {n : Nat} {ys zs : List Str} {fr : List Nat}
theorem pek_bm (pa : PlainAttrs T) (slot : PySem.Slot T name id) (hty : typeOf (.builtin id) = pure (.type "method_descriptor")) (hm : MtK X κ id r) (ho : PEK X κ o to) (ha : PAK X κ (e :: es) t)
    (hbase : attributeBase o name X.env (eval o X.env) = eval o X.env := by rfl)
    (hfew : ((backTo cpos (starEach (e :: es) X.env)).all (fun x => !x.1) && (backToKw cpos (keywordEach [] X.env)).all (fun x => x.1.isSome)
      && decide ((e :: es).length + ([] : List Keyword).length + (if ([] : List Keyword).isEmpty then 0 else 1) < 30)) = true := by rfl)
    (hline : (apos.endLine == cpos.line) = true := by rfl) (hs : starEach (e :: es) X.env = (false, eval e X.env) :: starEach es X.env := by rfl) (hplain : (backTo cpos (starEach es X.env)).any (·.1) = false := by rfl) :
    PEK X κ (.Call (.Attribute o name apos) (e :: es) [] cpos) (tBM X.K T r to t) := by
  refine ⟨fun pins s σ H Q I h => ?_⟩
  refine wpAny_Call_method_late hbase hfew hline rfl (thn (ho.run pins s σ H _ I h) fun v s1 ⟨k1, x, H1, I1, r1, ty, q1⟩ => ?_)
  obtain ⟨h1, h2⟩ := tyV_is I1 r1 ty
  refine ⟨T, id, pa, slot, hty, h1, h2, ?_⟩
  have hA := ha.run cpos pins s1 σ H1 _ I1 q1
  rw [hs] at hA ⊢
  refine Calls.callWith_builtin (by show (false || (backTo cpos (starEach es X.env)).any (·.1)) = false; rw [hplain] <;> rfl) (Calls.evalArgs_plain ?_)
  exact thn hA fun us s2 ⟨k2, vs, H2, I2, r2, q2⟩ => thn (hm pins s2 σ H2 x vs v us Q I2 r1 r2 q2) fun _ _ z => EPK.of (Kpr.trans k1 k2) z
theorem mtk_sindex : MtK X κ "str.index" (fun x xs H Q => ∃ a b i rest, x = .str a ∧ xs = [.str b] ∧ Builtin.Str.occurrences a b 0 a.length 1 = i :: rest ∧ Q (.int (i : Nat)) H) := by
  intro pins s σ H x xs v us Q I rx rs ⟨a, b, i, rest, e1, e2, ho, q⟩
  subst e1 e2
  obtain ⟨t, rfl⟩ := rx
  cases rs with
  | cons r1 rs =>
    cases rs
    obtain ⟨t2, rfl⟩ := r1
    exact PySem.SC.index ho ⟨Kpr.tok, .int (i : Nat), H, I.tok _, ⟨_, rfl⟩, q⟩
theorem mtk_append : MtK X (FK X) "list.append" rAppend := by
  intro pins s σ H x vs v us Q I rx rv ⟨l, xs, y, e1, e2, hH, hz, q⟩
  subst e1 e2
  cases rx
  obtain ⟨u, rfl, ru⟩ := rv.one
  obtain ⟨z, its, n, r, hl, e⟩ := I.lstM hH
  refine append_at (hsz := by rw [List.size_toArray]; omega) e fun g sb ho => ?_
  have kp : ∀ b o, b ≠ l → s.heap.get? b = some o → g.get? b = some o := fun b o hb q => (sb.2 b hb).trans q
  refine ⟨FK.but (t := s.toks) I (by rw [hH]; simp) kp, .non, _, I.write (o := .lst (xs ++ [y])) (t' := s.toks) (by rw [hH]; trivial) (.inl rfl) kp ⟨_, ho⟩ ⟨by rw [List.length_append]; exact hz, its ++ [u], n + 1, r.append (.cons ru .nil), by rw [ho]; simp⟩, rfl, q⟩
theorem imp_index {σ : L2.St} {H : Hp} {Q : VK} (q : tD cls W true (.b2 .index m1 m2) σ H Q) : tBM X.K "str" (fun x xs H Q => ∃ a b i rest, x = .str a ∧ xs = [.str b] ∧ Builtin.Str.occurrences a b 0 a.length 1 = i :: rest ∧ Q (.int (i : Nat)) H) (tD cls W false m1) (tCons (tD cls W false m2) tNil) σ H Q := by
  obtain ⟨G, U0, He, ρ, Qd, Xd, r, w, k, x⟩ := q
  simp only [wE] at w
  refine tD_in r w (fun d1 v1 H1 e1 r1 p1 fz1 w1 => ?_) x
  obtain ⟨bt, w1⟩ := w1
  cases d1 <;> first
    | cases bt
    | skip
  rename_i s
  cases (show v1 = V.str (mkS s) from p1.p)
  refine ⟨rfl, tD_in r1 w1 (fun d2 v2 H2 e2 r2 p2 fz2 w2 => ?_) fun j H2 e2 q => x j H2 (e1.trans e2) q⟩
  obtain ⟨dz, q, w3⟩ := onS_some w2
  obtain ⟨s', c, i, es, rfl, hi, rfl⟩ := b2_index q
  cases es
  cases (show v2 = V.str (mkS [c]) from p2.p)
  obtain ⟨rest, hr⟩ := occ_sign hi
  exact ⟨mkS s, mkS [c], i, rest, rfl, rfl, hr, k (.int (i : Nat)) _ H2 (e1.trans e2) rfl (Fre.no rfl) w3⟩
theorem k_index (ho : PEK X κ o (tD cls W false m1)) (he : PEK X κ e (tD cls W false m2))
    (hbase : attributeBase o "index" X.env (eval o X.env) = eval o X.env := by rfl)
    (hfew : ((backTo cpos (starEach [e] X.env)).all (fun x => !x.1) && (backToKw cpos (keywordEach [] X.env)).all (fun x => x.1.isSome)
      && decide ([e].length + ([] : List Keyword).length + (if ([] : List Keyword).isEmpty then 0 else 1) < 30)) = true := by rfl)
    (hline : (apos.endLine == cpos.line) = true := by rfl) (hs : starEach [e] X.env = (false, eval e X.env) :: starEach [] X.env := by rfl) :
    PEK X κ (.Call (.Attribute o "index" apos) [e] [] cpos) (tD cls W true (.b2 .index m1 m2)) :=
  (pek_bm PySem.F.plainAttrs_str PySem.F.slot_str_index PySem.F.type_str_index mtk_sindex ho (pak_cons he pak_nil hs) hbase hfew hline hs rfl).imp fun σ H Q q => imp_index q
theorem imp_app {i : Nat} {E : Ends} {σ : L2.St} {H : Hp} (q : tS cls W (.app i fr m) E σ H) : tBM X.K "list" rAppend (tVar i) (tCons (tD cls W true m) tNil) σ H fun _ H1 => E.nx σ H1 := by
  obtain ⟨G, U0, He, ρ, N, R, Xd, r, w, k⟩ := q
  simp only [wS] at w
  have r0 := r.frz fr
  split at w
  · rename_i ds hn
    obtain ⟨a, h1, n0, h3, xs, hx, lx⟩ := r0.own _ _ hn
    refine ⟨_, h1, .inl ⟨rfl, _, SqL.of hx⟩, tD_in r0 w (fun d1 v1 H1 e1 r1 p1 _ w1 => ?_) (k.xe r0)⟩
    have hx1 := e1.keep a _ hx fun mm => n0 (r0.mv _ mm)
    have lx1 := RpL.keep (r0.kp e1) (fun _ z => .inl z) _ _ lx
    refine ⟨a, xs, v1, rfl, rfl, hx1, by rw [lx.len, sizeLine_eq]; exact w1.1, ?_⟩
    refine k.nx _ _ _ (r1.write (d' := .lst (ds ++ [d1])) hn h1 (.inl ⟨xs, hx1⟩) ⟨xs ++ [v1], upd_same, ?_⟩) w1.2
    have ha : Uo U0 (DL.frz fr ρ) σ a := .inr ⟨i, _, hn, h1⟩
    exact RpL.keep (Kp.listUpd (G := G) hx1 ha) (fun _ z => .inl z) _ _ (lx1.append ⟨v1, [], rfl, p1, rfl⟩)
  · exact w.elim
theorem ks_expr {t : TE} {D' : TS} (he : KE n X ys e t) (hi : ∀ E σ H, D' E σ H → t σ H fun _ H1 => E.nx σ H1) (hs : swapsWith e none pos.line X.env = pure false := by rfl) : KSt n X ys ys (.Expr e pos) D' := by
  refine ⟨fun pins s σ H D hn tk I h => ?_⟩
  exact wpAny_Expr_any (thn (he.run pins s σ H _ hn tk I (hi _ _ _ h)) fun v s1 ⟨k1, x, H1, I1, r1, q1⟩ => ⟨⟨σ, H1, I1, q1⟩, fun _ => k1⟩) I.quiet hs
theorem ks_app {i : Nat} {x : Str} (hN : X.N[i]? = some x) (hv : Vis X.env.scope x) (he : PEK X (FK X) e (tD cls W true m))
    (hd : (x == ("__debug__" : Str)) = false := by decide) (hcd : (x == ("__classdict__" : Str)) = false := by decide)
    (hbase : attributeBase (.Name x p) "append" X.env (eval (.Name x p) X.env) = eval (.Name x p) X.env := by rfl)
    (hfew : ((backTo cpos (starEach [e] X.env)).all (fun x => !x.1) && (backToKw cpos (keywordEach [] X.env)).all (fun x => x.1.isSome)
      && decide ([e].length + ([] : List Keyword).length + (if ([] : List Keyword).isEmpty then 0 else 1) < 30)) = true := by rfl)
    (hline : (apos.endLine == cpos.line) = true := by rfl) (hs : starEach [e] X.env = (false, eval e X.env) :: starEach [] X.env := by rfl)
    (hsw : swapsWith (.Call (.Attribute (.Name x p) "append" apos) [e] [] cpos) none pos.line X.env = pure false := by rfl) :
    KSt n X ys ys (.Expr (.Call (.Attribute (.Name x p) "append" apos) [e] [] cpos) pos) (tS cls W (.app i fr m)) :=
  ks_expr (ke_of (pek_bm PySem.F.plainAttrs_list PySem.F.slot_list_append PySem.F.type_list_append mtk_append (pek_var hN hv hd hcd) (pak_cons he pak_nil hs) hbase hfew hline hs rfl)) (fun E σ H q => imp_app q) hsw
/-! ### words -/
structure KW (n : Nat) (X : Cx) (ys : List Str) (e : Expr) (t : TT) : Prop where
  run : ∀ (whole : Sem Value) (pins : List (Addr × Obj)) (s : Shared) (σ : L2.St) (H : Hp) (Q : Bool → Hp → Prop), n ≤ s.toks → TokNs X ys s → Inv X pins σ H s → t σ H Q → wpAny (model X.prog X.w) X.A (isTrue e X.env whole) (fun b s1 => TokNs X ys s1 ∧ TP X pins σ Q b s1) X.xe s
theorem KW.kt {t : TT} (h : KW n X ys e t) : KT n X ys e t := ⟨h.run _⟩
theorem kw_one {op} (ha : KT n X ys a (tT cls W m1)) (h : op = .And ∨ op = .Or) : KW n X ys (.BoolOp op [a] pos) (tT cls W m1) := by
  rcases h with h | h <;> subst h
  · refine ⟨fun wh pins s σ H Q hn tk I h => isTrue_and (thn (ha.run pins s σ H Q hn tk I h) fun c s1 e => ?_)⟩
    cases c with
    | true => exact isTrue_and_nil e
    | false => exact e
  · refine ⟨fun wh pins s σ H Q hn tk I h => isTrue_or (thn (ha.run pins s σ H Q hn tk I h) fun c s1 e => ?_)⟩
    cases c with
    | false => exact isTrue_or_nil e
    | true => exact e
theorem kw_and {rest : List Expr} (ha : KT n X ys a (tT cls W m1)) (hb : KW n X ys (.BoolOp .And (b :: rest) pos) (tT cls W m2)) : KW n X ys (.BoolOp .And (a :: b :: rest) pos) (tT cls W (.and m1 m2)) := by
  refine ⟨fun wh pins s σ H Q hn tk I ⟨G, U0, He, ρ, Qd, Xd, r, w, k, x⟩ => ?_⟩
  simp only [wE] at w
  refine isTrue_and (wpAny_mono (PySem.wpAny_toks (ha.run pins s σ H (fun z H1 => if z = true then tT cls W m2 σ H1 Q else Q false H1) hn tk I (tT_in r w (fun z H1 e1 r1 w1 => ?_) x))) (fun c s1 ⟨t1, k1, H1, I1, q1⟩ => ?_) fun _ _ z => z.2)
  · cases z with
    | false => exact k _ H1 e1 w1
    | true => exact tT_in (m := m2) r1 w1 (fun b H2 e2 r2 w2 => k _ H2 (e1.trans e2) w2) fun j H2 e2 q => x j H2 (e1.trans e2) q
  · cases c with
    | true => exact hb.run wh pins s1 σ H1 Q (Nat.le_trans hn t1) k1 I1 q1
    | false => exact ⟨k1, H1, I1, q1⟩
theorem kw_or {rest : List Expr} (ha : KT n X ys a (tT cls W m1)) (hb : KW n X ys (.BoolOp .Or (b :: rest) pos) (tT cls W m2)) : KW n X ys (.BoolOp .Or (a :: b :: rest) pos) (tT cls W (.or m1 m2)) := by
  refine ⟨fun wh pins s σ H Q hn tk I ⟨G, U0, He, ρ, Qd, Xd, r, w, k, x⟩ => ?_⟩
  simp only [wE] at w
  refine isTrue_or (wpAny_mono (PySem.wpAny_toks (ha.run pins s σ H (fun z H1 => if z = true then Q true H1 else tT cls W m2 σ H1 Q) hn tk I (tT_in r w (fun z H1 e1 r1 w1 => ?_) x))) (fun c s1 ⟨t1, k1, H1, I1, q1⟩ => ?_) fun _ _ z => z.2)
  · cases z with
    | true => exact k _ H1 e1 w1
    | false => exact tT_in (m := m2) r1 w1 (fun b H2 e2 r2 w2 => k _ H2 (e1.trans e2) w2) fun j H2 e2 q => x j H2 (e1.trans e2) q
  · cases c with
    | false => exact hb.run wh pins s1 σ H1 Q (Nat.le_trans hn t1) k1 I1 q1
    | true => exact ⟨k1, H1, I1, q1⟩
theorem k_neg (ha : PEK X κ a (tD cls W false m1)) : PEK X κ (.UnaryOp .USub a pos) (tD cls W true (.neg m1)) := by
  refine ⟨fun pins s σ H Q I ⟨G, U0, He, ρ, Qd, Xd, r, w, k, x⟩ => ?_⟩
  simp only [wE] at w
  refine UnaryOp_ (thn (ha.run pins s σ H (fun v H1 => ∃ i, v = .int i ∧ Q (.int (-i)) H1) I (tD_in r w (fun d v H1 e1 r1 p1 _ w1 => ?_) x)) fun u s1 ⟨k1, v, H1, I1, r1, i, ev, q⟩ => ?_)
  · cases d <;> first
      | exact (w1 : False).elim
      | exact ⟨_, p1.p, k (.int _) _ H1 e1 rfl (Fre.no rfl) w1⟩
  · subst ev
    obtain ⟨t, rfl⟩ := r1
    exact neg_int ⟨Kpr.trans k1 Kpr.tok, .int (-i), H1, I1.tok _, ⟨_, rfl⟩, q⟩
theorem k_str {x : Str} {j} (s : List Nat) (hs : x = mkS s := by rfl) : PEK X κ (.Constant (.str x) j pos) (tD cls W true (.con (.str s))) := pek_str.imp fun _ _ _ q => by
  rw [hs]; exact imp_con (d := .str s) (v := .str (mkS s)) (fun _ _ _ => rfl) rfl q
/-! ### for -/
theorem imp_for {g : MG} {ss : List MS} {E : Ends} {σ : L2.St} {H : Hp} (q : tS cls W (.for g fr m ss) E σ H) : tFor (iD cls W m) (gD g) (tSs cls W ss) E σ H := by
  obtain ⟨G, U0, He, ρ, N, R, Xd, r, w, k⟩ := q
  simp only [wS] at w
  have r0 := r.frz fr
  refine ⟨G, U0, He, _, _, Xd, r0, w, fun xs J H1 Hb e1 rb bk hsub it q => ?_, k.xe r0⟩
  refine ⟨fun i mm σ' H' => mm = xs.length - i ∧ i ≤ xs.length ∧ ∃ ρ', RE G U0 Hb H' σ' ρ' ∧ wLoop (fun x ρ' K => onS (asgG g x ρ') fun ρ'' => wSs ss ρ'' K R Xd) (xs.drop i) ρ' N,
    ⟨_, rfl, Nat.zero_le _, _, rb, q⟩, fun i mm σ' H' ⟨hm, hi, ρ', r', w'⟩ => ?_⟩
  have le := rb.le hsub r'
  by_cases hlt : i < xs.length
  · refine .inr ?_
    have hx : xs[i]? = some xs[i] := List.getElem?_eq_getElem hlt
    obtain ⟨go, yl⟩ := it.at_ H' le i _ hx
    rw [List.drop_eq_getElem_cons hlt] at w'
    have w' : onS (asgG g xs[i] ρ') fun ρ'' => wSs ss ρ'' (fun ρ' => wLoop (fun x ρ' K => onS (asgG g x ρ') fun ρ'' => wSs ss ρ'' K R Xd) (xs.drop (i + 1)) ρ' N) R Xd := w'
    obtain ⟨ρ2, a2, w2⟩ := onS_some w'
    refine ⟨go, fun σ' H' => ∃ ρ', RE G U0 Hb H' σ' ρ' ∧ wLoop (fun x ρ' K => onS (asgG g x ρ') fun ρ'' => wSs ss ρ'' K R Xd) (xs.drop (i + 1)) ρ' N,
      fun σ' H' h => ⟨xs.length - (i + 1), by omega, rfl, hlt, h⟩, fun v H2 y => ?_⟩
    obtain ⟨sm, rp⟩ := yl v H2 y
    have r2 := r'.step (Ext.same sm)
    refine ⟨G, U0, Hb, ρ', _, ρ2, r2, rp _ r'.uo, a2, fun σ3 k3 => ?_⟩
    have r3 := k3.re
    exact ⟨G, U0, Hb, ρ2, _, R, Xd, r3, w2, ⟨fun ρ4 σ4 H4 r4 w4 => ⟨ρ4, r4, w4⟩, fun d v ρ4 σ4 H4 r4 p4 q4 => k.rt d v ρ4 σ4 H4 (bk _ _ _ r4) p4 q4, fun j ρ4 σ4 H4 r4 q4 => k.xc j ρ4 σ4 H4 (bk _ _ _ r4) q4⟩⟩
  · have ei : i = xs.length := by omega
    subst ei
    rw [List.drop_length] at w'
    exact .inl ⟨it.stop H' le, k.nx _ _ _ (bk _ _ _ r') w'⟩
theorem ks_for {tg iter : Expr} {body : List Stmt} {g : MG} {ss : List MS} {xs : List Str} {Rn : Value → Shared → Prop} (hp : PassesOwn (model X.prog X.w) X.A X.env X.xe) (hc : X.calm = true) (h1 : 1 ≤ n) (hi : PIK n X ys tg iter (iD cls W m) Rn) (hg : PGY n X ys xs tg (gD g) Rn) (hb : KSb n X xs ys body (tSs cls W ss))
    (hs : ∀ x, foldedSetIterable iter X.env x = pure x := by intro _; rfl) : KSt n X ys ys (.For tg iter body [] pos) (tS cls W (.for g fr m ss)) :=
  (kfor_core hp hc h1 hi hg hb (fun D σ H c b ⟨G, U0, He, ρ, N, R, Xd, r, w, k⟩ => ⟨G, U0, He, ρ, N, R, Xd, r, w, ⟨k.nx, k.rt, k.xc⟩⟩) hs).imp fun E σ H q => imp_for q
/-- a for behind which nothing is known of names -/
theorem ks_for0 {tg iter : Expr} {body : List Stmt} {g : MG} {ss : List MS} {xs : List Str} {Rn : Value → Shared → Prop} (hp : PassesOwn (model X.prog X.w) X.A X.env X.xe) (hc : X.calm = true) (h1 : 1 ≤ n) (hi : PIR X tg iter (iD cls W m) Rn) (hg : PGY n X [] xs tg (gD g) Rn) (hb : KSb n X xs [] body (tSs cls W ss))
    (hs : ∀ x, foldedSetIterable iter X.env x = pure x := by intro _; rfl) : KSt n X ys [] (.For tg iter body [] pos) (tS cls W (.for g fr m ss)) :=
  have h : KSt n X [] [] (.For tg iter body [] pos) (tS cls W (.for g fr m ss)) := ks_for hp hc h1 ⟨fun pins s σ H R _ _ I q => thn (hi.run pins s σ H R I q) fun _ _ z => thn z fun _ _ z => ⟨TokNs.nil, z⟩⟩ hg hb hs
  ⟨fun pins s σ H D a _ I q => h.run pins s σ H D a TokNs.nil I q⟩
end
end DL

set_option Elab.async false
set_option linter.all false
set_option maxRecDepth 100000
set_option maxHeartbeats 1000000
/-! DK14: a letter taken out of a name's text; defs whose bodies want a token out. -/
namespace DL
open PySem PySem.Spec PyProof.Rows L2
variable [Tb]
section
variable {X : Cx} {cls : Nat → Addr} {W : WX} {m : ME} {e : Expr} {pos : Pos} {n : Nat} {ys : List Str} {fr : List Nat} {x y : Str}
theorem psy_set {i : Nat} {pos' : Pos} (hN : X.N.Nodup) (hi : X.N[i]? = some x) (hx : Loc X.env.scope x) (he : PEy X y e (tD cls W true m)) (hs : swapsWith e (some (.Name x pos')) pos.line X.env = pure false := by rfl) (hf : X.fn x = true ∨ X.env.scope.names.lookup x = some .local := by first | exact .inl rfl | exact .inr rfl) :
    PSy X y (.Assign [.Name x pos'] e pos) (tS cls W (.asg (.nm i) fr m)) := by
  refine ⟨fun pins s0 σ H D tk I z => ?_⟩
  refine wpAny_Assign_Name (thn (he.run pins s0 σ H _ tk I (imp_set z)) fun v s1 ⟨w, H1, I1, r1, q1⟩ => ?_) hs
  exact store_ok I1 hN hi hx r1 (fun s2 I2 => ⟨_, H1, I2, q1⟩) hf
theorem ks_drop {zs : List Str} {st : Stmt} {t : TS} (h : KSt n X [] zs st t) : KSt n X ys zs st t := ⟨fun pins s σ H D a _ I q => h.run pins s σ H D a TokNs.nil I q⟩
/-- a plain for, tokens being out -/
theorem ks_forP {tg iter : Expr} {body : List Stmt} {g : MG} {ss : List MS} (hp : PassesOwn (model X.prog X.w) X.A X.env X.xe) (hc : X.calm = true) (hi : PI X tg iter (iD cls W m)) (hg : PG X tg (gD g)) (hb : KSb n X [] [] body (tSs cls W ss))
    (hs : ∀ x, foldedSetIterable iter X.env x = pure x := by intro _; rfl) : KSt n X ys [] (.For tg iter body [] pos) (tS cls W (.for g fr m ss)) := by
  refine ⟨fun pins s σ H D hn _ I z => ?_⟩
  have h := imp_for z
  refine wpAny_For (wpAny_mono (PySem.wpAny_toks (hi.run pins s σ H _ I h)) (fun v s1 ⟨t1, hv⟩ => wpAny_mono (PySem.wpAny_toks hv) (fun itv s2 ⟨t2, h2⟩ => ?_) fun _ _ z => z.2) fun _ _ z => z.2) hs
  obtain ⟨it, fp, tn, J, H2, e, I2, T, st2, f2, Wi, ⟨m0, w0⟩, turn⟩ := h2
  subst e
  have stat : ∀ {H' : Hp}, (∀ b ∈ fp, H' b = none) → ∀ b ∈ fp, FpOk X pins H' b := fun hn b hb => ⟨hn b hb, (f2 b hb).2⟩
  refine codeAny_forLoop_any (fun q s' => ∃ i σ' H', Inv X pins σ' H' s' ∧ tn i s'.heap ∧ (∀ b ∈ fp, H' b = none) ∧ Wi i q σ' H' ∧ n ≤ s'.toks) ?_ m0 ⟨0, σ, H2, I2, st2, fun b hb => (f2 b hb).1, w0, Nat.le_trans hn (Nat.le_trans t1 t2)⟩
  rintro q s3 ⟨i, σ3, H3, I3, st3, fr3, w3, hn3⟩
  rcases turn i q σ3 H3 w3 with ⟨stop, qn⟩ | ⟨go, N, hN, step⟩
  · refine wpAny_passesOwn hp (thn (T.done X rfl rfl rfl hc i pins s3 σ3 H3 X.xe I3 (stat fr3) st3 stop) fun r s4 ⟨hr, I4⟩ => ?_)
    subst hr
    exact wpAny_execs_nil ⟨⟨σ3, H3, I4, qn⟩, fun _ => TokNs.nil⟩
  · refine wpAny_passesOwn hp (wpAny_mono (PySem.wpAny_toks (T.item X rfl rfl rfl hc i pins s3 σ3 H3 X.xe I3 (stat fr3) st3 go)) (fun r s4 ⟨t4, u, hr, h4⟩ => ?_) fun _ _ z => z.2)
    subst hr
    refine wpAny_passesOwn hp (wpAny_mono (PySem.wpAny_toks h4) (fun _ s5 ⟨t5, x, H5, I5, r5, y5, st5, fr5⟩ => ?_) fun _ _ z => z.2)
    have I5' := I5.pinned (stat fr5) (T.obj _ _ st5)
    refine wpAny_passesOwn hp (wpAny_mono (PySem.wpAny_toks (hg.run _ s5 σ3 H5 x u _ I5' r5 (step x H5 y5))) (fun _ s6 ⟨t6, σ6, H6, I6, q6⟩ => ?_) fun _ _ z => z.2)
    have hn6 : n ≤ s6.toks := Nat.le_trans hn3 (Nat.le_trans t4 (Nat.le_trans t5 t6))
    obtain ⟨G, U0, He, ρ, Nx, R, Xd, r, w, k⟩ := q6
    refine wpAny_passesOwn hp (wpAny_mono (PySem.wpAny_toks (hb.run _ s6 σ6 H6 { D with nx := N, ct := fun _ _ => False, bk := fun _ _ => False } hn6 TokNs.nil I6 ⟨G, U0, He, ρ, Nx, R, Xd, r, w, ⟨k.nx, k.rt, k.xc⟩⟩)) (fun f s7 ⟨t7, q7, kn7⟩ => ?_) fun _ _ z => z.2)
    have hn7 : n ≤ s7.toks := Nat.le_trans hn6 t7
    cases f with
    | next =>
      obtain ⟨σ7, H7, I7, n7⟩ := q7
      obtain ⟨m', hm, w7⟩ := hN σ7 H7 n7
      refine ⟨m', hm, i + 1, σ7, H7, I7.unpinned, T.keep _ _ _ st5 fun b hb o e => (I7.pin (b, o) (List.mem_append_right _ (List.mem_append_right _ (mem_pinsAt hb e)))).1, fun b hb => ?_, w7, hn7⟩
      obtain ⟨o, e, d⟩ := T.obj _ _ st5 b hb
      exact (I7.pin (b, o) (List.mem_append_right _ (List.mem_append_right _ (mem_pinsAt hb e)))).2.1
    | cont => obtain ⟨_, _, _, z⟩ := q7; exact z.elim
    | brk => obtain ⟨_, _, _, z⟩ := q7; exact z.elim
    | ret v => obtain ⟨x7, σ7, H7, I7, r7, q7⟩ := q7; exact ⟨⟨x7, σ7, H7, I7.unpinned, r7, q7⟩, fun z => nomatch z⟩
theorem ksb_end : KSb n X ys [] [] (tSs cls W []) := ksb_of tss_nil
end
/-- a def whose first parameter is a plain local, its body run with a token out -/
theorem fn_N {CX : CXT} {P : Program} {w : World} {K : PySem.W.Frag} {mg : Str → Option Value} {base : Heap} {k : Nat} {f : Addr} {name qual : Str} {params : Arguments} {body : List Stmt} {scope : Scope} {dV kV doc pm cdv ct oc : Value} {an od : Option Addr}
    {osl : Array (Option Value)} {N ps : List Str} {p0 : Str} {pr : List Str} {sp : Sp} (lk : K.lookup f = some ⟨oc, od, .func (PySem.W.fnOf name qual params body scope dV kV doc pm an cdv ct), osl⟩) (hcd : PySem.W.codeIn K cdv qual = true) (S : FnScope N ps scope) (hps : ps = p0 :: pr) (hp0 : scope.names.lookup p0 = some .local)
    (len : ∀ vs H Q E, sp vs H Q E → vs.length = ps.length)
    (hbody : ∀ (A : Around) (outer : List Env) (s : Shared) (H : Hp) (vs : List V) (Q : VK) (E : XK), Room k (A.deeper (envOfC qual scope s.heap.objs.size f cdv)) → sp vs H Q E →
      ∃ t, PSn 1 (cxOf CX P w K mg base N qual scope f cdv A outer s H E) body t ∧ t { nx := fun _ H' => Q .non H', rt := Q } (L2.start N vs) H) :
    FnOk P w K mg base CX (k + 1) f (PySem.W.fnOf name qual params body scope dV kV doc pm an cdv ct) ps sp := by
  refine ⟨len, fun A outer s H args us vs Q E hr e0 hb r hsp => ?_⟩
  have hl := len _ _ _ _ hsp
  have k0 := fun b o (z : base.get? b = some o) => (e0.bs b o z).1
  have hKin : K.In s.heap := e0.mod.kin.keeps k0
  have hk2 : ∀ y ∈ ps.zip us, scope.names.lookup y.1 = some .local ∨ (scope.names.lookup y.1 = some .cell ∧ ((cellsFrom (s.heap.objs.size + 1) scope.names []).lookup y.1).isSome = true) := fun ⟨n, v⟩ hy =>
    (S.par n (List.of_mem_zip hy).1).elim .inl fun z => .inr ⟨z, PySem.W.cellsFrom_some _ _ _ (.inl z)⟩
  obtain ⟨u0, ur, eu⟩ : ∃ u0 ur, us = u0 :: ur := by
    cases us with
    | nil => exact absurd (hl.symm.trans r.length) (by rw [hps]; simp)
    | cons a b => exact ⟨a, b, rfl⟩
  refine codeAny_call_function hr.depth (hKin _ _ lk) rfl S.co S.gen rfl (PySem.W.codeRec_of hKin hcd) (hb _ _ _ _ ?_)
  have ez : ps.zip us = (p0, u0) :: pr.zip ur := by rw [hps, eu]; rfl
  rw [ez] at hk2 ⊢
  refine newFn S.kind hp0 (fun y hy => hk2 y (List.mem_cons_of_mem _ hy)) fun s1 ht x => ?_
  rw [← ez] at x
  refine ⟨(e0.mod.nolimit.keeps k0).keeps x.toInCall.keep, codeAny_func ?_⟩
  obtain ⟨t, hpt, hq⟩ := hbody A outer s H vs Q E (hr.deeper _) hsp
  have I : Inv (cxOf CX P w K mg base N qual scope f cdv A outer s H E) [] (L2.start N vs) H s1 := inv_start S hr.hd e0 hl r x
  refine wpAny_mono (hpt.run [] s1 (L2.start N vs) H _ ht I hq) (fun fl s' hs => ?_) fun e s' hs => hs
  cases fl with
  | ret u =>
    obtain ⟨v, σ', H', J, rv, q⟩ := hs
    exact ⟨v, H', J.os, J.bare, J.base, J.hok, rv, q⟩
  | next =>
    obtain ⟨σ', H', J, q⟩ := hs
    exact ⟨V.non, H', J.os, J.bare, J.base, J.hok, rfl, q⟩
  | brk => exact hs.elim fun _ z => z.elim fun _ z => z.2.elim
  | cont => exact hs.elim fun _ z => z.elim fun _ z => z.2.elim
section
variable {P : Program} {w : World} {K : PySem.W.Frag} {mg : Str → Option Value} {base : Heap} {cls : Nat → Addr}
theorem calN {S : FS} {ms : List MS} {x : Str} {st : Stmt} {f : Addr} {fd : FuncData} {N ps : List Str} {p0 : Str} {pr : List Str} {k : Nat} (F : Fun K x x st f fd) (hm : mg x = some (.ref f)) (hb : Binds K fd ps []) (Sc : FnScope N ps (defScope st)) (hn : ps.length ≤ N.length) (hps : ps = p0 :: pr) (hp0 : (defScope st).names.lookup p0 = some .local)
    (hlen : ∀ ds Q X, S ds Q X → ds.length = ps.length)
    (hbody : ∀ (cdv : Value) (A : Around) (outer : List Env) (s : Shared) (H : Hp) (E : XK), Body P w K mg base cls k (cxOf (L2N.CX P w) P w K mg base N x (defScope st) f cdv A outer s H E) (fun c d _ H => E c d H) →
      PSn 1 (cxOf (L2N.CX P w) P w K mg base N x (defScope st) f cdv A outer s H E) (defBody st) (tSs cls (fun c d _ H => E c d H) ms))
    (obl : ∀ ds Q Xd, S ds Q Xd → wSs ms (envD N.length ds) (fun _ => Q .non) Q Xd) : Cal P w K mg base cls (k + 1) x S := by
  obtain ⟨oc, od, kV, doc, pm, an, cdv, ct, osl, rfl, lk, hcd⟩ := F.ex
  refine ⟨f, _, ps, fn_N lk hcd Sc hps hp0 (fun vs H Q E h => ?_) (fun A outer s H vs Q E hr h => ?_), hm, F.kp, hb⟩
  · obtain ⟨G, U0, ds, Qd, Xd, _, _, _, l, w, _⟩ := h
    rw [l.len]
    exact hlen _ _ _ w
  · obtain ⟨G, U0, ds, Qd, Xd, hm, ht, hi, l, w, k1, k2⟩ := h
    refine ⟨_, hbody cdv A outer s H E ⟨rfl, hr, L2N.takes_of rfl rfl rfl rfl, passes_of rfl⟩, ?_⟩
    refine ⟨G, U0, H, _, _, Qd, Xd, RE.start hm ht hi l (by rw [hlen _ _ _ w]; exact hn), obl _ _ _ w, ⟨fun ρ' σ' H' r q => ?_, fun d v ρ' σ' H' r p q => ?_, fun j ρ' σ' H' r q => ?_⟩⟩
    · exact k1 .non .non H' ⟨r.ext, fun _ => r.inv⟩ rfl q
    · exact k1 d v H' ⟨r.ext, fun _ => r.inv⟩ (p.anti fun a m => .inl (.inl m)) q
    · exact k2 j H' ⟨r.ext, fun _ => r.inv⟩ q
end
end DL

set_option Elab.async false
set_option linter.all false
set_option maxRecDepth 100000
set_option maxHeartbeats 1000000
/-! DK15: comprehensions whose source leans on a name's token. -/
namespace DL
open PySem PySem.Spec PyProof.Rows L2
variable [Tb]
/-- an iterator comes where y holds a text of known token -/
structure PIY (X : Cx) (y : Str) (tg iter : Expr) (wi : TI) : Prop where
  run : ∀ (pins : List (Addr × Obj)) (s : Shared) (σ : L2.St) (H : Hp) (R : It → Hp → Prop), TokN X y s → Inv X pins σ H s → wi σ H R →
    wpAny (model X.prog X.w) X.A (eval iter X.env) (fun v s1 => wpAny (model X.prog X.w) X.A (pyIter v) (PIE X pins σ tg R) X.xe s1) X.xe s
theorem app_P {X : Cx} {pins : List (Addr × Obj)} {σ : L2.St} {H : Hp} {s : Shared} {E : Value → Shared → Prop} {D : Addr} {xs : List V} {y : V} {v : Value} {Q : Value → Shared → Prop} (I : Inv X pins σ H s) (hD : H D = some (.lst xs)) (hz : xs.length < sizeLine) (r : L2.RelV y v)
    (h : ∀ g, Inv X pins σ (upd H D (.lst (xs ++ [y]))) { s with heap := g } → Q .none { s with heap := g }) : wpAny (model X.prog X.w) X.A (call (.builtin "list.append") [.ref D, v]) Q E s := by
  obtain ⟨_, its, n, ri, e⟩ := I.hok D _ hD
  have hl := ri.length
  refine append_at (hsz := by rw [List.size_toArray]; omega) e fun g sb ho => ?_
  have ob : g.get? D = some { cls := .type "list", data := .seq (its ++ [v]).toArray (n + 1) } := by rw [ho]; simp
  have kp : ∀ b o, b ≠ D → s.heap.get? b = some o → g.get? b = some o := fun b o hb q => (sb.2 b hb).trans q
  exact h g (I.write (t' := s.toks) (by rw [hD]; trivial) (.inl rfl) kp ⟨_, ho⟩ ⟨by rw [List.length_append]; exact hz, its ++ [v], n + 1, ri.append (.cons r .nil), ob⟩)
section
variable {X : Cx}
theorem lc_Y {pins : List (Addr × Obj)} {s : Shared} {σ : L2.St} {H : Hp} {Q : VK} {elt tg iter : Expr} {ifs : List Expr} {scope : Scope} {own : List (Str × Nat)} {pos : Pos} {wi : TI} {g : TG} {tt : TT} {te : TE}
    (hc : X.calm = true) (hN : X.N.Nodup) (I : Inv X pins σ H s) (hi : ∀ R, wi σ H R → wpAny (model X.prog X.w) X.A (eval iter X.env) (fun v s1 => wpAny (model X.prog X.w) X.A (pyIter v) (PIE X pins σ tg R) X.xe s1) X.xe s) (ok : BlkOk X.N X.env.scope scope own)
    (hg : ∀ (s : Shared) (H : Hp) (C : Addr) (cl : List (Str × Addr)) (fp : List Addr), PG (X.blk s H scope (compEnvC scope cl C X.env) fp) tg g) (ht : ∀ (s : Shared) (H : Hp) (C : Addr) (cl : List (Str × Addr)) (fp : List Addr), PTs (X.blk s H scope (compEnvC scope cl C X.env) fp) ifs tt)
    (he : ∀ (s : Shared) (H : Hp) (C : Addr) (cl : List (Str × Addr)) (fp : List Addr), PE (X.blk s H scope (compEnvC scope cl C X.env) fp) elt te) (hs : ∀ x, foldedSetIterable iter X.env x = pure x := by intro _; rfl)
    (h : tLc wi g tt te (own.map (·.2)) σ H Q) :
    wpAny (model X.prog X.w) X.A (eval (.ListComp elt [⟨tg, iter, ifs, 0⟩] scope pos) X.env) (EP X pins σ Q) X.xe s := by
  have hfree : ∀ z ∈ scope.names, z.2 = .free → ∃ c, X.env.cells.lookup z.1 = some c := fun z hz e => (ok.free z hz e).elim (fun k => I.ok.has _ (.inl k)) fun k => I.ok.has _ (.inr k)
  rw [eval_ListComp]
  refine wpAny_comprehension_free (use := none) rfl hs (closure_ok hfree) ok.kind (fun z hz e => by rw [ok.uniq z hz, e])
    (thn (hi _ h) fun xv s1 hx => thn hx fun itv s2 h2 => ?_)
  obtain ⟨it, fp, tn, J, H2, e, I2, T, st2, f2, q⟩ := h2
  subst e
  refine wpAny_newObj_type (newEnv_comp ?_) (by show 0 ≤ sizeLine; decide)
  generalize hDe : s2.heap.objs.size = D
  have hDn : H2 D = none := I2.hok.fresh (Nat.le_of_eq hDe)
  obtain ⟨Wi, ⟨m0, w0⟩, turn⟩ := q D hDn
  generalize hs3 : ({ s2 with heap := s2.heap.push { cls := .type "list", data := .seq ([] : List Value).toArray } } : Shared) = s3
  have oD3 : s3.heap.get? D = some { cls := .type "list", data := .seq ([] : List Value).toArray } := by rw [← hs3, ← hDe]; exact Heap.get?_push_size _ rfl
  have I3 : Inv X pins σ (upd H2 D (.lst [])) s3 := by
    rw [← hs3]
    exact I2.laid (t' := s2.toks) (fun b o z => Heap.get?_push_of_some _ z) (Nat.le_of_eq hDe) ⟨Nat.zero_le _, [], 0, .nil, by rw [← hs3] at oD3; exact oD3⟩
  have p3 : s3.heap = s2.heap.push { cls := .type "list", data := .seq ([] : List Value).toArray } := by rw [← hs3]
  have ltfp : ∀ b ∈ fp, b < s2.heap.objs.size := fun b hb => let ⟨o, z, _⟩ := T.obj _ _ st2 b hb; Heap.lt_size z
  have nDfp : D ∉ fp := fun hb => by have := ltfp D hb; rw [hDe] at this; exact Nat.lt_irrefl _ this
  have f3 : ∀ b ∈ fp, FpOk X pins (upd H2 D (.lst [])) b ∧ b < s3.heap.objs.size := fun b hb => by
    have hlt := ltfp b hb
    refine ⟨⟨?_, (f2 b hb).2⟩, by rw [p3, Heap.size_push]; exact Nat.lt_succ_of_lt hlt⟩
    rw [upd_ne (fun z => nDfp (by rw [← z]; exact hb))]
    exact (f2 b hb).1
  have st3 : tn 0 s3.heap := T.keep _ _ _ st2 fun b _ o z => by rw [p3]; exact Heap.get?_push_of_some _ z
  have I4 := block_start I3 ok hN f3
  have pg := hg s3 (upd H2 D (.lst [])) s3.heap.objs.size (cellsFrom (s3.heap.objs.size + 1) scope.names (cloFrom X.env.cells scope.names [])) fp
  have pt := ht s3 (upd H2 D (.lst [])) s3.heap.objs.size (cellsFrom (s3.heap.objs.size + 1) scope.names (cloFrom X.env.cells scope.names [])) fp
  have pv := he s3 (upd H2 D (.lst [])) s3.heap.objs.size (cellsFrom (s3.heap.objs.size + 1) scope.names (cloFrom X.env.cells scope.names [])) fp
  show codeAny _ _ (.compStart (.ListComp elt [⟨tg, iter, ifs, 0⟩] scope pos) 0 (.ref it) (.ref D) (compEnvC scope (cellsFrom (s3.heap.objs.size + 1) scope.names (cloFrom X.env.cells scope.names [])) s3.heap.objs.size X.env))
    (compPost (model X.prog X.w) X.A X.xe none (EP X pins σ Q) (.ref D) s3.heap.objs.size) { s3 with heap := pushCells (s3.heap.push { cls := .type "dict", data := .dict #[] }) scope.names }
  have nfp : ∀ b ∈ fp, (upd H2 D (.lst [])) b = none := fun b hb => (f3 b hb).1.1
  generalize hce : compEnvC scope (cellsFrom (s3.heap.objs.size + 1) scope.names (cloFrom X.env.cells scope.names [])) s3.heap.objs.size X.env = ce at I4 pg pt pv ⊢
  have cL : ce.locals = s3.heap.objs.size := by subst hce; rfl
  have hDH : (upd H2 D (.lst [])) D = some (.lst []) := upd_same
  generalize hH3 : upd H2 D (.lst []) = H3 at I3 I4 pg pt pv w0 nfp f3 hDH
  have st4 : tn 0 ({ s3 with heap := pushCells (s3.heap.push { cls := .type "dict", data := .dict #[] }) scope.names } : Shared).heap := T.keep _ _ _ st3 fun b _ o z => pushCells_keeps _ _ _ _ (Heap.get?_push_of_some _ z)
  generalize ({ s3 with heap := pushCells (s3.heap.push { cls := .type "dict", data := .dict #[] }) scope.names } : Shared) = s4 at I4 st4 ⊢
  have stat : ∀ {σ' : L2.St} {H' : Hp} {s' : Shared}, Inv (X.blk s3 H3 scope ce fp) [] σ' H' s' → (∀ b ∈ fp, H' b = none) → ∀ b ∈ fp, FpOk (X.blk s3 H3 scope ce fp) [] H' b := fun {σ' H' s'} I' hn b hb =>
    ⟨hn b hb, (I'.ok.exf b hb).1, I'.ok.exfs b hb, .inl hb, fun x c z => (I'.ok.exf b hb).2 x c z, fun p hp => absurd (show p ∈ ([] : List (Addr × Obj)) ++ [] from hp) (by simp)⟩
  have loop : codeAny (model X.prog X.w) X.A (.compLoop (.ListComp elt [⟨tg, iter, ifs, 0⟩] scope pos) 0 (.ref it) (.ref D) ce)
      (compPost (model X.prog X.w) X.A X.xe none (EP X pins σ Q) (.ref D) s3.heap.objs.size) s4 := by
    refine compLoop_any (fun n s' => ∃ i H', Inv (X.blk s3 H3 scope ce fp) [] (wipe σ (own.map (·.2))) H' s' ∧ tn i s'.heap ∧ (∀ b ∈ fp, H' b = none) ∧ Wi i n H') ?_ m0
      ⟨0, H3, I4, st4, nfp, w0⟩
    rintro n s5 ⟨i, H5, I5, st5, n5, w5⟩
    rcases turn i n H5 w5 with ⟨stop, qq⟩ | ⟨go, Nx, hNx, step⟩
    · refine thnF (T.done (X.blk s3 H3 scope ce fp) rfl rfl rfl hc i [] s5 _ H5 (fun _ _ => False) I5 (stat I5 n5) st5 stop) fun r s6 ⟨hr, I6⟩ => ?_
      subst hr
      have I7 : Inv X pins σ H5 s6 := I3.call' (ch := fp) I6.os I6.base I6.hok I6.bare fun b hb => ⟨(f3 b hb).1.2.2.2.1, (f3 b hb).1.2.1, (f3 b hb).1.2.2.2.2.1, (f3 b hb).1.2.2.2.2.2⟩
      have nC : H5 s3.heap.objs.size = none := by
        have z : H5 ce.locals = none := I6.free
        rw [cL] at z
        exact z
      obtain ⟨m, hn, _⟩ := I6.loc
      have hn : s6.heap.Ns ce.locals m := hn
      rw [cL] at hn
      refine ⟨m, hn, fun h2 sb => ?_⟩
      obtain ⟨g0, g1, g2, g3, g4, g5⟩ := I3.fpOk (Nat.le_refl _) nC
      exact ⟨.ref D, H5, I7.turned (t' := s6.toks) (fun b o hb z => (sb.2 b hb).trans z) g0 g1 g3 g4 g5, rfl, qq⟩
    · refine thnF (T.item (X.blk s3 H3 scope ce fp) rfl rfl rfl hc i [] s5 _ H5 (fun _ _ => False) I5 (stat I5 n5) st5 go) fun r s6 ⟨u, hr, h6⟩ => ?_
      subst hr
      refine thnF h6 fun _ s7 ⟨x, H7, I7, r7, y7, st7, n7⟩ => ?_
      have J7 := I7.pinned (stat I7 n7) (T.obj _ _ st7)
      refine thnF (pg.run _ s7 _ H7 x u _ J7 r7 (step x H7 y7)) fun _ s8 ⟨σ8, H8, I8, hw8, q8⟩ => ?_
      refine thnF (pt.run _ s8 σ8 H8 _ I8 q8) fun b s9 ⟨H9, I9, q9⟩ => ?_
      have fin : ∀ {s' : Shared} {H' : Hp}, Inv (X.blk s3 H3 scope ce fp) ([] ++ pinsAt fp s7.heap) σ8 H' s' → Nx H' → ∃ m, m < n ∧ ∃ i H', Inv (X.blk s3 H3 scope ce fp) [] (wipe σ (own.map (·.2))) H' s' ∧ tn i s'.heap ∧ (∀ b ∈ fp, H' b = none) ∧ Wi i m H' := fun {s' H'} I' nx => by
        obtain ⟨m', hm, w'⟩ := hNx H' nx
        have pin' : ∀ b ∈ fp, ∀ o, s7.heap.get? b = some o → s'.heap.get? b = some o ∧ H' b = none := fun b hb o z =>
          let y := I'.pin (b, o) (List.mem_append_right _ (List.mem_append_right _ (mem_pinsAt hb z)))
          ⟨y.1, y.2.1⟩
        have hl : (wipe σ (own.map (·.2))).length = σ8.length := by rw [← hw8, wipe_length]
        refine ⟨m', hm, i + 1, H', (I'.unpinned (pins := [])).weak hl (fun j v z => ?_), T.keep _ _ _ st7 fun b hb o z => (pin' b hb o z).1, fun b hb => ?_, w'⟩
        · rw [← hw8] at z
          exact (wipe_some z).1
        · obtain ⟨o, z, _⟩ := T.obj _ _ st7 b hb
          exact (pin' b hb o z).2
      cases b with
      | false =>
        simp only [Bool.false_eq_true, if_false] at q9 ⊢
        exact fin I9 q9
      | true =>
        simp only [if_true] at q9 ⊢
        refine thnF (pv.run _ s9 σ8 H9 _ I9 q9) fun v s10 ⟨yv, H10, I10, r10, acc, hD10, hz10, nx⟩ => ?_
        exact app_P (X := X.blk s3 H3 scope ce fp) I10 hD10 hz10 r10 fun g I11 => fin I11 nx
  exact codeAny_compStart_list loop (T.self X.A 0 _ _ _ st4 loop)
end
section
variable {X : Cx} {cls : Nat → Addr} {W : WX} {m m1 m2 me : ME} {mi : List ME} {g : MG} {e a b c elt tg iter : Expr} {es : List Expr} {ifs : List Expr} {scope : Scope} {own : List (Str × Nat)} {pos p : Pos} {x y : Str} {n : Nat} {ys zs : List Str} {fr : List Nat} {ss ss2 : List MS}
theorem piy_seqP (he : PEy X y e (tD cls W false m)) : PIY X y tg e (iDp cls W m) := by
  refine ⟨fun pins s σ H R tk I ⟨G, U0, He, ρ, Qd, Xd, r, w, k, x⟩ => ?_⟩
  refine thn (he.run pins s σ H _ tk I (tD_in r w (fun d v H' e r' p f q => (⟨d, e, r', p, q⟩ : ∃ d, Ext G H H' ∧ RE G U0 He H' σ ρ ∧ Res false G (Uo U0 ρ σ) H' d v ∧ onIt Qd d)) x)) fun u s1 ⟨v, H1, I1, r1, d, e1, r1', p1, q1⟩ => ?_
  obtain ⟨xs, ex, q⟩ := onS_some q1
  obtain ⟨p1, nm⟩ := p1
  cases d <;> first
    | cases ex
    | skip
  · rename_i t
    cases (show v = V.str (mkS t) from p1)
    obtain ⟨tk, rfl⟩ := r1
    have R1 := k _ _ H1 e1 r1' (IsIt.str t) q
    cases ha : (mkS t).cps.all (· < 128)
    · exact wpAny_pyIter_wide ha (pi_one (tk := s1.toks) I1 _ (turn_str _ (mkS t) tk "str_iterator" (.inr rfl)) ⟨_, Heap.get?_push_size _ rfl, rfl, rfl⟩ R1)
    · exact wpAny_pyIter_ascii ha (pi_one (tk := s1.toks) I1 _ (turn_str _ (mkS t) tk "str_ascii_iterator" (.inl rfl)) ⟨_, Heap.get?_push_size _ rfl, rfl, rfl⟩ R1)
  · obtain ⟨c, vs, rfl, rd, l⟩ := p1
    cases r1
    obtain ⟨its, rv, pt, hz⟩ := I1.tuple (.inl rd)
    exact wpAny_pyIter_tuple (show s1.heap.IsTuple c its.toArray from pt) (pi_one (tk := s1.toks) I1 _ (turn_tuple c _) ⟨_, Heap.get?_push_size _ rfl, rfl, rfl⟩ (k _ _ H1 e1 r1' (IsIt.tup r1'.mvU rd l) q))
  · obtain ⟨c, vs, rfl, rd, l⟩ := p1
    cases r1
    obtain ⟨its, rv, pt, hz⟩ := I1.list (SqL.of rd)
    exact wpAny_pyIter_list pt.isList (pi_one (tk := s1.toks) I1 _ (turn_list c _) ⟨_, Heap.get?_push_size _ rfl, rfl, rfl⟩ (k _ _ H1 e1 r1' (IsIt.list r1'.mvU rd (nm rfl c rfl) l) q))
theorem PEy.pk (h : PEy X y e (tD cls W true m)) : PEy X y e (tD cls W false m) := h.imp fun _ _ _ q => imp_pk q
theorem te_lcY (hc : X.calm = true) (hN : X.N.Nodup) (hi : PIY X y tg iter (iDp cls W m)) (ok : BlkOk X.N X.env.scope scope own) (hv : own.map (·.2) = g.slots)
    (hg : ∀ (s : Shared) (H : Hp) (C : Addr) (cl : List (Str × Addr)) (fp : List Addr), PG (X.blk s H scope (compEnvC scope cl C X.env) fp) tg (gD g))
    (ht : ∀ (s : Shared) (H : Hp) (C : Addr) (cl : List (Str × Addr)) (fp : List Addr), PTs (X.blk s H scope (compEnvC scope cl C X.env) fp) ifs (tTs cls noW mi))
    (he : ∀ (s : Shared) (H : Hp) (C : Addr) (cl : List (Str × Addr)) (fp : List Addr), PE (X.blk s H scope (compEnvC scope cl C X.env) fp) elt (tD cls noW true me)) (hs : ∀ x, foldedSetIterable iter X.env x = pure x := by intro _; rfl) :
    PEy X y (.ListComp elt [⟨tg, iter, ifs, 0⟩] scope pos) (tD cls W true (.lc g m mi me)) :=
  ⟨fun pins s σ H Q tk I q => lc_Y hc hN I (fun R h => hi.run pins s σ H R tk I h) ok hg ht he hs (imp_lc hv q)⟩
/-- a built-in called with such a value -/
theorem te_b1Y {f : B1} {id : String} {z : Str} (hcl : CallR X (.builtin id) (rK1 (b1D f))) (hg : Gl X z) (hm : X.mg z = none) (hv : bootBuiltins z = some (.builtin id)) (ha : PEy X y e (tD cls W false m)) (hn : z ≠ "__name__" := by decide) (hdb : (z == ("__debug__" : Str)) = false := by decide)
    (he : starEach [e] X.env = (false, eval e X.env) :: starEach [] X.env := by rfl) (hpl : (backTo pos (starEach [] X.env)).any (·.1) = false := by rfl) : PEy X y (.Call (.Name z p) [e] [] pos) (tD cls W true (.b1 f m)) := by
  refine ⟨fun pins s σ H Q tk I q => ?_⟩
  refine wpAny_Call_Name_kw (ld_blt I hg hm hv ?_ hn hdb)
  refine PyProof.Rows.callWith_builtin1 (by
    rw [he]
    show wpAny _ _ (spliced ((false, eval e X.env) :: backTo pos (starEach [] X.env))) _ _ s
    have h : tD cls W false m σ H fun v H1 => rK1 (b1D f) [v] H1 Q := imp_k1 q
    refine Calls.spliced_cons (thn (ha.run pins s σ H _ tk I h) fun u s1 ⟨v, H1, I1, r1, q1⟩ => Calls.spliced_nil ?_)
    exact hcl pins s1 σ H1 [v] [u] Q I1 (.cons r1 .nil) q1) he hpl
/-- a test of such a value -/
structure PTy (X : Cx) (y : Str) (e : Expr) (t : TT) : Prop where
  run : ∀ (pins : List (Addr × Obj)) (s : Shared) (σ : L2.St) (H : Hp) (Q : Bool → Hp → Prop), TokN X y s → Inv X pins σ H s → t σ H Q → wpAny (model X.prog X.w) X.A (isTrue e X.env (eval e X.env)) (TP X pins σ Q) X.xe s
theorem ty_val (h : PEy X y e (tD cls W true m)) (he : ∀ whole, isTrue e X.env whole = (do let v ← whole; standAt e.pos; holding [v] (truthy v)) := by intro _; rfl) : PTy X y e (tT cls W m) := by
  refine ⟨fun pins s σ H Q tk I ⟨G, U0, He, ρ, Qd, Xd, r, w, k, x⟩ => ?_⟩
  refine isTrue_plain (thn (h.run pins s σ H (fun v H1 => ∃ d, v = .bl d ∧ Q d H1) tk I (tD_in r w (fun d v H' e r' p f q => ?_) x)) fun v s1 ⟨x, H1, I1, r1, d, ed, q⟩ => ?_) (he _)
  · cases d <;> first
      | exact (q : False).elim
      | exact ⟨_, p, k _ H' e q⟩
  · subst ed
    cases r1
    exact wpAny_truthy_bool ⟨H1, I1, q⟩
theorem ks_ify {s1 s2 : List Stmt} (hy : y ∈ ys) (hc : PTy X y c (tT cls W m)) (ha : PSs X s1 (tSs cls W ss)) (hb : PSs X s2 (tSs cls W ss2)) : KSt n X ys [] (.If c s1 s2 pos) (tS cls W (.ifs m ss ss2)) := by
  refine ⟨fun pins s0 σ H D hn tk I ⟨G, U0, He, ρ, N, R, Xd, r, w, k⟩ => ?_⟩
  simp only [wS] at w
  refine wpAny_If (thn (hc.run pins s0 σ H (fun b H1 => if b = true then tSs cls W ss D σ H1 else tSs cls W ss2 D σ H1) (tk y hy) I (tT_in r w (fun b H1 e1 r1 w1 => ?_) (k.xe r))) fun b s1 ⟨H1, I1, q1⟩ => ?_)
  · cases b with
    | true => exact ⟨G, U0, He, ρ, N, R, Xd, r1, w1, k⟩
    | false => exact ⟨G, U0, He, ρ, N, R, Xd, r1, w1, k⟩
  · cases b with
    | true => exact thn (ha.run pins s1 σ H1 D I1 q1) fun _ _ z => ⟨z, fun _ => TokNs.nil⟩
    | false => exact thn (hb.run pins s1 σ H1 D I1 q1) fun _ _ z => ⟨z, fun _ => TokNs.nil⟩
/-- a op b, b leaning on y -/
theorem te_binY {op : Operator} {o : BOp} (ho : OpR X (binaryOp op) (rB (binD o))) (ha : PEK X (FK X) a (tD cls W false m1)) (hb : PEy X y b (tD cls W false m2)) : PEy X y (.BinOp a op b pos) (tD cls W true (.bin o m1 m2)) := by
  refine ⟨fun pins s σ H Q tk I q => ?_⟩
  have q := imp_bin q
  refine wpAny_BinOp (wpAny_mono (PySem.wpAny_toks (ha.run pins s σ H _ I q)) (fun v s1 ⟨t1, k1, x1, H1, I1, r1, q1⟩ => ?_) fun _ _ z => z.2)
  refine thn (hb.run pins s1 σ H1 _ (tk.fk k1 t1) I1 q1) fun u s2 ⟨x2, H2, I2, r2, q2⟩ => ?_
  exact ho pins s2 σ H2 x1 x2 v u Q I2 r1 r2 q2
/-- a wish weakened -/
theorem tD_mono {esc : Bool} {σ : L2.St} {H : Hp} {Q Q' : VK} (h : tD cls W esc m σ H Q) (i : ∀ v H', Q v H' → Q' v H') : tD cls W esc m σ H Q' := by
  obtain ⟨G, U0, He, ρ, Qd, Xd, r, w, k, x⟩ := h
  exact ⟨G, U0, He, ρ, Qd, Xd, r, w, fun d v H' e p f q => i _ _ (k d v H' e p f q), x⟩
/-- f(a, b), b leaning on y -/
theorem te_fnY {S : FS} {k j : Nat} {f : Str} (cl : Cal X.prog X.w X.K X.mg X.base cls k f S) (tk : L2N.Takes X W) (hr : Room j X.A) (hk : k ≤ j)
    (ha : PAy X y [a, b] (tCons (tD cls W true m1) (tCons (tD cls W true m2) tNil))) (hg : Gl X f := by rfl) (hdb : (f == ("__debug__" : Str)) = false := by decide) (he : starEach [a, b] X.env = (false, eval a X.env) :: starEach [b] X.env := by rfl) (hpl : (backTo pos (starEach [b] X.env)).any (·.1) = false := by rfl) :
    PEy X y (.Call (.Name f p) [a, b] [] pos) (tD cls W true (.call S [m1, m2])) := by
  obtain ⟨fa, fd, ps, F, hm, kp, hb⟩ := cl.ex
  have hx : ∀ σ, PassesAt (L2N.CX X.prog X.w) X σ (fun c d H => W c d σ H) := fun σ => L2N.passAt tk σ
  refine PEy.imp (t := tCallSD (spD cls S) [] (fun σ c d H => W c d σ H) (tCons (tD cls W true m1) (tCons (tD cls W true m2) tNil))) ⟨fun pins s σ H Q tky I h => ?_⟩ fun σ H Q q => ?_
  · refine wpAny_Call_Name_kw (ld_glob I hg hm ?_ hdb)
    refine PySem.W.callWith_K (h₀ := X.base) I.ok.mod.kin kp (thn (ha.run pos pins s σ H _ tky I h) fun us s1 ⟨vs, H1, I1, r, q⟩ => ⟨I1.kIn, ?_⟩) he hpl
    have q : spD cls S (vs ++ []) H1 Q (fun c d H => W c d σ H) := q
    rw [List.append_nil] at q
    have hl : us.length = ps.length := by rw [← r.length]; exact F.len _ _ _ _ q
    have hb1 := hb s1 us I1.kIn (by rw [List.append_nil]; exact hl)
    rw [List.append_nil] at hb1
    refine wpAny_call (codeAny_mono (F.run X.A X.stack s1 H1 ⟨us, []⟩ us vs Q (fun c d H => W c d σ H) (hr.mono hk) I1.env0 hb1 r q) fun r s' hq => ?_)
    cases r with
    | error e => exact hx σ pins H1 s1 e s' I1 hq
    | ok fl =>
      cases fl with
      | ret u => exact I1.after hq
      | next => exact False.elim hq
      | brk => exact False.elim hq
      | cont => exact False.elim hq
  · have q : tDs cls W [m1, m2] σ H fun vs H1 => spD cls S (vs ++ []) H1 Q (fun c d H => W c d σ H) := imp_call q
    have q1 := imp_cons q
    exact tD_mono q1 fun v H1 q2 => tD_mono (imp_cons q2) fun v2 H2 q3 => imp_nil q3
end
end DL

set_option Elab.async false
set_option linter.all false
set_option maxRecDepth 100000
set_option maxHeartbeats 1000000
/-! DK16: expressions behind which names still hold texts of known tokens; comprehensions whose elements lean on them. -/
namespace DL
open PySem PySem.Spec PyProof.Rows L2
variable [Tb]
structure KA (n : Nat) (X : Cx) (ys : List Str) (es : List Expr) (t : TA) : Prop where
  run : ∀ (pos : Pos) (pins : List (Addr × Obj)) (s : Shared) (σ : L2.St) (H : Hp) (Q : List V → Hp → Prop), n ≤ s.toks → TokNs X ys s → Inv X pins σ H s → t σ H Q →
    wpAny (model X.prog X.w) X.A (spliced (backTo pos (starEach es X.env))) (fun us s1 => TokNs X ys s1 ∧ AP X pins σ Q us s1) X.xe s
section
variable {X : Cx} {cls : Nat → Addr} {W : WX} {m m1 m2 me : ME} {mi ms : List ME} {g : MG} {e a b c elt tg iter : Expr} {es : List Expr} {ifs : List Expr} {scope : Scope} {own : List (Str × Nat)} {pos p : Pos} {x y : Str} {n : Nat} {ys zs : List Str} {fr : List Nat}
theorem KE.imp {t t' : TE} (h : KE n X ys e t) (i : ∀ σ H Q, t' σ H Q → t σ H Q) : KE n X ys e t' := ⟨fun pins s σ H Q a b I q => h.run pins s σ H Q a b I (i _ _ _ q)⟩
theorem ka_nil : KA n X ys [] (tDs cls W []) := ⟨fun pos pins s σ H Q _ tk I h => Calls.spliced_nil ⟨tk, [], H, I, .nil, imp_nil h⟩⟩
theorem ka_cons (ha : KE n X ys e (tD cls W true m)) (hr : KA n X ys es (tDs cls W ms)) (hs : starEach (e :: es) X.env = (false, eval e X.env) :: starEach es X.env := by rfl) : KA n X ys (e :: es) (tDs cls W (m :: ms)) := by
  refine ⟨fun pos pins s σ H Q hn tk I h => ?_⟩
  rw [hs]
  show wpAny _ _ (spliced ((false, eval e X.env) :: backTo pos (starEach es X.env))) _ _ s
  refine Calls.spliced_cons (wpAny_mono (PySem.wpAny_toks (ha.run pins s σ H _ hn tk I (imp_cons h))) (fun u s1 ⟨t1, k1, x, H1, I1, r1, q1⟩ => ?_) fun _ _ z => z.2)
  exact thn (hr.run pos pins s1 σ H1 _ (Nat.le_trans hn t1) k1 I1 q1) fun us s2 ⟨k2, xs, H2, I2, r2, q2⟩ => ⟨k2, x :: xs, H2, I2, .cons r1 r2, q2⟩
theorem ke_tup {k} (h : KA n X ys es (tDs cls W ms)) : KE n X ys (.Tuple es k pos) (tD cls W true (.tup ms)) := by
  refine ⟨fun pins s σ H Q hn tk I hq => ?_⟩
  refine wpAny_Tuple_spliced (thn (h.run pos pins s σ H _ hn tk I (imp_tup hq)) fun us s1 ⟨k1, xs, H1, I1, r, z, q⟩ => ⟨by rw [← r.length]; exact z, ?_⟩)
  have hf : H1 s1.heap.objs.size = none := I1.hok.fresh (Nat.le_refl _)
  refine ⟨k1.fk (FK.kept (t := s1.toks) fun b u e => Heap.get?_push_of_some _ e) (Nat.le_refl _), .ref s1.heap.objs.size, upd H1 s1.heap.objs.size (.tup xs), I1.laid (t' := s1.toks) (fun b u e => Heap.get?_push_of_some _ e) (Nat.le_refl _) ?_, rfl, q _ hf⟩
  exact ⟨z, us, r, ⟨_, Heap.get?_push_size _ rfl, rfl, _, rfl⟩⟩
/-- f(..) -/
theorem ke_fn {S : FS} {k j : Nat} {f : Str} (cl : Cal X.prog X.w X.K X.mg X.base cls k f S) (tk : L2N.Takes X W) (hr : Room j X.A) (hk : k ≤ j)
    (ha : KA n X ys (e :: es) (tDs cls W ms)) (hg : Gl X f := by rfl) (hdb : (f == ("__debug__" : Str)) = false := by decide) (he : starEach (e :: es) X.env = (false, eval e X.env) :: starEach es X.env := by rfl) (hpl : (backTo pos (starEach es X.env)).any (·.1) = false := by rfl) :
    KE n X ys (.Call (.Name f p) (e :: es) [] pos) (tD cls W true (.call S ms)) := by
  obtain ⟨fa, fd, ps, F, hm, kp, hb⟩ := cl.ex
  have hx : ∀ σ, PassesAt (L2N.CX X.prog X.w) X σ (fun c d H => W c d σ H) := fun σ => L2N.passAt tk σ
  refine KE.imp (t := tCallSD (spD cls S) [] (fun σ c d H => W c d σ H) (tDs cls W ms)) ⟨fun pins s σ H Q hn tky I h => ?_⟩ fun _ _ _ q => imp_call q
  refine wpAny_Call_Name_kw (ld_glob I hg hm ?_ hdb)
  refine PySem.W.callWith_K (h₀ := X.base) I.ok.mod.kin kp (thn (ha.run pos pins s σ H _ hn tky I h) fun us s1 ⟨k1, vs, H1, I1, r, q⟩ => ⟨I1.kIn, ?_⟩) he hpl
  have q : spD cls S (vs ++ []) H1 Q (fun c d H => W c d σ H) := q
  rw [List.append_nil] at q
  have hl : us.length = ps.length := by rw [← r.length]; exact F.len _ _ _ _ q
  have hb1 := hb s1 us I1.kIn (by rw [List.append_nil]; exact hl)
  rw [List.append_nil] at hb1
  refine wpAny_mono (PySem.wpAny_toks (wpAny_call (codeAny_mono (F.run X.A X.stack s1 H1 ⟨us, []⟩ us vs Q (fun c d H => W c d σ H) (hr.mono hk) I1.env0 hb1 r q) fun r s' hq => ?_) (Q := fun u s' => FK X s1 s' ∧ EP X pins σ Q u s'))) (fun u s' ⟨t', kk, z⟩ => ⟨k1.fk kk t', z⟩) fun _ _ z => z.2
  cases r with
  | error e => exact hx σ pins H1 s1 e s' I1 hq
  | ok fl =>
    cases fl with
    | ret u =>
      obtain ⟨v, H', os, bare, un, hok, rv, q'⟩ := id hq
      exact ⟨FK.call I1 un, I1.after hq⟩
    | next => exact False.elim hq
    | brk => exact False.elim hq
    | cont => exact False.elim hq
theorem ke_bin {op : Operator} {o : BOp} (ho : OpRK X (FK X) (binaryOp op) (rB (binD o))) (ha : KE n X ys a (tD cls W false m1)) (hb : KE n X ys b (tD cls W false m2)) : KE n X ys (.BinOp a op b pos) (tD cls W true (.bin o m1 m2)) := by
  refine ⟨fun pins s σ H Q hn tk I q => ?_⟩
  refine wpAny_BinOp (wpAny_mono (PySem.wpAny_toks (ha.run pins s σ H _ hn tk I (imp_bin q))) (fun v s1 ⟨t1, k1, x1, H1, I1, r1, q1⟩ => ?_) fun _ _ z => z.2)
  refine thn (hb.run pins s1 σ H1 _ (Nat.le_trans hn t1) k1 I1 q1) fun u s2 ⟨k2, x2, H2, I2, r2, q2⟩ => ?_
  exact wpAny_mono (PySem.wpAny_toks (ho pins s2 σ H2 x1 x2 v u Q I2 r1 r2 q2)) (fun u' s3 ⟨t3, k3, z⟩ => ⟨k2.fk k3 t3, z⟩) fun _ _ z => z.2
theorem KE.pk (h : KE n X ys e (tD cls W true m)) : KE n X ys e (tD cls W false m) := h.imp fun _ _ _ q => imp_pk q
/-- text.replace(y, "") -/
theorem ke_repl {so : Str} {j k j0 : Nat} {p1 p2 c0 apos pos : Pos} (hy : y ∈ ys) (hNj : X.N[j]? = some so) (hvj : Vis X.env.scope so) (hNk : X.N[k]? = some y) (hvk : Vis X.env.scope y) (hdj : (so == ("__debug__" : Str)) = false) (hcj : (so == ("__classdict__" : Str)) = false) (hdk : (y == ("__debug__" : Str)) = false) (hck : (y == ("__classdict__" : Str)) = false)
    (hst : starEach [.Name y p2, .Constant (.str "") j0 c0] X.env = [(false, eval (.Name y p2) X.env), (false, eval (.Constant (.str "") j0 c0) X.env)] := by rfl)
    (hbase : attributeBase (.Name so p1) "replace" X.env (eval (.Name so p1) X.env) = eval (.Name so p1) X.env := by rfl) (hline : (apos.endLine == pos.line) = true := by rfl) :
    KE n X ys (.Call (.Attribute (.Name so p1) "replace" apos) [.Name y p2, .Constant (.str "") j0 c0] [] pos) (tD cls W true (.b2 .repl0 (.peek j) (.peek k))) := by
  refine ⟨fun pins s σ H Q _ tks I q => ?_⟩
  have tk := tks y hy
  obtain ⟨v1, h1, q⟩ := imp_repl q
  refine PySem.Call_method2 hbase hst hline (raw_name hNj hvj I h1 (fun v r => ?_) hdj hcj)
  obtain ⟨v2, h2, sx, c, e1, e2, hl, q⟩ := q
  subst e1 e2
  obtain ⟨tx, rfl⟩ := r
  refine ⟨"str", _, F.plainAttrs_str, F.slot_str_replace, F.type_str_replace, typeIs_str _ _ _, (fun _ e => nomatch e), Calls.callWith_builtin rfl (Calls.evalArgs_plain (Calls.spliced_cons ?_))⟩
  refine name_R I hNk hvk tk (Q := fun v H1 => v = .str (mkS [c]) ∧ H1 = H) ⟨_, h2, rfl, rfl⟩ hdk hck fun u ⟨v, ru, ev, _⟩ tu => ?_
  subst ev
  obtain ⟨tc, rfl⟩ := ru
  obtain ⟨c', t', eu, t0, tlt⟩ := tu
  cases eu
  refine Calls.spliced_cons (Calls.Constant_str (Calls.spliced_nil ?_))
  refine PySem.wpAny_with_toks (s := { s with toks := s.toks + 1 }) (Nat.le_refl _) (PySem.SC.replace (s := { s with toks := s.toks + 1 }) t0 (Nat.ne_of_gt (Nat.lt_of_le_of_lt (Nat.zero_le _) tlt)) (Nat.ne_of_lt tlt) (beq_eq_false_iff_ne.mpr fun z => by have := mkS_inj (s := [c]) (t := []) z; cases this) ?_ fun t' k' => fun ht => ?_)
  · show (mkS sx).length + ((mkS sx).length + 1) * 0 ≤ 16777216
    rw [mkS_len]; omega
  · refine ⟨tks.fk FK.tok (Nat.le_trans (Nat.le_succ _) ht), .str (mkS (sx.filter fun x => x != c)), H, I.tok k', ⟨t', ?_⟩, q⟩
    show Value.str (Txt.replace (mkS sx) (mkS [c]) (mkS [])) t' = _
    rw [replace_mk]
/-! ### walks over a list, a tuple -/
theorem turnR_list {P : Program} {w : World} {K : PySem.W.Frag} {tg : Expr} (a it : Addr) : TurnR P w K tg (Itl K a) [it] it (fun i h => h.IsListIter it a i) RA := by
  refine ⟨turn_list a it, ?_, ?_⟩
  · intro X hP hw hK hc i pins s σ H E h1 I hf st hg
    subst hP hw hK
    obtain ⟨xs, x, hq, hx⟩ := hg
    obtain ⟨its, rv, p, hz⟩ := I.list hq
    obtain ⟨u, hu, ru⟩ := rv.get hx
    obtain ⟨f0, f1, f2, f3, f4, f5⟩ := hf it (by simp)
    refine wpAny_pyNext_list_item st p.isList (x := u) (by simpa using hu) fun h' st' sb => ?_
    have kk : ∀ b o, b ∉ [it] → s.heap.get? b = some o → h'.get? b = some o := fun b o hb e => (sb.2 b (fun z => hb (by simp [z]))).trans e
    have I1 : Inv X pins σ H { s with heap := h' } := I.turned (t' := s.toks) (fun b o hb e => (sb.2 b hb).trans e) f0 f1 f3 f4 f5
    obtain ⟨o, e, c, d⟩ := id st'
    exact ⟨u, rfl, go_of (s := { s with heap := h' }) e c d (by decide) ⟨⟨x, H, I1, ru, ⟨rfl, fun ys hy => by rw [I.list_inj hy hq]; exact hx⟩, st', fun b hb => (hf b hb).1⟩, trivial, Nat.le_refl _, kk⟩⟩
  · intro X hP hw hK hc i pins s σ H E I hf st hg
    subst hP hw hK
    obtain ⟨xs, hq, hx⟩ := hg
    obtain ⟨its, rv, p, hz⟩ := I.list hq
    obtain ⟨f0, f1, f2, f3, f4, f5⟩ := hf it (by simp)
    have hl := rv.length
    exact wpAny_pyNext_list_end (I.ok.hd hc) st p.isList (by simp; omega) fun h' eb => ⟨⟨rfl, I.turned (t' := s.toks) (fun b o hb e => eb b o hb e) f0 f1 f3 f4 f5⟩, fun b o hb e => eb b o (fun z => hb (by simp [z])) e⟩
theorem turnR_tup {P : Program} {w : World} {K : PySem.W.Frag} {tg : Expr} (a it : Addr) : TurnR P w K tg (Itt K a) [it] it (fun i h => h.IsTupleIter it a i) RA := by
  refine ⟨turn_tuple a it, ?_, ?_⟩
  · intro X hP hw hK hc i pins s σ H E h1 I hf st hg
    subst hP hw hK
    obtain ⟨xs, x, hq, hx⟩ := hg
    obtain ⟨its, rv, p, hz⟩ := I.tuple hq
    obtain ⟨u, hu, ru⟩ := rv.get hx
    obtain ⟨f0, f1, f2, f3, f4, f5⟩ := hf it (by simp)
    refine wpAny_pyNext_tuple_item st (show s.heap.IsTuple a its.toArray from p) (x := u) (by simpa using hu) fun h' st' sb => ?_
    have kk : ∀ b o, b ∉ [it] → s.heap.get? b = some o → h'.get? b = some o := fun b o hb e => (sb.2 b (fun z => hb (by simp [z]))).trans e
    have I1 : Inv X pins σ H { s with heap := h' } := I.turned (t' := s.toks) (fun b o hb e => (sb.2 b hb).trans e) f0 f1 f3 f4 f5
    obtain ⟨o, e, c, d⟩ := id st'
    exact ⟨u, rfl, go_of (s := { s with heap := h' }) e c d (by decide) ⟨⟨x, H, I1, ru, ⟨rfl, fun ys hy => by rw [I.tuple_inj hy hq]; exact hx⟩, st', fun b hb => (hf b hb).1⟩, trivial, Nat.le_refl _, kk⟩⟩
  · intro X hP hw hK hc i pins s σ H E I hf st hg
    subst hP hw hK
    obtain ⟨xs, hq, hx⟩ := hg
    obtain ⟨its, rv, p, hz⟩ := I.tuple hq
    obtain ⟨f0, f1, f2, f3, f4, f5⟩ := hf it (by simp)
    have hl := rv.length
    exact wpAny_pyNext_tuple_end (I.ok.hd hc) st (show s.heap.IsTuple a its.toArray from p) (by simp; omega) fun h' eb => ⟨⟨rfl, I.turned (t' := s.toks) (fun b o hb e => eb b o hb e) f0 f1 f3 f4 f5⟩, fun b o hb e => eb b o (fun z => hb (by simp [z])) e⟩
theorem TurnR.weak {P : Program} {w : World} {K : PySem.W.Frag} {tg : Expr} {J : It} {fp : List Addr} {it : Addr} {tn : Nat → Heap → Prop} {R R' : Value → Shared → Prop} (T : TurnR P w K tg J fp it tn R) (h : ∀ u s, R u s → R' u s) : TurnR P w K tg J fp it tn R' :=
  ⟨T.tu, fun X a b c d i pins s σ H E h1 I hf st hg => thn (T.item X a b c d i pins s σ H E h1 I hf st hg) fun _ _ ⟨u, e, z⟩ => ⟨u, e, thn z fun _ _ ⟨z1, z2, z3⟩ => ⟨z1, h _ _ z2, z3⟩⟩, T.done⟩
/-- over a list, a tuple, a text; it may be owned -/
theorem pik_seqP (he : KE n X ys e (tD cls W false m)) : PIK n X ys tg e (iDp cls W m) RA := by
  refine ⟨fun pins s σ H R hn tk I ⟨G, U0, He, ρ, Qd, Xd, r, w, k, x⟩ => ?_⟩
  refine thn (he.run pins s σ H _ hn tk I (tD_in r w (fun d v H' e r' p f q => (⟨d, e, r', p, q⟩ : ∃ d, Ext G H H' ∧ RE G U0 He H' σ ρ ∧ Res false G (Uo U0 ρ σ) H' d v ∧ onIt Qd d)) x)) fun u s1 ⟨tk1, v, H1, I1, r1, d, e1, r1', p1, q1⟩ => ?_
  obtain ⟨xs, ex, q⟩ := onS_some q1
  obtain ⟨p1, nm⟩ := p1
  have tk2 : ∀ o, TokNs X ys { s1 with heap := s1.heap.push o } := fun o => tk1.fk (FK.kept (t := s1.toks) fun b u e => Heap.get?_push_of_some _ e) (Nat.le_refl _)
  cases d <;> first
    | cases ex
    | skip
  · rename_i t
    cases (show v = V.str (mkS t) from p1)
    obtain ⟨tk, rfl⟩ := r1
    have R1 := k _ _ H1 e1 r1' (IsIt.str t) q
    cases ha : (mkS t).cps.all (· < 128)
    · exact wpAny_pyIter_wide ha ⟨tk2 _, pirone (tk := s1.toks) I1 _ ((turnR_str _ (mkS t) tk "str_iterator" (.inr rfl)).weak fun _ _ _ => trivial) ⟨_, Heap.get?_push_size _ rfl, rfl, rfl⟩ R1⟩
    · exact wpAny_pyIter_ascii ha ⟨tk2 _, pirone (tk := s1.toks) I1 _ ((turnR_str _ (mkS t) tk "str_ascii_iterator" (.inl rfl)).weak fun _ _ _ => trivial) ⟨_, Heap.get?_push_size _ rfl, rfl, rfl⟩ R1⟩
  · obtain ⟨c, vs, rfl, rd, l⟩ := p1
    cases r1
    obtain ⟨its, rv, pt, hz⟩ := I1.tuple (.inl rd)
    exact wpAny_pyIter_tuple (show s1.heap.IsTuple c its.toArray from pt) ⟨tk2 _, pirone (tk := s1.toks) I1 _ (turnR_tup c _) ⟨_, Heap.get?_push_size _ rfl, rfl, rfl⟩ (k _ _ H1 e1 r1' (IsIt.tup r1'.mvU rd l) q)⟩
  · obtain ⟨c, vs, rfl, rd, l⟩ := p1
    cases r1
    obtain ⟨its, rv, pt, hz⟩ := I1.list (SqL.of rd)
    exact wpAny_pyIter_list pt.isList ⟨tk2 _, pirone (tk := s1.toks) I1 _ (turnR_list c _) ⟨_, Heap.get?_push_size _ rfl, rfl, rfl⟩ (k _ _ H1 e1 r1' (IsIt.list r1'.mvU rd (nm rfl c rfl) l) q)⟩
/-! ### comprehensions -/
theorem app_K {X : Cx} {pins : List (Addr × Obj)} {σ : L2.St} {H : Hp} {s : Shared} {E : Value → Shared → Prop} {D : Addr} {xs : List V} {y : V} {v : Value} {ys : List Str} {Q : Value → Shared → Prop} (I : Inv X pins σ H s) (hD : H D = some (.lst xs)) (hz : xs.length < sizeLine) (r : L2.RelV y v) (tk : TokNs X ys s)
    (h : ∀ g, Inv X pins σ (upd H D (.lst (xs ++ [y]))) { s with heap := g } → TokNs X ys { s with heap := g } → Q .none { s with heap := g }) : wpAny (model X.prog X.w) X.A (call (.builtin "list.append") [.ref D, v]) Q E s := by
  obtain ⟨_, its, n, ri, e⟩ := I.hok D _ hD
  have hl := ri.length
  refine append_at (hsz := by rw [List.size_toArray]; omega) e fun g sb ho => ?_
  have ob : g.get? D = some { cls := .type "list", data := .seq (its ++ [v]).toArray (n + 1) } := by rw [ho]; simp
  have kp : ∀ b o, b ≠ D → s.heap.get? b = some o → g.get? b = some o := fun b o hb q => (sb.2 b hb).trans q
  exact h g (I.write (t' := s.toks) (by rw [hD]; trivial) (.inl rfl) kp ⟨_, ho⟩ ⟨by rw [List.length_append]; exact hz, its ++ [v], n + 1, ri.append (.cons r .nil), ob⟩) (tk.fk (FK.but (t := s.toks) I (by rw [hD]; simp) kp) (Nat.le_refl _))
/-- a name that a block's body reads -/
theorem tok_blk {pins : List (Addr × Obj)} {σ : L2.St} {H : Hp} {s : Shared} {fp : List Addr} {σ' : L2.St} (I : Inv X pins σ H s) (ok : BlkOk X.N X.env.scope scope own) (hf : scope.names.lookup y = some .free)
    (hk : (compEnvC scope (cellsFrom (s.heap.objs.size + 1) scope.names (cloFrom X.env.cells scope.names [])) s.heap.objs.size X.env).kindOf y = some .cell ∨ (compEnvC scope (cellsFrom (s.heap.objs.size + 1) scope.names (cloFrom X.env.cells scope.names [])) s.heap.objs.size X.env).kindOf y = some .free)
    (I4 : Inv (X.blk s H scope (compEnvC scope (cellsFrom (s.heap.objs.size + 1) scope.names (cloFrom X.env.cells scope.names [])) s.heap.objs.size X.env) fp) [] σ' H { s with heap := pushCells (s.heap.push { cls := .type "dict", data := .dict #[] }) scope.names })
    (tk : TokN X y s) : TokN (X.blk s H scope (compEnvC scope (cellsFrom (s.heap.objs.size + 1) scope.names (cloFrom X.env.cells scope.names [])) s.heap.objs.size X.env) fp) y { s with heap := pushCells (s.heap.push { cls := .type "dict", data := .dict #[] }) scope.names } := by
  obtain ⟨m, u, hn, hl, ht⟩ := tk
  obtain ⟨m4, hn4, _⟩ := I4.loc
  refine ⟨m4, u, hn4, .inr ⟨hk, ?_⟩, ht⟩
  have kp : ∀ b o, s.heap.get? b = some o → (pushCells (s.heap.push { cls := .type "dict", data := .dict #[] }) scope.names).get? b = some o := fun b o e => pushCells_keeps _ _ _ _ (Heap.get?_push_of_some _ e)
  have hy : (y, NameKind.free) ∈ scope.names := PySem.mem_of_lookup hf
  obtain ⟨c', e'⟩ := mem_lookup (cells_acc (names := scope.names) (n := (s.heap.push { cls := .type "dict", data := .dict #[] }).objs.size) (cloFrom_has (cells := X.env.cells) (acc := []) hy))
  rw [Heap.size_push] at e'
  have hsc := ok.free _ hy rfl
  rcases hl with ⟨k, _⟩ | ⟨k, c, hc, o, ho, hd⟩
  · have k : X.env.scope.names.lookup y = some .local := k
    rcases hsc with z | z <;> (rw [k] at z; cases z)
  · refine ⟨c', e', ?_⟩
    have hcc : c' = c := by
      rw [← Heap.size_push s.heap { cls := .type "dict", data := .dict #[] }] at e'
      rcases cells_mem (PySem.mem_of_lookup e') with hm | ⟨h1, _, _⟩
      · rcases cloFrom_mem hm with hm | ⟨_, e⟩
        · cases hm
        · rw [hc] at e; exact e
      · have := ok.uniq _ h1
        rw [hf] at this; cases this
    subst hcc
    exact ⟨o, kp _ _ ho, hd⟩
theorem lc_K {n : Nat} {ys : List Str} {pins : List (Addr × Obj)} {s : Shared} {σ : L2.St} {H : Hp} {Q : VK} {elt tg iter : Expr} {scope : Scope} {own : List (Str × Nat)} {pos : Pos} {wi : TI} {g : TG} {te : TE}
    (hc : X.calm = true) (hN : X.N.Nodup) (I : Inv X pins σ H s) (hn : n ≤ s.toks) (h1n : 1 ≤ n) (tk0 : TokNs X ys s) (hi : PIK n X ys tg iter wi RA) (ok : BlkOk X.N X.env.scope scope own)
    (hg : ∀ (s : Shared) (H : Hp) (C : Addr) (cl : List (Str × Addr)) (fp : List Addr), PGY n (X.blk s H scope (compEnvC scope cl C X.env) fp) ys ys tg g RA)     (hfr : ∀ y ∈ ys, scope.names.lookup y = some .free) (hkd : ∀ y ∈ ys, ∀ (cl : List (Str × Addr)) (C : Addr), (compEnvC scope cl C X.env).kindOf y = some .cell ∨ (compEnvC scope cl C X.env).kindOf y = some .free)
    (he : ∀ (s : Shared) (H : Hp) (C : Addr) (cl : List (Str × Addr)) (fp : List Addr), KE n (X.blk s H scope (compEnvC scope cl C X.env) fp) ys elt te) (hs : ∀ x, foldedSetIterable iter X.env x = pure x := by intro _; rfl)
    (h : tLc wi g tYes te (own.map (·.2)) σ H Q) :
    wpAny (model X.prog X.w) X.A (eval (.ListComp elt [⟨tg, iter, [], 0⟩] scope pos) X.env) (EP X pins σ Q) X.xe s := by
  have hfree : ∀ z ∈ scope.names, z.2 = .free → ∃ c, X.env.cells.lookup z.1 = some c := fun z hz e => (ok.free z hz e).elim (fun k => I.ok.has _ (.inl k)) fun k => I.ok.has _ (.inr k)
  rw [eval_ListComp]
  refine wpAny_comprehension_free (use := none) rfl hs (closure_ok hfree) ok.kind (fun z hz e => by rw [ok.uniq z hz, e])
    (wpAny_mono (PySem.wpAny_toks (hi.run pins s σ H _ hn tk0 I h)) (fun xv s1 ⟨t1, hx⟩ => wpAny_mono (PySem.wpAny_toks hx) (fun itv s2 ⟨t2, tk2, h2⟩ => ?_) fun _ _ z => z.2) fun _ _ z => z.2)
  obtain ⟨it, fp, tn, J, H2, e, I2, T, st2, f2, q⟩ := h2
  subst e
  refine wpAny_newObj_type (newEnv_comp ?_) (by show 0 ≤ sizeLine; decide)
  generalize hDe : s2.heap.objs.size = D
  have hDn : H2 D = none := I2.hok.fresh (Nat.le_of_eq hDe)
  obtain ⟨Wi, ⟨m0, w0⟩, turn⟩ := q D hDn
  generalize hs3 : ({ s2 with heap := s2.heap.push { cls := .type "list", data := .seq ([] : List Value).toArray } } : Shared) = s3
  have oD3 : s3.heap.get? D = some { cls := .type "list", data := .seq ([] : List Value).toArray } := by rw [← hs3, ← hDe]; exact Heap.get?_push_size _ rfl
  have I3 : Inv X pins σ (upd H2 D (.lst [])) s3 := by
    rw [← hs3]
    exact I2.laid (t' := s2.toks) (fun b o z => Heap.get?_push_of_some _ z) (Nat.le_of_eq hDe) ⟨Nat.zero_le _, [], 0, .nil, by rw [← hs3] at oD3; exact oD3⟩
  have p3 : s3.heap = s2.heap.push { cls := .type "list", data := .seq ([] : List Value).toArray } := by rw [← hs3]
  have ltfp : ∀ b ∈ fp, b < s2.heap.objs.size := fun b hb => let ⟨o, z, _⟩ := T.tu.obj _ _ st2 b hb; Heap.lt_size z
  have nDfp : D ∉ fp := fun hb => by have := ltfp D hb; rw [hDe] at this; exact Nat.lt_irrefl _ this
  have f3 : ∀ b ∈ fp, FpOk X pins (upd H2 D (.lst [])) b ∧ b < s3.heap.objs.size := fun b hb => by
    have hlt := ltfp b hb
    refine ⟨⟨?_, (f2 b hb).2⟩, by rw [p3, Heap.size_push]; exact Nat.lt_succ_of_lt hlt⟩
    rw [upd_ne (fun z => nDfp (by rw [← z]; exact hb))]
    exact (f2 b hb).1
  have st3 : tn 0 s3.heap := T.tu.keep _ _ _ st2 fun b _ o z => by rw [p3]; exact Heap.get?_push_of_some _ z
  have I4 := block_start I3 ok hN f3
  have pg := hg s3 (upd H2 D (.lst [])) s3.heap.objs.size (cellsFrom (s3.heap.objs.size + 1) scope.names (cloFrom X.env.cells scope.names [])) fp
  have pv := he s3 (upd H2 D (.lst [])) s3.heap.objs.size (cellsFrom (s3.heap.objs.size + 1) scope.names (cloFrom X.env.cells scope.names [])) fp
  show codeAny _ _ (.compStart (.ListComp elt [⟨tg, iter, [], 0⟩] scope pos) 0 (.ref it) (.ref D) (compEnvC scope (cellsFrom (s3.heap.objs.size + 1) scope.names (cloFrom X.env.cells scope.names [])) s3.heap.objs.size X.env))
    (compPost (model X.prog X.w) X.A X.xe none (EP X pins σ Q) (.ref D) s3.heap.objs.size) { s3 with heap := pushCells (s3.heap.push { cls := .type "dict", data := .dict #[] }) scope.names }
  have nfp : ∀ b ∈ fp, (upd H2 D (.lst [])) b = none := fun b hb => (f3 b hb).1.1
  have tk3 : TokNs X ys s3 := by
    rw [← hs3]
    exact tk2.fk (FK.kept (t := s2.toks) fun b o z => Heap.get?_push_of_some _ z) (Nat.le_refl _)
  have tn3 : n ≤ s3.toks := by rw [← hs3]; exact Nat.le_trans hn (Nat.le_trans t1 t2)
  have tkb : TokNs (X.blk s3 (upd H2 D (.lst [])) scope (compEnvC scope (cellsFrom (s3.heap.objs.size + 1) scope.names (cloFrom X.env.cells scope.names [])) s3.heap.objs.size X.env) fp) ys { s3 with heap := pushCells (s3.heap.push { cls := .type "dict", data := .dict #[] }) scope.names } := fun y hy => tok_blk I3 ok (hfr y hy) (hkd y hy _ _) I4 (tk3 y hy)
  generalize hce : compEnvC scope (cellsFrom (s3.heap.objs.size + 1) scope.names (cloFrom X.env.cells scope.names [])) s3.heap.objs.size X.env = ce at I4 pg pv tkb ⊢
  have cL : ce.locals = s3.heap.objs.size := by subst hce; rfl
  have hDH : (upd H2 D (.lst [])) D = some (.lst []) := upd_same
  generalize hH3 : upd H2 D (.lst []) = H3 at I3 I4 pg pv w0 nfp f3 hDH tkb
  have st4 : tn 0 ({ s3 with heap := pushCells (s3.heap.push { cls := .type "dict", data := .dict #[] }) scope.names } : Shared).heap := T.tu.keep _ _ _ st3 fun b _ o z => pushCells_keeps _ _ _ _ (Heap.get?_push_of_some _ z)
  have tn4 : n ≤ ({ s3 with heap := pushCells (s3.heap.push { cls := .type "dict", data := .dict #[] }) scope.names } : Shared).toks := tn3
  generalize ({ s3 with heap := pushCells (s3.heap.push { cls := .type "dict", data := .dict #[] }) scope.names } : Shared) = s4 at I4 st4 tkb tn4 ⊢
  have stat : ∀ {σ' : L2.St} {H' : Hp} {s' : Shared}, Inv (X.blk s3 H3 scope ce fp) [] σ' H' s' → (∀ b ∈ fp, H' b = none) → ∀ b ∈ fp, FpOk (X.blk s3 H3 scope ce fp) [] H' b := fun {σ' H' s'} I' hn b hb =>
    ⟨hn b hb, (I'.ok.exf b hb).1, I'.ok.exfs b hb, .inl hb, fun x c z => (I'.ok.exf b hb).2 x c z, fun p hp => absurd (show p ∈ ([] : List (Addr × Obj)) ++ [] from hp) (by simp)⟩
  have loop : codeAny (model X.prog X.w) X.A (.compLoop (.ListComp elt [⟨tg, iter, [], 0⟩] scope pos) 0 (.ref it) (.ref D) ce)
      (compPost (model X.prog X.w) X.A X.xe none (EP X pins σ Q) (.ref D) s3.heap.objs.size) s4 := by
    refine compLoop_any (fun q s' => ∃ i H', Inv (X.blk s3 H3 scope ce fp) [] (wipe σ (own.map (·.2))) H' s' ∧ tn i s'.heap ∧ (∀ b ∈ fp, H' b = none) ∧ Wi i q H' ∧ n ≤ s'.toks ∧ TokNs (X.blk s3 H3 scope ce fp) ys s') ?_ m0
      ⟨0, H3, I4, st4, nfp, w0, tn4, tkb⟩
    rintro q5 s5 ⟨i, H5, I5, st5, n5, w5, tn5, tk5⟩
    rcases turn i q5 H5 w5 with ⟨stop, qq⟩ | ⟨go, Nx, hNx, step⟩
    · refine thnF (T.done (X.blk s3 H3 scope ce fp) rfl rfl rfl hc i [] s5 _ H5 (fun _ _ => False) I5 (stat I5 n5) st5 stop) fun r s6 ⟨⟨hr, I6⟩, _⟩ => ?_
      subst hr
      have I7 : Inv X pins σ H5 s6 := I3.call' (ch := fp) I6.os I6.base I6.hok I6.bare fun b hb => ⟨(f3 b hb).1.2.2.2.1, (f3 b hb).1.2.1, (f3 b hb).1.2.2.2.2.1, (f3 b hb).1.2.2.2.2.2⟩
      have nC : H5 s3.heap.objs.size = none := by
        have z : H5 ce.locals = none := I6.free
        rw [cL] at z
        exact z
      obtain ⟨m, hn, _⟩ := I6.loc
      have hn : s6.heap.Ns ce.locals m := hn
      rw [cL] at hn
      refine ⟨m, hn, fun h2 sb => ?_⟩
      obtain ⟨g0, g1, g2, g3, g4, g5⟩ := I3.fpOk (Nat.le_refl _) nC
      exact ⟨.ref D, H5, I7.turned (t' := s6.toks) (fun b o hb z => (sb.2 b hb).trans z) g0 g1 g3 g4 g5, rfl, qq⟩
    · refine thnF (PySem.wpAny_mono (PySem.wpAny_toks (T.item (X.blk s3 H3 scope ce fp) rfl rfl rfl hc i [] s5 _ H5 (fun _ _ => False) (Nat.le_trans h1n tn5) I5 (stat I5 n5) st5 go)) (fun _ _ z => z) fun _ _ z => z.2) fun r s6 ⟨t6, u, hr, h6⟩ => ?_
      subst hr
      refine thnF h6 fun _ s7 ⟨⟨x, H7, I7, r7, y7, st7, n7⟩, rn7, t7, k7⟩ => ?_
      have tk7 : TokNs (X.blk s3 H3 scope ce fp) ys s7 := by
        refine tk5.fk ⟨fun m ⟨o, es, ep, ho, r⟩ => ⟨o, es, ep, k7 _ o (fun hm => ?_) ho, r⟩, fun z c v e ⟨o, ho, hd⟩ => ⟨o, k7 _ o (fun hm => ?_) ho, hd⟩⟩ t7
        · exact (I5.ok.exf _ hm).1 rfl
        · exact (I5.ok.exf _ hm).2 z c e rfl
      have tn7 : n ≤ s7.toks := Nat.le_trans tn5 t7
      have J7 := I7.pinned (stat I7 n7) (T.tu.obj _ _ st7)
      refine thnF (PySem.wpAny_mono (PySem.wpAny_toks (pg.run _ s7 _ H7 x u _ tn7 rn7 tk7 J7 r7 (step x H7 y7))) (fun _ _ z => z) fun _ _ z => z.2) fun _ s8 ⟨t8, ⟨σ8, H8, I8, hw8, q8⟩, tk8⟩ => ?_
      have tn8 : n ≤ s8.toks := Nat.le_trans tn7 t8
      have fin : ∀ {s' : Shared} {H' : Hp}, Inv (X.blk s3 H3 scope ce fp) ([] ++ pinsAt fp s7.heap) σ8 H' s' → Nx H' → n ≤ s'.toks → TokNs (X.blk s3 H3 scope ce fp) ys s' → ∃ m, m < q5 ∧ ∃ i H', Inv (X.blk s3 H3 scope ce fp) [] (wipe σ (own.map (·.2))) H' s' ∧ tn i s'.heap ∧ (∀ b ∈ fp, H' b = none) ∧ Wi i m H' ∧ n ≤ s'.toks ∧ TokNs (X.blk s3 H3 scope ce fp) ys s' := fun {s' H'} I' nx t1 t2 => by
        obtain ⟨m', hm, w'⟩ := hNx H' nx
        have pin' : ∀ b ∈ fp, ∀ o, s7.heap.get? b = some o → s'.heap.get? b = some o ∧ H' b = none := fun b hb o z =>
          let y := I'.pin (b, o) (List.mem_append_right _ (List.mem_append_right _ (mem_pinsAt hb z)))
          ⟨y.1, y.2.1⟩
        have hl : (wipe σ (own.map (·.2))).length = σ8.length := by rw [← hw8, wipe_length]
        refine ⟨m', hm, i + 1, H', (I'.unpinned (pins := [])).weak hl (fun j v z => ?_), T.tu.keep _ _ _ st7 fun b hb o z => (pin' b hb o z).1, fun b hb => ?_, w', t1, t2⟩
        · rw [← hw8] at z
          exact (wipe_some z).1
        · obtain ⟨o, z, _⟩ := T.tu.obj _ _ st7 b hb
          exact (pin' b hb o z).2
      refine thnF (wpAny_tests_nil (Q := fun b s' => b = true ∧ s' = s8) ⟨rfl, rfl⟩) fun b s9 ⟨eb, es9⟩ => ?_
      subst eb es9
      have q8 := q8
      simp only [tYes, if_true] at q8 ⊢
      refine thnF (PySem.wpAny_mono (PySem.wpAny_toks (pv.run _ s9 σ8 H8 _ tn8 tk8 I8 q8)) (fun _ _ z => z) fun _ _ z => z.2) fun v s10 ⟨t10, tk10, yv, H10, I10, r10, acc, hD10, hz10, nx⟩ => ?_
      exact app_K (X := X.blk s3 H3 scope ce fp) I10 hD10 hz10 r10 tk10 fun g I11 tk11 => fin I11 nx (Nat.le_trans tn8 t10) tk11
  exact codeAny_compStart_list loop (T.tu.self X.A 0 _ _ _ st4 loop)
theorem iDp_mono {σ : L2.St} {H : Hp} {R R' : It → Hp → Prop} (h : iDp cls W m σ H R) (i : ∀ J H1, R J H1 → R' J H1) : iDp cls W m σ H R' := by
  obtain ⟨G, U0, He, ρ, Qd, Xd, r, w, k, x⟩ := h
  exact ⟨G, U0, He, ρ, Qd, Xd, r, w, fun xs J H1 e1 rb it q => i _ _ (k xs J H1 e1 rb it q), x⟩
theorem gD_mono {v : V} {σ : L2.St} {H : Hp} {Q Q' : L2.St → Hp → Prop} (h : gD g v σ H Q) (i : ∀ σ' H', Q σ' H' → Q' σ' H') : gD g v σ H Q' := by
  obtain ⟨G, U0, He, ρ, d, ρ', re, p, a, k⟩ := h
  exact ⟨G, U0, He, ρ, d, ρ', re, p, a, fun σ' z => i _ _ (k σ' z)⟩
theorem tTs_nil {σ : L2.St} {H : Hp} {Q : Bool → Hp → Prop} (h : tTs cls noW [] σ H Q) : Q true H := by
  obtain ⟨G, U0, He, ρ, Qd, r, w, k⟩ := h
  exact k true H (Ext.refl G H) (by simpa only [wIfs] using w)
theorem tLc_tt {te : TE} {vs : List Nat} {σ : L2.St} {H : Hp} {Q : VK} (h : tLc (iDp cls W m) (gD g) (tTs cls noW []) te vs σ H Q) : tLc (iDp cls W m) (gD g) tYes te vs σ H Q := by
  refine iDp_mono h fun J H1 z D hD => ?_
  obtain ⟨Wi, h0, t⟩ := z D hD
  refine ⟨Wi, h0, fun i q Hc w => ?_⟩
  rcases t i q Hc w with z | ⟨go, Nx, hNx, step⟩
  · exact .inl z
  · exact .inr ⟨go, Nx, hNx, fun x H' y => gD_mono (step x H' y) fun σ2 H2 ⟨e, tt⟩ => ⟨e, tTs_nil tt⟩⟩
theorem ke_lcK (hc : X.calm = true) (hN : X.N.Nodup) (h1n : 1 ≤ n) (hi : PIK n X ys tg iter (iDp cls W m) RA) (ok : BlkOk X.N X.env.scope scope own) (hv : own.map (·.2) = g.slots)
    (hg : ∀ (s : Shared) (H : Hp) (C : Addr) (cl : List (Str × Addr)) (fp : List Addr), PGY n (X.blk s H scope (compEnvC scope cl C X.env) fp) ys ys tg (gD g) RA)
    (hfr : ∀ y ∈ ys, scope.names.lookup y = some .free) (hkd : ∀ y ∈ ys, ∀ (cl : List (Str × Addr)) (C : Addr), (compEnvC scope cl C X.env).kindOf y = some .cell ∨ (compEnvC scope cl C X.env).kindOf y = some .free)
    (he : ∀ (s : Shared) (H : Hp) (C : Addr) (cl : List (Str × Addr)) (fp : List Addr), KE n (X.blk s H scope (compEnvC scope cl C X.env) fp) ys elt (tD cls noW true me)) (hs : ∀ x, foldedSetIterable iter X.env x = pure x := by intro _; rfl) :
    ∀ pins s σ H Q, n ≤ s.toks → TokNs X ys s → Inv X pins σ H s → tD cls W true (.lc g m [] me) σ H Q → wpAny (model X.prog X.w) X.A (eval (.ListComp elt [⟨tg, iter, [], 0⟩] scope pos) X.env) (EP X pins σ Q) X.xe s :=
  fun pins s σ H Q hn tk I q => lc_K hc hN I hn h1n tk hi ok hg hfr hkd he hs (tLc_tt (imp_lc hv q))
end
end DL

set_option Elab.async false
set_option linter.all false
set_option maxRecDepth 100000
set_option maxHeartbeats 1000000
/-! DK17: list.index of texts; calls whose last argument leans on a known name. -/
namespace DL
open PySem PySem.Spec PyProof.Rows L2
variable [Tb]
theorem b2_lindex {x y dz : D} (h : b2D .lindex x y = some dz) : ∃ (xs : List D) (ss : List (List Nat)) (k : List Nat) (i : Nat), x = .lst xs ∧ y = .str k ∧ strsD xs = some ss ∧ idxL ss k = some i ∧ dz = .int (i : Nat) := by
  cases x with
  | lst xs =>
    cases y with
    | str k =>
      have h : ((strsD xs).bind fun ss => (idxL ss k).map fun (i : Nat) => D.int (i : Nat)) = some dz := h
      rw [Option.bind_eq_some_iff] at h
      obtain ⟨ss, e1, h⟩ := h
      rw [Option.map_eq_some_iff] at h
      obtain ⟨i, e2, rfl⟩ := h
      exact ⟨xs, ss, k, i, rfl, rfl, e1, e2, rfl⟩
    | _ => simp [b2D] at h
  | _ => cases y <;> simp [b2D] at h
theorem idxL_first {α : Type} [DecidableEq α] {s : List α} {c : α} {i : Nat} (h : idxL s c = some i) : s[i]? = some c ∧ ∀ k, k < i → s[k]? ≠ some c := by
  unfold idxL at h
  rw [List.findIdx?_eq_some_iff_getElem] at h
  obtain ⟨h1, h2, h3⟩ := h
  refine ⟨by rw [List.getElem?_eq_getElem h1]; simpa using h2, fun k hk e => ?_⟩
  have := h3 k hk
  rw [List.getElem?_eq_getElem (by omega)] at e
  simp at e
  simp [e] at this
section
variable {X : Cx} {cls : Nat → Addr} {W : WX} {m m1 m2 me : ME} {ms : List ME} {g : MG} {e o a b elt tg iter : Expr} {es : List Expr} {scope : Scope} {own : List (Str × Nat)} {pos p apos cpos : Pos} {x y : Str} {n : Nat} {ys zs : List Str} {fr : List Nat}
theorem te_lindex (ho : PE X o (tD cls W false m1)) (he : PE X e (tD cls W false m2))
    (hbase : attributeBase o "index" X.env (eval o X.env) = eval o X.env := by rfl)
    (hfew : ((backTo cpos (starEach [e] X.env)).all (fun x => !x.1) && (backToKw cpos (keywordEach [] X.env)).all (fun x => x.1.isSome)
      && decide ([e].length + ([] : List Keyword).length + (if ([] : List Keyword).isEmpty then 0 else 1) < 30)) = true := by rfl)
    (hline : (apos.endLine == cpos.line) = true := by rfl) (hs : starEach [e] X.env = (false, eval e X.env) :: starEach [] X.env := by rfl) :
    PE X (.Call (.Attribute o "index" apos) [e] [] cpos) (tD cls W true (.b2 .lindex m1 m2)) :=
  (pe_bm PySem.F.plainAttrs_list PySem.F.slot_list_index PySem.F.type_list_index mt_index ho (pa_cons he pa_nil hs) hbase hfew hline hs rfl).imp fun σ H Q ⟨G, U0, He, ρ, Qd, Xd, r, w, k, x⟩ => by
    simp only [wE] at w
    refine tD_in r w (fun d1 v1 H1 e1 r1 p1 fz1 w1 => ?_) x
    obtain ⟨bt, w1⟩ := w1
    cases d1 <;> first
      | cases bt
      | skip
    rename_i xs
    obtain ⟨a, vs, rfl, ha, la⟩ := p1.p
    refine ⟨.inl ⟨rfl, _, SqL.of ha⟩, tD_in r1 w1 (fun d2 v2 H2 e2 r2 p2 fz2 w2 => ?_) fun j H2 e2 q => x j H2 (e1.trans e2) q⟩
    obtain ⟨dz, q, w3⟩ := onS_some w2
    obtain ⟨xs', ss, kk, i, es, rfl, hss, hi, rfl⟩ := b2_lindex q
    cases es
    cases (show v2 = V.str (mkS kk) from p2.p)
    obtain ⟨a', vs', ea, ha2, la2⟩ := (p1.step r1 e2).p
    cases ea
    have ev := la2.strs hss
    obtain ⟨h1, h2⟩ := idxL_first hi
    refine ⟨a, vs', .str (mkS kk), i, .str (mkS kk), rfl, rfl, SqL.of ha2, rfl, ?_, ?_, ?_, fun k' z' hk hz => ?_, k (.int (i : Nat)) _ H2 (e1.trans e2) rfl (Fre.no rfl) w3⟩
    · rw [ev, List.all_eq_true]
      intro z hz
      obtain ⟨s, _, rfl⟩ := List.mem_map.mp hz
      rfl
    · rw [ev, List.getElem?_map, List.getElem?_map, h1]; rfl
    · show (mkS kk == mkS kk) = true
      exact beq_self_eq_true _
    · rw [ev, List.getElem?_map, List.getElem?_map] at hz
      cases hq : ss[k']? with
      | none => rw [hq] at hz; cases hz
      | some s =>
        rw [hq] at hz
        cases hz
        show (mkS s == mkS kk) = false
        rw [mkS_beq, beq_eq_false_iff_ne]
        exact fun z => h2 k' hk (z ▸ hq)
/-- leans on known names -/
structure PEz (n : Nat) (X : Cx) (ys : List Str) (e : Expr) (t : TE) : Prop where
  run : ∀ (pins : List (Addr × Obj)) (s : Shared) (σ : L2.St) (H : Hp) (Q : VK), n ≤ s.toks → TokNs X ys s → Inv X pins σ H s → t σ H Q → wpAny (model X.prog X.w) X.A (eval e X.env) (EP X pins σ Q) X.xe s
theorem ez_lcK (hc : X.calm = true) (hN : X.N.Nodup) (h1n : 1 ≤ n) (hi : PIK n X ys tg iter (iDp cls W m) RA) (ok : BlkOk X.N X.env.scope scope own) (hv : own.map (·.2) = g.slots)
    (hg : ∀ (s : Shared) (H : Hp) (C : Addr) (cl : List (Str × Addr)) (fp : List Addr), PGY n (X.blk s H scope (compEnvC scope cl C X.env) fp) ys ys tg (gD g) RA)
    (hfr : ∀ y ∈ ys, scope.names.lookup y = some .free) (hkd : ∀ y ∈ ys, ∀ (cl : List (Str × Addr)) (C : Addr), (compEnvC scope cl C X.env).kindOf y = some .cell ∨ (compEnvC scope cl C X.env).kindOf y = some .free)
    (he : ∀ (s : Shared) (H : Hp) (C : Addr) (cl : List (Str × Addr)) (fp : List Addr), KE n (X.blk s H scope (compEnvC scope cl C X.env) fp) ys elt (tD cls noW true me)) (hs : ∀ x, foldedSetIterable iter X.env x = pure x := by intro _; rfl) :
    PEz n X ys (.ListComp elt [⟨tg, iter, [], 0⟩] scope pos) (tD cls W true (.lc g m [] me)) := ⟨ke_lcK hc hN h1n hi ok hv hg hfr hkd he hs⟩
/-- f(a, b), b leaning on known names -/
theorem ez_fn {S : FS} {k j : Nat} {f : Str} (cl : Cal X.prog X.w X.K X.mg X.base cls k f S) (tk : L2N.Takes X W) (hr : Room j X.A) (hk : k ≤ j)
    (ha : KE n X ys a (tD cls W true m1)) (hb : PEz n X ys b (tD cls W true m2)) (hg : Gl X f := by rfl) (hdb : (f == ("__debug__" : Str)) = false := by decide) (he : starEach [a, b] X.env = (false, eval a X.env) :: starEach [b] X.env := by rfl) (he2 : starEach [b] X.env = (false, eval b X.env) :: starEach [] X.env := by rfl) (hpl : (backTo pos (starEach [b] X.env)).any (·.1) = false := by rfl) :
    PEz n X ys (.Call (.Name f p) [a, b] [] pos) (tD cls W true (.call S [m1, m2])) := by
  obtain ⟨fa, fd, ps, F, hm, kp, hb'⟩ := cl.ex
  have hx : ∀ σ, PassesAt (L2N.CX X.prog X.w) X σ (fun c d H => W c d σ H) := fun σ => L2N.passAt tk σ
  refine ⟨fun pins s σ H Q hn tky I q0 => ?_⟩
  have h : tDs cls W [m1, m2] σ H fun vs H1 => spD cls S (vs ++ []) H1 Q (fun c d H => W c d σ H) := imp_call q0
  refine wpAny_Call_Name_kw (ld_glob I hg hm ?_ hdb)
  refine PySem.W.callWith_K (h₀ := X.base) I.ok.mod.kin kp (?_ : wpAny _ _ (spliced (backTo pos (starEach [a, b] X.env))) _ _ s) he hpl
  rw [he, he2]
  show wpAny _ _ (spliced ((false, eval a X.env) :: (false, eval b X.env) :: backTo pos (starEach [] X.env))) _ _ s
  refine Calls.spliced_cons (wpAny_mono (PySem.wpAny_toks (ha.run pins s σ H _ hn tky I (imp_cons h))) (fun u1 s1 ⟨t1, k1, v1, H1, I1, r1, q1⟩ => ?_) fun _ _ z => z.2)
  refine Calls.spliced_cons (thn (hb.run pins s1 σ H1 _ (Nat.le_trans hn t1) k1 I1 (imp_cons q1)) fun u2 s2 ⟨v2, H2, I2, r2, q2⟩ => Calls.spliced_nil ⟨I2.kIn, ?_⟩)
  have q : spD cls S ([v1, v2] ++ []) H2 Q (fun c d H => W c d σ H) := imp_nil q2
  rw [List.append_nil] at q
  have rv : Vals [v1, v2] [u1, u2] := .cons r1 (.cons r2 .nil)
  have hl : ([u1, u2] : List Value).length = ps.length := by rw [← rv.length]; exact F.len _ _ _ _ q
  have hb1 := hb' s2 [u1, u2] I2.kIn (by rw [List.append_nil]; exact hl)
  rw [List.append_nil] at hb1
  refine wpAny_call (codeAny_mono (F.run X.A X.stack s2 H2 ⟨[u1, u2], []⟩ [u1, u2] [v1, v2] Q (fun c d H => W c d σ H) (hr.mono hk) I2.env0 hb1 rv q) fun r s' hq => ?_)
  cases r with
  | error e => exact hx σ pins H2 s2 e s' I2 hq
  | ok fl =>
    cases fl with
    | ret u => exact I2.after hq
    | next => exact False.elim hq
    | brk => exact False.elim hq
    | cont => exact False.elim hq
theorem ks_setz {i : Nat} {pos' : Pos} (hN : X.N.Nodup) (hi : X.N[i]? = some x) (hx : Loc X.env.scope x) (he : PEz n X ys e (tD cls W true m)) (hs : swapsWith e (some (.Name x pos')) pos.line X.env = pure false := by rfl) (hf : X.fn x = true ∨ X.env.scope.names.lookup x = some .local := by first | exact .inl rfl | exact .inr rfl) :
    KSt n X ys [] (.Assign [.Name x pos'] e pos) (tS cls W (.asg (.nm i) fr m)) := by
  refine ⟨fun pins s0 σ H D hn tk I z => ?_⟩
  refine wpAny_Assign_Name (thn (he.run pins s0 σ H _ hn tk I (imp_set z)) fun v s1 ⟨w, H1, I1, r1, q1⟩ => ?_) hs
  exact store_ok I1 hN hi hx r1 (fun s2 I2 => ⟨⟨_, H1, I2, q1⟩, fun _ => TokNs.nil⟩) hf
end
end DL

set_option Elab.async false
set_option linter.all false
set_option maxRecDepth 100000
/-! PVs: the forms over data, simplified. -/
namespace DL
open L2
@[simp] theorem onS_s {α : Type} (a : α) (Q : α → Prop) : onS (some a) Q = Q a := rfl
@[simp] theorem onS_n {α : Type} (Q : α → Prop) : onS none Q = False := rfl
@[simp] theorem onB_b (b : Bool) (Q : Bool → Prop) : onB Q (.bl b) = Q b := rfl
@[simp] theorem onI_i (i : Int) (Q : Option Int → Prop) : onI Q (.int i) = Q (some i) := rfl
@[simp] theorem onP_t (Q : Option Int → Prop) (d : D) : onP true Q d = Q none := rfl
@[simp] theorem onP_f (Q : Option Int → Prop) (d : D) : onP false Q d = onI Q d := by simp [onP]
@[simp] theorem onIt_l (Q : List D → Prop) (xs : List D) : onIt Q (.lst xs) = Q xs := rfl
@[simp] theorem onIt_t (Q : List D → Prop) (xs : List D) : onIt Q (.tup xs) = Q xs := rfl
@[simp] theorem onIt_s (Q : List D → Prop) (s : List Nat) : onIt Q (.str s) = Q (chars s) := rfl
@[simp] theorem c_le (a b : Int) : cmpD .le (.int a) (.int b) = some (decide (a ≤ b)) := rfl
@[simp] theorem c_lt (a b : Int) : cmpD .lt (.int a) (.int b) = some (decide (a < b)) := rfl
@[simp] theorem c_ge (a b : Int) : cmpD .ge (.int a) (.int b) = some (decide (b ≤ a)) := rfl
@[simp] theorem c_gt (a b : Int) : cmpD .gt (.int a) (.int b) = some (decide (b < a)) := rfl
@[simp] theorem c_ltS (a b : List Nat) : cmpD .lt (.str a) (.str b) = some (ltL a b) := rfl
@[simp] theorem c_gtS (a b : List Nat) : cmpD .gt (.str a) (.str b) = some (ltL b a) := rfl
@[simp] theorem c_inS (c : Nat) (s : List Nat) : cmpD .inn (.str [c]) (.str s) = some (decide (c ∈ s)) := rfl
@[simp] theorem c_ninS (c : Nat) (s : List Nat) : cmpD .nin (.str [c]) (.str s) = some (!decide (c ∈ s)) := rfl
theorem c_eq (x y : D) : cmpD .eq x y = if eqOk x y then some (D.eqv x y) else none := by cases x <;> cases y <;> rfl
theorem c_ne (x y : D) : cmpD .ne x y = if eqOk x y then some (!D.eqv x y) else none := by cases x <;> cases y <;> rfl
theorem c_inL (x : D) (ys : List D) : cmpD .inn x (.lst ys) = if eqOk x (.lst ys) then some (ys.any fun z => D.eqv z x) else none := by
  cases x <;> first
    | rfl
    | (rename_i s; cases s with
      | nil => rfl
      | cons c r => cases r <;> rfl)
theorem c_ninL (x : D) (ys : List D) : cmpD .nin x (.lst ys) = if eqOk x (.lst ys) then some (!ys.any fun z => D.eqv z x) else none := by
  cases x <;> first
    | rfl
    | (rename_i s; cases s with
      | nil => rfl
      | cons c r => cases r <;> rfl)
@[simp] theorem pl_int (i : Int) : D.pl (.int i) = true := rfl
@[simp] theorem pl_bl (i : Bool) : D.pl (.bl i) = true := rfl
@[simp] theorem pl_str (i : List Nat) : D.pl (.str i) = true := rfl
@[simp] theorem pl_non : D.pl .non = true := rfl
@[simp] theorem pl_tup (xs : List D) : D.pl (.tup xs) = D.pls xs := by simp [D.pl]
@[simp] theorem pl_lst (xs : List D) : D.pl (.lst xs) = D.pls xs := by simp [D.pl]
@[simp] theorem pls_nil : D.pls [] = true := rfl
@[simp] theorem pls_cons (x : D) (xs : List D) : D.pls (x :: xs) = (D.pl x && D.pls xs) := by simp [D.pls]
@[simp] theorem dep_int (i : Int) : D.dep (.int i) = 0 := rfl
@[simp] theorem dep_bl (i : Bool) : D.dep (.bl i) = 0 := rfl
@[simp] theorem dep_str (i : List Nat) : D.dep (.str i) = 0 := rfl
@[simp] theorem dep_non : D.dep .non = 0 := rfl
@[simp] theorem dep_tup (xs : List D) : D.dep (.tup xs) = D.deps xs + 1 := by simp [D.dep]
@[simp] theorem dep_lst (xs : List D) : D.dep (.lst xs) = D.deps xs + 1 := by simp [D.dep]
@[simp] theorem deps_nil : D.deps [] = 0 := rfl
@[simp] theorem deps_cons (x : D) (xs : List D) : D.deps (x :: xs) = max (D.dep x) (D.deps xs) := by simp [D.deps]
/-- one side flat -/
theorem eqOk_f {x y : D} (hx : x.pl = true) (hy : y.pl = true) (h : x.dep ≤ 30 ∨ y.dep ≤ 30) : eqOk x y = true := by
  unfold eqOk
  rw [hx, hy]
  simp only [Bool.and_self, Bool.true_and, decide_eq_true_eq]
  omega
@[simp] theorem ev_int (a b : Int) : D.eqv (.int a) (.int b) = (a == b) := by simp [D.eqv]
@[simp] theorem ev_str (a b : List Nat) : D.eqv (.str a) (.str b) = (a == b) := by simp [D.eqv]
@[simp] theorem ev_bl (a b : Bool) : D.eqv (.bl a) (.bl b) = (a == b) := by simp [D.eqv]
@[simp] theorem ev_tup (a b : List D) : D.eqv (.tup a) (.tup b) = D.eqvs a b := by simp [D.eqv]
@[simp] theorem ev_lst (a b : List D) : D.eqv (.lst a) (.lst b) = D.eqvs a b := by simp [D.eqv]
@[simp] theorem evs_nn : D.eqvs [] [] = true := rfl
@[simp] theorem evs_cc (a b : D) (x y : List D) : D.eqvs (a :: x) (b :: y) = (D.eqv a b && D.eqvs x y) := by simp [D.eqvs]
@[simp] theorem evs_nc (b : D) (y : List D) : D.eqvs [] (b :: y) = false := rfl
@[simp] theorem evs_cn (b : D) (y : List D) : D.eqvs (b :: y) [] = false := rfl
@[simp] theorem a_int (a b : Int) : binD .add (.int a) (.int b) = some (.int (a + b)) := rfl
@[simp] theorem s_int (a b : Int) : binD .sub (.int a) (.int b) = some (.int (a - b)) := rfl
theorem a_str (a b : List Nat) (h : a.length + b.length ≤ 16777216) : binD .add (.str a) (.str b) = some (.str (a ++ b)) := by simp [binD, sumLen, h]
theorem a_lst (a b : List D) (h : a.length + b.length ≤ 16777216) : binD .add (.lst a) (.lst b) = some (.lst (a ++ b)) := by simp [binD, sumLen, h]
theorem a_tup (a b : List D) (h : a.length + b.length ≤ 16777216) : binD .add (.tup a) (.tup b) = some (.tup (a ++ b)) := by simp [binD, sumLen, h]
@[simp] theorem atI0 {α : Type} (x : α) (xs : List α) : atI (x :: xs) 0 = some x := by
  have := atI_nat (xs := x :: xs) (j := 0) (v := x) rfl
  simpa using this
@[simp] theorem atI1 {α : Type} (x y : α) (xs : List α) : atI (x :: y :: xs) 1 = some y := by
  have := atI_nat (xs := x :: y :: xs) (j := 1) (v := y) rfl
  simpa using this
@[simp] theorem sub_tup (xs : List D) (i : Int) : subD (.tup xs) (.int i) = atI xs i := rfl
@[simp] theorem sub_lst (xs : List D) (i : Int) : subD (.lst xs) (.int i) = atI xs i := rfl
@[simp] theorem len_tup (xs : List D) : b1D .len (.tup xs) = some (.int xs.length) := rfl
@[simp] theorem len_lst (xs : List D) : b1D .len (.lst xs) = some (.int xs.length) := rfl
theorem len_str (s : List Nat) (h : s.length ≤ 16777216) : b1D .len (.str s) = some (.int s.length) := by simp [b1D, h]
theorem sum_ints (ns : List Int) : b1D .sum (.lst (ns.map .int)) = some (.int ns.sum) := by
  have h : ∀ ns : List Int, intsD (ns.map .int) = some ns := fun ns => by
    induction ns with
    | nil => rfl
    | cons n r ih => simp [intsD, ih]
  simp [b1D, h]
theorem all_bls (bs : List Bool) : b1D .all (.lst (bs.map .bl)) = some (.bl (bs.all id)) := by
  have h : ∀ ns : List Bool, blsD (ns.map .bl) = some ns := fun ns => by
    induction ns with
    | nil => rfl
    | cons n r ih => simp [blsD, ih]
  simp [b1D, h]
theorem any_bls (bs : List Bool) : b1D .any (.lst (bs.map .bl)) = some (.bl (bs.any id)) := by
  have h : ∀ ns : List Bool, blsD (ns.map .bl) = some ns := fun ns => by
    induction ns with
    | nil => rfl
    | cons n r ih => simp [blsD, ih]
  simp [b1D, h]
theorem strs_str (ss : List (List Nat)) : strsD (ss.map .str) = some ss := by
  induction ss with
  | nil => rfl
  | cons n r ih => simp [strsD, ih]
theorem lenset_str (s : List Nat) (h : s.length ≤ 1000) : b1D .lenset (.str s) = some (.int (difC (s.map fun c => [c]).reverse)) := by simp [b1D, h]
theorem lenset_lst (ss : List (List Nat)) (h : ss.length ≤ 1000) : b1D .lenset (.lst (ss.map .str)) = some (.int (difC ss.reverse)) := by simp [b1D, strs_str, h]
theorem difC_le : ∀ xs : List (List Nat), difC xs ≤ xs.length
  | [] => Nat.le_refl _
  | x :: r => by
    unfold difC
    have := difC_le r
    split <;> simp <;> omega
theorem difC_nd : ∀ xs : List (List Nat), (difC xs = xs.length) ↔ xs.Nodup
  | [] => by simp [difC]
  | x :: r => by
    have ih := difC_nd r
    have h1 := difC_le r
    unfold difC
    by_cases h : r.any (· == x) = true
    · rw [if_pos h]
      have hm : x ∈ r := by simpa using h
      constructor
      · intro e; simp at e; omega
      · intro e; exact absurd hm (List.nodup_cons.mp e).1
    · rw [if_neg h]
      have hm : x ∉ r := by simpa using h
      rw [List.nodup_cons]
      constructor
      · intro e
        simp at e
        exact ⟨hm, ih.mp e⟩
      · intro e
        simp [ih.mpr e.2]
theorem difC_rev (xs : List (List Nat)) : decide (((difC xs.reverse : Nat) : Int) = ((xs.length : Nat) : Int)) = decide xs.Nodup := by
  have h := difC_nd xs.reverse
  rw [List.length_reverse] at h
  have h : difC xs.reverse = xs.length ↔ xs.Nodup := h.trans (by simp [List.Nodup, List.pairwise_reverse, ne_comm])
  by_cases n : xs.Nodup
  · rw [decide_eq_true n, decide_eq_true (by rw [h.mpr n])]
  · rw [decide_eq_false n, decide_eq_false fun e => n (h.mp (by exact_mod_cast e))]
theorem nd_chars (s : List Nat) : (s.map fun c => [c]).Nodup ↔ s.Nodup := by
  rw [List.Nodup, List.pairwise_map, List.Nodup]
  simp
/-- a comprehension whose parts are plain -/
theorem wLC_pure {ρ : DEnv} {tg : MG} {c : DEnv → (Bool → Prop) → Prop} {el : DEnv → (D → Prop) → Prop} (p : D → Bool) (f : D → D) : ∀ (xs acc : List D) (Q : List D → Prop), acc.length + xs.length ≤ 16777216 →
    (∀ x ∈ xs, ∃ ρ', asgG tg x ρ = some ρ' ∧ (∀ K : Bool → Prop, K (p x) → c ρ' K) ∧ (p x = true → ∀ K : D → Prop, K (f x) → el ρ' K)) → Q (acc ++ (xs.filter p).map f) → wLC ρ tg c el xs acc Q
  | [], acc, Q, _, _, q => by simpa [wLC] using q
  | x :: xs, acc, Q, hl, h, q => by
    obtain ⟨ρ', h1, h2, h3⟩ := h x (by simp)
    unfold wLC
    rw [h1]
    simp only [List.length_cons] at hl
    refine h2 _ ?_
    by_cases hp : p x = true
    · rw [if_pos hp]
      refine ⟨by omega, h3 hp _ ?_⟩
      refine wLC_pure p f xs (acc ++ [f x]) Q (by simp; omega) (fun y hy => h y (by simp [hy])) ?_
      simpa [List.filter_cons, hp] using q
    · rw [if_neg hp]
      refine wLC_pure p f xs acc Q (by omega) (fun y hy => h y (by simp [hy])) ?_
      simpa [List.filter_cons, hp] using q
theorem wLC_map {ρ : DEnv} {tg : MG} {el : DEnv → (D → Prop) → Prop} (f : D → D) (xs : List D) (Q : List D → Prop) (hl : xs.length ≤ 16777216)
    (h : ∀ x ∈ xs, ∃ ρ', asgG tg x ρ = some ρ' ∧ (∀ K : D → Prop, K (f x) → el ρ' K)) (q : Q (xs.map f)) : wLC ρ tg (fun ρ' K => wIfs [] ρ' K) el xs [] Q :=
  wLC_pure (fun _ => true) f xs [] Q (by simpa using hl) (fun x hx => let ⟨ρ', h1, h2⟩ := h x hx; ⟨ρ', h1, fun K k => by simpa only [wIfs] using k, fun _ => h2⟩) (by rw [List.filter_eq_self.mpr (fun _ _ => rfl)]; simpa using q)
@[simp] theorem slot_int (e : ME) (i : Int) : slotOf e (.int i) = .imm (.int i) := by simp [slotOf, D.isBox]
@[simp] theorem slot_str (e : ME) (i : List Nat) : slotOf e (.str i) = .imm (.str i) := by simp [slotOf, D.isBox]
@[simp] theorem slot_bl (e : ME) (i : Bool) : slotOf e (.bl i) = .imm (.bl i) := by simp [slotOf, D.isBox]
@[simp] theorem slot_tup (e : ME) (i : List D) : slotOf e (.tup i) = .imm (.tup i) := by simp [slotOf, D.isBox]
@[simp] theorem slot_non (e : ME) : slotOf e .non = .imm .non := by simp [slotOf, D.isBox]
theorem slot_new {e : ME} (h : e.fresh = true) (i : List D) : slotOf e (.lst i) = .own (.lst i) := by simp [slotOf, h, D.isBox]
theorem slot_old {e : ME} (h : e.fresh = false) (d : D) : slotOf e d = .imm d := by simp [slotOf, h]
end DL

set_option Elab.async false
set_option linter.all false
set_option maxRecDepth 100000
/-! PV0: votes, plainly; what each def promises. -/
namespace PV
open DL
mutual
/-- small data without dices and dicts -/
def sm : D → Bool
  | .str s => decide (s.length ≤ 1000)
  | .tup xs => decide (xs.length ≤ 1000) && sms xs
  | .lst xs => decide (xs.length ≤ 1000) && sms xs
  | .dice => false
  | .dic _ _ => false
  | _ => true
def sms : List D → Bool
  | [] => true
  | x :: xs => sm x && sms xs
end
def abc : List Nat := [97, 98, 99, 100, 101]
def isWhole : D → Int → Int → Bool
  | .int i, lo, hi => decide (lo ≤ i) && decide (i ≤ hi)
  | _, _, _ => false
def letS (s az : List Nat) : Bool := !s.isEmpty && s.all (fun c => decide (c ∈ az)) && decide s.Nodup
def areLetters : D → List Nat → Bool
  | .str s, az => letS s az
  | _, _ => false
def isPair : D → List Nat → Bool
  | .tup [b, t], az => areLetters b az && isWhole t 1 20
  | _, _ => false
def bal : D → List Nat
  | .tup [.str b, _] => b
  | _ => []
def isVotes : D → Bool
  | .tup [.int n, .tup ps] => isWhole (.int n) 2 5 && decide (ps.length ≤ 8) && ps.all (fun p => isPair p (abc.take n.toNat)) && decide ((ps.map bal).Nodup)
  | _ => false
/-- votes as they lie -/
abbrev Ps := List (List Nat × Nat)
def encP (ps : Ps) : List D := ps.map fun p => .tup [.str p.1, .int p.2]
def encV (n : Nat) (ps : Ps) : D := .tup [.int n, .tup (encP ps)]
structure Val (n : Nat) (ps : Ps) : Prop where
  lo : 2 ≤ n
  hi : n ≤ 5
  len : ps.length ≤ 8
  bl : ∀ p ∈ ps, letS p.1 (abc.take n) = true ∧ 1 ≤ p.2 ∧ p.2 ≤ 20
  nd : (ps.map (·.1)).Nodup
/-! ### promises -/
def S_is_whole : FS := fun ds Q _ => ∃ v lo hi, ds = [v, .int lo, .int hi] ∧ v.nd = true ∧ Q (.bl (isWhole v lo hi))
def S_are_letters : FS := fun ds Q _ => ∃ (v : D) (az : List Nat), ds = [v, .str az] ∧ sm v = true ∧ az.length ≤ 1000 ∧ Q (.bl (areLetters v az))
def S_is_pair : FS := fun ds Q _ => ∃ (v : D) (az : List Nat), ds = [v, .str az] ∧ sm v = true ∧ az.length ≤ 1000 ∧ Q (.bl (isPair v az))
def S_is_votes : FS := fun ds Q _ => ∃ v, ds = [v] ∧ sm v = true ∧ Q (.bl (isVotes v))
def S_need_votes : FS := fun ds Q X => ∃ v, ds = [v] ∧ sm v = true ∧ (isVotes v = true → Q .non) ∧ (isVotes v = false → X 0)
def S_candidates_of : FS := fun ds Q _ => ∃ n ps, ds = [encV n ps] ∧ n ≤ 5 ∧ Q (.str (abc.take n))
def S_is_ballot : FS := fun ds Q _ => ∃ n ps v, ds = [encV n ps, v] ∧ Val n ps ∧ sm v = true ∧ Q (.bl (areLetters v (abc.take n)))
def S_count_voters : FS := fun ds Q X => ∃ v, ds = [v] ∧ sm v = true ∧ (∀ n ps, v = encV n ps → Val n ps → Q (.int ((ps.map (·.2)).sum : Nat))) ∧ (isVotes v = false → X 0)
def S__law_drawn : FS := fun ds Q _ => ∃ a b : Int, ds = [.int a, .int b] ∧ ∀ r : Int, Q (.int r)
def S__law_roll : FS := fun ds Q _ => ∃ n : Int, ds = [.dice, .int n] ∧ 0 < n ∧ n < 1073741824 ∧ ∀ r : Int, 0 ≤ r → r < n → Q (.int r)
def S__law_any_ballot : FS := fun ds Q _ => ∃ n : Nat, ds = [.dice, .int n] ∧ 1 ≤ n ∧ n ≤ 5 ∧ ∀ b, letS b (abc.take n) = true → Q (.str b)
def S__law_any_votes : FS := fun ds Q _ => ∃ lo hi k : Nat, ds = [.dice, .int lo, .int hi, .int k] ∧ 2 ≤ lo ∧ lo ≤ hi ∧ hi ≤ 5 ∧ k ≤ 8 ∧ ∀ n ps, Val n ps → lo ≤ n → n ≤ hi → ps.length ≤ k → Q (encV n ps)
def S__law_is_ballot : FS := fun ds Q _ => ∃ (n : Nat) (s : List Nat), ds = [.int n, .str s] ∧ s.length ≤ 1000 ∧ n ≤ 5 ∧ Q (.bl (letS s (abc.take n)))
end PV

set_option Elab.async false
set_option linter.all false
set_option maxRecDepth 100000
/-! Printed by gen.py: the forms over data. -/
namespace PV
open DL
def m_is_whole : List MS := [.ret [] (.and (.isi (.peek 0) .int) (.and (.not (.isi (.peek 0) .bool)) (.chain .le .le (.peek 1) (.peek 0) (.peek 2))))]
def m_are_letters : List MS := [.ifs (.or (.not (.isi (.peek 0) .str)) (.or (.cmp .eq (.peek 0) (.con (.str []))) (.not (.b1 .all (.lc (.nm 2) (.peek 0) [] (.cmp .inn (.peek 2) (.peek 1))))))) [.ret [] (.con (.bl false))] [], .ret [] (.cmp .eq (.b1 .lenset (.peek 0)) (.b1 .len (.peek 0)))]
def m_is_pair : List MS := [.ret [] (.and (.isi (.peek 0) .tuple) (.and (.cmp .eq (.b1 .len (.peek 0)) (.con (.int 2))) (.and (.call S_are_letters [.sub (.peek 0) (.con (.int 0)), .var 1]) (.call S_is_whole [.sub (.peek 0) (.con (.int 1)), .con (.int 1), .con (.int 20)]))))]
def m_is_votes : List MS := [.ifs (.or (.not (.isi (.peek 0) .tuple)) (.or (.cmp .ne (.b1 .len (.peek 0)) (.con (.int 2))) (.not (.call S_is_whole [.sub (.peek 0) (.con (.int 0)), .con (.int 2), .con (.int 5)])))) [.ret [] (.con (.bl false))] [], .ifs (.or (.not (.isi (.sub (.peek 0) (.con (.int 1))) .tuple)) (.cmp .gt (.b1 .len (.sub (.peek 0) (.con (.int 1)))) (.con (.int 8)))) [.ret [] (.con (.bl false))] [], .ifs (.not (.b1 .all (.lc (.nm 1) (.sub (.peek 0) (.con (.int 1))) [] (.call S_is_pair [.var 1, .sl (.con (.str [97, 98, 99, 100, 101])) (.nop) (.sub (.peek 0) (.con (.int 0)))])))) [.ret [] (.con (.bl false))] [], .ret [] (.cmp .eq (.b1 .lenset (.lc (.tp [.nm 2, .nm 3]) (.sub (.peek 0) (.con (.int 1))) [] (.var 2))) (.b1 .len (.sub (.peek 0) (.con (.int 1)))))]
def m_need_votes : List MS := [.ifs (.not (.call S_is_votes [.var 0])) [.raise 0] []]
def m_candidates_of : List MS := [.ret [] (.sl (.con (.str [97, 98, 99, 100, 101])) (.nop) (.sub (.peek 0) (.con (.int 0))))]
def m_is_ballot : List MS := [.expr [] (.call S_need_votes [.var 0]), .ret [] (.call S_are_letters [.var 1, .call S_candidates_of [.var 0]])]
def m_count_voters : List MS := [.expr [] (.call S_need_votes [.var 0]), .ret [] (.b1 .sum (.lc (.tp [.nm 1, .nm 2]) (.sub (.peek 0) (.con (.int 1))) [] (.var 2)))]
def m__law_drawn : List MS := [.asg (.nm 2) [] (.bin .mod (.bin .add (.bin .mul (.peek 0) (.con (.int 6364136223846793005))) (.bin .mul (.bin .add (.peek 1) (.con (.int 1))) (.con (.int 1442695040888963407)))) (.con (.int 340282366920938463463374607431768211507))), .asg (.nm 2) [] (.bin .mod (.bin .mul (.peek 2) (.peek 2)) (.con (.int 340282366920938463463374607431768211297))), .asg (.nm 2) [] (.bin .mul (.bin .mul (.bin .add (.bin .mod (.peek 2) (.con (.int 18446744073709551557))) (.con (.int 1))) (.bin .add (.bin .fdiv (.peek 2) (.con (.int 18446744073709551557))) (.con (.int 1)))) (.peek 2)), .ret [] (.bin .mod (.peek 2) (.con (.int 340282366920938463463374607431768211507)))]
def m__law_any_ballot : List MS := [.par 2 3 [] (.b1 .list (.sl (.con (.str [97, 98, 99, 100, 101])) (.nop) (.var 1))) (.con (.str [])), .for (.nm 4) [] (.rng1 (.bin .add (.con (.int 1)) (.call S__law_roll [.var 0, .var 1]))) [.asg (.nm 5) [] (.sub (.peek 2) (.call S__law_roll [.var 0, .b1 .len (.peek 2)])), .par 2 3 [] (.lc (.nm 6) (.peek 2) [.cmp .ne (.peek 6) (.peek 5)] (.var 6)) (.bin .add (.peek 3) (.peek 5))], .ret [3] (.var 3)]
def m__law_any_votes : List MS := [.par 4 5 [] (.bin .add (.peek 1) (.call S__law_roll [.var 0, .bin .add (.bin .sub (.peek 2) (.peek 1)) (.con (.int 1))])) (.lst []), .asg (.nm 6) [] (.sub (.lst [.con (.int 2), .con (.int 5), .con (.int 20)]) (.call S__law_roll [.var 0, .con (.int 3)])), .for (.nm 7) [] (.rng1 (.call S__law_roll [.var 0, .bin .add (.peek 3) (.con (.int 1))])) [.asg (.nm 8) [4] (.call S__law_any_ballot [.var 0, .var 4]), .ifs (.cmp .nin (.peek 8) (.lc (.tp [.nm 9, .nm 10]) (.peek 5) [] (.var 9))) [.app 5 [] (.tup [.var 8, .bin .add (.con (.int 1)) (.call S__law_roll [.var 0, .var 6])])] []], .ret [4] (.tup [.var 4, .b1 .tuple (.peek 5)])]
def m__law_is_ballot : List MS := [.ret [] (.and (.cmp .ne (.peek 1) (.con (.str []))) (.and (.cmp .eq (.b1 .lenset (.peek 1)) (.b1 .len (.peek 1))) (.b1 .all (.lc (.nm 2) (.peek 1) [] (.cmp .inn (.peek 2) (.sl (.con (.str [97, 98, 99, 100, 101])) (.nop) (.var 0)))))))]
end PV

set_option Elab.async false
set_option linter.all false
set_option maxRecDepth 100000
set_option maxHeartbeats 4000000
/-! PVo: what the forms over data answer. -/
namespace PV
open DL L2
theorem sm_nd {v : D} (h : sm v = true) : v.nd = true := by cases v <;> simp_all [sm, D.nd]
theorem len3 (a b c : D) (r : List D) : ((((a :: b :: c :: r : List D).length : Nat) : Int) == 2) = false := by
  rw [beq_eq_false_iff_ne]; simp only [List.length_cons]; omega
theorem obl_is_whole : ∀ ds Q X, S_is_whole ds Q X → wSs m_is_whole (envD 3 ds) (fun _ => Q .non) Q X := by
  rintro _ Q X ⟨v, lo, hi, rfl, hn, q⟩
  rw [show envD 3 [v, .int lo, .int hi] = [.imm v, .imm (.int lo), .imm (.int hi)] from rfl]
  simp only [m_is_whole, wSs, wS, wE, frz, List.getElem?_cons_zero, List.getElem?_cons_succ, hn, true_and]
  cases v with
  | int i =>
    simp only [isiD, onB_b, if_true, c_le, onS_s, Bool.not_false]
    by_cases h : lo ≤ i
    · simpa [h, isWhole] using q
    · rw [decide_eq_false h]
      simpa [isWhole, decide_eq_false h] using q
  | _ => simp_all [isiD, isWhole]
theorem obl_are_letters : ∀ ds Q X, S_are_letters ds Q X → wSs m_are_letters (envD 3 ds) (fun _ => Q .non) Q X := by
  rintro _ Q X ⟨v, az, rfl, hs, ha, q⟩
  rw [show envD 3 [v, .str az] = [.imm v, .imm (.str az), .no] from rfl]
  simp only [m_are_letters, wSs, wS, wE, frz, List.getElem?_cons_zero, List.getElem?_cons_succ, sm_nd hs, true_and]
  cases v with
  | str s =>
    have hl : s.length ≤ 1000 := by simpa [sm] using hs
    simp only [isiD, onB_b, if_true, Bool.not_true, if_false, Bool.false_eq_true, c_eq, eqOk_f (x := .str s) (y := .str []) rfl rfl (.inl (by simp)), ev_str, onS_s]
    by_cases h0 : s = []
    · subst h0; simpa [areLetters, letS] using q
    · have hb : (s == []) = false := by simpa using h0
      rw [hb]
      simp only [if_false, Bool.false_eq_true]
      refine ⟨by simp [MG.slots, notOwn], ?_⟩
      rw [onIt_s]
      refine wLC_map (fun x => match x with | .str [c] => .bl (decide (c ∈ az)) | _ => .non) _ _ (by simp [chars]; omega) (fun x hx => ?_) ?_
      · simp only [chars, List.mem_map] at hx
        obtain ⟨c, _, rfl⟩ := hx
        refine ⟨_, rfl, fun K k => ?_⟩
        simpa [wE, MG.slots, wipeD] using k
      · have e : ((chars s).map fun x => match x with | .str [c] => D.bl (decide (c ∈ az)) | _ => .non) = (s.map fun c => decide (c ∈ az)).map .bl := by simp [chars, Function.comp_def]
        rw [e, all_bls]
        simp only [onS_s, onB_b]
        by_cases h1 : (s.map fun c => decide (c ∈ az)).all id = true
        · rw [h1]
          simp only [Bool.not_true, if_false, Bool.false_eq_true]
          rw [lenset_str s hl, len_str s (by omega)]
          simp only [onS_s, c_eq, eqOk_f (x := .int _) (y := .int _) rfl rfl (.inl (by simp)), if_true, ev_int]
          have h2 := difC_rev (s.map fun c => [c])
          rw [List.length_map] at h2
          have h3 : (((difC (s.map fun c => [c]).reverse : Nat) : Int) == ((s.length : Nat) : Int)) = decide s.Nodup := by
            rw [Bool.eq_iff_iff, beq_iff_eq, decide_eq_true_iff]
            have := Bool.eq_iff_iff.mp h2
            simp only [decide_eq_true_iff] at this
            rw [this, nd_chars]
          rw [h3]
          have h4 : areLetters (.str s) az = decide s.Nodup := by
            simp only [areLetters, letS]
            have : s.all (fun c => decide (c ∈ az)) = true := by simpa using h1
            simp [h0, this]
          rw [← h4]; exact q
        · have h1' := Bool.eq_false_iff.mpr h1
          rw [h1']
          simp only [Bool.not_false, if_true]
          have h4 : areLetters (.str s) az = false := by
            simp only [areLetters, letS]
            have : s.all (fun c => decide (c ∈ az)) = false := by simpa using h1'
            simp [this]
          rw [← h4]; exact q
  | _ => simp_all [isiD, areLetters]
theorem obl_is_pair : ∀ ds Q X, S_is_pair ds Q X → wSs m_is_pair (envD 2 ds) (fun _ => Q .non) Q X := by
  rintro _ Q X ⟨v, az, rfl, hs, ha, q⟩
  rw [show envD 2 [v, .str az] = [.imm v, .imm (.str az)] from rfl]
  simp only [m_is_pair, wSs, wS, wE, wEs, frz, List.getElem?_cons_zero, List.getElem?_cons_succ, sm_nd hs, true_and]
  cases v with
  | tup xs =>
    simp only [isiD, onB_b, if_true, len_tup, onS_s, c_eq, eqOk_f (x := .int _) (y := .int _) rfl rfl (.inl (by simp)), ev_int]
    match xs, hs, q with
    | [b, t], hs, q =>
      simp only [sm, sms, Bool.and_eq_true, Bool.and_true] at hs
      have e : (((([b, t] : List D).length : Nat) : Int) == 2) = true := by simp
      rw [e]
      simp only [if_true, sub_tup, atI0, atI1, onS_s]
      refine ⟨b, az, rfl, hs.2.1, ha, ?_⟩
      simp only [onB_b]
      by_cases h : areLetters b az = true
      · rw [h]
        simp only [if_true]
        refine ⟨t, 1, 20, rfl, sm_nd hs.2.2, ?_⟩
        simp only [onB_b]
        simpa [isPair, h] using q
      · have h' := Bool.eq_false_iff.mpr h
        rw [h']
        simp only [if_false, Bool.false_eq_true]
        simpa [isPair, h'] using q
    | [], hs, q => simpa [isPair] using q
    | [_], hs, q => simpa [isPair] using q
    | a :: b :: c :: r, hs, q =>
      rw [len3]
      simpa [isPair] using q
  | _ => simpa [isiD, isPair] using q
theorem sms_mem : ∀ {xs : List D} {x : D}, sms xs = true → x ∈ xs → sm x = true
  | y :: ys, x, h, m => by
    simp only [sms, Bool.and_eq_true] at h
    rcases List.mem_cons.mp m with e | m
    · subst e; exact h.1
    · exact sms_mem h.2 m
theorem abc_take (n : Int) : cutL abc none (some n) = abc.take (if n < 0 then (n + 5).toNat else n.toNat) := by
  unfold cutL HT.sIx
  simp only [abc, List.length_cons, List.length_nil, List.drop_zero, Nat.sub_zero]
  split
  · rfl
  · by_cases g : n.toNat ≤ 5
    · rw [Nat.min_eq_left (by simpa using g)]
    · rw [Nat.min_eq_right (by omega), List.take_of_length_le (by simp), List.take_of_length_le (by simp; omega)]
theorem isPair_bal {p : D} {az : List Nat} (h : isPair p az = true) : ∃ b t, p = .tup [.str b, .int t] ∧ letS b az = true ∧ 1 ≤ t ∧ t ≤ 20 := by
  unfold isPair at h
  split at h
  · rename_i b t
    rw [Bool.and_eq_true] at h
    obtain ⟨h1, h2⟩ := h
    cases b <;> simp only [areLetters] at h1 <;> first
      | cases h1
      | skip
    cases t <;> simp only [isWhole] at h2 <;> first
      | cases h2
      | skip
    simp only [Bool.and_eq_true, decide_eq_true_eq] at h2
    exact ⟨_, _, rfl, h1, h2.1, h2.2⟩
  · cases h
theorem obl_is_votes : ∀ ds Q X, S_is_votes ds Q X → wSs m_is_votes (envD 4 ds) (fun _ => Q .non) Q X := by
  rintro _ Q X ⟨v, rfl, hs, q⟩
  rw [show envD 4 [v] = [.imm v, .no, .no, .no] from rfl]
  simp only [m_is_votes, wSs, wS, wE, wEs, frz, List.getElem?_cons_zero, List.getElem?_cons_succ, sm_nd hs, true_and]
  cases v with
  | tup xs =>
    simp only [isiD, onB_b, if_true, if_false, Bool.not_true, Bool.false_eq_true, len_tup, onS_s, c_ne, eqOk_f (x := .int _) (y := .int _) rfl rfl (.inl (by simp)), ev_int]
    match xs, hs, q with
    | [n, ps], hs, q =>
      simp only [sm, sms, Bool.and_eq_true, Bool.and_true] at hs
      have e : (!(((([n, ps] : List D).length : Nat) : Int) == 2)) = false := by simp
      rw [e]
      simp only [if_false, Bool.false_eq_true, sub_tup, atI0, atI1, onS_s]
      refine ⟨n, 2, 5, rfl, sm_nd hs.2.1, ?_⟩
      simp only [onB_b]
      by_cases hn : isWhole n 2 5 = true
      · rw [hn]
        cases n <;> simp only [isWhole] at hn <;> first
          | cases hn
          | skip
        rename_i n
        simp only [Bool.and_eq_true, decide_eq_true_eq] at hn
        have e1 : isWhole (.int n) 2 5 = true := by simp [isWhole, hn]
        simp only [Bool.not_true, if_false, Bool.false_eq_true, sm_nd hs.2.2, true_and]
        cases ps with
        | tup ps =>
          simp only [sm, Bool.and_eq_true, decide_eq_true_eq] at hs
          simp only [isiD, Bool.not_true, if_false, Bool.false_eq_true, len_tup, onS_s, c_gt, onB_b]
          by_cases h8 : ps.length ≤ 8
          · rw [decide_eq_false (by omega : ¬ ((8 : Int) < (ps.length : Nat)))]
            simp only [if_false, Bool.false_eq_true]
            refine ⟨by simp [MG.slots, notOwn], ?_⟩
            rw [onIt_t]
            have en : abc.take (if n < 0 then (n + 5).toNat else n.toNat) = abc.take n.toNat := by rw [if_neg (by omega)]
            refine wLC_map (fun x => .bl (isPair x (abc.take n.toNat))) _ _ (by omega) (fun x hx => ⟨_, rfl, fun K k => ?_⟩) ?_
            · simp only [MG.slots, wipeD, List.set_cons_succ, List.set_cons_zero, List.getElem?_cons_zero, List.getElem?_cons_succ, wE, ME.isNop, onP_t, onP_f, sub_tup, atI0, onS_s, onI_i, slD]
              rw [if_pos (by decide)]
              simp only [onS_s]
              refine ⟨x, _, rfl, sms_mem hs.2.2.2 hx, ?_, ?_⟩
              · show (cutL abc none (some n)).length ≤ 1000
                rw [abc_take]; simp [abc]; omega
              · show K (.bl (isPair x (cutL abc none (some n))))
                rw [abc_take, en]; exact k
            · have eb : (ps.map fun x => D.bl (isPair x (abc.take n.toNat))) = (ps.map fun x => isPair x (abc.take n.toNat)).map .bl := by simp [Function.comp_def]
              rw [eb, all_bls]
              simp only [onS_s, onB_b]
              by_cases hp : (ps.map fun x => isPair x (abc.take n.toNat)).all id = true
              · rw [hp]
                simp only [Bool.not_true, if_false, Bool.false_eq_true]
                have hp' : ∀ x ∈ ps, isPair x (abc.take n.toNat) = true := by simpa using hp
                refine ⟨by simp [MG.slots, MG.slotss, notOwn], ?_⟩
                rw [onIt_t]
                refine wLC_map (fun x => .str (bal x)) _ _ (by omega) (fun x hx => ?_) ?_
                · obtain ⟨b, t, rfl, _⟩ := isPair_bal (hp' x hx)
                  refine ⟨_, rfl, fun K k => ?_⟩
                  simpa [wE, MG.slots, MG.slotss, wipeD, bal] using k
                · have eb2 : (ps.map fun x => D.str (bal x)) = (ps.map bal).map .str := by simp [Function.comp_def]
                  rw [eb2, lenset_lst _ (by simp; omega)]
                  simp only [onS_s, c_eq, eqOk_f (x := .int _) (y := .int _) rfl rfl (.inl (by simp)), if_true, ev_int]
                  have h2 := difC_rev (ps.map bal)
                  rw [List.length_map] at h2
                  have h3 : (((difC (ps.map bal).reverse : Nat) : Int) == ((ps.length : Nat) : Int)) = decide (ps.map bal).Nodup := by
                    rw [← h2, Bool.eq_iff_iff, beq_iff_eq, decide_eq_true_iff]
                  rw [h3]
                  have h4 : isVotes (.tup [.int n, .tup ps]) = decide (ps.map bal).Nodup := by
                    have : ps.all (fun p => isPair p (abc.take n.toNat)) = true := by simpa using hp'
                    simp only [isVotes, e1, this, decide_eq_true h8, Bool.true_and]
                  rw [← h4]; exact q
              · have hp1 := Bool.eq_false_iff.mpr hp
                rw [hp1]
                simp only [Bool.not_false, if_true]
                have h4 : isVotes (.tup [.int n, .tup ps]) = false := by
                  have : ps.all (fun p => isPair p (abc.take n.toNat)) = false := by simpa using hp1
                  simp [isVotes, this]
                rw [← h4]; exact q
          · rw [decide_eq_true (by omega : ((8 : Int) < (ps.length : Nat)))]
            simp only [if_true]
            have h4 : isVotes (.tup [.int n, .tup ps]) = false := by simp [isVotes, decide_eq_false h8]
            rw [← h4]; exact q
        | _ => simpa [isiD, isVotes] using q
      · have hn' := Bool.eq_false_iff.mpr hn
        rw [hn']
        simp only [Bool.not_false, if_true]
        have h4 : isVotes (.tup [n, ps]) = false := by
          cases n <;> cases ps <;> simp_all [isVotes]
        rw [← h4]; exact q
    | [], hs, q => simpa [isVotes] using q
    | [_], hs, q => simpa [isVotes] using q
    | a :: b :: c :: r, hs, q =>
      rw [len3]
      simpa [isVotes] using q
  | _ => simpa [isiD, isVotes] using q
theorem obl_need_votes : ∀ ds Q X, S_need_votes ds Q X → wSs m_need_votes (envD 1 ds) (fun _ => Q .non) Q X := by
  rintro _ Q X ⟨v, rfl, hs, q1, q2⟩
  rw [show envD 1 [v] = [.imm v] from rfl]
  simp only [m_need_votes, wSs, wS, wE, wEs, frz, List.getElem?_cons_zero]
  refine ⟨v, rfl, hs, ?_⟩
  simp only [onB_b]
  cases h : isVotes v with
  | true => simpa using q1 h
  | false => simpa using q2 h
theorem cut_abc {n : Nat} (h : n ≤ 5) : cutL abc none (some (n : Int)) = abc.take n := by
  rw [abc_take, if_neg (by omega), Int.toNat_natCast]
theorem obl_candidates_of : ∀ ds Q X, S_candidates_of ds Q X → wSs m_candidates_of (envD 1 ds) (fun _ => Q .non) Q X := by
  rintro _ Q X ⟨n, ps, rfl, hn, q⟩
  rw [show envD 1 [encV n ps] = [.imm (encV n ps)] from rfl]
  simp only [m_candidates_of, wSs, wS, wE, wEs, frz, List.getElem?_cons_zero, encV, ME.isNop, onP_t, onP_f, sub_tup, atI0, onS_s, onI_i, slD]
  rw [if_pos (by decide)]
  simp only [onS_s]
  show Q (.str (cutL abc none (some (n : Int))))
  rw [cut_abc hn]; exact q
theorem nodup_len : ∀ {xs ys : List Nat}, xs.Nodup → (∀ c ∈ xs, c ∈ ys) → xs.length ≤ ys.length
  | [], _, _, _ => Nat.zero_le _
  | x :: xs, ys, h, g => by
    obtain ⟨h1, h2⟩ := List.nodup_cons.mp h
    have hx := g x (by simp)
    have ih := nodup_len (ys := ys.erase x) h2 fun c hc => (List.mem_erase_of_ne (fun (e : c = x) => h1 (by rw [← e]; exact hc))).mpr (g c (by simp [hc]))
    rw [List.length_erase_of_mem hx] at ih
    have := List.length_pos_of_mem hx
    simp only [List.length_cons]
    omega
theorem sm_encV {n : Nat} {ps : Ps} (h : Val n ps) : sm (encV n ps) = true := by
  have h1 : ∀ ps : Ps, (∀ p ∈ ps, p.1.length ≤ 1000) → sms (encP ps) = true := fun ps => by
    induction ps with
    | nil => intro _; rfl
    | cons p r ih =>
      intro h
      have := h p (by simp)
      have e := ih fun p hp => h p (by simp [hp])
      unfold encP at e ⊢
      simp [sms, sm, this, e]
  have h2 : sms (encP ps) = true := h1 ps fun p hp => by
    have := (h.bl p hp).1
    unfold letS at this
    simp only [Bool.and_eq_true, decide_eq_true_eq] at this
    have hnd := this.2
    have hsub : ∀ c ∈ p.1, c ∈ abc := fun c hc => by
      have := List.all_eq_true.mp this.1.2 c hc
      exact List.mem_of_mem_take (of_decide_eq_true this)
    have := nodup_len hnd hsub
    simp [abc] at this
    omega
  have hl : (encP ps).length = ps.length := by simp [encP]
  have h8 := h.len
  simp only [encV, sm, sms, h2, hl, Bool.and_true, Bool.true_and, Bool.and_eq_true, decide_eq_true_eq, List.length_cons, List.length_nil]
  omega
theorem isVotes_enc {n : Nat} {ps : Ps} (h : Val n ps) : isVotes (encV n ps) = true := by
  have h1 : ∀ p ∈ encP ps, isPair p (abc.take n) = true := fun p hp => by
    unfold encP at hp
    obtain ⟨q, hq, rfl⟩ := List.mem_map.mp hp
    obtain ⟨a, b, c⟩ := h.bl q hq
    simp only [isPair, areLetters, a, isWhole, Bool.true_and, Bool.and_eq_true, decide_eq_true_eq]
    omega
  have h2 : (encP ps).map bal = ps.map (·.1) := by simp [encP, bal, Function.comp_def]
  have hl := h.len
  have h3 := h.nd
  have a := h.lo
  have b := h.hi
  simp only [encV, isVotes, isWhole, Int.toNat_natCast, Bool.and_eq_true, decide_eq_true_eq, h2, List.all_eq_true]
  refine ⟨⟨⟨⟨by omega, by omega⟩, by simpa [encP] using hl⟩, h1⟩, h3⟩
theorem enc_of {v : D} (h : isVotes v = true) : ∃ n ps, v = encV n ps ∧ Val n ps := by
  unfold isVotes at h
  split at h
  · rename_i n ps
    simp only [Bool.and_eq_true, decide_eq_true_eq, isWhole] at h
    obtain ⟨⟨⟨⟨h1, h2⟩, h3⟩, h4⟩, h5⟩ := h
    have h4' : ∀ p ∈ ps, isPair p (abc.take n.toNat) = true := List.all_eq_true.mp h4
    let dec : D → List Nat × Nat := fun d => match d with
      | .tup [.str b, .int t] => (b, t.toNat)
      | _ => ([], 0)
    refine ⟨n.toNat, ps.map dec, ?_, ?_⟩
    · have e : encP (ps.map dec) = ps := by
        unfold encP
        rw [List.map_map]
        conv => rhs; rw [← List.map_id ps]
        refine List.map_congr_left fun p hp => ?_
        obtain ⟨b, t, rfl, _, t1, _⟩ := isPair_bal (h4' p hp)
        simp only [Function.comp, dec, id]
        rw [Int.toNat_of_nonneg (by omega)]
      unfold encV
      rw [e, Int.toNat_of_nonneg (by omega)]
    · refine ⟨by omega, by omega, by simpa using h3, fun q hq => ?_, ?_⟩
      · obtain ⟨p, hp, rfl⟩ := List.mem_map.mp hq
        obtain ⟨b, t, rfl, hb, t1, t2⟩ := isPair_bal (h4' p hp)
        simp only [dec]
        exact ⟨hb, by omega, by omega⟩
      · rw [List.map_map]
        have e : ps.map ((·.1) ∘ dec) = ps.map bal := List.map_congr_left fun p hp => by
          obtain ⟨b, t, rfl, _⟩ := isPair_bal (h4' p hp)
          rfl
        rw [e]; exact h5
  · cases h
theorem obl_is_ballot : ∀ ds Q X, S_is_ballot ds Q X → wSs m_is_ballot (envD 2 ds) (fun _ => Q .non) Q X := by
  rintro _ Q X ⟨n, ps, v, rfl, hv, hs, q⟩
  rw [show envD 2 [encV n ps, v] = [.imm (encV n ps), .imm v] from rfl]
  simp only [m_is_ballot, wSs, wS, wE, wEs, frz, List.getElem?_cons_zero, List.getElem?_cons_succ]
  refine ⟨_, rfl, sm_encV hv, fun _ => ?_, fun z => by rw [isVotes_enc hv] at z; cases z⟩
  refine ⟨n, ps, rfl, hv.hi, ?_⟩
  exact ⟨v, _, rfl, hs, by simp [abc]; omega, q⟩
theorem obl_count_voters : ∀ ds Q X, S_count_voters ds Q X → wSs m_count_voters (envD 3 ds) (fun _ => Q .non) Q X := by
  rintro _ Q X ⟨v, rfl, hs, q1, q2⟩
  rw [show envD 3 [v] = [.imm v, .no, .no] from rfl]
  simp only [m_count_voters, wSs, wS, wE, wEs, frz, List.getElem?_cons_zero, List.getElem?_cons_succ]
  refine ⟨v, rfl, hs, fun hv => ?_, q2⟩
  obtain ⟨n, ps, rfl, hval⟩ := enc_of hv
  simp only [encV, sub_tup, atI1, onS_s]
  refine ⟨by simp [MG.slots, MG.slotss, notOwn], ?_⟩
  rw [onIt_t]
  have hl := hval.len
  refine wLC_map (fun x => match x with | .tup [_, t] => t | _ => .non) _ _ (by simp [encP]; omega) (fun x hx => ?_) ?_
  · obtain ⟨p, _, rfl⟩ := List.mem_map.mp hx
    refine ⟨_, rfl, fun K k => ?_⟩
    simpa [wE, MG.slots, MG.slotss, wipeD] using k
  · have e : ((encP ps).map fun x => match x with | .tup [_, t] => t | _ => .non) = (ps.map fun p => ((p.2 : Nat) : Int)).map .int := by simp [encP, Function.comp_def]
    rw [e, sum_ints]
    have e2 : ((ps.map fun p => ((p.2 : Nat) : Int)).sum) = (((ps.map (·.2)).sum : Nat) : Int) := by
      clear e hl hval hv hs q1 q2
      induction ps with
      | nil => rfl
      | cons p r ih => simp [ih]
    rw [e2]
    exact q1 n ps rfl hval
theorem letS_len {s : List Nat} {n : Nat} (h : letS s (abc.take n) = true) : s.length ≤ n ∧ s.length ≤ 5 ∧ s ≠ [] ∧ s.Nodup ∧ ∀ c ∈ s, c ∈ abc.take n := by
  unfold letS at h
  simp only [Bool.and_eq_true, decide_eq_true_eq, List.all_eq_true] at h
  obtain ⟨⟨h1, h2⟩, h3⟩ := h
  have := nodup_len h3 h2
  simp [abc] at this
  refine ⟨by omega, by omega, fun z => by rw [z] at h1; simp at h1, h3, h2⟩
theorem obl__law_is_ballot : ∀ ds Q X, S__law_is_ballot ds Q X → wSs m__law_is_ballot (envD 3 ds) (fun _ => Q .non) Q X := by
  rintro _ Q X ⟨n, s, rfl, hl, hn, q⟩
  rw [show envD 3 [.int n, .str s] = [.imm (.int n), .imm (.str s), .no] from rfl]
  simp only [m__law_is_ballot, wSs, wS, wE, wEs, frz, List.getElem?_cons_zero, List.getElem?_cons_succ, c_ne, eqOk_f (x := .str _) (y := .str _) rfl rfl (.inl (by simp)), if_true, ev_str, onS_s, onB_b]
  by_cases h0 : s = []
  · subst h0; simpa [letS] using q
  · have hb : (s == []) = false := by simpa using h0
    rw [hb]
    simp only [Bool.not_false, if_true]
    rw [lenset_str s hl, len_str s (by omega)]
    simp only [onS_s, c_eq, eqOk_f (x := .int _) (y := .int _) rfl rfl (.inl (by simp)), if_true, ev_int, onB_b]
    have h2 := difC_rev (s.map fun c => [c])
    rw [List.length_map] at h2
    have h3 : (((difC (s.map fun c => [c]).reverse : Nat) : Int) == ((s.length : Nat) : Int)) = decide s.Nodup := by
      rw [Bool.eq_iff_iff, beq_iff_eq, decide_eq_true_iff]
      have := Bool.eq_iff_iff.mp h2
      simp only [decide_eq_true_iff] at this
      rw [this, nd_chars]
    rw [h3]
    by_cases hnd : s.Nodup
    · rw [decide_eq_true hnd]
      simp only [if_true]
      refine ⟨by simp [MG.slots, notOwn], ?_⟩
      rw [onIt_s]
      refine wLC_map (fun x => match x with | .str [c] => .bl (decide (c ∈ abc.take n)) | _ => .non) _ _ (by simp [chars]; omega) (fun x hx => ?_) ?_
      · simp only [chars, List.mem_map] at hx
        obtain ⟨c, _, rfl⟩ := hx
        refine ⟨_, rfl, fun K k => ?_⟩
        simp only [MG.slots, wipeD, List.set_cons_succ, List.set_cons_zero, List.getElem?_cons_zero, List.getElem?_cons_succ, wE, ME.isNop, onP_t, onP_f, onI_i, slD]
        rw [if_pos (by decide)]
        simp only [onS_s]
        rw [show cutL [97, 98, 99, 100, 101] none (some (n : Int)) = abc.take n from cut_abc hn]
        simpa using k
      · have e : ((chars s).map fun x => match x with | .str [c] => D.bl (decide (c ∈ abc.take n)) | _ => .non) = (s.map fun c => decide (c ∈ abc.take n)).map .bl := by simp [chars, Function.comp_def]
        rw [e, all_bls]
        simp only [onS_s, onB_b]
        have h4 : letS s (abc.take n) = (s.map fun c => decide (c ∈ abc.take n)).all id := by
          simp [letS, h0, hnd, Function.comp_def]
        rw [← h4]; exact q
    · rw [decide_eq_false hnd]
      simp only [if_false, Bool.false_eq_true]
      have h4 : letS s (abc.take n) = false := by simp [letS, hnd]
      rw [← h4]; exact q
end PV

set_option Elab.async false
set_option linter.all false
set_option maxRecDepth 100000
set_option maxHeartbeats 4000000
/-! PVp: what the law draws. -/
namespace DL
theorem wLoop_inv {step : D → DEnv → (DEnv → Prop) → Prop} (I : Nat → DEnv → Prop) {K : DEnv → Prop} : ∀ (xs : List D) (n : Nat) (ρ : DEnv), I n ρ →
    (∀ i x ρ K, xs[i]? = some x → I (n + i) ρ → (∀ ρ', I (n + i + 1) ρ' → K ρ') → step x ρ K) → (∀ ρ, I (n + xs.length) ρ → K ρ) → wLoop step xs ρ K
  | [], n, ρ, h0, _, hK => hK ρ h0
  | x :: xs, n, ρ, h0, hs, hK => by
    unfold wLoop
    refine hs 0 x ρ _ rfl h0 fun ρ' h1 => ?_
    refine wLoop_inv I xs (n + 1) ρ' h1 (fun i y ρ K hy hi hn => ?_) fun ρ h => hK ρ (by simpa [Nat.add_assoc, Nat.add_comm 1] using h)
    refine hs (i + 1) y ρ K (by simpa using hy) (by rw [← Nat.add_assoc, Nat.add_right_comm]; exact hi) fun ρ' h => hn ρ' ?_
    rw [Nat.add_right_comm n 1 i, ]
    simpa [Nat.add_assoc] using h
theorem rngD_len (lo : Int) (n : Nat) : (rngD lo n).length = n := by simp [rngD]
end DL
namespace PV
open DL L2
theorem lt_of_get' {α : Type} {l : List α} {i : Nat} {x : α} (h : l[i]? = some x) : i < l.length := (List.getElem?_eq_some_iff.mp h).1
theorem atI_lt {α : Type} {xs : List α} {r : Int} (h0 : 0 ≤ r) (h1 : r < xs.length) : ∃ j, ∃ (hj : j < xs.length), r = j ∧ atI xs r = some xs[j] := by
  have hj : r.toNat < xs.length := by omega
  refine ⟨r.toNat, hj, by omega, ?_⟩
  have := atI_nat (xs := xs) (j := r.toNat) (v := xs[r.toNat]) (List.getElem?_eq_getElem hj)
  rwa [Int.toNat_of_nonneg h0] at this
/-- letters left, letters found -/
structure Bal (n i : Nat) (L s : List Nat) : Prop where
  nd : (L ++ s).Nodup
  mem : ∀ c ∈ L ++ s, c ∈ abc.take n
  lenL : L.length = n - i
  lens : s.length = i
theorem abc_nd : abc.Nodup := by decide
theorem Bal.next {n i : Nat} {L s : List Nat} (h : Bal n i L s) {j : Nat} (hj : j < L.length) : Bal n (i + 1) (L.filter fun c => !(c == L[j])) (s ++ [L[j]]) := by
  obtain ⟨nd, mem, l1, l2⟩ := h
  rw [List.nodup_append] at nd
  obtain ⟨n1, n2, n3⟩ := nd
  have hm : L[j] ∈ L := List.getElem_mem hj
  have e : L.filter (fun c => !(c == L[j])) = L.erase L[j] := by
    rw [List.Nodup.erase_eq_filter n1]
    rfl
  refine ⟨?_, fun c hc => ?_, ?_, by simp [l2]⟩
  · rw [List.nodup_append]
    refine ⟨n1.filter _, ?_, fun a ha b hb => ?_⟩
    · rw [List.nodup_append]
      refine ⟨n2, by simp, fun a ha b hb => ?_⟩
      rw [List.mem_singleton] at hb
      subst hb
      exact (n3 _ hm a ha).symm
    · rw [List.mem_filter] at ha
      rcases List.mem_append.mp hb with hb | hb
      · exact n3 a ha.1 b hb
      · rw [List.mem_singleton] at hb
        subst hb
        simpa using ha.2
  · refine mem c ?_
    rcases List.mem_append.mp hc with hc | hc
    · exact List.mem_append_left _ (List.mem_filter.mp hc).1
    · rcases List.mem_append.mp hc with hc | hc
      · exact List.mem_append_right _ hc
      · rw [List.mem_singleton] at hc; subst hc
        exact List.mem_append_left _ hm
  · rw [e, List.length_erase_of_mem hm, l1]; omega
theorem obl__law_any_ballot : ∀ ds Q X, S__law_any_ballot ds Q X → wSs m__law_any_ballot (envD 7 ds) (fun _ => Q .non) Q X := by
  rintro _ Q X ⟨n, rfl, hn1, hn5, q⟩
  rw [show envD 7 [.dice, .int n] = [.imm .dice, .imm (.int n), .no, .no, .no, .no, .no] from rfl]
  simp only [m__law_any_ballot, wSs, wS, wE, wEs, frz, List.getElem?_cons_zero, List.getElem?_cons_succ, ME.isNop, onP_t, onP_f, onI_i, slD]
  rw [if_pos (by decide)]
  simp only [onS_s]
  rw [show cutL [97, 98, 99, 100, 101] none (some (n : Int)) = abc.take n from cut_abc hn5]
  have hlen : (abc.take n).length = n := by simp [abc]; omega
  have e1 : b1D .list (.str (abc.take n)) = some (.lst ((abc.take n).map fun c => .str [c])) := by
    simp only [b1D, itemsS, itemsD, Option.bind_some, chars, List.length_map, hlen]
    rw [if_pos (by omega)]
  rw [e1]
  simp only [onS_s, slot_str, slot_new (e := .b1 .list _) rfl, List.set_cons_succ, List.set_cons_zero, List.getElem?_cons_zero, List.getElem?_cons_succ]
  refine ⟨n, rfl, by omega, by omega, fun r r0 r1 => ?_⟩
  simp only [a_int, onS_s, onB_b]
  refine ⟨by unfold smallI; simp only [Bool.and_eq_true, decide_eq_true_eq]; omega, ?_⟩
  rw [onIt_l]
  have hk : (1 + r).toNat ≤ n := by omega
  refine wLoop_inv (fun i ρ => i ≤ (1 + r).toNat → ∃ L s a b, Bal n i L s ∧ ρ = [.imm .dice, .imm (.int n), .own (.lst (L.map fun c => .str [c])), .imm (.str s), a, b, .no]) _ 0 _ (fun _ => ?_) (fun i x ρ K hx hI hK => ?_) fun ρ hI => ?_
  · exact ⟨abc.take n, [], _, _, ⟨by simpa using abc_nd.sublist (List.take_sublist _ _), by simp, by simpa using hlen, rfl⟩, rfl⟩
  · obtain ⟨hi, rfl⟩ := (by
      have h1 : x = .int (0 + (i : Nat)) ∧ i < (1 + r).toNat := by
        unfold rngD at hx
        rw [List.getElem?_map] at hx
        by_cases hi : i < (1 + r).toNat
        · rw [List.getElem?_range hi] at hx
          cases hx; exact ⟨rfl, hi⟩
        · rw [List.getElem?_eq_none (by simp; omega)] at hx
          cases hx
      exact ⟨h1.2, h1.1⟩ : i < (1 + r).toNat ∧ x = .int (0 + (i : Nat)))
    obtain ⟨L, s, a, b, hb, rfl⟩ := hI (by omega)
    have hL : 0 < L.length := by rw [hb.lenL]; omega
    have hL5 : L.length ≤ 5 := by rw [hb.lenL]; omega
    have hs5 : s.length ≤ 5 := by rw [hb.lens]; omega
    simp only [asgG, onS_s, wSs, wS, wE, wEs, frz, frz1, Slot.frz, List.set_cons_succ, List.set_cons_zero, List.getElem?_cons_zero, List.getElem?_cons_succ, len_lst, List.length_map]
    refine ⟨L.length, rfl, by omega, by omega, fun t t0 t1 => ?_⟩
    simp only [sub_lst]
    obtain ⟨j, hj, rfl, ej⟩ := atI_lt (xs := L.map fun c => D.str [c]) t0 (by simpa using t1)
    have hj' : j < L.length := by simpa using hj
    rw [ej]
    simp only [onS_s, List.getElem_map, slot_str, slot_new (e := .lc _ _ _ _) rfl, List.set_cons_succ, List.set_cons_zero, List.getElem?_cons_zero, List.getElem?_cons_succ]
    refine ⟨by simp [MG.slots, notOwn], ?_⟩
    rw [onIt_l]
    refine wLC_pure (fun x => match x with | .str [c] => !(c == L[j]) | _ => false) id _ [] _ (by simp; omega) (fun x hx => ?_) ?_
    · obtain ⟨c0, _, rfl⟩ := List.mem_map.mp hx
      refine ⟨_, rfl, fun K k => ?_, fun _ K k => ?_⟩
      · simp only [wIfs, wE, MG.slots, wipeD, List.set_cons_succ, List.set_cons_zero, List.getElem?_cons_zero, List.getElem?_cons_succ, c_ne, eqOk_f (x := .str _) (y := .str _) rfl rfl (.inl (by simp)), if_true, ev_str, onS_s, onB_b]
        have : (([c0] : List Nat) == [L[j]]) = (c0 == L[j]) := by simp
        rw [this]; exact k
      · simpa [wE, MG.slots, wipeD] using k
    · have e : (L.map fun c => D.str [c]).filter (fun x => match x with | .str [c] => !(c == L[j]) | _ => false) = (L.filter fun c => !(c == L[j])).map fun c => .str [c] := by
        rw [List.filter_map]; rfl
      rw [List.nil_append, e, List.map_id, a_str _ _ (by simp; omega)]
      simp only [onS_s, slot_str, List.set_cons_succ, List.set_cons_zero]
      exact hK _ fun _ => ⟨_, _, _, _, by rw [Nat.zero_add]; rw [Nat.zero_add] at hb; exact hb.next hj', rfl⟩
  · rw [rngD_len, Nat.zero_add] at hI
    obtain ⟨L, s, a, b, hb, rfl⟩ := hI (Nat.le_refl _)
    simp only [wSs, wS, wE, frz, frz1, Slot.frz, List.getElem?_cons_zero, List.getElem?_cons_succ]
    refine q s ?_
    unfold letS
    simp only [Bool.and_eq_true, decide_eq_true_eq, List.all_eq_true]
    refine ⟨⟨?_, fun c hc => hb.mem c (List.mem_append_right _ hc)⟩, (List.nodup_append.mp hb.nd).2.1⟩
    cases s with
    | nil => have := hb.lens; simp at this; omega
    | cons _ _ => rfl
theorem obl__law_any_votes : ∀ ds Q X, S__law_any_votes ds Q X → wSs m__law_any_votes (envD 11 ds) (fun _ => Q .non) Q X := by
  rintro _ Q X ⟨lo, hi, k, rfl, h2, hlh, h5, h8, q⟩
  rw [show envD 11 [.dice, .int lo, .int hi, .int k] = [.imm .dice, .imm (.int lo), .imm (.int hi), .imm (.int k), .no, .no, .no, .no, .no, .no, .no] from rfl]
  simp only [m__law_any_votes, wSs, wS, wE, wEs, frz, List.getElem?_cons_zero, List.getElem?_cons_succ, s_int, a_int, onS_s]
  refine ⟨(hi : Int) - lo + 1, rfl, by omega, by omega, fun r r0 r1 => ?_⟩
  simp only [a_int, onS_s]
  refine ⟨by decide, ?_⟩
  simp only [slot_int, slot_new (e := .lst _) rfl, List.set_cons_succ, List.set_cons_zero, List.getElem?_cons_zero, List.getElem?_cons_succ]
  refine ⟨by decide, ?_⟩
  refine ⟨3, rfl, by omega, by omega, fun t t0 t1 => ?_⟩
  obtain ⟨n, hn⟩ : ∃ n : Nat, (lo : Int) + r = n := ⟨((lo : Int) + r).toNat, by omega⟩
  obtain ⟨hg, hhg, ehg⟩ : ∃ hg : Int, (1 ≤ hg ∧ hg ≤ 20) ∧ subD (.lst [.int 2, .int 5, .int 20]) (.int t) = some (.int hg) := by
    obtain ⟨j, hj, rfl, ej⟩ := atI_lt (xs := [D.int 2, D.int 5, D.int 20]) t0 (by simpa using t1)
    simp only [sub_lst, ej]
    have hj : j < 3 := by simpa using hj
    match j, hj with
    | 0, _ => exact ⟨2, by omega, rfl⟩
    | 1, _ => exact ⟨5, by omega, rfl⟩
    | 2, _ => exact ⟨20, by omega, rfl⟩
  rw [ehg]
  simp only [onS_s, slot_int, List.set_cons_succ, List.set_cons_zero, List.getElem?_cons_zero, List.getElem?_cons_succ, a_int]
  refine ⟨(k : Int) + 1, rfl, by omega, by omega, fun u u0 u1 => ⟨by unfold smallI; simp only [Bool.and_eq_true, decide_eq_true_eq]; omega, ?_⟩⟩
  rw [onIt_l, hn]
  refine wLoop_inv (fun i ρ => i ≤ u.toNat → ∃ (ps : Ps) (a b : Slot), Val n ps ∧ ps.length ≤ i ∧ ρ = [.imm .dice, .imm (.int lo), .imm (.int hi), .imm (.int k), .imm (.int n), .own (.lst (encP ps)), .imm (.int hg), a, b, .no, .no]) _ 0 _ (fun _ => ?_) (fun i x ρ K hx hI hK => ?_) fun ρ hI => ?_
  · exact ⟨[], _, _, ⟨by omega, by omega, by simp, by simp, by simp⟩, by simp, rfl⟩
  · have hi' : i < u.toNat := by
      have := lt_of_get' hx
      rwa [rngD_len] at this
    obtain ⟨ps, a, b, hv, hl, rfl⟩ := hI (by omega)
    simp only [asgG, onS_s, wSs, wS, wE, wEs, frz, frz1, Slot.frz, List.set_cons_succ, List.set_cons_zero, List.getElem?_cons_zero, List.getElem?_cons_succ]
    have v1 := hv.lo
    refine ⟨n, rfl, by omega, hv.hi, fun s hs => ?_⟩
    simp only [slot_str, List.set_cons_succ, List.set_cons_zero, List.getElem?_cons_zero, List.getElem?_cons_succ]
    refine ⟨by simp [MG.slots, MG.slotss, notOwn], ?_⟩
    rw [onIt_l]
    have hl8 := hv.len
    have hlen : (encP ps).length = ps.length := by simp [encP]
    refine wLC_map (fun x => match x with | .tup [b, _] => b | _ => .non) _ _ (by omega) (fun x hx => ?_) ?_
    · obtain ⟨p, _, rfl⟩ := List.mem_map.mp hx
      refine ⟨_, rfl, fun K k => ?_⟩
      simpa [wE, MG.slots, MG.slotss, wipeD] using k
    · have e : ((encP ps).map fun x => match x with | .tup [b, _] => b | _ => .non) = (ps.map (·.1)).map .str := by simp [encP, Function.comp_def]
      rw [e, c_ninL]
      have hpl : ∀ ss : List (List Nat), D.pls (ss.map .str) = true ∧ D.deps (ss.map .str) = 0 := fun ss => by
        induction ss with
        | nil => exact ⟨rfl, rfl⟩
        | cons s r ih => simp [ih.1, ih.2]
      rw [eqOk_f rfl (by simpa using (hpl (ps.map (·.1))).1) (.inl (by simp)), if_pos rfl]
      have ea : (((ps.map (·.1)).map D.str).any fun z => D.eqv z (.str s)) = decide (s ∈ ps.map (·.1)) := by
        rw [List.any_map, Bool.eq_iff_iff, List.any_eq_true, decide_eq_true_iff]
        constructor
        · rintro ⟨z, hz, e⟩
          simp only [Function.comp, ev_str, beq_iff_eq] at e
          exact e ▸ hz
        · intro h
          exact ⟨s, h, by simp⟩
      rw [ea]
      simp only [onS_s, onB_b]
      by_cases hm : s ∈ ps.map (·.1)
      · rw [decide_eq_true hm]
        simp only [Bool.not_true, if_false, Bool.false_eq_true]
        exact hK _ fun _ => ⟨ps, _, _, hv, by omega, rfl⟩
      · rw [decide_eq_false hm]
        simp only [Bool.not_false, if_true]
        refine ⟨hg, rfl, by omega, by omega, fun z z0 z1 => ?_⟩
        simp only [a_int, onS_s]
        refine ⟨by simp, by simp only [hlen]; omega, hK _ fun _ => ?_⟩
        obtain ⟨m, hm'⟩ : ∃ m : Nat, 1 + z = m := ⟨(1 + z).toNat, by omega⟩
        refine ⟨ps ++ [(s, m)], .imm x, .imm (.str s), ⟨hv.lo, hv.hi, by simp; omega, fun p hp => ?_, ?_⟩, by simp; omega, ?_⟩
        · rcases List.mem_append.mp hp with hp | hp
          · exact hv.bl p hp
          · rw [List.mem_singleton] at hp; subst hp
            exact ⟨hs, by simp; omega, by simp; omega⟩
        · rw [List.map_append, List.nodup_append]
          refine ⟨hv.nd, by simp, fun a ha b hb => ?_⟩
          rw [List.map_singleton, List.mem_singleton] at hb
          subst hb
          exact fun e => hm (e ▸ ha)
        · rw [hm']
          simp [encP]
  · rw [rngD_len, Nat.zero_add] at hI
    obtain ⟨ps, a, b, hv, hl, rfl⟩ := hI (Nat.le_refl _)
    simp only [wSs, wS, wE, wEs, frz, frz1, Slot.frz, List.getElem?_cons_zero, List.getElem?_cons_succ]
    have et : b1D .tuple (.lst (encP ps)) = some (.tup (encP ps)) := rfl
    rw [et]
    simp only [onS_s]
    exact ⟨by simp, q n ps hv (by omega) (by omega) (by omega)⟩
end PV

set_option Elab.async false
set_option linter.all false
set_option maxRecDepth 100000
set_option maxHeartbeats 4000000
/-! PVd: the drawn cell. -/
namespace PV
open DL L2
theorem mulOk_r {a b : Int} (h : b.natAbs < 2 ^ 64) : mulOk a b = true := by unfold mulOk; rw [decide_eq_true h]; simp
theorem mulOk_l {a b : Int} (h : a.natAbs < 2 ^ 64) : mulOk a b = true := by unfold mulOk; rw [decide_eq_true h]; simp
theorem mulOk_2 {a b : Int} (h : a.natAbs < 2 ^ 200) (h2 : b.natAbs < 2 ^ 200) : mulOk a b = true := by unfold mulOk; rw [decide_eq_true h, decide_eq_true h2]; simp
theorem wE_mul {a b : ME} {ρ : DEnv} {Q : D → Prop} {X : Nat → Prop} {x y : Int} (h : mulOk x y = true) (q : Q (.int (x * y))) : onS (binD .mul (.int x) (.int y)) Q := by
  simp only [binD, h, if_true]
  exact q
theorem on_mod {Q : D → Prop} {x y : Int} (h : 0 < y) (q : Q (.int (x % y))) : onS (binD .mod (.int x) (.int y)) Q := by
  simp only [binD, decide_eq_true h, if_true]
  exact q
theorem on_mul {Q : D → Prop} {x y : Int} (h : mulOk x y = true) (q : Q (.int (x * y))) : onS (binD .mul (.int x) (.int y)) Q := by
  simp only [binD, h, if_true]
  exact q
theorem on_fdiv {Q : D → Prop} {x y : Int} (h : 0 < y) (h2 : y.natAbs < 2 ^ 100) (q : Q (.int (x / y))) : onS (binD .fdiv (.int x) (.int y)) Q := by
  simp only [binD, decide_eq_true h, decide_eq_true h2, Bool.and_true, if_true]
  exact q
theorem obl__law_drawn : ∀ ds Q X, S__law_drawn ds Q X → wSs m__law_drawn (envD 3 ds) (fun _ => Q .non) Q X := by
  rintro _ Q X ⟨a, b, rfl, q⟩
  rw [show envD 3 [.int a, .int b] = [.imm (.int a), .imm (.int b), .no] from rfl]
  rw [m__law_drawn, wSs, wS]
  simp only [wE, frz, List.getElem?_cons_zero, List.getElem?_cons_succ]
  refine on_mul (mulOk_r (by decide)) ?_
  simp only [a_int, onS_s]
  refine on_mul (mulOk_r (by decide)) ?_
  simp only [a_int, onS_s]
  refine on_mod (by decide) ?_
  have h0 := Int.emod_nonneg (a * 6364136223846793005 + (b + 1) * 1442695040888963407) (show (340282366920938463463374607431768211507 : Int) ≠ 0 by decide)
  have h1 := Int.emod_lt_of_pos (a * 6364136223846793005 + (b + 1) * 1442695040888963407) (show (0 : Int) < 340282366920938463463374607431768211507 by decide)
  generalize (a * 6364136223846793005 + (b + 1) * 1442695040888963407) % 340282366920938463463374607431768211507 = m at h0 h1 ⊢
  rw [slot_int, wSs, wS]
  simp only [wE, frz, List.set_cons_zero, List.set_cons_succ, List.getElem?_cons_zero, List.getElem?_cons_succ]
  refine on_mul (mulOk_2 (by omega) (by omega)) (on_mod (by decide) ?_)
  have g0 := Int.emod_nonneg (m * m) (show (340282366920938463463374607431768211297 : Int) ≠ 0 by decide)
  have g1 := Int.emod_lt_of_pos (m * m) (show (0 : Int) < 340282366920938463463374607431768211297 by decide)
  generalize (m * m) % 340282366920938463463374607431768211297 = k at g0 g1 ⊢
  rw [slot_int, wSs, wS]
  simp only [wE, frz, List.set_cons_zero, List.set_cons_succ, List.getElem?_cons_zero, List.getElem?_cons_succ]
  have p0 := Int.emod_nonneg k (show (18446744073709551557 : Int) ≠ 0 by decide)
  have p1 := Int.emod_lt_of_pos k (show (0 : Int) < 18446744073709551557 by decide)
  have d0 : 0 ≤ k / 18446744073709551557 := by omega
  have d1 : k / 18446744073709551557 < 36893488147419103232 := by omega
  refine on_mod (by decide) ?_
  simp only [a_int, onS_s]
  refine on_fdiv (by decide) (by decide) ?_
  simp only [a_int, onS_s]
  generalize k % 18446744073709551557 = u at p0 p1 ⊢
  generalize k / 18446744073709551557 = v at d0 d1 ⊢
  refine on_mul (mulOk_l (by omega)) ?_
  have hp : ((u + 1) * (v + 1)).natAbs < 2 ^ 200 := by
    rw [Int.natAbs_mul]
    have e1 : (u + 1).natAbs ≤ 2 ^ 64 := by omega
    have e2 : (v + 1).natAbs ≤ 2 ^ 66 := by omega
    exact Nat.lt_of_le_of_lt (Nat.mul_le_mul e1 e2) (by decide)
  refine on_mul (mulOk_2 hp (by omega)) ?_
  rw [slot_int, wSs, wS]
  simp only [wE, frz, List.set_cons_zero, List.set_cons_succ, List.getElem?_cons_zero, List.getElem?_cons_succ]
  exact on_mod (by decide) (q _)
end PV

set_option Elab.async false
set_option linter.all false
set_option maxRecDepth 100000
set_option maxHeartbeats 4000000
/-! PVq: votes with a pair more; texts drawn letter by letter. -/
namespace PV
open DL L2
theorem wLC_any {ρ : DEnv} {tg : MG} {el : DEnv → (D → Prop) → Prop} (P : D → Prop) : ∀ (xs acc : List D) (Q : List D → Prop), acc.length + xs.length ≤ 16777216 →
    (∀ x ∈ xs, ∃ ρ', asgG tg x ρ = some ρ' ∧ ∀ K : D → Prop, (∀ d, P d → K d) → el ρ' K) → (∀ ds, ds.length = xs.length → (∀ d ∈ ds, P d) → Q (acc ++ ds)) → wLC ρ tg (fun ρ' K => wIfs [] ρ' K) el xs acc Q
  | [], acc, Q, _, _, q => by simpa [wLC] using q [] rfl (by simp)
  | x :: xs, acc, Q, hl, h, q => by
    obtain ⟨ρ', h1, h2⟩ := h x (by simp)
    unfold wLC
    rw [h1]
    simp only [List.length_cons] at hl
    simp only [wIfs, onS_s, if_true]
    refine ⟨by omega, h2 _ fun d hd => wLC_any P xs (acc ++ [d]) Q (by simp; omega) (fun y hy => h y (by simp [hy])) fun ds e hP => ?_⟩
    have := q (d :: ds) (by simp [e]) (fun y hy => by
      rcases List.mem_cons.mp hy with rfl | hy
      · exact hd
      · exact hP y hy)
    simpa using this
theorem sms_app : ∀ xs ys : List D, sms (xs ++ ys) = (sms xs && sms ys)
  | [], ys => by simp [sms]
  | x :: xs, ys => by simp [sms, sms_app xs ys, Bool.and_assoc]
theorem sms_enc {n : Nat} {ps : Ps} (h : Val n ps) : sms (encP ps) = true := by
  have := sm_encV h
  simp only [encV, sm, sms, Bool.and_true, Bool.true_and, Bool.and_eq_true] at this
  exact this.2.2
theorem encP_len (ps : Ps) : (encP ps).length = ps.length := by simp [encP]
theorem sm_add {n : Nat} {ps : Ps} (h : Val n ps) {x : D} (hx : sm x = true) : sm (.tup [.int n, .tup (encP ps ++ [x])]) = true := by
  have h8 := h.len
  have hl := encP_len ps
  simp only [sm, sms, sms_app, sms_enc h, hx, Bool.and_true, Bool.true_and, Bool.and_eq_true, decide_eq_true_eq, List.length_cons, List.length_nil, List.length_append, hl]
  omega
theorem isVotes_add {n : Nat} {ps : Ps} (h : Val n ps) (h7 : ps.length ≤ 7) (x : D) : isVotes (.tup [.int n, .tup (encP ps ++ [x])]) = (isPair x (abc.take n) && !decide (bal x ∈ ps.map (·.1))) := by
  have h1 : (encP ps).all (fun p => isPair p (abc.take n)) = true := by
    have := isVotes_enc h
    simp only [encV, isVotes, Int.toNat_natCast, Bool.and_eq_true] at this
    exact this.1.2
  have h2 : (encP ps).map bal = ps.map (·.1) := by simp [encP, bal, Function.comp_def]
  have hl := encP_len ps
  have a := h.lo
  have b := h.hi
  have e1 : decide (2 ≤ (n : Int)) = true := by simp; omega
  have e2 : decide ((n : Int) ≤ 5) = true := by simp; omega
  have e3 : decide ((encP ps ++ [x]).length ≤ 8) = true := by simp [hl]; omega
  simp only [isVotes, isWhole, Int.toNat_natCast, e1, e2, e3, Bool.true_and, List.all_append, h1, List.all_cons, List.all_nil, Bool.and_true, List.map_append, List.map_cons, List.map_nil, h2]
  congr 1
  rw [Bool.eq_iff_iff]
  simp only [decide_eq_true_eq, Bool.not_eq_true', decide_eq_false_iff_not, List.nodup_append]
  constructor
  · rintro ⟨_, _, z⟩ m
    exact z _ m _ (by simp) rfl
  · intro m
    refine ⟨h.nd, by simp, fun u hu v hv e => ?_⟩
    rw [List.mem_singleton] at hv
    subst hv
    exact m (e ▸ hu)
theorem joinL_nil : ∀ ss : List (List Nat), DL.joinL [] ss = ss.flatten
  | [] => rfl
  | [x] => by simp [DL.joinL]
  | x :: y :: r => by simp [DL.joinL, joinL_nil (y :: r)]
end PV

set_option Elab.async false
set_option linter.all false
set_option maxRecDepth 100000
/-! PV1: counts, pairs; what their defs promise. -/
namespace PV
open DL
def isCand (v : D) (n : Nat) : Bool := match v with
  | .str [c] => decide (c ∈ abc.take n)
  | _ => false
/-- is x before y in b -/
def befB (b : List Nat) (x y : Nat) : Bool := match idxL b x with
  | none => false
  | some i => match idxL b y with
    | none => true
    | some j => decide (i < j)
def vFor (ps : Ps) (x y : Nat) : Nat := ((ps.filter fun p => befB p.1 x y).map (·.2)).sum
/-- the first of b that is in s -/
def fstIn (b s : List Nat) : Option Nat := (b.filter fun c => decide (c ∈ s)).head?
def cntC (ps : Ps) (s : List Nat) (c : Nat) : Nat := ((ps.filter fun p => decide (fstIn p.1 s = some c)).map (·.2)).sum
def cnts (ps : Ps) (s : List Nat) : List D := s.map fun c => .int (cntC ps s c : Nat)
/-- ballots as they come -/
structure Pok (ps : Ps) : Prop where
  len : ps.length ≤ 16
  bl : ∀ p ∈ ps, p.1.length ≤ 5
def S_need_candidate : FS := fun ds Q X => ∃ n ps v, ds = [encV n ps, v] ∧ Val n ps ∧ sm v = true ∧ (isCand v n = true → Q .non) ∧ (isCand v n = false → X 1)
def S_is_before : FS := fun ds Q _ => ∃ (b : List Nat) (x y : Nat), ds = [.str b, .str [x], .str [y]] ∧ b.length ≤ 1000 ∧ Q (.bl (befB b x y))
def S_voters_for : FS := fun ds Q _ => ∃ n ps x y, ds = [encV n ps, .str [x], .str [y]] ∧ Val n ps ∧ Q (.int (vFor ps x y : Nat))
def S_preferring : FS := fun ds Q X => ∃ n ps a b, ds = [encV n ps, a, b] ∧ Val n ps ∧ sm a = true ∧ sm b = true ∧
  (∀ x y, a = .str [x] → b = .str [y] → x ∈ abc.take n → y ∈ abc.take n → x ≠ y → Q (.int (vFor ps x y : Nat))) ∧ ((isCand a n = false ∨ isCand b n = false ∨ a = b) → X 1)
def S_counts_of : FS := fun ds Q _ => ∃ (ps : Ps) (s : List Nat), ds = [.tup (encP ps), .str s] ∧ Pok ps ∧ s.Nodup ∧ s.length ≤ 5 ∧ Q (.lst (cnts ps s))
def S_counts : FS := fun ds Q X => ∃ n ps v, ds = [encV n ps, v] ∧ Val n ps ∧ sm v = true ∧ (∀ s, v = .str s → letS s (abc.take n) = true → Q (.tup (cnts ps s))) ∧ (areLetters v (abc.take n) = false → X 5)
def S__law_counts : FS := fun ds Q _ => ∃ (d : D) (ps : Ps) (s : List Nat), ds = [d, .str s] ∧ (d = .tup (encP ps) ∨ d = .lst (encP ps)) ∧ Pok ps ∧ s.Nodup ∧ s.length ≤ 5 ∧ Q (.lst (cnts ps s))
def S__law_letters : FS := fun ds Q _ => ∃ n ps, ds = [encV n ps] ∧ n ≤ 5 ∧ Q (.str (abc.take n))
def S__law_before : FS := fun ds Q _ => ∃ (b : List Nat) (x y : Nat), ds = [.str b, .str [x], .str [y]] ∧ b.length ≤ 1000 ∧ Q (.bl (befB b x y))
end PV

set_option Elab.async false
set_option linter.all false
set_option maxRecDepth 100000
/-! Printed by gen.py: the forms over data. -/
namespace PV
open DL
def m_counts_of : List MS := [.asg (.nm 2) [] (.dc (.nm 6) (.peek 1) (.var 6) (.con (.int 0))), .for (.tp [.nm 3, .nm 4]) [] (.var 0) [.asg (.nm 5) [] (.lc (.nm 6) (.peek 3) [.cmp .inn (.peek 6) (.peek 1)] (.var 6)), .ifs (.cmp .ne (.peek 5) (.lst [])) [.augix 2 [] (.sub (.peek 5) (.con (.int 0))) (.peek 4)] []], .ret [] (.lc (.nm 6) (.peek 1) [] (.sub (.peek 2) (.peek 6)))]
def m_counts : List MS := [.expr [] (.call S_need_votes [.var 0]), .ifs (.not (.call S_are_letters [.var 1, .call S_candidates_of [.var 0]])) [.raise 5] [], .ret [] (.b1 .tuple (.call S_counts_of [.sub (.peek 0) (.con (.int 1)), .var 1]))]
def m_need_candidate : List MS := [.ifs (.or (.not (.call S_are_letters [.var 1, .call S_candidates_of [.var 0]])) (.cmp .ne (.b1 .len (.peek 1)) (.con (.int 1)))) [.raise 1] []]
def m_preferring : List MS := [.expr [] (.call S_need_votes [.var 0]), .expr [] (.call S_need_candidate [.var 0, .var 1]), .expr [] (.call S_need_candidate [.var 0, .var 2]), .ifs (.cmp .eq (.peek 1) (.peek 2)) [.raise 1] [], .ret [] (.call S_voters_for [.var 0, .var 1, .var 2])]
def m_voters_for : List MS := [.ret [] (.b1 .sum (.lc (.tp [.nm 3, .nm 4]) (.sub (.peek 0) (.con (.int 1))) [.call S_is_before [.var 3, .var 1, .var 2]] (.var 4)))]
def m_is_before : List MS := [.ret [] (.and (.cmp .inn (.peek 1) (.peek 0)) (.or (.cmp .nin (.peek 2) (.peek 0)) (.cmp .lt (.b2 .index (.peek 0) (.peek 1)) (.b2 .index (.peek 0) (.peek 2)))))]
def m__law_letters : List MS := [.ret [] (.sl (.con (.str [97, 98, 99, 100, 101])) (.nop) (.sub (.peek 0) (.con (.int 0))))]
def m__law_before : List MS := [.ret [] (.and (.cmp .inn (.peek 1) (.peek 0)) (.or (.cmp .nin (.peek 2) (.peek 0)) (.cmp .lt (.b2 .index (.peek 0) (.peek 1)) (.b2 .index (.peek 0) (.peek 2)))))]
end PV

set_option Elab.async false
set_option linter.all false
set_option maxRecDepth 100000
/-! Printed by gen.py: the forms over data. -/
namespace PV
open DL
def m__law_counts : List MS := [.asg (.nm 2) [] (.bin .mul (.lst [.con (.int 0)]) (.b1 .len (.peek 1))), .for (.tp [.nm 3, .nm 4]) [] (.var 0) [.asg (.nm 5) [] (.lc (.nm 6) (.peek 3) [.cmp .inn (.peek 6) (.peek 1)] (.var 6)), .ifs (.cmp .ne (.peek 5) (.lst [])) [.setix 2 [] (.b2 .index (.peek 1) (.sub (.peek 5) (.con (.int 0)))) (.bin .add (.sub (.peek 2) (.b2 .index (.peek 1) (.sub (.peek 5) (.con (.int 0))))) (.peek 4))] []], .ret [2] (.var 2)]
end PV

set_option Elab.async false
set_option linter.all false
set_option maxRecDepth 100000
/-! PV2: votes with more, votes renamed. -/
namespace PV
open DL
def wmore (ps : Ps) (b : List Nat) (t : Nat) : Ps := if b ∈ ps.map (·.1) then ps.map (fun p => if p.1 = b then (p.1, p.2 + t) else p) else ps ++ [(b, t)]
def fits (qs : Ps) : Bool := decide (qs.length ≤ 8) && qs.all fun p => decide (p.2 ≤ 20)
/-- c's name in s -/
def ren (s : List Nat) (c : Nat) : Nat := match idxL abc c with
  | some i => s.getD i 0
  | none => 0
def renP (s : List Nat) (ps : Ps) : Ps := ps.map fun p => (p.1.map (ren s), p.2)
def S_need_ballot : FS := fun ds Q X => ∃ (n : Nat) (v : D), ds = [.int n, v] ∧ n ≤ 5 ∧ sm v = true ∧ (areLetters v (abc.take n) = true → Q .non) ∧ (areLetters v (abc.take n) = false → X 2)
def S_need_times : FS := fun ds Q X => ∃ v, ds = [v] ∧ v.nd = true ∧ (isWhole v 1 20 = true → Q .non) ∧ (isWhole v 1 20 = false → X 3)
def S_with_more : FS := fun ds Q X => ∃ (ps : Ps) (b : List Nat) (t : Nat), ds = [.tup (encP ps), .str b, .int t] ∧ ps.length ≤ 8 ∧ (fits (wmore ps b t) = true → Q (.tup (encP (wmore ps b t)))) ∧ (fits (wmore ps b t) = false → X 8)
def S_added : FS := fun ds Q X => ∃ n ps b t, ds = [encV n ps, b, t] ∧ Val n ps ∧ sm b = true ∧ t.nd = true ∧ (areLetters b (abc.take n) = false → X 2) ∧ (areLetters b (abc.take n) = true → isWhole t 1 20 = false → X 3) ∧
  (∀ (s : List Nat) (k : Nat), b = .str s → letS s (abc.take n) = true → t = .int k → 1 ≤ k → k ≤ 20 → (fits (wmore ps s k) = true → Q (encV n (wmore ps s k))) ∧ (fits (wmore ps s k) = false → X 8))
def S_renamed : FS := fun ds Q X => ∃ n ps v, ds = [encV n ps, v] ∧ Val n ps ∧ sm v = true ∧ (∀ s, v = .str s → s.Perm (abc.take n) → Q (encV n (renP s ps))) ∧ ((¬ ∃ s, v = .str s ∧ s.Perm (abc.take n)) → X 4)
end PV

set_option Elab.async false
set_option linter.all false
set_option maxRecDepth 100000
/-! Printed by gen.py: the forms over data. -/
namespace PV
open DL
def m_need_ballot : List MS := [.ifs (.not (.call S_are_letters [.var 1, .sl (.con (.str [97, 98, 99, 100, 101])) (.nop) (.var 0)])) [.raise 2] []]
def m_need_times : List MS := [.ifs (.not (.call S_is_whole [.var 0, .con (.int 1), .con (.int 20)])) [.raise 3] []]
def m_with_more : List MS := [.par 3 4 [] (.lst []) (.con (.bl false)), .for (.tp [.nm 5, .nm 6]) [] (.var 0) [.ifs (.cmp .eq (.peek 5) (.peek 1)) [.par 4 6 [] (.con (.bl true)) (.bin .add (.peek 6) (.peek 2))] [], .app 3 [6] (.tup [.var 5, .var 6])], .ifs (.not (.var 4)) [.app 3 [] (.tup [.var 1, .var 2])] [], .ifs (.or (.cmp .gt (.b1 .len (.peek 3)) (.con (.int 8))) (.b1 .any (.lc (.tp [.nm 5, .nm 6]) (.peek 3) [] (.cmp .gt (.peek 6) (.con (.int 20)))))) [.raise 8] [], .ret [] (.b1 .tuple (.peek 3))]
def m_added : List MS := [.expr [] (.call S_need_votes [.var 0]), .expr [] (.call S_need_ballot [.sub (.peek 0) (.con (.int 0)), .var 1]), .expr [] (.call S_need_times [.var 2]), .ret [] (.tup [.sub (.peek 0) (.con (.int 0)), .call S_with_more [.sub (.peek 0) (.con (.int 1)), .var 1, .var 2]])]
def m_renamed : List MS := [.expr [] (.call S_need_votes [.var 0]), .ifs (.or (.not (.isi (.peek 1) .str)) (.cmp .ne (.b1 .sorted (.peek 1)) (.b1 .list (.call S_candidates_of [.var 0])))) [.raise 4] [], .asg (.nm 2) [] (.lst []), .for (.tp [.nm 3, .nm 4]) [] (.sub (.peek 0) (.con (.int 1))) [.app 2 [] (.tup [.b1 (.join []) (.lc (.nm 5) (.peek 3) [] (.sub (.peek 1) (.b2 .index (.con (.str [97, 98, 99, 100, 101])) (.peek 5)))), .var 4])], .ret [] (.tup [.sub (.peek 0) (.con (.int 0)), .b1 .tuple (.peek 2)])]
end PV

set_option Elab.async false
set_option linter.all false
set_option maxRecDepth 100000
/-! PV3: ways, winners, votes joined. -/
namespace PV
open DL
/-- the letters of least count -/
def lastsF (ps : Ps) (s : List Nat) : List Nat := s.filter fun c => s.all fun d => decide (cntC ps s c ≤ cntC ps s d)
/-- the last letter of these -/
def outF (ps : Ps) (s : List Nat) : Nat := (lastsF ps s).foldl max 0
def wayN (ps : Ps) : Nat → List Nat → List Nat
  | 0, s => s
  | k + 1, s => if s.length ≤ 1 then s else outF ps s :: wayN ps k (s.filter fun x => x != outF ps s)
def wayF (ps : Ps) (s : List Nat) : List Nat := wayN ps s.length s
def winF (n : Nat) (ps : Ps) : Nat := (wayF ps (abc.take n)).getLastD 0
def joinP (ps qs : Ps) : Ps := qs.foldl (fun a q => wmore a q.1 q.2) ps
def S_last_ones : FS := fun ds Q _ => ∃ (ps : Ps) (s : List Nat), ds = [.tup (encP ps), .str s] ∧ Pok ps ∧ s.Nodup ∧ s.length ≤ 5 ∧ s ≠ [] ∧ Q (.lst (chars (lastsF ps s)))
def S_way_of : FS := fun ds Q _ => ∃ (ps : Ps) (s : List Nat), ds = [.tup (encP ps), .str s] ∧ Pok ps ∧ s.Nodup ∧ s.length ≤ 5 ∧ s ≠ [] ∧ Q (.str (wayF ps s))
def S_winner_of : FS := fun ds Q _ => ∃ (n : Nat) (ps : Ps), ds = [encV n ps] ∧ Pok ps ∧ 2 ≤ n ∧ n ≤ 5 ∧ Q (.str [winF n ps])
def S_winner : FS := fun ds Q _ => ∃ (n : Nat) (ps : Ps), ds = [encV n ps] ∧ Val n ps ∧ Q (.str [winF n ps])
def S_together : FS := fun ds Q X => ∃ (n m : Nat) (ps qs : Ps), ds = [encV n ps, encV m qs] ∧ Val n ps ∧ Val m qs ∧ (n ≠ m → X 9) ∧ (n = m → fits (joinP ps qs) = true → Q (encV n (joinP ps qs))) ∧ (n = m → fits (joinP ps qs) = false → X 8)
def S_is_split : FS := fun ds Q X => ∃ (n m : Nat) (ps qs : Ps), ds = [encV n ps, encV m qs] ∧ Val n ps ∧ Val m qs ∧ (n ≠ m → X 9) ∧ (n = m → fits (joinP ps qs) = false → X 8) ∧
  (n = m → fits (joinP ps qs) = true → Q (.bl (decide (winF n ps = winF n qs) && !decide (winF n (joinP ps qs) = winF n ps))))
def S_joined : FS := S_together
end PV

set_option Elab.async false
set_option linter.all false
set_option maxRecDepth 100000
/-! Printed by gen.py: the forms over data. -/
namespace PV
open DL
def m_last_ones : List MS := [.asg (.nm 2) [] (.call S_counts_of [.var 0, .var 1]), .ret [] (.lc (.tp [.nm 3, .nm 4]) (.enumS (.var 1)) [.cmp .eq (.sub (.peek 2) (.peek 3)) (.b1 .min (.peek 2))] (.var 4))]
def m_way_of : List MS := [.asg (.nm 2) [] (.con (.str [])), .whl (.cmp .gt (.b1 .len (.peek 1)) (.con (.int 1))) [.asg (.nm 3) [] (.b1 .max (.call S_last_ones [.var 0, .var 1])), .par 2 1 [] (.bin .add (.peek 2) (.peek 3)) (.b2 .repl0 (.peek 1) (.peek 3))], .ret [] (.bin .add (.peek 2) (.peek 1))]
def m_winner_of : List MS := [.ret [] (.sub (.call S_way_of [.sub (.peek 0) (.con (.int 1)), .call S_candidates_of [.var 0]]) (.neg (.con (.int 1))))]
def m_winner : List MS := [.expr [] (.call S_need_votes [.var 0]), .ret [] (.call S_winner_of [.var 0])]
def m_together : List MS := [.expr [] (.call S_need_votes [.var 0]), .expr [] (.call S_need_votes [.var 1]), .ifs (.cmp .ne (.sub (.peek 0) (.con (.int 0))) (.sub (.peek 1) (.con (.int 0)))) [.raise 9] [], .asg (.nm 2) [] (.sub (.peek 0) (.con (.int 1))), .for (.tp [.nm 3, .nm 4]) [] (.sub (.peek 1) (.con (.int 1))) [.asg (.nm 2) [] (.call S_with_more [.var 2, .var 3, .var 4])], .ret [] (.tup [.sub (.peek 0) (.con (.int 0)), .var 2])]
def m_joined : List MS := [.ret [] (.call S_together [.var 0, .var 1])]
def m_is_split : List MS := [.asg (.nm 2) [] (.call S_together [.var 0, .var 1]), .ret [] (.and (.cmp .eq (.call S_winner_of [.var 0]) (.call S_winner_of [.var 1])) (.cmp .ne (.call S_winner_of [.var 2]) (.call S_winner_of [.var 0])))]
end PV

set_option Elab.async false
set_option linter.all false
set_option maxRecDepth 100000
/-! PV4: the law's own way; a pair with voters less; absences. -/
namespace PV
open DL
/-- the law's own: the last of the letters of least count goes out -/
def outL (ps : Ps) (s : List Nat) : Nat := (lastsF ps s).getLastD 0
def wayL (ps : Ps) : Nat → List Nat → List Nat
  | 0, s => s
  | k + 1, s => if s.length ≤ 1 then s else outL ps s :: wayL ps k (s.filter fun x => x != outL ps s)
def S__law_way : FS := fun ds Q _ => ∃ (d : D) (ps : Ps) (s : List Nat), ds = [d, .str s] ∧ (d = .tup (encP ps) ∨ d = .lst (encP ps)) ∧ Pok ps ∧ s.Nodup ∧ s.length ≤ 5 ∧ s ≠ [] ∧ Q (.str (wayL ps s.length s))
/-- t voters less in the pair at i -/
def lessP (ps : Ps) (i t : Nat) : Ps := (ps.take i) ++ (match ps[i]? with
  | some p => if t < p.2 then [(p.1, p.2 - t)] else []
  | none => []) ++ ps.drop (i + 1)
def S_without : FS := fun ds Q _ => ∃ (ps : Ps) (i t : Nat), ds = [.tup (encP ps), .int i, .int t] ∧ ps.length ≤ 16 ∧ Q (.tup (encP (lessP ps i t)))
/-- the first absence of voters of the pair at i that helps, as many as k at most, from j on -/
def absI (n : Nat) (ps : Ps) (i : Nat) (b : List Nat) : Nat → Nat → Option Nat
  | 0, _ => none
  | k + 1, j => if befB b (winF n (lessP ps i j)) (winF n ps) = true then some j else absI n ps i b k (j + 1)
def absF (n : Nat) (ps : Ps) : Ps → Nat → Option (Nat × Nat)
  | [], _ => none
  | p :: r, i => match absI n ps i p.1 p.2 1 with
    | some t => some (i, t)
    | none => absF n ps r (i + 1)
def optD : Option (Nat × Nat) → D
  | none => .non
  | some (i, t) => .tup [.int i, .int t]
def S_absence_that_helps : FS := fun ds Q X => ∃ v, ds = [v] ∧ sm v = true ∧ (∀ n ps, v = encV n ps → Val n ps → Q (optD (absF n ps ps 0))) ∧ (isVotes v = false → X 0)
end PV

set_option Elab.async false
set_option linter.all false
set_option maxRecDepth 100000
/-! Printed by gen.py: the forms over data. -/
namespace PV
open DL
def m_without : List MS := [.asg (.nm 3) [] (.lst []), .for (.tp [.nm 4, .tp [.nm 5, .nm 6]]) [] (.enum (.var 0)) [.ifs (.cmp .ne (.peek 4) (.peek 1)) [.app 3 [] (.tup [.var 5, .var 6])] [.ifs (.cmp .gt (.peek 6) (.peek 2)) [.app 3 [] (.tup [.var 5, .bin .sub (.peek 6) (.peek 2)])] []]], .ret [] (.b1 .tuple (.peek 3))]
def m_absence_that_helps : List MS := [.expr [] (.call S_need_votes [.var 0]), .par 1 2 [] (.call S_candidates_of [.var 0]) (.call S_winner_of [.var 0]), .for (.tp [.nm 3, .tp [.nm 4, .nm 5]]) [] (.enum (.sub (.peek 0) (.con (.int 1)))) [.for (.nm 6) [] (.rng2 (.con (.int 1)) (.bin .add (.peek 5) (.con (.int 1)))) [.asg (.nm 7) [] (.sub (.call S_way_of [.call S_without [.sub (.peek 0) (.con (.int 1)), .var 3, .var 6], .var 1]) (.neg (.con (.int 1)))), .ifs (.call S_is_before [.var 4, .var 7, .var 2]) [.ret [] (.tup [.var 3, .var 6])] []]], .ret [] (.con .non)]
def m__law_way : List MS := [.asg (.nm 2) [] (.con (.str [])), .for (.nm 3) [] (.rng1 (.bin .sub (.b1 .len (.peek 1)) (.con (.int 1)))) [.asg (.nm 4) [] (.call S__law_counts [.var 0, .var 1]), .asg (.nm 5) [] (.sub (.lc (.tp [.nm 6, .nm 7]) (.enumS (.var 1)) [.cmp .eq (.sub (.peek 4) (.peek 6)) (.b1 .min (.peek 4))] (.var 7)) (.neg (.con (.int 1)))), .par 2 1 [] (.bin .add (.peek 2) (.peek 5)) (.b2 .repl0 (.peek 1) (.peek 5))], .ret [] (.bin .add (.peek 2) (.peek 1))]
end PV

set_option Elab.async false
set_option linter.all false
set_option maxRecDepth 100000
set_option maxHeartbeats 4000000
/-! PVr: counts and pairs: what the forms answer. -/
namespace PV
open DL L2
theorem idxL_none {xs : List Nat} {x : Nat} : idxL xs x = none ↔ x ∉ xs := by
  unfold idxL
  rw [List.findIdx?_eq_none_iff]
  simp only [decide_eq_false_iff_not]
  constructor
  · intro h m; exact h x m rfl
  · intro h y hy e; exact h (e ▸ hy)
theorem ixTxt (s : List Nat) (c : Nat) : b2D .index (.str s) (.str [c]) = (idxL s c).map fun (i : Nat) => D.int i := by
  cases h : idxL s c <;> simp [b2D, h]
theorem befB_core (b : List Nat) (x y : Nat) (hb : b.length ≤ 1000) (Q : D → Prop) (X : Nat → Prop) (q : Q (.bl (befB b x y))) :
    wSs [.ret [] (.and (.cmp .inn (.peek 1) (.peek 0)) (.or (.cmp .nin (.peek 2) (.peek 0)) (.cmp .lt (.b2 .index (.peek 0) (.peek 1)) (.b2 .index (.peek 0) (.peek 2)))))] [.imm (.str b), .imm (.str [x]), .imm (.str [y])] (fun _ => Q .non) Q X := by
  simp only [wSs, wS, wE, frz, List.getElem?_cons_zero, List.getElem?_cons_succ, c_inS, c_ninS, onS_s, onB_b, b2T, true_and, ixTxt]
  unfold befB at q
  cases hx : idxL b x with
  | none =>
    rw [hx] at q
    rw [decide_eq_false (idxL_none.mp hx)]
    simpa using q
  | some i =>
    rw [hx] at q
    have mx : x ∈ b := Classical.byContradiction fun n => by rw [idxL_none.mpr n] at hx; cases hx
    rw [decide_eq_true mx]
    simp only [if_true]
    cases hy : idxL b y with
    | none =>
      rw [hy] at q
      rw [decide_eq_false (idxL_none.mp hy)]
      simpa using q
    | some j =>
      rw [hy] at q
      have my : y ∈ b := Classical.byContradiction fun n => by rw [idxL_none.mpr n] at hy; cases hy
      rw [decide_eq_true my]
      simpa using q
theorem obl_is_before : ∀ ds Q X, S_is_before ds Q X → wSs m_is_before (envD 3 ds) (fun _ => Q .non) Q X := by
  rintro _ Q X ⟨b, x, y, rfl, hb, q⟩
  exact befB_core b x y hb Q X q
theorem obl__law_before : ∀ ds Q X, S__law_before ds Q X → wSs m__law_before (envD 3 ds) (fun _ => Q .non) Q X := by
  rintro _ Q X ⟨b, x, y, rfl, hb, q⟩
  exact befB_core b x y hb Q X q
theorem obl__law_letters : ∀ ds Q X, S__law_letters ds Q X → wSs m__law_letters (envD 1 ds) (fun _ => Q .non) Q X := by
  rintro _ Q X ⟨n, ps, rfl, hn, q⟩
  exact obl_candidates_of _ Q X ⟨n, ps, rfl, hn, q⟩
theorem isCand_of {v : D} {n : Nat} (h : isCand v n = true) : ∃ c, v = .str [c] ∧ c ∈ abc.take n := by
  unfold isCand at h
  split at h
  · rename_i c; exact ⟨c, rfl, of_decide_eq_true h⟩
  · cases h
theorem obl_need_candidate : ∀ ds Q X, S_need_candidate ds Q X → wSs m_need_candidate (envD 2 ds) (fun _ => Q .non) Q X := by
  rintro _ Q X ⟨n, ps, v, rfl, hv, hs, q1, q2⟩
  rw [show envD 2 [encV n ps, v] = [.imm (encV n ps), .imm v] from rfl]
  simp only [m_need_candidate, wSs, wS, wE, wEs, frz, List.getElem?_cons_zero, List.getElem?_cons_succ]
  refine ⟨n, ps, rfl, hv.hi, v, _, rfl, hs, by simp [abc]; omega, ?_⟩
  simp only [onB_b]
  cases ha : areLetters v (abc.take n) with
  | false =>
    simp only [Bool.not_false, if_true]
    refine q2 ?_
    unfold isCand
    split
    · rename_i c
      rw [decide_eq_false_iff_not]
      intro hc
      simp [areLetters, letS, hc] at ha
    · rfl
  | true =>
    simp only [Bool.not_true, if_false, Bool.false_eq_true]
    cases v <;> simp only [areLetters] at ha <;> first
      | cases ha
      | skip
    rename_i s
    have hl : s.length ≤ 1000 := by simpa [sm] using hs
    rw [len_str s (by omega)]
    simp only [onS_s, c_ne, eqOk_f (x := .int _) (y := .int _) rfl rfl (.inl (by simp)), if_true, ev_int, onB_b]
    obtain ⟨_, _, _, _, hm⟩ := letS_len ha
    match s, ha, hm, q1, q2 with
    | [], _, _, _, q2 => simpa [isCand] using q2
    | [c], _, hm, q1, _ => simpa [isCand, hm c (by simp)] using q1
    | a :: b :: r, _, _, _, q2 =>
      have : ((((a :: b :: r : List Nat).length : Nat) : Int) == 1) = false := by
        rw [beq_eq_false_iff_ne]; simp only [List.length_cons]; omega
      rw [this]
      simpa [isCand] using q2
theorem sumN (l : Ps) : (l.map fun p => ((p.2 : Nat) : Int)).sum = (((l.map (·.2)).sum : Nat) : Int) := by
  induction l with
  | nil => rfl
  | cons p r ih => simp [ih]
theorem bl_len {n : Nat} {ps : Ps} (hv : Val n ps) : ∀ p ∈ ps, p.1.length ≤ 5 := fun p hp => (letS_len (hv.bl p hp).1).2.1
theorem encP_filter (f : List Nat × Nat → Bool) (g : D → Bool) (h : ∀ p, g (.tup [.str p.1, .int p.2]) = f p) (ps : Ps) : (encP ps).filter g = encP (ps.filter f) := by
  unfold encP
  rw [List.filter_map]
  congr 2
  funext p
  exact h p
theorem obl_voters_for : ∀ ds Q X, S_voters_for ds Q X → wSs m_voters_for (envD 5 ds) (fun _ => Q .non) Q X := by
  rintro _ Q X ⟨n, ps, x, y, rfl, hv, q⟩
  rw [show envD 5 [encV n ps, .str [x], .str [y]] = [.imm (encV n ps), .imm (.str [x]), .imm (.str [y]), .no, .no] from rfl]
  have h8 := hv.len
  simp only [m_voters_for, wSs, wS, wE, wEs, frz, List.getElem?_cons_zero, List.getElem?_cons_succ, encV, sub_tup, atI1, onS_s]
  refine ⟨by simp [MG.slots, MG.slotss, notOwn], ?_⟩
  rw [onIt_t]
  refine wLC_pure (fun d => match d with | .tup [.str b, _] => befB b x y | _ => false) (fun d => match d with | .tup [_, t] => t | _ => .non) _ [] _ (by simp [encP]; omega) (fun d hd => ?_) ?_
  · obtain ⟨p, hp, rfl⟩ := List.mem_map.mp hd
    refine ⟨_, rfl, fun K k => ?_, fun _ K k => ?_⟩
    · simp only [wIfs, wE, wEs, MG.slots, MG.slotss, List.cons_append, List.nil_append, wipeD, List.set_cons_succ, List.set_cons_zero, List.getElem?_cons_zero, List.getElem?_cons_succ]
      have := bl_len hv p hp
      exact ⟨p.1, x, y, rfl, by omega, k⟩
    · simpa [wE, MG.slots, MG.slotss, wipeD] using k
  · rw [List.nil_append, encP_filter (fun p => befB p.1 x y) _ (fun p => rfl)]
    have e : ((encP (ps.filter fun p => befB p.1 x y)).map fun x => match x with | .tup [_, t] => t | _ => .non) = ((ps.filter fun p => befB p.1 x y).map fun p => ((p.2 : Nat) : Int)).map .int := by simp [encP, Function.comp_def]
    rw [e, sum_ints, sumN]
    exact q
theorem obl_preferring : ∀ ds Q X, S_preferring ds Q X → wSs m_preferring (envD 3 ds) (fun _ => Q .non) Q X := by
  rintro _ Q X ⟨n, ps, a, b, rfl, hv, ha, hb, q1, q2⟩
  rw [show envD 3 [encV n ps, a, b] = [.imm (encV n ps), .imm a, .imm b] from rfl]
  simp only [m_preferring, wSs, wS, wE, wEs, frz, List.getElem?_cons_zero, List.getElem?_cons_succ]
  refine ⟨_, rfl, sm_encV hv, fun _ => ?_, fun z => by rw [isVotes_enc hv] at z; cases z⟩
  refine ⟨n, ps, a, rfl, hv, ha, fun ca => ?_, fun ca => q2 (.inl ca)⟩
  refine ⟨n, ps, b, rfl, hv, hb, fun cb => ?_, fun cb => q2 (.inr (.inl cb))⟩
  obtain ⟨x, rfl, hx⟩ := isCand_of ca
  obtain ⟨y, rfl, hy⟩ := isCand_of cb
  simp only [c_eq, eqOk_f (x := .str _) (y := .str _) rfl rfl (.inl (by simp)), if_true, ev_str, onS_s, onB_b]
  by_cases e : x = y
  · subst e
    simpa using q2 (.inr (.inr rfl))
  · have : (([x] : List Nat) == [y]) = false := by simpa using e
    rw [this]
    simp only [if_false, Bool.false_eq_true]
    exact ⟨n, ps, x, y, rfl, hv, q1 x y rfl rfl hx hy e⟩
theorem obl_counts : ∀ ds Q X, S_counts ds Q X → wSs m_counts (envD 2 ds) (fun _ => Q .non) Q X := by
  rintro _ Q X ⟨n, ps, v, rfl, hv, hs, q1, q2⟩
  rw [show envD 2 [encV n ps, v] = [.imm (encV n ps), .imm v] from rfl]
  simp only [m_counts, wSs, wS, wE, wEs, frz, List.getElem?_cons_zero, List.getElem?_cons_succ]
  refine ⟨_, rfl, sm_encV hv, fun _ => ?_, fun z => by rw [isVotes_enc hv] at z; cases z⟩
  refine ⟨n, ps, rfl, hv.hi, v, _, rfl, hs, by simp [abc]; omega, ?_⟩
  simp only [onB_b]
  cases ha : areLetters v (abc.take n) with
  | false => simpa using q2 ha
  | true =>
    simp only [Bool.not_true, if_false, Bool.false_eq_true]
    cases v <;> simp only [areLetters] at ha <;> first
      | cases ha
      | skip
    rename_i s
    obtain ⟨_, h5, _, hnd, _⟩ := letS_len ha
    have h8 := hv.len
    simp only [encV, sub_tup, atI1, onS_s]
    refine ⟨ps, s, rfl, ⟨by omega, bl_len hv⟩, hnd, h5, ?_⟩
    exact q1 s rfl ha
/-! ### the counts -/
theorem putD_in {ks : List (List Nat)} {vs : List D} {x : List Nat} {d : D} (h : x ∈ ks) : putD ks vs x d = (ks, List.zipWith (fun k v => if k = x then d else v) ks vs) := if_pos h
theorem wDC_zero {ρ : DEnv} {tg : MG} {k v : DEnv → (D → Prop) → Prop} (f : D → List Nat) : ∀ (xs : List D) (ks : List (List Nat)) (vs : List D) (Q : List (List Nat) → List D → Prop), ks.length + xs.length < 16777216 → (ks ++ xs.map f).Nodup →
    (∀ x ∈ xs, ∃ ρ', asgG tg x ρ = some ρ' ∧ (∀ K : D → Prop, K (.str (f x)) → k ρ' K) ∧ (∀ K : D → Prop, K (.int 0) → v ρ' K)) → Q (ks ++ xs.map f) (vs ++ xs.map fun _ => .int 0) → wDC ρ tg k v xs ks vs Q
  | [], ks, vs, Q, _, _, _, q => by simpa [wDC] using q
  | x :: xs, ks, vs, Q, hl, hn, h, q => by
    obtain ⟨ρ', h1, h2, h3⟩ := h x (by simp)
    unfold wDC
    rw [h1]
    simp only [List.length_cons] at hl
    refine h2 _ (h3 _ ?_)
    have hx : f x ∉ ks := fun m => by
      rw [List.nodup_append] at hn
      exact hn.2.2 _ m _ (by simp) rfl
    have e : putD ks vs (f x) (.int 0) = (ks ++ [f x], vs ++ [.int 0]) := if_neg hx
    show ks.length < 16777216 ∧ wDC ρ tg k v xs (putD ks vs (f x) (.int 0)).1 (putD ks vs (f x) (.int 0)).2 Q
    rw [e]
    refine ⟨by omega, wDC_zero f xs _ _ Q (by simp; omega) (by simpa using hn) (fun y hy => h y (by simp [hy])) ?_⟩
    simpa using q
def sg (s : List Nat) : List (List Nat) := s.map fun c => [c]
theorem look_sg (g : Nat → D) : ∀ (s : List Nat) (c : Nat), c ∈ s → lookD (sg s) (s.map g) [c] = some (g c)
  | [], c, h => by cases h
  | d :: r, c, h => by
    show (if [d] = [c] then some (g d) else lookD (sg r) (r.map g) [c]) = _
    by_cases e : d = c
    · subst e; rw [if_pos rfl]
    · rw [if_neg (by simpa using e)]
      exact look_sg g r c ((List.mem_cons.mp h).resolve_left (fun z => e z.symm))
theorem zip_sg (g : Nat → D) (c : Nat) (d : D) : ∀ s : List Nat, List.zipWith (fun k v => if k = [c] then d else v) (sg s) (s.map g) = s.map fun x => if x = c then d else g x
  | [] => rfl
  | x :: r => by
    show (if [x] = [c] then d else g x) :: _ = _
    rw [List.map_cons, ← zip_sg g c d r]
    congr 1
    by_cases e : x = c <;> simp [e]
theorem cntC_snoc (ps : Ps) (p : List Nat × Nat) (s : List Nat) (c : Nat) : cntC (ps ++ [p]) s c = cntC ps s c + if fstIn p.1 s = some c then p.2 else 0 := by
  unfold cntC
  rw [List.filter_append, List.map_append, List.sum_append]
  congr 1
  by_cases h : fstIn p.1 s = some c <;> simp [h]
theorem obl_counts_of : ∀ ds Q X, S_counts_of ds Q X → wSs m_counts_of (envD 7 ds) (fun _ => Q .non) Q X := by
  rintro _ Q X ⟨ps, s, rfl, hp, hn, h5, q⟩
  rw [show envD 7 [.tup (encP ps), .str s] = [.imm (.tup (encP ps)), .imm (.str s), .no, .no, .no, .no, .no] from rfl]
  rw [m_counts_of, wSs, wS]
  simp only [wE, frz, List.getElem?_cons_zero, List.getElem?_cons_succ, MG.slots, wipeD, List.set_cons_succ, List.set_cons_zero]
  refine ⟨by simp [notOwn], ?_⟩
  rw [onIt_s]
  refine wDC_zero (fun d => match d with | .str k => k | _ => []) _ [] [] _ (by simp [chars]; omega) ?_ (fun d hd => ?_) ?_
  · have e : (chars s).map (fun d => match d with | .str k => k | _ => []) = sg s := by simp [chars, sg, Function.comp_def]
    rw [List.nil_append, e]
    exact (nd_chars s).mpr hn
  · simp only [chars, List.mem_map] at hd
    obtain ⟨c, _, rfl⟩ := hd
    refine ⟨_, rfl, fun K k => ?_, fun K k => k⟩
    simpa using k
  have e1 : (chars s).map (fun d => match d with | .str k => k | _ => []) = sg s := by simp [chars, sg, Function.comp_def]
  have e2 : (chars s).map (fun _ => D.int 0) = s.map fun c => .int (cntC [] s c : Nat) := by simp [chars, cntC, Function.comp_def]
  rw [List.nil_append, List.nil_append, e1, e2]
  rw [show ∀ e : ME, e.fresh = true → ∀ k v, slotOf e (.dic k v) = .own (.dic k v) from fun e h k v => by simp [slotOf, h, D.isBox]]
  · rw [wSs, wS]
    simp only [wE, frz, List.set_cons_succ, List.set_cons_zero, List.getElem?_cons_zero, List.getElem?_cons_succ]
    rw [onIt_t]
    refine wLoop_inv (fun i ρ => ∃ a b c, ρ = [.imm (.tup (encP ps)), .imm (.str s), .own (.dic (sg s) (s.map fun c => .int (cntC (ps.take i) s c : Nat))), a, b, c, .no]) _ 0 _ ⟨_, _, _, rfl⟩ (fun i d ρ K hx ⟨a, b, c, e⟩ hK => ?_) fun ρ ⟨a, b, c, e⟩ => ?_
    · subst e
      rw [Nat.zero_add] at hK ⊢
      unfold encP at hx
      rw [List.getElem?_map] at hx
      obtain ⟨p, hp1, hp2⟩ := Option.map_eq_some_iff.mp hx
      subst hp2
      have hmem := List.mem_of_getElem? hp1
      have hb5 := hp.bl p hmem
      have htk : ps.take (i + 1) = ps.take i ++ [p] := by
        rw [List.take_succ, hp1]; rfl
      simp only [asgG, asgGs, Option.bind_some, onS_s, List.set_cons_succ, List.set_cons_zero]
      rw [wSs, wS]
      simp only [wE, frz, List.getElem?_cons_zero, List.getElem?_cons_succ, MG.slots, wipeD, List.set_cons_succ, List.set_cons_zero]
      refine ⟨by simp [notOwn], ?_⟩
      rw [onIt_s]
      refine wLC_pure (fun d => match d with | .str [c] => decide (c ∈ s) | _ => false) id _ [] _ (by simp [chars]; omega) (fun d hd => ?_) ?_
      · simp only [chars, List.mem_map] at hd
        obtain ⟨c0, _, rfl⟩ := hd
        refine ⟨_, rfl, fun K k => ?_, fun _ K k => ?_⟩
        · simpa [wIfs, wE] using k
        · simpa [wE] using k
      have ef : (chars p.1).filter (fun d => match d with | .str [c] => decide (c ∈ s) | _ => false) = chars (p.1.filter fun c => decide (c ∈ s)) := by
        unfold chars; rw [List.filter_map]; rfl
      rw [List.nil_append, ef, List.map_id, slot_new rfl, wSs, wS]
      simp only [wE, wEs, frz, List.getElem?_cons_zero, List.getElem?_cons_succ, List.set_cons_succ, List.set_cons_zero, List.length_nil]
      refine ⟨by simp, ?_⟩
      have hpl : ∀ l : List Nat, D.pls (chars l) = true := fun l => by
        induction l with
        | nil => rfl
        | cons x r ih => simpa [chars] using ih
      rw [c_ne, eqOk_f (by simpa using hpl _) rfl (.inr (by simp)), if_pos rfl]
      simp only [onS_s, onB_b, ev_lst]
      cases hf : p.1.filter fun c => decide (c ∈ s) with
      | nil =>
        have hfst : fstIn p.1 s = none := by unfold fstIn; rw [hf]; rfl
        show (if (!D.eqvs (chars []) []) = true then _ else _)
        rw [if_neg (by decide)]
        rw [wSs, wSs]
        have em : ∀ c, cntC (ps.take (i + 1)) s c = cntC (ps.take i) s c := fun c => by
          rw [htk, cntC_snoc, hfst, if_neg (by simp), Nat.add_zero]
        refine hK _ ⟨.imm (.str p.1), .imm (.int p.2), .own (.lst (chars [])), ?_⟩
        simp only [em]
      | cons c0 r0 =>
        have hfst : fstIn p.1 s = some c0 := by unfold fstIn; rw [hf]; rfl
        have hc0 : c0 ∈ s := by
          have : c0 ∈ p.1.filter fun c => decide (c ∈ s) := by rw [hf]; simp
          simpa using (List.mem_filter.mp this).2
        have he : D.eqvs (chars (c0 :: r0)) [] = false := rfl
        rw [he]
        simp only [Bool.not_false, if_true]
        rw [wSs, wS]
        simp only [wE, frz, List.getElem?_cons_zero, List.getElem?_cons_succ, sub_lst]
        rw [show atI (chars (c0 :: r0)) 0 = some (.str [c0]) from atI0 _ _]
        simp only [onS_s]
        rw [look_sg (fun c => .int (cntC (ps.take i) s c : Nat)) s c0 hc0]
        simp only []
        refine ⟨by simp [sg]; omega, ?_⟩
        rw [putD_in (by simp [sg, hc0]), zip_sg]
        simp only [List.set_cons_succ, List.set_cons_zero]
        rw [wSs, wSs]
        refine hK _ ⟨.imm (.str p.1), .imm (.int p.2), .own (.lst (chars (c0 :: r0))), ?_⟩
        rw [htk]
        have em : (s.map fun x => if x = c0 then D.int ((cntC (ps.take i) s c0 : Nat) + (p.2 : Nat)) else .int (cntC (ps.take i) s x : Nat)) = s.map fun c => .int (cntC (ps.take i ++ [p]) s c : Nat) := by
          apply List.map_congr_left
          intro x _
          rw [cntC_snoc, hfst]
          by_cases e : x = c0
          · subst e
            simp
          · rw [if_neg e, if_neg (fun z => e (Option.some.inj z).symm)]
            simp
        rw [em]
    · subst e
      rw [Nat.zero_add, show (encP ps).length = ps.length by simp [encP], List.take_length]
      rw [wSs, wS]
      simp only [wE, frz, List.getElem?_cons_zero, List.getElem?_cons_succ, MG.slots, wipeD, List.set_cons_succ, List.set_cons_zero]
      refine ⟨by simp [notOwn], ?_⟩
      rw [onIt_s]
      refine wLC_map (fun d => match d with | .str [c] => .int (cntC ps s c : Nat) | _ => .non) _ _ (by simp [chars]; omega) (fun d hd => ?_) ?_
      · simp only [chars, List.mem_map] at hd
        obtain ⟨c0, hc0, rfl⟩ := hd
        refine ⟨_, rfl, fun K k => ?_⟩
        show onS (lookD (sg s) _ [c0]) K
        rw [look_sg (fun c => .int (cntC ps s c : Nat)) s c0 hc0]
        exact k
      · have e3 : (chars s).map (fun d => match d with | .str [c] => D.int (cntC ps s c : Nat) | _ => .non) = cnts ps s := by simp [chars, cnts, Function.comp_def]
        rw [e3]; exact q
  · rfl
end PV

set_option Elab.async false
set_option linter.all false
set_option maxRecDepth 100000
set_option maxHeartbeats 4000000
/-! PVt: pairs counted both ways. -/
namespace PV
open DL L2
theorem idx_get {s : List Nat} {c i : Nat} (h : idxL s c = some i) : s[i]? = some c := by
  unfold idxL at h
  rw [List.findIdx?_eq_some_iff_getElem] at h
  obtain ⟨hl, h1, h2⟩ := h
  rw [List.getElem?_eq_getElem hl]; simpa using h1
theorem idx_mem {s : List Nat} {c i : Nat} (h : idxL s c = some i) : c ∈ s := List.mem_of_getElem? (idx_get h)
theorem bef_or (b : List Nat) {x y : Nat} (h : x ≠ y) : (befB b x y = true ∧ befB b y x = false ∧ (decide (x ∈ b) || decide (y ∈ b)) = true) ∨ (befB b x y = false ∧ befB b y x = true ∧ (decide (x ∈ b) || decide (y ∈ b)) = true) ∨ (befB b x y = false ∧ befB b y x = false ∧ (decide (x ∈ b) || decide (y ∈ b)) = false) := by
  unfold befB
  cases hx : idxL b x with
  | none =>
    have nx := idxL_none.mp hx
    cases hy : idxL b y with
    | none =>
      have ny := idxL_none.mp hy
      exact .inr (.inr ⟨rfl, rfl, by simp [nx, ny]⟩)
    | some j => exact .inr (.inl ⟨rfl, rfl, by simp [idx_mem hy]⟩)
  | some i =>
    cases hy : idxL b y with
    | none => exact .inl ⟨rfl, rfl, by simp [idx_mem hx]⟩
    | some j =>
      have ne : i ≠ j := fun e => by
        have h1 := idx_get hx
        have h2 := idx_get hy
        rw [e, h2] at h1
        exact h (Option.some.inj h1).symm
      rcases Nat.lt_or_gt_of_ne ne with z | z
      · exact .inl ⟨by simpa using z, by simp; omega, by simp [idx_mem hx]⟩
      · exact .inr (.inl ⟨by simp; omega, by simpa using z, by simp [idx_mem hx]⟩)
/-- all who name one of the two -/
def whF (ps : Ps) (x y : Nat) : Nat := ((ps.filter fun p => decide (x ∈ p.1) || decide (y ∈ p.1)).map (·.2)).sum
theorem vF_sum (ps : Ps) {x y : Nat} (h : x ≠ y) : vFor ps x y + vFor ps y x = whF ps x y := by
  unfold vFor whF
  induction ps with
  | nil => rfl
  | cons p r ih =>
    rcases bef_or p.1 h with ⟨h1, h2, h3⟩ | ⟨h1, h2, h3⟩ | ⟨h1, h2, h3⟩
    all_goals
      simp only [List.filter_cons, h1, h2, h3, if_true, if_false, Bool.false_eq_true, List.map_cons, List.sum_cons]
      omega
theorem idx_cons (c x : Nat) (r : List Nat) : idxL (c :: r) x = if c = x then some 0 else (idxL r x).map (· + 1) := by
  unfold idxL
  rw [List.findIdx?_cons]
  by_cases e : c = x <;> simp [e]
theorem fst_bef {x y : Nat} (h : x ≠ y) (s : List Nat) (hs : ∀ c, c ∈ s ↔ c = x ∨ c = y) : ∀ b : List Nat, decide (fstIn b s = some x) = befB b x y
  | [] => by simp [fstIn, befB, idxL]
  | c :: r => by
    have ih := fst_bef h s hs r
    by_cases e1 : c = x
    · subst e1
      have hf : fstIn (c :: r) s = some c := by unfold fstIn; rw [List.filter_cons_of_pos (by simp [hs])]; rfl
      unfold befB
      rw [hf, idx_cons, if_pos rfl, idx_cons, if_neg h]
      cases idxL r y <;> simp
    · by_cases e2 : c = y
      · subst e2
        have hf : fstIn (c :: r) s = some c := by unfold fstIn; rw [List.filter_cons_of_pos (by simp [hs])]; rfl
        unfold befB
        rw [hf, idx_cons, if_neg e1, idx_cons, if_pos rfl]
        cases idxL r x <;> simp [e1]
      · have hf : fstIn (c :: r) s = fstIn r s := by unfold fstIn; rw [List.filter_cons_of_neg (by simp [hs, e1, e2])]
        rw [hf, ih]
        unfold befB
        rw [idx_cons, if_neg e1, idx_cons, if_neg e2]
        cases idxL r x <;> cases idxL r y <;> simp
theorem cnt_pair (ps : Ps) {x y : Nat} (h : x ≠ y) : cnts ps [x, y] = [.int (vFor ps x y : Nat), .int (vFor ps y x : Nat)] := by
  have e1 : cntC ps [x, y] x = vFor ps x y := by
    unfold cntC vFor
    simp only [fst_bef h [x, y] (by simp)]
  have e2 : cntC ps [x, y] y = vFor ps y x := by
    unfold cntC vFor
    simp only [fst_bef h.symm [x, y] (by simp [or_comm])]
  simp [cnts, e1, e2]
theorem mem_chars {s : List Nat} {d : D} (h : d ∈ chars s) : ∃ c, c ∈ s ∧ d = .str [c] := by
  simp only [chars, List.mem_map] at h
  obtain ⟨c, hc, rfl⟩ := h
  exact ⟨c, hc, rfl⟩
end PV

set_option Elab.async false
set_option linter.all false
set_option maxRecDepth 100000
set_option maxHeartbeats 4000000
/-! PVu: the law's own counts; sums of counts. -/
namespace PV
open DL L2
theorem idx_map (g : Nat → D) : ∀ (s : List Nat) (c i : Nat), s.Nodup → idxL s c = some i → i < s.length ∧ (s.map g)[i]? = some (g c) ∧ ∀ d : D, (s.map g).set i d = s.map fun x => if x = c then d else g x
  | [], c, i, _, h => by cases h
  | x :: r, c, i, hn, h => by
    rw [idx_cons] at h
    rw [List.nodup_cons] at hn
    by_cases e : x = c
    · subst e
      rw [if_pos rfl] at h
      cases h
      refine ⟨by simp, by simp, fun d => ?_⟩
      simp only [List.map_cons, List.set_cons_zero, if_true]
      congr 1
      apply List.map_congr_left
      intro y hy
      rw [if_neg (fun z => hn.1 (by rw [← z]; exact hy))]
    · rw [if_neg e] at h
      cases hj : idxL r c with
      | none => rw [hj] at h; cases h
      | some j =>
        rw [hj] at h
        cases h
        obtain ⟨h1, h2, h3⟩ := idx_map g r c j hn.2 hj
        refine ⟨by simp; omega, by simpa using h2, fun d => ?_⟩
        simp only [List.map_cons, List.set_cons_succ, h3 d, if_neg e]
theorem idx_some {s : List Nat} {c : Nat} (h : c ∈ s) : ∃ i, idxL s c = some i := by
  cases hi : idxL s c with
  | none => exact absurd h (idxL_none.mp hi)
  | some i => exact ⟨i, rfl⟩
theorem atI_n {α : Type} {xs : List α} {i : Nat} {d : α} (h : xs[i]? = some d) : atI xs (i : Int) = some d := atI_nat h
theorem ixN_n {n i : Nat} (h : i < n) : ixN n (i : Int) = some i := by
  have h2 : (List.range n)[i]? = some i := by rw [List.getElem?_range h]
  have h3 := atI_n h2
  unfold atI at h3
  rw [List.length_range] at h3
  cases e : ixN n (i : Int) with
  | none => rw [e] at h3; cases h3
  | some j =>
    rw [e] at h3
    have h3 : (List.range n)[j]? = some i := h3
    by_cases hj : j < n
    · rw [List.getElem?_range hj] at h3; exact h3
    · rw [List.getElem?_eq_none (by simpa using hj)] at h3; cases h3
theorem rep_zero (k : Nat) : (List.replicate k [D.int 0]).flatten = List.replicate k (.int 0) := by
  induction k with
  | zero => rfl
  | succ k ih => rw [List.replicate_succ, List.replicate_succ, List.flatten_cons, ih]; rfl
theorem chars_pls (l : List Nat) : D.pls (chars l) = true := by
  induction l with
  | nil => rfl
  | cons x r ih => simpa [chars] using ih
theorem obl__law_counts : ∀ ds Q X, S__law_counts ds Q X → wSs m__law_counts (envD 7 ds) (fun _ => Q .non) Q X := by
  rintro _ Q X ⟨dd, ps, s, rfl, hdd, hp, hn, h5, q⟩
  have hit : ∀ F : List D → Prop, onIt F dd = F (encP ps) := fun F => by rcases hdd with rfl | rfl <;> rfl
  rw [show envD 7 [dd, .str s] = [.imm dd, .imm (.str s), .no, .no, .no, .no, .no] from rfl]
  rw [m__law_counts, wSs, wS]
  simp only [wE, wEs, frz, List.getElem?_cons_zero, List.getElem?_cons_succ, List.length_cons, List.length_nil, Nat.reduceAdd, Nat.reduceLeDiff, true_and]
  rw [len_str s (by omega), onS_s]
  have em : binD .mul (.lst [.int 0]) (.int s.length) = some (.lst (s.map fun c => .int (cntC [] s c : Nat))) := by
    simp only [binD]
    rw [if_pos (by simp; omega), Int.toNat_natCast, rep_zero]
    congr 2
    apply List.ext_getElem
    · simp
    · intro i h1 h2
      simp [cntC]
  rw [em, onS_s, slot_new rfl, wSs, wS]
  simp only [wE, frz, List.set_cons_succ, List.set_cons_zero, List.getElem?_cons_zero, List.getElem?_cons_succ]
  rw [hit]
  refine wLoop_inv (fun i ρ => ∃ a b c, ρ = [.imm dd, .imm (.str s), .own (.lst (s.map fun c => .int (cntC (ps.take i) s c : Nat))), a, b, c, .no]) _ 0 _ ⟨_, _, _, rfl⟩ (fun i d ρ K hx ⟨a, b, c, e⟩ hK => ?_) fun ρ ⟨a, b, c, e⟩ => ?_
  · subst e
    rw [Nat.zero_add] at hK ⊢
    unfold encP at hx
    rw [List.getElem?_map] at hx
    obtain ⟨p, hp1, hp2⟩ := Option.map_eq_some_iff.mp hx
    subst hp2
    have hmem := List.mem_of_getElem? hp1
    have hb5 := hp.bl p hmem
    have htk : ps.take (i + 1) = ps.take i ++ [p] := by
      rw [List.take_succ, hp1]; rfl
    simp only [asgG, asgGs, Option.bind_some, onS_s, List.set_cons_succ, List.set_cons_zero]
    rw [wSs, wS]
    simp only [wE, frz, List.getElem?_cons_zero, List.getElem?_cons_succ, MG.slots, wipeD, List.set_cons_succ, List.set_cons_zero]
    refine ⟨by simp [notOwn], ?_⟩
    rw [onIt_s]
    refine wLC_pure (fun d => match d with | .str [c] => decide (c ∈ s) | _ => false) id _ [] _ (by simp [chars]; omega) (fun d hd => ?_) ?_
    · obtain ⟨c0, _, rfl⟩ := mem_chars hd
      refine ⟨_, rfl, fun K k => ?_, fun _ K k => ?_⟩
      · simpa [wIfs, wE] using k
      · simpa [wE] using k
    have ef : (chars p.1).filter (fun d => match d with | .str [c] => decide (c ∈ s) | _ => false) = chars (p.1.filter fun c => decide (c ∈ s)) := by
      unfold chars; rw [List.filter_map]; rfl
    rw [List.nil_append, ef, List.map_id, slot_new rfl, wSs, wS]
    simp only [wE, wEs, frz, List.getElem?_cons_zero, List.getElem?_cons_succ, List.set_cons_succ, List.set_cons_zero, List.length_nil]
    refine ⟨by simp, ?_⟩
    rw [c_ne, eqOk_f (by simpa using chars_pls _) rfl (.inr (by simp)), if_pos rfl]
    simp only [onS_s, onB_b, ev_lst]
    cases hf : p.1.filter fun c => decide (c ∈ s) with
    | nil =>
      have hfst : fstIn p.1 s = none := by unfold fstIn; rw [hf]; rfl
      show (if (!D.eqvs (chars []) []) = true then _ else _)
      rw [if_neg (by decide), wSs, wSs]
      have em : ∀ c, cntC (ps.take (i + 1)) s c = cntC (ps.take i) s c := fun c => by
        rw [htk, cntC_snoc, hfst, if_neg (by simp), Nat.add_zero]
      refine hK _ ⟨.imm (.str p.1), .imm (.int p.2), .own (.lst (chars [])), ?_⟩
      simp only [em]
    | cons c0 r0 =>
      have hfst : fstIn p.1 s = some c0 := by unfold fstIn; rw [hf]; rfl
      have hc0 : c0 ∈ s := by
        have : c0 ∈ p.1.filter fun c => decide (c ∈ s) := by rw [hf]; simp
        simpa using (List.mem_filter.mp this).2
      have he : D.eqvs (chars (c0 :: r0)) [] = false := rfl
      obtain ⟨j, hj⟩ := idx_some hc0
      obtain ⟨j1, j2, j3⟩ := idx_map (fun c => .int (cntC (ps.take i) s c : Nat)) s c0 j hn hj
      rw [he]
      simp only [Bool.not_false, if_true]
      rw [wSs, wS]
      simp only [wE, frz, List.getElem?_cons_zero, List.getElem?_cons_succ, sub_lst, b2T, true_and]
      rw [show atI (chars (c0 :: r0)) 0 = some (.str [c0]) from atI0 _ _]
      simp only [onS_s, ixTxt, hj, Option.map_some, sub_lst, atI_n j2, a_int]
      rw [List.length_map, ixN_n j1]
      simp only [onS_s, j3, List.set_cons_succ, List.set_cons_zero]
      rw [wSs, wSs]
      refine hK _ ⟨.imm (.str p.1), .imm (.int p.2), .own (.lst (chars (c0 :: r0))), ?_⟩
      rw [htk]
      have em : (s.map fun x => if x = c0 then D.int ((cntC (ps.take i) s c0 : Nat) + (p.2 : Nat)) else .int (cntC (ps.take i) s x : Nat)) = s.map fun c => .int (cntC (ps.take i ++ [p]) s c : Nat) := by
        apply List.map_congr_left
        intro x _
        rw [cntC_snoc, hfst]
        by_cases e : x = c0
        · subst e
          simp
        · rw [if_neg e, if_neg (fun z => e (Option.some.inj z).symm)]
          simp
      rw [em]
  · subst e
    rw [Nat.zero_add, show (encP ps).length = ps.length by simp [encP], List.take_length]
    rw [wSs, wS]
    exact q
/-! ### sums of counts -/
theorem sum_at (t : Nat) : ∀ (s : List Nat) (c : Nat), s.Nodup → (s.map fun x => if some c = some x then t else 0).sum = if c ∈ s then t else 0
  | [], _, _ => rfl
  | x :: r, c, h => by
    rw [List.nodup_cons] at h
    rw [List.map_cons, List.sum_cons, sum_at t r c h.2]
    by_cases e : c = x
    · subst e; simp [h.1]
    · simp [e]
theorem fst_mem {b s : List Nat} {c : Nat} (h : fstIn b s = some c) : c ∈ s := by
  unfold fstIn at h
  have := List.mem_of_head? h
  simpa using (List.mem_filter.mp this).2
/-- the sum of all counts: the voters whose ballot names one -/
theorem cnt_sum {s : List Nat} (hn : s.Nodup) : ∀ ps : Ps, (s.map fun c => cntC ps s c).sum = ((ps.filter fun p => (fstIn p.1 s).isSome).map (·.2)).sum
  | [] => by
    have : (s.map fun c => cntC [] s c) = List.replicate s.length 0 := by
      apply List.ext_getElem <;> simp [cntC]
    rw [this]; simp
  | p :: r => by
    have ih := cnt_sum hn r
    have e : ∀ c, cntC (p :: r) s c = (if fstIn p.1 s = some c then p.2 else 0) + cntC r s c := fun c => by
      unfold cntC
      by_cases h : fstIn p.1 s = some c <;> simp [h]
    have add : ∀ (l : List Nat) (f g : Nat → Nat), (l.map fun c => f c + g c).sum = (l.map f).sum + (l.map g).sum := fun l f g => by
      induction l with
      | nil => rfl
      | cons x r ih => simp only [List.map_cons, List.sum_cons, ih]; omega
    simp only [e, add, ih]
    cases hf : fstIn p.1 s with
    | none =>
      have z : ∀ l : List Nat, (l.map fun _ => 0).sum = 0 := fun l => by
        induction l with
        | nil => rfl
        | cons x r ih2 => rw [List.map_cons, List.sum_cons, ih2]
      simp [hf, z]
    | some c =>
      rw [sum_at p.2 s c hn, if_pos (fst_mem hf)]
      simp [hf]
theorem cnt_le {s : List Nat} (hn : s.Nodup) (ps : Ps) : (s.map fun c => cntC ps s c).sum ≤ (ps.map (·.2)).sum := by
  rw [cnt_sum hn]
  induction ps with
  | nil => exact Nat.le_refl _
  | cons p r ih =>
    rw [List.filter_cons]
    split
    · simp only [List.map_cons, List.sum_cons]; omega
    · simp only [List.map_cons, List.sum_cons]; omega
theorem cnt_all {n : Nat} {ps : Ps} (hv : Val n ps) : ((abc.take n).map fun c => cntC ps (abc.take n) c).sum = (ps.map (·.2)).sum := by
  have hn : (abc.take n).Nodup := abc_nd.sublist (List.take_sublist _ _)
  rw [cnt_sum hn, List.filter_eq_self.mpr]
  intro p hp
  obtain ⟨_, _, h1, _, h2⟩ := letS_len (hv.bl p hp).1
  cases hb : p.1 with
  | nil => exact absurd hb h1
  | cons c r =>
    have : c ∈ abc.take n := h2 c (by rw [hb]; simp)
    unfold fstIn
    rw [List.filter_cons_of_pos (by simpa using this)]
    rfl
theorem fst_sub {r s : List Nat} {c : Nat} (h : ∀ x ∈ r, x ∈ s) (hc : c ∈ r) : ∀ b : List Nat, fstIn b s = some c → fstIn b r = some c
  | [], e => by simp [fstIn] at e
  | d :: b, e => by
    have ih := fst_sub h hc b
    unfold fstIn at e ih ⊢
    by_cases hd : d ∈ s
    · rw [List.filter_cons_of_pos (by simpa using hd)] at e
      have : d = c := by simpa using e
      subst this
      rw [List.filter_cons_of_pos (by simpa using hc)]; rfl
    · rw [List.filter_cons_of_neg (by simpa using hd)] at e
      rw [List.filter_cons_of_neg (by simpa using fun z => hd (h d z))]
      exact ih e
theorem cnt_mono {r s : List Nat} {c : Nat} (h : ∀ x ∈ r, x ∈ s) (hc : c ∈ r) (ps : Ps) : cntC ps s c ≤ cntC ps r c := by
  unfold cntC
  induction ps with
  | nil => exact Nat.le_refl _
  | cons p q ih =>
    have k := fst_sub h hc p.1
    by_cases e : fstIn p.1 s = some c
    · simp only [List.filter_cons, e, k e, decide_true, if_true, List.map_cons, List.sum_cons]; omega
    · rw [List.filter_cons_of_neg (by simpa using e), List.filter_cons]
      split
      · simp only [List.map_cons, List.sum_cons]; omega
      · exact ih
theorem cnts_rev (ps : Ps) (s : List Nat) : cnts ps s.reverse = (cnts ps s).reverse := by
  have e : ∀ c, cntC ps s.reverse c = cntC ps s c := fun c => by
    have : ∀ b, fstIn b s.reverse = fstIn b s := fun b => by simp [fstIn]
    simp [cntC, this]
  unfold cnts
  rw [List.map_reverse]
  simp [e]
theorem cnts_ints (ps : Ps) (s : List Nat) : cnts ps s = (s.map fun c => ((cntC ps s c : Nat) : Int)).map .int := by simp [cnts, Function.comp_def]
theorem ints_pls (l : List Int) : D.pls (l.map .int) = true := by
  induction l with
  | nil => rfl
  | cons x r ih => simpa using ih
theorem ints_evs (l : List Int) : D.eqvs (l.map .int) (l.map .int) = true := by
  induction l with
  | nil => rfl
  | cons x r ih => simpa using ih
theorem ints_dep (l : List Int) : D.deps (l.map .int) = 0 := by
  induction l with
  | nil => rfl
  | cons x r ih => simpa using ih
theorem cnts_pls (ps : Ps) (s : List Nat) : D.pls (cnts ps s) = true := by rw [cnts_ints]; exact ints_pls _
theorem cnts_evs (ps : Ps) (s : List Nat) : D.eqvs (cnts ps s) (cnts ps s) = true := by rw [cnts_ints]; exact ints_evs _
theorem cnts_dep (ps : Ps) (s : List Nat) : D.deps (cnts ps s) = 0 := by rw [cnts_ints]; exact ints_dep _
theorem sum_tupI (ns : List Int) : b1D .sum (.tup (ns.map .int)) = some (.int ns.sum) := by
  have := sum_ints ns
  simpa [b1D] using this
theorem sumI (l : List Nat) (f : Nat → Nat) : (l.map fun c => ((f c : Nat) : Int)).sum = (((l.map f).sum : Nat) : Int) := by
  induction l with
  | nil => rfl
  | cons p r ih => simp [ih]
theorem cnts_sum (ps : Ps) (s : List Nat) : b1D .sum (.tup (cnts ps s)) = some (.int (((s.map fun c => cntC ps s c).sum : Nat) : Int)) := by
  rw [cnts_ints, sum_tupI, sumI]
end PV

set_option Elab.async false
set_option linter.all false
set_option maxRecDepth 100000
set_option maxHeartbeats 4000000
/-! PVv: votes with more, votes renamed: what the forms answer. -/
namespace PV
open DL L2
theorem obl_need_ballot : ∀ ds Q X, S_need_ballot ds Q X → wSs m_need_ballot (envD 2 ds) (fun _ => Q .non) Q X := by
  rintro _ Q X ⟨n, v, rfl, hn, hs, q1, q2⟩
  rw [show envD 2 [.int n, v] = [.imm (.int n), .imm v] from rfl]
  simp only [m_need_ballot, wSs, wS, wE, wEs, frz, List.getElem?_cons_zero, List.getElem?_cons_succ, ME.isNop, onP_t, onP_f, onI_i, slD]
  rw [if_pos (by decide)]
  simp only [onS_s]
  rw [show cutL [97, 98, 99, 100, 101] none (some (n : Int)) = abc.take n from cut_abc hn]
  refine ⟨v, _, rfl, hs, by simp [abc]; omega, ?_⟩
  simp only [onB_b]
  cases h : areLetters v (abc.take n) with
  | true => simpa using q1 h
  | false => simpa using q2 h
theorem obl_need_times : ∀ ds Q X, S_need_times ds Q X → wSs m_need_times (envD 1 ds) (fun _ => Q .non) Q X := by
  rintro _ Q X ⟨v, rfl, hs, q1, q2⟩
  rw [show envD 1 [v] = [.imm v] from rfl]
  simp only [m_need_times, wSs, wS, wE, wEs, frz, List.getElem?_cons_zero, List.getElem?_cons_succ]
  refine ⟨v, 1, 20, rfl, hs, ?_⟩
  simp only [onB_b]
  cases h : isWhole v 1 20 with
  | true => simpa using q1 h
  | false => simpa using q2 h
theorem encP_app (a b : Ps) : encP (a ++ b) = encP a ++ encP b := by simp [encP]
theorem many_gt (qs : Ps) : ((encP qs).map fun d => match d with | .tup [_, .int t] => D.bl (decide ((20 : Int) < t)) | _ => .non) = (qs.map fun p => decide (20 < p.2)).map .bl := by
  simp only [encP, List.map_map, Function.comp_def]
  apply List.map_congr_left
  intro p _
  congr 1
  rw [Bool.eq_iff_iff, decide_eq_true_iff, decide_eq_true_iff]; omega
theorem fits_not (qs : Ps) : (decide (8 < qs.length) || (qs.map fun p => decide (20 < p.2)).any id) = !fits qs := by
  unfold fits
  rw [Bool.not_and]
  congr 1
  · rw [Bool.eq_iff_iff]; simp
  · rw [List.any_map, List.not_all_eq_any_not]
    congr 1
    funext p
    simp only [Function.comp, id]
    rw [Bool.eq_iff_iff]; simp
def NO (x : Slot) : Prop := ∀ d, x ≠ .own d
theorem NO.ok {x : Slot} (h : NO x) : (match some x with | some (.own _) => false | _ => true) = true := by
  cases x with
  | own d => exact (h d rfl).elim
  | _ => rfl
theorem obl_with_more : ∀ ds Q X, S_with_more ds Q X → wSs m_with_more (envD 7 ds) (fun _ => Q .non) Q X := by
  rintro _ Q X ⟨ps, b, t, rfl, h8, q1, q2⟩
  rw [show envD 7 [.tup (encP ps), .str b, .int t] = [.imm (.tup (encP ps)), .imm (.str b), .imm (.int t), .no, .no, .no, .no] from rfl]
  rw [m_with_more, wSs, wS]
  simp only [wE, wEs, frz, List.length_nil]
  refine ⟨by decide, ?_⟩
  rw [slot_new rfl, slot_bl, wSs, wS]
  simp only [wE, frz, List.set_cons_succ, List.set_cons_zero, List.getElem?_cons_zero, List.getElem?_cons_succ]
  rw [onIt_t]
  let f : List Nat × Nat → List Nat × Nat := fun p => if p.1 = b then (p.1, p.2 + t) else p
  refine wLoop_inv (fun i ρ => ∃ x y, NO x ∧ NO y ∧ ρ = [.imm (.tup (encP ps)), .imm (.str b), .imm (.int t), .own (.lst (encP ((ps.take i).map f))), .imm (.bl (decide (b ∈ (ps.take i).map (·.1)))), x, y]) _ 0 _ ⟨.no, .no, (fun _ z => nomatch z), (fun _ z => nomatch z), rfl⟩ (fun i d ρ K hx ⟨x, y, nx, ny, e⟩ hK => ?_) fun ρ ⟨x, y, nx, ny, e⟩ => ?_
  · subst e
    rw [Nat.zero_add] at hK ⊢
    unfold encP at hx
    rw [List.getElem?_map] at hx
    obtain ⟨p, hp1, hp2⟩ := Option.map_eq_some_iff.mp hx
    subst hp2
    have hil := lt_of_get' hp1
    have htk : ps.take (i + 1) = ps.take i ++ [p] := by
      rw [List.take_succ, hp1]; rfl
    have hlen : ((ps.take i).map f).length ≤ 8 := by simp; omega
    simp only [asgG, asgGs, Option.bind_some, onS_s, List.set_cons_succ, List.set_cons_zero]
    rw [wSs, wS]
    simp only [wE, frz, List.getElem?_cons_zero, List.getElem?_cons_succ, c_eq, eqOk_f (x := .str _) (y := .str _) rfl rfl (.inl (by simp)), if_true, ev_str, onS_s, onB_b]
    by_cases e : p.1 = b
    · rw [show (p.1 == b) = true from by simpa using e]
      simp only [if_true]
      rw [wSs, wS]
      simp only [wE, frz, List.getElem?_cons_zero, List.getElem?_cons_succ, a_int, onS_s, slot_bl, slot_int, List.set_cons_succ, List.set_cons_zero]
      rw [wSs, wSs, wS]
      simp only [wE, wEs, frz, frz1, Slot.frz, List.getElem?_cons_zero, List.getElem?_cons_succ, List.length_cons, List.length_nil]
      refine ⟨by decide, by simp [encP]; omega, ?_⟩
      simp only [List.set_cons_succ, List.set_cons_zero]
      rw [wSs]
      refine hK _ ⟨.imm (.str p.1), .imm (.int (p.2 + t)), (fun _ z => nomatch z), (fun _ z => nomatch z), ?_⟩
      rw [htk, List.map_append, List.map_append, encP_app]
      have e2 : encP [f p] = [.tup [.str p.1, .int ((p.2 : Nat) + (t : Nat))]] := by simp [encP, f, e]
      rw [List.map_singleton, e2, List.map_singleton]
      simp [e]
    · rw [show (p.1 == b) = false from by simpa using e]
      simp only [if_false, Bool.false_eq_true]
      rw [wSs, wSs, wS]
      simp only [wE, wEs, frz, frz1, Slot.frz, List.getElem?_cons_zero, List.getElem?_cons_succ, List.length_cons, List.length_nil]
      refine ⟨by decide, by simp [encP]; omega, ?_⟩
      simp only [List.set_cons_succ, List.set_cons_zero]
      rw [wSs]
      refine hK _ ⟨.imm (.str p.1), .imm (.int p.2), (fun _ z => nomatch z), (fun _ z => nomatch z), ?_⟩
      rw [htk, List.map_append, List.map_append, encP_app]
      have e2 : encP [f p] = [.tup [.str p.1, .int (p.2 : Nat)]] := by simp [encP, f, e]
      have e3 : ¬ b = p.1 := fun z => e z.symm
      rw [List.map_singleton, e2, List.map_singleton]
      simp [e3]
  · subst e
    rw [Nat.zero_add, show (encP ps).length = ps.length by simp [encP], List.take_length]
    have fin : ∀ (qs : Ps) (z : Slot), qs = wmore ps b t → wSs [.ifs (.or (.cmp .gt (.b1 .len (.peek 3)) (.con (.int 8))) (.b1 .any (.lc (.tp [.nm 5, .nm 6]) (.peek 3) [] (.cmp .gt (.peek 6) (.con (.int 20)))))) [.raise 8] [], .ret [] (.b1 .tuple (.peek 3))] [.imm (.tup (encP ps)), .imm (.str b), .imm (.int t), .own (.lst (encP qs)), z, x, y] (fun _ => Q .non) Q X := by
      intro qs z hq
      have hl9 : qs.length ≤ 9 := by
        rw [hq]; unfold wmore; split <;> simp <;> omega
      rw [wSs, wS]
      simp only [wE, frz, List.getElem?_cons_zero, List.getElem?_cons_succ, len_lst, onS_s, c_gt, onB_b]
      have hle : (encP qs).length = qs.length := by simp [encP]
      by_cases hl8 : 8 < qs.length
      · rw [decide_eq_true (by rw [hle]; omega)]
        simp only [if_true]
        rw [wSs, wS]
        refine q2 ?_
        rw [← hq]; unfold fits
        rw [decide_eq_false (by omega)]; rfl
      · rw [decide_eq_false (by rw [hle]; omega)]
        simp only [if_false, Bool.false_eq_true]
        refine ⟨?_, ?_⟩
        · simp only [MG.slots, MG.slotss, List.cons_append, List.nil_append, List.all_cons, List.all_nil, Bool.and_true, notOwn, List.getElem?_cons_zero, List.getElem?_cons_succ, Bool.and_eq_true]
          exact ⟨nx.ok, ny.ok⟩
        rw [onIt_l]
        refine wLC_map (fun d => match d with | .tup [_, .int t] => .bl (decide ((20 : Int) < t)) | _ => .non) _ _ (by omega) (fun d hd => ?_) ?_
        · obtain ⟨p, _, rfl⟩ := List.mem_map.mp hd
          refine ⟨_, rfl, fun K k => ?_⟩
          simpa [wE, MG.slots, MG.slotss, wipeD] using k
        rw [many_gt, any_bls, onS_s]
        simp only [onB_b]
        have hf := fits_not qs
        rw [decide_eq_false hl8, Bool.false_or] at hf
        rw [hf]
        cases hq2 : fits qs with
        | true =>
          simp only [Bool.not_true, if_false, Bool.false_eq_true]
          rw [wSs, wSs, wS]
          simp only [wE, frz, List.getElem?_cons_zero, List.getElem?_cons_succ]
          rw [show b1D .tuple (.lst (encP qs)) = some (.tup (encP qs)) from rfl, onS_s, hq]
          exact q1 (by rw [← hq]; exact hq2)
        | false =>
          simp only [Bool.not_false, if_true]
          rw [wSs, wS]
          exact q2 (by rw [← hq]; exact hq2)
    rw [wSs, wS]
    simp only [wE, frz, List.getElem?_cons_zero, List.getElem?_cons_succ, onB_b]
    by_cases hm : b ∈ ps.map (·.1)
    · rw [decide_eq_true hm]
      simp only [Bool.not_true, if_false, Bool.false_eq_true]
      rw [wSs]
      exact fin _ _ (by unfold wmore; rw [if_pos hm])
    · rw [decide_eq_false hm]
      simp only [Bool.not_false, if_true]
      rw [wSs, wS]
      simp only [wE, wEs, frz, List.getElem?_cons_zero, List.getElem?_cons_succ, List.length_cons, List.length_nil]
      refine ⟨by decide, by simp [encP]; omega, ?_⟩
      simp only [List.set_cons_succ, List.set_cons_zero]
      rw [wSs]
      have e5 : ps.map f = ps := by
        conv => rhs; rw [← List.map_id ps]
        apply List.map_congr_left
        intro p hp
        have : p.1 ≠ b := fun z => hm (List.mem_map.mpr ⟨p, hp, z⟩)
        simp [f, this]
      have e6 : encP (ps.map f) ++ [.tup [.str b, .int t]] = encP (ps ++ [(b, t)]) := by rw [e5, encP_app]; rfl
      rw [e6]
      exact fin _ _ (by unfold wmore; rw [if_neg hm])
theorem obl_added : ∀ ds Q X, S_added ds Q X → wSs m_added (envD 3 ds) (fun _ => Q .non) Q X := by
  rintro _ Q X ⟨n, ps, b, t, rfl, hv, hb, ht, q1, q2, q3⟩
  rw [show envD 3 [encV n ps, b, t] = [.imm (encV n ps), .imm b, .imm t] from rfl]
  simp only [m_added, wSs, wS, wE, wEs, frz, List.getElem?_cons_zero, List.getElem?_cons_succ]
  refine ⟨_, rfl, sm_encV hv, fun _ => ?_, fun z => by rw [isVotes_enc hv] at z; cases z⟩
  simp only [encV, sub_tup, atI0, atI1, onS_s]
  refine ⟨n, b, rfl, hv.hi, hb, fun hl => ?_, q1⟩
  refine ⟨t, rfl, ht, fun hw => ?_, q2 hl⟩
  cases b <;> simp only [areLetters] at hl <;> first
    | cases hl
    | skip
  rename_i s
  cases t <;> simp only [isWhole] at hw <;> first
    | cases hw
    | skip
  rename_i i
  simp only [Bool.and_eq_true, decide_eq_true_eq] at hw
  obtain ⟨k, rfl⟩ : ∃ k : Nat, i = k := ⟨i.toNat, by omega⟩
  obtain ⟨g1, g2⟩ := q3 s k rfl hl rfl (by omega) (by omega)
  refine ⟨ps, s, k, rfl, hv.len, fun hf => ⟨by simp, g1 hf⟩, g2⟩
/-! ### names -/
theorem abc_sorted (n : Nat) : ((abc.take n).map fun c => [c]).Pairwise fun a b => leL a b = true := by
  have h : (abc.map fun c => [c]).Pairwise fun a b => leL a b = true := by decide
  rw [List.map_take]
  exact h.sublist (List.take_sublist _ _)
theorem sort_perm (s : List Nat) (n : Nat) : sortL (s.map fun c => [c]) = (abc.take n).map (fun c => [c]) ↔ s.Perm (abc.take n) := by
  have hh : ∀ l : List Nat, (l.map fun c => [c]).map (fun z => z.headD 0) = l := fun l => by rw [List.map_map]; exact List.map_id l
  constructor
  · intro e
    have h1 : (sortL (s.map fun c => [c])).Perm (s.map fun c => [c]) := List.mergeSort_perm _ _
    rw [e] at h1
    have h2 := h1.map fun z : List Nat => z.headD 0
    rw [hh, hh] at h2
    exact h2.symm
  · intro h
    exact (sortL_uniq (h.symm.map fun c => [c]) (abc_sorted n)).symm
theorem strs_evs (a b : List (List Nat)) : D.eqvs (a.map .str) (b.map .str) = decide (a = b) := by
  induction a generalizing b with
  | nil => cases b <;> simp
  | cons x r ih =>
    cases b with
    | nil => simp
    | cons y t => by_cases e : x = y <;> simp [ih t, e]
theorem strs_pls (a : List (List Nat)) : D.pls (a.map .str) = true := by
  induction a with
  | nil => rfl
  | cons x r ih => simpa using ih
theorem strs_dep (a : List (List Nat)) : D.deps (a.map .str) = 0 := by
  induction a with
  | nil => rfl
  | cons x r ih => simpa using ih
theorem chars_strs (s : List Nat) : chars s = (s.map fun c => [c]).map .str := by simp [chars, Function.comp_def]
theorem ren_ix {s : List Nat} {c n : Nat} (hl : s.length = n) (hn : n ≤ 5) (hc : c ∈ abc.take n) : ∃ i, idxL abc c = some i ∧ s[i]? = some (ren s c) := by
  have hca : c ∈ abc := List.mem_of_mem_take hc
  obtain ⟨i, hi⟩ := idx_some hca
  have hin : i < n := by
    obtain ⟨j, hj, e⟩ := List.mem_take_iff_getElem.mp hc
    have h1 := idx_get hi
    have h2 : abc[j]? = some c := by rw [List.getElem?_eq_getElem (by omega), e]
    have := (List.getElem?_inj (by have := lt_of_get' h1; exact this) abc_nd).mp (h1.trans h2.symm)
    omega
  refine ⟨i, hi, ?_⟩
  unfold ren
  rw [hi]
  show s[i]? = some (s.getD i 0)
  rw [List.getD_eq_getElem?_getD, List.getElem?_eq_getElem (by omega)]; rfl
theorem join_chars' (cs : List Nat) (h : cs.length ≤ 1000) : b1D (.join []) (.lst (cs.map fun c => .str [c])) = some (.str cs) := by
  have e : (cs.map fun c => D.str [c]) = (cs.map fun c => [c]).map D.str := by rw [List.map_map]; rfl
  have e2 : (cs.map fun c => [c]).all (fun s => decide (s.length ≤ 1000)) = true := by simp
  have e3 : (cs.map fun c => [c]).flatten = cs := by
    clear h e e2
    induction cs with
    | nil => rfl
    | cons c r ih => simp only [List.map_cons, List.flatten_cons, ih]; rfl
  simp only [b1D, e, strs_str, Option.bind_some, e2, List.length_map, decide_eq_true h, joinL_nil, e3]
  rfl
theorem obl_renamed : ∀ ds Q X, S_renamed ds Q X → wSs m_renamed (envD 6 ds) (fun _ => Q .non) Q X := by
  rintro _ Q X ⟨n, ps, v, rfl, hv, hs, q1, q2⟩
  rw [show envD 6 [encV n ps, v] = [.imm (encV n ps), .imm v, .no, .no, .no, .no] from rfl]
  have h8 := hv.len
  have h5 := hv.hi
  have hla : (abc.take n).length = n := by simp [abc]; omega
  rw [m_renamed, wSs, wS]
  simp only [wE, wEs, frz, List.getElem?_cons_zero, List.getElem?_cons_succ]
  refine ⟨_, rfl, sm_encV hv, fun _ => ?_, fun z => by rw [isVotes_enc hv] at z; cases z⟩
  rw [wSs, wS]
  simp only [wE, wEs, frz, List.getElem?_cons_zero, List.getElem?_cons_succ, sm_nd hs, true_and, onB_b]
  cases v with
  | str s =>
    have hl : s.length ≤ 1000 := by simpa [sm] using hs
    simp only [isiD, Bool.not_true, if_false, Bool.false_eq_true]
    rw [show b1D .sorted (.str s) = some (.lst ((sortL (s.map fun c => [c])).map .str)) from by simp only [b1D]; rw [if_pos hl], onS_s]
    refine ⟨n, ps, rfl, h5, ?_⟩
    simp only []
    rw [show b1D .list (.str (abc.take n)) = some (.lst (((abc.take n).map fun c => [c]).map .str)) from by
      simp only [b1D, itemsS, itemsD, Option.bind_some]
      rw [if_pos (by simp [chars, hla]; omega), chars_strs], onS_s, c_ne, eqOk_f (by rw [pl_lst]; exact strs_pls _) (by rw [pl_lst]; exact strs_pls _) (.inl (by simp [strs_dep])), if_pos rfl]
    simp only [onS_s, onB_b, ev_lst, strs_evs]
    by_cases hp : s.Perm (abc.take n)
    · rw [decide_eq_true ((sort_perm s n).mpr hp)]
      simp only [Bool.not_true, if_false, Bool.false_eq_true]
      have hsl : s.length = n := by rw [hp.length_eq, hla]
      rw [wSs, wSs, wS]
      simp only [wE, wEs, frz, List.length_nil]
      refine ⟨by decide, ?_⟩
      rw [slot_new rfl, wSs, wS]
      simp only [wE, frz, List.set_cons_succ, List.set_cons_zero, List.getElem?_cons_zero, List.getElem?_cons_succ, encV, sub_tup, atI1, onS_s]
      rw [onIt_t]
      refine wLoop_inv (fun i ρ => ∃ x y, ρ = [.imm (encV n ps), .imm (.str s), .own (.lst (encP (renP s (ps.take i)))), x, y, .no]) _ 0 _ ⟨_, _, rfl⟩ (fun i d ρ K hx ⟨x, y, e⟩ hK => ?_) fun ρ ⟨x, y, e⟩ => ?_
      · subst e
        rw [Nat.zero_add] at hK ⊢
        unfold encP at hx
        rw [List.getElem?_map] at hx
        obtain ⟨p, hp1, hp2⟩ := Option.map_eq_some_iff.mp hx
        subst hp2
        have hil := lt_of_get' hp1
        have hmem := List.mem_of_getElem? hp1
        have hb5 := bl_len hv p hmem
        obtain ⟨_, _, _, _, hbm⟩ := letS_len (hv.bl p hmem).1
        have htk : ps.take (i + 1) = ps.take i ++ [p] := by
          rw [List.take_succ, hp1]; rfl
        have hlen : (encP (renP s (ps.take i))).length ≤ 8 := by simp [encP, renP]; omega
        simp only [asgG, asgGs, Option.bind_some, onS_s, List.set_cons_succ, List.set_cons_zero]
        rw [wSs, wS]
        simp only [wE, wEs, frz, List.getElem?_cons_zero, List.getElem?_cons_succ, MG.slots, wipeD, List.set_cons_succ, List.set_cons_zero]
        refine ⟨by simp [notOwn], ?_⟩
        rw [onIt_s]
        refine wLC_map (fun d => match d with | .str [c] => .str [ren s c] | _ => .non) _ _ (by simp [chars]; omega) (fun d hd => ?_) ?_
        · obtain ⟨c, hc, rfl⟩ := mem_chars hd
          refine ⟨_, rfl, fun K k => ?_⟩
          obtain ⟨j, j1, j2⟩ := ren_ix hsl h5 (hbm c hc)
          have j3 : b2D .index (.str [97, 98, 99, 100, 101]) (.str [c]) = some (.int (j : Nat)) := by rw [ixTxt, show ([97, 98, 99, 100, 101] : List Nat) = abc from rfl, j1]; rfl
          simp only [wE, List.set_cons_succ, List.set_cons_zero, List.getElem?_cons_zero, List.getElem?_cons_succ, b2T, true_and, j3, onS_s]
          have j4 : subD (.str s) (.int (j : Nat)) = some (.str [ren s c]) := by
            simp only [subD]
            rw [if_pos (by omega), atI_n j2]; rfl
          rw [j4, onS_s]
          exact k
        have em : (chars p.1).map (fun d => match d with | .str [c] => D.str [ren s c] | _ => .non) = (p.1.map (ren s)).map fun c => .str [c] := by simp [chars, Function.comp_def]
        rw [em, join_chars' _ (by simp; omega), onS_s]
        simp only [List.length_cons, List.length_nil]
        refine ⟨by decide, by omega, ?_⟩
        rw [wSs]
        refine hK _ ⟨.imm (.str p.1), .imm (.int p.2), ?_⟩
        rw [htk]
        have e9 : encP (renP s (ps.take i ++ [p])) = encP (renP s (ps.take i)) ++ [.tup [.str (p.1.map (ren s)), .int p.2]] := by simp [renP, encP]
        rw [e9]
      · subst e
        rw [Nat.zero_add, show (encP ps).length = ps.length by simp [encP], List.take_length]
        rw [wSs, wS]
        simp only [wE, wEs, frz, List.getElem?_cons_zero, List.getElem?_cons_succ, encV, sub_tup, atI0, onS_s]
        rw [show b1D .tuple (.lst (encP (renP s ps))) = some (.tup (encP (renP s ps))) from rfl, onS_s]
        exact ⟨by simp, q1 s rfl hp⟩
    · rw [decide_eq_false fun z => hp ((sort_perm s n).mp z)]
      simp only [Bool.not_false, if_true]
      rw [wSs, wS]
      exact q2 fun ⟨s', e, h⟩ => hp (by cases e; exact h)
  | _ =>
    simp only [isiD, Bool.not_false, if_true]
    rw [wSs, wS]
    exact q2 fun ⟨s', e, h⟩ => by cases e
end PV

set_option Elab.async false
set_option linter.all false
set_option maxRecDepth 100000
set_option maxHeartbeats 1000000
/-! PVw: ways and winners: what the forms answer. -/
namespace PV
open DL L2
theorem map_idx (q : D → Bool) : ∀ (xs : List D) (f : Nat → D → D), (∀ i x, ∃ j : Int, f i x = .tup [.int j, x]) → ((xs.mapIdx f).filter fun d => match d with | .tup [_, x] => q x | _ => false).map (fun d => match d with | .tup [_, x] => x | _ => .non) = xs.filter q
  | [], f, _ => rfl
  | x :: xs, f, h => by
    obtain ⟨j, e⟩ := h 0 x
    rw [List.mapIdx_cons, e, List.filter_cons, List.filter_cons]
    have ih := map_idx q xs (fun i => f (i + 1)) fun i y => h (i + 1) y
    by_cases hq : q x = true
    · simp only [hq, if_true, List.map_cons]
      rw [ih]
    · simp only [hq, if_false, Bool.false_eq_true]
      exact ih
theorem enum_filter (q : D → Bool) (xs : List D) : ((enumD xs).filter fun d => match d with | .tup [_, x] => q x | _ => false).map (fun d => match d with | .tup [_, x] => x | _ => .non) = xs.filter q := map_idx q xs _ fun i x => ⟨(i : Nat), rfl⟩
theorem ints_of (ns : List Int) : intsD (ns.map .int) = some ns := by
  induction ns with
  | nil => rfl
  | cons n r ih => simp [intsD, ih]
theorem enum_memW {s : List Nat} {d : D} (h : d ∈ enumD (chars s)) : ∃ i, ∃ c, s[i]? = some c ∧ d = .tup [.int (i : Nat), .str [c]] := by
  unfold enumD at h
  obtain ⟨i, hi, rfl⟩ := List.mem_mapIdx.mp h
  have hi' : i < s.length := by simpa [chars] using hi
  refine ⟨i, s[i], List.getElem?_eq_getElem hi', ?_⟩
  simp [chars]
theorem min_cnt {ps : Ps} {s : List Nat} (h : s ≠ []) : ∃ m : Int, b1D .min (.lst (cnts ps s)) = some (.int m) ∧ (∃ c ∈ s, m = (cntC ps s c : Nat)) ∧ ∀ c ∈ s, m ≤ (cntC ps s c : Nat) := by
  rw [cnts_ints]
  have e : b1D .min (.lst ((s.map fun c => ((cntC ps s c : Nat) : Int)).map .int)) = (minI (s.map fun c => ((cntC ps s c : Nat) : Int))).map .int := by simp only [b1D, ints_of, Option.bind_some]
  rw [e]
  cases s with
  | nil => exact absurd rfl h
  | cons a r =>
    haveI : Tb := ⟨[]⟩
    obtain ⟨h1, h2, h3⟩ := foldl_min (r.map fun c => ((cntC ps (a :: r) c : Nat) : Int)) ((cntC ps (a :: r) a : Nat) : Int)
    refine ⟨_, rfl, ?_, fun c hc => ?_⟩
    · rcases h1 with h1 | h1
      · exact ⟨a, by simp, h1⟩
      · obtain ⟨c, hc, e⟩ := List.mem_map.mp h1
        exact ⟨c, by simp [hc], e.symm⟩
    · rcases List.mem_cons.mp hc with rfl | hc
      · exact h2
      · exact h3 _ (List.mem_map.mpr ⟨c, hc, rfl⟩)
theorem lasts_eq {ps : Ps} {s : List Nat} {m : Int} (h1 : ∃ c ∈ s, m = (cntC ps s c : Nat)) (h2 : ∀ c ∈ s, m ≤ (cntC ps s c : Nat)) {c : Nat} (hc : c ∈ s) : (((cntC ps s c : Nat) : Int) == m) = s.all fun d => decide (cntC ps s c ≤ cntC ps s d) := by
  rw [Bool.eq_iff_iff, beq_iff_eq, List.all_eq_true]
  constructor
  · intro e d hd
    have := h2 d hd
    rw [decide_eq_true_iff]; omega
  · intro h
    obtain ⟨d, hd, e⟩ := h1
    have a1 := h d hd
    have a2 := h2 c hc
    rw [decide_eq_true_iff] at a1
    omega
theorem obl_last_ones : ∀ ds Q X, S_last_ones ds Q X → wSs m_last_ones (envD 5 ds) (fun _ => Q .non) Q X := by
  rintro _ Q X ⟨ps, s, rfl, hp, hn, h5, h0, q⟩
  rw [show envD 5 [.tup (encP ps), .str s] = [.imm (.tup (encP ps)), .imm (.str s), .no, .no, .no] from rfl]
  rw [m_last_ones, wSs, wS]
  simp only [wE, wEs, frz, List.getElem?_cons_zero, List.getElem?_cons_succ]
  refine ⟨ps, s, rfl, hp, hn, h5, ?_⟩
  simp only []
  rw [slot_old rfl, wSs, wS]
  simp only [wE, wEs, frz, List.getElem?_cons_zero, List.getElem?_cons_succ, MG.slots, MG.slotss, List.cons_append, List.nil_append, wipeD, List.set_cons_succ, List.set_cons_zero]
  refine ⟨by simp [notOwn], ?_⟩
  rw [onIt_l]
  obtain ⟨m, hm, h1, h2⟩ := min_cnt (ps := ps) h0
  refine wLC_pure (fun d => match d with | .tup [_, x] => (match x with | .str [c] => s.all fun d => decide (cntC ps s c ≤ cntC ps s d) | _ => false) | _ => false) (fun d => match d with | .tup [_, x] => x | _ => .non) _ [] _ (by simp [enumD, chars]; omega) (fun d hd => ?_) ?_
  · obtain ⟨i, c, hi, rfl⟩ := enum_memW hd
    have hc := List.mem_of_getElem? hi
    refine ⟨_, rfl, fun K k => ?_, fun _ K k => ?_⟩
    · have e7 : (cnts ps s)[i]? = some (.int (cntC ps s c : Nat)) := by
        unfold cnts
        rw [List.getElem?_map, hi]; rfl
      simp only [wIfs, wE, List.set_cons_succ, List.set_cons_zero, List.getElem?_cons_zero, List.getElem?_cons_succ, sub_lst, atI_n e7, onS_s, hm, c_eq, eqOk_f (x := .int _) (y := .int _) rfl rfl (.inl (by simp)), if_true, ev_int, onB_b]
      rw [lasts_eq h1 h2 hc]
      exact k
    · simpa [wE] using k
  · rw [List.nil_append, enum_filter (fun x => match x with | .str [c] => s.all fun d => decide (cntC ps s c ≤ cntC ps s d) | _ => false)]
    have e : (chars s).filter (fun x => match x with | .str [c] => s.all fun d => decide (cntC ps s c ≤ cntC ps s d) | _ => false) = chars (lastsF ps s) := by
      unfold chars lastsF; rw [List.filter_map]; rfl
    rw [e]; exact q
/-! ### ways -/
theorem fold_mem : ∀ (l : List Nat) (x : Nat), l.foldl max x = x ∨ l.foldl max x ∈ l
  | [], x => .inl rfl
  | y :: r, x => by
    rw [List.foldl_cons]
    rcases fold_mem r (max x y) with h | h
    · rw [h]
      by_cases c : y ≤ x
      · exact .inl (by omega)
      · exact .inr (by rw [show max x y = y by omega]; simp)
    · exact .inr (List.mem_cons_of_mem _ h)
theorem lasts_ne {ps : Ps} {s : List Nat} (h : s ≠ []) : lastsF ps s ≠ [] := by
  obtain ⟨m, _, ⟨c, hc, e⟩, h2⟩ := min_cnt (ps := ps) h
  intro z
  have : c ∈ lastsF ps s := by
    unfold lastsF
    rw [List.mem_filter]
    refine ⟨hc, ?_⟩
    rw [List.all_eq_true]
    intro d hd
    have := h2 d hd
    rw [decide_eq_true_iff]; omega
  rw [z] at this; cases this
theorem out_mem {ps : Ps} {s : List Nat} (h : s ≠ []) : outF ps s ∈ s := by
  have h1 := lasts_ne (ps := ps) h
  unfold outF
  have hsub : ∀ c ∈ lastsF ps s, c ∈ s := fun c hc => (List.mem_filter.mp hc).1
  cases hl : lastsF ps s with
  | nil => exact absurd hl h1
  | cons a r =>
    rw [List.foldl_cons]
    rw [hl] at hsub
    rcases fold_mem r (max 0 a) with h | h
    · rw [h, show max 0 a = a by omega]; exact hsub a (by simp)
    · exact hsub _ (List.mem_cons_of_mem _ h)
theorem max_chars {l : List Nat} (h : l ≠ []) : b1D .max (.lst (chars l)) = some (.str [l.foldl max 0]) := by
  cases l with
  | nil => exact absurd rfl h
  | cons a r =>
    have e1 : intsD (chars (a :: r)) = none := rfl
    have e2 : strsD (chars (a :: r)) = some ((a :: r).map fun c => [c]) := by rw [chars_strs]; exact strs_str _
    simp only [b1D, e1, e2, Option.bind_some]
    show some (D.str ((r.map fun c => [c]).foldl maxL2 [a])) = _
    haveI : Tb := ⟨[]⟩
    rw [fold_sign, List.foldl_cons, show max 0 a = a by omega]
theorem filter_len {s : List Nat} {c : Nat} (hn : s.Nodup) (hc : c ∈ s) : (s.filter fun x => x != c).length = s.length - 1 := by
  have : s.filter (fun x => x != c) = s.erase c := by rw [List.Nodup.erase_eq_filter hn]
  rw [this, List.length_erase_of_mem hc]
theorem way_len (ps : Ps) : ∀ (k : Nat) (s : List Nat), s.Nodup → s ≠ [] → wayN ps k s ≠ [] ∧ (wayN ps k s).length = s.length
  | 0, s, _, h => ⟨h, rfl⟩
  | k + 1, s, hn, h => by
    unfold wayN
    by_cases hl : s.length ≤ 1
    · rw [if_pos hl]; exact ⟨h, rfl⟩
    · rw [if_neg hl]
      have hf := filter_len hn (out_mem (ps := ps) h)
      have ih := way_len ps k (s.filter fun x => x != outF ps s) (hn.filter _) (by intro z; rw [z] at hf; simp at hf; omega)
      refine ⟨by simp, ?_⟩
      rw [List.length_cons, ih.2, hf]; omega
theorem way_whl {ps : Ps} (hp : Pok ps) {Q : D → Prop} {X : Nat → Prop} (K : DEnv → Prop) : ∀ (k : Nat) (s found : List Nat) (z : Slot), s.length ≤ k → s.Nodup → s ≠ [] → found.length + s.length ≤ 10 → s.length ≤ 5 →
    (∀ (s' f' : List Nat) (z' : Slot), f' ++ s' = found ++ wayN ps k s → f'.length + s'.length ≤ 10 → K [.imm (.tup (encP ps)), .imm (.str s'), .imm (.str f'), z']) →
    wWhl (fun ρ' K => wE (.cmp .gt (.b1 .len (.peek 1)) (.con (.int 1))) ρ' (onB K) X) (fun ρ' K => wSs [.asg (.nm 3) [] (.b1 .max (.call S_last_ones [.var 0, .var 1])), .par 2 1 [] (.bin .add (.peek 2) (.peek 3)) (.b2 .repl0 (.peek 1) (.peek 3))] ρ' K Q X) (k + 1) [.imm (.tup (encP ps)), .imm (.str s), .imm (.str found), z] K
  | k, s, found, z, hk, hn, h0, hl, h5, hK => by
    unfold wWhl
    simp only [wE, List.getElem?_cons_zero, List.getElem?_cons_succ]
    rw [len_str s (by omega), onS_s, c_gt, onS_s, onB_b]
    by_cases h1 : s.length ≤ 1
    · rw [decide_eq_false (by omega)]
      simp only [Bool.false_eq_true, if_false]
      refine hK s found z ?_ hl
      cases k with
      | zero => rfl
      | succ k => unfold wayN; rw [if_pos h1]
    · rw [decide_eq_true (by omega)]
      simp only [if_true]
      cases k with
      | zero => omega
      | succ k =>
        rw [wSs, wS]
        simp only [wE, wEs, frz, List.getElem?_cons_zero, List.getElem?_cons_succ]
        refine ⟨ps, s, rfl, hp, hn, h5, h0, ?_⟩
        simp only []
        rw [max_chars (lasts_ne h0), onS_s, slot_str, wSs, wS]
        simp only [wE, frz, List.set_cons_succ, List.set_cons_zero, List.getElem?_cons_zero, List.getElem?_cons_succ]
        rw [a_str _ _ (by simp; omega), onS_s]
        refine ⟨rfl, ?_⟩
        rw [show b2D .repl0 (.str s) (.str [(lastsF ps s).foldl max 0]) = some (.str (s.filter fun x => x != outF ps s)) from by
          show (if s.length ≤ 1000 then _ else _) = _
          rw [if_pos (by omega)]; rfl, onS_s, slot_str, slot_str]
        rw [wSs]
        have hf := filter_len hn (out_mem (ps := ps) h0)
        refine way_whl hp K k (s.filter fun x => x != outF ps s) (found ++ [outF ps s]) _ (by omega) (hn.filter _) (by intro z; rw [z] at hf; simp at hf; omega) (by simp; omega) (by omega) fun s' f' z' e hl' => ?_
        refine hK s' f' z' ?_ hl'
        rw [e]
        show _ = found ++ (if s.length ≤ 1 then s else outF ps s :: wayN ps k (s.filter fun x => x != outF ps s))
        rw [if_neg h1]; simp
theorem obl_way_of : ∀ ds Q X, S_way_of ds Q X → wSs m_way_of (envD 4 ds) (fun _ => Q .non) Q X := by
  rintro _ Q X ⟨ps, s, rfl, hp, hn, h5, h0, q⟩
  rw [show envD 4 [.tup (encP ps), .str s] = [.imm (.tup (encP ps)), .imm (.str s), .no, .no] from rfl]
  rw [m_way_of, wSs, wS]
  simp only [wE, frz]
  rw [slot_str, wSs, wS]
  simp only [List.set_cons_succ, List.set_cons_zero]
  refine ⟨s.length + 1, ?_⟩
  refine way_whl hp _ s.length s [] _ (Nat.le_refl _) hn h0 (by simp; omega) h5 fun s' f' z' e hl => ?_
  rw [wSs, wS]
  simp only [wE, frz, List.getElem?_cons_zero, List.getElem?_cons_succ]
  rw [a_str _ _ (by omega), onS_s, e]
  exact q
theorem atI_last {l : List Nat} (h : l ≠ []) : atI l (-1) = some (l.getLastD 0) := by
  have hl : 0 < l.length := List.length_pos_iff.mpr h
  unfold atI
  have e : ixN l.length (-1) = some (l.length - 1) := by
    unfold ixN
    rw [if_neg (by omega), if_pos (by omega)]
    congr 1; omega
  rw [e]
  show l[l.length - 1]? = _
  rw [← List.getLast?_eq_getElem?, List.getLastD_eq_getLast?]
  cases hq : l.getLast? with
  | none => rw [List.getLast?_eq_none_iff] at hq; exact absurd hq h
  | some x => rfl
theorem abc_take_ne {n : Nat} (h : 2 ≤ n) : abc.take n ≠ [] := by
  match n, h with
  | n + 2, _ => simp [abc]
theorem obl_winner_of : ∀ ds Q X, S_winner_of ds Q X → wSs m_winner_of (envD 1 ds) (fun _ => Q .non) Q X := by
  rintro _ Q X ⟨n, ps, rfl, hp, h2, h5, q⟩
  rw [show envD 1 [encV n ps] = [.imm (encV n ps)] from rfl]
  rw [m_winner_of, wSs, wS]
  simp only [wE, wEs, frz, List.getElem?_cons_zero, encV, sub_tup, atI1, onS_s]
  have hla : (abc.take n).length = n := by simp [abc]; omega
  have hnd : (abc.take n).Nodup := abc_nd.sublist (List.take_sublist _ _)
  refine ⟨n, ps, rfl, h5, ps, _, rfl, hp, hnd, by omega, abc_take_ne h2, ?_⟩
  have hw := way_len ps (abc.take n).length (abc.take n) hnd (abc_take_ne h2)
  have e : subD (.str (wayF ps (abc.take n))) (.int (-1)) = some (.str [winF n ps]) := by
    simp only [subD]
    rw [if_pos (by unfold wayF; rw [hw.2]; omega), show atI (wayF ps (abc.take n)) (-1) = some (winF n ps) from atI_last hw.1]
    rfl
  simp only []
  rw [e]
  exact q
theorem obl_winner : ∀ ds Q X, S_winner ds Q X → wSs m_winner (envD 1 ds) (fun _ => Q .non) Q X := by
  rintro _ Q X ⟨n, ps, rfl, hv, q⟩
  rw [show envD 1 [encV n ps] = [.imm (encV n ps)] from rfl]
  rw [m_winner, wSs, wS]
  simp only [wE, wEs, frz, List.getElem?_cons_zero]
  refine ⟨_, rfl, sm_encV hv, fun _ => ?_, fun z => by rw [isVotes_enc hv] at z; cases z⟩
  rw [wSs, wS]
  simp only [wE, wEs, frz, List.getElem?_cons_zero]
  have h8 := hv.len
  exact ⟨n, ps, rfl, ⟨by omega, bl_len hv⟩, hv.lo, hv.hi, q⟩
end PV

set_option Elab.async false
set_option linter.all false
set_option maxRecDepth 100000
set_option maxHeartbeats 1000000
/-! PVx: votes joined. -/
namespace PV
open DL L2
theorem wm_keys (a : Ps) (b : List Nat) (t : Nat) : (wmore a b t).map (·.1) = if b ∈ a.map (·.1) then a.map (·.1) else a.map (·.1) ++ [b] := by
  unfold wmore
  by_cases h : b ∈ a.map (·.1)
  · rw [if_pos h, if_pos h, List.map_map]
    apply List.map_congr_left
    intro p _
    simp only [Function.comp]
    split <;> rfl
  · rw [if_neg h, if_neg h, List.map_append]; rfl
theorem wm_nd {a : Ps} (b : List Nat) (t : Nat) (h : (a.map (·.1)).Nodup) : ((wmore a b t).map (·.1)).Nodup := by
  rw [wm_keys]
  split
  · exact h
  · rename_i hb
    rw [List.nodup_append]
    exact ⟨h, by simp, fun x hx y hy e => hb (by rw [List.mem_singleton] at hy; rw [← hy, ← e]; exact hx)⟩
theorem wm_len (a : Ps) (b : List Nat) (t : Nat) : a.length ≤ (wmore a b t).length := by
  unfold wmore; split <;> simp
theorem wm_fits {a : Ps} {b : List Nat} {t : Nat} (h : fits (wmore a b t) = true) : fits a = true := by
  unfold fits at h ⊢
  simp only [Bool.and_eq_true, decide_eq_true_eq, List.all_eq_true] at h ⊢
  refine ⟨Nat.le_trans (wm_len a b t) h.1, fun p hp => ?_⟩
  unfold wmore at h
  split at h
  · by_cases e : p.1 = b
    · have := h.2 (p.1, p.2 + t) (List.mem_map.mpr ⟨p, hp, if_pos e⟩)
      simp only at this; omega
    · exact h.2 p (List.mem_map.mpr ⟨p, hp, if_neg e⟩)
  · exact h.2 p (List.mem_append_left _ hp)
theorem jn_snoc (ps qs : Ps) (q : List Nat × Nat) : joinP ps (qs ++ [q]) = wmore (joinP ps qs) q.1 q.2 := by
  unfold joinP; rw [List.foldl_append]; rfl
theorem jn_fits {ps : Ps} : ∀ (qs rs : Ps), fits (joinP ps (qs ++ rs)) = true → fits (joinP ps qs) = true
  | qs, [], h => by simpa using h
  | qs, r :: rs, h => by
    have h1 : fits (joinP ps (qs ++ [r])) = true := jn_fits (qs ++ [r]) rs (by simpa using h)
    rw [jn_snoc] at h1
    exact wm_fits h1
theorem val_fits {n : Nat} {ps : Ps} (h : Val n ps) : fits ps = true := by
  unfold fits
  simp only [Bool.and_eq_true, decide_eq_true_eq, List.all_eq_true]
  exact ⟨h.len, fun p hp => (h.bl p hp).2.2⟩
/-- votes, their sums aside -/
structure Pre (n : Nat) (ps : Ps) : Prop where
  bl : ∀ p ∈ ps, letS p.1 (abc.take n) = true ∧ 1 ≤ p.2
  nd : (ps.map (·.1)).Nodup
theorem Val.pre {n : Nat} {ps : Ps} (h : Val n ps) : Pre n ps := ⟨fun p hp => ⟨(h.bl p hp).1, (h.bl p hp).2.1⟩, h.nd⟩
theorem Pre.val {n : Nat} {ps : Ps} (h : Pre n ps) (h2 : 2 ≤ n) (h5 : n ≤ 5) (hf : fits ps = true) : Val n ps := by
  unfold fits at hf
  simp only [Bool.and_eq_true, decide_eq_true_eq, List.all_eq_true] at hf
  exact ⟨h2, h5, hf.1, fun p hp => ⟨(h.bl p hp).1, (h.bl p hp).2, hf.2 p hp⟩, h.nd⟩
theorem Pre.wm {n : Nat} {ps : Ps} (h : Pre n ps) {b : List Nat} {t : Nat} (hb : letS b (abc.take n) = true) (ht : 1 ≤ t) : Pre n (wmore ps b t) := by
  refine ⟨fun p hp => ?_, wm_nd b t h.nd⟩
  unfold wmore at hp
  split at hp
  · obtain ⟨q, hq, rfl⟩ := List.mem_map.mp hp
    have := h.bl q hq
    by_cases e : q.1 = b
    · rw [if_pos e]; exact ⟨this.1, by simp only; omega⟩
    · rw [if_neg e]; exact this
  · rcases List.mem_append.mp hp with hp | hp
    · exact h.bl p hp
    · rw [List.mem_singleton] at hp; subst hp; exact ⟨hb, ht⟩
theorem Pre.jn {n : Nat} {ps : Ps} (h : Pre n ps) : ∀ qs : Ps, (∀ p ∈ qs, letS p.1 (abc.take n) = true ∧ 1 ≤ p.2) → Pre n (joinP ps qs) := by
  intro qs
  unfold joinP
  induction qs generalizing ps with
  | nil => intro _; exact h
  | cons q r ih =>
    intro hq
    rw [List.foldl_cons]
    exact ih (h.wm (hq q (by simp)).1 (hq q (by simp)).2) fun p hp => hq p (by simp [hp])
theorem obl_together : ∀ ds Q X, S_together ds Q X → wSs m_together (envD 5 ds) (fun _ => Q .non) Q X := by
  rintro _ Q X ⟨n, m, ps, qs, rfl, hv, hw, q1, q2, q3⟩
  rw [show envD 5 [encV n ps, encV m qs] = [.imm (encV n ps), .imm (encV m qs), .no, .no, .no] from rfl]
  rw [m_together, wSs, wS]
  simp only [wE, wEs, frz, List.getElem?_cons_zero, List.getElem?_cons_succ]
  refine ⟨_, rfl, sm_encV hv, fun _ => ?_, fun z => by rw [isVotes_enc hv] at z; cases z⟩
  rw [wSs, wS]
  simp only [wE, wEs, frz, List.getElem?_cons_zero, List.getElem?_cons_succ]
  refine ⟨_, rfl, sm_encV hw, fun _ => ?_, fun z => by rw [isVotes_enc hw] at z; cases z⟩
  rw [wSs, wS]
  simp only [wE, frz, List.getElem?_cons_zero, List.getElem?_cons_succ, encV, sub_tup, atI0, onS_s, c_ne, eqOk_f (x := .int _) (y := .int _) rfl rfl (.inl (by simp)), if_true, ev_int, onB_b]
  by_cases e : n = m
  · subst e
    simp only [beq_self_eq_true, Bool.not_true, Bool.false_eq_true, if_false]
    rw [wSs, wSs, wS]
    simp only [wE, frz, List.getElem?_cons_zero, List.getElem?_cons_succ, sub_tup, atI1, onS_s]
    rw [slot_old rfl, wSs, wS]
    simp only [wE, frz, List.set_cons_succ, List.set_cons_zero, List.getElem?_cons_zero, List.getElem?_cons_succ, sub_tup, atI1, onS_s]
    rw [onIt_t]
    have hq := hw.pre.bl
    refine wLoop_inv (fun i ρ => fits (joinP ps (qs.take i)) = true ∧ ∃ x y, ρ = [.imm (.tup [.int n, .tup (encP ps)]), .imm (.tup [.int n, .tup (encP qs)]), .imm (.tup (encP (joinP ps (qs.take i)))), x, y]) _ 0 _ ⟨val_fits hv, _, _, rfl⟩ (fun i d ρ K hx ⟨hf, x, y, e⟩ hK => ?_) fun ρ ⟨hf, x, y, e⟩ => ?_
    · subst e
      rw [Nat.zero_add] at hK hf ⊢
      unfold encP at hx
      rw [List.getElem?_map] at hx
      obtain ⟨p, hp1, hp2⟩ := Option.map_eq_some_iff.mp hx
      subst hp2
      have htk : qs.take (i + 1) = qs.take i ++ [p] := by
        rw [List.take_succ, hp1]; rfl
      have hf8 : (joinP ps (qs.take i)).length ≤ 8 := by
        unfold fits at hf
        simp only [Bool.and_eq_true, decide_eq_true_eq] at hf
        exact hf.1
      simp only [asgG, asgGs, Option.bind_some, onS_s, List.set_cons_succ, List.set_cons_zero]
      rw [wSs, wS]
      simp only [wE, wEs, frz, List.getElem?_cons_zero, List.getElem?_cons_succ]
      refine ⟨joinP ps (qs.take i), p.1, p.2, rfl, hf8, fun hg => ?_, fun hg => ?_⟩
      · simp only []
        rw [slot_tup, wSs]
        refine hK _ ⟨by rw [htk, jn_snoc]; exact hg, .imm (.str p.1), .imm (.int p.2), ?_⟩
        rw [htk, jn_snoc]; rfl
      · refine q3 rfl ?_
        cases hz : fits (joinP ps qs) with
        | false => rfl
        | true =>
          have := jn_fits (ps := ps) (qs.take (i + 1)) (qs.drop (i + 1)) (by rw [List.take_append_drop]; exact hz)
          rw [htk, jn_snoc, hg] at this
          cases this
    · subst e
      rw [Nat.zero_add, show (encP qs).length = qs.length by simp [encP], List.take_length] at hf ⊢
      rw [wSs, wS]
      simp only [wE, wEs, frz, List.getElem?_cons_zero, List.getElem?_cons_succ, sub_tup, atI0, onS_s]
      exact ⟨by simp, q2 rfl hf⟩
  · rw [show (((n : Int) == (m : Int))) = false from by rw [beq_eq_false_iff_ne]; omega]
    simp only [Bool.not_false, if_true]
    rw [wSs, wS]
    exact q1 e
theorem obl_joined : ∀ ds Q X, S_joined ds Q X → wSs m_joined (envD 2 ds) (fun _ => Q .non) Q X := by
  rintro _ Q X ⟨n, m, ps, qs, rfl, hv, hw, q1, q2, q3⟩
  rw [show envD 2 [encV n ps, encV m qs] = [.imm (encV n ps), .imm (encV m qs)] from rfl]
  rw [m_joined, wSs, wS]
  simp only [wE, wEs, frz, List.getElem?_cons_zero, List.getElem?_cons_succ]
  exact ⟨n, m, ps, qs, rfl, hv, hw, q1, q2, q3⟩
theorem fits_pok {n : Nat} {ps : Ps} (h : Pre n ps) (hf : fits ps = true) : Pok ps := by
  unfold fits at hf
  simp only [Bool.and_eq_true, decide_eq_true_eq] at hf
  exact ⟨by omega, fun p hp => (letS_len (h.bl p hp).1).2.1⟩
theorem obl_is_split : ∀ ds Q X, S_is_split ds Q X → wSs m_is_split (envD 3 ds) (fun _ => Q .non) Q X := by
  rintro _ Q X ⟨n, m, ps, qs, rfl, hv, hw, q1, q2, q3⟩
  rw [show envD 3 [encV n ps, encV m qs] = [.imm (encV n ps), .imm (encV m qs), .no] from rfl]
  have h8 := hv.len
  have h8' := hw.len
  rw [m_is_split, wSs, wS]
  simp only [wE, wEs, frz, List.getElem?_cons_zero, List.getElem?_cons_succ]
  refine ⟨n, m, ps, qs, rfl, hv, hw, q1, fun e hf => ?_, q2⟩
  subst e
  rw [show slotOf (.call S_together [.var 0, .var 1]) (encV n (joinP ps qs)) = .imm (encV n (joinP ps qs)) from by simp [encV], wSs, wS]
  simp only [wE, wEs, frz, List.set_cons_succ, List.set_cons_zero, List.getElem?_cons_zero, List.getElem?_cons_succ]
  have pj : Pok (joinP ps qs) := fits_pok (hv.pre.jn qs hw.pre.bl) hf
  have pp : Pok ps := ⟨by omega, bl_len hv⟩
  have pq : Pok qs := ⟨by omega, bl_len hw⟩
  refine ⟨n, ps, rfl, pp, hv.lo, hv.hi, n, qs, rfl, pq, hv.lo, hv.hi, ?_⟩
  simp only [c_eq, eqOk_f (x := .str _) (y := .str _) rfl rfl (.inl (by simp)), if_true, ev_str, onS_s, onB_b]
  have q3 := q3 rfl hf
  have be : ∀ a b : Nat, (([a] : List Nat) == [b]) = decide (a = b) := fun a b => by
    rw [Bool.eq_iff_iff, beq_iff_eq, decide_eq_true_iff]; simp
  rw [be]
  by_cases e : winF n ps = winF n qs
  · rw [decide_eq_true e] at q3 ⊢
    simp only [if_true]
    refine ⟨n, joinP ps qs, rfl, pj, hv.lo, hv.hi, n, ps, rfl, pp, hv.lo, hv.hi, ?_⟩
    simp only [c_ne, eqOk_f (x := .str _) (y := .str _) rfl rfl (.inl (by simp)), if_true, ev_str, onS_s, onB_b, be]
    simpa using q3
  · rw [decide_eq_false e] at q3 ⊢
    simp only [Bool.false_eq_true, if_false]
    simpa using q3
/-! ### sums -/
theorem wm_sum (f : List Nat × Nat → Bool) (hf : ∀ p q : List Nat × Nat, p.1 = q.1 → f p = f q) : ∀ (a : Ps) (b : List Nat) (t : Nat), (a.map (·.1)).Nodup → (((wmore a b t).filter f).map (·.2)).sum = ((a.filter f).map (·.2)).sum + if f (b, t) = true then t else 0 := by
  intro a b t hn
  unfold wmore
  by_cases hb : b ∈ a.map (·.1)
  · rw [if_pos hb]
    induction a with
    | nil => cases hb
    | cons p r ih =>
      rw [List.map_cons, List.nodup_cons] at hn
      by_cases e : p.1 = b
      · have hr : ∀ q ∈ r, q.1 ≠ b := fun q hq z => hn.1 (by rw [e, ← z]; exact List.mem_map.mpr ⟨q, hq, rfl⟩)
        have e1 : (r.map fun p => if p.1 = b then (p.1, p.2 + t) else p) = r := by
          conv => rhs; rw [← List.map_id r]
          apply List.map_congr_left
          intro q hq
          rw [if_neg (hr q hq)]; rfl
        rw [List.map_cons, if_pos e, e1, List.filter_cons, List.filter_cons, hf (p.1, p.2 + t) (b, t) e, hf p (b, t) e]
        by_cases hc : f (b, t) = true
        · simp only [hc, if_true, List.map_cons, List.sum_cons]; omega
        · simp only [hc, if_false, Bool.false_eq_true]; omega
      · have hb' : b ∈ r.map (·.1) := by
          rw [List.map_cons] at hb
          exact (List.mem_cons.mp hb).resolve_left fun z => e z.symm
        have ih := ih hn.2 hb'
        rw [List.map_cons, if_neg e, List.filter_cons, List.filter_cons]
        by_cases hc : f p = true
        · simp only [hc, if_true, List.map_cons, List.sum_cons, ih]; omega
        · simp only [hc, if_false, Bool.false_eq_true, ih]
  · rw [if_neg hb, List.filter_append, List.map_append, List.sum_append]
    congr 1
    by_cases hc : f (b, t) = true
    · rw [if_pos hc, List.filter_cons_of_pos hc]; rfl
    · rw [if_neg hc, List.filter_cons_of_neg hc]; rfl
theorem jn_sum (f : List Nat × Nat → Bool) (hf : ∀ p q : List Nat × Nat, p.1 = q.1 → f p = f q) (qs : Ps) : ∀ ps : Ps, (ps.map (·.1)).Nodup → (((joinP ps qs).filter f).map (·.2)).sum = ((ps.filter f).map (·.2)).sum + ((qs.filter f).map (·.2)).sum := by
  unfold joinP
  induction qs with
  | nil => intro ps _; simp
  | cons q r ih =>
    intro ps hn
    rw [List.foldl_cons, ih _ (wm_nd q.1 q.2 hn), wm_sum f hf ps q.1 q.2 hn, List.filter_cons]
    by_cases hc : f q = true
    · have : f (q.1, q.2) = true := hc
      rw [if_pos this, if_pos hc]
      simp only [List.map_cons, List.sum_cons]; omega
    · have : ¬ f (q.1, q.2) = true := hc
      rw [if_neg this, if_neg hc]; omega
theorem jn_cnt {ps qs : Ps} (hn : (ps.map (·.1)).Nodup) (s : List Nat) (c : Nat) : cntC (joinP ps qs) s c = cntC ps s c + cntC qs s c := by
  unfold cntC
  exact jn_sum (fun p => decide (fstIn p.1 s = some c)) (fun p q e => by rw [e]) qs ps hn
theorem jn_voters {ps qs : Ps} (hn : (ps.map (·.1)).Nodup) : ((joinP ps qs).map (·.2)).sum = (ps.map (·.2)).sum + (qs.map (·.2)).sum := by
  have := jn_sum (fun _ => true) (fun _ _ _ => rfl) qs ps hn
  simpa [List.filter_eq_self.mpr] using this
/-- two candidates: the first wins unless it has less -/
theorem win_two (ps : Ps) : winF 2 ps = if cntC ps [97, 98] 97 < cntC ps [97, 98] 98 then 98 else 97 := by
  have e : abc.take 2 = [97, 98] := rfl
  unfold winF wayF
  rw [e]
  show (wayN ps 2 [97, 98]).getLastD 0 = _
  have ho : outF ps [97, 98] = if cntC ps [97, 98] 97 < cntC ps [97, 98] 98 then 97 else 98 := by
    unfold outF lastsF
    simp only [List.filter_cons, List.filter_nil, List.all_cons, List.all_nil, Bool.and_true, Nat.le_refl, decide_true, Bool.true_and]
    rcases Nat.lt_trichotomy (cntC ps [97, 98] 97) (cntC ps [97, 98] 98) with h | h | h
    · rw [if_pos h, show decide (cntC ps [97, 98] 97 ≤ cntC ps [97, 98] 98) = true from decide_eq_true (by omega), show decide (cntC ps [97, 98] 98 ≤ cntC ps [97, 98] 97) = false from decide_eq_false (by omega)]; rfl
    · rw [if_neg (show ¬ cntC ps [97, 98] 97 < cntC ps [97, 98] 98 by omega), show decide (cntC ps [97, 98] 97 ≤ cntC ps [97, 98] 98) = true from decide_eq_true (by omega), show decide (cntC ps [97, 98] 98 ≤ cntC ps [97, 98] 97) = true from decide_eq_true (by omega)]; rfl
    · rw [if_neg (show ¬ cntC ps [97, 98] 97 < cntC ps [97, 98] 98 by omega), show decide (cntC ps [97, 98] 97 ≤ cntC ps [97, 98] 98) = false from decide_eq_false (by omega), show decide (cntC ps [97, 98] 98 ≤ cntC ps [97, 98] 97) = true from decide_eq_true (by omega)]; rfl
  unfold wayN
  rw [if_neg (by decide), ho]
  split
  · show (97 :: wayN ps 1 [98]).getLastD 0 = 98
    unfold wayN
    rw [if_pos (by decide)]; rfl
  · show (98 :: wayN ps 1 [97]).getLastD 0 = 97
    unfold wayN
    rw [if_pos (by decide)]; rfl
theorem two_same {ps qs : Ps} (hn : (ps.map (·.1)).Nodup) (h : winF 2 ps = winF 2 qs) : winF 2 (joinP ps qs) = winF 2 ps := by
  rw [win_two, win_two] at h ⊢
  rw [jn_cnt hn, jn_cnt hn]
  by_cases h1 : cntC ps [97, 98] 97 < cntC ps [97, 98] 98
  · rw [if_pos h1] at h ⊢
    by_cases h2 : cntC qs [97, 98] 97 < cntC qs [97, 98] 98
    · rw [if_pos (by omega)]
    · rw [if_neg h2] at h; omega
  · rw [if_neg h1] at h ⊢
    by_cases h2 : cntC qs [97, 98] 97 < cntC qs [97, 98] 98
    · rw [if_pos h2] at h; omega
    · rw [if_neg (by omega)]
end PV

set_option Elab.async false
set_option linter.all false
set_option maxRecDepth 100000
set_option maxHeartbeats 1000000
/-! PVy: the law's own way; absences: what the forms answer. -/
namespace PV
open DL L2
theorem lasts_sub (ps : Ps) (s : List Nat) : ∀ c ∈ lastsF ps s, c ∈ s := fun c hc => (List.mem_filter.mp hc).1
theorem getLastD_mem : ∀ {l : List Nat}, l ≠ [] → l.getLastD 0 ∈ l
  | [], h => absurd rfl h
  | a :: r, _ => by
    rw [List.getLastD_eq_getLast?, List.getLast?_eq_some_getLast (by simp)]
    exact List.getLast_mem _
theorem outL_mem {ps : Ps} {s : List Nat} (h : s ≠ []) : outL ps s ∈ s := lasts_sub ps s _ (getLastD_mem (lasts_ne h))
theorem atI_lastD {l : List Nat} (h : l ≠ []) : atI (chars l) (-1) = some (.str [l.getLastD 0]) := by
  have h1 := atI_last h
  unfold atI at h1 ⊢
  rw [show (chars l).length = l.length by simp [chars]]
  cases e : ixN l.length (-1) with
  | none => rw [e] at h1; cases h1
  | some j =>
    rw [e] at h1
    have h1 : l[j]? = some (l.getLastD 0) := h1
    show (chars l)[j]? = _
    simp [chars, h1]
theorem wayL_len (ps : Ps) : ∀ (k : Nat) (s : List Nat), s.Nodup → s ≠ [] → wayL ps k s ≠ [] ∧ (wayL ps k s).length = s.length
  | 0, s, _, h => ⟨h, rfl⟩
  | k + 1, s, hn, h => by
    unfold wayL
    by_cases hl : s.length ≤ 1
    · rw [if_pos hl]; exact ⟨h, rfl⟩
    · rw [if_neg hl]
      have hf := filter_len hn (outL_mem (ps := ps) h)
      have ih := wayL_len ps k (s.filter fun x => x != outL ps s) (hn.filter _) (by intro z; rw [z] at hf; simp at hf; omega)
      refine ⟨by simp, ?_⟩
      rw [List.length_cons, ih.2, hf]; omega
theorem obl__law_way : ∀ ds Q X, S__law_way ds Q X → wSs m__law_way (envD 8 ds) (fun _ => Q .non) Q X := by
  rintro _ Q X ⟨dd, ps, s, rfl, hdd, hp, hn, h5, h0, q⟩
  rw [show envD 8 [dd, .str s] = [.imm dd, .imm (.str s), .no, .no, .no, .no, .no, .no] from rfl]
  rw [m__law_way, wSs, wS]
  simp only [wE, frz]
  rw [slot_str, wSs, wS]
  simp only [wE, frz, List.set_cons_succ, List.set_cons_zero, List.getElem?_cons_zero, List.getElem?_cons_succ]
  rw [len_str s (by omega), onS_s, s_int, onS_s]
  have hpos : 0 < s.length := List.length_pos_iff.mpr h0
  refine ⟨by unfold smallI; simp only [Bool.and_eq_true, decide_eq_true_eq]; omega, ?_⟩
  rw [onIt_l]
  refine wLoop_inv (fun i ρ => i ≤ s.length - 1 → ∃ t f a b c, t.Nodup ∧ t.length = s.length - i ∧ f.length = i ∧ f ++ wayL ps t.length t = wayL ps s.length s ∧ NO b ∧ NO c ∧ ρ = [.imm dd, .imm (.str t), .imm (.str f), a, b, c, .no, .no]) _ 0 _ (fun _ => ⟨s, [], .no, .no, .no, hn, by omega, rfl, rfl, (fun _ z => nomatch z), (fun _ z => nomatch z), rfl⟩) (fun i x ρ K hx hI hK => ?_) fun ρ hI => ?_
  · have hi : i < s.length - 1 := by
      have := lt_of_get' hx
      rw [rngD_len] at this
      omega
    rw [Nat.zero_add] at hI hK
    have hJ := hI (Nat.le_of_lt hi)
    clear hI
    obtain ⟨t, f, a, b, c, tn, tl, fl, he, nb, nc, rfl⟩ := hJ
    have l1 : t.length - 1 = s.length - (i + 1) := by omega
    have l2 : t.length ≤ 1000 := by omega
    have l3 : ¬ t.length ≤ 1 := by omega
    have l4 : f.length + 1 ≤ 16777216 := by omega
    have ht0 : t ≠ [] := by intro z; rw [z] at tl; simp at tl; omega
    simp only [asgG, onS_s, List.set_cons_succ, List.set_cons_zero]
    rw [wSs, wS]
    simp only [wE, wEs, frz, List.getElem?_cons_zero, List.getElem?_cons_succ]
    refine ⟨dd, ps, t, rfl, hdd, hp, tn, by omega, ?_⟩
    try simp only []
    rw [slot_old rfl, wSs, wS]
    simp only [wE, frz, List.getElem?_cons_zero, List.getElem?_cons_succ, MG.slots, MG.slotss, List.cons_append, List.nil_append, wipeD, List.set_cons_succ, List.set_cons_zero]
    refine ⟨by simp [notOwn], ?_⟩
    rw [onIt_l]
    obtain ⟨m, hm, h1, h2⟩ := min_cnt (ps := ps) ht0
    refine wLC_pure (fun d => match d with | .tup [_, x] => (match x with | .str [c] => t.all fun d => decide (cntC ps t c ≤ cntC ps t d) | _ => false) | _ => false) (fun d => match d with | .tup [_, x] => x | _ => .non) _ [] _ (by simp [enumD, chars]; omega) (fun d hd => ?_) ?_
    · obtain ⟨j, c, hj, rfl⟩ := enum_memW hd
      have hc := List.mem_of_getElem? hj
      refine ⟨_, rfl, fun K k => ?_, fun _ K k => ?_⟩
      · have e7 : (cnts ps t)[j]? = some (.int (cntC ps t c : Nat)) := by
          unfold cnts
          rw [List.getElem?_map, hj]; rfl
        simp only [wIfs, wE, List.set_cons_succ, List.set_cons_zero, List.getElem?_cons_zero, List.getElem?_cons_succ, sub_lst, atI_n e7, onS_s, hm, c_eq, eqOk_f (x := .int _) (y := .int _) rfl rfl (.inl (by simp)), if_true, ev_int, onB_b]
        rw [lasts_eq h1 h2 hc]
        exact k
      · simpa [wE] using k
    have e : (chars t).filter (fun x => match x with | .str [c] => t.all fun d => decide (cntC ps t c ≤ cntC ps t d) | _ => false) = chars (lastsF ps t) := by
      unfold chars lastsF; rw [List.filter_map]; rfl
    have ee : ((enumD (chars t)).filter (fun d => match d with | .tup [_, x] => (match x with | .str [c] => t.all fun d => decide (cntC ps t c ≤ cntC ps t d) | _ => false) | _ => false)).map (fun d => match d with | .tup [_, x] => x | _ => .non) = chars (lastsF ps t) :=
      (enum_filter (fun x => match x with | .str [c] => t.all fun d => decide (cntC ps t c ≤ cntC ps t d) | _ => false) (chars t)).trans e
    try simp only []
    rw [List.nil_append, ee, sub_lst, atI_lastD (lasts_ne ht0), onS_s, slot_str, wSs, wS]
    simp only [wE, frz, List.set_cons_succ, List.set_cons_zero, List.getElem?_cons_zero, List.getElem?_cons_succ]
    rw [a_str _ _ (by simpa using l4), onS_s]
    refine ⟨rfl, ?_⟩
    rw [show b2D .repl0 (.str t) (.str [(lastsF ps t).getLastD 0]) = some (.str (t.filter fun x => x != outL ps t)) from by
      show (if t.length ≤ 1000 then _ else _) = _
      rw [if_pos l2]; rfl, onS_s, slot_str, slot_str]
    rw [wSs]
    have hf := filter_len tn (outL_mem (ps := ps) ht0)
    refine hK _ fun _ => ⟨t.filter fun x => x != outL ps t, f ++ [outL ps t], _, _, _, tn.filter _, hf.trans l1, by rw [List.length_append, fl]; rfl, ?_, (by intro _ z; cases z), (by intro _ z; cases z), rfl⟩
    rw [← he, hf]
    have : wayL ps t.length t = outL ps t :: wayL ps (t.length - 1) (t.filter fun x => x != outL ps t) := by
      obtain ⟨k, hk⟩ : ∃ k, t.length = k + 1 := ⟨t.length - 1, by clear h1 h2; omega⟩
      rw [hk]
      show (if t.length ≤ 1 then t else _) = _
      rw [if_neg l3]; rfl
    rw [this]; simp
  · have hz : ((s.length : Int) - 1).toNat = s.length - 1 := by omega
    rw [rngD_len, Nat.zero_add, hz] at hI
    have hJ := hI (Nat.le_refl _)
    clear hI
    rcases hJ with ⟨t, f, a, b, c, tn, tl, fl, he, nb, nc, hρ⟩
    subst hρ
    have hb : f.length + t.length ≤ 16777216 := by rw [fl, tl]; omega
    rw [wSs, wS]
    simp only [wE, frz, List.getElem?_cons_zero, List.getElem?_cons_succ]
    rw [a_str _ _ hb, onS_s]
    have t1 : t.length = 1 := by rw [tl]; omega
    have : wayL ps t.length t = t := by
      rw [t1]
      show (if t.length ≤ 1 then t else _) = _
      rw [if_pos (by omega)]
    rw [this] at he
    rw [he]
    exact q
end PV

set_option Elab.async false
set_option linter.all false
set_option maxRecDepth 100000
set_option maxHeartbeats 1000000
/-! PVz: voters taken out; absences. -/
namespace PV
open DL L2
theorem less_snoc (Q : Ps) (p : List Nat × Nat) (i t : Nat) : lessP (Q ++ [p]) i t = lessP Q i t ++ (if Q.length = i then (if t < p.2 then [(p.1, p.2 - t)] else []) else [p]) := by
  unfold lessP
  rcases Nat.lt_trichotomy Q.length i with h | h | h
  · rw [if_neg (by omega), List.take_of_length_le (by simp; omega), List.getElem?_eq_none (by simp; omega), List.drop_of_length_le (by simp; omega), List.take_of_length_le (by omega), List.getElem?_eq_none (by omega), List.drop_of_length_le (by omega)]
    simp
  · subst h
    rw [if_pos rfl, List.take_left' rfl, List.drop_of_length_le (by simp), List.take_of_length_le (Nat.le_refl _), List.getElem?_eq_none (Nat.le_refl _), List.drop_of_length_le (by omega)]
    have e : (Q ++ [p])[Q.length]? = some p := by simp
    rw [e]
    simp
  · rw [if_neg (by omega), List.take_append_of_le_length (by omega), List.getElem?_append_left h, List.drop_append_of_le_length (by omega)]
    simp
theorem less_len (ps : Ps) (i t : Nat) : (lessP ps i t).length ≤ ps.length := by
  unfold lessP
  simp only [List.length_append, List.length_take, List.length_drop]
  cases h : ps[i]? with
  | none => simp only [List.length_nil]; omega
  | some p =>
    have := lt_of_get' h
    have : (if t < p.2 then [(p.1, p.2 - t)] else ([] : Ps)).length ≤ 1 := by split <;> simp
    simp only []
    omega
theorem less_mem {ps : Ps} {i t : Nat} {q : List Nat × Nat} (h : q ∈ lessP ps i t) : ∃ p ∈ ps, q.1 = p.1 := by
  unfold lessP at h
  rcases List.mem_append.mp h with h | h
  · rcases List.mem_append.mp h with h | h
    · exact ⟨q, List.mem_of_mem_take h, rfl⟩
    · cases hp : ps[i]? with
      | none => rw [hp] at h; cases h
      | some p =>
        rw [hp] at h
        have h : q ∈ (if t < p.2 then [(p.1, p.2 - t)] else []) := h
        split at h
        · rw [List.mem_singleton] at h
          exact ⟨p, List.mem_of_getElem? hp, by rw [h]⟩
        · cases h
  · exact ⟨q, List.mem_of_mem_drop h, rfl⟩
theorem enum_at {xs : List D} {k : Nat} {d : D} (h : (enumD xs)[k]? = some d) : ∃ y, xs[k]? = some y ∧ d = .tup [.int (k : Nat), y] := by
  unfold enumD at h
  rw [List.getElem?_mapIdx] at h
  cases q : xs[k]? with
  | none => rw [q] at h; cases h
  | some y => rw [q] at h; cases h; exact ⟨y, rfl, rfl⟩
theorem obl_without : ∀ ds Q X, S_without ds Q X → wSs m_without (envD 7 ds) (fun _ => Q .non) Q X := by
  rintro _ Q X ⟨ps, i, t, rfl, hl, q⟩
  rw [show envD 7 [.tup (encP ps), .int i, .int t] = [.imm (.tup (encP ps)), .imm (.int i), .imm (.int t), .no, .no, .no, .no] from rfl]
  have hlq : (encP ps).length = ps.length := by simp [encP]
  rw [m_without, wSs, wS]
  simp only [wE, wEs, frz, List.length_nil]
  refine ⟨by decide, ?_⟩
  rw [slot_new rfl, wSs, wS]
  simp only [wE, frz, List.set_cons_succ, List.set_cons_zero, List.getElem?_cons_zero, List.getElem?_cons_succ, itemsE, onS_s]
  rw [onIt_l]
  refine wLoop_inv (fun k ρ => ∃ a b c, ρ = [.imm (.tup (encP ps)), .imm (.int i), .imm (.int t), .own (.lst (encP (lessP (ps.take k) i t))), a, b, c]) _ 0 _ ⟨.no, .no, .no, by simp [lessP, encP]⟩ (fun k d ρ K hx ⟨a, b, c, e⟩ hK => ?_) fun ρ ⟨a, b, c, e⟩ => ?_
  · subst e
    rw [Nat.zero_add] at hK ⊢
    obtain ⟨y, hy, rfl⟩ := enum_at hx
    unfold encP at hy
    rw [List.getElem?_map] at hy
    obtain ⟨p, hp1, hp2⟩ := Option.map_eq_some_iff.mp hy
    subst hp2
    have hk := lt_of_get' hp1
    have htk : ps.take (k + 1) = ps.take k ++ [p] := by
      rw [List.take_succ, hp1]; rfl
    have hkl : (ps.take k).length = k := by rw [List.length_take]; omega
    have hle : (encP (lessP (ps.take k) i t)).length < 16777216 := by
      have := less_len (ps.take k) i t
      simp only [encP, List.length_map]; omega
    have hsn := less_snoc (ps.take k) p i t
    rw [← htk, hkl] at hsn
    simp only [asgG, asgGs, Option.bind_some, onS_s, List.set_cons_succ, List.set_cons_zero]
    rw [wSs, wS]
    simp only [wE, frz, List.getElem?_cons_zero, List.getElem?_cons_succ, c_ne, eqOk_f (x := .int _) (y := .int _) rfl rfl (.inl (by simp)), if_true, ev_int, onS_s, onB_b]
    by_cases e : k = i
    · rw [if_pos e] at hsn
      rw [show (!((k : Int) == (i : Int))) = false from by simp [e]]
      simp only [Bool.false_eq_true, if_false]
      rw [wSs, wS]
      simp only [wE, frz, List.getElem?_cons_zero, List.getElem?_cons_succ, c_gt, onS_s, onB_b]
      by_cases g : t < p.2
      · rw [if_pos g] at hsn
        rw [decide_eq_true (by omega)]
        simp only [if_true]
        rw [wSs, wS]
        simp only [wE, wEs, frz, List.getElem?_cons_zero, List.getElem?_cons_succ, s_int, onS_s, List.length_cons, List.length_nil]
        refine ⟨by decide, hle, ?_⟩
        simp only [List.set_cons_succ, List.set_cons_zero]
        rw [wSs, wSs, wSs]
        refine hK _ ⟨.imm (.int (k : Nat)), .imm (.str p.1), .imm (.int p.2), ?_⟩
        rw [hsn, encP_app]
        have : encP [(p.1, p.2 - t)] = [.tup [.str p.1, .int ((p.2 : Nat) - (t : Nat))]] := by
          simp [encP]; omega
        rw [this]
      · rw [if_neg g] at hsn
        rw [decide_eq_false (by omega)]
        simp only [Bool.false_eq_true, if_false]
        rw [wSs, wSs, wSs]
        refine hK _ ⟨.imm (.int (k : Nat)), .imm (.str p.1), .imm (.int p.2), ?_⟩
        rw [hsn, List.append_nil]
    · rw [if_neg e] at hsn
      rw [show (!((k : Int) == (i : Int))) = true from by rw [Bool.not_eq_true', beq_eq_false_iff_ne]; omega]
      simp only [if_true]
      rw [wSs, wS]
      simp only [wE, wEs, frz, List.getElem?_cons_zero, List.getElem?_cons_succ, List.length_cons, List.length_nil]
      refine ⟨by decide, hle, ?_⟩
      simp only [List.set_cons_succ, List.set_cons_zero]
      rw [wSs, wSs]
      refine hK _ ⟨.imm (.int (k : Nat)), .imm (.str p.1), .imm (.int p.2), ?_⟩
      rw [hsn, encP_app]; rfl
  · subst e
    rw [Nat.zero_add, show (enumD (encP ps)).length = ps.length by simp [enumD, encP], List.take_length]
    rw [wSs, wS]
    simp only [wE, frz, List.getElem?_cons_zero, List.getElem?_cons_succ]
    rw [show b1D .tuple (.lst (encP (lessP ps i t))) = some (.tup (encP (lessP ps i t))) from rfl, onS_s]
    exact q
theorem less_pok {n : Nat} {ps : Ps} (hv : Val n ps) (i t : Nat) : Pok (lessP ps i t) := by
  have h8 := hv.len
  refine ⟨Nat.le_trans (less_len ps i t) (by omega), fun q hq => ?_⟩
  obtain ⟨p, hp, e⟩ := less_mem hq
  rw [e]; exact bl_len hv p hp
theorem obl_absence_that_helps : ∀ ds Q X, S_absence_that_helps ds Q X → wSs m_absence_that_helps (envD 8 ds) (fun _ => Q .non) Q X := by
  rintro _ Q X ⟨v, rfl, hs, q1, q2⟩
  rw [show envD 8 [v] = [.imm v, .no, .no, .no, .no, .no, .no, .no] from rfl]
  rw [m_absence_that_helps, wSs, wS]
  simp only [wE, wEs, frz, List.getElem?_cons_zero, List.getElem?_cons_succ]
  refine ⟨v, rfl, hs, fun hv => ?_, q2⟩
  obtain ⟨n, ps, rfl, hval⟩ := enc_of hv
  have q := q1 n ps rfl hval
  have h8 := hval.len
  have h2 := hval.lo
  have h5 := hval.hi
  have hla : (abc.take n).length = n := by simp [abc]; omega
  have hnd : (abc.take n).Nodup := abc_nd.sublist (List.take_sublist _ _)
  have s1 : subD (encV n ps) (.int 1) = some (.tup (encP ps)) := by simp [encV]
  rw [wSs, wS]
  simp only [wE, wEs, frz, List.getElem?_cons_zero, List.getElem?_cons_succ]
  refine ⟨n, ps, rfl, h5, n, ps, rfl, ⟨by omega, bl_len hval⟩, h2, h5, ?_⟩
  try simp only []
  rw [slot_str, slot_str, wSs, wS]
  simp only [wE, frz, List.set_cons_succ, List.set_cons_zero, List.getElem?_cons_zero, List.getElem?_cons_succ, s1, itemsE, onS_s]
  rw [onIt_l]
  refine wLoop_inv (fun i ρ => absF n ps ps 0 = absF n ps (ps.drop i) i ∧ ∃ a b c d e, ρ = [.imm (encV n ps), .imm (.str (abc.take n)), .imm (.str [winF n ps]), a, b, c, d, e]) _ 0 _ ⟨rfl, .no, .no, .no, .no, .no, rfl⟩ (fun i d ρ K hx ⟨hA, a, b, c, d', e', e⟩ hK => ?_) fun ρ ⟨hA, a, b, c, d, e', e⟩ => ?_
  · subst e
    rw [Nat.zero_add] at hK hA
    obtain ⟨y, hy, rfl⟩ := enum_at hx
    unfold encP at hy
    rw [List.getElem?_map] at hy
    obtain ⟨p, hp1, hp2⟩ := Option.map_eq_some_iff.mp hy
    subst hp2
    have hi := lt_of_get' hp1
    have hmem := List.mem_of_getElem? hp1
    have hb5 := bl_len hval p hmem
    have hp20 := (hval.bl p hmem).2.2
    have hdr : ps.drop i = p :: ps.drop (i + 1) := by
      rw [List.drop_eq_getElem_cons hi]
      rw [List.getElem?_eq_getElem hi] at hp1
      cases hp1; rfl
    rw [hdr] at hA
    have hA2 : absF n ps ps 0 = match absI n ps i p.1 p.2 1 with | some t => some (i, t) | none => absF n ps (ps.drop (i + 1)) (i + 1) := hA
    simp only [asgG, asgGs, Option.bind_some, onS_s, List.set_cons_succ, List.set_cons_zero]
    rw [wSs, wS]
    simp only [wE, frz, List.getElem?_cons_zero, List.getElem?_cons_succ, a_int, onS_s]
    refine ⟨by decide, by unfold smallI; simp only [Bool.and_eq_true, decide_eq_true_eq]; omega, ?_⟩
    rw [onIt_l, show ((p.2 : Int) + 1 - 1).toNat = p.2 by omega]
    refine wLoop_inv (fun j ρ => j ≤ p.2 ∧ absI n ps i p.1 p.2 1 = absI n ps i p.1 (p.2 - j) (1 + j) ∧ ∃ d e, ρ = [.imm (encV n ps), .imm (.str (abc.take n)), .imm (.str [winF n ps]), .imm (.int i), .imm (.str p.1), .imm (.int p.2), d, e]) _ 0 _ ⟨by omega, rfl, _, _, rfl⟩ (fun j x ρ K hx ⟨hj, hB, d, e, eq⟩ hK => ?_) fun ρ ⟨hj, hB, d, e, eq⟩ => ?_
    · subst eq
      rw [Nat.zero_add] at hK hB hj
      obtain ⟨hj2, rfl⟩ : j < p.2 ∧ x = .int (1 + (j : Nat)) := by
        unfold rngD at hx
        rw [List.getElem?_map] at hx
        by_cases hq : j < p.2
        · rw [List.getElem?_range hq] at hx
          cases hx; exact ⟨hq, rfl⟩
        · rw [List.getElem?_eq_none (by simp; omega)] at hx
          cases hx
      obtain ⟨r, hr⟩ : ∃ r, p.2 - j = r + 1 := ⟨p.2 - j - 1, by omega⟩
      have hB2 : absI n ps i p.1 p.2 1 = if befB p.1 (winF n (lessP ps i (1 + j))) (winF n ps) = true then some (1 + j) else absI n ps i p.1 r (1 + j + 1) := by rw [hB, hr]; rfl
      simp only [asgG, onS_s, List.set_cons_succ, List.set_cons_zero]
      rw [wSs, wS]
      simp only [wE, wEs, frz, List.getElem?_cons_zero, List.getElem?_cons_succ, s1, onS_s]
      refine ⟨ps, i, 1 + j, ?_, by omega, lessP ps i (1 + j), abc.take n, rfl, less_pok hval _ _, hnd, by omega, abc_take_ne h2, ?_⟩
      · simp
      have hw := way_len (lessP ps i (1 + j)) (abc.take n).length (abc.take n) hnd (abc_take_ne h2)
      have ew : subD (.str (wayF (lessP ps i (1 + j)) (abc.take n))) (.int (-1)) = some (.str [winF n (lessP ps i (1 + j))]) := by
        simp only [subD]
        rw [if_pos (by unfold wayF; rw [hw.2]; omega), show atI (wayF (lessP ps i (1 + j)) (abc.take n)) (-1) = some (winF n (lessP ps i (1 + j))) from atI_last hw.1]
        rfl
      try simp only []
      rw [ew, onS_s, slot_str, wSs, wS]
      simp only [wE, wEs, frz, List.set_cons_succ, List.set_cons_zero, List.getElem?_cons_zero, List.getElem?_cons_succ]
      refine ⟨p.1, _, _, rfl, by omega, ?_⟩
      simp only [onB_b]
      by_cases hb : befB p.1 (winF n (lessP ps i (1 + j))) (winF n ps) = true
      · rw [if_pos hb] at hB2 ⊢
        rw [wSs, wS]
        simp only [wE, wEs, frz, List.getElem?_cons_zero, List.getElem?_cons_succ, List.length_cons, List.length_nil]
        refine ⟨by decide, ?_⟩
        rw [hA2, hB2] at q
        have : optD (some (i, 1 + j)) = .tup [.int i, .int (1 + (j : Nat))] := by simp [optD]
        rw [show (match some (1 + j) with | some t => some (i, t) | none => absF n ps (ps.drop (i + 1)) (i + 1)) = some (i, 1 + j) from rfl, this] at q
        exact q
      · rw [if_neg hb] at hB2 ⊢
        rw [wSs, wSs]
        refine hK _ ⟨by omega, ?_, _, _, rfl⟩
        rw [hB2, show p.2 - (j + 1) = r by omega]
        rfl
    · subst eq
      rw [rngD_len, Nat.zero_add, Nat.sub_self] at hB
      rw [wSs]
      refine hK _ ⟨?_, _, _, _, _, _, rfl⟩
      rw [hA2, hB]
      rfl
  · subst e
    rw [Nat.zero_add, show (enumD (encP ps)).length = ps.length by simp [enumD, encP], List.drop_length] at hA
    rw [wSs, wS]
    simp only [wE, frz]
    rw [hA] at q
    exact q
end PV

set_option Elab.async false
set_option linter.all false
set_option maxRecDepth 100000
set_option maxHeartbeats 1000000
/-! PVy2: ways told by counts alone; absences, plainly. -/
namespace PV
open DL L2
theorem asc_last : ∀ (l : List Nat) (x : Nat), (x :: l).Pairwise (· < ·) → l.foldl max x = (x :: l).getLastD 0
  | [], x, _ => rfl
  | y :: r, x, h => by
    have h1 := List.rel_of_pairwise_cons h (List.mem_cons_self ..)
    rw [List.foldl_cons, show max x y = y by omega, asc_last r y (List.pairwise_cons.mp h).2]
    rfl
theorem out_asc {ps : Ps} {s : List Nat} (h : s.Pairwise (· < ·)) (h0 : s ≠ []) : outL ps s = outF ps s := by
  have h1 : (lastsF ps s).Pairwise (· < ·) := h.sublist List.filter_sublist
  have h2 := lasts_ne (ps := ps) h0
  unfold outL outF
  cases hl : lastsF ps s with
  | nil => exact absurd hl h2
  | cons a r =>
    rw [hl] at h1
    rw [List.foldl_cons, show max 0 a = a by omega, asc_last r a h1]
theorem way_asc (ps : Ps) : ∀ (k : Nat) (s : List Nat), s.Pairwise (· < ·) → wayL ps k s = wayN ps k s
  | 0, s, _ => rfl
  | k + 1, s, h => by
    unfold wayL wayN
    by_cases hl : s.length ≤ 1
    · rw [if_pos hl, if_pos hl]
    · have h0 : s ≠ [] := by intro z; rw [z] at hl; simp at hl
      rw [if_neg hl, if_neg hl, out_asc h h0, way_asc ps k _ (h.filter _)]
theorem lasts_cnt {ps qs : Ps} (h : ∀ s c, cntC ps s c = cntC qs s c) (s : List Nat) : lastsF ps s = lastsF qs s := by
  unfold lastsF
  simp only [h]
theorem way_cnt {ps qs : Ps} (h : ∀ s c, cntC ps s c = cntC qs s c) : ∀ (k : Nat) (s : List Nat), wayN ps k s = wayN qs k s
  | 0, _ => rfl
  | k + 1, s => by
    have e : outF ps s = outF qs s := by unfold outF; rw [lasts_cnt h]
    unfold wayN
    rw [e, way_cnt h k]
theorem cnt_app (a b : Ps) (s : List Nat) (c : Nat) : cntC (a ++ b) s c = cntC a s c + cntC b s c := by
  unfold cntC
  rw [List.filter_append, List.map_append, List.sum_append]
theorem cnt_one (p : List Nat × Nat) (s : List Nat) (c : Nat) : cntC [p] s c = if fstIn p.1 s = some c then p.2 else 0 := by
  unfold cntC
  by_cases h : fstIn p.1 s = some c <;> simp [h]
/-- with a pair at i written anew -/
theorem cnt_set {ps : Ps} {i : Nat} {p : List Nat × Nat} (hp : ps[i]? = some p) (t : Nat) (s : List Nat) (c : Nat) : cntC (ps.set i (p.1, p.2 - t)) s c = cntC (lessP ps i t) s c := by
  have hi := lt_of_get' hp
  have e1 : ps.set i (p.1, p.2 - t) = ps.take i ++ [(p.1, p.2 - t)] ++ ps.drop (i + 1) := by
    rw [List.set_eq_take_append_cons_drop, if_pos hi]; simp
  have e2 : lessP ps i t = ps.take i ++ (if t < p.2 then [(p.1, p.2 - t)] else []) ++ ps.drop (i + 1) := by
    unfold lessP; rw [hp]
  rw [e1, e2, cnt_app, cnt_app, cnt_app, cnt_app]
  congr 2
  split
  · rfl
  · rw [cnt_one]
    show (if _ then p.2 - t else 0) = 0
    rw [show p.2 - t = 0 by omega]; simp
theorem cnt_less {ps : Ps} {i : Nat} {p : List Nat × Nat} (hp : ps[i]? = some p) {t : Nat} (ht : t ≤ p.2) (s : List Nat) (c : Nat) : cntC ps s c = cntC (lessP ps i t) s c + if fstIn p.1 s = some c then t else 0 := by
  have hi := lt_of_get' hp
  rw [← cnt_set hp]
  have e0 : ps = ps.take i ++ [p] ++ ps.drop (i + 1) := by
    have hg : ps[i] = p := by rw [List.getElem?_eq_getElem hi] at hp; exact Option.some.inj hp
    have := List.take_append_drop i ps
    rw [List.drop_eq_getElem_cons hi, hg] at this
    rw [List.append_assoc]; exact this.symm
  have e1 : ps.set i (p.1, p.2 - t) = ps.take i ++ [(p.1, p.2 - t)] ++ ps.drop (i + 1) := by
    rw [List.set_eq_take_append_cons_drop, if_pos hi]; simp
  rw [e1, cnt_app, cnt_app, cnt_one]
  conv => lhs; rw [e0]
  rw [cnt_app, cnt_app, cnt_one]
  show _ + (if fstIn p.1 s = some c then p.2 else 0) + _ = _ + (if fstIn p.1 s = some c then p.2 - t else 0) + _ + _
  split <;> omega
theorem abc_asc (n : Nat) : (abc.take n).Pairwise (· < ·) := by
  have h : abc.Pairwise (· < ·) := by decide
  exact h.sublist (List.take_sublist _ _)
/-- the law's own way of pairs with one written anew ends with the winner of those with less -/
theorem win_less {n : Nat} {ps : Ps} {i : Nat} {p : List Nat × Nat} (hp : ps[i]? = some p) (t : Nat) : (wayL (ps.set i (p.1, p.2 - t)) (abc.take n).length (abc.take n)).getLastD 0 = winF n (lessP ps i t) := by
  rw [way_asc _ _ _ (abc_asc n), way_cnt fun s c => cnt_set hp t s c]
  rfl
theorem bef_self (b : List Nat) (x : Nat) : befB b x x = false := by
  unfold befB
  cases idxL b x <;> simp
theorem abs_none {n : Nat} {ps : Ps} {i : Nat} {b : List Nat} : ∀ (k j : Nat), (∀ t, j ≤ t → t < j + k → befB b (winF n (lessP ps i t)) (winF n ps) = false) → absI n ps i b k j = none
  | 0, _, _ => rfl
  | k + 1, j, h => by
    unfold absI
    rw [if_neg (by rw [h j (by omega) (by omega)]; simp)]
    exact abs_none k (j + 1) fun t h1 h2 => h t (by omega) (by omega)
/-- with two candidates no absence helps -/
theorem two_abs (ps : Ps) : ∀ (l : Ps) (i : Nat), l = ps.drop i → absF 2 ps l i = none
  | [], _, _ => rfl
  | p :: r, i, h => by
    have hp : ps[i]? = some p := by
      have := congrArg (·[0]?) h
      simpa using this.symm
    have hr : r = ps.drop (i + 1) := by
      have := congrArg (·.drop 1) h
      simpa [List.drop_drop, Nat.add_comm] using this
    have key : absI 2 ps i p.1 p.2 1 = none := by
      refine abs_none _ _ fun t h1 h2 => ?_
      have ca := cnt_less hp (show t ≤ p.2 by omega) [97, 98] 97
      have cb := cnt_less hp (show t ≤ p.2 by omega) [97, 98] 98
      have ba := fst_bef (x := 97) (y := 98) (by decide) [97, 98] (by simp) p.1
      have bb := fst_bef (x := 98) (y := 97) (by decide) [97, 98] (by simp [or_comm]) p.1
      rw [win_two, win_two]
      by_cases g1 : cntC ps [97, 98] 97 < cntC ps [97, 98] 98
      · rw [if_pos g1]
        by_cases g2 : cntC (lessP ps i t) [97, 98] 97 < cntC (lessP ps i t) [97, 98] 98
        · rw [if_pos g2]; exact bef_self _ _
        · rw [if_neg g2]
          cases hb : befB p.1 97 98 with
          | false => rfl
          | true =>
            rw [hb, decide_eq_true_iff] at ba
            rw [ba, if_pos rfl] at ca
            rw [ba, if_neg (by simp)] at cb
            omega
      · rw [if_neg g1]
        by_cases g2 : cntC (lessP ps i t) [97, 98] 97 < cntC (lessP ps i t) [97, 98] 98
        · rw [if_pos g2]
          cases hb : befB p.1 98 97 with
          | false => rfl
          | true =>
            rw [hb, decide_eq_true_iff] at bb
            rw [bb, if_pos rfl] at cb
            rw [bb, if_neg (by simp)] at ca
            omega
        · rw [if_neg g2]; exact bef_self _ _
    show (match absI 2 ps i p.1 p.2 1 with | some t => some (i, t) | none => absF 2 ps r (i + 1)) = none
    rw [key]
    exact two_abs ps r (i + 1) hr
end PV

set_option Elab.async false
set_option linter.all false
set_option maxRecDepth 100000
/-! PV5: all ballots, orders. -/
namespace PV
open DL
/-- a letter more behind each of a level's ballots -/
def nextB (s : List Nat) (lv : List (List Nat)) : List (List Nat) := lv.flatMap fun b => (s.filter fun c => !decide (c ∈ b)).map fun c => b ++ [c]
/-- k levels' ballots -/
def lvlB (s : List Nat) : Nat → List (List Nat) → List (List Nat)
  | 0, _ => []
  | k + 1, lv => nextB s lv ++ lvlB s k (nextB s lv)
def allB (s : List Nat) : List (List Nat) := sortL (lvlB s s.length [[]])
def S_all_ballots : FS := fun ds Q _ => ∃ s : List Nat, ds = [.str s] ∧ s.Nodup ∧ s.length ≤ 4 ∧ Q (.lst ((allB s).map .str))
def S__law_all_ballots : FS := S_all_ballots
/-- the pair at i given another ballot -/
def ordP (ps : Ps) (i : Nat) (b : List Nat) : Ps := match ps[i]? with
  | some p => ps.set i (b, p.2)
  | none => ps
def ordI (n : Nat) (ps : Ps) (i : Nat) (b : List Nat) : List (List Nat) → Option (List Nat)
  | [] => none
  | o :: r => if befB b (winF n (ordP ps i o)) (winF n ps) = true then some o else ordI n ps i b r
def ordF (n : Nat) (ps : Ps) : Ps → Nat → Option (Nat × List Nat)
  | [], _ => none
  | p :: r, i => match ordI n ps i p.1 (allB (abc.take n)) with
    | some o => some (i, o)
    | none => ordF n ps r (i + 1)
def ordD : Option (Nat × List Nat) → D
  | none => .non
  | some (i, o) => .tup [.int i, .str o]
def S_order_that_helps : FS := fun ds Q X => ∃ v, ds = [v] ∧ sm v = true ∧ (∀ n ps, v = encV n ps → Val n ps → n ≤ 4 ∧ Q (ordD (ordF n ps ps 0))) ∧ (isVotes v = false → X 0)
end PV

set_option Elab.async false
set_option linter.all false
set_option maxRecDepth 100000
/-! Printed by gen.py: the forms over data. -/
namespace PV
open DL
def m_all_ballots : List MS := [.par 1 2 [] (.lst []) (.lst [.con (.str [])]), .for (.nm 3) [] (.var 0) [.asg (.nm 4) [] (.lst []), .for (.nm 5) [2] (.var 2) [.asg (.nm 4) [] (.bin .add (.peek 4) (.lc (.nm 6) (.peek 0) [.cmp .nin (.peek 6) (.peek 5)] (.bin .add (.peek 5) (.peek 6))))], .par 1 2 [4] (.bin .add (.peek 1) (.peek 4)) (.var 4)], .ret [] (.b1 .sorted (.peek 1))]
def m_order_that_helps : List MS := [.expr [] (.call S_need_votes [.var 0]), .asg (.tp [.nm 1, .nm 2]) [] (.tup [.call S_candidates_of [.var 0], .call S_winner_of [.var 0]]), .for (.tp [.nm 3, .tp [.nm 4, .nm 5]]) [] (.enum (.sub (.peek 0) (.con (.int 1)))) [.asg (.nm 6) [] (.call S_without [.sub (.peek 0) (.con (.int 1)), .var 3, .var 5]), .asg (.nm 7) [] (.lc (.nm 9) (.peek 1) [.and (.call S_is_before [.var 4, .var 9, .var 2]) (.cmp .ne (.peek 9) (.peek 2))] (.var 9)), .for (.nm 8) [] (.ife (.cmp .ne (.peek 7) (.lst [])) (.call S_all_ballots [.var 1]) (.lst [])) [.ifs (.and (.cmp .ne (.peek 8) (.peek 4)) (.cmp .inn (.sub (.call S_way_of [.bin .add (.peek 6) (.tup [.tup [.var 8, .var 5]]), .var 1]) (.neg (.con (.int 1)))) (.peek 7))) [.ret [] (.tup [.var 3, .var 8])] []]], .ret [] (.con .non)]
def m__law_all_ballots : List MS := [.par 1 2 [] (.lst []) (.lst [.con (.str [])]), .for (.nm 3) [] (.var 0) [.asg (.nm 4) [] (.lst []), .for (.nm 5) [2] (.var 2) [.asg (.nm 4) [] (.bin .add (.peek 4) (.lc (.nm 6) (.peek 0) [.cmp .nin (.peek 6) (.peek 5)] (.bin .add (.peek 5) (.peek 6))))], .par 1 2 [4] (.bin .add (.peek 1) (.peek 4)) (.var 4)], .ret [] (.b1 .sorted (.peek 1))]
end PV

set_option Elab.async false
set_option linter.all false
set_option maxRecDepth 100000
set_option maxHeartbeats 1000000
/-! PVg: all ballots. -/
namespace PV
open DL L2
theorem nextB_len (s : List Nat) (hs : s.length ≤ 4) : ∀ lv : List (List Nat), (nextB s lv).length ≤ 4 * lv.length
  | [] => by simp [nextB]
  | b :: r => by
    have ih := nextB_len s hs r
    have h1 : (s.filter fun c => !decide (c ∈ b)).length ≤ s.length := List.length_filter_le ..
    unfold nextB at ih ⊢
    rw [List.flatMap_cons, List.length_append, List.length_map, List.length_cons]
    omega
theorem nextB_snoc (s : List Nat) (lv : List (List Nat)) (b : List Nat) : nextB s (lv ++ [b]) = nextB s lv ++ (s.filter fun c => !decide (c ∈ b)).map fun c => b ++ [c] := by
  unfold nextB
  rw [List.flatMap_append]
  simp
theorem nextB_mem {s : List Nat} {lv : List (List Nat)} {x : List Nat} (h : x ∈ nextB s lv) : ∃ b ∈ lv, x.length = b.length + 1 := by
  unfold nextB at h
  obtain ⟨b, hb, hx⟩ := List.mem_flatMap.mp h
  obtain ⟨c, _, rfl⟩ := List.mem_map.mp hx
  exact ⟨b, hb, by simp⟩
theorem all_core (s : List Nat) (hn : s.Nodup) (h4 : s.length ≤ 4) (Q : D → Prop) (X : Nat → Prop) (q : Q (.lst ((allB s).map .str))) : wSs m_all_ballots (envD 7 [.str s]) (fun _ => Q .non) Q X := by
  rw [show envD 7 [.str s] = [.imm (.str s), .no, .no, .no, .no, .no, .no] from rfl]
  rw [m_all_ballots, wSs, wS]
  simp only [wE, wEs, frz, List.length_nil, List.length_cons]
  refine ⟨by decide, by decide, ?_⟩
  rw [slot_new rfl, slot_new rfl, wSs, wS]
  simp only [wE, frz, List.set_cons_succ, List.set_cons_zero, List.getElem?_cons_zero, List.getElem?_cons_succ]
  rw [onIt_s]
  refine wLoop_inv (fun i ρ => i ≤ s.length → ∃ (F lv : List (List Nat)) (x2 a b c : Slot), F ++ lvlB s (s.length - i) lv = lvlB s s.length [[]] ∧ lv.length ≤ 4 ^ i ∧ 3 * F.length + 4 ≤ 4 ^ (i + 1) ∧ (∀ t ∈ lv, t.length ≤ i) ∧ (x2 = .own (.lst (lv.map .str)) ∨ x2 = .imm (.lst (lv.map .str))) ∧
    ρ = [.imm (.str s), .own (.lst (F.map .str)), x2, a, b, c, .no]) _ 0 _ (fun _ => ⟨[], [[]], _, .no, .no, .no, rfl, by decide, by decide, by simp, .inl rfl, rfl⟩) (fun i x ρ K hx hI hK => ?_) fun ρ hI => ?_
  · have hi : i < s.length := by
      have := lt_of_get' hx
      simpa [chars] using this
    rw [Nat.zero_add] at hI hK
    have hJ := hI (Nat.le_of_lt hi)
    clear hI
    obtain ⟨F, lv, x2, a, b, c, he, h1, h2, h3, hx2, rfl⟩ := hJ
    have h64 : (4 : Nat) ^ (i + 1) ≤ 4 ^ 4 := Nat.pow_le_pow_right (by decide) (by omega)
    have h65 : (4 : Nat) ^ (i + 1) = 4 * 4 ^ i := by rw [Nat.pow_succ]; omega
    have h66 : (4 : Nat) ^ (i + 1 + 1) = 4 * 4 ^ (i + 1) := by rw [Nat.pow_succ]; omega
    have h67 : (4 : Nat) ^ 4 = 256 := by decide
    have hnl := nextB_len s h4 lv
    simp only [asgG, onS_s, List.set_cons_succ, List.set_cons_zero]
    rw [wSs, wS]
    simp only [wE, wEs, frz, List.length_nil]
    refine ⟨by decide, ?_⟩
    rw [slot_new rfl, wSs, wS]
    have ef : frz [2] (([.imm (.str s), .own (.lst (F.map .str)), x2, .imm x, b, c, .no] : DEnv).set 4 (.own (.lst []))) = [.imm (.str s), .own (.lst (F.map .str)), .imm (.lst (lv.map .str)), .imm x, .own (.lst []), c, .no] := by
      rcases hx2 with rfl | rfl <;> rfl
    rw [ef]
    simp only [wE, List.getElem?_cons_zero, List.getElem?_cons_succ]
    rw [onIt_l]
    refine wLoop_inv (fun j ρ => ∃ c, ρ = [.imm (.str s), .own (.lst (F.map .str)), .imm (.lst (lv.map .str)), .imm x, .own (.lst ((nextB s (lv.take j)).map .str)), c, .no]) _ 0 _ ⟨c, rfl⟩ (fun j y ρ K hy ⟨c, e⟩ hK => ?_) fun ρ ⟨c, e⟩ => ?_
    · subst e
      rw [Nat.zero_add] at hK ⊢
      rw [List.getElem?_map] at hy
      obtain ⟨t, ht, rfl⟩ := Option.map_eq_some_iff.mp hy
      have htl := h3 t (List.mem_of_getElem? ht)
      have htk : lv.take (j + 1) = lv.take j ++ [t] := by
        rw [List.take_succ, ht]; rfl
      simp only [asgG, onS_s, List.set_cons_succ, List.set_cons_zero]
      rw [wSs, wS]
      simp only [wE, frz, List.getElem?_cons_zero, List.getElem?_cons_succ, MG.slots, wipeD, List.set_cons_succ, List.set_cons_zero]
      refine ⟨rfl, ?_⟩
      rw [onIt_s]
      refine wLC_pure (fun d => match d with | .str [c] => !decide (c ∈ t) | _ => false) (fun d => match d with | .str [c] => .str (t ++ [c]) | _ => .non) _ [] _ (by simp [chars]; omega) (fun d hd => ?_) ?_
      · simp only [chars, List.mem_map] at hd
        obtain ⟨c0, _, rfl⟩ := hd
        refine ⟨_, rfl, fun K k => ?_, fun _ K k => ?_⟩
        · simpa [wIfs, wE] using k
        · simp only [wE, List.set_cons_succ, List.set_cons_zero, List.getElem?_cons_zero, List.getElem?_cons_succ]
          rw [a_str _ _ (by simp; omega), onS_s]
          exact k
      have e : ((chars s).filter (fun d => match d with | .str [c] => !decide (c ∈ t) | _ => false)).map (fun d => match d with | .str [c] => D.str (t ++ [c]) | _ => .non) = ((s.filter fun c => !decide (c ∈ t)).map fun c => t ++ [c]).map .str := by
        unfold chars
        rw [List.filter_map, List.map_map, List.map_map]
        rfl
      have l1 := nextB_len s h4 (lv.take j)
      have l2 : (lv.take j).length ≤ lv.length := by rw [List.length_take]; omega
      have l3 : (s.filter fun c => !decide (c ∈ t)).length ≤ s.length := List.length_filter_le ..
      rw [List.nil_append, e, a_lst _ _ (by simp only [List.length_map]; omega), onS_s, slot_new rfl, wSs]
      refine hK _ ⟨.imm (.str t), ?_⟩
      rw [htk, nextB_snoc, List.map_append]
    · subst e
      rw [Nat.zero_add, List.length_map, List.take_length]
      rw [wSs, wS]
      simp only [wE, frz, frz1, Slot.frz, List.getElem?_cons_zero, List.getElem?_cons_succ]
      rw [a_lst _ _ (by simp only [List.length_map]; omega), onS_s, slot_new rfl, slot_old rfl, wSs]
      simp only [List.set_cons_succ, List.set_cons_zero]
      refine hK _ fun _ => ⟨F ++ nextB s lv, nextB s lv, _, _, _, _, ?_, by omega, by rw [List.length_append]; omega, ?_, .inr rfl, by rw [List.map_append]⟩
      · rw [← he, List.append_assoc]
        congr 1
        obtain ⟨k, hk⟩ : ∃ k, s.length - i = k + 1 := ⟨s.length - i - 1, by omega⟩
        rw [hk, show s.length - (i + 1) = k by omega]
        rfl
      · intro t ht
        obtain ⟨b, hb, e⟩ := nextB_mem ht
        have := h3 b hb
        omega
  · have hz : (chars s).length = s.length := by simp [chars]
    rw [hz, Nat.zero_add] at hI
    have hJ := hI (Nat.le_refl _)
    clear hI
    obtain ⟨F, lv, x2, a, b, c, he, h1, h2, h3, hx2, rfl⟩ := hJ
    have h64 : (4 : Nat) ^ (s.length + 1) ≤ 4 ^ 5 := Nat.pow_le_pow_right (by decide) (by omega)
    have h67 : (4 : Nat) ^ 5 = 1024 := by decide
    rw [Nat.sub_self] at he
    have he : F ++ [] = lvlB s s.length [[]] := he
    rw [List.append_nil] at he
    rw [wSs, wS]
    simp only [wE, frz, List.getElem?_cons_zero, List.getElem?_cons_succ]
    have e : b1D .sorted (.lst (F.map .str)) = some (.lst ((sortL F).map .str)) := by
      simp only [b1D, strs_str, Option.bind_some]
      rw [if_pos (by omega)]
    rw [e, onS_s, he]
    exact q
theorem obl_all_ballots : ∀ ds Q X, S_all_ballots ds Q X → wSs m_all_ballots (envD 7 ds) (fun _ => Q .non) Q X := by
  rintro _ Q X ⟨s, rfl, hn, h4, q⟩
  exact all_core s hn h4 Q X q
theorem obl__law_all_ballots : ∀ ds Q X, S__law_all_ballots ds Q X → wSs m__law_all_ballots (envD 7 ds) (fun _ => Q .non) Q X := by
  rintro _ Q X ⟨s, rfl, hn, h4, q⟩
  exact all_core s hn h4 Q X q
end PV

set_option Elab.async false
set_option linter.all false
set_option maxRecDepth 100000
set_option maxHeartbeats 1000000
/-! PVg2: another order of a pair. -/
namespace PV
open DL L2
theorem wayN_mem (ps : Ps) : ∀ (k : Nat) (s : List Nat), ∀ c ∈ wayN ps k s, c ∈ s
  | 0, s, c, h => h
  | k + 1, s, c, h => by
    unfold wayN at h
    by_cases hl : s.length ≤ 1
    · rw [if_pos hl] at h; exact h
    · rw [if_neg hl] at h
      rcases List.mem_cons.mp h with rfl | h
      · exact out_mem (by intro z; rw [z] at hl; simp at hl)
      · exact (List.mem_filter.mp (wayN_mem ps k _ c h)).1
theorem win_mem {n : Nat} (ps : Ps) (h2 : 2 ≤ n) : winF n ps ∈ abc.take n := by
  have hnd : (abc.take n).Nodup := abc_nd.sublist (List.take_sublist _ _)
  have hw := way_len ps (abc.take n).length (abc.take n) hnd (abc_take_ne h2)
  exact wayN_mem ps _ _ _ (getLastD_mem hw.1)
theorem lvlB_len (s : List Nat) : ∀ (k : Nat) (lv : List (List Nat)) (m : Nat), (∀ t ∈ lv, t.length ≤ m) → ∀ t ∈ lvlB s k lv, t.length ≤ m + k
  | 0, _, _, _, t, h => by cases h
  | k + 1, lv, m, hm, t, h => by
    have h' : t ∈ nextB s lv ++ lvlB s k (nextB s lv) := h
    have hn : ∀ t ∈ nextB s lv, t.length ≤ m + 1 := fun t ht => by
      obtain ⟨b, hb, e⟩ := nextB_mem ht
      have := hm b hb
      omega
    rcases List.mem_append.mp h' with h | h
    · have := hn t h; omega
    · have := lvlB_len s k _ (m + 1) hn t h; omega
theorem allB_len {s t : List Nat} (h : t ∈ allB s) : t.length ≤ s.length := by
  have h' : t ∈ lvlB s s.length [[]] := (List.mergeSort_perm _ _).mem_iff.mp h
  have := lvlB_len s s.length [[]] 0 (by simp) t h'
  omega
theorem ordP_at {ps : Ps} {i : Nat} {p : List Nat × Nat} (hp : ps[i]? = some p) (o : List Nat) : ordP ps i o = ps.set i (o, p.2) := by
  unfold ordP; rw [hp]
theorem cnt_ord {ps : Ps} {i : Nat} {p : List Nat × Nat} (hp : ps[i]? = some p) (o s : List Nat) (c : Nat) : cntC (ps.set i (o, p.2)) s c = cntC (lessP ps i p.2) s c + if fstIn o s = some c then p.2 else 0 := by
  have hi := lt_of_get' hp
  have e1 : ps.set i (o, p.2) = ps.take i ++ [(o, p.2)] ++ ps.drop (i + 1) := by
    rw [List.set_eq_take_append_cons_drop, if_pos hi]; simp
  have e2 : lessP ps i p.2 = ps.take i ++ ps.drop (i + 1) := by
    unfold lessP; rw [hp]; simp
  rw [e1, e2, cnt_app, cnt_app, cnt_app, cnt_one]
  show _ + (if fstIn o s = some c then p.2 else 0) + _ = _
  omega
/-- behind those left -/
theorem win_ord {n : Nat} {ps : Ps} {i : Nat} {p : List Nat × Nat} (hp : ps[i]? = some p) (o : List Nat) : winF n (lessP ps i p.2 ++ [(o, p.2)]) = winF n (ordP ps i o) := by
  unfold winF wayF
  rw [way_cnt fun s c => ?_]
  rw [ordP_at hp, cnt_ord hp, cnt_app, cnt_one]
theorem ord_self {ps : Ps} {i : Nat} {p : List Nat × Nat} (hp : ps[i]? = some p) : ordP ps i p.1 = ps := by
  rw [ordP_at hp]
  have hi := lt_of_get' hp
  have : ps[i] = (p.1, p.2) := by
    rw [List.getElem?_eq_getElem hi] at hp
    cases hp; rfl
  rw [← this, List.set_getElem_self]
theorem ordI_none {n : Nat} {ps : Ps} {i : Nat} {b : List Nat} : ∀ l : List (List Nat), (∀ o ∈ l, befB b (winF n (ordP ps i o)) (winF n ps) = false) → ordI n ps i b l = none
  | [], _ => rfl
  | o :: r, h => by
    unfold ordI
    rw [if_neg (by rw [h o (by simp)]; simp)]
    exact ordI_none r fun x hx => h x (by simp [hx])
theorem two_ord (ps : Ps) : ∀ (l : Ps) (i : Nat), l = ps.drop i → ordF 2 ps l i = none
  | [], _, _ => rfl
  | p :: r, i, h => by
    have hp : ps[i]? = some p := by
      have := congrArg (·[0]?) h
      simpa using this.symm
    have hr : r = ps.drop (i + 1) := by
      have := congrArg (·.drop 1) h
      simpa [List.drop_drop, Nat.add_comm] using this
    have key : ordI 2 ps i p.1 (allB (abc.take 2)) = none := by
      refine ordI_none _ fun o _ => ?_
      have ca := cnt_less hp (Nat.le_refl p.2) [97, 98] 97
      have cb := cnt_less hp (Nat.le_refl p.2) [97, 98] 98
      have da := cnt_ord hp o [97, 98] 97
      have db := cnt_ord hp o [97, 98] 98
      have ba := fst_bef (x := 97) (y := 98) (by decide) [97, 98] (by simp) p.1
      have bb := fst_bef (x := 98) (y := 97) (by decide) [97, 98] (by simp [or_comm]) p.1
      rw [ordP_at hp, win_two, win_two]
      by_cases g1 : cntC ps [97, 98] 97 < cntC ps [97, 98] 98
      · rw [if_pos g1]
        by_cases g2 : cntC (ps.set i (o, p.2)) [97, 98] 97 < cntC (ps.set i (o, p.2)) [97, 98] 98
        · rw [if_pos g2]; exact bef_self _ _
        · rw [if_neg g2]
          cases hb : befB p.1 97 98 with
          | false => rfl
          | true =>
            rw [hb, decide_eq_true_iff] at ba
            rw [ba, if_pos rfl] at ca
            rw [ba, if_neg (by simp)] at cb
            split at da <;> split at db <;> omega
      · rw [if_neg g1]
        by_cases g2 : cntC (ps.set i (o, p.2)) [97, 98] 97 < cntC (ps.set i (o, p.2)) [97, 98] 98
        · rw [if_pos g2]
          cases hb : befB p.1 98 97 with
          | false => rfl
          | true =>
            rw [hb, decide_eq_true_iff] at bb
            rw [bb, if_pos rfl] at cb
            rw [bb, if_neg (by simp)] at ca
            split at da <;> split at db <;> omega
        · rw [if_neg g2]; exact bef_self _ _
    show (match ordI 2 ps i p.1 (allB (abc.take 2)) with | some o => some (i, o) | none => ordF 2 ps r (i + 1)) = none
    rw [key]
    exact two_ord ps r (i + 1) hr
theorem wayL_set {n : Nat} {ps : Ps} {i : Nat} {p : List Nat × Nat} (hp : ps[i]? = some p) (o : List Nat) : (wayL (ps.set i (o, p.2)) (abc.take n).length (abc.take n)).getLastD 0 = winF n (ordP ps i o) := by
  rw [way_asc _ _ _ (abc_asc n), ordP_at hp]
  rfl
theorem mem_cs (c : Nat) (l : List Nat) : ((chars l).any fun z => D.eqv z (.str [c])) = decide (c ∈ l) := by
  rw [chars, List.any_map, Bool.eq_iff_iff, List.any_eq_true, decide_eq_true_iff]
  constructor
  · rintro ⟨z, hz, e⟩
    simp only [Function.comp, ev_str, beq_iff_eq, List.cons.injEq, and_true] at e
    exact e ▸ hz
  · intro h
    exact ⟨c, h, by simp⟩
theorem c_in_cs (c : Nat) (l : List Nat) : cmpD .inn (.str [c]) (.lst (chars l)) = some (decide (c ∈ l)) := by
  rw [c_inL, eqOk_f rfl (by rw [pl_lst]; exact chars_pls _) (.inl (by simp)), if_pos rfl, mem_cs]
theorem obl_order_that_helps : ∀ ds Q X, S_order_that_helps ds Q X → wSs m_order_that_helps (envD 10 ds) (fun _ => Q .non) Q X := by
  rintro _ Q X ⟨v, rfl, hs, q1, q2⟩
  rw [show envD 10 [v] = [.imm v, .no, .no, .no, .no, .no, .no, .no, .no, .no] from rfl]
  rw [m_order_that_helps, wSs, wS]
  simp only [wE, wEs, frz, List.getElem?_cons_zero, List.getElem?_cons_succ]
  refine ⟨v, rfl, hs, fun hv => ?_, q2⟩
  obtain ⟨n, ps, rfl, hval⟩ := enc_of hv
  obtain ⟨h4, q⟩ := q1 n ps rfl hval
  have h8 := hval.len
  have h2 := hval.lo
  have h5 := hval.hi
  have hla : (abc.take n).length = n := by simp [abc]; omega
  have hnd : (abc.take n).Nodup := abc_nd.sublist (List.take_sublist _ _)
  have s1 : subD (encV n ps) (.int 1) = some (.tup (encP ps)) := by simp [encV]
  rw [wSs]
  simp only [wS, wE, wEs, frz, List.getElem?_cons_zero, List.getElem?_cons_succ]
  refine ⟨n, ps, rfl, h5, n, ps, rfl, ⟨by omega, bl_len hval⟩, h2, h5, ?_⟩
  try simp only []
  refine ⟨by simp, ?_⟩
  simp only [asgG, asgGs, Option.bind_some, onS_s, List.set_cons_succ, List.set_cons_zero]
  rw [wSs, wS]
  simp only [wE, frz, List.set_cons_succ, List.set_cons_zero, List.getElem?_cons_zero, List.getElem?_cons_succ, s1, itemsE, onS_s]
  rw [onIt_l]
  refine wLoop_inv (fun i ρ => ordF n ps ps 0 = ordF n ps (ps.drop i) i ∧ ∃ a b c d e f, ρ = [.imm (encV n ps), .imm (.str (abc.take n)), .imm (.str [winF n ps]), a, b, c, d, e, f, .no]) _ 0 _ ⟨rfl, .no, .no, .no, .no, .no, .no, rfl⟩ (fun i d ρ K hx ⟨hA, a, b, c, d', e', f, e⟩ hK => ?_) fun ρ ⟨hA, a, b, c, d, e', f, e⟩ => ?_
  · subst e
    rw [Nat.zero_add] at hK hA
    obtain ⟨y, hy, rfl⟩ := enum_at hx
    unfold encP at hy
    rw [List.getElem?_map] at hy
    obtain ⟨p, hp1, hp2⟩ := Option.map_eq_some_iff.mp hy
    subst hp2
    have hi := lt_of_get' hp1
    have hmem := List.mem_of_getElem? hp1
    have hb5 := bl_len hval p hmem
    have hp20 := (hval.bl p hmem).2.2
    have hdr : ps.drop i = p :: ps.drop (i + 1) := by
      rw [List.drop_eq_getElem_cons hi]
      rw [List.getElem?_eq_getElem hi] at hp1
      cases hp1; rfl
    rw [hdr] at hA
    have hA2 : ordF n ps ps 0 = match ordI n ps i p.1 (allB (abc.take n)) with | some o => some (i, o) | none => ordF n ps (ps.drop (i + 1)) (i + 1) := hA
    simp only [asgG, asgGs, Option.bind_some, onS_s, List.set_cons_succ, List.set_cons_zero]
    rw [wSs, wS]
    simp only [wE, wEs, frz, List.getElem?_cons_zero, List.getElem?_cons_succ, s1, onS_s]
    refine ⟨ps, i, p.2, rfl, by omega, ?_⟩
    try simp only []
    rw [slot_tup, wSs, wS]
    simp only [wE, wEs, frz, List.getElem?_cons_zero, List.getElem?_cons_succ, MG.slots, MG.slotss, List.cons_append, List.nil_append, wipeD, List.set_cons_succ, List.set_cons_zero]
    refine ⟨rfl, ?_⟩
    rw [onIt_s]
    refine wLC_pure (fun d => match d with | .str [c] => befB p.1 c (winF n ps) && !(c == winF n ps) | _ => false) id _ [] _ (by simp [chars]; omega) (fun d hd => ?_) ?_
    · simp only [chars, List.mem_map] at hd
      obtain ⟨c0, _, rfl⟩ := hd
      refine ⟨_, rfl, fun K k => ?_, fun _ K k => ?_⟩
      · simp only [wIfs, wE, wEs, List.set_cons_succ, List.set_cons_zero, List.getElem?_cons_zero, List.getElem?_cons_succ]
        refine ⟨p.1, _, _, rfl, by omega, ?_⟩
        simp only [onB_b]
        have k : K (befB p.1 c0 (winF n ps) && !(c0 == winF n ps)) := k
        cases hb : befB p.1 c0 (winF n ps) with
        | false => rw [hb] at k; simpa using k
        | true =>
          rw [hb, Bool.true_and] at k
          simp only [if_true, c_ne, eqOk_f (x := .str _) (y := .str _) rfl rfl (.inl (by simp)), ev_str, onS_s, onB_b]
          rw [show (([c0] : List Nat) == [winF n ps]) = (c0 == winF n ps) by simp]
          exact k
      · simpa [wE] using k
    obtain ⟨g, hg⟩ : ∃ g, g = (abc.take n).filter fun c => befB p.1 c (winF n ps) && !(c == winF n ps) := ⟨_, rfl⟩
    have eg : (chars (abc.take n)).filter (fun d => match d with | .str [c] => befB p.1 c (winF n ps) && !(c == winF n ps) | _ => false) = chars g := by
      rw [hg]; unfold chars; rw [List.filter_map]; rfl
    have mg : ∀ o, decide (winF n (ordP ps i o) ∈ g) = befB p.1 (winF n (ordP ps i o)) (winF n ps) := fun o => by
      rw [Bool.eq_iff_iff, decide_eq_true_iff, hg, List.mem_filter]
      constructor
      · intro z; rw [Bool.and_eq_true] at z; exact z.2.1
      · intro z
        refine ⟨win_mem _ h2, ?_⟩
        rw [z, Bool.true_and, Bool.not_eq_true', beq_eq_false_iff_ne]
        intro w
        rw [w, bef_self] at z; cases z
    rw [List.nil_append, List.map_id, eg, slot_new rfl, wSs, wS]
    simp only [wE, wEs, frz, List.set_cons_succ, List.set_cons_zero, List.getElem?_cons_zero, List.getElem?_cons_succ, List.length_nil]
    refine ⟨by decide, ?_⟩
    rw [c_ne, eqOk_f (by rw [pl_lst]; exact chars_pls _) rfl (.inr (by simp)), if_pos rfl]
    simp only [onS_s, onB_b, ev_lst]
    have next : ∀ d e f, ordI n ps i p.1 (allB (abc.take n)) = none → K [.imm (encV n ps), .imm (.str (abc.take n)), .imm (.str [winF n ps]), .imm (.int i), .imm (.str p.1), .imm (.int p.2), d, e, f, .no] := fun d e f z => by
      refine hK _ ⟨?_, _, _, _, _, _, _, rfl⟩
      rw [hA2, z]
    cases hgc : g with
    | nil =>
      show (if (!D.eqvs (chars []) []) = true then _ else _)
      rw [if_neg (by decide)]
      refine ⟨by decide, ?_⟩
      rw [onIt_l]
      rw [wLoop]
      try simp only [wSs]
      refine next _ _ _ (ordI_none _ fun o _ => ?_)
      rw [← mg o, hgc]; rfl
    | cons g0 gr =>
      rw [show D.eqvs (chars (g0 :: gr)) [] = false from rfl]
      simp only [Bool.not_false, if_true]
      rw [← hgc]
      refine ⟨abc.take n, rfl, hnd, by omega, ?_⟩
      try simp only []
      rw [onIt_l]
      refine wLoop_inv (fun j ρ => ordI n ps i p.1 (allB (abc.take n)) = ordI n ps i p.1 ((allB (abc.take n)).drop j) ∧ ∃ f, ρ = [.imm (encV n ps), .imm (.str (abc.take n)), .imm (.str [winF n ps]), .imm (.int i), .imm (.str p.1), .imm (.int p.2), .imm (.tup (encP (lessP ps i p.2))), .own (.lst (chars g)), f, .no]) _ 0 _ ⟨rfl, f, rfl⟩ (fun j x ρ K hx ⟨hB, f, eq⟩ hK => ?_) fun ρ ⟨hB, f, eq⟩ => ?_
      · subst eq
        rw [Nat.zero_add] at hK hB
        rw [List.getElem?_map] at hx
        obtain ⟨o, ho, rfl⟩ := Option.map_eq_some_iff.mp hx
        have hj := lt_of_get' ho
        have hol := allB_len (List.mem_of_getElem? ho)
        have hdj : (allB (abc.take n)).drop j = o :: (allB (abc.take n)).drop (j + 1) := by
          rw [List.drop_eq_getElem_cons hj]
          rw [List.getElem?_eq_getElem hj] at ho
          cases ho; rfl
        rw [hdj] at hB
        have hB2 : ordI n ps i p.1 (allB (abc.take n)) = if befB p.1 (winF n (ordP ps i o)) (winF n ps) = true then some o else ordI n ps i p.1 ((allB (abc.take n)).drop (j + 1)) := hB
        simp only [asgG, onS_s, List.set_cons_succ, List.set_cons_zero]
        rw [wSs, wS]
        simp only [wE, frz, List.getElem?_cons_zero, List.getElem?_cons_succ, c_ne, eqOk_f (x := .str _) (y := .str _) rfl rfl (.inl (by simp)), if_true, ev_str, onS_s, onB_b]
        by_cases he : o = p.1
        · rw [show (!(o == p.1)) = false from by simp [he]]
          simp only [Bool.false_eq_true, if_false]
          rw [wSs, wSs]
          refine hK _ ⟨?_, _, rfl⟩
          rw [hB2, he, ord_self hp1, bef_self]; rfl
        · rw [show (!(o == p.1)) = true from by simp [he]]
          simp only [if_true, wEs]
          simp only [wE, wEs, List.getElem?_cons_zero, List.getElem?_cons_succ, List.length_cons, List.length_nil]
          refine ⟨by decide, by decide, ?_⟩
          have hll := less_len ps i p.2
          rw [a_tup _ _ (by simp only [encP, List.length_map, List.length_cons, List.length_nil]; omega), onS_s]
          have hpk : Pok (lessP ps i p.2 ++ [(o, p.2)]) := by
            refine ⟨by rw [List.length_append, List.length_cons, List.length_nil]; omega, fun q hq => ?_⟩
            rcases List.mem_append.mp hq with hq | hq
            · exact (less_pok hval i p.2).bl q hq
            · rw [List.mem_singleton] at hq
              rw [hq]; simp only; omega
          refine ⟨lessP ps i p.2 ++ [(o, p.2)], abc.take n, by rw [encP_app]; rfl, hpk, hnd, by omega, abc_take_ne h2, ?_⟩
          have hw := way_len (lessP ps i p.2 ++ [(o, p.2)]) (abc.take n).length (abc.take n) hnd (abc_take_ne h2)
          have ew : subD (.str (wayF (lessP ps i p.2 ++ [(o, p.2)]) (abc.take n))) (.int (-1)) = some (.str [winF n (ordP ps i o)]) := by
            rw [← win_ord hp1]
            simp only [subD]
            rw [if_pos (by unfold wayF; rw [hw.2]; omega), show atI (wayF (lessP ps i p.2 ++ [(o, p.2)]) (abc.take n)) (-1) = some (winF n (lessP ps i p.2 ++ [(o, p.2)])) from atI_last hw.1]
            rfl
          try simp only []
          rw [ew, onS_s, c_in_cs, onS_s, mg o]
          by_cases hb : befB p.1 (winF n (ordP ps i o)) (winF n ps) = true
          · rw [if_pos hb] at hB2 ⊢
            rw [wSs, wS]
            simp only [wE, wEs, frz, List.getElem?_cons_zero, List.getElem?_cons_succ, List.length_cons, List.length_nil]
            refine ⟨by decide, ?_⟩
            rw [hA2, hB2] at q
            exact q
          · rw [if_neg hb] at hB2 ⊢
            rw [wSs, wSs]
            exact hK _ ⟨hB2, _, rfl⟩
      · subst eq
        rw [Nat.zero_add, List.length_map, List.drop_length] at hB
        rw [wSs]
        exact next _ _ _ hB
  · subst e
    rw [Nat.zero_add, show (enumD (encP ps)).length = ps.length by simp [enumD, encP], List.drop_length] at hA
    rw [wSs, wS]
    simp only [wE, frz]
    rw [hA] at q
    exact q
end PV

set_option Elab.async false
set_option linter.all false
set_option maxRecDepth 100000
/-! PV6: rounds. -/
namespace PV
open DL
def rndN (ps : Ps) : Nat → List Nat → List (List Nat)
  | 0, _ => []
  | k + 1, s => if s.length ≤ 1 then [] else s :: rndN ps k (s.filter fun x => x != outF ps s)
def rndF (ps : Ps) (s : List Nat) : List (List Nat) := rndN ps s.length s
/-- a round as it lies -/
def rowD (ps : Ps) (r : List Nat) : D := .tup [.str r, .tup (cnts ps r)]
def S_way : FS := fun ds Q X => ∃ v, ds = [v] ∧ sm v = true ∧ (∀ n ps, v = encV n ps → Val n ps → Q (.str (wayF ps (abc.take n)))) ∧ (isVotes v = false → X 0)
def S_rounds : FS := fun ds Q X => ∃ v, ds = [v] ∧ sm v = true ∧ (∀ n ps, v = encV n ps → Val n ps → Q (.tup ((rndF ps (abc.take n)).map (rowD ps)))) ∧ (isVotes v = false → X 0)
end PV

set_option Elab.async false
set_option linter.all false
set_option maxRecDepth 100000
/-! Printed by gen.py: the forms over data. -/
namespace PV
open DL
def m_rounds : List MS := [.expr [] (.call S_need_votes [.var 0]), .par 1 2 [] (.call S_candidates_of [.var 0]) (.lst []), .for (.nm 3) [] (.bin .add (.sl (.call S_way_of [.sub (.peek 0) (.con (.int 1)), .var 1]) (.nop) (.neg (.con (.int 1)))) (.con (.str []))) [.app 2 [] (.tup [.var 1, .b1 .tuple (.call S_counts_of [.sub (.peek 0) (.con (.int 1)), .var 1])]), .asg (.nm 1) [] (.b2 .repl0 (.peek 1) (.peek 3))], .ret [] (.b1 .tuple (.peek 2))]
def m_way : List MS := [.expr [] (.call S_need_votes [.var 0]), .ret [] (.call S_way_of [.sub (.peek 0) (.con (.int 1)), .call S_candidates_of [.var 0]])]
end PV

set_option Elab.async false
set_option linter.all false
set_option maxRecDepth 100000
set_option maxHeartbeats 1000000
/-! PVh: rounds, plainly. -/
namespace PV
open DL L2
theorem wayN_k (ps : Ps) : ∀ (k : Nat) (s : List Nat), s.Nodup → s.length ≤ k → wayN ps k s = wayN ps s.length s
  | 0, s, _, h => by rw [List.eq_nil_of_length_eq_zero (by omega : s.length = 0)]; rfl
  | k + 1, s, hn, h => by
    by_cases hl : s.length ≤ 1
    · have e : ∀ j, wayN ps j s = s := fun j => by
        cases j with
        | zero => rfl
        | succ j => unfold wayN; rw [if_pos hl]
      rw [e, e]
    · have h0 : s ≠ [] := by intro z; rw [z] at hl; simp at hl
      obtain ⟨j, hj⟩ : ∃ j, s.length = j + 1 := ⟨s.length - 1, by omega⟩
      have hf := filter_len hn (out_mem (ps := ps) h0)
      rw [hj]
      unfold wayN
      rw [if_neg hl, if_neg hl]
      have a := wayN_k ps k (s.filter fun x => x != outF ps s) (hn.filter _) (by omega)
      have b := wayN_k ps j (s.filter fun x => x != outF ps s) (hn.filter _) (by omega)
      rw [a, b]
theorem way_one {ps : Ps} {s : List Nat} (h : s.length ≤ 1) : wayF ps s = s := by
  unfold wayF
  cases hs : s.length with
  | zero => rfl
  | succ j => unfold wayN; rw [if_pos h]
theorem way_step {ps : Ps} {s : List Nat} (hn : s.Nodup) (h : 2 ≤ s.length) : wayF ps s = outF ps s :: wayF ps (s.filter fun x => x != outF ps s) := by
  have h0 : s ≠ [] := by intro z; rw [z] at h; simp at h
  obtain ⟨j, hj⟩ : ∃ j, s.length = j + 1 := ⟨s.length - 1, by omega⟩
  have hf := filter_len hn (out_mem (ps := ps) h0)
  have b := wayN_k ps j (s.filter fun x => x != outF ps s) (hn.filter _) (by omega)
  unfold wayF
  rw [hj]
  show (if s.length ≤ 1 then s else outF ps s :: wayN ps j (s.filter fun x => x != outF ps s)) = _
  rw [if_neg (by omega), b]
theorem rndN_k (ps : Ps) : ∀ (k : Nat) (s : List Nat), s.Nodup → s.length ≤ k → rndN ps k s = rndN ps s.length s
  | 0, s, _, h => by rw [List.eq_nil_of_length_eq_zero (by omega : s.length = 0)]; rfl
  | k + 1, s, hn, h => by
    by_cases hl : s.length ≤ 1
    · have e : ∀ j, rndN ps j s = [] := fun j => by
        cases j with
        | zero => rfl
        | succ j => unfold rndN; rw [if_pos hl]
      rw [e, e]
    · have h0 : s ≠ [] := by intro z; rw [z] at hl; simp at hl
      obtain ⟨j, hj⟩ : ∃ j, s.length = j + 1 := ⟨s.length - 1, by omega⟩
      have hf := filter_len hn (out_mem (ps := ps) h0)
      rw [hj]
      unfold rndN
      rw [if_neg hl, if_neg hl]
      have a := rndN_k ps k (s.filter fun x => x != outF ps s) (hn.filter _) (by omega)
      have b := rndN_k ps j (s.filter fun x => x != outF ps s) (hn.filter _) (by omega)
      rw [a, b]
theorem rnd_one {ps : Ps} {s : List Nat} (h : s.length ≤ 1) : rndF ps s = [] := by
  unfold rndF
  cases hs : s.length with
  | zero => rfl
  | succ j => unfold rndN; rw [if_pos h]
theorem rnd_step {ps : Ps} {s : List Nat} (hn : s.Nodup) (h : 2 ≤ s.length) : rndF ps s = s :: rndF ps (s.filter fun x => x != outF ps s) := by
  have h0 : s ≠ [] := by intro z; rw [z] at h; simp at h
  obtain ⟨j, hj⟩ : ∃ j, s.length = j + 1 := ⟨s.length - 1, by omega⟩
  have hf := filter_len hn (out_mem (ps := ps) h0)
  have b := rndN_k ps j (s.filter fun x => x != outF ps s) (hn.filter _) (by omega)
  unfold rndF
  rw [hj]
  show (if s.length ≤ 1 then [] else s :: rndN ps j (s.filter fun x => x != outF ps s)) = _
  rw [if_neg (by omega), b]
theorem way_len' {ps : Ps} {s : List Nat} (hn : s.Nodup) (h : s ≠ []) : wayF ps s ≠ [] ∧ (wayF ps s).length = s.length := way_len ps _ s hn h
theorem obl_way : ∀ ds Q X, S_way ds Q X → wSs m_way (envD 1 ds) (fun _ => Q .non) Q X := by
  rintro _ Q X ⟨v, rfl, hs, q1, q2⟩
  rw [show envD 1 [v] = [.imm v] from rfl, m_way]
  rw [wSs, wS]
  simp only [wE, wEs, frz, frz1, Slot.frz, List.set_cons_succ, List.set_cons_zero, List.getElem?_cons_zero, List.getElem?_cons_succ, List.length_cons, List.length_nil]
  refine ⟨v, rfl, hs, fun hv => ?_, q2⟩
  obtain ⟨n, ps, rfl, hval⟩ := enc_of hv
  have q := q1 n ps rfl hval
  have h8 := hval.len
  have h2 := hval.lo
  have h5 := hval.hi
  have hla : (abc.take n).length = n := by simp [abc]; omega
  have hnd : (abc.take n).Nodup := abc_nd.sublist (List.take_sublist _ _)
  have s1 : subD (encV n ps) (.int 1) = some (.tup (encP ps)) := by simp [encV]
  rw [wSs, wS]
  simp only [wE, wEs, frz, frz1, Slot.frz, List.set_cons_succ, List.set_cons_zero, List.getElem?_cons_zero, List.getElem?_cons_succ, List.length_cons, List.length_nil]
  rw [s1, onS_s]
  exact ⟨n, ps, rfl, h5, ps, abc.take n, rfl, ⟨by omega, bl_len hval⟩, hnd, by omega, abc_take_ne h2, q⟩
theorem cutL_init {α : Type} (l : List α) : cutL l none (some (-1)) = l.dropLast := by
  unfold cutL
  rw [show HT.sIx l.length 0 none = 0 from rfl]
  have : HT.sIx l.length l.length (some (-1)) = l.length - 1 := by
    unfold HT.sIx
    simp
    omega
  rw [this, List.dropLast_eq_take]
  simp
theorem obl_rounds : ∀ ds Q X, S_rounds ds Q X → wSs m_rounds (envD 4 ds) (fun _ => Q .non) Q X := by
  rintro _ Q X ⟨v, rfl, hs, q1, q2⟩
  rw [show envD 4 [v] = [.imm v, .no, .no, .no] from rfl, m_rounds]
  rw [wSs, wS]
  simp only [wE, wEs, frz, frz1, Slot.frz, List.set_cons_succ, List.set_cons_zero, List.getElem?_cons_zero, List.getElem?_cons_succ, List.length_cons, List.length_nil]
  refine ⟨v, rfl, hs, fun hv => ?_, q2⟩
  obtain ⟨n, ps, rfl, hval⟩ := enc_of hv
  have q := q1 n ps rfl hval
  have h8 := hval.len
  have h2 := hval.lo
  have h5 := hval.hi
  have hla : (abc.take n).length = n := by simp [abc]; omega
  have hnd : (abc.take n).Nodup := abc_nd.sublist (List.take_sublist _ _)
  have s1 : subD (encV n ps) (.int 1) = some (.tup (encP ps)) := by simp [encV]
  have hpk : Pok ps := ⟨by omega, bl_len hval⟩
  have hw := way_len' (ps := ps) hnd (abc_take_ne h2)
  rw [wSs, wS]
  simp only [wE, wEs, frz, frz1, Slot.frz, List.set_cons_succ, List.set_cons_zero, List.getElem?_cons_zero, List.getElem?_cons_succ, List.length_cons, List.length_nil]
  refine ⟨n, ps, rfl, h5, by decide, ?_⟩
  try simp only []
  rw [slot_str, slot_new rfl]
  rw [wSs, wS]
  simp only [wE, wEs, frz, frz1, Slot.frz, List.set_cons_succ, List.set_cons_zero, List.getElem?_cons_zero, List.getElem?_cons_succ, List.length_cons, List.length_nil]
  rw [s1, onS_s]
  refine ⟨ps, abc.take n, rfl, hpk, hnd, by omega, abc_take_ne h2, ?_⟩
  try simp only []
  rw [show ME.isNop .nop = true from rfl, onP_t, show ME.isNop (.neg (.con (.int 1))) = false from rfl, onP_f, onI_i]
  rw [show slD (.str (wayF ps (abc.take n))) none (some (-1)) = some (.str (wayF ps (abc.take n)).dropLast) from by
    simp only [slD]; rw [if_pos (by rw [hw.2]; omega), cutL_init], onS_s, a_str _ _ (by rw [List.length_dropLast, hw.2]; simp; omega), onS_s, List.append_nil, onIt_s]
  have hdl : (chars (wayF ps (abc.take n)).dropLast).length = n - 1 := by simp [chars, hw.2, hla]
  refine wLoop_inv (fun i ρ => i ≤ n - 1 → ∃ (s : List Nat) (fd : List D) (z : Slot), s.Nodup ∧ s.length + i = n ∧ (wayF ps (abc.take n)).drop i = wayF ps s ∧ fd.length ≤ i ∧ (rndF ps (abc.take n)).map (rowD ps) = fd ++ (rndF ps s).map (rowD ps) ∧
    ρ = [.imm (encV n ps), .imm (.str s), .own (.lst fd), z]) _ 0 _ (fun _ => ⟨abc.take n, [], .no, hnd, by omega, rfl, by simp, rfl, rfl⟩) (fun i x ρ K hx hI hK => ?_) fun ρ hI => ?_
  · have hi := lt_of_get' hx
    rw [hdl] at hi
    rw [Nat.zero_add] at hI hK
    have hJ := hI (by omega)
    clear hI
    obtain ⟨s, fd, z, hsn, hsl, hd, hfl, hr, rfl⟩ := hJ
    have hs2 : 2 ≤ s.length := by omega
    have hs0 : s ≠ [] := by intro z; rw [z] at hs2; simp at hs2
    have hst := way_step (ps := ps) hsn hs2
    have hrs := rnd_step (ps := ps) hsn hs2
    have hwi : (wayF ps (abc.take n))[i]? = some (outF ps s) := by
      have := congrArg (·[0]?) hd
      rw [hst] at this
      simpa using this
    have hx2 : x = .str [outF ps s] := by
      haveI : Tb := ⟨[]⟩
      obtain ⟨c, hc, rfl⟩ := chars_get hx
      rw [List.getElem?_dropLast] at hc
      split at hc
      · rw [hwi] at hc; cases hc; rfl
      · cases hc
    subst hx2
    simp only [asgG, onS_s, List.set_cons_succ, List.set_cons_zero]
    rw [wSs, wS]
    simp only [wE, wEs, frz, frz1, Slot.frz, List.set_cons_succ, List.set_cons_zero, List.getElem?_cons_zero, List.getElem?_cons_succ, List.length_cons, List.length_nil]
    rw [s1, onS_s]
    refine ⟨ps, s, rfl, hpk, hsn, by omega, ?_⟩
    try simp only []
    rw [show b1D .tuple (.lst (cnts ps s)) = some (.tup (cnts ps s)) from rfl, onS_s]
    refine ⟨by simp, by omega, ?_⟩
    rw [wSs, wS]
    simp only [wE, wEs, frz, frz1, Slot.frz, List.set_cons_succ, List.set_cons_zero, List.getElem?_cons_zero, List.getElem?_cons_succ, List.length_cons, List.length_nil]
    refine ⟨rfl, ?_⟩
    rw [show b2D .repl0 (.str s) (.str [outF ps s]) = some (.str (s.filter fun x => x != outF ps s)) from by simp only [b2D]; rw [if_pos (by omega)], onS_s, slot_str, wSs]
    have hfl2 := filter_len hsn (out_mem (ps := ps) hs0)
    refine hK _ fun _ => ⟨s.filter fun x => x != outF ps s, fd ++ [rowD ps s], _, hsn.filter _, by omega, ?_, by simp; omega, ?_, rfl⟩
    · have := congrArg (·.drop 1) hd
      rw [hst] at this
      simpa [List.drop_drop, Nat.add_comm] using this
    · rw [hr, hrs]; simp
  · rw [hdl, Nat.zero_add] at hI
    have hJ := hI (Nat.le_refl _)
    clear hI
    obtain ⟨s, fd, z, hsn, hsl, hd, hfl, hr, rfl⟩ := hJ
    rw [rnd_one (s := s) (by omega), List.map_nil, List.append_nil] at hr
    rw [wSs, wS]
    simp only [wE, wEs, frz, frz1, Slot.frz, List.set_cons_succ, List.set_cons_zero, List.getElem?_cons_zero, List.getElem?_cons_succ, List.length_cons, List.length_nil]
    rw [show b1D .tuple (.lst fd) = some (.tup fd) from rfl, onS_s, ← hr]
    exact q
end PV

set_option Elab.async false
set_option linter.all false
set_option maxRecDepth 100000
/-! PV7: pairs of candidates; possible ways judged. -/
namespace PV
open DL
def optC : Option Nat → D
  | none => .non
  | some c => .str [c]
/-- who beats all -/
def btA (n : Nat) (ps : Ps) : Option Nat := (abc.take n).find? fun c => (abc.take n).all fun d => d == c || decide (vFor ps d c < vFor ps c d)
/-- whom all beat -/
def btB (n : Nat) (ps : Ps) : Option Nat := (abc.take n).find? fun c => (abc.take n).all fun d => d == c || decide (vFor ps c d < vFor ps d c)
/-- do the letters go out so -/
def pwB (ps : Ps) : List Nat → List Nat → Bool
  | _, [] => true
  | s, c :: r => decide (c ∈ lastsF ps s) && pwB ps (s.filter fun x => x != c) r
def isPW (ps : Ps) (n : Nat) (v : D) : Bool := match v with
  | .str s => decide (s.Perm (abc.take n)) && pwB ps (abc.take n) s.dropLast
  | _ => false
def S_beats : FS := fun ds Q _ => ∃ n ps x y, ds = [encV n ps, .str [x], .str [y]] ∧ Val n ps ∧ Q (.bl (decide (vFor ps y x < vFor ps x y)))
def S_beats_all : FS := fun ds Q X => ∃ v, ds = [v] ∧ sm v = true ∧ (∀ n ps, v = encV n ps → Val n ps → Q (optC (btA n ps))) ∧ (isVotes v = false → X 0)
def S_beaten_by_all : FS := fun ds Q X => ∃ v, ds = [v] ∧ sm v = true ∧ (∀ n ps, v = encV n ps → Val n ps → Q (optC (btB n ps))) ∧ (isVotes v = false → X 0)
def S_is_possible_way : FS := fun ds Q _ => ∃ n ps v, ds = [encV n ps, v] ∧ Val n ps ∧ sm v = true ∧ Q (.bl (isPW ps n v))
end PV

set_option Elab.async false
set_option linter.all false
set_option maxRecDepth 100000
/-! Printed by gen.py: the forms over data. -/
namespace PV
open DL
def m_is_possible_way : List MS := [.expr [] (.call S_need_votes [.var 0]), .asg (.nm 2) [] (.call S_candidates_of [.var 0]), .ifs (.or (.not (.isi (.peek 1) .str)) (.cmp .ne (.b1 .sorted (.peek 1)) (.b1 .list (.peek 2)))) [.ret [] (.con (.bl false))] [], .for (.nm 3) [] (.bin .add (.sl (.peek 1) (.nop) (.neg (.con (.int 1)))) (.con (.str []))) [.ifs (.cmp .nin (.peek 3) (.call S_last_ones [.sub (.peek 0) (.con (.int 1)), .var 2])) [.ret [] (.con (.bl false))] [], .asg (.nm 2) [] (.b2 .repl0 (.peek 2) (.peek 3))], .ret [] (.con (.bl true))]
def m_beats : List MS := [.ret [] (.cmp .gt (.call S_voters_for [.var 0, .var 1, .var 2]) (.call S_voters_for [.var 0, .var 2, .var 1]))]
def m_beats_all : List MS := [.expr [] (.call S_need_votes [.var 0]), .asg (.nm 1) [] (.call S_candidates_of [.var 0]), .for (.nm 2) [] (.bin .add (.var 1) (.con (.str []))) [.ifs (.b1 .all (.lc (.nm 3) (.b2 .repl0 (.peek 1) (.peek 2)) [] (.call S_beats [.var 0, .var 2, .var 3]))) [.ret [] (.var 2)] []], .ret [] (.con .non)]
end PV

set_option Elab.async false
set_option linter.all false
set_option maxRecDepth 100000
/-! Printed by gen.py: the forms over data. -/
namespace PV
open DL
def m_beaten_by_all : List MS := [.expr [] (.call S_need_votes [.var 0]), .asg (.nm 1) [] (.call S_candidates_of [.var 0]), .for (.nm 2) [] (.bin .add (.var 1) (.con (.str []))) [.ifs (.b1 .all (.lc (.nm 3) (.b2 .repl0 (.peek 1) (.peek 2)) [] (.call S_beats [.var 0, .var 3, .var 2]))) [.ret [] (.var 2)] []], .ret [] (.con .non)]
end PV

set_option Elab.async false
set_option linter.all false
set_option maxRecDepth 100000
set_option maxHeartbeats 1000000
/-! PVi: pairs of candidates, possible ways judged, plainly. -/
namespace PV
open DL L2
theorem obl_beats : ∀ ds Q X, S_beats ds Q X → wSs m_beats (envD 3 ds) (fun _ => Q .non) Q X := by
  rintro _ Q X ⟨n, ps, x, y, rfl, hv, q⟩
  rw [show envD 3 [encV n ps, .str [x], .str [y]] = [.imm (encV n ps), .imm (.str [x]), .imm (.str [y])] from rfl, m_beats]
  rw [wSs, wS]
  simp only [wE, wEs, frz, frz1, Slot.frz, List.set_cons_succ, List.set_cons_zero, List.getElem?_cons_zero, List.getElem?_cons_succ, List.length_cons, List.length_nil]
  refine ⟨n, ps, x, y, rfl, hv, n, ps, y, x, rfl, hv, ?_⟩
  try simp only []
  rw [c_gt, onS_s]
  rw [show decide (((vFor ps y x : Nat) : Int) < ((vFor ps x y : Nat) : Int)) = decide (vFor ps y x < vFor ps x y) from by
    rw [Bool.eq_iff_iff, decide_eq_true_iff, decide_eq_true_iff]; omega]
  exact q
theorem repl_all (s : List Nat) (c : Nat) (p : Nat → Bool) : ((s.filter fun x => x != c).map p).all id = s.all fun d => d == c || p d := by
  induction s with
  | nil => rfl
  | cons a r ih =>
    by_cases h : a = c
    · subst h
      rw [List.filter_cons, if_neg (by simp), ih]
      simp
    · rw [List.filter_cons, if_pos (by simp [h]), List.map_cons, List.all_cons, ih, List.all_cons]
      rw [show (a == c) = false from beq_eq_false_iff_ne.mpr h, Bool.false_or]
      rfl
theorem find_at {p : Nat → Bool} : ∀ (s : List Nat) (i : Nat), (∀ j < i, ∀ c, s[j]? = some c → p c = false) → s.find? p = (s.drop i).find? p
  | s, 0, _ => rfl
  | [], i + 1, _ => rfl
  | a :: r, i + 1, h => by
    have h0 := h 0 (by omega) a rfl
    rw [List.find?_cons, h0, List.drop_succ_cons]
    exact find_at r i fun j hj c hc => h (j + 1) (by omega) c (by simpa using hc)
theorem bts_core {m : List MS} {ar : ME} {f : Ps → Nat → Nat → Bool} (hm : m = [.expr [] (.call S_need_votes [.var 0]), .asg (.nm 1) [] (.call S_candidates_of [.var 0]), .for (.nm 2) [] (.bin .add (.var 1) (.con (.str []))) [.ifs (.b1 .all (.lc (.nm 3) (.b2 .repl0 (.peek 1) (.peek 2)) [] ar)) [.ret [] (.var 2)] []], .ret [] (.con .non)])
    (har : ∀ n ps, Val n ps → ∀ (s : List Nat) (c d : Nat) (K : D → Prop) (X : Nat → Prop), K (.bl (f ps c d)) → wE ar [.imm (encV n ps), .imm (.str s), .imm (.str [c]), .imm (.str [d])] K X)
    {v : D} {Q : D → Prop} {X : Nat → Prop} (hs : sm v = true) (q1 : ∀ n ps, v = encV n ps → Val n ps → Q (optC ((abc.take n).find? fun c => (abc.take n).all fun d => d == c || f ps c d))) (q2 : isVotes v = false → X 0) :
    wSs m [.imm v, .no, .no, .no] (fun _ => Q .non) Q X := by
  subst hm
  rw [wSs, wS]
  simp only [wE, wEs, frz, frz1, Slot.frz, List.set_cons_succ, List.set_cons_zero, List.getElem?_cons_zero, List.getElem?_cons_succ, List.length_cons, List.length_nil]
  refine ⟨v, rfl, hs, fun hv => ?_, q2⟩
  obtain ⟨n, ps, rfl, hval⟩ := enc_of hv
  have q := q1 n ps rfl hval
  clear q1
  have h8 := hval.len
  have h2 := hval.lo
  have h5 := hval.hi
  have hla : (abc.take n).length = n := by simp [abc]; omega
  rw [wSs, wS]
  simp only [wE, wEs, frz, frz1, Slot.frz, List.set_cons_succ, List.set_cons_zero, List.getElem?_cons_zero, List.getElem?_cons_succ, List.length_cons, List.length_nil]
  refine ⟨n, ps, rfl, h5, ?_⟩
  try simp only []
  rw [slot_str]
  rw [wSs, wS]
  simp only [wE, wEs, frz, frz1, Slot.frz, List.set_cons_succ, List.set_cons_zero, List.getElem?_cons_zero, List.getElem?_cons_succ, List.length_cons, List.length_nil]
  rw [a_str _ _ (by simp; omega), onS_s, List.append_nil, onIt_s]
  refine wLoop_inv (fun i ρ => (∀ j < i, ∀ c, (abc.take n)[j]? = some c → ((abc.take n).all fun d => d == c || f ps c d) = false) ∧ ∃ (x : Slot), ρ = [.imm (encV n ps), .imm (.str (abc.take n)), x, .no]) _ 0 _ ⟨fun j hj => absurd hj (by omega), .no, rfl⟩ (fun i x ρ K hx ⟨hI, y, e⟩ hK => ?_) fun ρ ⟨hI, y, e⟩ => ?_
  · subst e
    rw [Nat.zero_add] at hI hK
    haveI : Tb := ⟨[]⟩
    obtain ⟨c, hc, rfl⟩ := chars_get hx
    have hi := lt_of_get' hc
    simp only [asgG, onS_s, List.set_cons_succ, List.set_cons_zero]
    rw [wSs, wS]
    simp only [wE, wEs, frz, frz1, Slot.frz, List.set_cons_succ, List.set_cons_zero, List.getElem?_cons_zero, List.getElem?_cons_succ, List.length_cons, List.length_nil]
    refine ⟨rfl, rfl, ?_⟩
    rw [show b2D .repl0 (.str (abc.take n)) (.str [c]) = some (.str ((abc.take n).filter fun x => x != c)) from by simp only [b2D]; rw [if_pos (by omega)], onS_s, onIt_s]
    have hfl : ((abc.take n).filter fun x => x != c).length ≤ n := Nat.le_trans (List.length_filter_le ..) (Nat.le_of_eq hla)
    refine wLC_map (fun d => match d with | .str [d] => .bl (f ps c d) | _ => .non) _ _ (by simp only [chars, List.length_map]; omega) (fun d hd => ?_) ?_
    · obtain ⟨d0, _, rfl⟩ := mem_chars hd
      refine ⟨_, rfl, fun K k => ?_⟩
      exact har n ps hval _ c d0 K _ k
    have em : ((chars ((abc.take n).filter fun x => x != c)).map fun d => match d with | .str [d] => D.bl (f ps c d) | _ => .non) = (((abc.take n).filter fun x => x != c).map (f ps c)).map .bl := by simp [chars, Function.comp_def]
    rw [em, all_bls, onS_s, repl_all]
    simp only [onB_b]
    have hdr : (abc.take n).drop i = c :: (abc.take n).drop (i + 1) := by
      rw [List.drop_eq_getElem_cons hi]
      rw [List.getElem?_eq_getElem hi] at hc
      cases hc; rfl
    by_cases hp : ((abc.take n).all fun d => d == c || f ps c d) = true
    · rw [if_pos hp]
      rw [wSs, wS]
      simp only [wE, wEs, frz, frz1, Slot.frz, List.set_cons_succ, List.set_cons_zero, List.getElem?_cons_zero, List.getElem?_cons_succ, List.length_cons, List.length_nil]
      rw [find_at _ i hI, hdr, List.find?_cons, hp] at q
      exact q
    · rw [if_neg hp]
      rw [wSs, wSs]
      refine hK _ ⟨fun j hj c' hc' => ?_, _, rfl⟩
      by_cases hji : j = i
      · subst hji
        rw [hc] at hc'; cases hc'
        exact Bool.eq_false_iff.mpr hp
      · exact hI j (by omega) c' hc'
  · subst e
    rw [Nat.zero_add, show (chars (abc.take n)).length = (abc.take n).length by simp [chars]] at hI
    rw [wSs, wS]
    simp only [wE, wEs, frz, frz1, Slot.frz, List.set_cons_succ, List.set_cons_zero, List.getElem?_cons_zero, List.getElem?_cons_succ, List.length_cons, List.length_nil]
    rw [find_at _ _ hI, List.drop_length] at q
    exact q
theorem obl_beats_all : ∀ ds Q X, S_beats_all ds Q X → wSs m_beats_all (envD 4 ds) (fun _ => Q .non) Q X := by
  rintro _ Q X ⟨v, rfl, hs, q1, q2⟩
  refine bts_core (f := fun ps c d => decide (vFor ps d c < vFor ps c d)) rfl (fun n ps hv s c d K X k => ?_) hs q1 q2
  simp only [wE, wEs, List.getElem?_cons_zero, List.getElem?_cons_succ]
  exact ⟨n, ps, c, d, rfl, hv, k⟩
theorem obl_beaten_by_all : ∀ ds Q X, S_beaten_by_all ds Q X → wSs m_beaten_by_all (envD 4 ds) (fun _ => Q .non) Q X := by
  rintro _ Q X ⟨v, rfl, hs, q1, q2⟩
  refine bts_core (f := fun ps c d => decide (vFor ps c d < vFor ps d c)) rfl (fun n ps hv s c d K X k => ?_) hs q1 q2
  simp only [wE, wEs, List.getElem?_cons_zero, List.getElem?_cons_succ]
  exact ⟨n, ps, d, c, rfl, hv, k⟩
theorem obl_is_possible_way : ∀ ds Q X, S_is_possible_way ds Q X → wSs m_is_possible_way (envD 4 ds) (fun _ => Q .non) Q X := by
  rintro _ Q X ⟨n, ps, v, rfl, hval, hs, q⟩
  rw [show envD 4 [encV n ps, v] = [.imm (encV n ps), .imm v, .no, .no] from rfl, m_is_possible_way]
  have h8 := hval.len
  have h2 := hval.lo
  have h5 := hval.hi
  have hla : (abc.take n).length = n := by simp [abc]; omega
  have hnd : (abc.take n).Nodup := abc_nd.sublist (List.take_sublist _ _)
  have s1 : subD (encV n ps) (.int 1) = some (.tup (encP ps)) := by simp [encV]
  have hpk : Pok ps := ⟨by omega, bl_len hval⟩
  rw [wSs, wS]
  simp only [wE, wEs, frz, frz1, Slot.frz, List.set_cons_succ, List.set_cons_zero, List.getElem?_cons_zero, List.getElem?_cons_succ, List.length_cons, List.length_nil]
  refine ⟨_, rfl, sm_encV hval, fun _ => ?_, fun z => by rw [isVotes_enc hval] at z; cases z⟩
  rw [wSs, wS]
  simp only [wE, wEs, frz, frz1, Slot.frz, List.set_cons_succ, List.set_cons_zero, List.getElem?_cons_zero, List.getElem?_cons_succ, List.length_cons, List.length_nil]
  refine ⟨n, ps, rfl, h5, ?_⟩
  try simp only []
  rw [slot_str]
  rw [wSs, wS]
  simp only [wE, wEs, frz, frz1, Slot.frz, List.set_cons_succ, List.set_cons_zero, List.getElem?_cons_zero, List.getElem?_cons_succ, List.length_cons, List.length_nil]
  simp only [sm_nd hs, true_and, onB_b]
  cases v with
  | str s =>
    have hl : s.length ≤ 1000 := by simpa [sm] using hs
    simp only [isiD, Bool.not_true, if_false, Bool.false_eq_true]
    rw [show b1D .sorted (.str s) = some (.lst ((sortL (s.map fun c => [c])).map .str)) from by simp only [b1D]; rw [if_pos hl], onS_s]
    rw [show b1D .list (.str (abc.take n)) = some (.lst (((abc.take n).map fun c => [c]).map .str)) from by
      simp only [b1D, itemsS, itemsD, Option.bind_some]
      rw [if_pos (by simp [chars, hla]; omega), chars_strs], onS_s, c_ne, eqOk_f (by rw [pl_lst]; exact strs_pls _) (by rw [pl_lst]; exact strs_pls _) (.inl (by simp [strs_dep])), if_pos rfl]
    simp only [onS_s, onB_b, ev_lst, strs_evs]
    by_cases hp : s.Perm (abc.take n)
    · rw [decide_eq_true ((sort_perm s n).mpr hp)]
      simp only [Bool.not_true, if_false, Bool.false_eq_true]
      have hsl : s.length = n := by rw [hp.length_eq, hla]
      have q : Q (.bl (pwB ps (abc.take n) s.dropLast)) := by
        have : isPW ps n (.str s) = pwB ps (abc.take n) s.dropLast := by
          show (decide (s.Perm (abc.take n)) && _) = _
          rw [decide_eq_true hp, Bool.true_and]
        rw [this] at q; exact q
      rw [wSs]
      rw [wSs, wS]
      simp only [wE, wEs, frz, frz1, Slot.frz, List.set_cons_succ, List.set_cons_zero, List.getElem?_cons_zero, List.getElem?_cons_succ, List.length_cons, List.length_nil]
      rw [show ME.isNop .nop = true from rfl, onP_t, show ME.isNop (.neg (.con (.int 1))) = false from rfl, onP_f, onI_i]
      rw [show slD (.str s) none (some (-1)) = some (.str s.dropLast) from by
        simp only [slD]; rw [if_pos (by omega), cutL_init], onS_s, a_str _ _ (by rw [List.length_dropLast]; simp; omega), onS_s, List.append_nil, onIt_s]
      have hdl : (chars s.dropLast).length = n - 1 := by simp [chars, hsl]
      have hf0 : (abc.take n).filter (fun x => !decide (x ∈ s.take 0)) = abc.take n := List.filter_eq_self.mpr (by simp)
      refine wLoop_inv (fun i ρ => i ≤ n - 1 → pwB ps (abc.take n) s.dropLast = pwB ps ((abc.take n).filter fun x => !decide (x ∈ s.take i)) (s.dropLast.drop i) ∧ ∃ x, ρ = [.imm (encV n ps), .imm (.str s), .imm (.str ((abc.take n).filter fun x => !decide (x ∈ s.take i))), x]) _ 0 _ (fun _ => ⟨by rw [hf0]; rfl, .no, by rw [hf0]⟩) (fun i x ρ K hx hI hK => ?_) fun ρ hI => ?_
      · have hi := lt_of_get' hx
        rw [hdl] at hi
        rw [Nat.zero_add] at hI hK
        obtain ⟨hA, y, rfl⟩ := hI (by omega)
        haveI : Tb := ⟨[]⟩
        obtain ⟨c, hc, rfl⟩ := chars_get hx
        have hc2 : s[i]? = some c := by
          rw [List.getElem?_dropLast] at hc
          split at hc
          · exact hc
          · cases hc
        have hdr : s.dropLast.drop i = c :: s.dropLast.drop (i + 1) := by
          have hi2 : i < s.dropLast.length := by simp [hsl]; omega
          rw [List.drop_eq_getElem_cons hi2]
          rw [List.getElem?_eq_getElem hi2] at hc
          cases hc; rfl
        have hnt : c ∉ s.take i := by
          have hsn : s.Nodup := hp.nodup_iff.mpr hnd
          intro hm
          obtain ⟨j, hj⟩ := List.getElem?_of_mem hm
          have hji : j < i := by
            have := lt_of_get' hj
            rw [List.length_take] at this; omega
          rw [List.getElem?_take, if_pos hji] at hj
          have hij := lt_of_get' hc2
          have := (List.getElem?_inj hij hsn).mp (hc2.trans hj.symm)
          omega
        have hcm : c ∈ abc.take n := hp.mem_iff.mp (List.mem_of_getElem? hc2)
        have hst : (abc.take n).filter (fun x => !decide (x ∈ s.take (i + 1))) = ((abc.take n).filter fun x => !decide (x ∈ s.take i)).filter fun x => x != c := by
          rw [List.filter_filter]
          congr 1
          funext x
          have : s.take (i + 1) = s.take i ++ [c] := by rw [List.take_succ, hc2]; rfl
          rw [this]
          simp only [List.mem_append, List.mem_singleton, Bool.decide_or, Bool.not_or]
          rw [Bool.and_comm]
          congr 1
        have h0 : ((abc.take n).filter fun x => !decide (x ∈ s.take i)) ≠ [] := fun z => by
          have : c ∈ (abc.take n).filter fun x => !decide (x ∈ s.take i) := List.mem_filter.mpr ⟨hcm, by simp [hnt]⟩
          rw [z] at this; cases this
        have hll : ((abc.take n).filter fun x => !decide (x ∈ s.take i)).length ≤ n := Nat.le_trans (List.length_filter_le ..) (Nat.le_of_eq hla)
        rw [hdr] at hA
        have hA2 : pwB ps (abc.take n) s.dropLast = (decide (c ∈ lastsF ps ((abc.take n).filter fun x => !decide (x ∈ s.take i))) && pwB ps ((abc.take n).filter fun x => !decide (x ∈ s.take (i + 1))) (s.dropLast.drop (i + 1))) := by rw [hA, hst]; rfl
        simp only [asgG, onS_s, List.set_cons_succ, List.set_cons_zero]
        rw [wSs, wS]
        simp only [wE, wEs, frz, frz1, Slot.frz, List.set_cons_succ, List.set_cons_zero, List.getElem?_cons_zero, List.getElem?_cons_succ, List.length_cons, List.length_nil]
        rw [s1, onS_s]
        refine ⟨ps, _, rfl, hpk, hnd.filter _, by omega, h0, ?_⟩
        try simp only []
        rw [c_ninL, eqOk_f rfl (by rw [pl_lst]; exact chars_pls _) (.inl (by simp)), if_pos rfl, onS_s]
        have mcs : ∀ l : List Nat, ((chars l).any fun z => D.eqv z (.str [c])) = decide (c ∈ l) := fun l => by
          rw [chars, List.any_map, Bool.eq_iff_iff, List.any_eq_true, decide_eq_true_iff]
          constructor
          · rintro ⟨z, hz, e⟩
            simp only [Function.comp, ev_str, beq_iff_eq, List.cons.injEq, and_true] at e
            exact e ▸ hz
          · intro h
            exact ⟨c, h, by simp⟩
        rw [mcs]
        simp only [onB_b]
        by_cases hcl : c ∈ lastsF ps ((abc.take n).filter fun x => !decide (x ∈ s.take i))
        · rw [decide_eq_true hcl] at hA2 ⊢
          simp only [Bool.not_true, Bool.false_eq_true, if_false]
          rw [wSs]
          rw [wSs, wS]
          simp only [wE, wEs, frz, frz1, Slot.frz, List.set_cons_succ, List.set_cons_zero, List.getElem?_cons_zero, List.getElem?_cons_succ, List.length_cons, List.length_nil]
          refine ⟨rfl, ?_⟩
          rw [show b2D .repl0 (.str ((abc.take n).filter fun x => !decide (x ∈ s.take i))) (.str [c]) = some (.str (((abc.take n).filter fun x => !decide (x ∈ s.take i)).filter fun x => x != c)) from by simp only [b2D]; rw [if_pos (by omega)], onS_s, slot_str, wSs, ← hst]
          refine hK _ fun _ => ⟨by rw [hA2, Bool.true_and], _, rfl⟩
        · rw [decide_eq_false hcl] at hA2 ⊢
          simp only [Bool.not_false, if_true]
          rw [wSs, wS]
          simp only [wE, wEs, frz, frz1, Slot.frz, List.set_cons_succ, List.set_cons_zero, List.getElem?_cons_zero, List.getElem?_cons_succ, List.length_cons, List.length_nil]
          rw [hA2, Bool.false_and] at q
          exact q
      · rw [hdl, Nat.zero_add] at hI
        obtain ⟨hA, y, rfl⟩ := hI (Nat.le_refl _)
        rw [List.drop_of_length_le (by simp [hsl])] at hA
        rw [wSs, wS]
        simp only [wE, wEs, frz, frz1, Slot.frz, List.set_cons_succ, List.set_cons_zero, List.getElem?_cons_zero, List.getElem?_cons_succ, List.length_cons, List.length_nil]
        rw [hA] at q
        exact q
    · rw [decide_eq_false fun z => hp ((sort_perm s n).mp z)]
      simp only [Bool.not_false, if_true]
      rw [wSs, wS]
      simp only [wE, wEs, frz, frz1, Slot.frz, List.set_cons_succ, List.set_cons_zero, List.getElem?_cons_zero, List.getElem?_cons_succ, List.length_cons, List.length_nil]
      have : isPW ps n (.str s) = false := by
        show (decide (s.Perm (abc.take n)) && _) = _
        rw [decide_eq_false hp, Bool.false_and]
      rw [this] at q; exact q
  | _ =>
    simp only [isiD, Bool.not_false, if_true]
    rw [wSs, wS]
    simp only [wE, wEs, frz, frz1, Slot.frz, List.set_cons_succ, List.set_cons_zero, List.getElem?_cons_zero, List.getElem?_cons_succ, List.length_cons, List.length_nil]
    exact q
end PV

set_option Elab.async false
set_option linter.all false
set_option maxRecDepth 100000
set_option maxHeartbeats 1000000
/-! PVj: votes as they lie, told apart; the last two of a way. -/
namespace PV
open DL L2
theorem encP_slot (n : Nat) (ps : Ps) (e : ME) : slotOf e (encV n ps) = .imm (encV n ps) := by simp [encV]
theorem encP_inj : ∀ {ps qs : Ps}, encP ps = encP qs → ps = qs
  | [], [], _ => rfl
  | [], q :: qs, h => by simp [encP] at h
  | p :: ps, [], h => by simp [encP] at h
  | p :: ps, q :: qs, h => by
    have h : D.tup [.str p.1, .int p.2] :: encP ps = D.tup [.str q.1, .int q.2] :: encP qs := h
    obtain ⟨h1, h2⟩ := List.cons.inj h
    rw [encP_inj h2]
    simp only [D.tup.injEq, List.cons.injEq, D.str.injEq, D.int.injEq, and_true] at h1
    obtain ⟨a, b⟩ := p
    obtain ⟨c, d⟩ := q
    simp only at h1
    rw [h1.1, show b = d by omega]
theorem encV_inj {n m : Nat} {ps qs : Ps} (h : encV n ps = encV m qs) : n = m ∧ ps = qs := by
  simp only [encV, D.tup.injEq, List.cons.injEq, D.int.injEq, and_true] at h
  exact ⟨by omega, encP_inj h.2⟩
theorem rnd_len (ps : Ps) : ∀ (k : Nat) (s : List Nat), s.Nodup → s.length ≤ k → (rndF ps s).length = s.length - 1
  | 0, s, _, h => by rw [rnd_one (by omega)]; simp; omega
  | k + 1, s, hn, h => by
    by_cases hl : s.length ≤ 1
    · rw [rnd_one hl]; simp; omega
    · have h0 : s ≠ [] := by intro z; rw [z] at hl; simp at hl
      have hf := filter_len hn (out_mem (ps := ps) h0)
      rw [rnd_step hn (by omega), List.length_cons, rnd_len ps k _ (hn.filter _) (by omega)]
      omega
theorem fold_ge : ∀ (l : List Nat) (x : Nat), x ≤ l.foldl max x ∧ ∀ c ∈ l, c ≤ l.foldl max x
  | [], x => ⟨Nat.le_refl _, by simp⟩
  | y :: r, x => by
    obtain ⟨a, b⟩ := fold_ge r (max x y)
    rw [List.foldl_cons]
    refine ⟨by omega, fun c hc => ?_⟩
    rcases List.mem_cons.mp hc with e | hc
    · omega
    · exact b c hc
theorem out_in {ps : Ps} {s : List Nat} (h : s ≠ []) : outF ps s ∈ lastsF ps s := by
  have hn := lasts_ne (ps := ps) h
  rcases fold_mem (lastsF ps s) 0 with e | e
  · have : ∀ c ∈ lastsF ps s, c = 0 := fun c hc => by
      have := (fold_ge (lastsF ps s) 0).2 c hc
      rw [e] at this; omega
    obtain ⟨c, r, hr⟩ := List.exists_cons_of_ne_nil hn
    have h0 := this c (by rw [hr]; simp)
    show (lastsF ps s).foldl max 0 ∈ _
    rw [e, hr, ← h0]; simp
  · exact e
/-- who goes out has the least count, the last letter of equal ones -/
theorem out_least {ps : Ps} {s : List Nat} (h : s ≠ []) {c : Nat} (hc : c ∈ s) : ¬ cntC ps s c < cntC ps s (outF ps s) ∧ (cntC ps s c = cntC ps s (outF ps s) → c ≤ outF ps s) := by
  have ho : outF ps s ∈ lastsF ps s := out_in h
  have ha := (List.mem_filter.mp ho).2
  rw [List.all_eq_true] at ha
  have h1 := of_decide_eq_true (ha c hc)
  refine ⟨by omega, fun e => ?_⟩
  refine (fold_ge (lastsF ps s) 0).2 c (List.mem_filter.mpr ⟨hc, ?_⟩)
  rw [List.all_eq_true]
  intro d hd
  have := of_decide_eq_true (ha d hd)
  exact decide_eq_true (by omega)
theorem ltL_one (a b : Nat) : ltL [a] [b] = decide (a < b) := by
  unfold ltL
  by_cases h : a < b
  · rw [decide_eq_true h, decide_eq_true]
    exact List.Lex.rel h
  · rw [decide_eq_false h, decide_eq_false]
    intro z
    cases z with
    | rel q => exact h q
    | cons q => cases q
theorem way_nil (n : Nat) (h2 : 2 ≤ n) (h5 : n ≤ 5) : wayF [] (abc.take n) = (abc.take n).reverse := by
  obtain rfl | rfl | rfl | rfl : n = 2 ∨ n = 3 ∨ n = 4 ∨ n = 5 := by omega
  all_goals decide
theorem val_nil (n : Nat) (h2 : 2 ≤ n) (h5 : n ≤ 5) : Val n [] := ⟨h2, h5, by simp, by simp, by simp⟩
/-- a test that does not hold -/
theorem wifs {c : ME} {a b : List MS} {ρ : DEnv} {N : DEnv → Prop} {R : D → Prop} {X : Nat → Prop} (h : ∀ K : D → Prop, K (.bl false) → wE c ρ K X) (k : wSs b ρ N R X) : wS (.ifs c a b) ρ N R X := by
  rw [wS]
  exact h _ (by simpa only [onB_b, Bool.false_eq_true, if_false] using k)
theorem wifs0 {c : ME} {a : List MS} {r : List MS} {ρ : DEnv} {N : DEnv → Prop} {R : D → Prop} {X : Nat → Prop} (h : ∀ K : D → Prop, K (.bl false) → wE c ρ K X) (k : wSs r ρ N R X) : wSs (.ifs c a [] :: r) ρ N R X := by
  rw [wSs]
  refine wifs h ?_
  rw [wSs]
  exact k
theorem two_of {t : List Nat} (h : t.length = 2) : ∃ x y, t = [x, y] := by
  match t, h with
  | [x, y], _ => exact ⟨x, y, rfl⟩
/-- the last round -/
theorem last_two (ps : Ps) : ∀ (k : Nat) (s : List Nat), s.Nodup → s.length = k + 2 → ∃ (pre : List Nat) (rs : List (List Nat)) (t : List Nat) (w r : Nat), wayF ps s = pre ++ [r, w] ∧ rndF ps s = rs ++ [t] ∧ t.Sublist s ∧ t.length = 2 ∧ outF ps t = r ∧ w ≠ r ∧
    (∀ c, c ∈ t ↔ c = w ∨ c = r) ∧ (∀ tail, pwB ps s (pre ++ tail) = pwB ps t tail)
  | 0, s, hn, hl => by
    obtain ⟨x, y, rfl⟩ := two_of hl
    have hne : x ≠ y := by simpa using hn
    have ho := out_mem (ps := ps) (s := [x, y]) (by simp)
    have hst := way_step (ps := ps) hn (by simp)
    have hrs := rnd_step (ps := ps) hn (by simp)
    rcases List.mem_cons.mp ho with e | e
    · have ef : ([x, y].filter fun z => z != outF ps [x, y]) = [y] := by rw [e]; simp [Ne.symm hne]
      rw [ef, way_one (s := [y]) (by simp), e] at hst
      rw [ef, rnd_one (s := [y]) (by simp)] at hrs
      exact ⟨[], [], [x, y], y, x, hst, hrs, List.Sublist.refl _, rfl, e, Ne.symm hne, fun c => by simp [or_comm], fun _ => rfl⟩
    · have e : outF ps [x, y] = y := by simpa using e
      have ef : ([x, y].filter fun z => z != outF ps [x, y]) = [x] := by rw [e]; simp [hne]
      rw [ef, way_one (s := [x]) (by simp), e] at hst
      rw [ef, rnd_one (s := [x]) (by simp)] at hrs
      exact ⟨[], [], [x, y], x, y, hst, hrs, List.Sublist.refl _, rfl, e, hne, fun c => by simp, fun _ => rfl⟩
  | k + 1, s, hn, hl => by
    have h0 : s ≠ [] := by intro z; rw [z] at hl; simp at hl
    have ho := out_mem (ps := ps) h0
    have hf := filter_len hn ho
    obtain ⟨pre, rs, t, w, r, h1, h2, h3, h4, h5, h6, h7, h8⟩ := last_two ps k (s.filter fun x => x != outF ps s) (hn.filter _) (by omega)
    refine ⟨outF ps s :: pre, s :: rs, t, w, r, ?_, ?_, h3.trans List.filter_sublist, h4, h5, h6, h7, fun tail => ?_⟩
    · rw [way_step hn (by omega), h1]; rfl
    · rw [rnd_step hn (by omega), h2]; rfl
    · show (decide (outF ps s ∈ lastsF ps s) && pwB ps (s.filter fun x => x != outF ps s) (pre ++ tail)) = _
      rw [decide_eq_true (out_in h0), Bool.true_and, h8]
theorem bef_mem {b : List Nat} {x y : Nat} (h : befB b x y = true) : x ∈ b := by
  unfold befB at h
  cases q : idxL b x with
  | none => rw [q] at h; cases h
  | some i => exact idx_mem q
theorem cnt_vf {ps : Ps} {t : List Nat} {x y : Nat} (h : x ≠ y) (ht : ∀ c, c ∈ t ↔ c = x ∨ c = y) : cntC ps t x = vFor ps x y := by
  unfold cntC vFor
  congr 2
  apply List.filter_congr
  intro p _
  exact fst_bef h t ht p.1
theorem atI_m2 {l : List Nat} {r w : Nat} : atI (l ++ [r, w]) (-2) = some r := by
  unfold atI ixN
  rw [List.length_append]
  simp only [List.length_cons, List.length_nil]
  rw [if_neg (by omega), if_pos (by omega)]
  show (l ++ [r, w])[_]? = some r
  rw [show (-2 + ((l.length + 2 : Nat) : Int)).toNat = l.length by omega]
  simp
end PV

set_option Elab.async false
set_option linter.all false
set_option maxRecDepth 100000
/-! PV8: equal ballots put together. -/
namespace PV
open DL
def mrgP (rows : Ps) : Ps := joinP [] (rows.filter fun p => !p.1.isEmpty)
def S__law_merged : FS := fun ds Q _ => ∃ (n : Nat) (rows : Ps), ds = [.int n, .lst (encP rows)] ∧ rows.length ≤ 8 ∧ (∀ p ∈ rows, p.1.length ≤ 5) ∧ Q (if (mrgP rows).any (fun p => decide (20 < p.2)) = true then .non else encV n (mrgP rows))
end PV

set_option Elab.async false
set_option linter.all false
set_option maxRecDepth 100000
/-! Printed by gen.py: the forms over data. -/
namespace PV
open DL
def m__law_merged : List MS := [.asg (.nm 2) [] (.lst []), .for (.tp [.nm 3, .nm 4]) [] (.var 1) [.asg (.nm 5) [] (.lc (.tp [.nm 7, .nm 8]) (.peek 2) [] (.var 7)), .ifs (.cmp .inn (.peek 3) (.peek 5)) [.asg (.nm 6) [] (.b2 .lindex (.peek 5) (.peek 3)), .setix 2 [] (.peek 6) (.tup [.var 3, .bin .add (.sub (.sub (.peek 2) (.peek 6)) (.con (.int 1))) (.peek 4)])] [.ifs (.cmp .ne (.peek 3) (.con (.str []))) [.app 2 [] (.tup [.var 3, .var 4])] []]], .ret [] (.ife (.b1 .any (.lc (.tp [.nm 3, .nm 4]) (.peek 2) [] (.cmp .gt (.peek 4) (.con (.int 20))))) (.con .non) (.tup [.var 0, .b1 .tuple (.peek 2)]))]
end PV

set_option Elab.async false
set_option linter.all false
set_option maxRecDepth 100000
set_option maxHeartbeats 1000000
/-! PVk: equal ballots put together, plainly. -/
namespace PV
open DL L2
theorem idxM {f : Ps} {b : List Nat} {i : Nat} (h : idxL (f.map (·.1)) b = some i) : b ∈ f.map (·.1) := by
  unfold idxL at h
  rw [List.findIdx?_eq_some_iff_getElem] at h
  obtain ⟨h1, h2, _⟩ := h
  have : (f.map (·.1))[i] = b := by simpa using h2
  exact this ▸ List.getElem_mem h1
/-- a pair's number raised where it stands -/
theorem set_wm : ∀ (f : Ps) (b : List Nat) (t i : Nat), (f.map (·.1)).Nodup → idxL (f.map (·.1)) b = some i → ∃ u, f[i]? = some (b, u) ∧ f.set i (b, u + t) = wmore f b t := by
  intro f b t i hn hi
  have hm : b ∈ f.map (·.1) := idxM hi
  unfold wmore
  rw [if_pos hm]
  clear hm
  induction f generalizing i with
  | nil => simp [idxL] at hi
  | cons p r ih =>
    obtain ⟨pb, pt⟩ := p
    rw [List.map_cons, List.nodup_cons] at hn
    unfold idxL at hi
    rw [List.map_cons, List.findIdx?_cons] at hi
    by_cases h : pb = b
    · subst h
      simp at hi
      subst hi
      refine ⟨pt, rfl, ?_⟩
      rw [List.set_cons_zero, List.map_cons, if_pos rfl]
      congr 1
      refine ((List.map_congr_left fun q hq => if_neg fun e => ?_).trans (List.map_id _)).symm
      exact hn.1 (List.mem_map.mpr ⟨q, hq, e⟩)
    · rw [if_neg (by simp [h])] at hi
      obtain ⟨j, hj, rfl⟩ := Option.map_eq_some_iff.mp hi
      obtain ⟨u, h1, h2⟩ := ih j hn.2 hj
      refine ⟨u, by simpa using h1, ?_⟩
      rw [List.set_cons_succ, h2, List.map_cons, if_neg h]
theorem idx_someL {f : List (List Nat)} {b : List Nat} (h : b ∈ f) : ∃ i, idxL f b = some i := by
  cases q : idxL f b with
  | some i => exact ⟨i, rfl⟩
  | none =>
    unfold idxL at q
    rw [List.findIdx?_eq_none_iff] at q
    have := q b h
    simp at this
theorem wm_len2 (a : Ps) (b : List Nat) (t : Nat) : (wmore a b t).length ≤ a.length + 1 := by
  unfold wmore
  split <;> simp
theorem jn_len (qs : Ps) : ∀ ps : Ps, (joinP ps qs).length ≤ ps.length + qs.length := by
  induction qs with
  | nil => intro ps; exact Nat.le_refl _
  | cons q r ih =>
    intro ps
    have h1 := ih (wmore ps q.1 q.2)
    have h2 := wm_len2 ps q.1 q.2
    show (joinP (wmore ps q.1 q.2) r).length ≤ _
    simp only [List.length_cons]
    omega
theorem jn_nd (qs : Ps) : ∀ ps : Ps, (ps.map (·.1)).Nodup → ((joinP ps qs).map (·.1)).Nodup := by
  induction qs with
  | nil => intro ps h; exact h
  | cons q r ih => intro ps h; exact ih _ (wm_nd q.1 q.2 h)
theorem mrg_len (rows : Ps) : (mrgP rows).length ≤ rows.length := by
  have := jn_len (rows.filter fun p => !p.1.isEmpty) []
  have h2 : (rows.filter fun p => !p.1.isEmpty).length ≤ rows.length := List.length_filter_le ..
  simp only [List.length_nil] at this
  unfold mrgP; omega
theorem mrg_nd (rows : Ps) : ((mrgP rows).map (·.1)).Nodup := jn_nd _ [] List.nodup_nil
theorem mrg_snoc (rows : Ps) (p : List Nat × Nat) : mrgP (rows ++ [p]) = if p.1 = [] then mrgP rows else wmore (mrgP rows) p.1 p.2 := by
  unfold mrgP
  rw [List.filter_append]
  by_cases h : p.1 = []
  · rw [if_pos h]; simp [h]
  · rw [if_neg h, show ([p].filter fun p => !p.1.isEmpty) = [p] from by simp [List.isEmpty_iff, h], jn_snoc]
theorem jn_key (qs : Ps) : ∀ (ps : Ps) (x : List Nat), x ∈ (joinP ps qs).map (·.1) → x ∈ ps.map (·.1) ∨ x ∈ qs.map (·.1) := by
  induction qs with
  | nil => intro ps x h; exact .inl h
  | cons q r ih =>
    intro ps x h
    rcases ih (wmore ps q.1 q.2) x h with h | h
    · rw [wm_keys] at h
      split at h
      · exact .inl h
      · rcases List.mem_append.mp h with h | h
        · exact .inl h
        · rw [List.mem_singleton] at h; exact .inr (by rw [h]; simp)
    · exact .inr (by simp at h ⊢; exact .inr h)
theorem mrg_key {rows : Ps} {x : List Nat} (h : x ∈ (mrgP rows).map (·.1)) : x ∈ rows.map (·.1) ∧ x ≠ [] := by
  rcases jn_key _ [] x h with h | h
  · cases h
  · obtain ⟨p, hp, rfl⟩ := List.mem_map.mp h
    obtain ⟨h1, h2⟩ := List.mem_filter.mp hp
    exact ⟨List.mem_map_of_mem h1, by simpa [List.isEmpty_iff] using h2⟩
theorem mem_strs (k : List Nat) (ss : List (List Nat)) : ((ss.map D.str).any fun z => D.eqv z (.str k)) = decide (k ∈ ss) := by
  rw [List.any_map, Bool.eq_iff_iff, List.any_eq_true, decide_eq_true_iff]
  constructor
  · rintro ⟨z, hz, e⟩
    simp only [Function.comp, ev_str, beq_iff_eq] at e
    exact e ▸ hz
  · intro h
    exact ⟨k, h, by simp⟩
theorem encP_set2 {f : Ps} {i : Nat} {b : List Nat} {u t : Nat} : (encP f).set i (.tup [.str b, .int ((u : Nat) + (t : Nat))]) = encP (f.set i (b, u + t)) := by
  unfold encP
  rw [List.map_set]
  congr 2
theorem obl__law_merged : ∀ ds Q X, S__law_merged ds Q X → wSs m__law_merged (envD 9 ds) (fun _ => Q .non) Q X := by
  rintro _ Q X ⟨n, rows, rfl, h8, h5, q⟩
  rw [show envD 9 [.int n, .lst (encP rows)] = [.imm (.int n), .imm (.lst (encP rows)), .no, .no, .no, .no, .no, .no, .no] from rfl, m__law_merged]
  rw [wSs, wS]
  simp only [wE, wEs, frz, frz1, Slot.frz, List.set_cons_succ, List.set_cons_zero, List.getElem?_cons_zero, List.getElem?_cons_succ, List.length_cons, List.length_nil]
  refine ⟨by decide, ?_⟩
  rw [slot_new rfl]
  rw [wSs, wS]
  simp only [wE, wEs, frz, frz1, Slot.frz, List.set_cons_succ, List.set_cons_zero, List.getElem?_cons_zero, List.getElem?_cons_succ, List.length_cons, List.length_nil]
  rw [onIt_l]
  have nno : NO .no := by intro _ z; cases z
  refine wLoop_inv (fun i ρ => ∃ a b c d, NO a ∧ NO b ∧ ρ = [.imm (.int n), .imm (.lst (encP rows)), .own (.lst (encP (mrgP (rows.take i)))), a, b, c, d, .no, .no]) _ 0 _ ⟨.no, .no, .no, .no, nno, nno, rfl⟩ (fun i x ρ K hx ⟨a, b, c, d, na, nb, e⟩ hK => ?_) fun ρ ⟨a, b, c, d, na, nb, e⟩ => ?_
  · subst e
    rw [Nat.zero_add] at hK ⊢
    unfold encP at hx
    rw [List.getElem?_map] at hx
    obtain ⟨p, hp1, hp2⟩ := Option.map_eq_some_iff.mp hx
    subst hp2
    have hmem := List.mem_of_getElem? hp1
    have hb5 := h5 p hmem
    have htk : rows.take (i + 1) = rows.take i ++ [p] := by rw [List.take_succ, hp1]; rfl
    have hml := mrg_len (rows.take i)
    have htl : (rows.take i).length ≤ 8 := by rw [List.length_take]; omega
    have hsn := mrg_snoc (rows.take i) p
    rw [← htk] at hsn
    simp only [asgG, asgGs, Option.bind_some, onS_s, List.set_cons_succ, List.set_cons_zero]
    rw [wSs, wS]
    simp only [wE, wEs, frz, frz1, Slot.frz, List.set_cons_succ, List.set_cons_zero, List.getElem?_cons_zero, List.getElem?_cons_succ, List.length_cons, List.length_nil]
    simp only [MG.slots, MG.slotss, List.cons_append, List.nil_append, wipeD, List.set_cons_succ, List.set_cons_zero]
    refine ⟨by simp [notOwn], ?_⟩
    rw [onIt_l]
    refine wLC_map (fun d => match d with | .tup [.str b, _] => .str b | _ => .non) _ _ (by rw [encP_len]; omega) (fun d hd => ?_) ?_
    · obtain ⟨q, hq, rfl⟩ := List.mem_map.mp hd
      refine ⟨_, rfl, fun K k => ?_⟩
      simpa [wE] using k
    have em : ((encP (mrgP (rows.take i))).map fun d => match d with | .tup [.str b, _] => D.str b | _ => .non) = ((mrgP (rows.take i)).map (·.1)).map .str := by simp [encP, Function.comp_def]
    rw [em, slot_new rfl]
    rw [wSs, wS]
    simp only [wE, wEs, frz, frz1, Slot.frz, List.set_cons_succ, List.set_cons_zero, List.getElem?_cons_zero, List.getElem?_cons_succ, List.length_cons, List.length_nil]
    rw [c_inL, eqOk_f rfl (by rw [pl_lst]; exact strs_pls _) (.inl (by simp)), if_pos rfl, onS_s, mem_strs]
    simp only [onB_b]
    by_cases hk : p.1 ∈ (mrgP (rows.take i)).map (·.1)
    · rw [decide_eq_true hk]
      simp only [if_true]
      obtain ⟨j, hj⟩ := idx_someL hk
      obtain ⟨u, hu1, hu2⟩ := set_wm _ _ p.2 j (mrg_nd _) hj
      have hne := (mrg_key hk).2
      rw [if_neg hne] at hsn
      rw [wSs, wS]
      simp only [wE, wEs, frz, frz1, Slot.frz, List.set_cons_succ, List.set_cons_zero, List.getElem?_cons_zero, List.getElem?_cons_succ, List.length_cons, List.length_nil]
      refine ⟨rfl, ?_⟩
      rw [show b2D .lindex (.lst (((mrgP (rows.take i)).map (·.1)).map .str)) (.str p.1) = some (.int (j : Nat)) from by
        show ((strsD (((mrgP (rows.take i)).map (·.1)).map .str)).bind fun ss => (idxL ss p.1).map fun (i : Nat) => D.int (i : Nat)) = _
        rw [strs_str, Option.bind_some, hj]; rfl, onS_s, slot_int]
      rw [wSs, wS]
      simp only [wE, wEs, frz, frz1, Slot.frz, List.set_cons_succ, List.set_cons_zero, List.getElem?_cons_zero, List.getElem?_cons_succ, List.length_cons, List.length_nil]
      have hjl := lt_of_get' hu1
      have hg : (encP (mrgP (rows.take i)))[j]? = some (.tup [.str p.1, .int u]) := by
        unfold encP
        rw [List.getElem?_map, hu1]; rfl
      rw [sub_lst, atI_n hg, onS_s, sub_tup, atI1, onS_s, a_int, onS_s]
      refine ⟨by decide, ?_⟩
      try simp only []
      rw [encP_len, ixN_n hjl, onS_s, encP_set2, hu2, ← hsn, wSs, wSs]
      exact hK _ ⟨_, _, _, _, (by intro _ z; cases z), (by intro _ z; cases z), rfl⟩
    · rw [decide_eq_false hk]
      simp only [Bool.false_eq_true, if_false]
      rw [wSs, wS]
      simp only [wE, wEs, frz, frz1, Slot.frz, List.set_cons_succ, List.set_cons_zero, List.getElem?_cons_zero, List.getElem?_cons_succ, List.length_cons, List.length_nil]
      rw [c_ne, eqOk_f (x := .str _) (y := .str _) rfl rfl (.inl (by simp)), if_pos rfl, ev_str, onS_s]
      simp only [onB_b]
      by_cases hne : p.1 = []
      · rw [if_pos hne] at hsn
        rw [hne]
        simp only [beq_self_eq_true, Bool.not_true, Bool.false_eq_true, if_false]
        rw [wSs, wSs, wSs, ← hsn]
        exact hK _ ⟨_, _, _, _, (by intro _ z; cases z), (by intro _ z; cases z), rfl⟩
      · rw [if_neg hne] at hsn
        rw [show (!(p.1 == [])) = true from by simp [hne]]
        simp only [if_true]
        rw [wSs, wS]
        simp only [wE, wEs, frz, frz1, Slot.frz, List.set_cons_succ, List.set_cons_zero, List.getElem?_cons_zero, List.getElem?_cons_succ, List.length_cons, List.length_nil]
        refine ⟨by decide, by rw [encP_len]; omega, ?_⟩
        rw [wSs, wSs, wSs]
        have eL : encP (mrgP (rows.take i)) ++ [D.tup [.str p.1, .int p.2]] = encP (mrgP (rows.take (i + 1))) := by
          rw [hsn]
          unfold wmore
          rw [if_neg hk, encP_app]; rfl
        rw [eL]
        exact hK _ ⟨_, _, _, _, (by intro _ z; cases z), (by intro _ z; cases z), rfl⟩
  · subst e
    rw [Nat.zero_add, show (encP rows).length = rows.length from encP_len rows, List.take_length]
    have hml := mrg_len rows
    rw [wSs, wS]
    simp only [wE, wEs, frz, frz1, Slot.frz, List.set_cons_succ, List.set_cons_zero, List.getElem?_cons_zero, List.getElem?_cons_succ, List.length_cons, List.length_nil]
    simp only [MG.slots, MG.slotss, List.cons_append, List.nil_append, wipeD, List.set_cons_succ, List.set_cons_zero]
    refine ⟨by simp [notOwn]; exact ⟨NO.ok na, NO.ok nb⟩, ?_⟩
    rw [onIt_l]
    refine wLC_map (fun d => match d with | .tup [_, .int t] => D.bl (decide ((20 : Int) < t)) | _ => .non) _ _ (by rw [encP_len]; omega) (fun d hd => ?_) ?_
    · obtain ⟨q, hq, rfl⟩ := List.mem_map.mp hd
      refine ⟨_, rfl, fun K k => ?_⟩
      simp only [wE, wEs, List.set_cons_succ, List.set_cons_zero, List.getElem?_cons_zero, List.getElem?_cons_succ, c_gt, onS_s]
      exact k
    rw [show (b1D .any (.lst ((encP (mrgP rows)).map fun d => match d with | .tup [_, .int t] => D.bl (decide ((20 : Int) < t)) | _ => .non))) = some (.bl (((mrgP rows).map fun p => decide (20 < p.2)).any id)) from (congrArg (fun l => b1D .any (.lst l)) (many_gt (mrgP rows))).trans (any_bls _), onS_s]
    simp only [onB_b]
    have e1 : ((mrgP rows).map fun p => decide (20 < p.2)).any id = (mrgP rows).any fun p => decide (20 < p.2) := by
      rw [List.any_map]; rfl
    rw [e1]
    by_cases hb : ((mrgP rows).any fun p => decide (20 < p.2)) = true
    · rw [if_pos hb] at q ⊢
      exact q
    · rw [if_neg hb] at q ⊢
      rw [show b1D .tuple (.lst (encP (mrgP rows))) = some (.tup (encP (mrgP rows))) from rfl, onS_s]
      exact ⟨by simp, q⟩
end PV

set_option Elab.async false
set_option linter.all false
set_option maxRecDepth 100000
set_option maxHeartbeats 4000000
/-! Printed by genw.py: the bodies of k18_whole_cut_ballots. -/
namespace PW
open PySem PySem.Spec PyProof.Rows L2 DL PV
variable [Tb]
def top (i : Nat) : Stmt := PySem.Challenge.pw_lastout_k18_whole_cut_ballots.main.body.getD i (.Pass ⟨0, 0, 0, 0⟩)
structure Txt (K : PySem.W.Frag) (mg : Str → Option Value) (cls : Nat → Addr) : Prop where
  z_ValueError : mg "ValueError" = none
  z_all : mg "all" = none
  z_any : mg "any" = none
  z_bool : mg "bool" = none
  z_enumerate : mg "enumerate" = none
  z_int : mg "int" = none
  z_isinstance : mg "isinstance" = none
  z_len : mg "len" = none
  z_list : mg "list" = none
  z_max : mg "max" = none
  z_min : mg "min" = none
  z_range : mg "range" = none
  z_set : mg "set" = none
  z_str : mg "str" = none
  z_sum : mg "sum" = none
  z_tuple : mg "tuple" = none
  c_LETTERS : ∃ t, mg "LETTERS" = some (.str (mkS [97, 98, 99, 100, 101]) t)
  q_InvalidVotes : PySem.W.excIn K (cls 0) [.type "ValueError", .type "Exception", .type "BaseException", .type "object"] "ValueError.__new__" = true
  g_InvalidVotes : mg "InvalidVotes" = some (.ref (cls 0))
  k_InvalidVotes : PySem.W.keepIn K (.ref (cls 0)) = true
  s_InvalidVotes : PySem.W.subIn K (.ref (cls 0)) (.type "BaseException") = some true
  t_InvalidVotes : PySem.W.typeIn K (.ref (cls 0)) = some (.type "type")
  q_InvalidCandidates : PySem.W.excIn K (cls 5) [.type "ValueError", .type "Exception", .type "BaseException", .type "object"] "ValueError.__new__" = true
  g_InvalidCandidates : mg "InvalidCandidates" = some (.ref (cls 5))
  k_InvalidCandidates : PySem.W.keepIn K (.ref (cls 5)) = true
  s_InvalidCandidates : PySem.W.subIn K (.ref (cls 5)) (.type "BaseException") = some true
  t_InvalidCandidates : PySem.W.typeIn K (.ref (cls 5)) = some (.type "type")
section
variable {P : Program} {w : World} {K : PySem.W.Frag} {mg : Str → Option Value} {base : Heap} {cls : Nat → Addr}
theorem Txt.LETTERS_te {X : Cx} {W : WX} {pos : Pos} (hT : Txt X.K X.mg cls) (hg : Gl X "LETTERS" := by rfl) : PE X (.Name "LETTERS" pos) (tD cls W true (.con (.str [97, 98, 99, 100, 101]))) := by
  obtain ⟨t, h⟩ := hT.c_LETTERS
  exact te_glob hg h ⟨t, rfl⟩
abbrev s_is_whole : Stmt := top 6
theorem sc_is_whole : FnScope ["value", "low", "high"] ["value", "low", "high"] (defScope s_is_whole) := ⟨rfl, rfl, rfl, by decide +kernel, rfl, by decide +kernel, by decide +kernel⟩
theorem b_is_whole (hT : Txt K mg cls)  {f : Addr} {cdv : Value} {A : Around} {outer : List Env} {s : Shared} {H : Hp} {E : XK}
    (hB : Body P w K mg base cls 0 (cxOf (L2N.CX P w) P w K mg base ["value", "low", "high"] "is_whole" (defScope s_is_whole) f cdv A outer s H E) (fun c d _ H => E c d H)) :
    PSs (cxOf (L2N.CX P w) P w K mg base ["value", "low", "high"] "is_whole" (defScope s_is_whole) f cdv A outer s H E) (defBody s_is_whole) (tSs cls (fun c d _ H => E c d H) m_is_whole) :=
  have hS := sc_is_whole
  (tss_cons (ts_ret (te_and (ti (t := .int) hT.z_isinstance hT.z_int (tp 0)) (te_and (te_not (ti (t := .bool) hT.z_isinstance hT.z_bool (tp 0))) (te_one (te_chain oc_le oc_le (tp 1) (tp 0) (tp 2))))))
  tss_nil)
abbrev s_are_letters : Stmt := top 7
theorem sc_are_letters : FnScope ["value", "some", "letter"] ["value", "some"] (defScope s_are_letters) := ⟨rfl, rfl, rfl, by decide +kernel, rfl, by decide +kernel, by decide +kernel⟩
theorem b_are_letters (hT : Txt K mg cls)  {f : Addr} {cdv : Value} {A : Around} {outer : List Env} {s : Shared} {H : Hp} {E : XK}
    (hB : Body P w K mg base cls 0 (cxOf (L2N.CX P w) P w K mg base ["value", "some", "letter"] "are_letters" (defScope s_are_letters) f cdv A outer s H E) (fun c d _ H => E c d H)) :
    PSs (cxOf (L2N.CX P w) P w K mg base ["value", "some", "letter"] "are_letters" (defScope s_are_letters) f cdv A outer s H E) (defBody s_are_letters) (tSs cls (fun c d _ H => E c d H) m_are_letters) :=
  have hS := sc_are_letters
  (tss_cons (ts_if (L2.PW.pt (tw_or (tt_not (tt_val (ti (t := .str) hT.z_isinstance hT.z_str (tp 0)))) (tw_or (tt_cmp (oc_eq (units0 hB.room)) (tp 0) (te_pk (te_str []))) (tw_one1 (tt_not (tt_val (tb_all hB.calm hT.z_all (te_pk (te_lc (own := [("letter", 2)]) hB.calm hS.nd (ti_seqP (tp 0)) (blkOk_by (by kernel_rfl)) rfl (fun _ _ _ _ _ => (gn 2 hS.nd)) (fun _ _ _ _ _ => tts_nil) (fun _ _ _ _ _ => (te_cmp (oc_in (units0 hB.room)) (tp 2) (tp 1)))))))) (by first | exact .inl rfl | exact .inr rfl))))) (tss_cons (ts_ret te_bl)
  tss_nil) tss_nil)
  (tss_cons (ts_ret (te_cmp (oc_eq (units0 hB.room)) (te_pk (tb_lenset hB.calm hT.z_len hT.z_set (tp 0))) (te_pk (tb_len hT.z_len (tp 0)))))
  tss_nil))
abbrev s_is_pair : Stmt := top 8
theorem sc_is_pair : FnScope ["value", "some"] ["value", "some"] (defScope s_is_pair) := ⟨rfl, rfl, rfl, by decide +kernel, rfl, by decide +kernel, by decide +kernel⟩
theorem b_is_pair (hT : Txt K mg cls) (hC_are_letters : Cal P w K mg base cls 1 "are_letters" S_are_letters) (hC_is_whole : Cal P w K mg base cls 1 "is_whole" S_is_whole) {f : Addr} {cdv : Value} {A : Around} {outer : List Env} {s : Shared} {H : Hp} {E : XK}
    (hB : Body P w K mg base cls 1 (cxOf (L2N.CX P w) P w K mg base ["value", "some"] "is_pair" (defScope s_is_pair) f cdv A outer s H E) (fun c d _ H => E c d H)) :
    PSs (cxOf (L2N.CX P w) P w K mg base ["value", "some"] "is_pair" (defScope s_is_pair) f cdv A outer s H E) (defBody s_is_pair) (tSs cls (fun c d _ H => E c d H) m_is_pair) :=
  have hS := sc_is_pair
  (tss_cons (ts_ret (te_and (ti (t := .tuple) hT.z_isinstance hT.z_tuple (tp 0)) (te_and (te_cmp (oc_eq (units0 hB.room)) (te_pk (tb_len hT.z_len (tp 0))) (te_pk te_int)) (te_and (te_fn (k := 1) hC_are_letters hB.takes hB.room (by decide) (tas_cons (te_sub (units1 hB.room) (tp 0) (te_pk te_int)) (tas_cons (tv 1) tas_nil))) (te_one (te_fn (k := 1) hC_is_whole hB.takes hB.room (by decide) (tas_cons (te_sub (units1 hB.room) (tp 0) (te_pk te_int)) (tas_cons te_int (tas_cons te_int tas_nil)))))))))
  tss_nil)
abbrev s_is_votes : Stmt := top 9
theorem sc_is_votes : FnScope ["value", "one", "ballot", "times"] ["value"] (defScope s_is_votes) := ⟨rfl, rfl, rfl, by decide +kernel, rfl, by decide +kernel, by decide +kernel⟩
theorem b_is_votes (hT : Txt K mg cls) (hC_is_pair : Cal P w K mg base cls 2 "is_pair" S_is_pair) (hC_is_whole : Cal P w K mg base cls 1 "is_whole" S_is_whole) {f : Addr} {cdv : Value} {A : Around} {outer : List Env} {s : Shared} {H : Hp} {E : XK}
    (hB : Body P w K mg base cls 2 (cxOf (L2N.CX P w) P w K mg base ["value", "one", "ballot", "times"] "is_votes" (defScope s_is_votes) f cdv A outer s H E) (fun c d _ H => E c d H)) :
    PSs (cxOf (L2N.CX P w) P w K mg base ["value", "one", "ballot", "times"] "is_votes" (defScope s_is_votes) f cdv A outer s H E) (defBody s_is_votes) (tSs cls (fun c d _ H => E c d H) m_is_votes) :=
  have hS := sc_is_votes
  (tss_cons (ts_if (L2.PW.pt (tw_or (tt_not (tt_val (ti (t := .tuple) hT.z_isinstance hT.z_tuple (tp 0)))) (tw_or (tt_cmp (oc_ne (units0 hB.room)) (te_pk (tb_len hT.z_len (tp 0))) (te_pk te_int)) (tw_one1 (tt_not (tt_val (te_fn (k := 1) hC_is_whole hB.takes hB.room (by decide) (tas_cons (te_sub (units1 hB.room) (tp 0) (te_pk te_int)) (tas_cons te_int (tas_cons te_int tas_nil)))))) (by first | exact .inl rfl | exact .inr rfl))))) (tss_cons (ts_ret te_bl)
  tss_nil) tss_nil)
  (tss_cons (ts_if (L2.PW.pt (tw_or (tt_not (tt_val (ti (t := .tuple) hT.z_isinstance hT.z_tuple (te_pk (te_sub (units1 hB.room) (tp 0) (te_pk te_int)))))) (tw_one1 (tt_cmp oc_gt (te_pk (tb_len hT.z_len (te_pk (te_sub (units1 hB.room) (tp 0) (te_pk te_int))))) (te_pk te_int)) (by first | exact .inl rfl | exact .inr rfl)))) (tss_cons (ts_ret te_bl)
  tss_nil) tss_nil)
  (tss_cons (ts_if (tt_not (tt_val (tb_all hB.calm hT.z_all (te_pk (te_lc (own := [("one", 1)]) hB.calm hS.nd (ti_seqP (te_pk (te_sub (units1 hB.room) (tp 0) (te_pk te_int)))) (blkOk_by (by kernel_rfl)) rfl (fun _ _ _ _ _ => (gn 1 hS.nd)) (fun _ _ _ _ _ => tts_nil) (fun _ _ _ _ _ => (te_fn (k := 2) hC_is_pair DL.takes0 hB.room (by decide) (tas_cons (tv 1) (tas_cons (te_sl (te_pk (hT.LETTERS_te (cls := cls))) to_none (to_some (te_sub (units1 hB.room) (tp 0) (te_pk te_int)))) tas_nil))))))))) (tss_cons (ts_ret te_bl)
  tss_nil) tss_nil)
  (tss_cons (ts_ret (te_cmp (oc_eq (units0 hB.room)) (te_pk (tb_lenset hB.calm hT.z_len hT.z_set (te_pk (te_lc (own := [("ballot", 2), ("times", 3)]) hB.calm hS.nd (ti_seqP (te_pk (te_sub (units1 hB.room) (tp 0) (te_pk te_int)))) (blkOk_by (by kernel_rfl)) rfl (fun _ _ _ _ _ => (tg_tup rfl (tgs_cons (gn 2 hS.nd) (tgs_cons (gn 3 hS.nd) tgs_nil)))) (fun _ _ _ _ _ => tts_nil) (fun _ _ _ _ _ => (tv 2)))))) (te_pk (tb_len hT.z_len (te_pk (te_sub (units1 hB.room) (tp 0) (te_pk te_int)))))))
  tss_nil))))
abbrev s_need_votes : Stmt := top 10
theorem sc_need_votes : FnScope ["votes"] ["votes"] (defScope s_need_votes) := ⟨rfl, rfl, rfl, by decide +kernel, rfl, by decide +kernel, by decide +kernel⟩
theorem b_need_votes (hT : Txt K mg cls) (hC_is_votes : Cal P w K mg base cls 3 "is_votes" S_is_votes) {f : Addr} {cdv : Value} {A : Around} {outer : List Env} {s : Shared} {H : Hp} {E : XK}
    (hB : Body P w K mg base cls 3 (cxOf (L2N.CX P w) P w K mg base ["votes"] "need_votes" (defScope s_need_votes) f cdv A outer s H E) (fun c d _ H => E c d H)) :
    PSs (cxOf (L2N.CX P w) P w K mg base ["votes"] "need_votes" (defScope s_need_votes) f cdv A outer s H E) (defBody s_need_votes) (tSs cls (fun c d _ H => E c d H) m_need_votes) :=
  have hS := sc_need_votes
  (tss_cons (ts_if (tt_not (tt_val (te_fn (k := 3) hC_is_votes hB.takes hB.room (by decide) (tas_cons (tv 0) tas_nil)))) (tss_cons (ts_raise hB.calm hB.takes PySem.F.excBase_ValueError hT.q_InvalidVotes hT.g_InvalidVotes hT.k_InvalidVotes (raises_own hT.s_InvalidVotes hT.t_InvalidVotes) rfl)
  tss_nil) tss_nil)
  tss_nil)
abbrev s_candidates_of : Stmt := top 11
theorem sc_candidates_of : FnScope ["votes"] ["votes"] (defScope s_candidates_of) := ⟨rfl, rfl, rfl, by decide +kernel, rfl, by decide +kernel, by decide +kernel⟩
theorem b_candidates_of (hT : Txt K mg cls)  {f : Addr} {cdv : Value} {A : Around} {outer : List Env} {s : Shared} {H : Hp} {E : XK}
    (hB : Body P w K mg base cls 0 (cxOf (L2N.CX P w) P w K mg base ["votes"] "candidates_of" (defScope s_candidates_of) f cdv A outer s H E) (fun c d _ H => E c d H)) :
    PSs (cxOf (L2N.CX P w) P w K mg base ["votes"] "candidates_of" (defScope s_candidates_of) f cdv A outer s H E) (defBody s_candidates_of) (tSs cls (fun c d _ H => E c d H) m_candidates_of) :=
  have hS := sc_candidates_of
  (tss_cons (ts_ret (te_sl (te_pk (hT.LETTERS_te (cls := cls))) to_none (to_some (te_sub (units1 hB.room) (tp 0) (te_pk te_int)))))
  tss_nil)
abbrev s_counts_of : Stmt := top 13
theorem sc_counts_of : FnScope ["pairs", "some", "found", "ballot", "times", "left", "letter"] ["pairs", "some"] (defScope s_counts_of) := ⟨rfl, rfl, rfl, by decide +kernel, rfl, by decide +kernel, by decide +kernel⟩
theorem b_counts_of (hT : Txt K mg cls)  {f : Addr} {cdv : Value} {A : Around} {outer : List Env} {s : Shared} {H : Hp} {E : XK}
    (hB : Body P w K mg base cls 0 (cxOf (L2N.CX P w) P w K mg base ["pairs", "some", "found", "ballot", "times", "left", "letter"] "counts_of" (defScope s_counts_of) f cdv A outer s H E) (fun c d _ H => E c d H)) :
    PSs (cxOf (L2N.CX P w) P w K mg base ["pairs", "some", "found", "ballot", "times", "left", "letter"] "counts_of" (defScope s_counts_of) f cdv A outer s H E) (defBody s_counts_of) (tSs cls (fun c d _ H => E c d H) m_counts_of) :=
  have hS := sc_counts_of
  (tss_cons (ts_nm 2 hS.nd (te_dc (own := [("letter", 6)]) hB.calm hS.nd (ti_seqP (tp 1)) (blkOk_by (by kernel_rfl)) rfl (fun _ _ _ _ _ => (gn 6 hS.nd)) (fun _ _ _ _ _ => (tv 6)) (fun _ _ _ _ _ => te_int)))
  (tss_cons (ts_for hB.pass hB.calm (ti_seq (tv 0)) (tg_tup hB.calm (tgs_cons (gn 3 hS.nd) (tgs_cons (gn 4 hS.nd) tgs_nil))) (tss_cons (ts_setLc (i := 5) (own := [("letter", 6)]) hB.calm hS.nd rfl rfl (sw_true rfl rfl rfl rfl) (ti_seqP (tp 3)) (blkOk_by (by kernel_rfl)) rfl (fun _ _ _ _ _ => (gn 6 hS.nd)) (fun _ _ _ _ _ => (tts_one (tt_cmp (oc_in (units0 hB.room)) (tp 6) (tp 1)))) (fun _ _ _ _ _ => (tv 6)))
  (tss_cons (ts_if (tt_cmp (oc_ne (units0 hB.room)) (tp 5) (te_pk (te_lst tas_nil))) (tss_cons (ts_augix (i := 2) (units1 hB.room) rfl (by first | exact .inl rfl | exact .inr (.inl rfl) | exact .inr (.inr rfl)) (by exact (te_pk (te_sub (units1 hB.room) (tp 5) (te_pk te_int)))) (by exact (tp 4)))
  tss_nil) tss_nil)
  tss_nil)))
  (tss_cons (ts_ret (te_lc (own := [("letter", 6)]) hB.calm hS.nd (ti_seqP (tp 1)) (blkOk_by (by kernel_rfl)) rfl (fun _ _ _ _ _ => (gn 6 hS.nd)) (fun _ _ _ _ _ => tts_nil) (fun _ _ _ _ _ => (te_sub (units1 hB.room) (tp 2) (tp 6)))))
  tss_nil)))
abbrev s_last_ones : Stmt := top 14
theorem sc_last_ones : FnScope ["pairs", "some", "own", "place", "letter"] ["pairs", "some"] (defScope s_last_ones) := ⟨rfl, rfl, rfl, by decide +kernel, rfl, by decide +kernel, by decide +kernel⟩
theorem b_last_ones (hT : Txt K mg cls) (hC_counts_of : Cal P w K mg base cls 1 "counts_of" S_counts_of) {f : Addr} {cdv : Value} {A : Around} {outer : List Env} {s : Shared} {H : Hp} {E : XK}
    (hB : Body P w K mg base cls 1 (cxOf (L2N.CX P w) P w K mg base ["pairs", "some", "own", "place", "letter"] "last_ones" (defScope s_last_ones) f cdv A outer s H E) (fun c d _ H => E c d H)) :
    PSR (cxOf (L2N.CX P w) P w K mg base ["pairs", "some", "own", "place", "letter"] "last_ones" (defScope s_last_ones) f cdv A outer s H E) (defBody s_last_ones) (tSs cls (fun c d _ H => E c d H) m_last_ones) RL :=
  have hS := sc_last_ones
  (psr_setD (i := 2) hS.nd rfl (by first | exact .inl rfl | exact .inr rfl) (te_fn (k := 1) hC_counts_of hB.takes hB.room (by decide) (tas_cons (tv 0) (tas_cons (tv 1) tas_nil))) (psr_retD (te_lcR (own := [("place", 3), ("letter", 4)]) (j := 4) hB.calm hS.nd (tipR (tir_enumS rfl hT.z_enumerate (tv 1))) (blkOk_by (by kernel_rfl)) rfl (fun _ _ _ _ _ => pgr_pair (i := 3) (j := 4) rfl hS.nd rfl rfl (by decide) (by first | exact .inl rfl | exact .inr rfl) (by first | exact .inl rfl | exact .inr rfl) (by first | exact .inl rfl | exact .inr rfl) (by first | exact .inl rfl | exact .inr rfl)) (fun _ _ _ _ _ => ttsk_one (kt_cmp (kc_eq (units0 hB.room)) (kpk (k_sub (kp 2) (kp 3))) (kpk (kb_min rfl hT.z_min (kp 2)))) rfl) rfl (fun _ _ => .inl rfl))))
abbrev s_way_of : Stmt := top 15
theorem sc_way_of : FnScope ["pairs", "some", "found", "out"] ["pairs", "some"] (defScope s_way_of) := ⟨rfl, rfl, rfl, by decide +kernel, rfl, by decide +kernel, by decide +kernel⟩
theorem b_way_of (hT : Txt K mg cls) (hC_last_ones : CalR P w K mg base cls 2 "last_ones" S_last_ones RL) {f : Addr} {cdv : Value} {A : Around} {outer : List Env} {s : Shared} {H : Hp} {E : XK}
    (hB : Body P w K mg base cls 2 (cxOf (L2N.CX P w) P w K mg base ["pairs", "some", "found", "out"] "way_of" (defScope s_way_of) f cdv A outer s H E) (fun c d _ H => E c d H)) :
    PSs (cxOf (L2N.CX P w) P w K mg base ["pairs", "some", "found", "out"] "way_of" (defScope s_way_of) f cdv A outer s H E) (defBody s_way_of) (tSs cls (fun c d _ H => E c d H) m_way_of) :=
  have hS := sc_way_of
  (tss_cons (ts_nm 2 hS.nd (te_str []))
  (tss_cons (ts_while hB.pass (tt_cmp oc_gt (te_pk (tb_len hT.z_len (tp 1))) (te_pk te_int)) (tss_setY (i := 3) hS.nd rfl (by first | exact .inl rfl | exact .inr rfl) (per_max hB.calm (units0 hB.room) hT.z_max (per_pk (per_fn (k := 2) hC_last_ones hB.takes hB.room (by decide) (tas_cons (tv 0) (tas_cons (tv 1) tas_nil))))) (tsy_par (i := 2) (j := 1) hB.calm hS.nd rfl rfl (by decide) rfl rfl (k_bin kc_add (kp 2) (kp 3)) (te_repl (j := 1) (k := 3) rfl (by first | exact .inl rfl | exact .inr (.inl rfl) | exact .inr (.inr rfl)) rfl (by first | exact .inl rfl | exact .inr (.inl rfl) | exact .inr (.inr rfl)) (by decide) (by decide) (by decide) (by decide)) rfl)
  tss_nil))
  (tss_cons (ts_ret (te_bin or_add (tp 2) (tp 1)))
  tss_nil)))
abbrev s_counts : Stmt := top 16
theorem sc_counts : FnScope ["votes", "candidates"] ["votes", "candidates"] (defScope s_counts) := ⟨rfl, rfl, rfl, by decide +kernel, rfl, by decide +kernel, by decide +kernel⟩
theorem b_counts (hT : Txt K mg cls) (hC_are_letters : Cal P w K mg base cls 1 "are_letters" S_are_letters) (hC_candidates_of : Cal P w K mg base cls 1 "candidates_of" S_candidates_of) (hC_counts_of : Cal P w K mg base cls 1 "counts_of" S_counts_of) (hC_need_votes : Cal P w K mg base cls 4 "need_votes" S_need_votes) {f : Addr} {cdv : Value} {A : Around} {outer : List Env} {s : Shared} {H : Hp} {E : XK}
    (hB : Body P w K mg base cls 4 (cxOf (L2N.CX P w) P w K mg base ["votes", "candidates"] "counts" (defScope s_counts) f cdv A outer s H E) (fun c d _ H => E c d H)) :
    PSs (cxOf (L2N.CX P w) P w K mg base ["votes", "candidates"] "counts" (defScope s_counts) f cdv A outer s H E) (defBody s_counts) (tSs cls (fun c d _ H => E c d H) m_counts) :=
  have hS := sc_counts
  (tss_cons (ts_expr (te_fn (k := 4) hC_need_votes hB.takes hB.room (by decide) (tas_cons (tv 0) tas_nil)))
  (tss_cons (ts_if (tt_not (tt_val (te_fn (k := 1) hC_are_letters hB.takes hB.room (by decide) (tas_cons (tv 1) (tas_cons (te_fn (k := 1) hC_candidates_of hB.takes hB.room (by decide) (tas_cons (tv 0) tas_nil)) tas_nil))))) (tss_cons (ts_raise hB.calm hB.takes PySem.F.excBase_ValueError hT.q_InvalidCandidates hT.g_InvalidCandidates hT.k_InvalidCandidates (raises_own hT.s_InvalidCandidates hT.t_InvalidCandidates) rfl)
  tss_nil) tss_nil)
  (tss_cons (ts_ret (tb_tuple hT.z_tuple (te_pk (te_fn (k := 1) hC_counts_of hB.takes hB.room (by decide) (tas_cons (te_sub (units1 hB.room) (tp 0) (te_pk te_int)) (tas_cons (tv 1) tas_nil))))))
  tss_nil)))
abbrev s_rounds : Stmt := top 17
theorem sc_rounds : FnScope ["votes", "some", "found", "out"] ["votes"] (defScope s_rounds) := ⟨rfl, rfl, rfl, by decide +kernel, rfl, by decide +kernel, by decide +kernel⟩
theorem b_rounds (hT : Txt K mg cls) (hC_candidates_of : Cal P w K mg base cls 1 "candidates_of" S_candidates_of) (hC_counts_of : Cal P w K mg base cls 1 "counts_of" S_counts_of) (hC_need_votes : Cal P w K mg base cls 4 "need_votes" S_need_votes) (hC_way_of : Cal P w K mg base cls 3 "way_of" S_way_of) {f : Addr} {cdv : Value} {A : Around} {outer : List Env} {s : Shared} {H : Hp} {E : XK}
    (hB : Body P w K mg base cls 4 (cxOf (L2N.CX P w) P w K mg base ["votes", "some", "found", "out"] "rounds" (defScope s_rounds) f cdv A outer s H E) (fun c d _ H => E c d H)) :
    PSn 1 (cxOf (L2N.CX P w) P w K mg base ["votes", "some", "found", "out"] "rounds" (defScope s_rounds) f cdv A outer s H E) (defBody s_rounds) (tSs cls (fun c d _ H => E c d H) m_rounds) :=
  have hS := sc_rounds
  (KSb.psn (zs := []) (ksb_cons (ys := []) (ws := []) (zs := []) (ks_of (ts_expr (te_fn (k := 4) hC_need_votes hB.takes hB.room (by decide) (tas_cons (tv 0) tas_nil))))
  (ksb_cons (ys := []) (ws := []) (zs := []) (ks_of (ts_par (i := 1) (j := 2) hB.calm hS.nd rfl rfl (by decide) rfl rfl (te_fn (k := 1) hC_candidates_of hB.takes hB.room (by decide) (tas_cons (tv 0) tas_nil)) (te_lst tas_nil) rfl))
  (ksb_cons (ys := []) (ws := []) (zs := []) (ks_drop (ks_for hB.pass hB.calm (Nat.le_refl 1) (pik_txt (ke_nil (te_sl (te_pk (te_fn (k := 3) hC_way_of hB.takes hB.room (by decide) (tas_cons (te_sub (units1 hB.room) (tp 0) (te_pk te_int)) (tas_cons (tv 1) tas_nil)))) to_none (to_some (te_neg (te_pk te_int)))))) (pgy_nmR (i := 3) hS.nd rfl (by first | exact .inl rfl | exact .inr rfl) (by simp) (by first | exact .inl rfl | exact .inr rfl)) (ksb_cons (ys := ["out"]) (ws := ["out"]) (zs := []) (ks_app (i := 2) rfl (by first | exact .inl rfl | exact .inr (.inl rfl)) (k_tup (ks_cons (kv 1) (ks_cons (kb_T kk_tuple rfl hT.z_tuple boot_tuple (kpk (k_fn (k := 1) hC_counts_of hB.takes hB.room (by decide) (ks_cons (k_sub (kp 0) (kpk k_int)) (ks_cons (kv 1) ks_nil))))) ks_nil))))
  (ksb_cons (ys := ["out"]) (ws := []) (zs := []) (ks_y (y := "out") (psy_set (i := 1) hS.nd rfl (by first | exact .inl rfl | exact .inr rfl) (te_repl (j := 1) (k := 3) rfl (by first | exact .inl rfl | exact .inr (.inl rfl) | exact .inr (.inr rfl)) rfl (by first | exact .inl rfl | exact .inr (.inl rfl) | exact .inr (.inr rfl)) (by decide) (by decide) (by decide) (by decide)) rfl (by first | exact .inl rfl | exact .inr rfl)) (by simp))
  ksb_nil))))
  (ksb_cons (ys := []) (ws := []) (zs := []) (ks_ret (tb_tuple hT.z_tuple (tp 2)))
  ksb_nil)))))
abbrev s_way : Stmt := top 18
theorem sc_way : FnScope ["votes"] ["votes"] (defScope s_way) := ⟨rfl, rfl, rfl, by decide +kernel, rfl, by decide +kernel, by decide +kernel⟩
theorem b_way (hT : Txt K mg cls) (hC_candidates_of : Cal P w K mg base cls 1 "candidates_of" S_candidates_of) (hC_need_votes : Cal P w K mg base cls 4 "need_votes" S_need_votes) (hC_way_of : Cal P w K mg base cls 3 "way_of" S_way_of) {f : Addr} {cdv : Value} {A : Around} {outer : List Env} {s : Shared} {H : Hp} {E : XK}
    (hB : Body P w K mg base cls 4 (cxOf (L2N.CX P w) P w K mg base ["votes"] "way" (defScope s_way) f cdv A outer s H E) (fun c d _ H => E c d H)) :
    PSs (cxOf (L2N.CX P w) P w K mg base ["votes"] "way" (defScope s_way) f cdv A outer s H E) (defBody s_way) (tSs cls (fun c d _ H => E c d H) m_way) :=
  have hS := sc_way
  (tss_cons (ts_expr (te_fn (k := 4) hC_need_votes hB.takes hB.room (by decide) (tas_cons (tv 0) tas_nil)))
  (tss_cons (ts_ret (te_fn (k := 3) hC_way_of hB.takes hB.room (by decide) (tas_cons (te_sub (units1 hB.room) (tp 0) (te_pk te_int)) (tas_cons (te_fn (k := 1) hC_candidates_of hB.takes hB.room (by decide) (tas_cons (tv 0) tas_nil)) tas_nil))))
  tss_nil))
abbrev s_winner_of : Stmt := top 19
theorem sc_winner_of : FnScope ["votes"] ["votes"] (defScope s_winner_of) := ⟨rfl, rfl, rfl, by decide +kernel, rfl, by decide +kernel, by decide +kernel⟩
theorem b_winner_of (hT : Txt K mg cls) (hC_candidates_of : Cal P w K mg base cls 1 "candidates_of" S_candidates_of) (hC_way_of : Cal P w K mg base cls 3 "way_of" S_way_of) {f : Addr} {cdv : Value} {A : Around} {outer : List Env} {s : Shared} {H : Hp} {E : XK}
    (hB : Body P w K mg base cls 3 (cxOf (L2N.CX P w) P w K mg base ["votes"] "winner_of" (defScope s_winner_of) f cdv A outer s H E) (fun c d _ H => E c d H)) :
    PSs (cxOf (L2N.CX P w) P w K mg base ["votes"] "winner_of" (defScope s_winner_of) f cdv A outer s H E) (defBody s_winner_of) (tSs cls (fun c d _ H => E c d H) m_winner_of) :=
  have hS := sc_winner_of
  (tss_cons (ts_ret (te_sub (units1 hB.room) (te_pk (te_fn (k := 3) hC_way_of hB.takes hB.room (by decide) (tas_cons (te_sub (units1 hB.room) (tp 0) (te_pk te_int)) (tas_cons (te_fn (k := 1) hC_candidates_of hB.takes hB.room (by decide) (tas_cons (tv 0) tas_nil)) tas_nil)))) (te_pk (te_neg (te_pk te_int)))))
  tss_nil)
abbrev s_winner : Stmt := top 20
theorem sc_winner : FnScope ["votes"] ["votes"] (defScope s_winner) := ⟨rfl, rfl, rfl, by decide +kernel, rfl, by decide +kernel, by decide +kernel⟩
theorem b_winner (hT : Txt K mg cls) (hC_need_votes : Cal P w K mg base cls 4 "need_votes" S_need_votes) (hC_winner_of : Cal P w K mg base cls 4 "winner_of" S_winner_of) {f : Addr} {cdv : Value} {A : Around} {outer : List Env} {s : Shared} {H : Hp} {E : XK}
    (hB : Body P w K mg base cls 4 (cxOf (L2N.CX P w) P w K mg base ["votes"] "winner" (defScope s_winner) f cdv A outer s H E) (fun c d _ H => E c d H)) :
    PSs (cxOf (L2N.CX P w) P w K mg base ["votes"] "winner" (defScope s_winner) f cdv A outer s H E) (defBody s_winner) (tSs cls (fun c d _ H => E c d H) m_winner) :=
  have hS := sc_winner
  (tss_cons (ts_expr (te_fn (k := 4) hC_need_votes hB.takes hB.room (by decide) (tas_cons (tv 0) tas_nil)))
  (tss_cons (ts_ret (te_fn (k := 4) hC_winner_of hB.takes hB.room (by decide) (tas_cons (tv 0) tas_nil)))
  tss_nil))
abbrev s__law_drawn : Stmt := top 23
theorem sc__law_drawn : FnScope ["_law_cell_here", "_law_k", "_law_more"] ["_law_cell_here", "_law_k"] (defScope s__law_drawn) := ⟨rfl, rfl, rfl, by decide +kernel, rfl, by decide +kernel, by decide +kernel⟩
theorem b__law_drawn (hT : Txt K mg cls)  {f : Addr} {cdv : Value} {A : Around} {outer : List Env} {s : Shared} {H : Hp} {E : XK}
    (hB : Body P w K mg base cls 0 (cxOf (L2N.CX P w) P w K mg base ["_law_cell_here", "_law_k", "_law_more"] "_law_drawn" (defScope s__law_drawn) f cdv A outer s H E) (fun c d _ H => E c d H)) :
    PSs (cxOf (L2N.CX P w) P w K mg base ["_law_cell_here", "_law_k", "_law_more"] "_law_drawn" (defScope s__law_drawn) f cdv A outer s H E) (defBody s__law_drawn) (tSs cls (fun c d _ H => E c d H) m__law_drawn) :=
  have hS := sc__law_drawn
  (tss_cons (ts_nm 2 hS.nd (te_bin or_mod (te_pk (te_bin or_add (te_pk (te_bin or_mul (tp 0) (te_pk te_int))) (te_pk (te_bin or_mul (te_pk (te_bin or_add (tp 1) (te_pk te_int))) (te_pk te_int))))) (te_pk te_int)))
  (tss_cons (ts_nm 2 hS.nd (te_bin or_mod (te_pk (te_bin or_mul (tp 2) (tp 2))) (te_pk te_int)))
  (tss_cons (ts_nm 2 hS.nd (te_bin or_mul (te_pk (te_bin or_mul (te_pk (te_bin or_add (te_pk (te_bin or_mod (tp 2) (te_pk te_int))) (te_pk te_int))) (te_pk (te_bin or_add (te_pk (te_bin or_fdiv (tp 2) (te_pk te_int))) (te_pk te_int))))) (tp 2)))
  (tss_cons (ts_ret (te_bin or_mod (tp 2) (te_pk te_int)))
  tss_nil))))
abbrev s__law_any_ballot : Stmt := top 26
theorem sc__law_any_ballot : FnScope ["_law_dice", "_law_many", "_law_letters", "_law_found", "_law_turn", "_law_letter", "_law_one"] ["_law_dice", "_law_many"] (defScope s__law_any_ballot) := ⟨rfl, rfl, rfl, by decide +kernel, rfl, by decide +kernel, by decide +kernel⟩
theorem b__law_any_ballot (hT : Txt K mg cls) (hC__law_roll : Cal P w K mg base cls 2 "_law_roll" S__law_roll) {f : Addr} {cdv : Value} {A : Around} {outer : List Env} {s : Shared} {H : Hp} {E : XK}
    (hB : Body P w K mg base cls 2 (cxOf (L2N.CX P w) P w K mg base ["_law_dice", "_law_many", "_law_letters", "_law_found", "_law_turn", "_law_letter", "_law_one"] "_law_any_ballot" (defScope s__law_any_ballot) f cdv A outer s H E) (fun c d _ H => E c d H)) :
    PSs (cxOf (L2N.CX P w) P w K mg base ["_law_dice", "_law_many", "_law_letters", "_law_found", "_law_turn", "_law_letter", "_law_one"] "_law_any_ballot" (defScope s__law_any_ballot) f cdv A outer s H E) (defBody s__law_any_ballot) (tSs cls (fun c d _ H => E c d H) m__law_any_ballot) :=
  have hS := sc__law_any_ballot
  (tss_cons (ts_par (i := 2) (j := 3) hB.calm hS.nd rfl rfl (by decide) rfl rfl (tb_list hB.calm hT.z_list (te_pk (te_sl (te_pk (te_str [97, 98, 99, 100, 101])) to_none (to_some (tv 1))))) (te_str []) rfl)
  (tss_cons (ts_for hB.pass hB.calm (ti_rng1 rfl hT.z_range (te_bin or_add (te_pk te_int) (te_pk (te_fn (k := 2) hC__law_roll hB.takes hB.room (by decide) (tas_cons (tv 0) (tas_cons (tv 1) tas_nil)))))) (gn 4 hS.nd) (tss_cons (ts_nm 5 hS.nd (te_sub (units1 hB.room) (tp 2) (te_pk (te_fn (k := 2) hC__law_roll hB.takes hB.room (by decide) (tas_cons (tv 0) (tas_cons (tb_len hT.z_len (tp 2)) tas_nil))))))
  (tss_cons (ts_par (i := 2) (j := 3) hB.calm hS.nd rfl rfl (by decide) rfl rfl (te_lc (own := [("_law_one", 6)]) hB.calm hS.nd (ti_seqP (tp 2)) (blkOk_by (by kernel_rfl)) rfl (fun _ _ _ _ _ => (gn 6 hS.nd)) (fun _ _ _ _ _ => (tts_one (tt_cmp (oc_ne (units0 hB.room)) (tp 6) (tp 5)))) (fun _ _ _ _ _ => (tv 6))) (te_bin or_add (tp 3) (tp 5)) rfl)
  tss_nil)))
  (tss_cons (ts_ret (tv 3))
  tss_nil)))
abbrev s__law_any_votes : Stmt := top 27
theorem sc__law_any_votes : FnScope ["_law_dice", "_law_least", "_law_most", "_law_pairs", "_law_many", "_law_found", "_law_high", "_law_turn", "_law_ballot", "_law_one", "_law_times"] ["_law_dice", "_law_least", "_law_most", "_law_pairs"] (defScope s__law_any_votes) := ⟨rfl, rfl, rfl, by decide +kernel, rfl, by decide +kernel, by decide +kernel⟩
theorem b__law_any_votes (hT : Txt K mg cls) (hC__law_any_ballot : Cal P w K mg base cls 3 "_law_any_ballot" S__law_any_ballot) (hC__law_roll : Cal P w K mg base cls 2 "_law_roll" S__law_roll) {f : Addr} {cdv : Value} {A : Around} {outer : List Env} {s : Shared} {H : Hp} {E : XK}
    (hB : Body P w K mg base cls 3 (cxOf (L2N.CX P w) P w K mg base ["_law_dice", "_law_least", "_law_most", "_law_pairs", "_law_many", "_law_found", "_law_high", "_law_turn", "_law_ballot", "_law_one", "_law_times"] "_law_any_votes" (defScope s__law_any_votes) f cdv A outer s H E) (fun c d _ H => E c d H)) :
    PSs (cxOf (L2N.CX P w) P w K mg base ["_law_dice", "_law_least", "_law_most", "_law_pairs", "_law_many", "_law_found", "_law_high", "_law_turn", "_law_ballot", "_law_one", "_law_times"] "_law_any_votes" (defScope s__law_any_votes) f cdv A outer s H E) (defBody s__law_any_votes) (tSs cls (fun c d _ H => E c d H) m__law_any_votes) :=
  have hS := sc__law_any_votes
  (tss_cons (ts_par (i := 4) (j := 5) hB.calm hS.nd rfl rfl (by decide) rfl rfl (te_bin or_add (tp 1) (te_pk (te_fn (k := 2) hC__law_roll hB.takes hB.room (by decide) (tas_cons (tv 0) (tas_cons (te_bin or_add (te_pk (te_bin or_sub (tp 2) (tp 1))) (te_pk te_int)) tas_nil))))) (te_lst tas_nil) rfl)
  (tss_cons (ts_nm 6 hS.nd (te_sub (units1 hB.room) (te_pk (te_lst (tas_cons te_int (tas_cons te_int (tas_cons te_int tas_nil))))) (te_pk (te_fn (k := 2) hC__law_roll hB.takes hB.room (by decide) (tas_cons (tv 0) (tas_cons te_int tas_nil))))))
  (tss_cons (ts_for hB.pass hB.calm (ti_rng1 rfl hT.z_range (te_fn (k := 2) hC__law_roll hB.takes hB.room (by decide) (tas_cons (tv 0) (tas_cons (te_bin or_add (tp 3) (te_pk te_int)) tas_nil)))) (gn 7 hS.nd) (tss_cons (ts_nm 8 hS.nd (te_fn (k := 3) hC__law_any_ballot hB.takes hB.room (by decide) (tas_cons (tv 0) (tas_cons (tv 4) tas_nil))))
  (tss_cons (ts_if (tt_cmp (oc_nin (units0 hB.room)) (tp 8) (te_pk (te_lc (own := [("_law_one", 9), ("_law_times", 10)]) hB.calm hS.nd (ti_seqP (tp 5)) (blkOk_by (by kernel_rfl)) rfl (fun _ _ _ _ _ => (tg_tup rfl (tgs_cons (gn 9 hS.nd) (tgs_cons (gn 10 hS.nd) tgs_nil)))) (fun _ _ _ _ _ => tts_nil) (fun _ _ _ _ _ => (tv 9))))) (tss_cons (ts_app (i := 5) rfl (by first | exact .inl rfl | exact .inr (.inl rfl)) (te_tup (tas_cons (tv 8) (tas_cons (te_bin or_add (te_pk te_int) (te_pk (te_fn (k := 2) hC__law_roll hB.takes hB.room (by decide) (tas_cons (tv 0) (tas_cons (tv 6) tas_nil))))) tas_nil))))
  tss_nil) tss_nil)
  tss_nil)))
  (tss_cons (ts_ret (te_tup (tas_cons (tv 4) (tas_cons (tb_tuple hT.z_tuple (tp 5)) tas_nil))))
  tss_nil))))
abbrev s__law_merged : Stmt := top 28
theorem sc__law_merged : FnScope ["_law_many", "_law_rows", "_law_found", "_law_ballot", "_law_times", "_law_known", "_law_at", "_law_one", "_law_own"] ["_law_many", "_law_rows"] (defScope s__law_merged) := ⟨rfl, rfl, rfl, by decide +kernel, rfl, by decide +kernel, by decide +kernel⟩
theorem b__law_merged (hT : Txt K mg cls)  {f : Addr} {cdv : Value} {A : Around} {outer : List Env} {s : Shared} {H : Hp} {E : XK}
    (hB : Body P w K mg base cls 0 (cxOf (L2N.CX P w) P w K mg base ["_law_many", "_law_rows", "_law_found", "_law_ballot", "_law_times", "_law_known", "_law_at", "_law_one", "_law_own"] "_law_merged" (defScope s__law_merged) f cdv A outer s H E) (fun c d _ H => E c d H)) :
    PSs (cxOf (L2N.CX P w) P w K mg base ["_law_many", "_law_rows", "_law_found", "_law_ballot", "_law_times", "_law_known", "_law_at", "_law_one", "_law_own"] "_law_merged" (defScope s__law_merged) f cdv A outer s H E) (defBody s__law_merged) (tSs cls (fun c d _ H => E c d H) m__law_merged) :=
  have hS := sc__law_merged
  (tss_cons (ts_nm 2 hS.nd (te_lst tas_nil))
  (tss_cons (ts_for hB.pass hB.calm (ti_seq (tv 1)) (tg_tup hB.calm (tgs_cons (gn 3 hS.nd) (tgs_cons (gn 4 hS.nd) tgs_nil))) (tss_cons (ts_setLc (i := 5) (own := [("_law_one", 7), ("_law_own", 8)]) hB.calm hS.nd rfl rfl (sw_true rfl rfl rfl rfl) (ti_seqP (tp 2)) (blkOk_by (by kernel_rfl)) rfl (fun _ _ _ _ _ => (tg_tup rfl (tgs_cons (gn 7 hS.nd) (tgs_cons (gn 8 hS.nd) tgs_nil)))) (fun _ _ _ _ _ => tts_nil) (fun _ _ _ _ _ => (tv 7)))
  (tss_cons (ts_if (tt_cmp (oc_in (units0 hB.room)) (tp 3) (tp 5)) (tss_cons (ts_nm 6 hS.nd (te_lindex (tp 5) (tp 3)))
  (tss_cons (ts_setix (i := 2) rfl (by first | exact .inl rfl | exact .inr (.inl rfl) | exact .inr (.inr rfl)) (by exact (tp 6)) (by exact (te_tup (tas_cons (tv 3) (tas_cons (te_bin or_add (te_pk (te_sub (units1 hB.room) (te_pk (te_sub (units1 hB.room) (tp 2) (tp 6))) (te_pk te_int))) (tp 4)) tas_nil)))) (hu := units1 hB.room))
  tss_nil)) (tss_cons (ts_if (tt_cmp (oc_ne (units0 hB.room)) (tp 3) (te_pk (te_str []))) (tss_cons (ts_app (i := 2) rfl (by first | exact .inl rfl | exact .inr (.inl rfl)) (te_tup (tas_cons (tv 3) (tas_cons (tv 4) tas_nil))))
  tss_nil) tss_nil)
  tss_nil))
  tss_nil)))
  (tss_cons (ts_ret (te_ife (tt_val (tb_any hB.calm hT.z_any (te_pk (te_lc (own := [("_law_ballot", 3), ("_law_times", 4)]) hB.calm hS.nd (ti_seqP (tp 2)) (blkOk_by (by kernel_rfl)) rfl (fun _ _ _ _ _ => (tg_tup rfl (tgs_cons (gn 3 hS.nd) (tgs_cons (gn 4 hS.nd) tgs_nil)))) (fun _ _ _ _ _ => tts_nil) (fun _ _ _ _ _ => (te_cmp oc_gt (tp 4) (te_pk te_int))))))) te_non (te_tup (tas_cons (tv 0) (tas_cons (tb_tuple hT.z_tuple (tp 2)) tas_nil)))))
  tss_nil)))
abbrev s__law_roll : Stmt := top 24
theorem sc__law_roll : FnScope ["_law_dice", "_law_many", "_law_told"] ["_law_dice", "_law_many"] (defScope s__law_roll) := ⟨rfl, rfl, rfl, by decide +kernel, rfl, by decide +kernel, by decide +kernel⟩
abbrev s__law_cell : Stmt := top 22
theorem sc__law_cell : FnScope ["_law_script", "_law_k"] ["_law_script", "_law_k"] (defScope s__law_cell) := ⟨rfl, rfl, rfl, by decide +kernel, rfl, by decide +kernel, by decide +kernel⟩
abbrev s__law_rounds : Stmt := top 25
theorem sc__law_rounds : FnScope ["_law_script", "_law_most", "_law_k"] ["_law_script", "_law_most"] (defScope s__law_rounds) := ⟨rfl, rfl, rfl, by decide +kernel, rfl, by decide +kernel, by decide +kernel⟩
theorem b__law_roll (hC__law_drawn : Cal P w K mg base cls 1 "_law_drawn" S_drawn) {f : Addr} {cdv : Value} {A : Around} {outer : List Env} {s : Shared} {H : Hp} {E : XK}
    (hB : Body P w K mg base cls 1 (cxOf (L2N.CX P w) P w K mg base ["_law_dice", "_law_many", "_law_told"] "_law_roll" (defScope s__law_roll) f cdv A outer s H E) (fun c d _ H => E c d H)) :
    PSs (cxOf (L2N.CX P w) P w K mg base ["_law_dice", "_law_many", "_law_told"] "_law_roll" (defScope s__law_roll) f cdv A outer s H E) (defBody s__law_roll) (tRoll K) :=
  pss_cons (ps_if (pt_cmpR op_ge (pe_ix ix_seq (pv 0) pe_int fun _ _ => rfl) (pe_op op_pow pe_int pe_int) (nomark _))
    (pss_cons (ps_set (i := 2) sc__law_roll.nd rfl (.inl rfl) (pe_op op_mod (pe_ix ix_seq (pv 0) pe_int fun _ _ => rfl) (pv 1))) (pss_cons (ps_asg (pe_op op_fdiv (pe_ix ix_seq (pv 0) pe_int fun _ _ => rfl) (pv 1)) (pg_sub (pv 0) pe_int set_list)) (pss_one (ps_ret (pv 2))))) pss_nil)
  (pss_cons (ps_asg (pe_op op_add (pe_ix ix_seq (pv 0) pe_int fun _ _ => rfl) pe_int) (pg_sub (pv 0) pe_int set_list))
    (pss_one (ps_ret (pe_op op_mod (pe_op op_fdiv (pe_dr hC__law_drawn hB.takes hB.room (by decide) (pa_cons (pe_ix ix_seq (pv 0) pe_int fun _ _ => rfl) (pa_cons (pe_ix ix_seq (pv 0) pe_int fun _ _ => rfl) pa_nil))) pe_int) (pv 1)))))
theorem b__law_cell (hT : Txt K mg cls) {f : Addr} {cdv : Value} {A : Around} {outer : List Env} {s : Shared} {H : Hp} {E : XK}
    (hB : Body P w K mg base cls 0 (cxOf (L2N.CX P w) P w K mg base ["_law_script", "_law_k"] "_law_cell" (defScope s__law_cell) f cdv A outer s H E) (fun c d _ H => E c d H)) :
    PSs (cxOf (L2N.CX P w) P w K mg base ["_law_script", "_law_k"] "_law_cell" (defScope s__law_cell) f cdv A outer s H E) (defBody s__law_cell) (tCellL K) :=
  pss_cons (ps_if (pt_cmpR (oc_eqE (units0 hB.room)) (pv 0) (pe_lst pa_nil) (nomark _)) (pss_cons (ps_ret (pe_op op_mul (pv 1) pe_int)) pss_nil) pss_nil)
  (pss_one (ps_ret (pe_op op_add (pe_ix ix_seq (pv 0) (pe_op op_mod (pv 1) (pe_callB call_len (by rfl) hT.z_len PySem.boot_len (pa_cons (pv 0) pa_nil))) fun _ _ => rfl) (pe_op op_mul (pe_op op_fdiv (pv 1) (pe_callB call_len (by rfl) hT.z_len PySem.boot_len (pa_cons (pv 0) pa_nil))) pe_int))))
theorem b__law_rounds (hT : Txt K mg cls) {fc : Addr} {fdc : FuncData} {psc : List Str} (hF : FnOk P w K mg base (L2N.CX P w) 1 fc fdc psc (spCellL K)) (hm : mg "_law_cell" = some (.ref fc)) (hk : PySem.W.keepIn K (.ref fc) = true) (hb : Binds K fdc psc []) {f : Addr} {cdv : Value} {A : Around} {outer : List Env} {s : Shared} {H : Hp} {E : XK}
    (hB : Body P w K mg base cls 1 (cxOf (L2N.CX P w) P w K mg base ["_law_script", "_law_most", "_law_k"] "_law_rounds" (defScope s__law_rounds) f cdv A outer s H E) (fun c d _ H => E c d H)) :
    PSs (cxOf (L2N.CX P w) P w K mg base ["_law_script", "_law_most", "_law_k"] "_law_rounds" (defScope s__law_rounds) f cdv A outer s H E) (defBody s__law_rounds) (tRounds K fun _ _ _ _ => False) :=
  pss_one (ps_ret (pe_lc (own := [("_law_k", 2)]) hB.calm sc__law_rounds.nd (pi_range1 (by rfl) hT.z_range (pa_cons (pe_callB (call_max2 hB.calm) (by rfl) hT.z_max PyProof.Rows.boot_max (pa_cons pe_int (pa_cons (pe_callB (call_min2 hB.calm) (by rfl) hT.z_min PyProof.Rows.boot_min (pa_cons (pv 1) (pa_cons (pe_callB call_len (by rfl) hT.z_len PySem.boot_len (pa_cons (pv 0) pa_nil)) pa_nil))) pa_nil))) pa_nil))
    (blkOk_by (by kernel_rfl)) (fun _ _ _ _ _ => pg_name (i := 2) sc__law_rounds.nd rfl (.inl rfl)) (fun _ _ _ _ _ => pts_nil)
    (fun _ _ _ _ _ => pe_lst (pa_cons (pe_callS (k := 1) hF (hB.room) (by rfl) hm hk hb (fun σ => L2N.passAt (W := fun _ _ _ _ => False) DL.takes0 σ) (pa_cons (pv 0) (pa_cons (pv 2) pa_nil))) (pa_cons pe_int pa_nil)))))
abbrev s_law : Stmt := top 29
theorem sc_law : FnScope ["_law_script", "_law_dice", "_law_votes", "_law_own", "_law_text", "_law_rows", "_law_cut", "_law_out", "_law_less", "_law_ballot", "_law_times"] ["_law_script"] (defScope s_law) := ⟨rfl, rfl, rfl, by decide +kernel, rfl, by decide +kernel, by decide +kernel⟩
def m_law : List MS := [.asg (.nm 2) [] (.call S__law_any_votes [.var 1, .con (.int 2), .con (.int 5), .con (.int 8)]), .asg (.nm 2) [] (.tup [.sub (.peek 2) (.con (.int 0)), .b1 .tuple (.lc (.tp [.nm 9, .nm 10]) (.sub (.peek 2) (.con (.int 1))) [] (.tup [.var 9, .bin .add (.con (.int 1)) (.bin .mod (.peek 10) (.con (.int 6)))]))]), .asg (.tp [.nm 3, .nm 4]) [] (.tup [.call S_winner [.var 2], .call S_way [.var 2]]), .asg (.nm 5) [] (.lc (.tp [.nm 9, .nm 10]) (.sub (.peek 2) (.con (.int 1))) [] (.tup [.ife (.cmp .inn (.peek 3) (.peek 9)) (.sl (.peek 9) (.nop) (.bin .add (.b2 .index (.peek 9) (.peek 3)) (.con (.int 1)))) (.var 9), .var 10])), .asg (.nm 6) [5] (.call S__law_merged [.sub (.peek 2) (.con (.int 0)), .var 5]), .ifs (.and (.isn true (.peek 6)) (.or (.cmp .ne (.call S_way [.var 6]) (.peek 4)) (.cmp .ne (.call S_rounds [.var 6]) (.call S_rounds [.var 2])))) [.ret [] (.con (.bl false))] [], .asg (.nm 7) [] (.subS (.peek 4) (.con (.int 0))), .asg (.nm 8) [] (.call S__law_merged [.sub (.peek 2) (.con (.int 0)), .lc (.tp [.nm 9, .nm 10]) (.sub (.peek 2) (.con (.int 1))) [] (.tup [.b2 .repl0 (.peek 9) (.peek 7), .var 10])]), .ifs (.and (.isn true (.peek 8)) (.or (.cmp .ne (.sub (.call S_way [.var 8]) (.neg (.con (.int 1)))) (.peek 3)) (.cmp .ne (.sl (.call S_rounds [.var 8]) (.con (.int 1)) (.nop)) (.sl (.call S_rounds [.var 2]) (.con (.int 1)) (.nop))))) [.ret [] (.con (.bl false))] [], .ifs (.and (.isn true (.peek 8)) (.cmp .ne (.call S_counts [.var 8, .var 7]) (.tup [.con (.int 0)]))) [.ret [] (.con (.bl false))] []]
theorem b_law (hT : Txt K mg cls) (hC__law_any_votes : CalR P w K mg base cls 4 "_law_any_votes" S__law_any_votes RT) (hC__law_merged : Cal P w K mg base cls 1 "_law_merged" S__law_merged) (hC_counts : Cal P w K mg base cls 5 "counts" S_counts) (hC_rounds : Cal P w K mg base cls 5 "rounds" S_rounds) (hC_way : Cal P w K mg base cls 5 "way" S_way) (hC_winner : Cal P w K mg base cls 5 "winner" S_winner) {fr : Addr} {fdr : FuncData} {psr : List Str} (hF : FnOk P w K mg base (L2N.CX P w) 2 fr fdr psr (spRounds K)) (hm : mg "_law_rounds" = some (.ref fr)) (hk : PySem.W.keepIn K (.ref fr) = true) (hb : Binds K fdr psr [])
    {cc : Addr} {f : Addr} {A : Around} {outer : List Env} {s : Shared} {H : Hp} {E : XK}
    (hB : Body P w K mg base cls 12 (cxOf (L2N.CX P w) P w K mg base ["_law_script", "_law_dice", "_law_votes", "_law_own", "_law_text", "_law_rows", "_law_cut", "_law_out", "_law_less", "_law_ballot", "_law_times"] "law" (defScope s_law) f (.ref cc) A outer s H E) (fun c d _ H => E c d H)) :
    PSs (cxOf (L2N.CX P w) P w K mg base ["_law_script", "_law_dice", "_law_votes", "_law_own", "_law_text", "_law_rows", "_law_cut", "_law_out", "_law_less", "_law_ballot", "_law_times"] "law" (defScope s_law) f (.ref cc) A outer s H E) (defBody s_law) (tLaw K (fun _ _ _ _ => False) 4 cls (fun c d _ H => E c d H) m_law) :=
  have hS := sc_law
  have hcode : (cxOf (L2N.CX P w) P w K mg base ["_law_script", "_law_dice", "_law_votes", "_law_own", "_law_text", "_law_rows", "_law_cut", "_law_out", "_law_less", "_law_ballot", "_law_times"] "law" (defScope s_law) f (.ref cc) A outer s H E).env.code = .ref cc := rfl
  pss_cons (ps_for hB.pass hB.calm (pi_list (pe_callS hF (hB.room.mono (by decide)) (by rfl) hm hk hb (fun σ => L2N.passAt (W := fun _ _ _ _ => False) DL.takes0 σ) (pa_cons (pv 0) (pa_cons pe_int pa_nil)))) (pg_name (i := 1) hS.nd rfl (by first | exact .inl rfl | exact .inr rfl))
  (tss_setT (i := 2) hS.nd rfl (by first | exact .inl rfl | exact .inr rfl) (per_fn (k := 4) hC__law_any_votes hB.takes hB.room (by decide) (tas_cons (tv 1) (tas_cons te_int (tas_cons te_int (tas_cons te_int tas_nil))))) (KSb.psn (zs := []) (ksb_cons (ys := []) (ws := []) (zs := []) (ks_of (ts_nm 2 hS.nd (te_tup (tas_cons (te_sub (units1 hB.room) (tp 2) (te_pk te_int)) (tas_cons (tb_tuple hT.z_tuple (te_pk (te_lc (own := [("_law_ballot", 9), ("_law_times", 10)]) hB.calm hS.nd (ti_seqP (te_pk (te_sub (units1 hB.room) (tp 2) (te_pk te_int)))) (blkOk_by (by kernel_rfl)) rfl (fun _ _ _ _ _ => (tg_tup rfl (tgs_cons (gn 9 hS.nd) (tgs_cons (gn 10 hS.nd) tgs_nil)))) (fun _ _ _ _ _ => tts_nil) (fun _ _ _ _ _ => (te_tup (tas_cons (tv 9) (tas_cons (te_bin or_add (te_pk te_int) (te_pk (te_bin or_mod (tp 10) (te_pk te_int)))) tas_nil))))))) tas_nil)))))
  (ksb_cons (ys := []) (ws := []) (zs := []) (ks_of (ts_tup (te_tup (tas_cons (te_fn (k := 5) hC_winner hB.takes hB.room (by decide) (tas_cons (tv 2) tas_nil)) (tas_cons (te_fn (k := 5) hC_way hB.takes hB.room (by decide) (tas_cons (tv 2) tas_nil)) tas_nil))) (tg_tup hB.calm (tgs_cons (gn 3 hS.nd) (tgs_cons (gn 4 hS.nd) tgs_nil)))))
  (ksb_cons (ys := []) (ws := []) (zs := []) (ks_of (ts_setLc (i := 5) (own := [("_law_ballot", 9), ("_law_times", 10)]) hB.calm hS.nd rfl rfl (sw_true rfl rfl rfl rfl) (ti_seqP (te_pk (te_sub (units1 hB.room) (tp 2) (te_pk te_int)))) (blkOk_by (by kernel_rfl)) rfl (fun _ _ _ _ _ => (tg_tup rfl (tgs_cons (gn 9 hS.nd) (tgs_cons (gn 10 hS.nd) tgs_nil)))) (fun _ _ _ _ _ => tts_nil) (fun _ _ _ _ _ => (te_tup (tas_cons (te_ife (tt_cmp (oc_in (units0 hB.room)) (tp 3) (tp 9)) (te_sl (tp 9) to_none (to_some (te_bin or_add (te_pk (te_index (tp 9) (tp 3))) (te_pk te_int)))) (tv 9)) (tas_cons (tv 10) tas_nil))))))
  (ksb_cons (ys := []) (ws := []) (zs := []) (ks_of (ts_nm 6 hS.nd (te_fn (k := 1) hC__law_merged hB.takes hB.room (by decide) (tas_cons (te_sub (units1 hB.room) (tp 2) (te_pk te_int)) (tas_cons (tv 5) tas_nil)))))
  (ksb_cons (ys := []) (ws := []) (zs := []) (ks_of (ts_if (L2.PW.pt (tw_and (tt_notN (tp 6)) (tw_one1 (L2.PW.pt (tw_or (tt_cmp (oc_ne (units0 hB.room)) (te_pk (te_fn (k := 5) hC_way hB.takes hB.room (by decide) (tas_cons (tv 6) tas_nil))) (tp 4)) (tw_one1 (tt_cmp (oc_ne (units0 hB.room)) (te_pk (te_fn (k := 5) hC_rounds hB.takes hB.room (by decide) (tas_cons (tv 6) tas_nil))) (te_pk (te_fn (k := 5) hC_rounds hB.takes hB.room (by decide) (tas_cons (tv 2) tas_nil)))) (by first | exact .inl rfl | exact .inr rfl)))) (by first | exact .inl rfl | exact .inr rfl)))) (tss_cons (ts_ret te_bl)
  tss_nil) tss_nil))
  (ksb_cons (ys := []) (ws := ["_law_out"]) (zs := []) (ks_setR (i := 7) hS.nd rfl (by first | exact .inl rfl | exact .inr rfl) (per_ixs (tp 4) (te_pk te_int)) rfl (by first | exact .inl rfl | exact .inr rfl))
  (ksb_cons (ys := ["_law_out"]) (ws := []) (zs := []) (ks_setz (i := 8) hS.nd rfl (by first | exact .inl rfl | exact .inr rfl) (ez_fn (k := 1) hC__law_merged hB.takes hB.room (by decide) (ke_of (k_sub (kp 2) (kpk k_int))) (ez_lcK (ys := ["_law_out"]) (own := [("_law_ballot", 9), ("_law_times", 10)]) hB.calm hS.nd (Nat.le_refl 1) (pik_seqP (ke_of (kpk (k_sub (kp 2) (kpk k_int))))) (blkOk_by (by kernel_rfl)) rfl (fun _ _ _ _ _ => (pgy_tup rfl (pgys_cons (pgy_nm (i := 9) hS.nd rfl (by first | exact .inl rfl | exact .inr rfl) (by decide) (by first | exact .inl rfl | exact .inr rfl)) (pgys_cons (pgy_nm (i := 10) hS.nd rfl (by first | exact .inl rfl | exact .inr rfl) (by decide) (by first | exact .inl rfl | exact .inr rfl)) pgys_nil)))) (fun y hy => by cases hy with | head => rfl | tail _ h => cases h) (fun y hy cl C => by cases hy with | head => (first | exact .inl rfl | exact .inr rfl) | tail _ h => cases h) (fun _ _ _ _ _ => ke_tup (ka_cons (ke_repl (j := 9) (k := 7) (by simp) rfl (by first | exact .inl rfl | exact .inr (.inl rfl) | exact .inr (.inr rfl)) rfl (by first | exact .inl rfl | exact .inr (.inl rfl) | exact .inr (.inr rfl)) (by decide) (by decide) (by decide) (by decide)) (ka_cons (ke_of (kv 10)) ka_nil))))) rfl (by first | exact .inl rfl | exact .inr rfl))
  (ksb_cons (ys := []) (ws := []) (zs := []) (ks_of (ts_if (L2.PW.pt (tw_and (tt_notN (tp 8)) (tw_one1 (L2.PW.pt (tw_or (tt_cmp (oc_ne (units0 hB.room)) (te_pk (te_sub (units1 hB.room) (te_pk (te_fn (k := 5) hC_way hB.takes hB.room (by decide) (tas_cons (tv 8) tas_nil))) (te_pk (te_neg (te_pk te_int))))) (tp 3)) (tw_one1 (tt_cmp (oc_ne (units0 hB.room)) (te_pk (te_sl (te_pk (te_fn (k := 5) hC_rounds hB.takes hB.room (by decide) (tas_cons (tv 8) tas_nil))) (to_some te_int) to_none)) (te_pk (te_sl (te_pk (te_fn (k := 5) hC_rounds hB.takes hB.room (by decide) (tas_cons (tv 2) tas_nil))) (to_some te_int) to_none))) (by first | exact .inl rfl | exact .inr rfl)))) (by first | exact .inl rfl | exact .inr rfl)))) (tss_cons (ts_ret te_bl)
  tss_nil) tss_nil))
  (ksb_cons (ys := []) (ws := []) (zs := []) (ks_of (ts_if (L2.PW.pt (tw_and (tt_notN (tp 8)) (tw_one1 (tt_cmp (oc_ne (units0 hB.room)) (te_pk (te_fn (k := 5) hC_counts hB.takes hB.room (by decide) (tas_cons (tv 8) (tas_cons (tv 7) tas_nil)))) (te_pk (te_tup (tas_cons te_int tas_nil)))) (by first | exact .inl rfl | exact .inr rfl)))) (tss_cons (ts_ret te_bl)
  tss_nil) tss_nil))
  ksb_nil)))))))))))) (pss_one (ps_ret pe_bl))
end
end PW

set_option Elab.async false
set_option linter.all false
set_option maxRecDepth 100000
set_option maxHeartbeats 2000000
/-! PVl: law k18, plainly. -/
namespace PV
open DL L2 PW
/-- cut behind w -/
def cutW (w : Nat) (b : List Nat) : List Nat := match idxL b w with
  | some i => b.take (i + 1)
  | none => b
theorem cutW_ne {w : Nat} {b : List Nat} (h : b ≠ []) : cutW w b ≠ [] := by
  unfold cutW
  cases q : idxL b w with
  | none => exact h
  | some i =>
    obtain ⟨c, r, rfl⟩ := List.exists_cons_of_ne_nil h
    simp
theorem cutW_sub (w : Nat) (b : List Nat) : (cutW w b).Sublist b := by
  unfold cutW
  cases q : idxL b w with
  | none => exact List.Sublist.refl _
  | some i => exact List.take_sublist _ _
theorem fst_cut {w : Nat} {s : List Nat} (h : w ∈ s) (b : List Nat) : fstIn (cutW w b) s = fstIn b s := by
  unfold cutW
  cases q : idxL b w with
  | none => rfl
  | some i =>
    have hg := idx_get q
    have hw : w ∈ b.take (i + 1) := by
      have : (b.take (i + 1))[i]? = some w := by rw [List.getElem?_take, if_pos (by omega)]; exact hg
      exact List.mem_of_getElem? this
    have e := (List.take_append_drop (i + 1) b).symm
    unfold fstIn
    conv => rhs; rw [e, List.filter_append]
    have hne : (b.take (i + 1)).filter (fun c => decide (c ∈ s)) ≠ [] := by
      intro z
      have : w ∈ (b.take (i + 1)).filter (fun c => decide (c ∈ s)) := List.mem_filter.mpr ⟨hw, by simpa using h⟩
      rw [z] at this; cases this
    obtain ⟨a, r, ha⟩ := List.exists_cons_of_ne_nil hne
    rw [ha]; rfl
theorem cnt_map (g : List Nat → List Nat) {s : List Nat} (c : Nat) : ∀ ps : Ps, (∀ p ∈ ps, fstIn (g p.1) s = fstIn p.1 s) → cntC (ps.map fun p => (g p.1, p.2)) s c = cntC ps s c
  | [], _ => rfl
  | p :: r, h => by
    have ih := cnt_map g c r fun q hq => h q (by simp [hq])
    have e1 : (p :: r).map (fun p => (g p.1, p.2)) = [(g p.1, p.2)] ++ r.map fun p => (g p.1, p.2) := rfl
    have e2 : p :: r = [p] ++ r := rfl
    rw [e1, e2, cnt_app, cnt_app, ih, cnt_one, cnt_one, h p (by simp)]
theorem cnt_ne (s : List Nat) (c : Nat) : ∀ rows : Ps, cntC (rows.filter fun p => !p.1.isEmpty) s c = cntC rows s c
  | [] => rfl
  | p :: r => by
    have ih := cnt_ne s c r
    have e2 : p :: r = [p] ++ r := rfl
    by_cases h : p.1 = []
    · rw [List.filter_cons, if_neg (by simp [h]), ih, e2, cnt_app, cnt_one, h]
      simp [fstIn]
    · rw [List.filter_cons, if_pos (by simp [List.isEmpty_iff, h])]
      rw [show (p :: r.filter fun p => !p.1.isEmpty) = [p] ++ r.filter fun p => !p.1.isEmpty from rfl, e2, cnt_app, cnt_app, ih]
theorem cnt_mrg (rows : Ps) (s : List Nat) (c : Nat) : cntC (mrgP rows) s c = cntC rows s c := by
  unfold mrgP
  rw [jn_cnt (ps := []) (by simp), cnt_ne]
  show 0 + _ = _
  omega
theorem mrg_val {n : Nat} {rows : Ps} (h2 : 2 ≤ n) (h5 : n ≤ 5) (h8 : rows.length ≤ 8) (hr : ∀ p ∈ rows, p.1 ≠ [] → letS p.1 (abc.take n) = true) (ht : ∀ p ∈ rows, 1 ≤ p.2) (hb : ¬ ((mrgP rows).any fun p => decide (20 < p.2)) = true) : Val n (mrgP rows) := by
  have hp : Pre n (mrgP rows) := by
    refine Pre.jn (n := n) ⟨by simp, by simp⟩ _ fun p hp => ?_
    obtain ⟨h1, h2⟩ := List.mem_filter.mp hp
    exact ⟨hr p h1 (by simpa [List.isEmpty_iff] using h2), ht p h1⟩
  refine hp.val h2 h5 ?_
  unfold fits
  have hl := mrg_len rows
  rw [decide_eq_true (by omega), Bool.true_and, List.all_eq_true]
  intro p hp
  refine decide_eq_true ?_
  by_cases h : p.2 ≤ 20
  · exact h
  · exact absurd (List.any_eq_true.mpr ⟨p, hp, decide_eq_true (by omega)⟩) hb
theorem lasts_eq2 {ps qs : Ps} {s : List Nat} (h : ∀ c, cntC qs s c = cntC ps s c) : lastsF qs s = lastsF ps s := by
  unfold lastsF
  simp only [h]
theorem row_eq2 {ps qs : Ps} {s : List Nat} (h : ∀ c, cntC qs s c = cntC ps s c) : rowD qs s = rowD ps s := by
  unfold rowD cnts
  simp only [h]
/-- the way ends in w; with w in the counts are the same -/
theorem way_same {ps qs : Ps} {w : Nat} (h : ∀ s, w ∈ s → ∀ c, cntC qs s c = cntC ps s c) : ∀ (k : Nat) (s : List Nat), s.Nodup → s.length = k + 1 → (wayF ps s).getLastD 0 = w → wayF qs s = wayF ps s ∧ (rndF qs s).map (rowD qs) = (rndF ps s).map (rowD ps)
  | 0, s, hn, hl, _ => by rw [way_one (by omega), way_one (by omega), rnd_one (by omega), rnd_one (by omega)]; exact ⟨rfl, rfl⟩
  | k + 1, s, hn, hl, hw => by
    have h0 : s ≠ [] := by intro z; rw [z] at hl; simp at hl
    have ho := out_mem (ps := ps) h0
    have hf := filter_len hn ho
    have hws : w ∈ s := by
      rw [← hw]
      exact wayN_mem ps _ _ _ (getLastD_mem (way_len' (ps := ps) hn h0).1)
    have e1 := lasts_eq2 (h s hws)
    have eo : outF qs s = outF ps s := by unfold outF; rw [e1]
    have hst := way_step (ps := ps) hn (by omega)
    have hst2 := way_step (ps := qs) hn (by omega)
    have hrs := rnd_step (ps := ps) hn (by omega)
    have hrs2 := rnd_step (ps := qs) hn (by omega)
    have hn' := hn.filter fun x => x != outF ps s
    have h0' : (s.filter fun x => x != outF ps s) ≠ [] := by intro z; rw [z] at hf; simp at hf; omega
    have hw' : (wayF ps (s.filter fun x => x != outF ps s)).getLastD 0 = w := by
      rw [hst] at hw
      have := (way_len' (ps := ps) hn' h0').1
      obtain ⟨a, r, har⟩ := List.exists_cons_of_ne_nil this
      rw [har] at hw ⊢
      simpa using hw
    obtain ⟨i1, i2⟩ := way_same h k _ hn' (by omega) hw'
    rw [eo] at hst2 hrs2
    refine ⟨by rw [hst2, hst, i1], ?_⟩
    rw [hrs2, hrs, List.map_cons, List.map_cons, i2, row_eq2 (h s hws)]
/-- where r is out the counts are the same -/
theorem way_out {ps qs : Ps} {r : Nat} (h : ∀ s, r ∉ s → ∀ c, cntC qs s c = cntC ps s c) : ∀ (k : Nat) (s : List Nat), s.Nodup → s.length ≤ k → r ∉ s → wayF qs s = wayF ps s ∧ (rndF qs s).map (rowD qs) = (rndF ps s).map (rowD ps)
  | 0, s, hn, hl, _ => by rw [way_one (by omega), way_one (by omega), rnd_one (by omega), rnd_one (by omega)]; exact ⟨rfl, rfl⟩
  | k + 1, s, hn, hl, hr => by
    by_cases h1 : s.length ≤ 1
    · rw [way_one h1, way_one h1, rnd_one h1, rnd_one h1]; exact ⟨rfl, rfl⟩
    · have h0 : s ≠ [] := by intro z; rw [z] at h1; simp at h1
      have ho := out_mem (ps := ps) h0
      have hf := filter_len hn ho
      have e1 := lasts_eq2 (h s hr)
      have eo : outF qs s = outF ps s := by unfold outF; rw [e1]
      have hst := way_step (ps := ps) hn (by omega)
      have hst2 := way_step (ps := qs) hn (by omega)
      have hrs := rnd_step (ps := ps) hn (by omega)
      have hrs2 := rnd_step (ps := qs) hn (by omega)
      obtain ⟨i1, i2⟩ := way_out h k _ (hn.filter fun x => x != outF ps s) (by omega) fun z => hr (List.mem_filter.mp z).1
      rw [eo] at hst2 hrs2
      refine ⟨by rw [hst2, hst, i1], ?_⟩
      rw [hrs2, hrs, List.map_cons, List.map_cons, i2, row_eq2 (h s hr)]
theorem fst_less {r : Nat} {s : List Nat} (h : r ∉ s) (b : List Nat) : fstIn (b.filter fun x => x != r) s = fstIn b s := by
  unfold fstIn
  rw [List.filter_filter]
  congr 1
  apply List.filter_congr
  intro c _
  by_cases hc : c ∈ s
  · have : c ≠ r := fun e => h (e ▸ hc)
    simp [hc, this]
  · simp [hc]
theorem fst_keep {r c : Nat} {s : List Nat} (hc : c ≠ r) : ∀ b : List Nat, fstIn b s = some c → fstIn (b.filter fun x => x != r) s = some c
  | [], h => by simp [fstIn] at h
  | a :: b, h => by
    unfold fstIn at h ⊢
    by_cases ha : a ∈ s
    · rw [List.filter_cons, if_pos (by simpa using ha)] at h
      simp at h
      subst h
      rw [List.filter_cons, if_pos (by simpa using hc), List.filter_cons, if_pos (by simpa using ha)]
      rfl
    · rw [List.filter_cons, if_neg (by simpa using ha)] at h
      have ih := fst_keep hc b h
      unfold fstIn at ih
      rw [List.filter_cons]
      split
      · rw [List.filter_cons, if_neg (by simpa using ha)]; exact ih
      · exact ih
theorem cnt_map_le (g : List Nat → List Nat) {s : List Nat} (c : Nat) : ∀ ps : Ps, (∀ p ∈ ps, fstIn p.1 s = some c → fstIn (g p.1) s = some c) → cntC ps s c ≤ cntC (ps.map fun p => (g p.1, p.2)) s c
  | [], _ => Nat.le_refl _
  | p :: r, h => by
    have ih := cnt_map_le g c r fun q hq => h q (by simp [hq])
    have e1 : (p :: r).map (fun p => (g p.1, p.2)) = [(g p.1, p.2)] ++ r.map fun p => (g p.1, p.2) := rfl
    have e2 : p :: r = [p] ++ r := rfl
    rw [e1, e2, cnt_app, cnt_app, cnt_one, cnt_one]
    have := h p (by simp)
    by_cases hq : fstIn p.1 s = some c
    · rw [if_pos hq, if_pos (this hq)]; simp only; omega
    · rw [if_neg hq]; omega
theorem cnt_zero {s : List Nat} {c : Nat} : ∀ ps : Ps, (∀ p ∈ ps, c ∉ p.1) → cntC ps s c = 0
  | [], _ => rfl
  | p :: r, h => by
    have ih := cnt_zero (s := s) (c := c) r fun q hq => h q (by simp [hq])
    have e2 : p :: r = [p] ++ r := rfl
    rw [e2, cnt_app, cnt_one, ih, if_neg]
    intro z
    unfold fstIn at z
    have := List.mem_of_mem_head? z
    exact h p (by simp) (List.mem_filter.mp this).1
/-- who goes out first goes out first without its letters, too -/
theorem out_less {ps : Ps} {s : List Nat} (h0 : s ≠ []) : outF (mrgP (ps.map fun p => (p.1.filter fun x => x != outF ps s, p.2))) s = outF ps s := by
  obtain ⟨r, hr⟩ : ∃ r, r = outF ps s := ⟨_, rfl⟩
  obtain ⟨qs, hq⟩ : ∃ qs, qs = mrgP (ps.map fun p => (p.1.filter fun x => x != outF ps s, p.2)) := ⟨_, rfl⟩
  rw [← hq, ← hr]
  have ho := out_mem (ps := ps) h0
  rw [← hr] at ho
  have z : cntC qs s r = 0 := by
    rw [hq, cnt_mrg, ← hr]
    refine cnt_zero _ fun p hp => ?_
    obtain ⟨q, _, rfl⟩ := List.mem_map.mp hp
    simp
  have ge : ∀ c, c ≠ r → cntC ps s c ≤ cntC qs s c := fun c hc => by
    rw [hq, cnt_mrg, ← hr]
    exact cnt_map_le (fun b => b.filter fun x => x != r) c ps fun p _ => fst_keep hc p.1
  have hm : r ∈ lastsF qs s := by
    refine List.mem_filter.mpr ⟨ho, ?_⟩
    rw [List.all_eq_true]
    intro d _
    rw [z]
    exact decide_eq_true (Nat.zero_le _)
  have h1 : r ≤ outF qs s := (fold_ge (lastsF qs s) 0).2 r hm
  have h2 := out_in (ps := qs) h0
  obtain ⟨m1, m2⟩ := List.mem_filter.mp h2
  have h3 : cntC qs s (outF qs s) = 0 := by
    rw [List.all_eq_true] at m2
    have := of_decide_eq_true (m2 r ho)
    omega
  by_cases he : outF qs s = r
  · exact he
  · have h4 := ge _ he
    obtain ⟨l1, l2⟩ := out_least (ps := ps) h0 m1
    rw [← hr] at l1 l2
    have := l2 (by omega)
    omega
theorem letS_sub {b b' : List Nat} {n : Nat} (h : letS b (abc.take n) = true) (hs : b'.Sublist b) (h0 : b' ≠ []) : letS b' (abc.take n) = true := by
  obtain ⟨_, _, _, hn, hm⟩ := letS_len h
  unfold letS
  simp only [Bool.and_eq_true, List.all_eq_true, decide_eq_true_eq, Bool.not_eq_true', List.isEmpty_eq_false_iff]
  exact ⟨⟨h0, fun c hc => hm c (hs.subset hc)⟩, hn.sublist hs⟩
mutual
theorem eqv_refl : ∀ d : D, d.pl = true → D.eqv d d = true
  | .non, _ => rfl
  | .bl _, _ => by simp
  | .int _, _ => by simp
  | .str _, _ => by simp
  | .tup xs, h => by rw [ev_tup]; exact eqvs_refl xs (by simpa using h)
  | .lst xs, h => by rw [ev_lst]; exact eqvs_refl xs (by simpa using h)
  | .dic _ _, h => by simp [D.pl] at h
  | .dice, h => by simp [D.pl] at h
theorem eqvs_refl : ∀ ds : List D, D.pls ds = true → D.eqvs ds ds = true
  | [], _ => rfl
  | d :: r, h => by
    rw [pls_cons, Bool.and_eq_true] at h
    rw [evs_cc, eqv_refl d h.1, eqvs_refl r h.2]; rfl
end
theorem ne_self {x : D} (h : x.pl = true) (h2 : x.dep ≤ 30) : cmpD .ne x x = some false := by
  rw [c_ne, eqOk_f h h (.inl h2), if_pos rfl, eqv_refl x h]; rfl
theorem rows_pls (ps : Ps) : ∀ l : List (List Nat), D.pls (l.map (rowD ps)) = true
  | [] => rfl
  | r :: l => by
    rw [List.map_cons, pls_cons, rows_pls ps l]
    simp [rowD, cnts_pls]
theorem rows_dep (ps : Ps) : ∀ l : List (List Nat), D.deps (l.map (rowD ps)) ≤ 2
  | [] => by simp
  | r :: l => by
    have := rows_dep ps l
    rw [List.map_cons, deps_cons]
    simp [rowD, cnts_dep]
    omega
theorem cutL_1 {α : Type} (l : List α) : cutL l (some 1) none = l.drop 1 := by
  unfold cutL
  cases l with
  | nil => rfl
  | cons a r =>
    have h1 : HT.sIx (a :: r).length 0 (some 1) = 1 := by
      unfold HT.sIx
      simp
    have h2 : HT.sIx (a :: r).length (a :: r).length none = (a :: r).length := rfl
    rw [h1, h2]
    simp
theorem rowsP (g : List Nat → List Nat) (ps : Ps) (k : D → D) (h : ∀ p : List Nat × Nat, k (.tup [.str p.1, .int p.2]) = .tup [.str (g p.1), .int p.2]) : (encP ps).map k = encP (ps.map fun p => (g p.1, p.2)) := by
  unfold encP
  rw [List.map_map, List.map_map]
  apply List.map_congr_left
  intro p _
  exact h p
theorem obl_law : wSs m_law (envLaw 11) (fun ρ' => ρ'.length = 11) (fun _ => False) fun _ => False := by
  rw [show envLaw 11 = [.no, .imm .dice, .no, .no, .no, .no, .no, .no, .no, .no, .no] from rfl]
  rw [m_law]
  rw [wSs, wS]
  simp only [wE, wEs, frz, frz1, Slot.frz, List.set_cons_succ, List.set_cons_zero, List.getElem?_cons_zero, List.getElem?_cons_succ, List.length_cons, List.length_nil]
  refine ⟨2, 5, 8, rfl, by omega, by omega, by omega, by omega, fun n ps0 hv0 _ _ h6 => ?_⟩
  try simp only []
  rw [encP_slot]
  have t0 : subD (encV n ps0) (.int 0) = some (.int n) := by simp [encV]
  have t1 : subD (encV n ps0) (.int 1) = some (.tup (encP ps0)) := by simp [encV]
  rw [wSs, wS]
  simp only [wE, wEs, frz, frz1, Slot.frz, List.set_cons_succ, List.set_cons_zero, List.getElem?_cons_zero, List.getElem?_cons_succ, List.length_cons, List.length_nil]
  simp only [t0, t1, onS_s, MG.slots, MG.slotss, List.cons_append, List.nil_append, wipeD]
  refine ⟨by simp [notOwn], ?_⟩
  rw [onIt_t]
  refine wLC_map (fun x => match x with | .tup [.str b, .int t] => .tup [.str b, .int (1 + t % 6)] | _ => .non) _ _ (by simp [encP]; omega) (fun x hx => ?_) ?_
  · obtain ⟨p, _, rfl⟩ := List.mem_map.mp hx
    refine ⟨_, rfl, fun K k => ?_⟩
    simp only [wE, wEs, List.set_cons_succ, List.set_cons_zero, List.getElem?_cons_zero, List.getElem?_cons_succ]
    rw [show binD .mod (.int (p.2 : Nat)) (.int 6) = some (.int ((p.2 : Nat) % 6)) from rfl, onS_s, a_int, onS_s]
    exact ⟨by simp, k⟩
  obtain ⟨ps, hps⟩ : ∃ ps : Ps, ps = ps0.map fun p => (p.1, 1 + p.2 % 6) := ⟨_, rfl⟩
  have e1 : ((encP ps0).map fun x => match x with | .tup [.str b, .int t] => D.tup [.str b, .int (1 + t % 6)] | _ => .non) = encP ps := by
    rw [hps]
    simp only [encP, List.map_map, Function.comp_def]
    apply List.map_congr_left
    intro p _
    simp
  have hv : Val n ps := by
    refine ⟨hv0.lo, hv0.hi, by rw [hps, List.length_map]; exact hv0.len, fun p hp => ?_, ?_⟩
    · rw [hps] at hp
      obtain ⟨q, hq, rfl⟩ := List.mem_map.mp hp
      exact ⟨(hv0.bl q hq).1, by simp only; omega, by simp only; omega⟩
    · rw [hps, List.map_map]; exact hv0.nd
  clear hps
  rw [e1, show b1D .tuple (.lst (encP ps)) = some (.tup (encP ps)) from rfl, onS_s]
  refine ⟨by simp, ?_⟩
  try simp only []
  rw [show ∀ e : ME, slotOf e (.tup [.int n, .tup (encP ps)]) = .imm (encV n ps) from fun e => slot_tup _ _]
  clear t0 t1 e1 h6 hv0 ps0
  have h8 := hv.len
  have h5 := hv.hi
  have h2 := hv.lo
  have hs := sm_encV hv
  have hiv := isVotes_enc hv
  have s0 : subD (encV n ps) (.int 0) = some (.int n) := by simp [encV]
  have s1 : subD (encV n ps) (.int 1) = some (.tup (encP ps)) := by simp [encV]
  have hla : (abc.take n).length = n := by simp [abc]; omega
  have hnd : (abc.take n).Nodup := abc_nd.sublist (List.take_sublist _ _)
  have hw := way_len' (ps := ps) hnd (abc_take_ne h2)
  have hS0 := abc_take_ne h2
  have hst := way_step (ps := ps) hnd (by omega)
  -- w, r
  obtain ⟨w, hwd⟩ : ∃ w, w = winF n ps := ⟨_, rfl⟩
  obtain ⟨r, hrd⟩ : ∃ r, r = outF ps (abc.take n) := ⟨_, rfl⟩
  have hlast : (wayF ps (abc.take n)).getLastD 0 = w := hwd.symm
  rw [wSs]
  simp only [wS, wE, wEs, frz, List.set_cons_succ, List.set_cons_zero, List.getElem?_cons_zero, List.getElem?_cons_succ, List.length_cons, List.length_nil]
  refine ⟨n, ps, rfl, hv, _, rfl, hs, fun n' ps' e' _ => ?_, fun z => Bool.noConfusion (hiv.symm.trans z)⟩
  obtain ⟨rfl, rfl⟩ := encV_inj e'
  refine ⟨by decide, ?_⟩
  simp only [asgG, asgGs, Option.bind_some, onS_s, List.set_cons_succ, List.set_cons_zero]
  rw [← hwd]
  -- the rows cut
  rw [wSs, wS]
  simp only [wE, wEs, frz, frz1, Slot.frz, List.set_cons_succ, List.set_cons_zero, List.getElem?_cons_zero, List.getElem?_cons_succ, List.length_cons, List.length_nil]
  rw [s1, onS_s]
  simp only [MG.slots, MG.slotss, List.cons_append, List.nil_append, wipeD, List.set_cons_succ, List.set_cons_zero]
  refine ⟨by simp [notOwn], ?_⟩
  rw [onIt_t]
  refine wLC_map (fun d => match d with | .tup [.str b, t] => .tup [.str (cutW w b), t] | _ => .non) _ _ (by rw [encP_len]; omega) (fun d hd => ?_) ?_
  · obtain ⟨p, hp, rfl⟩ := List.mem_map.mp hd
    have hb5 := bl_len hv p hp
    refine ⟨_, rfl, fun K k => ?_⟩
    simp only [wE, wEs, List.set_cons_succ, List.set_cons_zero, List.getElem?_cons_zero, List.getElem?_cons_succ, List.length_cons, List.length_nil]
    rw [c_inS, onS_s]
    simp only [onB_b]
    by_cases hwb : w ∈ p.1
    · obtain ⟨i, hi⟩ := idx_some hwb
      rw [decide_eq_true hwb]
      simp only [if_true]
      rw [show ME.isNop .nop = true from rfl, onP_t]
      refine ⟨rfl, ?_⟩
      rw [ixTxt, hi, Option.map_some, onS_s, a_int, onS_s, show ME.isNop (.bin .add (.b2 .index (.peek 9) (.peek 3)) (.con (.int 1))) = false from rfl, onP_f, onI_i]
      have hcw : cutW w p.1 = p.1.take (i + 1) := by unfold cutW; rw [hi]
      have hil := lt_of_get' (idx_get hi)
      rw [show slD (.str p.1) none (some ((i : Nat) + 1)) = some (.str (cutW w p.1)) from by
        simp only [slD]
        rw [if_pos (by omega), hcw]
        unfold cutL
        rw [show HT.sIx p.1.length 0 none = 0 from rfl]
        have : HT.sIx p.1.length p.1.length (some ((i : Nat) + 1)) = i + 1 := by
          unfold HT.sIx
          simp only []
          rw [if_neg (by omega)]
          omega
        rw [this]; simp, onS_s]
      exact ⟨by decide, k⟩
    · have hcw : cutW w p.1 = p.1 := by
        unfold cutW
        rw [idxL_none.mpr hwb]
      rw [decide_eq_false hwb]
      simp only [Bool.false_eq_true, if_false]
      refine ⟨by decide, ?_⟩
      have k : K (.tup [.str (cutW w p.1), .int p.2]) := k
      rw [hcw] at k
      exact k
  rw [rowsP (cutW w) ps _ (fun p => rfl), slot_new rfl]
  obtain ⟨cr, hcr⟩ : ∃ cr : Ps, cr = ps.map fun p => (cutW w p.1, p.2) := ⟨_, rfl⟩
  rw [← hcr]
  have hcl : cr.length ≤ 8 := by rw [hcr, List.length_map]; omega
  have hcb : ∀ p ∈ cr, ∃ q ∈ ps, p = (cutW w q.1, q.2) := fun p hp => by
    rw [hcr] at hp
    obtain ⟨q, hq, rfl⟩ := List.mem_map.mp hp
    exact ⟨q, hq, rfl⟩
  rw [wSs, wS]
  simp only [wE, wEs, frz, frz1, Slot.frz, List.set_cons_succ, List.set_cons_zero, List.getElem?_cons_zero, List.getElem?_cons_succ, List.length_cons, List.length_nil]
  rw [s0, onS_s]
  refine ⟨n, cr, rfl, hcl, fun p hp => ?_, ?_⟩
  · obtain ⟨q, hq, rfl⟩ := hcb p hp
    exact Nat.le_trans (cutW_sub w q.1).length_le (bl_len hv q hq)
  have valC : ∀ hb : ¬ ((mrgP cr).any fun p => decide (20 < p.2)) = true, Val n (mrgP cr) := fun hb =>
    mrg_val h2 h5 hcl (fun p hp h0 => by
      obtain ⟨q, hq, rfl⟩ := hcb p hp
      exact letS_sub (hv.bl q hq).1 (cutW_sub w q.1) h0) (fun p hp => by
      obtain ⟨q, hq, rfl⟩ := hcb p hp
      exact (hv.bl q hq).2.1) hb
  have cntCut : ∀ s, w ∈ s → ∀ c, cntC (mrgP cr) s c = cntC ps s c := fun s hws c => by
    rw [cnt_mrg, hcr]
    exact cnt_map (cutW w) c ps fun p _ => fst_cut hws p.1
  obtain ⟨k1, hk1⟩ : ∃ k1, n = k1 + 1 := ⟨n - 1, by omega⟩
  obtain ⟨same1, same2⟩ := way_same cntCut k1 (abc.take n) hnd (by omega) hlast
  obtain ⟨dc, hdc⟩ : ∃ dc : D, dc = if ((mrgP cr).any fun p => decide (20 < p.2)) = true then D.non else encV n (mrgP cr) := ⟨_, rfl⟩
  try simp only []
  rw [← hdc, slot_old rfl]
  have hnn : dc = .non ∨ (dc = encV n (mrgP cr) ∧ Val n (mrgP cr)) := by
    by_cases hb : ((mrgP cr).any fun p => decide (20 < p.2)) = true
    · rw [if_pos hb] at hdc; exact .inl hdc
    · rw [if_neg hb] at hdc; exact .inr ⟨hdc, valC hb⟩
  refine wifs0 (fun K k => ?_) ?_
  · simp only [wE, wEs, List.set_cons_succ, List.set_cons_zero, List.getElem?_cons_zero, List.getElem?_cons_succ, List.length_cons, List.length_nil]
    rcases hnn with rfl | ⟨rfl, hvc⟩
    · simpa using k
    · have hs' := sm_encV hvc
      have hiv' := isVotes_enc hvc
      show onB _ (.bl true)
      simp only [onB_b, if_true]
      refine ⟨_, rfl, hs', fun n' ps' e' _ => ?_, fun z => Bool.noConfusion (hiv'.symm.trans z)⟩
      obtain ⟨rfl, rfl⟩ := encV_inj e'
      rw [same1, c_ne, eqOk_f (x := .str _) (y := .str _) rfl rfl (.inl (by simp)), if_pos rfl]
      simp only [ev_str, beq_self_eq_true, Bool.not_true, onS_s, onB_b, Bool.false_eq_true, if_false]
      refine ⟨_, rfl, hs', fun n' ps' e' _ => ?_, fun z => Bool.noConfusion (hiv'.symm.trans z)⟩
      obtain ⟨rfl, rfl⟩ := encV_inj e'
      refine ⟨_, rfl, hs, fun n' ps' e' _ => ?_, fun z => Bool.noConfusion (hiv.symm.trans z)⟩
      obtain ⟨rfl, rfl⟩ := encV_inj e'
      rw [same2, ne_self (by rw [pl_tup]; exact rows_pls _ _) (by rw [dep_tup]; have := rows_dep ps (rndF ps (abc.take n)); omega)]
      simpa using k
  -- without the first one's letters
  have hw0 : (wayF ps (abc.take n))[0]? = some r := by rw [hst, hrd]; rfl
  rw [wSs, wS]
  simp only [wE, wEs, frz, frz1, Slot.frz, List.set_cons_succ, List.set_cons_zero, List.getElem?_cons_zero, List.getElem?_cons_succ, List.length_cons, List.length_nil]
  rw [show subS (.str (wayF ps (abc.take n))) (.int 0) = some (.str [r]) from by
    simp only [subS, subD]
    rw [if_pos (by rw [hw.2]; omega), show atI (wayF ps (abc.take n)) 0 = some r from atI_n (i := 0) hw0]; rfl, onS_s, slot_str]
  rw [wSs, wS]
  simp only [wE, wEs, frz, frz1, Slot.frz, List.set_cons_succ, List.set_cons_zero, List.getElem?_cons_zero, List.getElem?_cons_succ, List.length_cons, List.length_nil]
  rw [s0, onS_s, s1, onS_s]
  simp only [MG.slots, MG.slotss, List.cons_append, List.nil_append, wipeD, List.set_cons_succ, List.set_cons_zero]
  refine ⟨by simp [notOwn], ?_⟩
  rw [onIt_t]
  refine wLC_map (fun d => match d with | .tup [.str b, t] => .tup [.str (b.filter fun x => x != r), t] | _ => .non) _ _ (by rw [encP_len]; omega) (fun d hd => ?_) ?_
  · obtain ⟨p, hp, rfl⟩ := List.mem_map.mp hd
    have hb5 := bl_len hv p hp
    refine ⟨_, rfl, fun K k => ?_⟩
    simp only [wE, wEs, List.set_cons_succ, List.set_cons_zero, List.getElem?_cons_zero, List.getElem?_cons_succ, List.length_cons, List.length_nil]
    refine ⟨rfl, ?_⟩
    rw [show b2D .repl0 (.str p.1) (.str [r]) = some (.str (p.1.filter fun x => x != r)) from by simp only [b2D]; rw [if_pos (by omega)], onS_s]
    exact ⟨by decide, k⟩
  rw [rowsP (fun b => b.filter fun x => x != r) ps _ (fun p => rfl)]
  obtain ⟨lr, hlr⟩ : ∃ lr : Ps, lr = ps.map fun p => (p.1.filter fun x => x != r, p.2) := ⟨_, rfl⟩
  rw [← hlr]
  have hll : lr.length ≤ 8 := by rw [hlr, List.length_map]; omega
  have hlb : ∀ p ∈ lr, ∃ q ∈ ps, p = (q.1.filter fun x => x != r, q.2) := fun p hp => by
    rw [hlr] at hp
    obtain ⟨q, hq, rfl⟩ := List.mem_map.mp hp
    exact ⟨q, hq, rfl⟩
  refine ⟨n, lr, rfl, hll, fun p hp => ?_, ?_⟩
  · obtain ⟨q, hq, rfl⟩ := hlb p hp
    exact Nat.le_trans (List.length_filter_le ..) (bl_len hv q hq)
  have valL : ∀ hb : ¬ ((mrgP lr).any fun p => decide (20 < p.2)) = true, Val n (mrgP lr) := fun hb =>
    mrg_val h2 h5 hll (fun p hp h0 => by
      obtain ⟨q, hq, rfl⟩ := hlb p hp
      exact letS_sub (hv.bl q hq).1 List.filter_sublist h0) (fun p hp => by
      obtain ⟨q, hq, rfl⟩ := hlb p hp
      exact (hv.bl q hq).2.1) hb
  have cntL : ∀ s, r ∉ s → ∀ c, cntC (mrgP lr) s c = cntC ps s c := fun s hrs c => by
    rw [cnt_mrg, hlr]
    exact cnt_map (fun b => b.filter fun x => x != r) c ps fun p _ => fst_less hrs p.1
  have eo : outF (mrgP lr) (abc.take n) = r := by
    have := out_less (ps := ps) hS0
    rw [← hrd, ← hlr] at this
    exact this
  have hfl := filter_len hnd (out_mem (ps := ps) hS0)
  rw [← hrd] at hfl hst
  obtain ⟨o1, o2⟩ := way_out cntL _ ((abc.take n).filter fun x => x != r) (hnd.filter _) (Nat.le_refl _) (by simp)
  have hst2 := way_step (ps := mrgP lr) hnd (by omega)
  have hrs := rnd_step (ps := ps) hnd (by omega)
  have hrs2 := rnd_step (ps := mrgP lr) hnd (by omega)
  rw [← hrd] at hrs
  rw [eo] at hst2 hrs2
  have ewy : wayF (mrgP lr) (abc.take n) = wayF ps (abc.take n) := by rw [hst2, hst, o1]
  obtain ⟨dl, hdl⟩ : ∃ dl : D, dl = if ((mrgP lr).any fun p => decide (20 < p.2)) = true then D.non else encV n (mrgP lr) := ⟨_, rfl⟩
  try simp only []
  rw [← hdl, slot_old rfl]
  have hnl : dl = .non ∨ (dl = encV n (mrgP lr) ∧ Val n (mrgP lr)) := by
    by_cases hb : ((mrgP lr).any fun p => decide (20 < p.2)) = true
    · rw [if_pos hb] at hdl; exact .inl hdl
    · rw [if_neg hb] at hdl; exact .inr ⟨hdl, valL hb⟩
  refine wifs0 (fun K k => ?_) ?_
  · simp only [wE, wEs, List.set_cons_succ, List.set_cons_zero, List.getElem?_cons_zero, List.getElem?_cons_succ, List.length_cons, List.length_nil]
    rcases hnl with rfl | ⟨rfl, hvc⟩
    · simpa using k
    · have hs' := sm_encV hvc
      have hiv' := isVotes_enc hvc
      show onB _ (.bl true)
      simp only [onB_b, if_true]
      refine ⟨_, rfl, hs', fun n' ps' e' _ => ?_, fun z => Bool.noConfusion (hiv'.symm.trans z)⟩
      obtain ⟨rfl, rfl⟩ := encV_inj e'
      rw [ewy, show subD (.str (wayF ps (abc.take n))) (.int (-1)) = some (.str [w]) from by
        simp only [subD]
        rw [if_pos (by rw [hw.2]; omega), atI_last hw.1, hlast]; rfl, onS_s, c_ne, eqOk_f (x := .str _) (y := .str _) rfl rfl (.inl (by simp)), if_pos rfl]
      simp only [ev_str, beq_self_eq_true, Bool.not_true, onS_s, onB_b, Bool.false_eq_true, if_false]
      rw [show ME.isNop .nop = true from rfl, show ME.isNop (.con (.int 1)) = false from rfl]
      refine ⟨_, rfl, hs', fun n' ps' e' _ => ?_, fun z => Bool.noConfusion (hiv'.symm.trans z)⟩
      obtain ⟨rfl, rfl⟩ := encV_inj e'
      rw [onP_f, onI_i, onP_t]
      simp only [slD, onS_s]
      refine ⟨_, rfl, hs, fun n' ps' e' _ => ?_, fun z => Bool.noConfusion (hiv.symm.trans z)⟩
      obtain ⟨rfl, rfl⟩ := encV_inj e'
      rw [onP_f, onI_i, onP_t]
      simp only [slD, onS_s]
      rw [cutL_1, cutL_1, hrs2, hrs, List.map_cons, List.map_cons, List.drop_succ_cons, List.drop_succ_cons, List.drop_zero, List.drop_zero, o2]
      rw [ne_self (by rw [pl_tup]; exact rows_pls _ _) (by rw [dep_tup]; have := rows_dep ps (rndF ps ((abc.take n).filter fun x => x != r)); omega)]
      simpa using k
  refine wifs0 (fun K k => ?_) ?_
  · simp only [wE, wEs, List.set_cons_succ, List.set_cons_zero, List.getElem?_cons_zero, List.getElem?_cons_succ, List.length_cons, List.length_nil]
    rcases hnl with rfl | ⟨rfl, hvc⟩
    · simpa using k
    · show onB _ (.bl true)
      simp only [onB_b, if_true]
      have hrm : r ∈ abc.take n := by rw [hrd]; exact out_mem hS0
      have hlt : letS [r] (abc.take n) = true := by
        unfold letS
        simp [hrm]
      have hz : cntC (mrgP lr) [r] r = 0 := by
        rw [cnt_mrg]
        refine cnt_zero _ fun p hp => ?_
        obtain ⟨q, hq, rfl⟩ := hlb p hp
        simp
      refine ⟨n, mrgP lr, .str [r], rfl, hvc, rfl, fun s' es _ => ?_, fun z => Bool.noConfusion (hlt.symm.trans z)⟩
      cases es
      refine ⟨by decide, ?_⟩
      rw [show cnts (mrgP lr) [r] = [.int 0] from by unfold cnts; rw [List.map_cons, hz]; rfl, ne_self (by simp) (by simp)]
      simpa using k
  rw [wSs]
  rfl
end PV

set_option Elab.async false
set_option linter.all false
set_option maxRecDepth 100000
set_option maxHeartbeats 4000000
/-! Printed by gene.py: the end of k18_whole_cut_ballots. -/
namespace PW
open PySem PySem.Spec PyProof.Rows L2 DL PV
theorem len_d {cls : Nat → Addr} [Tb] {S : FS} {n : Nat} (h : ∀ ds Q X, S ds Q X → ds.length = n) {vs : List V} {H : Hp} {Q : VK} {E : XK} (k : spD cls S vs H Q E) : vs.length = n := by
  obtain ⟨G, U0, ds, Qd, Xd, _, _, _, l, w, _⟩ := k
  rw [l.len]
  exact h _ _ _ w
theorem all_mk {l : PySem.W.OpenLaw} {w : World} {K : PySem.W.Frag} {h : Heap} {mg : Str → Option Value} {fa : Addr} (X : K.In h) (G : h.Ns mainGlobals mg) (hfa : mg "law" = some (.ref fa))
    {f0 f1 f2 f3 f4 f5 f6 f7 f8 f9 f10 f11 f12 f13 f14 f15 f16 f17 f18 f19 f20 f21 cc C0 C5 : Addr} {od0 an0 od1 an1 od2 an2 od3 an3 od4 an4 od5 an5 od6 an6 od7 an7 od8 an8 od9 an9 od10 an10 od11 an11 od12 an12 od13 an13 od14 an14 od15 an15 od16 an16 od17 an17 od18 an18 od19 an19 od20 an20 od21 an21 : Option Addr} {sl0 sl1 sl2 sl3 sl4 sl5 sl6 sl7 sl8 sl9 sl10 sl11 sl12 sl13 sl14 sl15 sl16 sl17 sl18 sl19 sl20 sl21 : Array (Option Value)} {oc0 kV0 dc0 pm0 ct0 cd0 oc1 kV1 dc1 pm1 ct1 cd1 oc2 kV2 dc2 pm2 ct2 cd2 oc3 kV3 dc3 pm3 ct3 cd3 oc4 kV4 dc4 pm4 ct4 cd4 oc5 kV5 dc5 pm5 ct5 cd5 oc6 kV6 dc6 pm6 ct6 cd6 oc7 kV7 dc7 pm7 ct7 cd7 oc8 kV8 dc8 pm8 ct8 cd8 oc9 kV9 dc9 pm9 ct9 cd9 oc10 kV10 dc10 pm10 ct10 cd10 oc11 kV11 dc11 pm11 ct11 cd11 oc12 kV12 dc12 pm12 ct12 cd12 oc13 kV13 dc13 pm13 ct13 cd13 oc14 kV14 dc14 pm14 ct14 cd14 oc15 kV15 dc15 pm15 ct15 cd15 oc16 kV16 dc16 pm16 ct16 cd16 oc17 kV17 dc17 pm17 ct17 cd17 oc18 kV18 dc18 pm18 ct18 cd18 oc19 kV19 dc19 pm19 ct19 cd19 oc20 kV20 dc20 pm20 ct20 cd20 oc21 kV21 dc21 pm21 ct21 : Value} {t_LETTERS : Tok}
    (a0 : PySem.W.nsIn K mainGlobals "is_whole" = some (some (.ref f0)))
    (l0 : K.lookup f0 = some ⟨oc0, od0, .func (PySem.W.fnOf "is_whole" "is_whole" (defArgs s_is_whole) (defBody s_is_whole) (defScope s_is_whole) .none kV0 dc0 pm0 an0 cd0 ct0), sl0⟩)
    (c0 : PySem.W.codeIn K cd0 "is_whole" = true)
    (k0 : PySem.W.keepIn K (.ref f0) = true)
    (a1 : PySem.W.nsIn K mainGlobals "are_letters" = some (some (.ref f1)))
    (l1 : K.lookup f1 = some ⟨oc1, od1, .func (PySem.W.fnOf "are_letters" "are_letters" (defArgs s_are_letters) (defBody s_are_letters) (defScope s_are_letters) .none kV1 dc1 pm1 an1 cd1 ct1), sl1⟩)
    (c1 : PySem.W.codeIn K cd1 "are_letters" = true)
    (k1 : PySem.W.keepIn K (.ref f1) = true)
    (a2 : PySem.W.nsIn K mainGlobals "is_pair" = some (some (.ref f2)))
    (l2 : K.lookup f2 = some ⟨oc2, od2, .func (PySem.W.fnOf "is_pair" "is_pair" (defArgs s_is_pair) (defBody s_is_pair) (defScope s_is_pair) .none kV2 dc2 pm2 an2 cd2 ct2), sl2⟩)
    (c2 : PySem.W.codeIn K cd2 "is_pair" = true)
    (k2 : PySem.W.keepIn K (.ref f2) = true)
    (a3 : PySem.W.nsIn K mainGlobals "is_votes" = some (some (.ref f3)))
    (l3 : K.lookup f3 = some ⟨oc3, od3, .func (PySem.W.fnOf "is_votes" "is_votes" (defArgs s_is_votes) (defBody s_is_votes) (defScope s_is_votes) .none kV3 dc3 pm3 an3 cd3 ct3), sl3⟩)
    (c3 : PySem.W.codeIn K cd3 "is_votes" = true)
    (k3 : PySem.W.keepIn K (.ref f3) = true)
    (a4 : PySem.W.nsIn K mainGlobals "need_votes" = some (some (.ref f4)))
    (l4 : K.lookup f4 = some ⟨oc4, od4, .func (PySem.W.fnOf "need_votes" "need_votes" (defArgs s_need_votes) (defBody s_need_votes) (defScope s_need_votes) .none kV4 dc4 pm4 an4 cd4 ct4), sl4⟩)
    (c4 : PySem.W.codeIn K cd4 "need_votes" = true)
    (k4 : PySem.W.keepIn K (.ref f4) = true)
    (a5 : PySem.W.nsIn K mainGlobals "candidates_of" = some (some (.ref f5)))
    (l5 : K.lookup f5 = some ⟨oc5, od5, .func (PySem.W.fnOf "candidates_of" "candidates_of" (defArgs s_candidates_of) (defBody s_candidates_of) (defScope s_candidates_of) .none kV5 dc5 pm5 an5 cd5 ct5), sl5⟩)
    (c5 : PySem.W.codeIn K cd5 "candidates_of" = true)
    (k5 : PySem.W.keepIn K (.ref f5) = true)
    (a6 : PySem.W.nsIn K mainGlobals "counts_of" = some (some (.ref f6)))
    (l6 : K.lookup f6 = some ⟨oc6, od6, .func (PySem.W.fnOf "counts_of" "counts_of" (defArgs s_counts_of) (defBody s_counts_of) (defScope s_counts_of) .none kV6 dc6 pm6 an6 cd6 ct6), sl6⟩)
    (c6 : PySem.W.codeIn K cd6 "counts_of" = true)
    (k6 : PySem.W.keepIn K (.ref f6) = true)
    (a7 : PySem.W.nsIn K mainGlobals "last_ones" = some (some (.ref f7)))
    (l7 : K.lookup f7 = some ⟨oc7, od7, .func (PySem.W.fnOf "last_ones" "last_ones" (defArgs s_last_ones) (defBody s_last_ones) (defScope s_last_ones) .none kV7 dc7 pm7 an7 cd7 ct7), sl7⟩)
    (c7 : PySem.W.codeIn K cd7 "last_ones" = true)
    (k7 : PySem.W.keepIn K (.ref f7) = true)
    (a8 : PySem.W.nsIn K mainGlobals "way_of" = some (some (.ref f8)))
    (l8 : K.lookup f8 = some ⟨oc8, od8, .func (PySem.W.fnOf "way_of" "way_of" (defArgs s_way_of) (defBody s_way_of) (defScope s_way_of) .none kV8 dc8 pm8 an8 cd8 ct8), sl8⟩)
    (c8 : PySem.W.codeIn K cd8 "way_of" = true)
    (k8 : PySem.W.keepIn K (.ref f8) = true)
    (a9 : PySem.W.nsIn K mainGlobals "counts" = some (some (.ref f9)))
    (l9 : K.lookup f9 = some ⟨oc9, od9, .func (PySem.W.fnOf "counts" "counts" (defArgs s_counts) (defBody s_counts) (defScope s_counts) .none kV9 dc9 pm9 an9 cd9 ct9), sl9⟩)
    (c9 : PySem.W.codeIn K cd9 "counts" = true)
    (k9 : PySem.W.keepIn K (.ref f9) = true)
    (a10 : PySem.W.nsIn K mainGlobals "rounds" = some (some (.ref f10)))
    (l10 : K.lookup f10 = some ⟨oc10, od10, .func (PySem.W.fnOf "rounds" "rounds" (defArgs s_rounds) (defBody s_rounds) (defScope s_rounds) .none kV10 dc10 pm10 an10 cd10 ct10), sl10⟩)
    (c10 : PySem.W.codeIn K cd10 "rounds" = true)
    (k10 : PySem.W.keepIn K (.ref f10) = true)
    (a11 : PySem.W.nsIn K mainGlobals "way" = some (some (.ref f11)))
    (l11 : K.lookup f11 = some ⟨oc11, od11, .func (PySem.W.fnOf "way" "way" (defArgs s_way) (defBody s_way) (defScope s_way) .none kV11 dc11 pm11 an11 cd11 ct11), sl11⟩)
    (c11 : PySem.W.codeIn K cd11 "way" = true)
    (k11 : PySem.W.keepIn K (.ref f11) = true)
    (a12 : PySem.W.nsIn K mainGlobals "winner_of" = some (some (.ref f12)))
    (l12 : K.lookup f12 = some ⟨oc12, od12, .func (PySem.W.fnOf "winner_of" "winner_of" (defArgs s_winner_of) (defBody s_winner_of) (defScope s_winner_of) .none kV12 dc12 pm12 an12 cd12 ct12), sl12⟩)
    (c12 : PySem.W.codeIn K cd12 "winner_of" = true)
    (k12 : PySem.W.keepIn K (.ref f12) = true)
    (a13 : PySem.W.nsIn K mainGlobals "winner" = some (some (.ref f13)))
    (l13 : K.lookup f13 = some ⟨oc13, od13, .func (PySem.W.fnOf "winner" "winner" (defArgs s_winner) (defBody s_winner) (defScope s_winner) .none kV13 dc13 pm13 an13 cd13 ct13), sl13⟩)
    (c13 : PySem.W.codeIn K cd13 "winner" = true)
    (k13 : PySem.W.keepIn K (.ref f13) = true)
    (a14 : PySem.W.nsIn K mainGlobals "_law_drawn" = some (some (.ref f14)))
    (l14 : K.lookup f14 = some ⟨oc14, od14, .func (PySem.W.fnOf "_law_drawn" "_law_drawn" (defArgs s__law_drawn) (defBody s__law_drawn) (defScope s__law_drawn) .none kV14 dc14 pm14 an14 cd14 ct14), sl14⟩)
    (c14 : PySem.W.codeIn K cd14 "_law_drawn" = true)
    (k14 : PySem.W.keepIn K (.ref f14) = true)
    (a15 : PySem.W.nsIn K mainGlobals "_law_any_ballot" = some (some (.ref f15)))
    (l15 : K.lookup f15 = some ⟨oc15, od15, .func (PySem.W.fnOf "_law_any_ballot" "_law_any_ballot" (defArgs s__law_any_ballot) (defBody s__law_any_ballot) (defScope s__law_any_ballot) .none kV15 dc15 pm15 an15 cd15 ct15), sl15⟩)
    (c15 : PySem.W.codeIn K cd15 "_law_any_ballot" = true)
    (k15 : PySem.W.keepIn K (.ref f15) = true)
    (a16 : PySem.W.nsIn K mainGlobals "_law_any_votes" = some (some (.ref f16)))
    (l16 : K.lookup f16 = some ⟨oc16, od16, .func (PySem.W.fnOf "_law_any_votes" "_law_any_votes" (defArgs s__law_any_votes) (defBody s__law_any_votes) (defScope s__law_any_votes) .none kV16 dc16 pm16 an16 cd16 ct16), sl16⟩)
    (c16 : PySem.W.codeIn K cd16 "_law_any_votes" = true)
    (k16 : PySem.W.keepIn K (.ref f16) = true)
    (a17 : PySem.W.nsIn K mainGlobals "_law_merged" = some (some (.ref f17)))
    (l17 : K.lookup f17 = some ⟨oc17, od17, .func (PySem.W.fnOf "_law_merged" "_law_merged" (defArgs s__law_merged) (defBody s__law_merged) (defScope s__law_merged) .none kV17 dc17 pm17 an17 cd17 ct17), sl17⟩)
    (c17 : PySem.W.codeIn K cd17 "_law_merged" = true)
    (k17 : PySem.W.keepIn K (.ref f17) = true)
    (a18 : PySem.W.nsIn K mainGlobals "_law_roll" = some (some (.ref f18)))
    (l18 : K.lookup f18 = some ⟨oc18, od18, .func (PySem.W.fnOf "_law_roll" "_law_roll" (defArgs s__law_roll) (defBody s__law_roll) (defScope s__law_roll) .none kV18 dc18 pm18 an18 cd18 ct18), sl18⟩)
    (c18 : PySem.W.codeIn K cd18 "_law_roll" = true)
    (k18 : PySem.W.keepIn K (.ref f18) = true)
    (a19 : PySem.W.nsIn K mainGlobals "_law_cell" = some (some (.ref f19)))
    (l19 : K.lookup f19 = some ⟨oc19, od19, .func (PySem.W.fnOf "_law_cell" "_law_cell" (defArgs s__law_cell) (defBody s__law_cell) (defScope s__law_cell) .none kV19 dc19 pm19 an19 cd19 ct19), sl19⟩)
    (c19 : PySem.W.codeIn K cd19 "_law_cell" = true)
    (k19 : PySem.W.keepIn K (.ref f19) = true)
    (a20 : PySem.W.nsIn K mainGlobals "_law_rounds" = some (some (.ref f20)))
    (l20 : K.lookup f20 = some ⟨oc20, od20, .func (PySem.W.fnOf "_law_rounds" "_law_rounds" (defArgs s__law_rounds) (defBody s__law_rounds) (defScope s__law_rounds) .none kV20 dc20 pm20 an20 cd20 ct20), sl20⟩)
    (c20 : PySem.W.codeIn K cd20 "_law_rounds" = true)
    (k20 : PySem.W.keepIn K (.ref f20) = true)
    (a21 : PySem.W.nsIn K mainGlobals "law" = some (some (.ref f21)))
    (l21 : K.lookup f21 = some ⟨oc21, od21, .func (PySem.W.fnOf "law" "law" (defArgs s_law) (defBody s_law) (defScope s_law) .none kV21 dc21 pm21 an21 (.ref cc) ct21), sl21⟩)
    (c21 : PySem.W.codeIn K (.ref cc) "law" = true)
    (k21 : PySem.W.keepIn K (.ref f21) = true)
    (z_ValueError : PySem.W.nsIn K mainGlobals "ValueError" = some none)
    (z_all : PySem.W.nsIn K mainGlobals "all" = some none)
    (z_any : PySem.W.nsIn K mainGlobals "any" = some none)
    (z_bool : PySem.W.nsIn K mainGlobals "bool" = some none)
    (z_enumerate : PySem.W.nsIn K mainGlobals "enumerate" = some none)
    (z_int : PySem.W.nsIn K mainGlobals "int" = some none)
    (z_isinstance : PySem.W.nsIn K mainGlobals "isinstance" = some none)
    (z_len : PySem.W.nsIn K mainGlobals "len" = some none)
    (z_list : PySem.W.nsIn K mainGlobals "list" = some none)
    (z_max : PySem.W.nsIn K mainGlobals "max" = some none)
    (z_min : PySem.W.nsIn K mainGlobals "min" = some none)
    (z_range : PySem.W.nsIn K mainGlobals "range" = some none)
    (z_set : PySem.W.nsIn K mainGlobals "set" = some none)
    (z_str : PySem.W.nsIn K mainGlobals "str" = some none)
    (z_sum : PySem.W.nsIn K mainGlobals "sum" = some none)
    (z_tuple : PySem.W.nsIn K mainGlobals "tuple" = some none)
    (n_LETTERS : PySem.W.nsIn K mainGlobals "LETTERS" = some (some (.str (mkS [97, 98, 99, 100, 101]) t_LETTERS)))
    (e0 : PySem.W.nsIn K mainGlobals "InvalidVotes" = some (some (.ref C0)))
    (e5 : PySem.W.nsIn K mainGlobals "InvalidCandidates" = some (some (.ref C5)))
    (q_InvalidVotes : PySem.W.excIn K C0 [.type "ValueError", .type "Exception", .type "BaseException", .type "object"] "ValueError.__new__" = true)
    (k_InvalidVotes : PySem.W.keepIn K (.ref C0) = true)
    (s_InvalidVotes : PySem.W.subIn K (.ref C0) (.type "BaseException") = some true)
    (t_InvalidVotes : PySem.W.typeIn K (.ref C0) = some (.type "type"))
    (q_InvalidCandidates : PySem.W.excIn K C5 [.type "ValueError", .type "Exception", .type "BaseException", .type "object"] "ValueError.__new__" = true)
    (k_InvalidCandidates : PySem.W.keepIn K (.ref C5) = true)
    (s_InvalidCandidates : PySem.W.subIn K (.ref C5) (.type "BaseException") = some true)
    (t_InvalidCandidates : PySem.W.typeIn K (.ref C5) = some (.type "type"))
    :
    LamX.LawAtS l w K (L2N.CX l.prog w) 13 63 "_law_script" mg fa h := by
  have e := hfa.symm.trans (PySem.W.mg_of X G a21)
  cases e
  letI : Tb := ⟨[]⟩
  have T : Txt K mg (clsL [C0, 0, 0, 0, 0, C5, 0, 0, 0, 0, 0, 0]) := { z_ValueError := PySem.W.mg_none_of X G z_ValueError, z_all := PySem.W.mg_none_of X G z_all, z_any := PySem.W.mg_none_of X G z_any, z_bool := PySem.W.mg_none_of X G z_bool, z_enumerate := PySem.W.mg_none_of X G z_enumerate, z_int := PySem.W.mg_none_of X G z_int, z_isinstance := PySem.W.mg_none_of X G z_isinstance, z_len := PySem.W.mg_none_of X G z_len, z_list := PySem.W.mg_none_of X G z_list, z_max := PySem.W.mg_none_of X G z_max, z_min := PySem.W.mg_none_of X G z_min, z_range := PySem.W.mg_none_of X G z_range, z_set := PySem.W.mg_none_of X G z_set, z_str := PySem.W.mg_none_of X G z_str, z_sum := PySem.W.mg_none_of X G z_sum, z_tuple := PySem.W.mg_none_of X G z_tuple, c_LETTERS := ⟨t_LETTERS, PySem.W.mg_of X G n_LETTERS⟩, q_InvalidVotes := q_InvalidVotes, g_InvalidVotes := PySem.W.mg_of X G e0, k_InvalidVotes := k_InvalidVotes, s_InvalidVotes := s_InvalidVotes, t_InvalidVotes := t_InvalidVotes, q_InvalidCandidates := q_InvalidCandidates, g_InvalidCandidates := PySem.W.mg_of X G e5, k_InvalidCandidates := k_InvalidCandidates, s_InvalidCandidates := s_InvalidCandidates, t_InvalidCandidates := t_InvalidCandidates }
  have F0 := fun_mk (st := s_is_whole) l0 c0 k0
  have b0 := F0.binds (ps := ["value", "low", "high"]) fun _ _ _ _ _ _ us hl => match us, hl with | [_, _, _], _ => rfl
  have F1 := fun_mk (st := s_are_letters) l1 c1 k1
  have b1 := F1.binds (ps := ["value", "some"]) fun _ _ _ _ _ _ us hl => match us, hl with | [_, _], _ => rfl
  have F2 := fun_mk (st := s_is_pair) l2 c2 k2
  have b2 := F2.binds (ps := ["value", "some"]) fun _ _ _ _ _ _ us hl => match us, hl with | [_, _], _ => rfl
  have F3 := fun_mk (st := s_is_votes) l3 c3 k3
  have b3 := F3.binds (ps := ["value"]) fun _ _ _ _ _ _ us hl => match us, hl with | [_], _ => rfl
  have F4 := fun_mk (st := s_need_votes) l4 c4 k4
  have b4 := F4.binds (ps := ["votes"]) fun _ _ _ _ _ _ us hl => match us, hl with | [_], _ => rfl
  have F5 := fun_mk (st := s_candidates_of) l5 c5 k5
  have b5 := F5.binds (ps := ["votes"]) fun _ _ _ _ _ _ us hl => match us, hl with | [_], _ => rfl
  have F6 := fun_mk (st := s_counts_of) l6 c6 k6
  have b6 := F6.binds (ps := ["pairs", "some"]) fun _ _ _ _ _ _ us hl => match us, hl with | [_, _], _ => rfl
  have F7 := fun_mk (st := s_last_ones) l7 c7 k7
  have b7 := F7.binds (ps := ["pairs", "some"]) fun _ _ _ _ _ _ us hl => match us, hl with | [_, _], _ => rfl
  have F8 := fun_mk (st := s_way_of) l8 c8 k8
  have b8 := F8.binds (ps := ["pairs", "some"]) fun _ _ _ _ _ _ us hl => match us, hl with | [_, _], _ => rfl
  have F9 := fun_mk (st := s_counts) l9 c9 k9
  have b9 := F9.binds (ps := ["votes", "candidates"]) fun _ _ _ _ _ _ us hl => match us, hl with | [_, _], _ => rfl
  have F10 := fun_mk (st := s_rounds) l10 c10 k10
  have b10 := F10.binds (ps := ["votes"]) fun _ _ _ _ _ _ us hl => match us, hl with | [_], _ => rfl
  have F11 := fun_mk (st := s_way) l11 c11 k11
  have b11 := F11.binds (ps := ["votes"]) fun _ _ _ _ _ _ us hl => match us, hl with | [_], _ => rfl
  have F12 := fun_mk (st := s_winner_of) l12 c12 k12
  have b12 := F12.binds (ps := ["votes"]) fun _ _ _ _ _ _ us hl => match us, hl with | [_], _ => rfl
  have F13 := fun_mk (st := s_winner) l13 c13 k13
  have b13 := F13.binds (ps := ["votes"]) fun _ _ _ _ _ _ us hl => match us, hl with | [_], _ => rfl
  have F14 := fun_mk (st := s__law_drawn) l14 c14 k14
  have b14 := F14.binds (ps := ["_law_cell_here", "_law_k"]) fun _ _ _ _ _ _ us hl => match us, hl with | [_, _], _ => rfl
  have F15 := fun_mk (st := s__law_any_ballot) l15 c15 k15
  have b15 := F15.binds (ps := ["_law_dice", "_law_many"]) fun _ _ _ _ _ _ us hl => match us, hl with | [_, _], _ => rfl
  have F16 := fun_mk (st := s__law_any_votes) l16 c16 k16
  have b16 := F16.binds (ps := ["_law_dice", "_law_least", "_law_most", "_law_pairs"]) fun _ _ _ _ _ _ us hl => match us, hl with | [_, _, _, _], _ => rfl
  have F17 := fun_mk (st := s__law_merged) l17 c17 k17
  have b17 := F17.binds (ps := ["_law_many", "_law_rows"]) fun _ _ _ _ _ _ us hl => match us, hl with | [_, _], _ => rfl
  have F18 := fun_mk (st := s__law_roll) l18 c18 k18
  have b18 := F18.binds (ps := ["_law_dice", "_law_many"]) fun _ _ _ _ _ _ us hl => match us, hl with | [_, _], _ => rfl
  have F19 := fun_mk (st := s__law_cell) l19 c19 k19
  have b19 := F19.binds (ps := ["_law_script", "_law_k"]) fun _ _ _ _ _ _ us hl => match us, hl with | [_, _], _ => rfl
  have F20 := fun_mk (st := s__law_rounds) l20 c20 k20
  have b20 := F20.binds (ps := ["_law_script", "_law_most"]) fun _ _ _ _ _ _ us hl => match us, hl with | [_, _], _ => rfl
  have F21 := fun_mk (st := s_law) l21 c21 k21
  refine ⟨PySem.W.fnOf "law" "law" (defArgs s_law) (defBody s_law) (defScope s_law) .none kV21 dc21 pm21 an21 (.ref cc) ct21, [], spLawD K, fun p hp => (nomatch hp), fun p hp => (nomatch hp), fun p hp => (nomatch hp), fun s v => .of_eq rfl, fun H a ns hl _ hc hs => ⟨a, ns, rfl, hs, hl, fun p hp => (nomatch hp), fun _ => rfl⟩, fun base hKb hNb hTBs => ?_⟩
  have C_is_whole : Cal l.prog w K mg base (clsL [C0, 0, 0, 0, 0, C5, 0, 0, 0, 0, 0, 0]) 1 "is_whole" S_is_whole := calD F0 (PySem.W.mg_of X G a0) b0 sc_is_whole (by decide) (fun ds Q X h => by first | (obtain ⟨_, rfl, _⟩ := h; rfl) | (obtain ⟨_, _, rfl, _⟩ := h; rfl) | (obtain ⟨_, _, _, rfl, _⟩ := h; rfl) | (obtain ⟨_, _, _, _, rfl, _⟩ := h; rfl) | (obtain ⟨_, _, _, _, _, rfl, _⟩ := h; rfl)) (fun cdv A outer s H E hB => b_is_whole T  hB) obl_is_whole
  have C_are_letters : Cal l.prog w K mg base (clsL [C0, 0, 0, 0, 0, C5, 0, 0, 0, 0, 0, 0]) 1 "are_letters" S_are_letters := calD F1 (PySem.W.mg_of X G a1) b1 sc_are_letters (by decide) (fun ds Q X h => by first | (obtain ⟨_, rfl, _⟩ := h; rfl) | (obtain ⟨_, _, rfl, _⟩ := h; rfl) | (obtain ⟨_, _, _, rfl, _⟩ := h; rfl) | (obtain ⟨_, _, _, _, rfl, _⟩ := h; rfl) | (obtain ⟨_, _, _, _, _, rfl, _⟩ := h; rfl)) (fun cdv A outer s H E hB => b_are_letters T  hB) obl_are_letters
  have C_is_pair : Cal l.prog w K mg base (clsL [C0, 0, 0, 0, 0, C5, 0, 0, 0, 0, 0, 0]) 2 "is_pair" S_is_pair := calD F2 (PySem.W.mg_of X G a2) b2 sc_is_pair (by decide) (fun ds Q X h => by first | (obtain ⟨_, rfl, _⟩ := h; rfl) | (obtain ⟨_, _, rfl, _⟩ := h; rfl) | (obtain ⟨_, _, _, rfl, _⟩ := h; rfl) | (obtain ⟨_, _, _, _, rfl, _⟩ := h; rfl) | (obtain ⟨_, _, _, _, _, rfl, _⟩ := h; rfl)) (fun cdv A outer s H E hB => b_is_pair T C_are_letters C_is_whole hB) obl_is_pair
  have C_is_votes : Cal l.prog w K mg base (clsL [C0, 0, 0, 0, 0, C5, 0, 0, 0, 0, 0, 0]) 3 "is_votes" S_is_votes := calD F3 (PySem.W.mg_of X G a3) b3 sc_is_votes (by decide) (fun ds Q X h => by first | (obtain ⟨_, rfl, _⟩ := h; rfl) | (obtain ⟨_, _, rfl, _⟩ := h; rfl) | (obtain ⟨_, _, _, rfl, _⟩ := h; rfl) | (obtain ⟨_, _, _, _, rfl, _⟩ := h; rfl) | (obtain ⟨_, _, _, _, _, rfl, _⟩ := h; rfl)) (fun cdv A outer s H E hB => b_is_votes T C_is_pair C_is_whole hB) obl_is_votes
  have C_need_votes : Cal l.prog w K mg base (clsL [C0, 0, 0, 0, 0, C5, 0, 0, 0, 0, 0, 0]) 4 "need_votes" S_need_votes := calD F4 (PySem.W.mg_of X G a4) b4 sc_need_votes (by decide) (fun ds Q X h => by first | (obtain ⟨_, rfl, _⟩ := h; rfl) | (obtain ⟨_, _, rfl, _⟩ := h; rfl) | (obtain ⟨_, _, _, rfl, _⟩ := h; rfl) | (obtain ⟨_, _, _, _, rfl, _⟩ := h; rfl) | (obtain ⟨_, _, _, _, _, rfl, _⟩ := h; rfl)) (fun cdv A outer s H E hB => b_need_votes T C_is_votes hB) obl_need_votes
  have C_candidates_of : Cal l.prog w K mg base (clsL [C0, 0, 0, 0, 0, C5, 0, 0, 0, 0, 0, 0]) 1 "candidates_of" S_candidates_of := calD F5 (PySem.W.mg_of X G a5) b5 sc_candidates_of (by decide) (fun ds Q X h => by first | (obtain ⟨_, rfl, _⟩ := h; rfl) | (obtain ⟨_, _, rfl, _⟩ := h; rfl) | (obtain ⟨_, _, _, rfl, _⟩ := h; rfl) | (obtain ⟨_, _, _, _, rfl, _⟩ := h; rfl) | (obtain ⟨_, _, _, _, _, rfl, _⟩ := h; rfl)) (fun cdv A outer s H E hB => b_candidates_of T  hB) obl_candidates_of
  have C_counts_of : Cal l.prog w K mg base (clsL [C0, 0, 0, 0, 0, C5, 0, 0, 0, 0, 0, 0]) 1 "counts_of" S_counts_of := calD F6 (PySem.W.mg_of X G a6) b6 sc_counts_of (by decide) (fun ds Q X h => by first | (obtain ⟨_, rfl, _⟩ := h; rfl) | (obtain ⟨_, _, rfl, _⟩ := h; rfl) | (obtain ⟨_, _, _, rfl, _⟩ := h; rfl) | (obtain ⟨_, _, _, _, rfl, _⟩ := h; rfl) | (obtain ⟨_, _, _, _, _, rfl, _⟩ := h; rfl)) (fun cdv A outer s H E hB => b_counts_of T  hB) obl_counts_of
  have C_last_ones : CalR l.prog w K mg base (clsL [C0, 0, 0, 0, 0, C5, 0, 0, 0, 0, 0, 0]) 2 "last_ones" S_last_ones RL := calR F7 (PySem.W.mg_of X G a7) b7 sc_last_ones (by decide) rfl rfl (fun ds Q X h => by first | (obtain ⟨_, rfl, _⟩ := h; rfl) | (obtain ⟨_, _, rfl, _⟩ := h; rfl) | (obtain ⟨_, _, _, rfl, _⟩ := h; rfl) | (obtain ⟨_, _, _, _, rfl, _⟩ := h; rfl) | (obtain ⟨_, _, _, _, _, rfl, _⟩ := h; rfl)) (fun cdv A outer s H E hB => b_last_ones T C_counts_of hB) obl_last_ones
  have C_way_of : Cal l.prog w K mg base (clsL [C0, 0, 0, 0, 0, C5, 0, 0, 0, 0, 0, 0]) 3 "way_of" S_way_of := calD F8 (PySem.W.mg_of X G a8) b8 sc_way_of (by decide) (fun ds Q X h => by first | (obtain ⟨_, rfl, _⟩ := h; rfl) | (obtain ⟨_, _, rfl, _⟩ := h; rfl) | (obtain ⟨_, _, _, rfl, _⟩ := h; rfl) | (obtain ⟨_, _, _, _, rfl, _⟩ := h; rfl) | (obtain ⟨_, _, _, _, _, rfl, _⟩ := h; rfl)) (fun cdv A outer s H E hB => b_way_of T C_last_ones hB) obl_way_of
  have C_counts : Cal l.prog w K mg base (clsL [C0, 0, 0, 0, 0, C5, 0, 0, 0, 0, 0, 0]) 5 "counts" S_counts := calD F9 (PySem.W.mg_of X G a9) b9 sc_counts (by decide) (fun ds Q X h => by first | (obtain ⟨_, rfl, _⟩ := h; rfl) | (obtain ⟨_, _, rfl, _⟩ := h; rfl) | (obtain ⟨_, _, _, rfl, _⟩ := h; rfl) | (obtain ⟨_, _, _, _, rfl, _⟩ := h; rfl) | (obtain ⟨_, _, _, _, _, rfl, _⟩ := h; rfl)) (fun cdv A outer s H E hB => b_counts T C_are_letters C_candidates_of C_counts_of C_need_votes hB) obl_counts
  have C_rounds : Cal l.prog w K mg base (clsL [C0, 0, 0, 0, 0, C5, 0, 0, 0, 0, 0, 0]) 5 "rounds" S_rounds := calN F10 (PySem.W.mg_of X G a10) b10 sc_rounds (by decide) rfl rfl (fun ds Q X h => by first | (obtain ⟨_, rfl, _⟩ := h; rfl) | (obtain ⟨_, _, rfl, _⟩ := h; rfl) | (obtain ⟨_, _, _, rfl, _⟩ := h; rfl) | (obtain ⟨_, _, _, _, rfl, _⟩ := h; rfl) | (obtain ⟨_, _, _, _, _, rfl, _⟩ := h; rfl)) (fun cdv A outer s H E hB => b_rounds T C_candidates_of C_counts_of C_need_votes C_way_of hB) obl_rounds
  have C_way : Cal l.prog w K mg base (clsL [C0, 0, 0, 0, 0, C5, 0, 0, 0, 0, 0, 0]) 5 "way" S_way := calD F11 (PySem.W.mg_of X G a11) b11 sc_way (by decide) (fun ds Q X h => by first | (obtain ⟨_, rfl, _⟩ := h; rfl) | (obtain ⟨_, _, rfl, _⟩ := h; rfl) | (obtain ⟨_, _, _, rfl, _⟩ := h; rfl) | (obtain ⟨_, _, _, _, rfl, _⟩ := h; rfl) | (obtain ⟨_, _, _, _, _, rfl, _⟩ := h; rfl)) (fun cdv A outer s H E hB => b_way T C_candidates_of C_need_votes C_way_of hB) obl_way
  have C_winner_of : Cal l.prog w K mg base (clsL [C0, 0, 0, 0, 0, C5, 0, 0, 0, 0, 0, 0]) 4 "winner_of" S_winner_of := calD F12 (PySem.W.mg_of X G a12) b12 sc_winner_of (by decide) (fun ds Q X h => by first | (obtain ⟨_, rfl, _⟩ := h; rfl) | (obtain ⟨_, _, rfl, _⟩ := h; rfl) | (obtain ⟨_, _, _, rfl, _⟩ := h; rfl) | (obtain ⟨_, _, _, _, rfl, _⟩ := h; rfl) | (obtain ⟨_, _, _, _, _, rfl, _⟩ := h; rfl)) (fun cdv A outer s H E hB => b_winner_of T C_candidates_of C_way_of hB) obl_winner_of
  have C_winner : Cal l.prog w K mg base (clsL [C0, 0, 0, 0, 0, C5, 0, 0, 0, 0, 0, 0]) 5 "winner" S_winner := calD F13 (PySem.W.mg_of X G a13) b13 sc_winner (by decide) (fun ds Q X h => by first | (obtain ⟨_, rfl, _⟩ := h; rfl) | (obtain ⟨_, _, rfl, _⟩ := h; rfl) | (obtain ⟨_, _, _, rfl, _⟩ := h; rfl) | (obtain ⟨_, _, _, _, rfl, _⟩ := h; rfl) | (obtain ⟨_, _, _, _, _, rfl, _⟩ := h; rfl)) (fun cdv A outer s H E hB => b_winner T C_need_votes C_winner_of hB) obl_winner
  have C__law_drawn : Cal l.prog w K mg base (clsL [C0, 0, 0, 0, 0, C5, 0, 0, 0, 0, 0, 0]) 1 "_law_drawn" S__law_drawn := calD F14 (PySem.W.mg_of X G a14) b14 sc__law_drawn (by decide) (fun ds Q X h => by first | (obtain ⟨_, rfl, _⟩ := h; rfl) | (obtain ⟨_, _, rfl, _⟩ := h; rfl) | (obtain ⟨_, _, _, rfl, _⟩ := h; rfl) | (obtain ⟨_, _, _, _, rfl, _⟩ := h; rfl) | (obtain ⟨_, _, _, _, _, rfl, _⟩ := h; rfl)) (fun cdv A outer s H E hB => b__law_drawn T  hB) obl__law_drawn
  have R18 : FnOk l.prog w K mg base (L2N.CX l.prog w) 2 f18 _ ["_law_dice", "_law_many"] (spD (clsL [C0, 0, 0, 0, 0, C5, 0, 0, 0, 0, 0, 0]) S__law_roll) := okN F18 sc__law_roll (fun vs H Q E h => len_d (n := 2) (fun ds Q X h => by first | (obtain ⟨_, rfl, _⟩ := h; rfl) | (obtain ⟨_, _, rfl, _⟩ := h; rfl) | (obtain ⟨_, _, _, rfl, _⟩ := h; rfl) | (obtain ⟨_, _, _, _, rfl, _⟩ := h; rfl) | (obtain ⟨_, _, _, _, _, rfl, _⟩ := h; rfl)) h) (fun cdv A outer s H vs Q E hr h => ⟨tRoll K, b__law_roll C__law_drawn ⟨rfl, hr, L2N.takes_of rfl rfl rfl rfl, passes_of rfl⟩, roll_run rfl h⟩)
  have C__law_roll : Cal l.prog w K mg base (clsL [C0, 0, 0, 0, 0, C5, 0, 0, 0, 0, 0, 0]) 2 "_law_roll" S__law_roll := ⟨f18, _, ["_law_dice", "_law_many"], R18, PySem.W.mg_of X G a18, k18, b18⟩
  have C__law_any_ballot : Cal l.prog w K mg base (clsL [C0, 0, 0, 0, 0, C5, 0, 0, 0, 0, 0, 0]) 3 "_law_any_ballot" S__law_any_ballot := calD F15 (PySem.W.mg_of X G a15) b15 sc__law_any_ballot (by decide) (fun ds Q X h => by first | (obtain ⟨_, rfl, _⟩ := h; rfl) | (obtain ⟨_, _, rfl, _⟩ := h; rfl) | (obtain ⟨_, _, _, rfl, _⟩ := h; rfl) | (obtain ⟨_, _, _, _, rfl, _⟩ := h; rfl) | (obtain ⟨_, _, _, _, _, rfl, _⟩ := h; rfl)) (fun cdv A outer s H E hB => b__law_any_ballot T C__law_roll hB) obl__law_any_ballot
  have C__law_any_votes : CalR l.prog w K mg base (clsL [C0, 0, 0, 0, 0, C5, 0, 0, 0, 0, 0, 0]) 4 "_law_any_votes" S__law_any_votes RT := calT F16 (PySem.W.mg_of X G a16) b16 sc__law_any_votes (by decide) rfl rfl (fun ds Q X h => by first | (obtain ⟨_, rfl, _⟩ := h; rfl) | (obtain ⟨_, _, rfl, _⟩ := h; rfl) | (obtain ⟨_, _, _, rfl, _⟩ := h; rfl) | (obtain ⟨_, _, _, _, rfl, _⟩ := h; rfl) | (obtain ⟨_, _, _, _, _, rfl, _⟩ := h; rfl)) (fun cdv A outer s H E hB => b__law_any_votes T C__law_any_ballot C__law_roll hB) obl__law_any_votes
  have C__law_merged : Cal l.prog w K mg base (clsL [C0, 0, 0, 0, 0, C5, 0, 0, 0, 0, 0, 0]) 1 "_law_merged" S__law_merged := calD F17 (PySem.W.mg_of X G a17) b17 sc__law_merged (by decide) (fun ds Q X h => by first | (obtain ⟨_, rfl, _⟩ := h; rfl) | (obtain ⟨_, _, rfl, _⟩ := h; rfl) | (obtain ⟨_, _, _, rfl, _⟩ := h; rfl) | (obtain ⟨_, _, _, _, rfl, _⟩ := h; rfl) | (obtain ⟨_, _, _, _, _, rfl, _⟩ := h; rfl)) (fun cdv A outer s H E hB => b__law_merged T  hB) obl__law_merged
  have R19 : FnOk l.prog w K mg base (L2N.CX l.prog w) 1 f19 _ ["_law_script", "_law_k"] (spCellL K) := okN F19 sc__law_cell (fun vs H Q E ⟨a, ns, k, h, _⟩ => by rw [h]; rfl) (fun cdv A outer s H vs Q E hr h => ⟨tCellL K, b__law_cell T (cls := (clsL [C0, 0, 0, 0, 0, C5, 0, 0, 0, 0, 0, 0])) ⟨rfl, hr, L2N.takes_of rfl rfl rfl rfl, passes_of rfl⟩, cell_runL h⟩)
  have R20 : FnOk l.prog w K mg base (L2N.CX l.prog w) 2 f20 _ ["_law_script", "_law_most"] (spRounds K) := okN F20 sc__law_rounds (fun vs H Q E ⟨a, ns, k, h, _⟩ => by rw [h]; rfl) (fun cdv A outer s H vs Q E hr h => ⟨tRounds K _, b__law_rounds T (cls := (clsL [C0, 0, 0, 0, 0, C5, 0, 0, 0, 0, 0, 0])) R19 (PySem.W.mg_of X G a19) k19 b19 ⟨rfl, hr, L2N.takes_of rfl rfl rfl rfl, passes_of rfl⟩, rounds_run rfl h⟩)
  refine fn_of l21 c21 sc_law (fun vs H Q E ⟨a, ns, h, _⟩ => by rw [h]; rfl) (fun A outer s H vs Q E hr h => ⟨_, b_law (cls := (clsL [C0, 0, 0, 0, 0, C5, 0, 0, 0, 0, 0, 0])) T C__law_any_votes C__law_merged C_counts C_rounds C_way C_winner R20 (PySem.W.mg_of X G a20) k20 b20  ⟨rfl, hr, L2N.takes_of rfl rfl rfl rfl, passes_of rfl⟩, law_run (by decide) (by decide) h obl_law⟩)
end PW
open PySem PySem.W PyProof.Rows in
set_option maxRecDepth 100000 in
set_option maxHeartbeats 0 in
theorem PySem.Challenge.cw_lastout_k18_whole_cut_ballots_holds : PySem.Challenge.rw_lastout_k18_whole_cut_ballots.Holds := by
  w_on; o_law; k_head; (case hw => w_witness2)
  k_fill
  refine LamX.walk_ofTs (n := 63) (k := 13) (x := "_law_script") (CX := fun w => L2N.CX PySem.Challenge.rw_lastout_k18_whole_cut_ballots.prog w) rfl (by decide) rfl ⟨rfl, by decide, by decide⟩ (fun w h Y => PySem.W.kIn_of Y) ?F ?G
  case G =>
    rintro w H s e s' ⟨_, _, _, _, _, _, _, _, _, _, _, _, z⟩
    exact z
  case F =>
    intro w mg fa h Y KX G hmg
    refine' PW.all_mk KX G hmg ?a0 ?l0 ?c0 ?k0 ?a1 ?l1 ?c1 ?k1 ?a2 ?l2 ?c2 ?k2 ?a3 ?l3 ?c3 ?k3 ?a4 ?l4 ?c4 ?k4 ?a5 ?l5 ?c5 ?k5 ?a6 ?l6 ?c6 ?k6 ?a7 ?l7 ?c7 ?k7 ?a8 ?l8 ?c8 ?k8 ?a9 ?l9 ?c9 ?k9 ?a10 ?l10 ?c10 ?k10 ?a11 ?l11 ?c11 ?k11 ?a12 ?l12 ?c12 ?k12 ?a13 ?l13 ?c13 ?k13 ?a14 ?l14 ?c14 ?k14 ?a15 ?l15 ?c15 ?k15 ?a16 ?l16 ?c16 ?k16 ?a17 ?l17 ?c17 ?k17 ?a18 ?l18 ?c18 ?k18 ?a19 ?l19 ?c19 ?k19 ?a20 ?l20 ?c20 ?k20 ?a21 ?l21 ?c21 ?k21 ?z_ValueError ?z_all ?z_any ?z_bool ?z_enumerate ?z_int ?z_isinstance ?z_len ?z_list ?z_max ?z_min ?z_range ?z_set ?z_str ?z_sum ?z_tuple ?n_LETTERS ?e0 ?e5 ?q_InvalidVotes ?k_InvalidVotes ?s_InvalidVotes ?t_InvalidVotes ?q_InvalidCandidates ?k_InvalidCandidates ?s_InvalidCandidates ?t_InvalidCandidates
    (case a0 => k_is)
    (case l0 => k_is)
    (case c0 => k_is)
    (case k0 => k_is)
    (case a1 => k_is)
    (case l1 => k_is)
    (case c1 => k_is)
    (case k1 => k_is)
    (case a2 => k_is)
    (case l2 => k_is)
    (case c2 => k_is)
    (case k2 => k_is)
    (case a3 => k_is)
    (case l3 => k_is)
    (case c3 => k_is)
    (case k3 => k_is)
    (case a4 => k_is)
    (case l4 => k_is)
    (case c4 => k_is)
    (case k4 => k_is)
    (case a5 => k_is)
    (case l5 => k_is)
    (case c5 => k_is)
    (case k5 => k_is)
    (case a6 => k_is)
    (case l6 => k_is)
    (case c6 => k_is)
    (case k6 => k_is)
    (case a7 => k_is)
    (case l7 => k_is)
    (case c7 => k_is)
    (case k7 => k_is)
    (case a8 => k_is)
    (case l8 => k_is)
    (case c8 => k_is)
    (case k8 => k_is)
    (case a9 => k_is)
    (case l9 => k_is)
    (case c9 => k_is)
    (case k9 => k_is)
    (case a10 => k_is)
    (case l10 => k_is)
    (case c10 => k_is)
    (case k10 => k_is)
    (case a11 => k_is)
    (case l11 => k_is)
    (case c11 => k_is)
    (case k11 => k_is)
    (case a12 => k_is)
    (case l12 => k_is)
    (case c12 => k_is)
    (case k12 => k_is)
    (case a13 => k_is)
    (case l13 => k_is)
    (case c13 => k_is)
    (case k13 => k_is)
    (case a14 => k_is)
    (case l14 => k_is)
    (case c14 => k_is)
    (case k14 => k_is)
    (case a15 => k_is)
    (case l15 => k_is)
    (case c15 => k_is)
    (case k15 => k_is)
    (case a16 => k_is)
    (case l16 => k_is)
    (case c16 => k_is)
    (case k16 => k_is)
    (case a17 => k_is)
    (case l17 => k_is)
    (case c17 => k_is)
    (case k17 => k_is)
    (case a18 => k_is)
    (case l18 => k_is)
    (case c18 => k_is)
    (case k18 => k_is)
    (case a19 => k_is)
    (case l19 => k_is)
    (case c19 => k_is)
    (case k19 => k_is)
    (case a20 => k_is)
    (case l20 => k_is)
    (case c20 => k_is)
    (case k20 => k_is)
    (case a21 => k_is)
    (case l21 => k_is)
    (case c21 => k_is)
    (case k21 => k_is)
    (case z_ValueError => k_is)
    (case z_all => k_is)
    (case z_any => k_is)
    (case z_bool => k_is)
    (case z_enumerate => k_is)
    (case z_int => k_is)
    (case z_isinstance => k_is)
    (case z_len => k_is)
    (case z_list => k_is)
    (case z_max => k_is)
    (case z_min => k_is)
    (case z_range => k_is)
    (case z_set => k_is)
    (case z_str => k_is)
    (case z_sum => k_is)
    (case z_tuple => k_is)
    (case n_LETTERS => k_is)
    (case e0 => k_is)
    (case e5 => k_is)
    (case q_InvalidVotes => kernel_rfl)
    (case k_InvalidVotes => k_is)
    (case s_InvalidVotes => k_is)
    (case t_InvalidVotes => k_is)
    (case q_InvalidCandidates => kernel_rfl)
    (case k_InvalidCandidates => k_is)
    (case s_InvalidCandidates => k_is)
    (case t_InvalidCandidates => k_is)
