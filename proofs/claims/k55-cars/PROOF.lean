import PyProof.Rows.All
import PySem.PyData
import PySem.Builtin.Int.W1All
import HandS.ForMost
import HandS.Lambda
import HandS.CallSlots
import HandS.ExcOwn
import HandS.WordsExc
import HandS.Walk
import HandS.Zip
import KE.GoesEnum
import HandS.TupAny
import HandS.TupMul
import HandS.IsInst
import HandS.Text
import HandS.SortInts
import HandS.OwnEq
import HandS.TryMany
import HandS.Dict
import PyProof.TupleOfGen
import PyProof.TupleOfSeq
import PyProof.CollectStr
import HandS.SortOrd
import HandS.Conv
import KE.KNest
import HandS.EndOwn
import KE.KTupSum
import KE.DataMinMax
import KE.DataFind
import HandS.Deep
import HandS.Strs
import HandS.Style
import KE.KRevSl
import HandS.ExcIs
import HandS.Wide
import PyProof.Rows.SetFrom
import PyProof.SetRoads
import HandS.ExcInit
import HandS.ExcField
import PyProof.ReprRoads
import PyProof.ReprLen
import HandS.RaiseMore
import HandS.EndTab
import PyProof.ListStr
import PySem.Challenge.RW_lendalong_k55_whole_cars_park
set_option linter.all false
/-! VI0: values as trees, what the operations give, expressions and statements as pure runs. No program, no heap. -/
namespace VI
open PySem

abbrev KeyT := Sum Int Str
/-- a value as a tree; lists, dicts and instances bear a flag: true where the cell is owned (may be changed) -/
inductive Val where
  | non | bl (b : Bool) | int (i : Int) | str (s : Str)
  | tup (vs : List Val)
  | lst (o : Bool) (vs : List Val)
  | dic (o : Bool) (ks : List KeyT) (vs : List Val)
  | ins (o : Bool) (c : Nat) (fs : List Str) (vs : List Val)
  | fn (f : Nat)
  | ty (n : String)
  deriving Inhabited

/-! ### freezing -/
mutual
def fz : Val → Val
  | .non => .non
  | .bl b => .bl b
  | .int i => .int i
  | .str s => .str s
  | .tup vs => .tup (fzL vs)
  | .lst _ vs => .lst false (fzL vs)
  | .dic _ ks vs => .dic false ks (fzL vs)
  | .ins _ c fs vs => .ins false c fs (fzL vs)
  | .fn f => .fn f
  | .ty n => .ty n
def fzL : List Val → List Val
  | [] => []
  | v :: vs => fz v :: fzL vs
end
mutual
def isFz : Val → Bool
  | .non => true
  | .bl _ => true
  | .int _ => true
  | .str _ => true
  | .tup vs => isFzL vs
  | .lst o vs => !o && isFzL vs
  | .dic o _ vs => !o && isFzL vs
  | .ins o _ _ vs => !o && isFzL vs
  | .fn _ => true
  | .ty _ => true
def isFzL : List Val → Bool
  | [] => true
  | v :: vs => isFz v && isFzL vs
end

/-! ### environments, results -/
abbrev En := List (Option Val)
/-- an expression's value: a slot's (peeked at), or one of its own -/
inductive OV where
  | pk (i : Nat) | val (x : Val)
  deriving Inhabited
structure Exc where
  c : Nat
  fs : List Str
  vs : List Val
inductive Res (α : Type) where
  | ok (a : α) (e : En) | exc (x : Exc) (e : En) | bad
def Res.bind {α β : Type} : Res α → (α → En → Res β) → Res β
  | .ok a e, k => k a e
  | .exc x e, _ => .exc x e
  | .bad, _ => .bad
def slot (e : En) (i : Nat) : Option Val := (e[i]?).join
def OV.get : OV → En → Option Val
  | .pk i, e => slot e i
  | .val x, _ => some x
/-- taken to be kept: a slot's value is frozen -/
def OV.take : OV → En → Option (Val × En)
  | .pk i, e => (slot e i).map fun x => (fz x, e.set i (some (fz x)))
  | .val x, e => some (x, e)
/-- .. put into a container: frozen -/
def OV.takeF : OV → En → Option (Val × En)
  | .pk i, e => (slot e i).map fun x => (fz x, e.set i (some (fz x)))
  | .val x, e => some (fz x, e)

abbrev C := En → Res OV
abbrev CB := En → Res Bool

/-! ### expressions -/
def cV (x : Val) : C := fun e => .ok (.val x) e
def cN (i : Nat) : C := fun e => match slot e i with
  | some _ => .ok (.pk i) e
  | none => .bad
def liftO (o : Option Val) (e : En) : Res OV := match o with
  | some z => .ok (.val z) e
  | none => .bad
def c1 (f : Val → Option Val) (a : C) : C := fun e => (a e).bind fun u e1 => liftO ((u.get e1).bind f) e1
def c2 (f : Val → Val → Option Val) (a b : C) : C := fun e => (a e).bind fun u e1 => (b e1).bind fun w e2 =>
  liftO ((u.get e2).bind fun x => (w.get e2).bind fun y => f x y) e2
/-- several, from the left -/
def cs : List C → En → Res (List OV)
  | [], e => .ok [] e
  | a :: r, e => (a e).bind fun u e1 => (cs r e1).bind fun us e2 => .ok (u :: us) e2
def gets : List OV → En → Option (List Val)
  | [], _ => some []
  | u :: us, e => (u.get e).bind fun x => (gets us e).map (x :: ·)
def cB (f : List Val → Option Val) (as : List C) : C := fun e => (cs as e).bind fun us e1 => liftO ((gets us e1).bind f) e1
/-- all taken and frozen, from the left -/
def takesF : List OV → En → Option (List Val × En)
  | [], e => some ([], e)
  | u :: us, e => (u.takeF e).bind fun (x, e1) => (takesF us e1).map fun (xs, e2) => (x :: xs, e2)
def takes : List OV → En → Option (List Val × En)
  | [], e => some ([], e)
  | u :: us, e => (u.take e).bind fun (x, e1) => (takes us e1).map fun (xs, e2) => (x :: xs, e2)
/-- a display: what is in it is frozen -/
def cTup (as : List C) : C := fun e => (cs as e).bind fun us e1 => match takesF us e1 with
  | some (xs, e2) => .ok (.val (.tup xs)) e2
  | none => .bad
def cLst (as : List C) : C := fun e => (cs as e).bind fun us e1 => match takesF us e1 with
  | some (xs, e2) => .ok (.val (.lst true xs)) e2
  | none => .bad
/-- a tuple whose parts stay owned (to be unpacked at once) -/
def cTupO (as : List C) : C := fun e => (cs as e).bind fun us e1 => match takes us e1 with
  | some (xs, e2) => .ok (.val (.tup xs)) e2
  | none => .bad
def cLstO (as : List C) : C := fun e => (cs as e).bind fun us e1 => match takes us e1 with
  | some (xs, e2) => .ok (.val (.lst true xs)) e2
  | none => .bad

/-! ### tests -/
def truV : Val → Option Bool
  | .non => some false
  | .bl b => some b
  | .int i => some (i != 0)
  | .str s => some (s.cps.size != 0)
  | .tup vs => some (!vs.isEmpty)
  | .lst _ vs => some (!vs.isEmpty)
  | .dic _ ks _ => some (!ks.isEmpty)
  | _ => none
/-- a bool as a test -/
def tB (a : C) : CB := fun e => (a e).bind fun u e1 => match u.get e1 with
  | some (.bl b) => .ok b e1
  | _ => .bad
def tNot (a : CB) : CB := fun e => (a e).bind fun b e1 => .ok (!b) e1
def tAnd (a b : CB) : CB := fun e => (a e).bind fun x e1 => if x then b e1 else .ok false e1
def tOr (a b : CB) : CB := fun e => (a e).bind fun x e1 => if x then .ok true e1 else b e1
def cIf (t : CB) (a b : C) : C := fun e => (t e).bind fun x e1 => if x then a e1 else b e1
/-- bools by and, or, not, as values -/
def cAnd (a b : C) : C := fun e => (a e).bind fun u e1 => match u.get e1 with
  | some (.bl true) => b e1
  | some (.bl false) => .ok (.val (.bl false)) e1
  | _ => .bad
def cOr (a b : C) : C := fun e => (a e).bind fun u e1 => match u.get e1 with
  | some (.bl true) => .ok (.val (.bl true)) e1
  | some (.bl false) => b e1
  | _ => .bad
/-- a < b < c -/
def cCh (f g : Val → Val → Option Val) (a b c : C) : C := fun e => (a e).bind fun u e1 => (b e1).bind fun w e2 =>
  match (u.get e2).bind fun x => (w.get e2).bind fun y => f x y with
  | some (.bl true) => (c e2).bind fun z e3 => liftO ((w.get e3).bind fun y => (z.get e3).bind fun v => g y v) e3
  | some (.bl false) => .ok (.val (.bl false)) e2
  | _ => .bad

/-! ### calls -/
inductive CRes where
  | ok (r : Val) (outs : List (Nat × Val)) | exc (x : Exc) (outs : List (Nat × Val)) | bad
abbrev Call := Nat → List Val → CRes
inductive Arg where
  | v (c : C) | r (i : Nat)
inductive AV where
  | v (o : OV) | r (i : Nat)
def evArgs : List Arg → En → Res (List AV)
  | [], e => .ok [] e
  | .v c :: as, e => (c e).bind fun u e1 => (evArgs as e1).bind fun us e2 => .ok (.v u :: us) e2
  | .r i :: as, e => match slot e i with
    | some _ => (evArgs as e).bind fun us e2 => .ok (.r i :: us) e2
    | none => .bad
def takeArgs : List AV → En → Option (List Val × En)
  | [], e => some ([], e)
  | .v u :: us, e => (u.take e).bind fun (x, e1) => (takeArgs us e1).map fun (xs, e2) => (x :: xs, e2)
  | .r i :: us, e => (slot e i).bind fun x => (takeArgs us (e.set i none)).map fun (xs, e2) => (x :: xs, e2)
/-- what was lent comes back -/
def putOuts : Nat → List AV → List (Nat × Val) → En → Option En
  | _, [], _, e => some e
  | p, .v _ :: us, outs, e => putOuts (p + 1) us outs e
  | p, .r i :: us, outs, e => (outs.lookup p).bind fun x => putOuts (p + 1) us outs (e.set i (some x))
def cCall (call : Call) (f : Nat) (as : List Arg) : C := fun e => (evArgs as e).bind fun us e1 => match takeArgs us e1 with
  | some (xs, e2) => match call f xs with
    | .ok r outs => match putOuts 0 us outs e2 with
      | some e3 => .ok (.val r) e3
      | none => .bad
    | .exc x outs => match putOuts 0 us outs e2 with
      | some e3 => .exc x e3
      | none => .bad
    | .bad => .bad
  | none => .bad

/-! ### targets -/
inductive Tg where
  | n (i : Nat) | t (gs : List Tg)
mutual
def Tg.slots : Tg → List Nat
  | .n i => [i]
  | .t gs => slotsL gs
def slotsL : List Tg → List Nat
  | [] => []
  | g :: gs => g.slots ++ slotsL gs
end
mutual
/-- pins: slots that are never stored anew (parameters lent) -/
def asg (pins : List Nat) : Tg → Val → En → Option En
  | .n i, x, e => if pins.contains i then none else if i < e.length then some (e.set i (some x)) else none
  | .t gs, .tup xs, e => asgL pins gs xs e
  | .t _, _, _ => none
def asgL (pins : List Nat) : List Tg → List Val → En → Option En
  | [], [], e => some e
  | g :: gs, x :: xs, e => (asg pins g x e).bind fun e1 => asgL pins gs xs e1
  | _, _, _ => none
end

/-! ### what is walked -/
abbrev CI := En → Res (List Val)
def seqItems : Val → Option (List Val)
  | .lst _ vs => some vs
  | .tup vs => some vs
  | _ => none
/-- for x in e: e is frozen -/
def iSeq (a : C) : CI := fun e => (a e).bind fun u e1 => match u.takeF e1 with
  | some (x, e2) => match seqItems x with
    | some xs => .ok xs e2
    | none => .bad
  | none => .bad
def rngV (lo : Int) : Nat → List Val
  | 0 => []
  | n + 1 => .int lo :: rngV (lo + 1) n
def big : Int := 4611686018427387904
def most : Nat := 16777216
def rngOk (lo hi : Int) : Bool := decide (-big ≤ lo ∧ lo < big ∧ -big ≤ hi ∧ hi < big ∧ hi - lo ≤ 16777216)
def iRng (as : List C) : CI := fun e => (cs as e).bind fun us e1 => match gets us e1 with
  | some [.int hi] => if rngOk 0 hi then .ok (rngV 0 hi.toNat) e1 else .bad
  | some [.int lo, .int hi] => if rngOk lo hi then .ok (rngV lo (hi - lo).toNat) e1 else .bad
  | _ => .bad
def enum (k : Int) : List Val → List Val
  | [] => []
  | x :: xs => .tup [.int k, x] :: enum (k + 1) xs
def iEnu (a : C) : CI := fun e => (iSeq a e).bind fun xs e1 => .ok (enum 0 xs) e1
def zipV : List Val → List Val → List Val
  | x :: xs, y :: ys => .tup [x, y] :: zipV xs ys
  | _, _ => []
def iZip (a b : C) : CI := fun e => (a e).bind fun u e1 => (b e1).bind fun w e2 => match u.takeF e2 with
  | some (x, e3) => match w.takeF e3 with
    | some (y, e4) => match seqItems x, seqItems y with
      | some xs, some ys => .ok (zipV xs ys) e4
      | _, _ => .bad
    | none => .bad
  | none => .bad
def signs : List Nat → List Val
  | [] => []
  | c :: r => .str ⟨#[c]⟩ :: signs r
def iStr (a : C) : CI := fun e => (a e).bind fun u e1 => match u.get e1 with
  | some (.str s) => if decide (s.cps.size ≤ most) then .ok (signs s.cps.toList) e1 else .bad
  | _ => .bad

/-! ### comprehensions -/
def wipeE (vs : List Nat) (e : En) : En := vs.foldr (fun i e => e.set i none) e
/-- what a frozen slot held -/
def oldV (old : En) (i : Nat) : Option Val := match slot old i with
  | some x => if isFz x then some x else none
  | none => none
def unwipe : List Nat → En → En → En
  | [], _, e => e
  | v :: vs, old, e => unwipe vs old (e.set v (oldV old v))
def lcLoop (tg : Tg) (t : CB) (el : C) (vs : List Nat) : List Val → List Val → En → Res (List Val)
  | [], acc, e => .ok acc e
  | x :: xs, acc, e => match asg [] tg x e with
    | none => .bad
    | some e1 => match t e1 with
      | .ok true e2 => match el e2 with
        | .ok u e3 => match u.takeF e3 with
          | some (y, e4) => lcLoop tg t el vs xs (acc ++ [y]) (wipeE vs e4)
          | none => .bad
        | _ => .bad
      | .ok false e2 => lcLoop tg t el vs xs acc (wipeE vs e2)
      | _ => .bad
/-- [el for tg in it if t]; vs: the slots of its own names -/
def cLC (it : CI) (tg : Tg) (t : CB) (el : C) (vs : List Nat) : C := fun e => (it e).bind fun xs e1 =>
  match lcLoop tg t el vs xs [] (wipeE vs e1) with
  | .ok ys e2 => .ok (.val (.lst true ys)) (unwipe vs e1 e2)
  | _ => .bad
def tYes : CB := fun e => .ok true e

/-! ### statements -/
inductive SRes where
  | nx (e : En) | rt (x : Val) (e : En) | bk (e : En) | ct (e : En) | exc (x : Exc) (e : En) | bad
abbrev S := En → SRes
def Res.toS {α : Type} : Res α → (α → En → SRes) → SRes
  | .ok a e, k => k a e
  | .exc x e, _ => .exc x e
  | .bad, _ => .bad
def sSeq : List S → S
  | [], e => .nx e
  | s :: r, e => match s e with
    | .nx e1 => sSeq r e1
    | q => q
def sIf (t : CB) (a b : S) : S := fun e => (t e).toS fun x e1 => if x then a e1 else b e1
def sAsg (pins : List Nat) (tg : Tg) (a : C) : S := fun e => (a e).toS fun u e1 => match u.take e1 with
  | some (x, e2) => match asg pins tg x e2 with
    | some e3 => .nx e3
    | none => .bad
  | none => .bad
def sRet (pins : List Nat) (a : C) : S := fun e => (a e).toS fun u e1 => match u with
  | .val x => .rt x e1
  | .pk i => match slot e1 i with
    | some x => if pins.contains i then .rt (fz x) (e1.set i (some (fz x))) else .rt x (e1.set i none)
    | none => .bad
def sExp (a : C) : S := fun e => (a e).toS fun _ e1 => .nx e1
def sNop : S := fun e => .nx e
def sBrk : S := fun e => .bk e
def sCnt : S := fun e => .ct e
def sBad : S := fun _ => .bad
/-- target op= e, of a name -/
def sAug (pins : List Nat) (i : Nat) (f : Val → Val → Option Val) (a : C) : S := fun e => match slot e i with
  | none => .bad
  | some _ => (a e).toS fun u e1 => match (slot e1 i).bind fun x => (u.get e1).bind fun y => f x y with
    | some z => if pins.contains i then .bad else .nx (e1.set i (some z))
    | none => .bad
/-- behind a turn -/
def loopStep (r : SRes) (k : En → SRes) : SRes := match r with
  | .nx e => k e
  | .ct e => k e
  | .bk e => .nx e
  | q => q
def forLoop (pins : List Nat) (tg : Tg) (body : S) : List Val → En → SRes
  | [], e => .nx e
  | x :: xs, e => match asg pins tg x e with
    | none => .bad
    | some e1 => loopStep (body e1) (forLoop pins tg body xs)
def sFor (pins : List Nat) (it : CI) (tg : Tg) (body : S) : S := fun e => (it e).toS fun xs e1 => forLoop pins tg body xs e1
def whLoop (t : CB) (body : S) : Nat → En → SRes
  | 0, _ => .bad
  | n + 1, e => (t e).toS fun b e1 => if b then loopStep (body e1) (whLoop t body n) else .nx e1
def turns : Nat := 1000000000000000000000000
def sWh (t : CB) (body : S) : S := fun e => whLoop t body turns e
/-- raise X(a, ..) -/
def sRaise (c : Nat) (fs : List Str) (as : List C) : S := fun e => (cs as e).toS fun us e1 => match takesF us e1 with
  | some (xs, e2) => .exc ⟨c, fs, xs⟩ e2
  | none => .bad

/-! ### defs -/
structure FDef where
  np : Nat
  n : Nat
  refs : List Nat
  body : Call → S
def outsOf : List Nat → En → Option (List (Nat × Val))
  | [], _ => some []
  | i :: r, e => (slot e i).bind fun x => (outsOf r (e.set i none)).map ((i, x) :: ·)
def startE (fd : FDef) (as : List Val) : En := as.map some ++ List.replicate (fd.n - as.length) none
def runDef (fd : FDef) (call : Call) (as : List Val) : CRes :=
  if as.length = fd.np then
    match fd.body call (startE fd as) with
    | .rt x e => match outsOf fd.refs e with
      | some o => .ok x o
      | none => .bad
    | .nx e => match outsOf fd.refs e with
      | some o => .ok .non o
      | none => .bad
    | .exc x e => match outsOf fd.refs e with
      | some o => .exc x o
      | none => .bad
    | _ => .bad
  else .bad
def callN (P : Nat → Option FDef) : Nat → Call
  | 0, _, _ => .bad
  | d + 1, f, as => match P f with
    | some fd => runDef fd (callN P d) as
    | none => .bad
end VI
set_option linter.all false
/-! VJ: what the operations give, on trees. -/
namespace VI
open PySem

/-! ### numbers -/
def lim64 : Int := 18446744073709551616
def addV : Val → Val → Option Val
  | .int a, .int b => some (.int (a + b))
  | .str a, .str b => if decide (a.length + b.length ≤ most) then some (.str (a ++ b)) else none
  | .tup xs, .tup ys => if isFzL xs && isFzL ys && decide (xs.length + ys.length ≤ most) then some (.tup (xs ++ ys)) else none
  | .lst true xs, .lst true ys => if isFzL xs && isFzL ys && decide (xs.length + ys.length ≤ most) then some (.lst true (xs ++ ys)) else none
  | _, _ => none
def subV : Val → Val → Option Val
  | .int a, .int b => some (.int (a - b))
  | _, _ => none
def small64 (a : Int) : Bool := decide (-lim64 < a ∧ a < lim64)
def rep {α : Type} (xs : List α) : Nat → List α
  | 0 => []
  | n + 1 => xs ++ rep xs n
def mulV : Val → Val → Option Val
  | .int a, .int b => if small64 a || small64 b then some (.int (a * b)) else none
  | .lst true xs, .int k => if isFzL xs && decide (k ≤ 1000 ∧ xs.length ≤ 1000 ∧ -1000 ≤ k) then some (.lst true (rep xs k.toNat)) else none
  | .tup xs, .int k => if isFzL xs && decide (k ≤ 1000 ∧ xs.length ≤ 1000 ∧ 2 ≤ k ∧ xs ≠ []) then some (.tup (rep xs k.toNat)) else none
  | _, _ => none
def fdivV : Val → Val → Option Val
  | .int a, .int b => if decide (b ≠ 0 ∧ b.natAbs < 1073741824) then some (.int (a.fdiv b)) else none
  | _, _ => none
def modV : Val → Val → Option Val
  | .int a, .int b => if decide (b ≠ 0) then some (.int (a.fmod b)) else none
  | _, _ => none
def powV : Val → Val → Option Val
  | .int a, .int b => if decide (0 ≤ b ∧ b ≤ 1000000 ∧ a.natAbs < 18446744073709551616) then some (.int (a ^ b.toNat)) else none
  | _, _ => none
def negV : Val → Option Val
  | .int a => some (.int (-a))
  | _ => none
/-- only the last bit -/
def andV : Val → Val → Option Val
  | .int a, .int b => some (.int (Builtin.bitAnd a b))
  | _, _ => none
/-! ### order -/
def ltV : Val → Val → Option Val
  | .int a, .int b => some (.bl (decide (a < b)))
  | _, _ => none
def leV : Val → Val → Option Val
  | .int a, .int b => some (.bl (decide (a ≤ b)))
  | _, _ => none
def gtV : Val → Val → Option Val
  | .int a, .int b => some (.bl (decide (b < a)))
  | _, _ => none
def geV : Val → Val → Option Val
  | .int a, .int b => some (.bl (decide (b ≤ a)))
  | _, _ => none
/-! ### equality of data -/
mutual
def toD : Val → Option PyData
  | .non => some .none
  | .bl b => some (.bool b)
  | .int i => some (.int i)
  | .str s => some (.str s)
  | .tup vs => (toDs vs).map .tuple
  | .lst _ vs => (toDs vs).map .list
  | _ => none
def toDs : List Val → Option (List PyData)
  | [] => some []
  | v :: vs => (toD v).bind fun d => (toDs vs).map (d :: ·)
end
def b2I (b : Bool) : Int := if b then 1 else 0
mutual
/-- == of data without dicts -/
def eqV0 : Val → Val → Bool
  | .non, y => match y with
    | .non => true
    | _ => false
  | .bl a, y => match y with
    | .bl b => a == b
    | .int b => b2I a == b
    | _ => false
  | .int a, y => match y with
    | .bl b => a == b2I b
    | .int b => a == b
    | _ => false
  | .str a, y => match y with
    | .str b => a == b
    | _ => false
  | .tup xs, y => match y with
    | .tup ys => eqVs xs ys
    | _ => false
  | .lst _ xs, y => match y with
    | .lst _ ys => eqVs xs ys
    | _ => false
  | _, _ => false
def eqVs : List Val → List Val → Bool
  | [], ys => match ys with
    | [] => true
    | _ :: _ => false
  | x :: xs, ys => match ys with
    | [] => false
    | y :: ys => eqV0 x y && eqVs xs ys
end
mutual
def depthV : Val → Nat
  | .tup vs => depthVs vs + 1
  | .lst _ vs => depthVs vs + 1
  | .non => 0
  | .bl _ => 0
  | .int _ => 0
  | .str _ => 0
  | _ => 1000
def depthVs : List Val → Nat
  | [] => 0
  | v :: vs => max (depthV v) (depthVs vs)
end
def okS (x : Str) : Bool := x.cps.all (· < 0x110000)
mutual
def okV : Val → Bool
  | .str s => okS s
  | .tup vs => okVs vs
  | .lst _ vs => okVs vs
  | .non => true
  | .bl _ => true
  | .int _ => true
  | _ => false
def okVs : List Val → Bool
  | [] => true
  | v :: vs => okV v && okVs vs
end
def isD (v : Val) : Bool := decide (depthV v ≤ 60) && okV v
def eqD (x y : Val) : Option Val := if isD x && isD y then some (.bl (eqV0 x y)) else none
def neD (x y : Val) : Option Val := if isD x && isD y then some (.bl (!eqV0 x y)) else none
def isNon : Val → Bool
  | .non => true
  | _ => false
def isV (x y : Val) : Option Val := if isNon y then some (.bl (isNon x)) else none
def isNotV (x y : Val) : Option Val := if isNon y then some (.bl (!isNon x)) else none
def flatB : Val → Bool
  | .non => true
  | .bl _ => true
  | .int _ => true
  | .str _ => true
  | _ => false
def inL (x : Val) (xs : List Val) : Bool := xs.any fun y => eqV0 y x
def inV (x y : Val) : Option Val := match seqItems y with
  | some xs => if flatB x && xs.all flatB then some (.bl (inL x xs)) else none
  | none => none
def notInV (x y : Val) : Option Val := match seqItems y with
  | some xs => if flatB x && xs.all flatB then some (.bl (!inL x xs)) else none
  | none => none
/-- one sign in a text -/
def inS : Val → Val → Option Val
  | .str a, .str b => if decide (a.cps.size = 1) then some (.bl (b.cps.toList.contains (a.cps.getD 0 0))) else none
  | _, _ => none
/-! ### places -/
def place (n : Nat) (i : Int) : Option Nat := if 0 ≤ i then (if i < n then some i.toNat else none) else (if -(n : Int) ≤ i then some (i + n).toNat else none)
def subsV : Val → Val → Option Val
  | .lst _ xs, .int i => ((place xs.length i).bind fun j => xs[j]?).bind fun x => if isFz x then some x else none
  | .tup xs, .int i => ((place xs.length i).bind fun j => xs[j]?).bind fun x => if isFz x then some x else none
  | .str s, .int i => if decide (s.cps.size ≤ most) then ((place s.cps.size i).bind fun j => s.cps.toList[j]?).map fun c => .str ⟨#[c]⟩ else none
  | _, _ => none
def bnd (n d : Nat) : Option Int → Nat
  | none => d
  | some v => if v < 0 then (v + (n : Int)).toNat else min v.toNat n
def cut {α : Type} (xs : List α) (lo hi : Option Int) : List α := (xs.drop (bnd xs.length 0 lo)).take (bnd xs.length xs.length hi - bnd xs.length 0 lo)
def partI : Option Val → Option (Option Int)
  | none => some none
  | some (.int i) => some (some i)
  | _ => none
def sliceV (x : Val) (lo hi : Option Val) : Option Val := (partI lo).bind fun l => (partI hi).bind fun h => match x with
  | .lst _ xs => if isFzL xs then some (.lst true (cut xs l h)) else none
  | .tup xs => if isFzL xs then some (.tup (cut xs l h)) else none
  | .str s => if decide (s.cps.size ≤ most) then some (.str ⟨(cut s.cps.toList l h).toArray⟩) else none
  | _ => none
/-! ### built-ins -/
def lenV : List Val → Option Val
  | [.lst _ xs] => some (.int xs.length)
  | [.tup xs] => some (.int xs.length)
  | [.str s] => if decide (s.cps.size ≤ most) then some (.int s.cps.size) else none
  | _ => none
def absV' : List Val → Option Val
  | [.int i] => some (.int (if i < 0 then -i else i))
  | _ => none
def intV : List Val → Option Val
  | [.int i] => some (.int i)
  | [.bl b] => some (.int (b2I b))
  | _ => none
def max2V : List Val → Option Val
  | [.int i, .int j] => some (.int (if j > i then j else i))
  | _ => none
def min2V : List Val → Option Val
  | [.int i, .int j] => some (.int (if j < i then j else i))
  | _ => none
def toInts : List Val → Option (List Int)
  | [] => some []
  | .int i :: r => (toInts r).map (i :: ·)
  | _ :: _ => none
def toBls : List Val → Option (List Bool)
  | [] => some []
  | .bl i :: r => (toBls r).map (i :: ·)
  | _ :: _ => none
def sumL : List Int → Int
  | [] => 0
  | x :: r => x + sumL r
def sumV : List Val → Option Val
  | [x] => (seqItems x).bind fun xs => (toInts xs).map fun ns => .int (sumL ns)
  | _ => none
def allV : List Val → Option Val
  | [.lst _ xs] => (toBls xs).map fun bs => .bl (bs.all id)
  | _ => none
def anyV : List Val → Option Val
  | [.lst _ xs] => (toBls xs).map fun bs => .bl (bs.any id)
  | _ => none
def tupleV : List Val → Option Val
  | [.lst _ xs] => if isFzL xs then some (.tup xs) else none
  | [.tup xs] => if isFzL xs then some (.tup xs) else none
  | _ => none
def listV : List Val → Option Val
  | [.lst _ xs] => if isFzL xs then some (.lst true xs) else none
  | [.tup xs] => if isFzL xs then some (.lst true xs) else none
  | _ => none
def rngList (own : Bool) : List Val → Option Val
  | [.int hi] => if rngOk 0 hi then some (if own then .lst true (rngV 0 hi.toNat) else .tup (rngV 0 hi.toNat)) else none
  | [.int lo, .int hi] => if rngOk lo hi then some (if own then .lst true (rngV lo (hi - lo).toNat) else .tup (rngV lo (hi - lo).toNat)) else none
  | _ => none
/-! ### kinds -/
def tyName : Val → Option String
  | .non => some "NoneType"
  | .bl _ => some "bool"
  | .int _ => some "int"
  | .str _ => some "str"
  | .tup _ => some "tuple"
  | .lst _ _ => some "list"
  | .dic _ _ _ => some "dict"
  | _ => none
/-- isinstance(x, T) of a built-in T -/
def isiTy (x : Val) (T : String) : Option Bool := match x with
  | .ins _ _ _ _ => some false
  | .fn _ => none
  | .ty _ => none
  | .bl _ => some (T == "bool" || T == "int")
  | y => (tyName y).map (· == T)
end VI
set_option Elab.async false
set_option linter.all false
set_option maxRecDepth 100000
/-! VI1: values as trees with ownership, and how they lie in the heap. -/
namespace VI
open PySem PySem.Spec PyProof.Rows L2

/-- the module's things by number -/
structure Ctx where
  K : PySem.W.Frag
  cls : Nat → Addr
  fn : Nat → Addr
  T : List (Addr × Str)
  /-- slots that hold what they held -/
  fix : List (Nat × Option (Option V)) := []
  /-- code objects that are known -/
  cod : List (Addr × Str) := []

theorem isFzL_all : ∀ vs : List Val, isFzL vs = vs.all isFz
  | [] => by simp [isFzL]
  | v :: vs => by simp [isFzL, isFzL_all vs]
mutual
theorem fz_isFz : ∀ v : Val, isFz (fz v) = true
  | .non => by simp [fz, isFz]
  | .bl _ => by simp [fz, isFz]
  | .int _ => by simp [fz, isFz]
  | .str _ => by simp [fz, isFz]
  | .tup vs => by simp [fz, isFz, fzL_isFz vs]
  | .lst _ vs => by simp [fz, isFz, fzL_isFz vs]
  | .dic _ _ vs => by simp [fz, isFz, fzL_isFz vs]
  | .ins _ _ _ vs => by simp [fz, isFz, fzL_isFz vs]
  | .fn _ => by simp [fz, isFz]
  | .ty _ => by simp [fz, isFz]
theorem fzL_isFz : ∀ vs : List Val, isFzL (fzL vs) = true
  | [] => by simp [fzL, isFzL]
  | v :: vs => by simp [fzL, isFzL, fz_isFz v, fzL_isFz vs]
end
mutual
theorem fz_of : ∀ {v : Val}, isFz v = true → fz v = v
  | .non, _ => by simp [fz]
  | .bl _, _ => by simp [fz]
  | .int _, _ => by simp [fz]
  | .str _, _ => by simp [fz]
  | .tup vs, h => by
    simp only [isFz] at h
    simp [fz, fzL_of h]
  | .lst o vs, h => by
    simp only [isFz, Bool.and_eq_true, Bool.not_eq_true'] at h
    simp [fz, fzL_of h.2, h.1]
  | .dic o _ vs, h => by
    simp only [isFz, Bool.and_eq_true, Bool.not_eq_true'] at h
    simp [fz, fzL_of h.2, h.1]
  | .ins o _ _ vs, h => by
    simp only [isFz, Bool.and_eq_true, Bool.not_eq_true'] at h
    simp [fz, fzL_of h.2, h.1]
  | .fn _, _ => by simp [fz]
  | .ty _, _ => by simp [fz]
theorem fzL_of : ∀ {vs : List Val}, isFzL vs = true → fzL vs = vs
  | [], _ => by simp [fzL]
  | v :: vs, h => by
    simp only [isFzL, Bool.and_eq_true] at h
    simp [fzL, fz_of h.1, fzL_of h.2]
end

/-- a list that the written part holds -/
def LitL (K : PySem.W.Frag) (a : Addr) (xs : List V) : Prop := ∃ o its n, K.lookup a = some o ∧ o.cls = .type "list" ∧ o.dict = none ∧ o.data = .seq its n ∧ its.size ≤ sizeLine ∧ Vals xs its.toList
/-- a list that nobody changes -/
def Still (Γ : Ctx) (H : Hp) (P : Addr → Prop) (a : Addr) (xs : List V) : Prop := (Rd H a (.lst xs) ∧ P a) ∨ LitL Γ.K a xs
theorem Still.sq {Γ : Ctx} {H : Hp} {P : Addr → Prop} {a : Addr} {xs : List V} (h : Still Γ H P a xs) : SqL Γ.K H a xs := h.elim (fun h => .inl h.1) .inr
/-- a tuple that the run made: it has no dict of its own -/
def TupN (H : Hp) (a : Addr) (xs : List V) : Prop := ∃ ob : Obj, H a = some (.frz ob (.tup xs)) ∧ ob.dict = none
theorem TupN.sq {K : PySem.W.Frag} {H : Hp} {a : Addr} {xs : List V} (h : TupN H a xs) : SqT K H a xs := h.elim fun ob h => .inl (.inr ⟨ob, h.1⟩)
theorem TupN.inj {H : Hp} {a : Addr} {xs ys : List V} (h : TupN H a xs) (g : TupN H a ys) : xs = ys := by
  obtain ⟨ob, h, _⟩ := h
  obtain ⟨oc, g, _⟩ := g
  rw [h] at g
  cases g
  rfl
/-! ### how a tree lies in the heap; o: the owned cells, P: the frozen ones -/
mutual
def Rep (Γ : Ctx) (H : Hp) (P : Addr → Prop) : Val → V → List Addr → Prop
  | .non, v, o => v = .non ∧ o = []
  | .bl b, v, o => v = .bl b ∧ o = []
  | .int i, v, o => v = .int i ∧ o = []
  | .str s, v, o => v = .str s ∧ o = []
  | .tup xs, v, o => ∃ a ws, v = .ref a ∧ TupN H a ws ∧ RepL Γ H P xs ws o
  | .lst true xs, v, o => ∃ a ws o', v = .ref a ∧ H a = some (.lst ws) ∧ RepL Γ H P xs ws o' ∧ o = a :: o'
  | .lst false xs, v, o => ∃ a ws, v = .ref a ∧ Still Γ H P a ws ∧ RepL Γ H P xs ws o
  | .dic true ks xs, v, o => ∃ a ws o', v = .ref a ∧ H a = some (.dK (ks.zip ws)) ∧ ks.length = ws.length ∧ RepL Γ H P xs ws o' ∧ o = a :: o'
  | .dic false ks xs, v, o => ∃ a ws, v = .ref a ∧ H a = some (.dK (ks.zip ws)) ∧ ks.length = ws.length ∧ P a ∧ RepL Γ H P xs ws o
  | .ins true c fs xs, v, o => ∃ a dx ws o', v = .ref a ∧ H a = some (.ins (Γ.cls c) dx (fs.zip ws)) ∧ fs.length = ws.length ∧ RepL Γ H P xs ws o' ∧ o = a :: o'
  | .ins false c fs xs, v, o => ∃ a dx ws, v = .ref a ∧ H a = some (.ins (Γ.cls c) dx (fs.zip ws)) ∧ fs.length = ws.length ∧ P a ∧ RepL Γ H P xs ws o
  | .fn f, v, o => v = .ref (Γ.fn f) ∧ o = []
  | .ty n, v, o => v = .ty n ∧ o = []
def RepL (Γ : Ctx) (H : Hp) (P : Addr → Prop) : List Val → List V → List Addr → Prop
  | [], ws, o => ws = [] ∧ o = []
  | x :: xs, ws, o => ∃ w ws' o1 o2, ws = w :: ws' ∧ Rep Γ H P x w o1 ∧ RepL Γ H P xs ws' o2 ∧ o = o1 ++ o2
end

def Wr (H : Hp) (a : Addr) : Prop := ∃ u, H a = some u ∧ ((∃ xs, u = .lst xs) ∨ (∃ kvs, u = .dK kvs) ∨ (∃ C dx fs, u = .ins C dx fs))

mutual
theorem Rep.wr {Γ : Ctx} {H : Hp} {P : Addr → Prop} : ∀ {x : Val} {v : V} {o : List Addr}, Rep Γ H P x v o → ∀ a ∈ o, Wr H a
  | .non, _, _, h, a, ha => by simp only [Rep] at h; rw [h.2] at ha; cases ha
  | .bl _, _, _, h, a, ha => by simp only [Rep] at h; rw [h.2] at ha; cases ha
  | .int _, _, _, h, a, ha => by simp only [Rep] at h; rw [h.2] at ha; cases ha
  | .str _, _, _, h, a, ha => by simp only [Rep] at h; rw [h.2] at ha; cases ha
  | .fn _, _, _, h, a, ha => by simp only [Rep] at h; rw [h.2] at ha; cases ha
  | .ty _, _, _, h, a, ha => by simp only [Rep] at h; rw [h.2] at ha; cases ha
  | .tup xs, _, _, h, a, ha => by
    simp only [Rep] at h
    obtain ⟨_, _, _, _, h⟩ := h
    exact RepL.wr h a ha
  | .lst true xs, _, _, h, a, ha => by
    simp only [Rep] at h
    obtain ⟨b, ws, o', _, e, h, rfl⟩ := h
    rcases List.mem_cons.mp ha with rfl | ha
    · exact ⟨_, e, .inl ⟨_, rfl⟩⟩
    · exact RepL.wr h a ha
  | .lst false xs, _, _, h, a, ha => by
    simp only [Rep] at h
    obtain ⟨_, _, _, _, h⟩ := h
    exact RepL.wr h a ha
  | .dic true ks xs, _, _, h, a, ha => by
    simp only [Rep] at h
    obtain ⟨b, ws, o', _, e, _, h, rfl⟩ := h
    rcases List.mem_cons.mp ha with rfl | ha
    · exact ⟨_, e, .inr (.inl ⟨_, rfl⟩)⟩
    · exact RepL.wr h a ha
  | .dic false ks xs, _, _, h, a, ha => by
    simp only [Rep] at h
    obtain ⟨_, _, _, _, _, _, h⟩ := h
    exact RepL.wr h a ha
  | .ins true c fs xs, _, _, h, a, ha => by
    simp only [Rep] at h
    obtain ⟨b, dx, ws, o', _, e, _, h, rfl⟩ := h
    rcases List.mem_cons.mp ha with rfl | ha
    · exact ⟨_, e, .inr (.inr ⟨_, _, _, rfl⟩)⟩
    · exact RepL.wr h a ha
  | .ins false c fs xs, _, _, h, a, ha => by
    simp only [Rep] at h
    obtain ⟨_, _, _, _, _, _, _, h⟩ := h
    exact RepL.wr h a ha
theorem RepL.wr {Γ : Ctx} {H : Hp} {P : Addr → Prop} : ∀ {xs : List Val} {ws : List V} {o : List Addr}, RepL Γ H P xs ws o → ∀ a ∈ o, Wr H a
  | [], _, _, h, a, ha => by simp only [RepL] at h; rw [h.2] at ha; cases ha
  | x :: xs, _, _, h, a, ha => by
    simp only [RepL] at h
    obtain ⟨w, ws', o1, o2, _, h1, h2, rfl⟩ := h
    rcases List.mem_append.mp ha with ha | ha
    · exact Rep.wr h1 a ha
    · exact RepL.wr h2 a ha
end

/-- all that matters is kept -/
structure Kp (H : Hp) (P : Addr → Prop) (o : List Addr) (H' : Hp) (P' : Addr → Prop) : Prop where
  own : ∀ a ∈ o, ∀ u, H a = some u → H' a = some u
  frz : ∀ a u, P a → H a = some u → H' a = some u
  tup : ∀ a xs, H a = some (.tup xs) → H' a = some (.tup xs)
  frd : ∀ a ob u, H a = some (.frz ob u) → H' a = some (.frz ob u)
  inc : ∀ a, P a → P' a
theorem Kp.sub {H H' : Hp} {P P' : Addr → Prop} {o o' : List Addr} (k : Kp H P o H' P') (h : ∀ a ∈ o', a ∈ o) : Kp H P o' H' P' :=
  ⟨fun a ha => k.own a (h a ha), k.frz, k.tup, k.frd, k.inc⟩
mutual
theorem Rep.kp {Γ : Ctx} {H H' : Hp} {P P' : Addr → Prop} : ∀ {x : Val} {v : V} {o : List Addr}, Rep Γ H P x v o → Kp H P o H' P' → Rep Γ H' P' x v o
  | .non, _, _, h, k => by simp only [Rep] at h ⊢; exact h
  | .bl _, _, _, h, k => by simp only [Rep] at h ⊢; exact h
  | .int _, _, _, h, k => by simp only [Rep] at h ⊢; exact h
  | .str _, _, _, h, k => by simp only [Rep] at h ⊢; exact h
  | .fn _, _, _, h, k => by simp only [Rep] at h ⊢; exact h
  | .ty _, _, _, h, k => by simp only [Rep] at h ⊢; exact h
  | .tup xs, _, _, h, k => by
    simp only [Rep] at h ⊢
    obtain ⟨a, ws, e, q, h⟩ := h
    exact ⟨a, ws, e, q.elim fun ob h => ⟨ob, k.frd a ob _ h.1, h.2⟩, RepL.kp h k⟩
  | .lst true xs, _, _, h, k => by
    simp only [Rep] at h ⊢
    obtain ⟨a, ws, o', e, q, h, rfl⟩ := h
    exact ⟨a, ws, o', e, k.own a List.mem_cons_self _ q, RepL.kp h (k.sub fun _ z => List.mem_cons_of_mem _ z), rfl⟩
  | .lst false xs, _, _, h, k => by
    simp only [Rep] at h ⊢
    obtain ⟨a, ws, e, q, h⟩ := h
    refine ⟨a, ws, e, ?_, RepL.kp h k⟩
    rcases q with ⟨q | ⟨ob, q⟩, p⟩ | q
    · exact .inl ⟨.inl (k.frz a _ p q), k.inc a p⟩
    · exact .inl ⟨.inr ⟨ob, k.frd a ob _ q⟩, k.inc a p⟩
    · exact .inr q
  | .dic true ks xs, _, _, h, k => by
    simp only [Rep] at h ⊢
    obtain ⟨a, ws, o', e, q, l, h, rfl⟩ := h
    exact ⟨a, ws, o', e, k.own a List.mem_cons_self _ q, l, RepL.kp h (k.sub fun _ z => List.mem_cons_of_mem _ z), rfl⟩
  | .dic false ks xs, _, _, h, k => by
    simp only [Rep] at h ⊢
    obtain ⟨a, ws, e, q, l, p, h⟩ := h
    exact ⟨a, ws, e, k.frz a _ p q, l, k.inc a p, RepL.kp h k⟩
  | .ins true c fs xs, _, _, h, k => by
    simp only [Rep] at h ⊢
    obtain ⟨a, dx, ws, o', e, q, l, h, rfl⟩ := h
    exact ⟨a, dx, ws, o', e, k.own a List.mem_cons_self _ q, l, RepL.kp h (k.sub fun _ z => List.mem_cons_of_mem _ z), rfl⟩
  | .ins false c fs xs, _, _, h, k => by
    simp only [Rep] at h ⊢
    obtain ⟨a, dx, ws, e, q, l, p, h⟩ := h
    exact ⟨a, dx, ws, e, k.frz a _ p q, l, k.inc a p, RepL.kp h k⟩
theorem RepL.kp {Γ : Ctx} {H H' : Hp} {P P' : Addr → Prop} : ∀ {xs : List Val} {ws : List V} {o : List Addr}, RepL Γ H P xs ws o → Kp H P o H' P' → RepL Γ H' P' xs ws o
  | [], _, _, h, k => by simp only [RepL] at h ⊢; exact h
  | x :: xs, _, _, h, k => by
    simp only [RepL] at h ⊢
    obtain ⟨w, ws', o1, o2, e, h1, h2, rfl⟩ := h
    exact ⟨w, ws', o1, o2, e, Rep.kp h1 (k.sub fun _ z => List.mem_append_left _ z), RepL.kp h2 (k.sub fun _ z => List.mem_append_right _ z), rfl⟩
end
mutual
/-- frozen where it stands -/
theorem Rep.fz {Γ : Ctx} {H : Hp} {P P' : Addr → Prop} : ∀ {x : Val} {v : V} {o : List Addr}, Rep Γ H P x v o → (∀ a, P a → P' a) → (∀ a ∈ o, P' a) → Rep Γ H P' (fz x) v []
  | .non, _, _, h, _, _ => by simp only [Rep, VI.fz] at h ⊢; exact ⟨h.1, trivial⟩
  | .bl _, _, _, h, _, _ => by simp only [Rep, VI.fz] at h ⊢; exact ⟨h.1, trivial⟩
  | .int _, _, _, h, _, _ => by simp only [Rep, VI.fz] at h ⊢; exact ⟨h.1, trivial⟩
  | .str _, _, _, h, _, _ => by simp only [Rep, VI.fz] at h ⊢; exact ⟨h.1, trivial⟩
  | .fn _, _, _, h, _, _ => by simp only [Rep, VI.fz] at h ⊢; exact ⟨h.1, trivial⟩
  | .ty _, _, _, h, _, _ => by simp only [Rep, VI.fz] at h ⊢; exact ⟨h.1, trivial⟩
  | .tup xs, _, _, h, k, m => by
    simp only [Rep, VI.fz] at h ⊢
    obtain ⟨a, ws, e, q, h⟩ := h
    exact ⟨a, ws, e, q, RepL.fz h k m⟩
  | .lst true xs, _, _, h, k, m => by
    simp only [Rep, VI.fz] at h ⊢
    obtain ⟨a, ws, o', e, q, h, rfl⟩ := h
    exact ⟨a, ws, e, .inl ⟨.inl q, m a List.mem_cons_self⟩, RepL.fz h k fun b hb => m b (List.mem_cons_of_mem _ hb)⟩
  | .lst false xs, _, _, h, k, m => by
    simp only [Rep, VI.fz] at h ⊢
    obtain ⟨a, ws, e, q, h⟩ := h
    exact ⟨a, ws, e, q.elim (fun q => .inl ⟨q.1, k a q.2⟩) .inr, RepL.fz h k m⟩
  | .dic true ks xs, _, _, h, k, m => by
    simp only [Rep, VI.fz] at h ⊢
    obtain ⟨a, ws, o', e, q, l, h, rfl⟩ := h
    exact ⟨a, ws, e, q, l, m a List.mem_cons_self, RepL.fz h k fun b hb => m b (List.mem_cons_of_mem _ hb)⟩
  | .dic false ks xs, _, _, h, k, m => by
    simp only [Rep, VI.fz] at h ⊢
    obtain ⟨a, ws, e, q, l, p, h⟩ := h
    exact ⟨a, ws, e, q, l, k a p, RepL.fz h k m⟩
  | .ins true c fs xs, _, _, h, k, m => by
    simp only [Rep, VI.fz] at h ⊢
    obtain ⟨a, dx, ws, o', e, q, l, h, rfl⟩ := h
    exact ⟨a, dx, ws, e, q, l, m a List.mem_cons_self, RepL.fz h k fun b hb => m b (List.mem_cons_of_mem _ hb)⟩
  | .ins false c fs xs, _, _, h, k, m => by
    simp only [Rep, VI.fz] at h ⊢
    obtain ⟨a, dx, ws, e, q, l, p, h⟩ := h
    exact ⟨a, dx, ws, e, q, l, k a p, RepL.fz h k m⟩
theorem RepL.fz {Γ : Ctx} {H : Hp} {P P' : Addr → Prop} : ∀ {xs : List Val} {ws : List V} {o : List Addr}, RepL Γ H P xs ws o → (∀ a, P a → P' a) → (∀ a ∈ o, P' a) → RepL Γ H P' (fzL xs) ws []
  | [], _, _, h, _, _ => by simp only [RepL, fzL] at h ⊢; exact ⟨h.1, trivial⟩
  | x :: xs, _, _, h, k, m => by
    simp only [RepL, fzL] at h ⊢
    obtain ⟨w, ws', o1, o2, e, h1, h2, rfl⟩ := h
    exact ⟨w, ws', [], [], e, Rep.fz h1 k fun a ha => m a (List.mem_append_left _ ha), RepL.fz h2 k fun a ha => m a (List.mem_append_right _ ha), rfl⟩
end
mutual
/-- what is frozen owns nothing -/
theorem Rep.nil {Γ : Ctx} {H : Hp} {P : Addr → Prop} : ∀ {x : Val} {v : V} {o : List Addr}, Rep Γ H P x v o → isFz x = true → o = []
  | .non, _, _, h, _ => by simp only [Rep] at h; exact h.2
  | .bl _, _, _, h, _ => by simp only [Rep] at h; exact h.2
  | .int _, _, _, h, _ => by simp only [Rep] at h; exact h.2
  | .str _, _, _, h, _ => by simp only [Rep] at h; exact h.2
  | .fn _, _, _, h, _ => by simp only [Rep] at h; exact h.2
  | .ty _, _, _, h, _ => by simp only [Rep] at h; exact h.2
  | .tup xs, _, _, h, f => by
    simp only [Rep, isFz] at h f
    obtain ⟨_, _, _, _, h⟩ := h
    exact RepL.nil h f
  | .lst true xs, _, _, h, f => by simp [isFz] at f
  | .lst false xs, _, _, h, f => by
    simp only [Rep, isFz, Bool.not_false, Bool.true_and] at h f
    obtain ⟨_, _, _, _, h⟩ := h
    exact RepL.nil h f
  | .dic true ks xs, _, _, h, f => by simp [isFz] at f
  | .dic false ks xs, _, _, h, f => by
    simp only [Rep, isFz, Bool.not_false, Bool.true_and] at h f
    obtain ⟨_, _, _, _, _, _, h⟩ := h
    exact RepL.nil h f
  | .ins true c fs xs, _, _, h, f => by simp [isFz] at f
  | .ins false c fs xs, _, _, h, f => by
    simp only [Rep, isFz, Bool.not_false, Bool.true_and] at h f
    obtain ⟨_, _, _, _, _, _, _, h⟩ := h
    exact RepL.nil h f
theorem RepL.nil {Γ : Ctx} {H : Hp} {P : Addr → Prop} : ∀ {xs : List Val} {ws : List V} {o : List Addr}, RepL Γ H P xs ws o → isFzL xs = true → o = []
  | [], _, _, h, _ => by simp only [RepL] at h; exact h.2
  | x :: xs, _, _, h, f => by
    simp only [RepL, isFzL, Bool.and_eq_true] at h f
    obtain ⟨w, ws', o1, o2, _, h1, h2, rfl⟩ := h
    rw [Rep.nil h1 f.1, RepL.nil h2 f.2]
    rfl
end
theorem RepL.length {Γ : Ctx} {H : Hp} {P : Addr → Prop} : ∀ {xs : List Val} {ws : List V} {o : List Addr}, RepL Γ H P xs ws o → xs.length = ws.length
  | [], _, _, h => by simp only [RepL] at h; rw [h.1]; rfl
  | x :: xs, _, _, h => by
    simp only [RepL] at h
    obtain ⟨w, ws', o1, o2, rfl, h1, h2, rfl⟩ := h
    simp [RepL.length h2]
theorem RepL.get {Γ : Ctx} {H : Hp} {P : Addr → Prop} : ∀ {xs : List Val} {ws : List V} {o : List Addr} {i : Nat} {x : Val}, RepL Γ H P xs ws o → xs[i]? = some x → ∃ w o', ws[i]? = some w ∧ Rep Γ H P x w o'
  | [], _, _, _, _, h, e => by simp at e
  | y :: xs, _, _, 0, x, h, e => by
    simp only [RepL] at h
    obtain ⟨w, ws', o1, o2, rfl, h1, h2, rfl⟩ := h
    simp at e
    subst e
    exact ⟨w, o1, rfl, h1⟩
  | y :: xs, _, _, i + 1, x, h, e => by
    simp only [RepL] at h
    obtain ⟨w, ws', o1, o2, rfl, h1, h2, rfl⟩ := h
    obtain ⟨w', o', e', r⟩ := RepL.get h2 (by simpa using e)
    exact ⟨w', o', by simpa using e', r⟩
theorem RepL.append {Γ : Ctx} {H : Hp} {P : Addr → Prop} : ∀ {xs : List Val} {ws : List V} {o : List Addr} {ys : List Val} {us : List V} {o' : List Addr}, RepL Γ H P xs ws o → RepL Γ H P ys us o' → RepL Γ H P (xs ++ ys) (ws ++ us) (o ++ o')
  | [], _, _, _, _, _, h, h' => by simp only [RepL] at h; rw [h.1, h.2]; exact h'
  | x :: xs, _, _, _, _, _, h, h' => by
    simp only [RepL] at h
    obtain ⟨w, ws', o1, o2, rfl, h1, h2, rfl⟩ := h
    show RepL Γ H P (x :: (xs ++ _)) _ _
    simp only [RepL]
    exact ⟨w, _, o1, _, rfl, h1, RepL.append h2 h', by simp⟩
theorem RepL.of_fz {Γ : Ctx} {H : Hp} {P : Addr → Prop} {xs : List Val} {ws : List V} (hl : xs.length = ws.length) (h : ∀ (i : Nat) (x : Val), xs[i]? = some x → ∃ w, ws[i]? = some w ∧ Rep Γ H P x w []) : RepL Γ H P xs ws [] := by
  induction xs generalizing ws with
  | nil =>
    cases ws with
    | nil => simp [RepL]
    | cons _ _ => simp at hl
  | cons x xs ih =>
    cases ws with
    | nil => simp at hl
    | cons w ws =>
      simp only [RepL]
      obtain ⟨w', e, r⟩ := h 0 x rfl
      simp at e
      subst e
      exact ⟨w, ws, [], [], rfl, r, ih (by simpa using hl) (fun i y e => by
        obtain ⟨w', e', r'⟩ := h (i + 1) y (by simpa using e)
        exact ⟨w', by simpa using e', r'⟩), rfl⟩
end VI
set_option Elab.async false
set_option linter.all false
set_option maxRecDepth 100000
/-! VI2: worlds, their growth, environments, results and what accepts them. -/
namespace VI
open PySem PySem.Spec PyProof.Rows L2

def TabsC (Γ : Ctx) (H : Hp) : Prop := LamX.Tabs Γ.T H ∧ ∀ p ∈ Γ.cod, H p.1 = some (LamX.CodeO p.1 p.2)
theorem TabsC.ext {Γ : Ctx} {H H' : Hp} (t : TabsC Γ H) (e : ∀ b o, H b = some o → H' b = some o) : TabsC Γ H' := ⟨t.1.ext e, fun p hp => e _ _ (t.2 p hp)⟩
structure Ok (Γ : Ctx) (H : Hp) (P : Addr → Prop) (ow : List Addr) : Prop where
  p : ∀ a, P a → ∃ u, H a = some u ∧ ∀ ps, u ≠ .tbl ps
  m : ∀ a ∈ ow, Wr H a
  d : ∀ a ∈ ow, ¬ P a
  n : ow.Nodup
  t : TabsC Γ H
  z : ∀ a xs, Rd H a (.lst xs) ∨ TupN H a xs → xs.length ≤ sizeLine

structure Ext (H : Hp) (P : Addr → Prop) (ow : List Addr) (H' : Hp) (P' : Addr → Prop) (ow' : List Addr) : Prop where
  keep : ∀ a u, H a = some u → a ∉ ow → (∀ ps, u ≠ .tbl ps) → H' a = some u
  own : ∀ a ∈ ow', a ∈ ow ∨ H a = none
  inc : ∀ a, P a → P' a
  new : ∀ a, P' a → P a ∨ a ∈ ow ∨ H a = none
  dom : ∀ a u, H a = some u → ∃ u', H' a = some u'

section
variable {Γ : Ctx} {H H' H1 H2 : Hp} {P P' P1 P2 : Addr → Prop} {ow ow' ow1 ow2 f : List Addr}
theorem Ext.refl : Ext H P ow H P ow := ⟨fun _ _ h _ _ => h, fun _ h => .inl h, fun _ h => h, fun _ h => .inl h, fun _ u h => ⟨u, h⟩⟩
theorem Ext.none_of (x : Ext H P ow H' P' ow') {a : Addr} (h : H' a = none) : H a = none := by
  cases e : H a with
  | none => rfl
  | some u =>
    obtain ⟨u', q⟩ := x.dom a u e
    rw [h] at q; cases q
theorem Ext.trans (x : Ext H P ow H1 P1 ow1) (y : Ext H1 P1 ow1 H2 P2 ow2) : Ext H P ow H2 P2 ow2 where
  keep := fun a u h n t => y.keep a u (x.keep a u h n t) (fun z => by
    rcases x.own a z with q | q
    · exact n q
    · rw [h] at q; cases q) t
  own := fun a h => by
    rcases y.own a h with q | q
    · exact x.own a q
    · exact .inr (x.none_of q)
  inc := fun a h => y.inc a (x.inc a h)
  new := fun a h => by
    rcases y.new a h with q | q | q
    · exact x.new a q
    · exact .inr (x.own a q)
    · exact .inr (.inr (x.none_of q))
  dom := fun a u h => by
    obtain ⟨u1, h1⟩ := x.dom a u h
    exact y.dom a u1 h1
theorem Ext.sub (x : Ext H P ow H' P' ow1) (h : ∀ a ∈ ow', a ∈ ow1) : Ext H P ow H' P' ow' := ⟨x.keep, fun a z => x.own a (h a z), x.inc, x.new, x.dom⟩
theorem Ext.sup (x : Ext H P ow H' P' ow1) (h : ∀ a ∈ ow, a ∈ ow2) : Ext H P ow2 H' P' ow1 :=
  ⟨fun a u e n t => x.keep a u e (fun z => n (h a z)) t, fun a z => (x.own a z).imp (h a) id, x.inc, fun a z => (x.new a z).imp id (Or.imp (h a) id), x.dom⟩
theorem Ok.sub (k : Ok Γ H P ow) (h : ∀ a ∈ ow', a ∈ ow) (n : ow'.Nodup) : Ok Γ H P ow' := ⟨k.p, fun a z => k.m a (h a z), fun a z => k.d a (h a z), n, k.t, k.z⟩
theorem Ok.perm (k : Ok Γ H P ow) (h : ow.Perm ow') : Ok Γ H P ow' := k.sub (fun a z => h.symm.subset z) (h.nodup_iff.mp k.n)
theorem Ok.left (k : Ok Γ H P (f ++ ow)) : Ok Γ H P f := k.sub (fun a z => List.mem_append_left _ z) (List.nodup_append.mp k.n).1
theorem Ok.right (k : Ok Γ H P (f ++ ow)) : Ok Γ H P ow := k.sub (fun a z => List.mem_append_right _ z) (List.nodup_append.mp k.n).2.1
theorem Ok.nil (k : Ok Γ H P ow) : Ok Γ H P [] := k.sub (fun a z => by cases z) List.nodup_nil
theorem Ok.dis (k : Ok Γ H P (f ++ ow)) : ∀ a ∈ f, a ∉ ow := fun a z q => (List.nodup_append.mp k.n).2.2 a z a q rfl
theorem Ext.perm (x : Ext H P ow H' P' ow1) (h : ow1.Perm ow2) : Ext H P ow H' P' ow2 := x.sub fun a z => h.symm.subset z
theorem Ext.permL (x : Ext H P ow H' P' ow1) (h : ow.Perm ow2) : Ext H P ow2 H' P' ow1 := x.sup fun a z => h.subset z
theorem Wr.notbl {a : Addr} {u : HO} (w : Wr H a) (e : H a = some u) : ∀ ps, u ≠ .tbl ps := fun ps z => by
  obtain ⟨u', e', q⟩ := w
  rw [e] at e'; cases e'
  subst z
  rcases q with ⟨_, q⟩ | ⟨_, q⟩ | ⟨_, _, _, q⟩ <;> cases q
theorem Wr.notup {a : Addr} {xs : List V} (w : Wr H a) : H a ≠ some (.tup xs) := fun z => by
  obtain ⟨u', e', q⟩ := w
  rw [z] at e'; cases e'
  rcases q with ⟨_, q⟩ | ⟨_, q⟩ | ⟨_, _, _, q⟩ <;> cases q
theorem Wr.nofrz {a : Addr} {ob : Obj} {u : HO} (w : Wr H a) : H a ≠ some (.frz ob u) := fun z => by
  obtain ⟨u', e', q⟩ := w
  rw [z] at e'; cases e'
  rcases q with ⟨_, q⟩ | ⟨_, q⟩ | ⟨_, _, _, q⟩ <;> cases q
/-- what is framed is kept -/
theorem Ext.kp (k : Ok Γ H P (f ++ ow)) (x : Ext H P ow H' P' ow') : Kp H P f H' P' where
  own := fun a z u e => x.keep a u e (k.dis a z) ((k.left.m a z).notbl e)
  frz := fun a u z e => by
    obtain ⟨u', e', t⟩ := k.p a z
    rw [e] at e'; cases e'
    exact x.keep a u e (fun q => k.right.d a q z) t
  tup := fun a xs e => x.keep a _ e (fun q => (k.right.m a q).notup e) (fun ps q => by cases q)
  frd := fun a ob u e => x.keep a _ e (fun q => (k.right.m a q).nofrz e) (fun ps q => by cases q)
  inc := x.inc
theorem Ext.frame (k : Ok Γ H P (f ++ ow)) (x : Ext H P ow H' P' ow') (k' : Ok Γ H' P' ow') : Ext H P (f ++ ow) H' P' (f ++ ow') ∧ Ok Γ H' P' (f ++ ow') := by
  have hne : ∀ a ∈ f, ∀ (q : H a = none), False := fun a z q => by
    obtain ⟨u, e, _⟩ := k.left.m a z
    rw [q] at e; cases e
  refine ⟨⟨fun a u e n t => x.keep a u e (fun z => n (List.mem_append_right _ z)) t, fun a z => ?_, x.inc, fun a z => ?_, x.dom⟩, ⟨k'.p, fun a z => ?_, fun a z => ?_, ?_, k'.t, k'.z⟩⟩
  · rcases List.mem_append.mp z with z | z
    · exact .inl (List.mem_append_left _ z)
    · rcases x.own a z with q | q
      · exact .inl (List.mem_append_right _ q)
      · exact .inr q
  · rcases x.new a z with q | q | q
    · exact .inl q
    · exact .inr (.inl (List.mem_append_right _ q))
    · exact .inr (.inr q)
  · rcases List.mem_append.mp z with z | z
    · obtain ⟨u, e, q⟩ := k.left.m a z
      exact ⟨u, (x.kp k).own a z u e, q⟩
    · exact k'.m a z
  · rcases List.mem_append.mp z with z | z
    · intro p
      rcases x.new a p with q | q | q
      · exact k.left.d a z q
      · exact k.dis a z q
      · exact hne a z q
    · exact k'.d a z
  · refine List.nodup_append.mpr ⟨(List.nodup_append.mp k.n).1, k'.n, fun a z b q e => ?_⟩
    subst e
    rcases x.own a q with q | q
    · exact k.dis a z q
    · exact hne a z q
end

/-! ### environments -/
def RepE (Γ : Ctx) (H : Hp) (P : Addr → Prop) : En → L2.St → List Addr → Prop
  | [], σ, o => σ = [] ∧ o = []
  | none :: es, σ, o => ∃ w σ', σ = w :: σ' ∧ RepE Γ H P es σ' o
  | some x :: es, σ, o => ∃ v σ' o1 o2, σ = some v :: σ' ∧ Rep Γ H P x v o1 ∧ RepE Γ H P es σ' o2 ∧ o = o1 ++ o2
section
variable {Γ : Ctx} {H H' : Hp} {P P' : Addr → Prop}
theorem RepE.kp : ∀ {es : En} {σ : L2.St} {o : List Addr}, RepE Γ H P es σ o → Kp H P o H' P' → RepE Γ H' P' es σ o
  | [], _, _, h, _ => h
  | none :: es, _, _, ⟨w, σ', e, h⟩, k => ⟨w, σ', e, RepE.kp h k⟩
  | some x :: es, _, _, ⟨v, σ', o1, o2, e, h1, h2, rfl⟩, k =>
    ⟨v, σ', o1, o2, e, h1.kp (k.sub fun _ z => List.mem_append_left _ z), RepE.kp h2 (k.sub fun _ z => List.mem_append_right _ z), rfl⟩
theorem RepE.length : ∀ {es : En} {σ : L2.St} {o : List Addr}, RepE Γ H P es σ o → es.length = σ.length
  | [], _, _, h => by rw [h.1]; rfl
  | none :: es, _, _, ⟨w, σ', e, h⟩ => by rw [e]; simp [RepE.length h]
  | some x :: es, _, _, ⟨v, σ', o1, o2, e, h1, h2, _⟩ => by rw [e]; simp [RepE.length h2]
theorem RepE.take : ∀ {es : En} {σ : L2.St} {o : List Addr} {i : Nat} {x : Val}, RepE Γ H P es σ o → es[i]? = some (some x) →
    ∃ v o1 o', σ[i]? = some (some v) ∧ Rep Γ H P x v o1 ∧ RepE Γ H P (es.set i none) σ o' ∧ o.Perm (o1 ++ o')
  | [], _, _, _, _, _, e => by simp at e
  | none :: es, _, _, 0, _, _, e => by simp at e
  | none :: es, _, _, i + 1, x, ⟨w, σ', rfl, h⟩, e => by
    obtain ⟨v, o1, o', a, b, c, d⟩ := RepE.take h (by simpa using e)
    exact ⟨v, o1, o', by simpa using a, b, ⟨w, σ', rfl, c⟩, d⟩
  | some y :: es, _, _, 0, x, ⟨v, σ', o1, o2, rfl, h1, h2, rfl⟩, e => by
    simp at e; subst e
    exact ⟨v, o1, o2, rfl, h1, ⟨some v, σ', rfl, h2⟩, .refl _⟩
  | some y :: es, _, _, i + 1, x, ⟨v, σ', o1, o2, rfl, h1, h2, rfl⟩, e => by
    obtain ⟨v', o1', o', a, b, c, d⟩ := RepE.take h2 (by simpa using e)
    refine ⟨v', o1', o1 ++ o', by simpa using a, b, ⟨v, σ', o1, o', rfl, h1, c, rfl⟩, ?_⟩
    refine (d.append_left o1).trans ?_
    rw [← List.append_assoc, ← List.append_assoc]
    exact List.Perm.append_right _ List.perm_append_comm
theorem RepE.put : ∀ {es : En} {σ : L2.St} {o : List Addr} {i : Nat} {x : Val} {v : V} {o1 : List Addr}, RepE Γ H P es σ o → es[i]? = some none → σ[i]? = some (some v) → Rep Γ H P x v o1 →
    ∃ o', RepE Γ H P (es.set i (some x)) σ o' ∧ o'.Perm (o1 ++ o)
  | [], _, _, _, _, _, _, _, e, _, _ => by simp at e
  | none :: es, _, o, 0, x, v, o1, ⟨w, σ', rfl, h⟩, _, e, r => by
    simp at e; subst e
    exact ⟨o1 ++ o, ⟨v, σ', o1, o, rfl, r, h, rfl⟩, .refl _⟩
  | none :: es, _, o, i + 1, x, v, o1, ⟨w, σ', rfl, h⟩, e, e2, r => by
    obtain ⟨o', a, b⟩ := RepE.put h (by simpa using e) (by simpa using e2) r
    exact ⟨o', ⟨w, σ', rfl, a⟩, b⟩
  | some y :: es, _, _, 0, _, _, _, _, e, _, _ => by simp at e
  | some y :: es, _, _, i + 1, x, v, o1, ⟨v', σ', o1', o2, rfl, h1, h2, rfl⟩, e, e2, r => by
    obtain ⟨o', a, b⟩ := RepE.put h2 (by simpa using e) (by simpa using e2) r
    refine ⟨o1' ++ o', ⟨v', σ', o1', o', rfl, h1, a, rfl⟩, ?_⟩
    refine (b.append_left o1').trans ?_
    rw [← List.append_assoc, ← List.append_assoc]
    exact List.Perm.append_right _ List.perm_append_comm
/-- the slot of a name without a value may hold anything -/
theorem RepE.sig : ∀ {es : En} {σ : L2.St} {o : List Addr} {i : Nat} {w : Option V}, RepE Γ H P es σ o → es[i]? = some none → RepE Γ H P es (σ.set i w) o
  | [], _, _, _, _, _, e => by simp at e
  | none :: es, _, _, 0, w, ⟨_, σ', rfl, h⟩, _ => ⟨w, σ', rfl, h⟩
  | none :: es, _, _, i + 1, w, ⟨w', σ', rfl, h⟩, e => ⟨w', σ'.set i w, rfl, RepE.sig h (by simpa using e)⟩
  | some y :: es, _, _, 0, _, _, e => by simp at e
  | some y :: es, _, _, i + 1, w, ⟨v', σ', o1', o2, rfl, h1, h2, rfl⟩, e => ⟨v', σ'.set i w, o1', o2, rfl, h1, RepE.sig h2 (by simpa using e), rfl⟩
theorem RepE.wr : ∀ {es : En} {σ : L2.St} {o : List Addr}, RepE Γ H P es σ o → ∀ a ∈ o, Wr H a
  | [], _, _, h, a, z => by rw [h.2] at z; cases z
  | none :: es, _, _, ⟨w, σ', e, h⟩, a, z => RepE.wr h a z
  | some x :: es, _, _, ⟨v, σ', o1, o2, e, h1, h2, rfl⟩, a, z => by
    rcases List.mem_append.mp z with z | z
    · exact h1.wr a z
    · exact RepE.wr h2 a z
end

def Fx (Γ : Ctx) (σ : L2.St) : Prop := ∀ p ∈ Γ.fix, σ[p.1]? = p.2
def RelE (Γ : Ctx) (H : Hp) (P : Addr → Prop) (es : En) (σ : L2.St) (ow : List Addr) : Prop := ∃ o, RepE Γ H P es σ o ∧ o.Perm ow ∧ Fx Γ σ
section
variable {Γ : Ctx} {H H' : Hp} {P P' : Addr → Prop} {es : En} {σ : L2.St} {ow ow' f : List Addr} {i : Nat} {x : Val} {v : V}
theorem RelE.kp (r : RelE Γ H P es σ ow) (k : Kp H P ow H' P') : RelE Γ H' P' es σ ow := by
  obtain ⟨o, h, p, fx⟩ := r
  exact ⟨o, h.kp (k.sub fun a z => p.subset z), p, fx⟩
theorem RelE.length (r : RelE Γ H P es σ ow) : es.length = σ.length := by
  obtain ⟨o, h, p, fx⟩ := r
  exact h.length
theorem RelE.take (r : RelE Γ H P es σ ow) (e : es[i]? = some (some x)) : ∃ v o1 ow', σ[i]? = some (some v) ∧ Rep Γ H P x v o1 ∧ RelE Γ H P (es.set i none) σ ow' ∧ ow.Perm (o1 ++ ow') := by
  obtain ⟨o, h, p, fx⟩ := r
  obtain ⟨v, o1, o', a, b, c, d⟩ := h.take e
  exact ⟨v, o1, o', a, b, ⟨o', c, .refl _, fx⟩, p.symm.trans d⟩
theorem RelE.get (r : RelE Γ H P es σ ow) (e : es[i]? = some (some x)) : ∃ v o1, σ[i]? = some (some v) ∧ Rep Γ H P x v o1 ∧ ∀ a ∈ o1, a ∈ ow := by
  obtain ⟨v, o1, ow', a, b, _, d⟩ := r.take e
  exact ⟨v, o1, a, b, fun z hz => d.symm.subset (List.mem_append_left _ hz)⟩
theorem RelE.put {o1 : List Addr} (r : RelE Γ H P es σ ow) (e : es[i]? = some none) (e2 : σ[i]? = some (some v)) (q : Rep Γ H P x v o1) : RelE Γ H P (es.set i (some x)) σ (o1 ++ ow) := by
  obtain ⟨o, h, p, fx⟩ := r
  obtain ⟨o', a, b⟩ := h.put e e2 q
  exact ⟨o', a, b.trans (p.append_left o1), fx⟩
theorem Fx.set {w : Option V} (fx : Fx Γ σ) (h : ∀ p ∈ Γ.fix, p.1 ≠ i) : Fx Γ (σ.set i w) := fun p hp => by
  rw [List.getElem?_set_ne (Ne.symm (h p hp))]
  exact fx p hp
theorem RelE.sig {w : Option V} (r : RelE Γ H P es σ ow) (e : es[i]? = some none) (hf : ∀ p ∈ Γ.fix, p.1 ≠ i) : RelE Γ H P es (σ.set i w) ow := by
  obtain ⟨o, h, p, fx⟩ := r
  exact ⟨o, h.sig e, p, fx.set hf⟩
theorem RelE.perm (r : RelE Γ H P es σ ow) (p : ow.Perm ow') : RelE Γ H P es σ ow' := by
  obtain ⟨o, h, q, fx⟩ := r
  exact ⟨o, h, q.trans p, fx⟩
/-- a name's value is dropped -/
theorem RelE.drop (r : RelE Γ H P es σ ow) (hi : i < es.length) : ∃ ow', RelE Γ H P (es.set i none) σ ow' ∧ (∀ a ∈ ow', a ∈ ow) ∧ (ow.Nodup → ow'.Nodup) := by
  cases e : es[i]? with
  | none => simp at e; omega
  | some y =>
    cases y with
    | none =>
      have : es.set i none = es := by
        apply List.ext_getElem?
        intro j
        by_cases hj : i = j
        · subst hj; rw [List.getElem?_set_self hi, e]
        · rw [List.getElem?_set_ne hj]
      rw [this]
      exact ⟨ow, r, fun _ z => z, id⟩
    | some x =>
      obtain ⟨v, o1, ow', _, _, c, d⟩ := r.take e
      exact ⟨ow', c, fun a z => d.symm.subset (List.mem_append_right _ z), fun n => (List.nodup_append.mp (d.nodup_iff.mp n)).2.1⟩
/-- a name is stored -/
theorem RelE.store {o1 : List Addr} (k : Ok Γ H P (o1 ++ ow)) (r : RelE Γ H P es σ ow) (hi : i < es.length) (q : Rep Γ H P x v o1) (hf : ∀ p ∈ Γ.fix, p.1 ≠ i) :
    ∃ ow', RelE Γ H P (es.set i (some x)) (σ.set i (some v)) ow' ∧ Ok Γ H P ow' ∧ ∀ a ∈ ow', a ∈ o1 ++ ow := by
  obtain ⟨ow', r', hs, hn⟩ := r.drop hi
  have e1 : (es.set i none)[i]? = some none := List.getElem?_set_self hi
  have hσ : i < σ.length := by rw [← r.length]; exact hi
  have r2 := (r'.sig (w := some v) e1 hf).put e1 (List.getElem?_set_self hσ) q
  rw [List.set_set] at r2
  refine ⟨_, r2, k.sub (fun a z => ?_) ?_, fun a z => ?_⟩
  · rcases List.mem_append.mp z with z | z
    · exact List.mem_append_left _ z
    · exact List.mem_append_right _ (hs a z)
  · have n := List.nodup_append.mp k.n
    exact List.nodup_append.mpr ⟨n.1, hn n.2.1, fun a z b w e => n.2.2 a z b (hs b w) e⟩
  · rcases List.mem_append.mp z with z | z
    · exact List.mem_append_left _ z
    · exact List.mem_append_right _ (hs a z)
/-- the same value is stored -/
theorem RelE.again {o1 : List Addr} (k : Ok Γ H P (o1 ++ ow)) (r : RelE Γ H P es σ ow) (hi : i < es.length) (q : Rep Γ H P x v o1) (e0 : σ[i]? = some (some v)) :
    ∃ ow', RelE Γ H P (es.set i (some x)) σ ow' ∧ Ok Γ H P ow' ∧ ∀ a ∈ ow', a ∈ o1 ++ ow := by
  obtain ⟨ow', r', hs, hn⟩ := r.drop hi
  have e1 : (es.set i none)[i]? = some none := List.getElem?_set_self hi
  have r2 := r'.put e1 e0 q
  rw [List.set_set] at r2
  refine ⟨_, r2, k.sub (fun a z => ?_) ?_, fun a z => ?_⟩
  · rcases List.mem_append.mp z with z | z
    · exact List.mem_append_left _ z
    · exact List.mem_append_right _ (hs a z)
  · have n := List.nodup_append.mp k.n
    exact List.nodup_append.mpr ⟨n.1, hn n.2.1, fun a z b w e => n.2.2 a z b (hs b w) e⟩
  · rcases List.mem_append.mp z with z | z
    · exact List.mem_append_left _ z
    · exact List.mem_append_right _ (hs a z)
end

/-! ### results -/
theorem slot_some {e : En} {i : Nat} {x : Val} : slot e i = some x ↔ e[i]? = some (some x) := by
  unfold slot
  cases q : e[i]? with
  | none => simp
  | some y => cases y <;> simp
def RepO (Γ : Ctx) (H : Hp) (P : Addr → Prop) (σ : L2.St) : OV → V → List Addr → Prop
  | .pk i, v, o => σ[i]? = some (some v) ∧ o = []
  | .val x, v, o => Rep Γ H P x v o
/-- an exception of the program's own -/
def RepX (Γ : Ctx) (H : Hp) (P : Addr → Prop) (x : Exc) (cls : Value) (d : Option Addr) : Prop :=
  cls = .ref (Γ.cls x.c) ∧ ((x.fs = [] ∧ d = none) ∨ x.fs ≠ [] ∧ ∃ a ws, d = some a ∧ H a = some (.xd (x.fs.zip ws)) ∧ x.fs.length = ws.length ∧ RepL Γ H P x.vs ws [])
section
variable {α β γ : Type}
/-- what is wanted of a result -/
def Acc (Γ : Ctx) (R : Hp → (Addr → Prop) → L2.St → α → β → List Addr → Prop) (W : WX) (σ : L2.St) (H : Hp) (P : Addr → Prop) (ow : List Addr) (Q : β → Hp → Prop) : Res α → Prop
  | .ok a e => ∀ b H' P' o ow', Ext H P ow H' P' (o ++ ow') → Ok Γ H' P' (o ++ ow') → R H' P' σ a b o → RelE Γ H' P' e σ ow' → Q b H'
  | .exc x e => ∀ H' P' ow' cls d, Ext H P ow H' P' ow' → Ok Γ H' P' ow' → RelE Γ H' P' e σ ow' → RepX Γ H' P' x cls d → W cls d σ H'
  | .bad => False
theorem Acc.rebase {Γ : Ctx} {R : Hp → (Addr → Prop) → L2.St → α → β → List Addr → Prop} {W : WX} {σ : L2.St} {H H1 : Hp} {P P1 : Addr → Prop} {ow ow1 : List Addr} {Q : β → Hp → Prop} {r : Res α} (h : Acc Γ R W σ H P ow Q r) (x : Ext H P ow H1 P1 ow1) :
    Acc Γ R W σ H1 P1 ow1 Q r := by
  cases r with
  | ok a e => exact fun b H' P' o ow' y k q l => h b H' P' o ow' (x.trans y) k q l
  | exc e en => exact fun H' P' ow' cls d y k l q => h H' P' ow' cls d (x.trans y) k l q
  | bad => exact h
/-- one after the other -/
theorem Acc.seq {δ : Type} {Γ : Ctx} {R1 : Hp → (Addr → Prop) → L2.St → α → β → List Addr → Prop} {R3 : Hp → (Addr → Prop) → L2.St → γ → δ → List Addr → Prop} {W : WX} {σ : L2.St} {H : Hp} {P : Addr → Prop} {ow : List Addr} {Q1 : β → Hp → Prop} {Q3 : δ → Hp → Prop} {c : Res α} {k : α → En → Res γ}
    (h : Acc Γ R3 W σ H P ow Q3 (c.bind k))
    (h1 : ∀ a e b H1 P1 o1 ow1, Ext H P ow H1 P1 (o1 ++ ow1) → Ok Γ H1 P1 (o1 ++ ow1) → R1 H1 P1 σ a b o1 → RelE Γ H1 P1 e σ ow1 → Acc Γ R3 W σ H1 P1 (o1 ++ ow1) Q3 (k a e) → Q1 b H1) : Acc Γ R1 W σ H P ow Q1 c := by
  cases c with
  | ok a e => exact fun b H' P' o ow' y k' q l => h1 a e b H' P' o ow' y k' q l (Acc.rebase h y)
  | exc e en => exact h
  | bad => exact h
def tS (Γ : Ctx) (R : Hp → (Addr → Prop) → L2.St → α → β → List Addr → Prop) (W : WX) (c : En → Res α) : L2.St → Hp → (β → Hp → Prop) → Prop :=
  fun σ H Q => ∃ P ow e, Ok Γ H P ow ∧ RelE Γ H P e σ ow ∧ Acc Γ R W σ H P ow Q (c e)
/-- the framed use: what was made before is kept -/
theorem tS.useE {Γ : Ctx} {R : Hp → (Addr → Prop) → L2.St → α → β → List Addr → Prop} {R3 : Hp → (Addr → Prop) → L2.St → γ → δ → List Addr → Prop} {W : WX} {σ : L2.St} {H : Hp} {P : Addr → Prop} {ow f : List Addr} {e : En} {Q : β → Hp → Prop} {Q3 : δ → Hp → Prop} {c : En → Res α} {k : α → En → Res γ}
    (ok : Ok Γ H P (f ++ ow)) (rel : RelE Γ H P e σ ow) (h : Acc Γ R3 W σ H P (f ++ ow) Q3 ((c e).bind k))
    (h1 : ∀ a e' b H1 P1 o1 ow1, c e = .ok a e' → Kp H P f H1 P1 → Ok Γ H1 P1 (f ++ (o1 ++ ow1)) → R H1 P1 σ a b o1 → RelE Γ H1 P1 e' σ ow1 → Acc Γ R3 W σ H1 P1 (f ++ (o1 ++ ow1)) Q3 (k a e') → Q b H1) : tS Γ R W c σ H Q := by
  refine ⟨P, ow, e, ok.right, rel, ?_⟩
  cases hc : c e with
  | ok a e' =>
    rw [hc] at h
    intro b H' P' o ow' y k' q l
    obtain ⟨y', k''⟩ := y.frame ok k'
    exact h1 a e' b H' P' o ow' hc (y.kp ok) k'' q l (Acc.rebase h y')
  | exc x e' =>
    rw [hc] at h
    intro H' P' ow' cls d y k' l q
    obtain ⟨y', k''⟩ := y.frame ok k'
    exact h H' P' ow' cls d (y'.sub fun a z => List.mem_append_right _ z) k' l q
  | bad => rw [hc] at h; exact h
theorem tS.use {Γ : Ctx} {R : Hp → (Addr → Prop) → L2.St → α → β → List Addr → Prop} {R3 : Hp → (Addr → Prop) → L2.St → γ → δ → List Addr → Prop} {W : WX} {σ : L2.St} {H : Hp} {P : Addr → Prop} {ow f : List Addr} {e : En} {Q : β → Hp → Prop} {Q3 : δ → Hp → Prop} {c : En → Res α} {k : α → En → Res γ}
    (ok : Ok Γ H P (f ++ ow)) (rel : RelE Γ H P e σ ow) (h : Acc Γ R3 W σ H P (f ++ ow) Q3 ((c e).bind k))
    (h1 : ∀ a e' b H1 P1 o1 ow1, Kp H P f H1 P1 → Ok Γ H1 P1 (f ++ (o1 ++ ow1)) → R H1 P1 σ a b o1 → RelE Γ H1 P1 e' σ ow1 → Acc Γ R3 W σ H1 P1 (f ++ (o1 ++ ow1)) Q3 (k a e') → Q b H1) : tS Γ R W c σ H Q :=
  tS.useE ok rel h fun a e' b H1 P1 o1 ow1 _ => h1 a e' b H1 P1 o1 ow1
end
theorem RepX.kp {Γ : Ctx} {H : Hp} {P : Addr → Prop} {x : Exc} {cls : Value} {d : Option Addr} (h : RepX Γ H P x cls d) : True := trivial

/-! ### peeking and taking -/
section
variable {Γ : Ctx} {H : Hp} {P : Addr → Prop} {σ : L2.St} {e : En} {ow f : List Addr} {a : OV} {v : V} {o : List Addr} {x : Val}
theorem OV.get_rep (rel : RelE Γ H P e σ ow) (r : RepO Γ H P σ a v o) (g : a.get e = some x) : ∃ o', Rep Γ H P x v o' := by
  cases a with
  | pk i =>
    obtain ⟨e1, _⟩ := r
    have g' : e[i]? = some (some x) := slot_some.mp g
    obtain ⟨v', o1, e2, r', _⟩ := rel.get g'
    rw [e1] at e2; cases e2
    exact ⟨o1, r'⟩
  | val y =>
    simp [OV.get] at g
    subst g
    exact ⟨o, r⟩
theorem slot_freeze {i : Nat} (ok : Ok Γ H P (f ++ ow)) (rel : RelE Γ H P e σ ow) (g : e[i]? = some (some x)) : ∃ v P' ow', σ[i]? = some (some v) ∧ Ext H P (f ++ ow) H P' (f ++ ow') ∧ Ok Γ H P' (f ++ ow') ∧ Rep Γ H P' (fz x) v [] ∧
    RelE Γ H P' (e.set i (some (fz x))) σ ow' ∧ Kp H P f H P' := by
  obtain ⟨v, o1, ow', e1, r, rel', pm⟩ := rel.take g
  have ok2 : Ok Γ H P (f ++ (o1 ++ ow')) := ok.perm (pm.append_left f)
  have hm : ∀ a ∈ o1, Wr H a := r.wr
  have hi : i < e.length := by
    have := (List.getElem?_eq_some_iff.mp g).1
    exact this
  have inc : ∀ a, P a → (P a ∨ a ∈ o1) := fun a z => .inl z
  have kpa : ∀ l : List Addr, Kp H P l H (fun a => P a ∨ a ∈ o1) := fun l => ⟨fun _ _ _ h => h, fun _ _ _ h => h, fun _ _ h => h, fun _ _ _ h => h, inc⟩
  have q := r.fz inc (fun a z => .inr z)
  have rel2 : RelE Γ H (fun a => P a ∨ a ∈ o1) (e.set i (some (fz x))) σ ow' := by
    have z := (rel'.kp (kpa _)).put (i := i) (List.getElem?_set_self hi) e1 q
    rw [List.set_set] at z
    simpa using z
  refine ⟨v, fun a => P a ∨ a ∈ o1, ow', e1, ⟨fun _ _ h _ _ => h, fun a z => .inl ?_, inc, fun a z => ?_, fun _ u h => ⟨u, h⟩⟩, ⟨fun a z => ?_, fun a z => ?_, fun a z => ?_, ?_, ok.t, ok.z⟩, q, rel2, kpa _⟩
  · rcases List.mem_append.mp z with z | z
    · exact List.mem_append_left _ z
    · exact List.mem_append_right _ (pm.symm.subset (List.mem_append_right _ z))
  · rcases z with z | z
    · exact .inl z
    · exact .inr (.inl (List.mem_append_right _ (pm.symm.subset (List.mem_append_left _ z))))
  · rcases z with z | z
    · exact ok.p a z
    · obtain ⟨u, e, q⟩ := hm a z
      exact ⟨u, e, (hm a z).notbl e⟩
  · rcases List.mem_append.mp z with z | z
    · exact ok2.left.m a z
    · exact ok2.right.right.m a z
  · rintro (p | p)
    · rcases List.mem_append.mp z with z | z
      · exact ok2.left.d a z p
      · exact ok2.right.right.d a z p
    · rcases List.mem_append.mp z with z | z
      · exact ok2.dis a z (List.mem_append_left _ p)
      · exact ok2.right.dis a p z
  · have n := List.nodup_append.mp ok2.n
    have n2 := List.nodup_append.mp n.2.1
    exact List.nodup_append.mpr ⟨n.1, n2.2.1, fun a z b w q => n.2.2 a z b (List.mem_append_right _ w) q⟩
/-- a value of one's own is frozen -/
theorem val_freeze (ok : Ok Γ H P (f ++ (o ++ ow))) (r : Rep Γ H P x v o) : ∃ P', Ext H P (f ++ (o ++ ow)) H P' (f ++ ow) ∧ Ok Γ H P' (f ++ ow) ∧ Rep Γ H P' (fz x) v [] ∧ (∀ l, Kp H P l H P') := by
  have hm : ∀ a ∈ o, Wr H a := r.wr
  have inc : ∀ a, P a → (P a ∨ a ∈ o) := fun a z => .inl z
  refine ⟨fun a => P a ∨ a ∈ o, ⟨fun _ _ h _ _ => h, fun a z => .inl ?_, inc, fun a z => ?_, fun _ u h => ⟨u, h⟩⟩, ⟨fun a z => ?_, fun a z => ?_, fun a z => ?_, ?_, ok.t, ok.z⟩, r.fz inc (fun a z => .inr z), fun l => ⟨fun _ _ _ h => h, fun _ _ _ h => h, fun _ _ h => h, fun _ _ _ h => h, inc⟩⟩
  · rcases List.mem_append.mp z with z | z
    · exact List.mem_append_left _ z
    · exact List.mem_append_right _ (List.mem_append_right _ z)
  · rcases z with z | z
    · exact .inl z
    · exact .inr (.inl (List.mem_append_right _ (List.mem_append_left _ z)))
  · rcases z with z | z
    · exact ok.p a z
    · obtain ⟨u, e, q⟩ := hm a z
      exact ⟨u, e, (hm a z).notbl e⟩
  · rcases List.mem_append.mp z with z | z
    · exact ok.left.m a z
    · exact ok.right.right.m a z
  · rintro (p | p)
    · rcases List.mem_append.mp z with z | z
      · exact ok.left.d a z p
      · exact ok.right.right.d a z p
    · rcases List.mem_append.mp z with z | z
      · exact ok.dis a z (List.mem_append_left _ p)
      · exact ok.right.dis a p z
  · have n := List.nodup_append.mp ok.n
    have n2 := List.nodup_append.mp n.2.1
    exact List.nodup_append.mpr ⟨n.1, n2.2.1, fun a z b w q => n.2.2 a z b (List.mem_append_right _ w) q⟩
/-- taken and frozen -/
theorem OV.takeF_rep {e' : En} (ok : Ok Γ H P (f ++ (o ++ ow))) (rel : RelE Γ H P e σ ow) (r : RepO Γ H P σ a v o) (g : a.takeF e = some (x, e')) :
    ∃ P' ow', Ext H P (f ++ (o ++ ow)) H P' (f ++ ow') ∧ Ok Γ H P' (f ++ ow') ∧ Rep Γ H P' x v [] ∧ RelE Γ H P' e' σ ow' ∧ Kp H P f H P' := by
  cases a with
  | pk i =>
    obtain ⟨e1, rfl⟩ := r
    cases q : slot e i with
    | none => simp [OV.takeF, q] at g
    | some y =>
        have q := slot_some.mp q
        simp [OV.takeF, slot_some.mpr q] at g
        obtain ⟨rfl, rfl⟩ := g
        obtain ⟨v', P', ow', e2, h1, h2, h3, h4, h5⟩ := slot_freeze (f := f) (by simpa using ok) rel q
        rw [e1] at e2; cases e2
        exact ⟨P', ow', by simpa using h1, h2, h3, h4, h5⟩
  | val y =>
    simp [OV.takeF] at g
    obtain ⟨rfl, rfl⟩ := g
    obtain ⟨P', h1, h2, h3, h4⟩ := val_freeze ok (show Rep Γ H P y v o from r)
    exact ⟨P', ow, h1, h2, h3, rel.kp (h4 _), h4 _⟩
/-- taken -/
theorem OV.take_rep {e' : En} (ok : Ok Γ H P (f ++ (o ++ ow))) (rel : RelE Γ H P e σ ow) (r : RepO Γ H P σ a v o) (g : a.take e = some (x, e')) :
    ∃ P' o' ow', Ext H P (f ++ (o ++ ow)) H P' (f ++ (o' ++ ow')) ∧ Ok Γ H P' (f ++ (o' ++ ow')) ∧ Rep Γ H P' x v o' ∧ RelE Γ H P' e' σ ow' ∧ Kp H P f H P' := by
  cases a with
  | pk i =>
    obtain ⟨e1, rfl⟩ := r
    cases q : slot e i with
    | none => simp [OV.take, q] at g
    | some y =>
        have q := slot_some.mp q
        simp [OV.take, slot_some.mpr q] at g
        obtain ⟨rfl, rfl⟩ := g
        obtain ⟨v', P', ow', e2, h1, h2, h3, h4, h5⟩ := slot_freeze (f := f) (by simpa using ok) rel q
        rw [e1] at e2; cases e2
        exact ⟨P', [], ow', by simpa using h1, by simpa using h2, h3, h4, h5⟩
  | val y =>
    simp [OV.take] at g
    obtain ⟨rfl, rfl⟩ := g
    exact ⟨P, o, ow, .refl, ok, r, rel, ⟨fun _ _ _ h => h, fun _ _ _ h => h, fun _ _ h => h, fun _ _ _ h => h, fun _ h => h⟩⟩
end
end VI
set_option Elab.async false
set_option linter.all false
set_option maxRecDepth 100000
/-! VI3: expressions: names, constants, operators, tests, displays. -/
namespace VI
open PySem PySem.Spec PyProof.Rows L2

theorem pe_imp {X : Cx} {e : Expr} {t t' : TE} (h : PE X e t) (i : ∀ σ H Q, t' σ H Q → t σ H Q) : PE X e t' := ⟨fun pins s σ H Q I hw => h.run pins s σ H Q I (i _ _ _ hw)⟩
theorem pt_imp {X : Cx} {e : Expr} {t t' : TT} (h : PT X e t) (i : ∀ σ H Q, t' σ H Q → t σ H Q) : PT X e t' := ⟨fun pins s σ H Q I hw => h.run pins s σ H Q I (i _ _ _ hw)⟩
theorem pw_imp {X : Cx} {e : Expr} {t t' : TT} (h : PW X e t) (i : ∀ σ H Q, t' σ H Q → t σ H Q) : PW X e t' := ⟨fun wh pins s σ H Q I hw => h.run wh pins s σ H Q I (i _ _ _ hw)⟩
theorem pa_imp {X : Cx} {es : List Expr} {t t' : TA} (h : PA X es t) (i : ∀ σ H Q, t' σ H Q → t σ H Q) : PA X es t' := ⟨fun pos pins s σ H Q I hw => h.run pos pins s σ H Q I (i _ _ _ hw)⟩

def RepB (_ : Hp) (_ : Addr → Prop) (_ : L2.St) (b b' : Bool) (o : List Addr) : Prop := b' = b ∧ o = []
def RepOs (Γ : Ctx) (H : Hp) (P : Addr → Prop) (σ : L2.St) : List OV → List V → List Addr → Prop
  | [], vs, o => vs = [] ∧ o = []
  | u :: us, vs, o => ∃ v vs' o1 o2, vs = v :: vs' ∧ RepO Γ H P σ u v o1 ∧ RepOs Γ H P σ us vs' o2 ∧ o = o1 ++ o2
theorem RepO.kp {Γ : Ctx} {H H' : Hp} {P P' : Addr → Prop} {σ : L2.St} {u : OV} {v : V} {o : List Addr} (r : RepO Γ H P σ u v o) (k : Kp H P o H' P') : RepO Γ H' P' σ u v o := by
  cases u with
  | pk i => exact r
  | val x => exact Rep.kp r k
theorem RepOs.kp {Γ : Ctx} {H H' : Hp} {P P' : Addr → Prop} {σ : L2.St} : ∀ {us : List OV} {vs : List V} {o : List Addr}, RepOs Γ H P σ us vs o → Kp H P o H' P' → RepOs Γ H' P' σ us vs o
  | [], _, _, h, _ => h
  | u :: us, _, _, ⟨v, vs', o1, o2, e, h1, h2, rfl⟩, k => ⟨v, vs', o1, o2, e, h1.kp (k.sub fun _ z => List.mem_append_left _ z), RepOs.kp h2 (k.sub fun _ z => List.mem_append_right _ z), rfl⟩
theorem RepOs.length {Γ : Ctx} {H : Hp} {P : Addr → Prop} {σ : L2.St} : ∀ {us : List OV} {vs : List V} {o : List Addr}, RepOs Γ H P σ us vs o → us.length = vs.length
  | [], _, _, h => by rw [h.1]; rfl
  | u :: us, _, _, ⟨v, vs', o1, o2, e, h1, h2, _⟩ => by rw [e, List.length_cons, List.length_cons, RepOs.length h2]

def SE (Γ : Ctx) (X : Cx) (e : Expr) (c : C) : Prop := ∀ W, Takes X W → PE X e (tS Γ (RepO Γ) W c)
def SB (Γ : Ctx) (X : Cx) (e : Expr) (c : CB) : Prop := ∀ W, Takes X W → PT X e (tS Γ RepB W c)
def SW (Γ : Ctx) (X : Cx) (e : Expr) (c : CB) : Prop := ∀ W, Takes X W → PW X e (tS Γ RepB W c)
def SA (Γ : Ctx) (X : Cx) (es : List Expr) (l : List C) : Prop := ∀ W, Takes X W → PA X es (tS Γ (RepOs Γ) W (cs l))

section
variable {Γ : Ctx} {X : Cx} {W : WX} {σ : L2.St} {H : Hp} {P : Addr → Prop} {ow f g : List Addr} {e : En}
/-- temporaries that are no longer wanted -/
theorem ok_drop (ok : Ok Γ H P (g ++ ow)) {H' : Hp} {P' : Addr → Prop} {o : List Addr} (x : Ext H P [] H' P' o) (k : Ok Γ H' P' o) : Ext H P (g ++ ow) H' P' (o ++ ow) ∧ Ok Γ H' P' (o ++ ow) ∧ Kp H P (g ++ ow) H' P' := by
  have ok' : Ok Γ H P ((g ++ ow) ++ []) := by simpa using ok
  obtain ⟨x', k'⟩ := x.frame ok' k
  have hs : ∀ a ∈ o ++ ow, a ∈ (g ++ ow) ++ o := fun a z => by
    rcases List.mem_append.mp z with z | z
    · exact List.mem_append_right _ z
    · exact List.mem_append_left _ (List.mem_append_right _ z)
  refine ⟨by simpa using (x'.sub hs), k'.sub hs ?_, x.kp ok'⟩
  have n := List.nodup_append.mp k'.n
  have n2 := List.nodup_append.mp n.1
  exact List.nodup_append.mpr ⟨n.2.1, n2.2.1, fun a z b w q => n.2.2 b (List.mem_append_right _ w) a z q.symm⟩
theorem fin_val {z : Val} {Q : VK} (ok : Ok Γ H P (g ++ ow)) (rel : RelE Γ H P e σ ow) (acc : Acc Γ (RepO Γ) W σ H P (g ++ ow) Q (.ok (.val z) e)) :
    ∀ w H' P' o, Ext H P [] H' P' o → Ok Γ H' P' o → Rep Γ H' P' z w o → Q w H' := fun w H' P' o x k r => by
  obtain ⟨x', k', kp⟩ := ok_drop ok x k
  exact acc w H' P' o ow x' k' r (rel.kp (kp.sub fun _ z => List.mem_append_right _ z))
theorem se_of {ex : Expr} {v : V} {x : Val} (h : PE X ex (tC v)) (r : ∀ H P, Rep Γ H P x v []) : SE Γ X ex (cV x) := fun W tk => pe_imp h fun σ H Q ⟨P, ow, e, ok, rel, acc⟩ =>
  acc v H P [] ow .refl ok (r H P) rel
theorem se_name {x : Str} {i : Nat} {pos : Pos} (hN : X.N[i]? = some x) (hv : Vis X.env.scope x) (hd : (x == ("__debug__" : Str)) = false := by decide) (hcd : (x == ("__classdict__" : Str)) = false := by decide) : SE Γ X (.Name x pos) (cN i) := fun W tk =>
  pe_imp (pe_var hN hv hd hcd) fun σ H Q ⟨P, ow, e, ok, rel, acc⟩ => by
    unfold cN at acc
    cases q : slot e i with
    | none => rw [q] at acc; exact acc.elim
    | some x =>
      rw [q] at acc
      obtain ⟨v, o1, e1, r, _⟩ := rel.get (slot_some.mp q)
      exact ⟨v, e1, acc v H P [] ow .refl ok ⟨e1, rfl⟩ rel⟩
theorem rep_non {H : Hp} {P : Addr → Prop} : Rep Γ H P .non .non [] := by simp [Rep]
theorem rep_bl {H : Hp} {P : Addr → Prop} {b : Bool} : Rep Γ H P (.bl b) (.bl b) [] := by simp [Rep]
theorem rep_int {H : Hp} {P : Addr → Prop} {i : Int} : Rep Γ H P (.int i) (.int i) [] := by simp [Rep]
theorem rep_str {H : Hp} {P : Addr → Prop} {s : Str} : Rep Γ H P (.str s) (.str s) [] := by simp [Rep]
theorem se_int {i : Int} {j pos} : SE Γ X (.Constant (.int i) j pos) (cV (.int i)) := se_of pe_int fun _ _ => rep_int
theorem se_bl {i : Bool} {j pos} : SE Γ X (.Constant (.bool i) j pos) (cV (.bl i)) := se_of pe_bl fun _ _ => rep_bl
theorem se_non {j pos} : SE Γ X (.Constant .none j pos) (cV .non) := se_of pe_non fun _ _ => rep_non
theorem se_str {i : Str} {j pos} : SE Γ X (.Constant (.str i) j pos) (cV (.str i)) := se_of pe_str fun _ _ => rep_str

/-! ### operators that read -/
def Rd2 (Γ : Ctx) (f : Val → Val → Option Val) (r : R2) : Prop := ∀ (H : Hp) (P : Addr → Prop) (x y z : Val) (v u : V) (o1 o2 : List Addr) (Q : VK), Ok Γ H P [] → f x y = some z → Rep Γ H P x v o1 → Rep Γ H P y u o2 →
  (∀ w H' P' o, Ext H P [] H' P' o → Ok Γ H' P' o → Rep Γ H' P' z w o → Q w H') → r v u H Q
theorem c2_red {fn : Val → Val → Option Val} {r : R2} {ca cb : C} (hf : Rd2 Γ fn r) {Q : VK} (h : tS Γ (RepO Γ) W (c2 fn ca cb) σ H Q) : tOp r (tS Γ (RepO Γ) W ca) (tS Γ (RepO Γ) W cb) σ H Q := by
  obtain ⟨P, ow, e, ok, rel, acc⟩ := h
  refine tS.use (f := []) ok rel acc fun u e1 v H1 P1 o1 ow1 kp1 ok1 r1 rel1 acc1 => ?_
  refine tS.use (f := o1) ok1 rel1 acc1 fun w e2 v2 H2 P2 o2 ow2 kp2 ok2 r2 rel2 acc2 => ?_
  have r1' := r1.kp kp2
  cases q1 : u.get e2 with
  | none => simp [q1, liftO, Acc] at acc2
  | some x =>
    cases q2 : w.get e2 with
    | none => simp [q1, q2, liftO, Acc] at acc2
    | some y =>
      cases q3 : fn x y with
      | none => simp [q1, q2, q3, liftO, Acc] at acc2
      | some z =>
        simp only [q1, q2, q3, liftO, Option.bind_some] at acc2
        obtain ⟨o1', s1⟩ := OV.get_rep rel2 r1' q1
        obtain ⟨o2', s2⟩ := OV.get_rep rel2 r2 q2
        have ok2' : Ok Γ H2 P2 ((o1 ++ o2) ++ ow2) := by simpa using ok2
        refine hf H2 P2 x y z _ _ o1' o2' Q ok2.nil q3 s1 s2 (fin_val ok2' rel2 (by simpa using acc2))
theorem se_2 {fn : Val → Val → Option Val} {r : R2} {ca cb : C} {a b wh : Expr} (hp : ∀ ta tb, PE X a ta → PE X b tb → PE X wh (tOp r ta tb)) (hf : Rd2 Γ fn r) (ha : SE Γ X a ca) (hb : SE Γ X b cb) : SE Γ X wh (c2 fn ca cb) := fun W tk =>
  pe_imp (hp _ _ (ha W tk) (hb W tk)) fun σ H Q h => c2_red hf h
/-- one operand -/
def Rd1 (Γ : Ctx) (f : Val → Option Val) (r : V → Hp → VK → Prop) : Prop := ∀ (H : Hp) (P : Addr → Prop) (x z : Val) (v : V) (o1 : List Addr) (Q : VK), Ok Γ H P [] → f x = some z → Rep Γ H P x v o1 →
  (∀ w H' P' o, Ext H P [] H' P' o → Ok Γ H' P' o → Rep Γ H' P' z w o → Q w H') → r v H Q
theorem c1_red {fn : Val → Option Val} {r : V → Hp → VK → Prop} {ca : C} (hf : Rd1 Γ fn r) {Q : VK} (h : tS Γ (RepO Γ) W (c1 fn ca) σ H Q) : tUn r (tS Γ (RepO Γ) W ca) σ H Q := by
  obtain ⟨P, ow, e, ok, rel, acc⟩ := h
  refine tS.use (f := []) ok rel acc fun u e1 v H1 P1 o1 ow1 kp1 ok1 r1 rel1 acc1 => ?_
  cases q1 : u.get e1 with
  | none => simp [q1, liftO, Acc] at acc1
  | some x =>
    cases q3 : fn x with
    | none => simp [q1, q3, liftO, Acc] at acc1
    | some z =>
      simp only [q1, q3, liftO, Option.bind_some] at acc1
      obtain ⟨o1', s1⟩ := OV.get_rep rel1 r1 q1
      exact hf H1 P1 x z _ o1' Q ok1.nil q3 s1 (fin_val (g := o1) ok1 rel1 acc1)
theorem se_1 {fn : Val → Option Val} {r : V → Hp → VK → Prop} {ca : C} {a wh : Expr} (hp : ∀ ta, PE X a ta → PE X wh (tUn r ta)) (hf : Rd1 Γ fn r) (ha : SE Γ X a ca) : SE Γ X wh (c1 fn ca) := fun W tk =>
  pe_imp (hp _ (ha W tk)) fun σ H Q h => c1_red hf h

/-! ### argument lists -/
theorem sa_nil : SA Γ X [] [] := fun W tk => pa_imp pa_nil fun σ H Q ⟨P, ow, e, ok, rel, acc⟩ => acc [] H P [] ow .refl ok ⟨rfl, rfl⟩ rel
theorem sa_cons {a : Expr} {es : List Expr} {c : C} {l : List C} (ha : SE Γ X a c) (hr : SA Γ X es l) (hs : starEach (a :: es) X.env = (false, eval a X.env) :: starEach es X.env := by rfl) : SA Γ X (a :: es) (c :: l) := fun W tk =>
  pa_imp (pa_cons (ha W tk) (hr W tk) hs) fun σ H Q ⟨P, ow, e, ok, rel, acc⟩ => by
    refine tS.use (f := []) ok rel acc fun u e1 v H1 P1 o1 ow1 kp1 ok1 r1 rel1 acc1 => ?_
    refine tS.use (f := o1) ok1 rel1 acc1 fun us e2 vs H2 P2 o2 ow2 kp2 ok2 r2 rel2 acc2 => ?_
    exact acc2 (v :: vs) H2 P2 (o1 ++ o2) ow2 (by simpa using Ext.refl) (by simpa using ok2) ⟨v, vs, o1, o2, rfl, r1.kp kp2, r2, rfl⟩ rel2

/-- the values of several, peeked at -/
theorem gets_rep : ∀ {us : List OV} {vs : List V} {o : List Addr} {xs : List Val}, RelE Γ H P e σ ow → RepOs Γ H P σ us vs o → gets us e = some xs → Paired (fun v x => ∃ o', Rep Γ H P x v o') vs xs
  | [], _, _, _, rel, h, q => by
    rw [h.1]
    simp only [gets, Option.some.injEq] at q
    subst q
    exact .nil
  | u :: us, _, _, xs, rel, ⟨v, vs', o1, o2, e1, h1, h2, _⟩, q => by
    subst e1
    simp only [gets] at q
    cases q1 : u.get e with
    | none => simp [q1] at q
    | some x =>
      cases q2 : gets us e with
      | none => simp [q1, q2] at q
      | some xs' =>
        simp only [q1, q2, Option.bind_some, Option.map_some, Option.some.injEq] at q
        subst q
        obtain ⟨o', s⟩ := OV.get_rep rel h1 q1
        exact .cons ⟨o', s⟩ (gets_rep rel h2 q2)
/-- a built-in by its values: it reads -/
def RdN (Γ : Ctx) (f : List Val → Option Val) (r : List V → Hp → VK → Prop) : Prop := ∀ (H : Hp) (P : Addr → Prop) (xs : List Val) (z : Val) (vs : List V) (Q : VK), Ok Γ H P [] → f xs = some z → Paired (fun v x => ∃ o, Rep Γ H P x v o) vs xs →
  (∀ w H' P' o, Ext H P [] H' P' o → Ok Γ H' P' o → Rep Γ H' P' z w o → Q w H') → r vs H Q
theorem cB_red {fn : List Val → Option Val} {r : List V → Hp → VK → Prop} {l : List C} (hf : RdN Γ fn r) {Q : VK} (h : tS Γ (RepO Γ) W (cB fn l) σ H Q) : tCB r (tS Γ (RepOs Γ) W (cs l)) σ H Q := by
  obtain ⟨P, ow, e, ok, rel, acc⟩ := h
  refine tS.use (f := []) ok rel acc fun us e1 vs H1 P1 o1 ow1 kp1 ok1 r1 rel1 acc1 => ?_
  cases q1 : gets us e1 with
  | none => simp [q1, liftO, Acc] at acc1
  | some xs =>
    cases q3 : fn xs with
    | none => simp [q1, q3, liftO, Acc] at acc1
    | some z =>
      simp only [q1, q3, liftO, Option.bind_some] at acc1
      exact hf H1 P1 xs z _ Q ok1.nil q3 (gets_rep rel1 r1 q1) (fin_val (g := o1) ok1 rel1 acc1)
theorem se_B {fn : List Val → Option Val} {r : List V → Hp → VK → Prop} {l : List C} {es : List Expr} {wh : Expr} (hp : ∀ t, PA X es t → PE X wh (tCB r t)) (hf : RdN Γ fn r) (ha : SA Γ X es l) : SE Γ X wh (cB fn l) := fun W tk =>
  pe_imp (hp _ (ha W tk)) fun σ H Q h => cB_red hf h

/-! ### tests -/
theorem tB_acc {c : C} {Q : Bool → Hp → Prop} (h : tS Γ RepB W (tB c) σ H Q) : tS Γ (RepO Γ) W c σ H (fun x H' => ∃ k, x = V.bl k ∧ Q k H') := by
  obtain ⟨P, ow, e, ok, rel, acc⟩ := h
  refine ⟨P, ow, e, ok, rel, ?_⟩
  unfold tB at acc
  cases q : c e with
  | ok u e1 =>
    rw [q] at acc
    intro v H' P' o ow' x k r rel'
    simp only [Res.bind] at acc
    cases q1 : u.get e1 with
    | none => simp [q1, Acc] at acc
    | some y =>
      cases y <;> first | (simp [q1, Acc] at acc; done) | skip
      rename_i b
      simp only [q1] at acc
      obtain ⟨o', s⟩ := OV.get_rep rel' r q1
      simp only [Rep] at s
      refine ⟨b, s.1, acc b H' P' [] ow' (x.sub fun a z => List.mem_append_right _ z) k.right ⟨rfl, rfl⟩ rel'⟩
  | exc x e1 => rw [q] at acc; exact acc
  | bad => rw [q] at acc; exact acc
theorem sb_val {ex : Expr} {c : C} (h : SE Γ X ex c) (he : ∀ whole, isTrue ex X.env whole = (do let v ← whole; standAt ex.pos; holding [v] (truthy v)) := by intro _; rfl) : SB Γ X ex (tB c) := fun W tk =>
  pt_imp (pt_val (h W tk) he) fun σ H Q h => tB_acc h
theorem sb_2 {fn : Val → Val → Option Val} {r : R2} {ca cb : C} {a b wh : Expr} (hp : ∀ ta tb, PE X a ta → PE X b tb → PT X wh (tTest (tOp r ta tb))) (hf : Rd2 Γ fn r) (ha : SE Γ X a ca) (hb : SE Γ X b cb) : SB Γ X wh (tB (c2 fn ca cb)) := fun W tk =>
  pt_imp (hp _ _ (ha W tk) (hb W tk)) fun σ H Q h => c2_red hf (tB_acc h)
theorem sb_not {a : Expr} {ca : CB} {pos : Pos} (ha : SB Γ X a ca) : SB Γ X (.UnaryOp .Not a pos) (tNot ca) := fun W tk =>
  pt_imp (pt_not (ha W tk)) fun σ H Q ⟨P, ow, e, ok, rel, acc⟩ => by
    refine tS.use (f := []) ok rel acc fun b e1 b' H1 P1 o1 ow1 kp1 ok1 r1 rel1 acc1 => ?_
    obtain ⟨rfl, rfl⟩ := r1
    exact acc1 (!b') H1 P1 [] ow1 .refl ok1 ⟨rfl, rfl⟩ rel1
theorem and_red {ca cb : CB} {Q : Bool → Hp → Prop} (h : tS Γ RepB W (VI.tAnd ca cb) σ H Q) : L2.tAnd (tS Γ RepB W ca) (tS Γ RepB W cb) σ H Q := by
  obtain ⟨P, ow, e, ok, rel, acc⟩ := h
  refine tS.use (f := []) ok rel acc fun b e1 b' H1 P1 o1 ow1 kp1 ok1 r1 rel1 acc1 => ?_
  obtain ⟨rfl, rfl⟩ := r1
  cases b' with
  | true => exact ⟨P1, ow1, e1, ok1, rel1, acc1⟩
  | false => exact acc1 false H1 P1 [] ow1 .refl ok1 ⟨rfl, rfl⟩ rel1
theorem or_red {ca cb : CB} {Q : Bool → Hp → Prop} (h : tS Γ RepB W (VI.tOr ca cb) σ H Q) : L2.tOr (tS Γ RepB W ca) (tS Γ RepB W cb) σ H Q := by
  obtain ⟨P, ow, e, ok, rel, acc⟩ := h
  refine tS.use (f := []) ok rel acc fun b e1 b' H1 P1 o1 ow1 kp1 ok1 r1 rel1 acc1 => ?_
  obtain ⟨rfl, rfl⟩ := r1
  cases b' with
  | false => exact ⟨P1, ow1, e1, ok1, rel1, acc1⟩
  | true => exact acc1 true H1 P1 [] ow1 .refl ok1 ⟨rfl, rfl⟩ rel1
theorem sw_and1 {a : Expr} {ca : CB} {pos : Pos} (ha : SB Γ X a ca) : SW Γ X (.BoolOp .And [a] pos) ca := fun W tk => pw_and1 (ha W tk)
theorem sw_or1 {a : Expr} {ca : CB} {pos : Pos} (ha : SB Γ X a ca) : SW Γ X (.BoolOp .Or [a] pos) ca := fun W tk => pw_or1 (ha W tk)
theorem sw_and {a b : Expr} {r : List Expr} {ca cb : CB} {pos : Pos} (ha : SB Γ X a ca) (hb : SW Γ X (.BoolOp .And (b :: r) pos) cb) : SW Γ X (.BoolOp .And (a :: b :: r) pos) (VI.tAnd ca cb) := fun W tk =>
  pw_imp (pw_and (ha W tk) (hb W tk)) fun σ H Q h => and_red h
theorem sw_or {a b : Expr} {r : List Expr} {ca cb : CB} {pos : Pos} (ha : SB Γ X a ca) (hb : SW Γ X (.BoolOp .Or (b :: r) pos) cb) : SW Γ X (.BoolOp .Or (a :: b :: r) pos) (VI.tOr ca cb) := fun W tk =>
  pw_imp (pw_or (ha W tk) (hb W tk)) fun σ H Q h => or_red h
theorem sb_w {a : Expr} {ca : CB} (h : SW Γ X a ca) : SB Γ X a ca := fun W tk => (h W tk).pt
/-- and, or, not as values -/
theorem se_one {a : Expr} {c : C} {op} {pos : Pos} (h : SE Γ X a c) : SE Γ X (.BoolOp op [a] pos) c := fun W tk => pe_one (h W tk)
theorem se_and {a b : Expr} {r : List Expr} {ca cb : C} {pos : Pos} (ha : SE Γ X a ca) (hb : SE Γ X (.BoolOp .And (b :: r) pos) cb) : SE Γ X (.BoolOp .And (a :: b :: r) pos) (cAnd ca cb) := fun W tk =>
  pe_imp (pe_and (ha W tk) (hb W tk)) fun σ H Q ⟨P, ow, e, ok, rel, acc⟩ => by
    refine tS.use (f := []) ok rel acc fun u e1 v H1 P1 o1 ow1 kp1 ok1 r1 rel1 acc1 => ?_
    cases q1 : u.get e1 with
    | none => simp [q1, Acc] at acc1
    | some y =>
      cases y <;> first | (simp [q1, Acc] at acc1; done) | skip
      rename_i b
      obtain ⟨o', s⟩ := OV.get_rep rel1 r1 q1
      simp only [Rep] at s
      refine ⟨b, s.1, ?_⟩
      cases b with
      | true =>
        simp only [q1] at acc1
        exact ⟨P1, ow1, e1, ok1.right.right, rel1, acc1.rebase (Ext.refl.sub fun a z => List.mem_append_right o1 z)⟩
      | false =>
        simp only [q1] at acc1
        exact acc1 _ H1 P1 [] ow1 (Ext.refl.sub fun a z => List.mem_append_right o1 z) ok1.right.right (rep_bl (Γ := Γ) (H := H1) (P := P1)) rel1
def notV : Val → Option Val
  | .bl b => some (.bl (!b))
  | _ => none
theorem se_not {a : Expr} {ca : C} {pos : Pos} (ha : SE Γ X a ca) : SE Γ X (.UnaryOp .Not a pos) (c1 notV ca) :=
  se_1 (r := fun x H1 Q => ∃ c, x = .bl c ∧ Q (.bl (!c)) H1) (fun ta h => pe_not h) (fun H P x z v o1 Q ok hf r q => by
    cases x <;> simp [notV] at hf
    subst hf
    simp only [Rep] at r
    exact ⟨_, r.1, q _ H P [] .refl ok rep_bl⟩) ha
theorem se_if {t a b : Expr} {ct : CB} {ca cb : C} {pos : Pos} (ht : SB Γ X t ct) (ha : SE Γ X a ca) (hb : SE Γ X b cb) : SE Γ X (.IfExp t a b pos) (cIf ct ca cb) := fun W tk =>
  pe_imp (pe_ifExp (ht W tk) (ha W tk) (hb W tk)) fun σ H Q ⟨P, ow, e, ok, rel, acc⟩ => by
    refine tS.use (f := []) ok rel acc fun b e1 b' H1 P1 o1 ow1 kp1 ok1 r1 rel1 acc1 => ?_
    obtain ⟨rfl, rfl⟩ := r1
    cases b' with
    | true => exact ⟨P1, ow1, e1, ok1, rel1, acc1⟩
    | false => exact ⟨P1, ow1, e1, ok1, rel1, acc1⟩
/-- a < b < c -/
theorem ch_red {fn gn : Val → Val → Option Val} {r r' : R2} {ca cb cc : C} (hf : Rd2 Γ fn r) (hg : Rd2 Γ gn r') {Q : VK} (h : tS Γ (RepO Γ) W (cCh fn gn ca cb cc) σ H Q) :
    tChain r r' (tS Γ (RepO Γ) W ca) (tS Γ (RepO Γ) W cb) (tS Γ (RepO Γ) W cc) σ H Q := by
  obtain ⟨P, ow, e, ok, rel, acc⟩ := h
  refine tS.use (f := []) ok rel acc fun u e1 v H1 P1 o1 ow1 kp1 ok1 r1 rel1 acc1 => ?_
  refine tS.use (f := o1) ok1 rel1 acc1 fun w e2 v2 H2 P2 o2 ow2 kp2 ok2 r2 rel2 acc2 => ?_
  have r1' := r1.kp kp2
  cases q1 : u.get e2 with
  | none => simp [q1, Acc] at acc2
  | some x =>
    cases q2 : w.get e2 with
    | none => simp [q1, q2, Acc] at acc2
    | some y =>
      cases q3 : fn x y with
      | none => simp [q1, q2, q3, Acc] at acc2
      | some z =>
        cases z <;> first | (simp [q1, q2, q3, Acc] at acc2; done) | skip
        rename_i b
        obtain ⟨o1', s1⟩ := OV.get_rep rel2 r1' q1
        obtain ⟨o2', s2⟩ := OV.get_rep rel2 r2 q2
        refine hf H2 P2 x y (.bl b) _ _ o1' o2' _ ok2.nil q3 s1 s2 fun w3 H3 P3 o3 x3 k3 s3 => ?_
        have ok2' : Ok Γ H2 P2 (o1 ++ (o2 ++ ow2)) := ok2
        obtain ⟨x3', k3', kp3⟩ := ok_drop ok2' x3 k3
        have e3 : o3 = [] := s3.nil (by simp [isFz])
        subst e3
        simp only [Rep] at s3
        refine ⟨b, s3.1, ?_⟩
        have rel3 : RelE Γ H3 P3 e2 σ ow2 := rel2.kp (kp3.sub fun a z => List.mem_append_right _ (List.mem_append_right _ z))
        cases b with
        | true =>
          simp only [q1, q2, q3, Option.bind_some] at acc2
          have acc3 := acc2.rebase x3'
          simp only [List.nil_append] at acc3 k3'
          show (tS Γ (RepO Γ) W cc) σ H3 _
          refine tS.use (f := o2) k3' rel3 acc3 fun p e4 v4 H4 P4 o4 ow4 kp4 ok4 r4 rel4 acc4 => ?_
          have r2' : RepO Γ H4 P4 σ w v2 o2 := (r2.kp (kp3.sub fun a z => List.mem_append_right _ (List.mem_append_left _ z))).kp kp4
          cases q5 : w.get e4 with
          | none => simp [q5, liftO, Acc] at acc4
          | some y' =>
            cases q6 : p.get e4 with
            | none => simp [q5, q6, liftO, Acc] at acc4
            | some v' =>
              cases q7 : gn y' v' with
              | none => simp [q5, q6, q7, liftO, Acc] at acc4
              | some z' =>
                simp only [q5, q6, q7, liftO, Option.bind_some] at acc4
                obtain ⟨o5', s5⟩ := OV.get_rep rel4 r2' q5
                obtain ⟨o6', s6⟩ := OV.get_rep rel4 r4 q6
                have ok4' : Ok Γ H4 P4 ((o2 ++ o4) ++ ow4) := by simpa using ok4
                exact hg H4 P4 y' v' z' _ _ o5' o6' Q ok4.nil q7 s5 s6 (fin_val ok4' rel4 (by simpa using acc4))
        | false =>
          simp only [q1, q2, q3, Option.bind_some] at acc2
          have acc3 := acc2.rebase x3'
          simp only [List.nil_append] at acc3 k3'
          show Q (.bl false) H3
          exact acc3 _ H3 P3 [] ow2 (Ext.refl.sub fun a z => List.mem_append_right o2 z) k3'.right (rep_bl (Γ := Γ) (H := H3) (P := P3)) rel3
theorem se_ch {fn gn : Val → Val → Option Val} {op op' : CmpOp} {r r' : R2} {ca cb cc : C} {a b c : Expr} {pos : Pos} (ho : OpR X (compareOp op) r) (ho' : OpR X (compareOp op') r') (hf : Rd2 Γ fn r) (hg : Rd2 Γ gn r') (ha : SE Γ X a ca) (hb : SE Γ X b cb) (hc : SE Γ X c cc)
    (hm : lastMarks [op, op'] [b, c] = false := by rfl) : SE Γ X (.Compare a [op, op'] [b, c] pos) (cCh fn gn ca cb cc) := fun W tk =>
  pe_imp (pe_chain ho ho' (ha W tk) (hb W tk) (hc W tk) (hm := hm)) fun σ H Q h => ch_red hf hg h
theorem sb_ch {fn gn : Val → Val → Option Val} {op op' : CmpOp} {r r' : R2} {ca cb cc : C} {a b c : Expr} {pos : Pos} (ho : OpR X (compareOp op) r) (ho' : OpR X (compareOp op') r') (hf : Rd2 Γ fn r) (hg : Rd2 Γ gn r') (ha : SE Γ X a ca) (hb : SE Γ X b cb) (hc : SE Γ X c cc)
    (hm : lastMarks [op, op'] [b, c] = false := by rfl) : SB Γ X (.Compare a [op, op'] [b, c] pos) (tB (cCh fn gn ca cb cc)) := fun W tk =>
  pt_imp (pt_chain ho ho' (ha W tk) (hb W tk) (hc W tk) (hm := hm)) fun σ H Q h => ch_red hf hg (tB_acc h)
end
end VI
set_option Elab.async false
set_option linter.all false
set_option maxRecDepth 100000
/-! VI4: displays, calls of defs, statements, loops. -/
namespace VI
open PySem PySem.Spec PyProof.Rows L2

theorem pm {l1 l2 : List Addr} (h : ∀ a : Nat, List.count a l1 = List.count a l2) : l1.Perm l2 := List.perm_iff_count.mpr h

section
variable {Γ : Ctx} {X : Cx} {W : WX} {σ : L2.St} {H : Hp} {P : Addr → Prop} {ow f g o : List Addr} {e e' : En}
/-! ### taking several -/
theorem takesF_rep : ∀ {us : List OV} {vs : List V} {o f ow : List Addr} {P : Addr → Prop} {e e' : En} {xs : List Val}, Ok Γ H P (f ++ (o ++ ow)) → RelE Γ H P e σ ow → RepOs Γ H P σ us vs o → takesF us e = some (xs, e') →
    ∃ P' ow', Ext H P (f ++ (o ++ ow)) H P' (f ++ ow') ∧ Ok Γ H P' (f ++ ow') ∧ RepL Γ H P' xs vs [] ∧ RelE Γ H P' e' σ ow' ∧ Kp H P f H P'
  | [], vs, o, f, ow, P, e, e', xs, ok, rel, ⟨h1, h2⟩, q => by
    simp only [takesF, Option.some.injEq, Prod.mk.injEq] at q
    obtain ⟨rfl, rfl⟩ := q
    subst h1 h2
    exact ⟨P, ow, .refl, ok, by simp [RepL], rel, ⟨fun _ _ _ h => h, fun _ _ _ h => h, fun _ _ h => h, fun _ _ _ h => h, fun _ h => h⟩⟩
  | u :: us, vs, o, f, ow, P, e, e', xs, ok, rel, h, q => by
    obtain ⟨v, vs', o1, o2, rfl, h1, h2, rfl⟩ := h
    simp only [takesF] at q
    cases q1 : u.takeF e with
    | none => simp [q1] at q
    | some p =>
      obtain ⟨x, e1⟩ := p
      simp only [q1, Option.bind_some] at q
      cases q2 : takesF us e1 with
      | none => simp [q2] at q
      | some p2 =>
        obtain ⟨xs', e2⟩ := p2
        simp only [q2, Option.map_some, Option.some.injEq, Prod.mk.injEq] at q
        obtain ⟨rfl, rfl⟩ := q
        have pq : (f ++ ((o1 ++ o2) ++ ow)).Perm ((f ++ o2) ++ (o1 ++ ow)) := pm (by intro a; simp only [List.count_append]; omega)
        obtain ⟨P1, ow1, x1, k1, r1, rel1, kp1⟩ := OV.takeF_rep (ok.perm pq) rel h1 q1
        have pq2 : ((f ++ o2) ++ ow1).Perm (f ++ (o2 ++ ow1)) := pm (by intro a; simp only [List.count_append]; omega)
        obtain ⟨P2, ow2, x2, k2, r2, rel2, kp2⟩ := takesF_rep (k1.perm pq2) rel1 (h2.kp (kp1.sub fun a z => List.mem_append_right _ z)) q2
        refine ⟨P2, ow2, ((x1.permL pq.symm).perm pq2).trans x2, k2, ?_, rel2, ?_⟩
        · simp only [RepL]
          exact ⟨v, vs', [], [], rfl, r1.kp (kp2.sub fun a z => by cases z), r2, rfl⟩
        · exact ⟨fun _ _ _ h => h, fun _ _ _ h => h, fun _ _ h => h, fun _ _ _ h => h, fun a h => kp2.inc a (kp1.inc a h)⟩
theorem takes_rep : ∀ {us : List OV} {vs : List V} {o f ow : List Addr} {P : Addr → Prop} {e e' : En} {xs : List Val}, Ok Γ H P (f ++ (o ++ ow)) → RelE Γ H P e σ ow → RepOs Γ H P σ us vs o → takes us e = some (xs, e') →
    ∃ P' o' ow', Ext H P (f ++ (o ++ ow)) H P' (f ++ (o' ++ ow')) ∧ Ok Γ H P' (f ++ (o' ++ ow')) ∧ RepL Γ H P' xs vs o' ∧ RelE Γ H P' e' σ ow' ∧ Kp H P f H P'
  | [], vs, o, f, ow, P, e, e', xs, ok, rel, ⟨h1, h2⟩, q => by
    simp only [takes, Option.some.injEq, Prod.mk.injEq] at q
    obtain ⟨rfl, rfl⟩ := q
    subst h1 h2
    exact ⟨P, [], ow, .refl, ok, by simp [RepL], rel, ⟨fun _ _ _ h => h, fun _ _ _ h => h, fun _ _ h => h, fun _ _ _ h => h, fun _ h => h⟩⟩
  | u :: us, vs, o, f, ow, P, e, e', xs, ok, rel, h, q => by
    obtain ⟨v, vs', o1, o2, rfl, h1, h2, rfl⟩ := h
    simp only [takes] at q
    cases q1 : u.take e with
    | none => simp [q1] at q
    | some p =>
      obtain ⟨x, e1⟩ := p
      simp only [q1, Option.bind_some] at q
      cases q2 : takes us e1 with
      | none => simp [q2] at q
      | some p2 =>
        obtain ⟨xs', e2⟩ := p2
        simp only [q2, Option.map_some, Option.some.injEq, Prod.mk.injEq] at q
        obtain ⟨rfl, rfl⟩ := q
        have pq : (f ++ ((o1 ++ o2) ++ ow)).Perm ((f ++ o2) ++ (o1 ++ ow)) := pm (by intro a; simp only [List.count_append]; omega)
        obtain ⟨P1, o1', ow1, x1, k1, r1, rel1, kp1⟩ := OV.take_rep (ok.perm pq) rel h1 q1
        have pq2 : ((f ++ o2) ++ (o1' ++ ow1)).Perm ((f ++ o1') ++ (o2 ++ ow1)) := pm (by intro a; simp only [List.count_append]; omega)
        obtain ⟨P2, o2', ow2, x2, k2, r2, rel2, kp2⟩ := takes_rep (k1.perm pq2) rel1 (h2.kp (kp1.sub fun a z => List.mem_append_right _ z)) q2
        have pq3 : ((f ++ o1') ++ (o2' ++ ow2)).Perm (f ++ ((o1' ++ o2') ++ ow2)) := pm (by intro a; simp only [List.count_append]; omega)
        refine ⟨P2, o1' ++ o2', ow2, (((x1.permL pq.symm).perm pq2).trans x2).perm pq3, k2.perm pq3, ?_, rel2, ?_⟩
        · simp only [RepL]
          exact ⟨v, vs', o1', o2', rfl, r1.kp (kp2.sub fun a z => List.mem_append_right _ z), r2, rfl⟩
        · exact ⟨fun _ _ _ h => h, fun _ _ _ h => h, fun _ _ h => h, fun _ _ _ h => h, fun a h => kp2.inc a (kp1.inc a h)⟩

/-! ### new objects -/
theorem new_base {p : Addr} {u : HO} (ok : Ok Γ H P ow) (hp : H p = none) (hu : ∀ ps, u ≠ .tbl ps) (hz : ∀ xs : List V, (u = .lst xs ∨ ∃ ob, u = .frz ob (.tup xs)) → xs.length ≤ sizeLine) (hf : ∀ ob xs, u ≠ .frz ob (.lst xs)) (hw : Wr (upd H p u) p) :
    Ext H P [] (upd H p u) P [p] ∧ Ok Γ (upd H p u) P [p] ∧ Kp H P ow (upd H p u) P := by
  have kp : ∀ a v, H a = some v → upd H p u a = some v := fun a v h => by rw [upd_ne (ne_of_none h hp)]; exact h
  refine ⟨⟨fun a v h _ _ => kp a v h, fun a z => ?_, fun _ h => h, fun _ h => .inl h, fun a v h => ⟨v, kp a v h⟩⟩, ⟨fun a h => ?_, fun a z => ?_, fun a z => ?_, ?_, ok.t.ext fun b o h => kp b o h, fun a xs h => ?_⟩, ⟨fun a _ v h => kp a v h, fun a v _ h => kp a v h, fun a xs h => kp a _ h, fun a ob v h => kp a _ h, fun _ h => h⟩⟩
  · rw [List.mem_singleton] at z; subst z; exact .inr hp
  · obtain ⟨v, h1, h2⟩ := ok.p a h
    exact ⟨v, kp a v h1, h2⟩
  · rw [List.mem_singleton] at z; subst z; exact hw
  · rw [List.mem_singleton] at z
    subst z
    intro h
    obtain ⟨v, h1, h2⟩ := ok.p a h
    rw [hp] at h1; cases h1
  · exact List.nodup_cons.mpr ⟨by simp, List.nodup_nil⟩
  · by_cases ha : a = p
    · subst ha
      rcases h with (h | ⟨ob, h⟩) | ⟨ob, h, _⟩
      · rw [upd_same] at h; cases h; exact hz xs (.inl rfl)
      · rw [upd_same] at h; cases h; exact absurd rfl (hf ob xs)
      · rw [upd_same] at h; cases h; exact hz xs (.inr ⟨ob, rfl⟩)
    · refine ok.z a xs ?_
      rcases h with (h | ⟨ob, h⟩) | ⟨ob, h, hd⟩
      · rw [upd_ne ha] at h; exact .inl (.inl h)
      · rw [upd_ne ha] at h; exact .inl (.inr ⟨ob, h⟩)
      · rw [upd_ne ha] at h; exact .inr ⟨ob, h, hd⟩
theorem new_lst {p : Addr} {ws : List V} (ok : Ok Γ H P ow) (hp : H p = none) (hz : ws.length ≤ sizeLine) :
    Ext H P [] (upd H p (.lst ws)) P [p] ∧ Ok Γ (upd H p (.lst ws)) P [p] ∧ Kp H P ow (upd H p (.lst ws)) P :=
  new_base ok hp (fun _ z => by cases z) (fun xs h => by rcases h with h | ⟨_, h⟩ <;> cases h; exact hz) (fun _ _ z => by cases z) ⟨_, upd_same, .inl ⟨_, rfl⟩⟩
theorem new_dic {p : Addr} {ws : List (Key × V)} (ok : Ok Γ H P ow) (hp : H p = none) :
    Ext H P [] (upd H p (.dK ws)) P [p] ∧ Ok Γ (upd H p (.dK ws)) P [p] ∧ Kp H P ow (upd H p (.dK ws)) P :=
  new_base ok hp (fun _ z => by cases z) (fun xs h => by rcases h with h | ⟨_, h⟩ <;> cases h) (fun _ _ z => by cases z) ⟨_, upd_same, .inr (.inl ⟨_, rfl⟩)⟩
/-- a new object that nobody may change -/
theorem new_fix {p : Addr} {u : HO} (ok : Ok Γ H P ow) (hp : H p = none) (hz : ∀ xs : List V, (u = .lst xs ∨ ∃ ob, u = .frz ob (.tup xs)) → xs.length ≤ sizeLine) (hf : ∀ ob xs, u ≠ .frz ob (.lst xs)) :
    Ext H P [] (upd H p u) P [] ∧ Ok Γ (upd H p u) P [] ∧ Kp H P ow (upd H p u) P := by
  have kp : ∀ a v, H a = some v → upd H p u a = some v := fun a v h => by rw [upd_ne (ne_of_none h hp)]; exact h
  refine ⟨⟨fun a v h _ _ => kp a v h, fun a z => (by cases z), fun _ h => h, fun _ h => .inl h, fun a v h => ⟨v, kp a v h⟩⟩, ⟨fun a h => ?_, fun a z => (by cases z), fun a z => (by cases z), List.nodup_nil, ok.t.ext fun b o h => kp b o h, fun a xs h => ?_⟩, ⟨fun a _ v h => kp a v h, fun a v _ h => kp a v h, fun a xs h => kp a _ h, fun a ob v h => kp a _ h, fun _ h => h⟩⟩
  · obtain ⟨v, h1, h2⟩ := ok.p a h
    exact ⟨v, kp a v h1, h2⟩
  · by_cases ha : a = p
    · subst ha
      rcases h with (h | ⟨ob, h⟩) | ⟨ob, h, _⟩
      · rw [upd_same] at h; cases h; exact hz xs (.inl rfl)
      · rw [upd_same] at h; cases h; exact absurd rfl (hf ob xs)
      · rw [upd_same] at h; cases h; exact hz xs (.inr ⟨ob, rfl⟩)
    · refine ok.z a xs ?_
      rcases h with (h | ⟨ob, h⟩) | ⟨ob, h, hd⟩
      · rw [upd_ne ha] at h; exact .inl (.inl h)
      · rw [upd_ne ha] at h; exact .inl (.inr ⟨ob, h⟩)
      · rw [upd_ne ha] at h; exact .inr ⟨ob, h, hd⟩
theorem new_tup {p : Addr} {ws : List V} (ok : Ok Γ H P ow) (hp : H p = none) (hz : ws.length ≤ sizeLine) :
    Ext H P [] (upd H p (.tup ws)) P [] ∧ Ok Γ (upd H p (.tup ws)) P [] ∧ Kp H P ow (upd H p (.tup ws)) P :=
  new_fix ok hp (fun xs h => by rcases h with h | ⟨_, h⟩ <;> cases h) (fun _ _ z => by cases z)
/-- .. a tuple whose object is known -/
theorem new_tupN {p : Addr} {ob : Obj} {ws : List V} (ok : Ok Γ H P ow) (hp : H p = none) (hz : ws.length ≤ sizeLine) :
    Ext H P [] (upd H p (.frz ob (.tup ws))) P [] ∧ Ok Γ (upd H p (.frz ob (.tup ws))) P [] ∧ Kp H P ow (upd H p (.frz ob (.tup ws))) P :=
  new_fix ok hp (fun xs h => by rcases h with h | ⟨_, h⟩ <;> cases h; exact hz) (fun _ _ z => by cases z)
/-- (e, ..): the object is known -/
def tTupN (t : TA) : TE := fun σ H Q => t σ H fun xs H1 => xs.length ≤ sizeLine ∧ ∀ p ob, H1 p = none → ob.dict = none → Q (.ref p) (upd H1 p (.frz ob (.tup xs)))
theorem pe_tupN {X : Cx} {es : List Expr} {t : TA} {pos : Pos} {x1} (h : PA X es t) : PE X (.Tuple es x1 pos) (tTupN t) :=
  ⟨fun pins s σ H Q I hq => wpAny_Tuple_spliced <| thn (h.run pos pins s σ H _ I hq) fun us s1 ⟨xs, H1, I1, r, z, q⟩ => by
    refine ⟨Nat.le_trans (Nat.le_of_eq r.length.symm) z, .ref s1.heap.objs.size, _, I1.laid (t' := s1.toks) (o := .frz { cls := .type "tuple", data := .seq us.toArray } (.tup xs)) (fun _ _ e => Heap.get?_push_of_some _ e) (Nat.le_refl _) ?_, rfl,
      q _ _ (I1.hok.fresh (Nat.le_refl _)) rfl⟩
    exact ⟨Heap.get?_push_size _ rfl, z, us, r, ⟨_, Heap.get?_push_size _ rfl, rfl, _, rfl⟩⟩⟩

/-! ### displays -/
theorem cs_length : ∀ {l : List C} {e : En} {us : List OV} {e1 : En}, cs l e = .ok us e1 → us.length = l.length
  | [], _, _, _, h => by simp only [cs, Res.ok.injEq] at h; rw [← h.1]; rfl
  | c :: l, e, us, e1, h => by
    simp only [cs] at h
    cases q : c e with
    | ok u e2 =>
      rw [q] at h
      simp only [Res.bind] at h
      cases q2 : cs l e2 with
      | ok us' e3 =>
        rw [q2] at h
        simp only [Res.ok.injEq] at h
        rw [← h.1, List.length_cons, List.length_cons, cs_length q2]
      | exc x e3 => rw [q2] at h; cases h
      | bad => rw [q2] at h; cases h
    | exc x e2 => rw [q] at h; cases h
    | bad => rw [q] at h; cases h
theorem small_line {n : Nat} (h : n ≤ 1000) : n ≤ sizeLine := Nat.le_trans h (by rw [sizeLine_eq]; decide)
theorem se_tup {es : List Expr} {l : List C} {x1} {pos : Pos} (ha : SA Γ X es l) (hl : decide (l.length ≤ 1000) = true := by rfl) : SE Γ X (.Tuple es x1 pos) (cTup l) := fun W tk =>
  pe_imp (pe_tupN (ha W tk)) fun σ H Q ⟨P, ow, e, ok, rel, acc⟩ => by
    refine tS.useE (f := []) ok rel acc fun us e1 vs H1 P1 o1 ow1 hc kp1 ok1 r1 rel1 acc1 => ?_
    cases q : takesF us e1 with
    | none => simp [q, Acc] at acc1
    | some p =>
      obtain ⟨xs, e2⟩ := p
      simp only [q] at acc1
      obtain ⟨P2, ow2, x2, k2, r2, rel2, kp2⟩ := takesF_rep (f := []) ok1 rel1 r1 q
      have hz : vs.length ≤ sizeLine := by
        rw [← r1.length, cs_length hc]
        exact small_line (of_decide_eq_true hl)
      refine ⟨hz, fun p ob hp hob => ?_⟩
      obtain ⟨x3, k3, kp3⟩ := new_tupN (ob := ob) (ws := vs) k2 hp hz
      obtain ⟨x4, k4, kp4⟩ := ok_drop (g := []) k2 x3 k3
      refine acc1 _ _ P2 [] ow2 (x2.trans x4) k4 ?_ (rel2.kp kp4)
      show Rep Γ _ P2 (.tup xs) _ _
      simp only [Rep]
      exact ⟨p, vs, rfl, ⟨ob, upd_same, hob⟩, r2.kp (kp3.sub fun a z => by cases z)⟩
theorem se_lst {es : List Expr} {l : List C} {pos : Pos} (ha : SA Γ X es l) (hl : decide (l.length ≤ 1000) = true := by rfl) : SE Γ X (.List es pos) (cLst l) := fun W tk =>
  pe_imp (pe_lst (ha W tk)) fun σ H Q ⟨P, ow, e, ok, rel, acc⟩ => by
    refine tS.useE (f := []) ok rel acc fun us e1 vs H1 P1 o1 ow1 hc kp1 ok1 r1 rel1 acc1 => ?_
    cases q : takesF us e1 with
    | none => simp [q, Acc] at acc1
    | some p =>
      obtain ⟨xs, e2⟩ := p
      simp only [q] at acc1
      obtain ⟨P2, ow2, x2, k2, r2, rel2, kp2⟩ := takesF_rep (f := []) ok1 rel1 r1 q
      have hz : vs.length ≤ sizeLine := by
        rw [← r1.length, cs_length hc]
        exact small_line (of_decide_eq_true hl)
      refine ⟨hz, fun p hp => ?_⟩
      obtain ⟨x3, k3, kp3⟩ := new_lst (ws := vs) k2 hp hz
      obtain ⟨x4, k4, kp4⟩ := ok_drop (g := []) k2 x3 k3
      refine acc1 _ _ P2 [p] ow2 (x2.trans x4) k4 ?_ (rel2.kp kp4)
      show Rep Γ _ P2 (.lst true xs) _ _
      simp only [Rep]
      exact ⟨p, vs, [], rfl, upd_same, r2.kp (kp3.sub fun a z => by cases z), rfl⟩
/-! ### calls of defs -/
def RepOut (Γ : Ctx) (H : Hp) (P : Addr → Prop) (vs : List V) : List (Nat × Val) → List Addr → Prop
  | [], o => o = []
  | (i, x) :: r, o => ∃ v o1 o2, vs[i]? = some v ∧ Rep Γ H P x v o1 ∧ RepOut Γ H P vs r o2 ∧ o = o1 ++ o2
theorem RepOut.kp {H' : Hp} {P' : Addr → Prop} {vs : List V} : ∀ {outs : List (Nat × Val)} {o : List Addr}, RepOut Γ H P vs outs o → Kp H P o H' P' → RepOut Γ H' P' vs outs o
  | [], _, h, _ => h
  | (i, x) :: r, _, ⟨v, o1, o2, e, h1, h2, rfl⟩, k => ⟨v, o1, o2, e, h1.kp (k.sub fun _ z => List.mem_append_left _ z), RepOut.kp h2 (k.sub fun _ z => List.mem_append_right _ z), rfl⟩
/-- one of them is taken out -/
theorem RepOut.pick {vs : List V} {p : Nat} {x : Val} : ∀ {outs : List (Nat × Val)} {o : List Addr}, RepOut Γ H P vs outs o → outs.lookup p = some x → ∃ v o1 o2 outs', vs[p]? = some v ∧ Rep Γ H P x v o1 ∧ RepOut Γ H P vs outs' o2 ∧ o.Perm (o1 ++ o2) ∧
    ∀ q, q ≠ p → outs'.lookup q = outs.lookup q
  | [], _, _, e => by simp at e
  | (i, y) :: r, _, ⟨v, o1, o2, e1, h1, h2, rfl⟩, e => by
    by_cases hp : p = i
    · subst hp
      simp only [List.lookup_cons, beq_self_eq_true, Option.some.injEq] at e
      subst e
      refine ⟨v, o1, o2, r, e1, h1, h2, .refl _, fun q hq => ?_⟩
      have : (q == p) = false := by simpa using hq
      simp [List.lookup_cons, this]
    · have hb : (p == i) = false := by simpa using hp
      simp only [List.lookup_cons, hb] at e
      obtain ⟨v', o1', o2', outs', a, b, c, d, f⟩ := RepOut.pick h2 e
      refine ⟨v', o1', o1 ++ o2', (i, y) :: outs', a, b, ⟨v, o1, o2', e1, h1, c, rfl⟩, ?_, fun q hq => ?_⟩
      · exact (d.append_left o1).trans (pm (by intro a; simp only [List.count_append]; omega))
      · simp only [List.lookup_cons, f q hq]
def AccF (Γ : Ctx) (vs : List V) (H : Hp) (P : Addr → Prop) (ow : List Addr) (Q : VK) (E : XK) : CRes → Prop
  | .ok r outs => ∀ v H' P' o o', Ext H P ow H' P' (o ++ o') → Ok Γ H' P' (o ++ o') → Rep Γ H' P' r v o → RepOut Γ H' P' vs outs o' → Q v H'
  | .exc x outs => ∀ H' P' o' cls d, Ext H P ow H' P' o' → Ok Γ H' P' o' → RepOut Γ H' P' vs outs o' → RepX Γ H' P' x cls d → E cls d H'
  | .bad => False
/-- a def's promise: its pure run is accepted -/
def spF (Γ : Ctx) (call : Call) (f : Nat) : Sp := fun vs H Q E => ∃ P ow xs, Ok Γ H P ow ∧ RepL Γ H P xs vs ow ∧ AccF Γ vs H P ow Q E (call f xs)

def RepAs (Γ : Ctx) (H : Hp) (P : Addr → Prop) (σ : L2.St) : List AV → List V → List Addr → Prop
  | [], vs, o => vs = [] ∧ o = []
  | .v u :: us, vs, o => ∃ v vs' o1 o2, vs = v :: vs' ∧ RepO Γ H P σ u v o1 ∧ RepAs Γ H P σ us vs' o2 ∧ o = o1 ++ o2
  | .r i :: us, vs, o => ∃ v vs', vs = v :: vs' ∧ σ[i]? = some (some v) ∧ RepAs Γ H P σ us vs' o
theorem RepAs.kp {H' : Hp} {P' : Addr → Prop} : ∀ {us : List AV} {vs : List V} {o : List Addr}, RepAs Γ H P σ us vs o → Kp H P o H' P' → RepAs Γ H' P' σ us vs o
  | [], _, _, h, _ => h
  | .v u :: us, _, _, ⟨v, vs', o1, o2, e, h1, h2, rfl⟩, k => ⟨v, vs', o1, o2, e, h1.kp (k.sub fun _ z => List.mem_append_left _ z), RepAs.kp h2 (k.sub fun _ z => List.mem_append_right _ z), rfl⟩
  | .r i :: us, _, _, ⟨v, vs', e, h1, h2⟩, k => ⟨v, vs', e, h1, RepAs.kp h2 k⟩
def SAr (Γ : Ctx) (X : Cx) (es : List Expr) (l : List Arg) : Prop := ∀ W, Takes X W → PA X es (tS Γ (RepAs Γ) W (evArgs l))
theorem sr_nil : SAr Γ X [] [] := fun W tk => pa_imp pa_nil fun σ H Q ⟨P, ow, e, ok, rel, acc⟩ => acc [] H P [] ow .refl ok ⟨rfl, rfl⟩ rel
theorem sr_v {a : Expr} {es : List Expr} {c : C} {l : List Arg} (ha : SE Γ X a c) (hr : SAr Γ X es l) (hs : starEach (a :: es) X.env = (false, eval a X.env) :: starEach es X.env := by rfl) : SAr Γ X (a :: es) (.v c :: l) := fun W tk =>
  pa_imp (pa_cons (ha W tk) (hr W tk) hs) fun σ H Q ⟨P, ow, e, ok, rel, acc⟩ => by
    refine tS.use (f := []) ok rel acc fun u e1 v H1 P1 o1 ow1 kp1 ok1 r1 rel1 acc1 => ?_
    refine tS.use (f := o1) ok1 rel1 acc1 fun us e2 vs H2 P2 o2 ow2 kp2 ok2 r2 rel2 acc2 => ?_
    exact acc2 (v :: vs) H2 P2 (o1 ++ o2) ow2 (by simpa using Ext.refl) (by simpa using ok2) ⟨v, vs, o1, o2, rfl, r1.kp kp2, r2, rfl⟩ rel2
theorem sr_r {x : Str} {i : Nat} {pos : Pos} {es : List Expr} {l : List Arg} (hN : X.N[i]? = some x) (hv : Vis X.env.scope x) (hr : SAr Γ X es l) (hd : (x == ("__debug__" : Str)) = false := by decide) (hcd : (x == ("__classdict__" : Str)) = false := by decide)
    (hs : starEach (.Name x pos :: es) X.env = (false, eval (.Name x pos) X.env) :: starEach es X.env := by rfl) : SAr Γ X (.Name x pos :: es) (.r i :: l) := fun W tk =>
  pa_imp (pa_cons (pe_var hN hv hd hcd) (hr W tk) hs) fun σ H Q ⟨P, ow, e, ok, rel, acc⟩ => by
    simp only [evArgs] at acc
    cases q : slot e i with
    | none => rw [q] at acc; exact acc.elim
    | some x =>
      rw [q] at acc
      obtain ⟨v, o1, e1, r, _⟩ := rel.get (slot_some.mp q)
      refine ⟨v, e1, ?_⟩
      refine tS.use (f := []) ok rel acc fun us e2 vs H2 P2 o2 ow2 kp2 ok2 r2 rel2 acc2 => ?_
      exact acc2 (v :: vs) H2 P2 o2 ow2 .refl ok2 ⟨v, vs, rfl, e1, r2⟩ rel2
theorem takeArgs_rep : ∀ {us : List AV} {vs : List V} {o f ow : List Addr} {P : Addr → Prop} {e e' : En} {xs : List Val}, Ok Γ H P (f ++ (o ++ ow)) → RelE Γ H P e σ ow → RepAs Γ H P σ us vs o → takeArgs us e = some (xs, e') →
    ∃ P' o' ow', Ext H P (f ++ (o ++ ow)) H P' (f ++ (o' ++ ow')) ∧ Ok Γ H P' (f ++ (o' ++ ow')) ∧ RepL Γ H P' xs vs o' ∧ RelE Γ H P' e' σ ow' ∧ Kp H P f H P'
  | [], vs, o, f, ow, P, e, e', xs, ok, rel, ⟨h1, h2⟩, q => by
    simp only [takeArgs, Option.some.injEq, Prod.mk.injEq] at q
    obtain ⟨rfl, rfl⟩ := q
    subst h1 h2
    exact ⟨P, [], ow, .refl, ok, by simp [RepL], rel, ⟨fun _ _ _ h => h, fun _ _ _ h => h, fun _ _ h => h, fun _ _ _ h => h, fun _ h => h⟩⟩
  | .v u :: us, vs, o, f, ow, P, e, e', xs, ok, rel, h, q => by
    obtain ⟨v, vs', o1, o2, rfl, h1, h2, rfl⟩ := h
    simp only [takeArgs] at q
    cases q1 : u.take e with
    | none => simp [q1] at q
    | some p =>
      obtain ⟨x, e1⟩ := p
      simp only [q1, Option.bind_some] at q
      cases q2 : takeArgs us e1 with
      | none => simp [q2] at q
      | some p2 =>
        obtain ⟨xs', e2⟩ := p2
        simp only [q2, Option.map_some, Option.some.injEq, Prod.mk.injEq] at q
        obtain ⟨rfl, rfl⟩ := q
        have pq : (f ++ ((o1 ++ o2) ++ ow)).Perm ((f ++ o2) ++ (o1 ++ ow)) := pm (by intro a; simp only [List.count_append]; omega)
        obtain ⟨P1, o1', ow1, x1, k1, r1, rel1, kp1⟩ := OV.take_rep (ok.perm pq) rel h1 q1
        have pq2 : ((f ++ o2) ++ (o1' ++ ow1)).Perm ((f ++ o1') ++ (o2 ++ ow1)) := pm (by intro a; simp only [List.count_append]; omega)
        obtain ⟨P2, o2', ow2, x2, k2, r2, rel2, kp2⟩ := takeArgs_rep (k1.perm pq2) rel1 (h2.kp (kp1.sub fun a z => List.mem_append_right _ z)) q2
        have pq3 : ((f ++ o1') ++ (o2' ++ ow2)).Perm (f ++ ((o1' ++ o2') ++ ow2)) := pm (by intro a; simp only [List.count_append]; omega)
        refine ⟨P2, o1' ++ o2', ow2, (((x1.permL pq.symm).perm pq2).trans x2).perm pq3, k2.perm pq3, ?_, rel2, ?_⟩
        · simp only [RepL]
          exact ⟨v, vs', o1', o2', rfl, r1.kp (kp2.sub fun a z => List.mem_append_right _ z), r2, rfl⟩
        · exact ⟨fun _ _ _ h => h, fun _ _ _ h => h, fun _ _ h => h, fun _ _ _ h => h, fun a h => kp2.inc a (kp1.inc a h)⟩
  | .r i :: us, vs, o, f, ow, P, e, e', xs, ok, rel, h, q => by
    obtain ⟨v, vs', rfl, h1, h2⟩ := h
    simp only [takeArgs] at q
    cases q1 : slot e i with
    | none => simp [q1] at q
    | some x =>
      simp only [q1, Option.bind_some] at q
      cases q2 : takeArgs us (e.set i none) with
      | none => simp [q2] at q
      | some p2 =>
        obtain ⟨xs', e2⟩ := p2
        simp only [q2, Option.map_some, Option.some.injEq, Prod.mk.injEq] at q
        obtain ⟨rfl, rfl⟩ := q
        obtain ⟨v', o1, ow1, e1, r1, rel1, pq0⟩ := rel.take (slot_some.mp q1)
        rw [h1] at e1; cases e1
        have pq : (f ++ (o ++ ow)).Perm ((f ++ o1) ++ (o ++ ow1)) := (((pq0.append_left o).append_left f)).trans (pm (by intro a; simp only [List.count_append]; omega))
        obtain ⟨P2, o2', ow2, x2, k2, r2, rel2, kp2⟩ := takeArgs_rep (ok.perm pq) rel1 h2 q2
        have pq3 : ((f ++ o1) ++ (o2' ++ ow2)).Perm (f ++ ((o1 ++ o2') ++ ow2)) := pm (by intro a; simp only [List.count_append]; omega)
        refine ⟨P2, o1 ++ o2', ow2, (x2.permL pq.symm).perm pq3, k2.perm pq3, ?_, rel2, ?_⟩
        · simp only [RepL]
          exact ⟨v, vs', o1, o2', rfl, r1.kp (kp2.sub fun a z => List.mem_append_right _ z), r2, rfl⟩
        · exact kp2.sub fun a z => List.mem_append_left _ z
theorem putOuts_rep {vs0 : List V} : ∀ {us : List AV} {vs : List V} {p : Nat} {outs outs' : List (Nat × Val)} {o ow g : List Addr} {e e' : En} {oa : List Addr} {P0 : Addr → Prop} {H0 : Hp}, Ok Γ H P (g ++ (o ++ ow)) → RelE Γ H P e σ ow → RepAs Γ H0 P0 σ us vs oa → RepOut Γ H P vs0 outs o →
    (∀ j, vs[j]? = vs0[p + j]?) → (∀ q, p ≤ q → outs.lookup q = outs'.lookup q) → putOuts p us outs' e = some e' → ∃ ow', RelE Γ H P e' σ ow' ∧ Ok Γ H P (g ++ ow') ∧ ∀ a ∈ ow', a ∈ o ++ ow
  | [], vs, p, outs, outs', o, ow, g, e, e', oa, P0, H0, ok, rel, h, ro, hv, hl, q => by
    simp only [putOuts, Option.some.injEq] at q
    subst q
    refine ⟨ow, rel, ok.sub (fun a z => ?_) ?_, fun a z => List.mem_append_right _ z⟩
    · rcases List.mem_append.mp z with z | z
      · exact List.mem_append_left _ z
      · exact List.mem_append_right _ (List.mem_append_right _ z)
    · have n := List.nodup_append.mp ok.n
      exact List.nodup_append.mpr ⟨n.1, (List.nodup_append.mp n.2.1).2.1, fun a z b w => n.2.2 a z b (List.mem_append_right _ w)⟩
  | .v u :: us, vs, p, outs, outs', o, ow, g, e, e', oa, P0, H0, ok, rel, h, ro, hv, hl, q => by
    obtain ⟨v, vs', o1, o2, rfl, h1, h2, rfl⟩ := h
    simp only [putOuts] at q
    exact putOuts_rep ok rel h2 ro (fun j => by have := hv (j + 1); simpa [Nat.add_assoc, Nat.add_comm 1 j] using this) (fun q hq => hl q (by omega)) q
  | .r i :: us, vs, p, outs, outs', o, ow, g, e, e', oa, P0, H0, ok, rel, h, ro, hv, hl, q => by
    obtain ⟨v, vs', rfl, h1, h2⟩ := h
    simp only [putOuts] at q
    cases q1 : outs'.lookup p with
    | none => simp [q1] at q
    | some x =>
      simp only [q1, Option.bind_some] at q
      have q2 : outs.lookup p = some x := (hl p (Nat.le_refl _)).trans q1
      obtain ⟨v', o1, o2, outs2, a1, a2, a3, a4, a5⟩ := ro.pick q2
      have ev : v' = v := by
        have := hv 0
        simp only [List.getElem?_cons_zero, Nat.add_zero] at this
        rw [a1] at this; exact (Option.some.inj this).symm
      subst ev
      have hi : i < e.length := by
        rw [rel.length]
        exact (List.getElem?_eq_some_iff.mp h1).1
      have pq : (g ++ (o ++ ow)).Perm ((g ++ o2) ++ (o1 ++ ow)) := (((a4.append_right ow).append_left g)).trans (pm (by intro a; simp only [List.count_append]; omega))
      have ok1 := ok.perm pq
      obtain ⟨ow1, rel1, ok2, hs⟩ := rel.again ok1.right hi a2 h1
      have ok3 : Ok Γ H P (g ++ (o2 ++ ow1)) := by
        have n := List.nodup_append.mp ok1.n
        have n1 := List.nodup_append.mp n.1
        refine ok1.sub (fun a z => ?_) ?_
        · rcases List.mem_append.mp z with z | z
          · exact List.mem_append_left _ (List.mem_append_left _ z)
          · rcases List.mem_append.mp z with z | z
            · exact List.mem_append_left _ (List.mem_append_right _ z)
            · exact List.mem_append_right _ (hs a z)
        · refine List.nodup_append.mpr ⟨n1.1, List.nodup_append.mpr ⟨n1.2.1, ok2.n, fun a z b w => n.2.2 a (List.mem_append_right _ z) b (hs b w)⟩, fun a z b w => ?_⟩
          rcases List.mem_append.mp w with w | w
          · exact n1.2.2 a z b w
          · exact n.2.2 a (List.mem_append_left _ z) b (hs b w)
      obtain ⟨ow2, rel2, ok4, hs2⟩ := putOuts_rep (vs0 := vs0) ok3 rel1 h2 a3 (fun j => by have := hv (j + 1); simpa [Nat.add_assoc, Nat.add_comm 1 j] using this) (fun q hq => by rw [a5 q (by omega)]; exact hl q (by omega)) q
      refine ⟨ow2, rel2, ok4, fun a z => ?_⟩
      rcases List.mem_append.mp (hs2 a z) with z | z
      · exact List.mem_append_left _ (a4.symm.subset (List.mem_append_right _ z))
      · rcases List.mem_append.mp (hs a z) with z | z
        · exact List.mem_append_left _ (a4.symm.subset (List.mem_append_left _ z))
        · exact List.mem_append_right _ z
/-- what a call's argument list and its def's promise give -/
theorem call_red {call : Call} {f : Nat} {l : List Arg} {Q : VK} (h : tS Γ (RepO Γ) W (cCall call f l) σ H Q) : tS Γ (RepAs Γ) W (evArgs l) σ H (fun vs H1 => spF Γ call f vs H1 Q (WE W σ)) := by
  obtain ⟨P, ow, e, ok, rel, acc⟩ := h
  refine tS.use (f := []) ok rel acc fun us e1 vs H1 P1 o1 ow1 kp1 ok1 r1 rel1 acc1 => ?_
  cases q : takeArgs us e1 with
  | none => simp [q, Acc] at acc1
  | some p =>
    obtain ⟨xs, e2⟩ := p
    simp only [q] at acc1
    obtain ⟨P2, o2, ow2, x2, k2, r2, rel2, kp2⟩ := takeArgs_rep (f := []) ok1 rel1 r1 q
    have k2' : Ok Γ H1 P2 (o2 ++ ow2) := k2
    refine ⟨P2, o2, xs, k2'.left, r2, ?_⟩
    have k3 : Ok Γ H1 P2 (ow2 ++ o2) := k2'.perm List.perm_append_comm
    have x2' : Ext H1 P1 (o1 ++ ow1) H1 P2 (ow2 ++ o2) := Ext.perm (ow1 := o2 ++ ow2) x2 List.perm_append_comm
    cases hr : call f xs with
    | ok r outs =>
      simp only [hr] at acc1
      cases hp : putOuts 0 us outs e2 with
      | none => simp [hp, Acc] at acc1
      | some e3 =>
        simp only [hp] at acc1
        intro v H' P' o o' x k rr ro
        obtain ⟨x4, k4⟩ := x.frame k3 k
        have pq : (ow2 ++ (o ++ o')).Perm (o ++ (o' ++ ow2)) := pm (by intro a; simp only [List.count_append]; omega)
        have kp := x.kp k3
        obtain ⟨ow3, rel3, ok3, hs⟩ := putOuts_rep (g := o) (outs := outs) (vs := vs) (vs0 := vs) (p := 0) (k4.perm pq) (rel2.kp kp) r1 ro (fun j => by simp) (fun _ _ => rfl) hp
        refine acc1 v H' P' o ow3 (x2'.trans ((x4.perm pq).sub fun a z => ?_)) ok3 rr rel3
        rcases List.mem_append.mp z with z | z
        · exact List.mem_append_left _ z
        · exact List.mem_append_right _ (hs a z)
    | exc ex outs =>
      simp only [hr] at acc1
      cases hp : putOuts 0 us outs e2 with
      | none => simp [hp, Acc] at acc1
      | some e3 =>
        simp only [hp] at acc1
        intro H' P' o' cls d x k ro rx
        obtain ⟨x4, k4⟩ := x.frame k3 k
        have pq : (ow2 ++ o').Perm ([] ++ (o' ++ ow2)) := pm (by intro a; simp only [List.count_append, List.count_nil]; omega)
        have kp := x.kp k3
        obtain ⟨ow3, rel3, ok3, hs⟩ := putOuts_rep (g := []) (outs := outs) (vs := vs) (vs0 := vs) (p := 0) (k4.perm pq) (rel2.kp kp) r1 ro (fun j => by simp) (fun _ _ => rfl) hp
        exact acc1 H' P' ow3 cls d (x2'.trans ((x4.perm pq).sub fun a z => hs a z)) ok3 rel3 rx
    | bad => simp [hr, Acc] at acc1
/-- f(e, ..) -/
theorem se_call {call : Call} {n k : Nat} {f : Addr} {fd : FuncData} {ps : List Str} {x : Str} {p pos : Pos} {a : Expr} {es : List Expr} {l : List Arg} (F : FnOk X.prog X.w X.K X.mg X.base (L2.CX X.prog X.w) k f fd ps (spF Γ call n)) (hr : Room k X.A) (hg : Gl X x) (hm : X.mg x = some (.ref f))
    (hk : PySem.W.keepIn X.K (.ref f) = true) (hb : Binds X.K fd ps []) (ha : SAr Γ X (a :: es) l) (hdb : (x == ("__debug__" : Str)) = false := by decide) (he : starEach (a :: es) X.env = (false, eval a X.env) :: starEach es X.env := by rfl)
    (hpl : (backTo pos (starEach es X.env)).any (·.1) = false := by rfl) : SE Γ X (.Call (.Name x p) (a :: es) [] pos) (cCall call n l) := fun W tk =>
  pe_imp (pe_callS F hr hg hm hk hb (passAt tk) (ha W tk) hdb he hpl) fun σ H Q h => call_red h
end
end VI
set_option Elab.async false
set_option linter.all false
set_option maxRecDepth 100000
/-! VI5: statements and loops. -/
namespace VI
open PySem PySem.Spec PyProof.Rows L2

def Pin (pins : List Nat) (σ σ' : L2.St) : Prop := ∀ i ∈ pins, σ'[i]? = σ[i]?
theorem Pin.refl {pins : List Nat} {σ : L2.St} : Pin pins σ σ := fun _ _ => rfl
theorem Pin.trans {pins : List Nat} {σ σ1 σ2 : L2.St} (a : Pin pins σ σ1) (b : Pin pins σ1 σ2) : Pin pins σ σ2 := fun i h => (b i h).trans (a i h)
/-- what is wanted of a statement's result -/
def AccS (Γ : Ctx) (W : WX) (pins : List Nat) (D : Ends) (σ : L2.St) (H : Hp) (P : Addr → Prop) (ow : List Addr) : SRes → Prop
  | .nx e => ∀ σ' H' P' ow', Ext H P ow H' P' ow' → Ok Γ H' P' ow' → RelE Γ H' P' e σ' ow' → Pin pins σ σ' → D.nx σ' H'
  | .bk e => ∀ σ' H' P' ow', Ext H P ow H' P' ow' → Ok Γ H' P' ow' → RelE Γ H' P' e σ' ow' → Pin pins σ σ' → D.bk σ' H'
  | .ct e => ∀ σ' H' P' ow', Ext H P ow H' P' ow' → Ok Γ H' P' ow' → RelE Γ H' P' e σ' ow' → Pin pins σ σ' → D.ct σ' H'
  | .rt x e => ∀ v σ' H' P' o ow', Ext H P ow H' P' (o ++ ow') → Ok Γ H' P' (o ++ ow') → Rep Γ H' P' x v o → RelE Γ H' P' e σ' ow' → Pin pins σ σ' → D.rt v H'
  | .exc x e => ∀ σ' H' P' ow' cls d, Ext H P ow H' P' ow' → Ok Γ H' P' ow' → RelE Γ H' P' e σ' ow' → Pin pins σ σ' → RepX Γ H' P' x cls d → W cls d σ' H'
  | .bad => False
def tT (Γ : Ctx) (W : WX) (pins : List Nat) (s : S) : TS := fun D σ H => ∃ P ow e, Ok Γ H P ow ∧ RelE Γ H P e σ ow ∧ AccS Γ W pins D σ H P ow (s e)
/-- the slots that hold what they held are never stored anew -/
def FixIn (Γ : Ctx) (pins : List Nat) : Prop := ∀ p ∈ Γ.fix, p.1 ∈ pins
theorem FixIn.free {Γ : Ctx} {pins : List Nat} {i : Nat} (fx : FixIn Γ pins) (h : ¬ pins.contains i = true) : ∀ p ∈ Γ.fix, p.1 ≠ i := fun p hp e => h (by simpa using e ▸ fx p hp)
def SS (Γ : Ctx) (pins : List Nat) (X : Cx) (st : Stmt) (s : S) : Prop := FixIn Γ pins → ∀ W, Takes X W → PS X st (tT Γ W pins s)
def SSs (Γ : Ctx) (pins : List Nat) (X : Cx) (st : List Stmt) (s : S) : Prop := FixIn Γ pins → ∀ W, Takes X W → PSs X st (tT Γ W pins s)
theorem ps_imp {X : Cx} {st : Stmt} {t t' : TS} (h : PS X st t) (i : ∀ D σ H, t' D σ H → t D σ H) : PS X st t' := ⟨fun pins s σ H D I hw => h.run pins s σ H D I (i _ _ _ hw)⟩
theorem pss_imp {X : Cx} {st : List Stmt} {t t' : TS} (h : PSs X st t) (i : ∀ D σ H, t' D σ H → t D σ H) : PSs X st t' := ⟨fun pins s σ H D I hw => h.run pins s σ H D I (i _ _ _ hw)⟩

section
variable {Γ : Ctx} {X : Cx} {W : WX} {pins : List Nat} {D : Ends} {σ σ1 : L2.St} {H H1 : Hp} {P P1 : Addr → Prop} {ow ow1 f o : List Addr} {e e' : En}
theorem AccS.rebase {r : SRes} (h : AccS Γ W pins D σ H P ow r) (x : Ext H P ow H1 P1 ow1) (p : Pin pins σ σ1) : AccS Γ W pins D σ1 H1 P1 ow1 r := by
  cases r with
  | nx e => exact fun σ' H' P' ow' y k l q => h σ' H' P' ow' (x.trans y) k l (p.trans q)
  | bk e => exact fun σ' H' P' ow' y k l q => h σ' H' P' ow' (x.trans y) k l (p.trans q)
  | ct e => exact fun σ' H' P' ow' y k l q => h σ' H' P' ow' (x.trans y) k l (p.trans q)
  | rt z e => exact fun v σ' H' P' o ow' y k r l q => h v σ' H' P' o ow' (x.trans y) k r l (p.trans q)
  | exc z e => exact fun σ' H' P' ow' cls d y k l q r => h σ' H' P' ow' cls d (x.trans y) k l (p.trans q) r
  | bad => exact h
/-- an expression ahead of a statement's end -/
theorem useS {α β : Type} {R : Hp → (Addr → Prop) → L2.St → α → β → List Addr → Prop} {Q : β → Hp → Prop} {c : En → Res α} {k : α → En → SRes}
    (ok : Ok Γ H P ow) (rel : RelE Γ H P e σ ow) (h : AccS Γ W pins D σ H P ow ((c e).toS k))
    (h1 : ∀ a e' b H1 P1 o1 ow1, Ok Γ H1 P1 (o1 ++ ow1) → R H1 P1 σ a b o1 → RelE Γ H1 P1 e' σ ow1 → AccS Γ W pins D σ H1 P1 (o1 ++ ow1) (k a e') → Q b H1) : tS Γ R W c σ H Q := by
  refine ⟨P, ow, e, ok, rel, ?_⟩
  cases hc : c e with
  | ok a e' =>
    rw [hc] at h
    intro b H' P' o ow' y k' q l
    exact h1 a e' b H' P' o ow' k' q l (AccS.rebase h y .refl)
  | exc x e' =>
    rw [hc] at h
    exact fun H' P' ow' cls d y k' l q => h σ H' P' ow' cls d y k' l .refl q
  | bad => rw [hc] at h; exact h
/-! ### blocks -/
theorem ss_nil : SSs Γ pins X [] (sSeq []) := fun fx W tk => pss_imp pss_nil fun D σ H ⟨P, ow, e, ok, rel, acc⟩ => acc σ H P ow .refl ok rel .refl
theorem ss_cons {st : Stmt} {r : List Stmt} {s : S} {l : List S} (h1 : SS Γ pins X st s) (h2 : SSs Γ pins X r (sSeq l)) : SSs Γ pins X (st :: r) (sSeq (s :: l)) := fun fx W tk =>
  pss_imp (pss_cons (h1 fx W tk) (h2 fx W tk)) fun D σ H ⟨P, ow, e, ok, rel, acc⟩ => by
    refine ⟨P, ow, e, ok, rel, ?_⟩
    simp only [sSeq] at acc
    cases hs : s e with
    | nx e1 =>
      rw [hs] at acc
      exact fun σ' H' P' ow' y k l q => ⟨P', ow', e1, k, l, acc.rebase y q⟩
    | bk e1 => rw [hs] at acc; exact acc
    | ct e1 => rw [hs] at acc; exact acc
    | rt x e1 => rw [hs] at acc; exact acc
    | exc x e1 => rw [hs] at acc; exact acc
    | bad => rw [hs] at acc; exact acc
theorem ss_if {t : Expr} {a b : List Stmt} {ct : CB} {sa sb : S} {pos : Pos} (ht : SB Γ X t ct) (ha : SSs Γ pins X a sa) (hb : SSs Γ pins X b sb) : SS Γ pins X (.If t a b pos) (sIf ct sa sb) := fun fx W tk =>
  ps_imp (ps_if (ht W tk) (ha fx W tk) (hb fx W tk)) fun D σ H ⟨P, ow, e, ok, rel, acc⟩ => by
    refine useS ok rel acc fun b e1 b' H1 P1 o1 ow1 k r l acc1 => ?_
    obtain ⟨rfl, rfl⟩ := r
    cases b' with
    | true => exact ⟨P1, ow1, e1, k, l, acc1⟩
    | false => exact ⟨P1, ow1, e1, k, l, acc1⟩
theorem ss_expr {ex : Expr} {c : C} {pos : Pos} (h : SE Γ X ex c) (hs : swapsWith ex none pos.line X.env = pure false := by rfl) : SS Γ pins X (.Expr ex pos) (sExp c) := fun fx W tk =>
  ps_imp (ps_expr (h W tk) hs) fun D σ H ⟨P, ow, e, ok, rel, acc⟩ => by
    refine useS ok rel acc fun u e1 v H1 P1 o1 ow1 k r l acc1 => ?_
    exact acc1 σ H1 P1 ow1 (Ext.refl.sub fun a z => List.mem_append_right _ z) k.right l .refl
theorem ss_ret {ex : Expr} {c : C} {pos : Pos} (h : SE Γ X ex c) : SS Γ pins X (.Return (some ex) pos) (sRet pins c) := fun fx W tk =>
  ps_imp (ps_ret (h W tk)) fun D σ H ⟨P, ow, e, ok, rel, acc⟩ => by
    refine useS ok rel acc fun u e1 v H1 P1 o1 ow1 k r l acc1 => ?_
    cases u with
    | val x => exact acc1 v σ H1 P1 o1 ow1 .refl k r l .refl
    | pk i =>
      obtain ⟨r1, rfl⟩ := r
      cases q : slot e1 i with
      | none => simp [q, AccS] at acc1
      | some x =>
        simp only [q] at acc1
        by_cases hp : pins.contains i = true
        · rw [if_pos hp] at acc1
          obtain ⟨v', P', ow', e2, h1, h2, h3, h4, h5⟩ := slot_freeze (f := []) (by simpa using k) l (slot_some.mp q)
          rw [r1] at e2; cases e2
          exact acc1 v σ H1 P' [] ow' (by simpa using h1) (by simpa using h2) h3 h4 .refl
        · rw [if_neg hp] at acc1
          obtain ⟨v', o2, ow', e2, h1, h2, h3⟩ := l.take (slot_some.mp q)
          rw [r1] at e2; cases e2
          exact acc1 v σ H1 P1 o2 ow' (Ext.refl.perm (by simpa using h3)) (k.perm (by simpa using h3)) h1 h2 .refl
/-! ### targets -/
mutual
def gOf (K : PySem.W.Frag) : Tg → TG
  | .n i => gName i
  | .t gs => gTup K gs.length (gsOf K gs)
def gsOf (K : PySem.W.Frag) : List Tg → TGs
  | [] => gNil
  | g :: gs => gCons (gOf K g) (gsOf K gs)
end
def SG (X : Cx) (t : Expr) (tg : Tg) : Prop := PG X t (gOf X.K tg)
def SGs (X : Cx) (ts : List Expr) (tgs : List Tg) : Prop := PGs X ts (gsOf X.K tgs)
theorem asgL_len {pins : List Nat} : ∀ {tgs : List Tg} {xs : List Val} {e e' : En}, asgL pins tgs xs e = some e' → tgs.length = xs.length
  | [], [], _, _, _ => rfl
  | [], _ :: _, _, _, h => by simp [asgL] at h
  | t :: ts, [], _, _, h => by simp [asgL] at h
  | t :: ts, y :: ys, e, e', h => by
    simp only [asgL] at h
    cases q : asg pins t y e with
    | none => simp [q] at h
    | some e1 => simp only [q, Option.bind_some] at h; simp [asgL_len h]
mutual
theorem asg_len : ∀ {tg : Tg} {x : Val} {e e' : En}, asg pins tg x e = some e' → e'.length = e.length
  | .n i, x, e, e', h => by
    simp only [asg] at h
    by_cases hp : pins.contains i = true
    · rw [if_pos hp] at h; cases h
    · rw [if_neg hp] at h
      by_cases hl : i < e.length
      · rw [if_pos hl] at h; cases h; simp
      · rw [if_neg hl] at h; cases h
  | .t gs, x, e, e', h => by
    cases x <;> first | (simp [asg] at h; done) | skip
    simp only [asg] at h
    exact asgL_len2 h
theorem asgL_len2 : ∀ {tgs : List Tg} {xs : List Val} {e e' : En}, asgL pins tgs xs e = some e' → e'.length = e.length
  | [], [], _, _, h => by simp only [asgL, Option.some.injEq] at h; rw [h]
  | [], _ :: _, _, _, h => by simp [asgL] at h
  | t :: ts, [], _, _, h => by simp [asgL] at h
  | t :: ts, y :: ys, e, e', h => by
    simp only [asgL] at h
    cases q : asg pins t y e with
    | none => simp [q] at h
    | some e1 =>
      simp only [q, Option.bind_some] at h
      rw [asgL_len2 h, asg_len q]
end
mutual
theorem g_ok {K : PySem.W.Frag} (fx : FixIn Γ pins) : ∀ (tg : Tg) (σ : L2.St) (H : Hp) (P : Addr → Prop) (o ow : List Addr) (x : Val) (v : V) (e e' : En) (Q : L2.St → Hp → Prop), Ok Γ H P (o ++ ow) → RelE Γ H P e σ ow → Rep Γ H P x v o → asg pins tg x e = some e' →
    (∀ σ' ow', Ok Γ H P ow' → (∀ a ∈ ow', a ∈ o ++ ow) → RelE Γ H P e' σ' ow' → Pin pins σ σ' → (∀ j, j ∉ tg.slots → σ'[j]? = σ[j]?) → Q σ' H) → gOf K tg v σ H Q
  | .n i, σ, H, P, o, ow, x, v, e, e', Q, ok, rel, r, q, h => by
    simp only [asg] at q
    by_cases hp : pins.contains i = true
    · rw [if_pos hp] at q; cases q
    · rw [if_neg hp] at q
      by_cases hl : i < e.length
      · rw [if_pos hl] at q
        cases q
        obtain ⟨ow', h1, h2, h3⟩ := rel.store ok hl r (fx.free hp)
        simp only [gOf]
        refine h _ ow' h2 h3 h1 (fun j hj => ?_) fun j hj => ?_
        · rw [List.getElem?_set_ne]
          intro z
          subst z
          exact hp (by simpa using hj)
        · rw [List.getElem?_set_ne]
          intro z
          subst z
          exact hj (by simp [Tg.slots])
      · rw [if_neg hl] at q; cases q
  | .t gs, σ, H, P, o, ow, x, v, e, e', Q, ok, rel, r, q, h => by
    cases x <;> first | (simp [asg] at q; done) | skip
    rename_i xs
    simp only [asg] at q
    simp only [Rep] at r
    obtain ⟨a, ws, rfl, r1, r2⟩ := r
    simp only [gOf]
    exact ⟨a, ws, rfl, TupN.sq r1, by rw [← r2.length, ← asgL_len q], gs_ok fx gs σ H P o ow xs ws e e' Q ok rel r2 q fun σ' ow' a b c d nn => h σ' ow' a b c d fun j hj => nn j (by simpa [Tg.slots] using hj)⟩
theorem gs_ok {K : PySem.W.Frag} (fx : FixIn Γ pins) : ∀ (tgs : List Tg) (σ : L2.St) (H : Hp) (P : Addr → Prop) (o ow : List Addr) (xs : List Val) (vs : List V) (e e' : En) (Q : L2.St → Hp → Prop), Ok Γ H P (o ++ ow) → RelE Γ H P e σ ow → RepL Γ H P xs vs o → asgL pins tgs xs e = some e' →
    (∀ σ' ow', Ok Γ H P ow' → (∀ a ∈ ow', a ∈ o ++ ow) → RelE Γ H P e' σ' ow' → Pin pins σ σ' → (∀ j, j ∉ slotsL tgs → σ'[j]? = σ[j]?) → Q σ' H) → gsOf K tgs vs σ H Q
  | [], σ, H, P, o, ow, xs, vs, e, e', Q, ok, rel, r, q, h => by
    cases xs with
    | nil =>
      simp only [asgL, Option.some.injEq] at q
      subst q
      simp only [RepL] at r
      obtain ⟨rfl, rfl⟩ := r
      simp only [gsOf]
      exact ⟨rfl, h σ ow ok (fun a z => z) rel .refl fun _ _ => rfl⟩
    | cons x xs => simp [asgL] at q
  | tg :: tgs, σ, H, P, o, ow, xs, vs, e, e', Q, ok, rel, r, q, h => by
    cases xs with
    | nil => simp [asgL] at q
    | cons x xs =>
      simp only [asgL] at q
      cases q3 : asg pins tg x e with
      | none => simp [q3] at q
      | some e1 =>
        simp only [q3, Option.bind_some] at q
        simp only [RepL] at r
        obtain ⟨w, ws', o1, o2, rfl, r1, r2, rfl⟩ := r
        have pq : ((o1 ++ o2) ++ ow).Perm (o2 ++ (o1 ++ ow)) := pm (by intro a; simp only [List.count_append]; omega)
        have ok1 := ok.perm pq
        simp only [gsOf]
        refine ⟨w, ws', rfl, g_ok fx tg σ H P o1 ow x w e e1 _ ok1.right rel r1 q3 fun σ' ow' k s l p nn => ?_⟩
        have ok2 : Ok Γ H P (o2 ++ ow') := ok1.sub (fun a z => by
          rcases List.mem_append.mp z with z | z
          · exact List.mem_append_left _ z
          · exact List.mem_append_right _ (s a z)) (List.nodup_append.mpr ⟨ok1.left.n, k.n, fun a z b w => (List.nodup_append.mp ok1.n).2.2 a z b (s b w)⟩)
        refine gs_ok fx tgs σ' H P o2 ow' xs ws' e1 e' Q ok2 l r2 q fun σ2 ow2 k2 s2 l2 p2 nn2 => ?_
        refine h σ2 ow2 k2 (fun a z => ?_) l2 (p.trans p2) (fun j hj => by
          simp only [slotsL, List.mem_append, not_or] at hj
          rw [nn2 j hj.2, nn j hj.1])
        rcases List.mem_append.mp (s2 a z) with z | z
        · exact List.mem_append_left _ (List.mem_append_right _ z)
        · rcases List.mem_append.mp (s a z) with z | z
          · exact List.mem_append_left _ (List.mem_append_left _ z)
          · exact List.mem_append_right _ z
end
theorem sg_name {i : Nat} {x : Str} {pos : Pos} (hN : X.N.Nodup) (hi : X.N[i]? = some x) (hx : Loc X.env.scope x) (hf : X.fn x = true ∨ X.env.scope.names.lookup x = some .local := by first | exact .inl rfl | exact .inr rfl | assumption) : SG X (.Name x pos) (.n i) := by
  unfold SG
  simp only [gOf]
  exact pg_name hN hi hx hf
theorem sgs_nil : SGs X [] [] := by
  unfold SGs
  simp only [gsOf]
  exact pgs_nil
theorem sgs_cons {t : Expr} {ts : List Expr} {tg : Tg} {tgs : List Tg} (h1 : SG X t tg) (h2 : SGs X ts tgs) (hs : (assignEach (t :: ts) X.env).map (·.2) = assign t X.env :: (assignEach ts X.env).map (·.2) := by rfl) : SGs X (t :: ts) (tg :: tgs) := by
  unfold SGs
  simp only [gsOf]
  exact pgs_cons h1 h2 hs
theorem sg_tup {ts : List Expr} {k : Nat} {pos : Pos} {tgs : List Tg} (hc : X.calm = true) (h : SGs X ts tgs) (hl : (assignEach ts X.env).length = tgs.length := by rfl) (hst : (assignEach ts X.env).findIdx? (·.1) = none := by rfl) : SG X (.Tuple ts k pos) (.t tgs) := by
  unfold SG
  simp only [gOf]
  exact pg_tup hc h hl hst
/-- x = e, x one name -/
theorem ss_set {i : Nat} {x : Str} {ex : Expr} {c : C} {pos pos' : Pos} (hN : X.N.Nodup) (hi : X.N[i]? = some x) (hx : Loc X.env.scope x) (he : SE Γ X ex c) (hs : swapsWith ex (some (.Name x pos')) pos.line X.env = pure false := by rfl)
    (hf : X.fn x = true ∨ X.env.scope.names.lookup x = some .local := by first | exact .inl rfl | exact .inr rfl | assumption) : SS Γ pins X (.Assign [.Name x pos'] ex pos) (sAsg pins (.n i) c) := fun fx W tk => by
  refine ps_imp (ps_set hN hi hx (he W tk) hs hf) fun D σ H ⟨P, ow, e, ok, rel, acc⟩ => ?_
  refine useS ok rel acc fun u e1 v H1 P1 o1 ow1 k r l acc1 => ?_
  cases q1 : u.take e1 with
  | none => simp [q1, AccS] at acc1
  | some pr =>
    obtain ⟨x, e2⟩ := pr
    simp only [q1, asg] at acc1
    by_cases hp : pins.contains i = true
    · rw [if_pos hp] at acc1; exact acc1.elim
    · rw [if_neg hp] at acc1
      by_cases hl : i < e2.length
      · rw [if_pos hl] at acc1
        obtain ⟨P2, o2, ow2, x2, k2, r2, l2, _⟩ := OV.take_rep (f := []) k l r q1
        obtain ⟨ow', h1, h2, h3⟩ := l2.store (show Ok Γ H1 P2 (o2 ++ ow2) from k2) hl r2 (fx.free hp)
        refine acc1 _ H1 P2 ow' (Ext.sub (ow1 := o2 ++ ow2) x2 h3) h2 h1 fun j hj => ?_
        rw [List.getElem?_set_ne]
        intro z
        subst z
        exact hp (by simpa using hj)
      · rw [if_neg hl] at acc1; exact acc1.elim
/-! ### while -/
theorem ss_while {t : Expr} {body : List Stmt} {ct : CB} {sb : S} {pos : Pos} (hp : PassesOwn (model X.prog X.w) X.A X.env X.xe) (ht : SB Γ X t ct) (hb : SSs Γ pins X body sb) : SS Γ pins X (.While t body [] pos) (sWh ct sb) := fun fx W tk =>
  ps_imp (ps_while hp (ht W tk) (hb fx W tk)) fun D σ H ⟨P, ow, e, ok, rel, acc⟩ => by
    refine ⟨fun m σ' H' => ∃ P' ow' e', Ok Γ H' P' ow' ∧ RelE Γ H' P' e' σ' ow' ∧ AccS Γ W pins { D with bk := D.bk } σ' H' P' ow' (whLoop ct sb m e'), ⟨turns, P, ow, e, ok, rel, acc⟩, ?_⟩
    intro m σ' H' h
    obtain ⟨P', ow', e', ok', rel', acc'⟩ := h
    cases m with
    | zero => exact acc'.elim
    | succ m =>
      refine useS ok' rel' acc' fun b e1 b' H1 P1 o1 ow1 k r l acc1 => ?_
      obtain ⟨rfl, rfl⟩ := r
      cases b' with
      | false => exact acc1 σ' H1 P1 ow1 .refl k l .refl
      | true =>
        rw [if_pos rfl] at acc1
        rw [if_pos rfl]
        refine ⟨fun σ2 H2 => ∃ P2 ow2 e2, Ok Γ H2 P2 ow2 ∧ RelE Γ H2 P2 e2 σ2 ow2 ∧ AccS Γ W pins D σ2 H2 P2 ow2 (whLoop ct sb m e2), fun σ2 H2 z => ⟨m, Nat.lt_succ_self m, z⟩, P1, ow1, e1, k, l, ?_⟩
        have acc1' : AccS Γ W pins D σ' H1 P1 ow1 (loopStep (sb e1) (whLoop ct sb m)) := acc1
        cases hs : sb e1 with
        | nx e2 => rw [hs] at acc1'; exact fun σ2 H2 P2 ow2 y k2 l2 q => ⟨P2, ow2, e2, k2, l2, acc1'.rebase y q⟩
        | ct e2 => rw [hs] at acc1'; exact fun σ2 H2 P2 ow2 y k2 l2 q => ⟨P2, ow2, e2, k2, l2, acc1'.rebase y q⟩
        | bk e2 => rw [hs] at acc1'; exact acc1'
        | rt x e2 => rw [hs] at acc1'; exact acc1'
        | exc x e2 => rw [hs] at acc1'; exact acc1'
        | bad => rw [hs] at acc1'; exact acc1'

/-! ### for -/
/-- an iterator walks xs -/
structure RepI (Γ : Ctx) (H1 : Hp) (P1 : Addr → Prop) (xs : List Val) (J : It) : Prop where
  len : xs.length ≤ sizeLine
  go : ∀ (H : Hp) (P : Addr → Prop) (i : Nat), Kp H1 P1 [] H P → i < xs.length → J.go i H
  stop : ∀ (H : Hp) (P : Addr → Prop), Kp H1 P1 [] H P → J.stop xs.length H
  yld : ∀ (H : Hp) (P : Addr → Prop) (i : Nat) (x : V) (H' : Hp) (y : Val), Ok Γ H P [] → Kp H1 P1 [] H P → xs[i]? = some y → J.yld i H x H' → ∃ P', Ext H P [] H' P' [] ∧ Ok Γ H' P' [] ∧ Rep Γ H' P' y x []
def RepIt (Γ : Ctx) (H : Hp) (P : Addr → Prop) (_ : L2.St) (xs : List Val) (J : It) (o : List Addr) : Prop := RepI Γ H P xs J ∧ o = []
def SI (Γ : Ctx) (X : Cx) (tg iter : Expr) (it : CI) : Prop := ∀ W, Takes X W → PI X tg iter (tS Γ (RepIt Γ) W it)
theorem Kp.trans0 {H2 : Hp} {P2 : Addr → Prop} (a : Kp H P [] H1 P1) (b : Kp H1 P1 [] H2 P2) : Kp H P [] H2 P2 :=
  ⟨fun a z => (by cases z), fun x u p h => b.frz x u (a.inc x p) (a.frz x u p h), fun x xs h => b.tup x xs (a.tup x xs h), fun x ob u h => b.frd x ob u (a.frd x ob u h), fun x h => b.inc x (a.inc x h)⟩
theorem Ext.kp0 {H' : Hp} {P' : Addr → Prop} {ow' : List Addr} (k : Ok Γ H P ow) (x : Ext H P ow H' P' ow') : Kp H P [] H' P' := Ext.kp (f := []) k x
theorem ss_for {t iter : Expr} {body : List Stmt} {it : CI} {tg : Tg} {sb : S} {pos : Pos} (hp : PassesOwn (model X.prog X.w) X.A X.env X.xe) (hc : X.calm = true) (hi : SI Γ X t iter it) (hg : SG X t tg) (hb : SSs Γ pins X body sb)
    (hs : ∀ x, foldedSetIterable iter X.env x = pure x := by intro _; rfl) : SS Γ pins X (.For t iter body [] pos) (sFor pins it tg sb) := fun fx W tk => by
  refine ps_imp (ps_for hp hc (hi W tk) hg (hb fx W tk) hs) fun D σ H ⟨P, ow, e, ok, rel, acc⟩ => ?_
  refine useS ok rel acc fun xs e1 J H1 P1 o1 ow1 k r l acc1 => ?_
  obtain ⟨ri, rfl⟩ := r
  refine ⟨fun i m σ' H' => ∃ P' ow' e', m = xs.length - i ∧ i ≤ xs.length ∧ Kp H1 P1 [] H' P' ∧ Ok Γ H' P' ow' ∧ RelE Γ H' P' e' σ' ow' ∧ AccS Γ W pins D σ' H' P' ow' (forLoop pins tg sb (xs.drop i) e'),
    ⟨xs.length, P1, ow1, e1, by simp, Nat.zero_le _, ⟨fun _ z => (by cases z), fun _ _ _ h => h, fun _ _ h => h, fun _ _ _ h => h, fun _ h => h⟩, k, l, by simpa using acc1⟩, ?_⟩
  rintro i m σ' H' ⟨P', ow', e', rfl, hi', kp, ok', rel', acc'⟩
  by_cases hlt : i < xs.length
  · refine .inr ⟨ri.go H' P' i kp hlt, fun σ2 H2 => ∃ P2 ow2 e2, Kp H1 P1 [] H2 P2 ∧ Ok Γ H2 P2 ow2 ∧ RelE Γ H2 P2 e2 σ2 ow2 ∧ AccS Γ W pins D σ2 H2 P2 ow2 (forLoop pins tg sb (xs.drop (i + 1)) e2),
      fun σ2 H2 ⟨P2, ow2, e2, a, b, c, d⟩ => ⟨xs.length - (i + 1), by omega, P2, ow2, e2, rfl, hlt, a, b, c, d⟩, fun x H2 y => ?_⟩
    have hx : xs[i]? = some xs[i] := List.getElem?_eq_getElem hlt
    obtain ⟨P2, x2, k2, r2⟩ := ri.yld H' P' i x H2 xs[i] ok'.nil kp hx y
    obtain ⟨x3, k3⟩ := x2.frame (f := ow') (by simpa using ok') k2
    simp only [List.append_nil] at x3 k3
    have kp3 := x2.kp (f := ow') (by simpa using ok')
    rw [List.drop_eq_getElem_cons hlt] at acc'
    simp only [forLoop] at acc'
    cases q : asg pins tg xs[i] e' with
    | none => simp [q, AccS] at acc'
    | some e2 =>
      simp only [q] at acc'
      refine g_ok fx tg σ' H2 P2 [] ow' xs[i] x e' e2 _ k3 (rel'.kp kp3) r2 q fun σ3 ow3 k4 s4 l4 p4 _ => ?_
      refine ⟨P2, ow3, e2, k4, l4, ?_⟩
      have acc3 := acc'.rebase (x3.sub s4) p4
      have kpc : Kp H1 P1 [] H2 P2 := kp.trans0 (kp3.sub fun a z => by cases z)
      cases hs : sb e2 with
      | nx e3 => rw [hs] at acc3; exact fun σ4 H4 P4 ow4 y4 k5 l5 q5 => ⟨P4, ow4, e3, kpc.trans0 (y4.kp0 k4), k5, l5, acc3.rebase y4 q5⟩
      | ct e3 => rw [hs] at acc3; exact fun σ4 H4 P4 ow4 y4 k5 l5 q5 => ⟨P4, ow4, e3, kpc.trans0 (y4.kp0 k4), k5, l5, acc3.rebase y4 q5⟩
      | bk e3 => rw [hs] at acc3; exact acc3
      | rt x e3 => rw [hs] at acc3; exact acc3
      | exc x e3 => rw [hs] at acc3; exact acc3
      | bad => rw [hs] at acc3; exact acc3
  · have e : i = xs.length := by omega
    subst e
    rw [List.drop_length] at acc'
    exact .inl ⟨ri.stop H' P' kp, acc' σ' H' P' ow' .refl ok' rel' .refl⟩
end
end VI
set_option Elab.async false
set_option linter.all false
set_option maxRecDepth 100000
/-! VI6: list comprehensions, what is walked. -/
namespace VI
open PySem PySem.Spec PyProof.Rows L2

section
variable {Γ : Ctx} {X : Cx} {W : WX} {pins : List Nat} {D : Ends} {σ σ1 : L2.St} {H H1 : Hp} {P P1 : Addr → Prop} {ow ow1 f g o : List Addr} {e e' : En}
/-! ### an owned cell is changed -/
theorem mut_code {p c : Addr} {q : Str} {u : HO} (h : H c = some (LamX.CodeO c q)) (hw : Wr H p) : upd H p u c = some (LamX.CodeO c q) := by
  rw [upd_ne]; exact h
  intro z
  subst z
  obtain ⟨u', e', q⟩ := hw
  rw [h] at e'; cases e'
  rcases q with ⟨_, q⟩ | ⟨_, q⟩ | ⟨_, _, _, q⟩ <;> (unfold LamX.CodeO at q; cases q)
theorem mut_tabs {p : Addr} {u : HO} (t : TabsC Γ H) (hw : Wr H p) : TabsC Γ (upd H p u) := ⟨fun q hq => by
  obtain ⟨ps, h1, h2, h3⟩ := t.1 q hq
  have n1 : q.1 ≠ p := fun z => by rw [z] at h1; exact hw.notbl h1 ps rfl
  refine ⟨ps, by rw [upd_ne n1]; exact h1, h2, fun pos cv hc => ?_⟩
  obtain ⟨c, e1, e2⟩ := h3 pos cv hc
  exact ⟨c, e1, mut_code e2 hw⟩, fun q hq => mut_code (t.2 q hq) hw⟩
theorem mut_own {p : Addr} {u : HO} (ok : Ok Γ H P ow) (hp : p ∈ ow) (hw' : Wr (upd H p u) p) (hz : ∀ xs : List V, (u = .lst xs ∨ ∃ ob, u = .frz ob (.tup xs)) → xs.length ≤ sizeLine) (hf : ∀ ob xs, u ≠ .frz ob (.lst xs)) :
    Ext H P ow (upd H p u) P ow ∧ Ok Γ (upd H p u) P ow ∧ ∀ l : List Addr, p ∉ l → (∀ a ∈ l, a ∈ ow) → Kp H P l (upd H p u) P := by
  have hw := ok.m p hp
  have kp : ∀ a v, a ≠ p → H a = some v → upd H p u a = some v := fun a v n h => by rw [upd_ne n]; exact h
  have np : ∀ a, P a → a ≠ p := fun a h z => ok.d p hp (z ▸ h)
  refine ⟨⟨fun a v h n _ => kp a v (fun z => n (z ▸ hp)) h, fun a z => .inl z, fun _ h => h, fun _ h => .inl h, fun a v h => ?_⟩, ⟨fun a h => ?_, fun a z => ?_, ok.d, ok.n, mut_tabs ok.t hw, fun a xs h => ?_⟩, fun l hl hs => ⟨fun a z v h => kp a v (fun q => hl (q ▸ z)) h, fun a v h => kp a v (np a h), fun a xs h => ?_, fun a ob v h => ?_, fun _ h => h⟩⟩
  · by_cases ha : a = p
    · subst ha; exact ⟨u, upd_same⟩
    · exact ⟨v, kp a v ha h⟩
  · obtain ⟨v, h1, h2⟩ := ok.p a h
    exact ⟨v, kp a v (np a h) h1, h2⟩
  · by_cases ha : a = p
    · subst ha; exact hw'
    · obtain ⟨v, h1, h2⟩ := ok.m a z
      exact ⟨v, kp a v ha h1, h2⟩
  · by_cases ha : a = p
    · subst ha
      rcases h with (h | ⟨ob, h⟩) | ⟨ob, h, _⟩
      · rw [upd_same] at h; cases h; exact hz xs (.inl rfl)
      · rw [upd_same] at h; cases h; exact absurd rfl (hf ob xs)
      · rw [upd_same] at h; cases h; exact hz xs (.inr ⟨ob, rfl⟩)
    · refine ok.z a xs ?_
      rcases h with (h | ⟨ob, h⟩) | ⟨ob, h, hd⟩
      · rw [upd_ne ha] at h; exact .inl (.inl h)
      · rw [upd_ne ha] at h; exact .inl (.inr ⟨ob, h⟩)
      · rw [upd_ne ha] at h; exact .inr ⟨ob, h, hd⟩
  · exact kp a _ (fun z => hw.notup (z ▸ h)) h
  · exact kp a _ (fun z => hw.nofrz (z ▸ h)) h
theorem mut_lst {p : Addr} {ws : List V} (ok : Ok Γ H P ow) (hp : p ∈ ow) (hz : ws.length ≤ sizeLine) :
    Ext H P ow (upd H p (.lst ws)) P ow ∧ Ok Γ (upd H p (.lst ws)) P ow ∧ ∀ l : List Addr, p ∉ l → (∀ a ∈ l, a ∈ ow) → Kp H P l (upd H p (.lst ws)) P :=
  mut_own ok hp ⟨_, upd_same, .inl ⟨_, rfl⟩⟩ (fun xs h => by rcases h with h | ⟨_, h⟩ <;> cases h; exact hz) (fun _ _ z => by cases z)

/-! ### the block's own names -/
theorem wipe_rel (hz : Γ.fix = []) : ∀ {vs : List Nat} {e : En} {ow : List Addr}, Ok Γ H P (f ++ ow) → RelE Γ H P e σ ow → ∃ ow', RelE Γ H P (wipeE vs e) (wipe σ vs) ow' ∧ Ok Γ H P (f ++ ow') ∧ ∀ a ∈ ow', a ∈ ow
  | [], e, ow, ok, rel => ⟨ow, rel, ok, fun _ z => z⟩
  | v :: vs, e, ow, ok, rel => by
    obtain ⟨ow1, r1, k1, s1⟩ := wipe_rel hz (vs := vs) ok rel
    show ∃ ow', RelE Γ H P ((wipeE vs e).set v none) ((wipe σ vs).set v none) ow' ∧ _
    by_cases hi : v < (wipeE vs e).length
    · obtain ⟨ow2, r2, s2, n2⟩ := r1.drop hi
      refine ⟨ow2, r2.sig (List.getElem?_set_self hi) (fun p hp => by rw [hz] at hp; cases hp), ?_, fun a z => s1 a (s2 a z)⟩
      have n := List.nodup_append.mp k1.n
      refine k1.sub (fun a z => ?_) (List.nodup_append.mpr ⟨n.1, n2 n.2.1, fun a z b w => n.2.2 a z b (s2 b w)⟩)
      rcases List.mem_append.mp z with z | z
      · exact List.mem_append_left _ z
      · exact List.mem_append_right _ (s2 a z)
    · have h1 : (wipeE vs e).set v none = wipeE vs e := List.set_eq_of_length_le (by omega)
      have h2 : (wipe σ vs).set v none = wipe σ vs := List.set_eq_of_length_le (by rw [← r1.length]; omega)
      rw [h1, h2]
      exact ⟨ow1, r1, k1, s1⟩
theorem wipe_len (vs : List Nat) (e : En) : (wipeE vs e).length = e.length := by
  induction vs with
  | nil => rfl
  | cons v vs ih => show ((wipeE vs e).set v none).length = _; rw [List.length_set, ih]
theorem wipe_at : ∀ {vs : List Nat} {e : En} {i : Nat}, i ∈ vs → i < e.length → (wipeE vs e)[i]? = some none
  | v :: vs, e, i, h, hl => by
    show ((wipeE vs e).set v none)[i]? = _
    by_cases hv : v = i
    · subst hv
      exact List.getElem?_set_self (by rw [wipe_len]; exact hl)
    · rw [List.getElem?_set_ne hv]
      rcases List.mem_cons.mp h with h | h
      · exact absurd h.symm hv
      · exact wipe_at h hl
theorem wipe_off : ∀ {vs : List Nat} {σ : L2.St} {i : Nat}, i ∉ vs → (wipe σ vs)[i]? = σ[i]?
  | [], _, _, _ => rfl
  | v :: vs, σ, i, h => by
    simp only [List.mem_cons, not_or] at h
    show ((wipe σ vs).set v none)[i]? = _
    rw [List.getElem?_set_ne (Ne.symm h.1)]
    exact wipe_off h.2
theorem wipe_on : ∀ {vs : List Nat} {σ : L2.St} {i : Nat}, i ∈ vs → i < σ.length → (wipe σ vs)[i]? = some none
  | v :: vs, σ, i, h, hl => by
    show ((wipe σ vs).set v none)[i]? = _
    by_cases hv : v = i
    · subst hv
      exact List.getElem?_set_self (by rw [L2.wipe_length]; exact hl)
    · rw [List.getElem?_set_ne hv]
      rcases List.mem_cons.mp h with h | h
      · exact absurd h.symm hv
      · exact wipe_on h hl
theorem oldV_some {old : En} {i : Nat} {x : Val} (h : oldV old i = some x) : old[i]? = some (some x) ∧ isFz x = true := by
  unfold oldV at h
  cases q : slot old i with
  | none => simp [q] at h
  | some y =>
    simp only [q] at h
    by_cases hf : isFz y = true
    · rw [if_pos hf] at h
      cases h
      exact ⟨slot_some.mp q, hf⟩
    · rw [if_neg hf] at h; cases h
theorem unwipe_rel (hz : Γ.fix = []) : ∀ {vs : List Nat} {old e : En} {ow : List Addr}, RelE Γ H P e (wipe σ vs) ow → (∀ i ∈ vs, i < e.length → e[i]? = some none) → vs.Nodup → (∀ i x, i ∈ vs → oldV old i = some x → ∃ v, σ[i]? = some (some v) ∧ Rep Γ H P x v []) →
    RelE Γ H P (unwipe vs old e) σ ow
  | [], old, e, ow, rel, _, _, _ => rel
  | v :: vs, old, e, ow, rel, hn, nd, ho => by
    have nd' := List.nodup_cons.mp nd
    have hlen : e.length = σ.length := by rw [rel.length, L2.wipe_length]
    have step : RelE Γ H P (e.set v (oldV old v)) (wipe σ vs) ow := by
      by_cases hi : v < e.length
      · have hv := hn v List.mem_cons_self hi
        have hw : (wipe σ vs)[v]? = σ[v]? := wipe_off nd'.1
        have r1 : RelE Γ H P e (wipe σ vs) ow := by
          have hσ : ∃ w, σ[v]? = some w := ⟨σ[v]'(by omega), List.getElem?_eq_getElem (by omega)⟩
          obtain ⟨w, hw2⟩ := hσ
          have z := rel.sig (w := w) hv (fun p hp => by rw [hz] at hp; cases hp)
          have : ((wipe σ (v :: vs)).set v w) = wipe σ vs := by
            apply List.ext_getElem?
            intro j
            show (((wipe σ vs).set v none).set v w)[j]? = _
            rw [List.set_set]
            by_cases hj : v = j
            · subst hj
              rw [List.getElem?_set_self (by rw [L2.wipe_length]; omega), hw, hw2]
            · rw [List.getElem?_set_ne hj]
          rw [this] at z
          exact z
        cases q : oldV old v with
        | none =>
          have : e.set v none = e := by
            apply List.ext_getElem?
            intro j
            by_cases hj : v = j
            · subst hj; rw [List.getElem?_set_self hi, hv]
            · rw [List.getElem?_set_ne hj]
          rw [this]
          exact r1
        | some x =>
          obtain ⟨u, hu, ru⟩ := ho v x List.mem_cons_self q
          have z := r1.put hv (by rw [hw]; exact hu) ru
          simpa using z
      · rw [List.set_eq_of_length_le (by omega)]
        have : wipe σ (v :: vs) = wipe σ vs := List.set_eq_of_length_le (by rw [L2.wipe_length]; omega)
        rw [← this]
        exact rel
    show RelE Γ H P (unwipe vs old (e.set v (oldV old v))) σ ow
    refine unwipe_rel hz (vs := vs) (e := e.set v (oldV old v)) step (fun i hi hl => ?_) nd'.2 (fun i x hi => ho i x (List.mem_cons_of_mem _ hi))
    rw [List.length_set] at hl
    rw [List.getElem?_set_ne (fun z => nd'.1 (by rw [z]; exact hi))]
    exact hn i (List.mem_cons_of_mem _ hi) hl

/-! ### list comprehensions -/
theorem lc_red {it : CI} {tg : Tg} {t : CB} {el : C} {vs : List Nat} {K : PySem.W.Frag} {tt : TT} {te : TE} {Q : VK} (hz : Γ.fix = []) (h : tS Γ (RepO Γ) W (cLC it tg t el vs) σ H Q) (nd : vs.Nodup) (hsl : ∀ i ∈ tg.slots, i ∈ vs)
    (ht : ∀ σ H Q, tS Γ RepB (fun _ _ _ _ => False) t σ H Q → tt σ H Q) (he : ∀ σ H Q, tS Γ (RepO Γ) (fun _ _ _ _ => False) el σ H Q → te σ H Q) : tLc (tS Γ (RepIt Γ) W it) (gOf K tg) tt te vs σ H Q := by
  obtain ⟨P, ow, e, ok, rel, acc⟩ := h
  refine tS.use (f := []) ok rel acc fun xs e1 J H1 P1 o1 ow1 kp1 ok1 r1 rel1 acc1 => ?_
  obtain ⟨ri, rfl⟩ := r1
  have ok1' : Ok Γ H1 P1 ow1 := ok1
  intro D hD
  obtain ⟨x2, k2, kp2⟩ := new_lst (ws := []) ok1' hD (Nat.zero_le _)
  obtain ⟨x3, k3⟩ := x2.frame (f := ow1) (by simpa using ok1') k2
  have k3' : Ok Γ (upd H1 D (.lst [])) P1 ([D] ++ ow1) := k3.perm List.perm_append_comm
  obtain ⟨ow2, rel2, ok2, s2⟩ := wipe_rel hz (vs := vs) (f := [D]) k3' (rel1.kp kp2)
  -- what the block's names held
  have hold : ∀ i x, i ∈ vs → oldV e1 i = some x → ∃ v, σ[i]? = some (some v) ∧ Rep Γ H1 P1 x v [] := fun i x _ q => by
    obtain ⟨q1, q2⟩ := oldV_some q
    obtain ⟨v, o2, a, b, _⟩ := rel1.get q1
    exact ⟨v, a, by rw [b.nil q2] at b; exact b⟩
  have hlw : (wipeE vs e1).length = σ.length := by rw [wipe_len, rel1.length]
  have acc2 : Acc Γ (RepO Γ) W σ (upd H1 D (.lst [])) P1 ([D] ++ ow1) Q (match lcLoop tg t el vs (xs.drop 0) [] (wipeE vs e1) with
      | .ok ys e2 => .ok (.val (.lst true ys)) (unwipe vs e1 e2)
      | _ => .bad) := Acc.rebase (Acc.rebase acc1 (x3.permL (by simp))) (Ext.refl.perm (List.perm_append_comm (l₁ := ow1) (l₂ := [D])))
  refine ⟨fun i m H' => ∃ P' ow' e' ys ws, m = xs.length - i ∧ i ≤ xs.length ∧ Kp H1 P1 [] H' P' ∧ Ok Γ H' P' ([D] ++ ow') ∧ RelE Γ H' P' e' (wipe σ vs) ow' ∧ (∀ j ∈ vs, j < e'.length → e'[j]? = some none) ∧ H' D = some (.lst ws) ∧ RepL Γ H' P' ys ws [] ∧ ws.length ≤ i ∧
      Acc Γ (RepO Γ) W σ H' P' ([D] ++ ow') Q (match lcLoop tg t el vs (xs.drop i) ys e' with
        | .ok ys e2 => .ok (.val (.lst true ys)) (unwipe vs e1 e2)
        | _ => .bad), ⟨xs.length, P1, ow2, wipeE vs e1, [], [], by simp, Nat.zero_le _, kp2.sub (fun a z => by cases z), ok2, rel2, ?_, upd_same, by simp [RepL], Nat.le_refl _, ?_⟩, ?_⟩
  · intro j hj hl
    exact wipe_at hj (by rw [wipe_len] at hl; exact hl)
  · refine acc2.rebase (Ext.refl.sub fun a z => ?_)
    rcases List.mem_append.mp z with z | z
    · exact List.mem_append_left _ z
    · exact List.mem_append_right _ (s2 a z)
  rintro i m H' ⟨P', ow', e', ys, ws, rfl, hi, kp', ok', rel', hn', hD', rL', hws, acc'⟩
  by_cases hlt : i < xs.length
  · refine .inr ⟨ri.go H' P' i kp' hlt, fun H' => ∃ P' ow' e' ys ws, Kp H1 P1 [] H' P' ∧ Ok Γ H' P' ([D] ++ ow') ∧ RelE Γ H' P' e' (wipe σ vs) ow' ∧ (∀ j ∈ vs, j < e'.length → e'[j]? = some none) ∧ H' D = some (.lst ws) ∧ RepL Γ H' P' ys ws [] ∧ ws.length ≤ i + 1 ∧
      Acc Γ (RepO Γ) W σ H' P' ([D] ++ ow') Q (match lcLoop tg t el vs (xs.drop (i + 1)) ys e' with
        | .ok ys e2 => .ok (.val (.lst true ys)) (unwipe vs e1 e2)
        | _ => .bad), fun H2 ⟨P2, ow2, e2, ys2, ws2, a, b, c, d, e, f, g, h⟩ => ⟨xs.length - (i + 1), by omega, P2, ow2, e2, ys2, ws2, rfl, hlt, a, b, c, d, e, f, g, h⟩, fun x H2 y => ?_⟩
    have hx : xs[i]? = some xs[i] := List.getElem?_eq_getElem hlt
    obtain ⟨P2, x4, k4, r4⟩ := ri.yld H' P' i x H2 xs[i] ok'.nil kp' hx y
    obtain ⟨x5, k5⟩ := x4.frame (f := [D] ++ ow') (by simpa using ok') k4
    have kp5 := x4.kp (f := [D] ++ ow') (by simpa using ok')
    rw [List.append_nil] at x5 k5
    have acc5 := acc'.rebase x5
    rw [List.drop_eq_getElem_cons hlt] at acc5
    simp only [lcLoop] at acc5
    cases q : asg [] tg xs[i] e' with
    | none => simp [q, Acc] at acc5
    | some e2 =>
      simp only [q] at acc5
      refine g_ok (fun p hp => by rw [hz] at hp; cases hp) tg _ H2 P2 [] ow' xs[i] x e' e2 _ k5.right (rel'.kp (kp5.sub fun a z => List.mem_append_right _ z)) r4 q fun σ3 ow3 k6 s6 l6 p6 nn6 => ?_
      have hσ3 : wipe σ3 vs = wipe σ vs := by
        apply List.ext_getElem?
        intro j
        have hl3 : σ3.length = σ.length := by
          rw [← l6.length]
          rw [asg_len q, rel'.length, L2.wipe_length]
        by_cases hj : j ∈ vs
        · by_cases hlj : j < σ.length
          · rw [wipe_on hj hlj, wipe_on hj (by rw [hl3]; exact hlj)]
          · rw [List.getElem?_eq_none (by rw [L2.wipe_length]; omega), List.getElem?_eq_none (by rw [L2.wipe_length]; omega)]
        · rw [wipe_off hj, wipe_off hj, nn6 j (fun z => hj (hsl j z)), wipe_off hj]
      refine ⟨hσ3, ?_⟩
      have kD6 : Ok Γ H2 P2 ([D] ++ ow3) := by
        have n := List.nodup_append.mp k5.n
        refine k5.sub (fun a z => ?_) (List.nodup_append.mpr ⟨n.1, k6.n, fun a z b w => n.2.2 a z b (s6 b w)⟩)
        rcases List.mem_append.mp z with z | z
        · exact List.mem_append_left _ z
        · exact List.mem_append_right _ (s6 a z)
      have acc6 := acc5.rebase (Ext.refl (ow := [D] ++ ow') |>.sub (ow' := [D] ++ ow3) fun a z => by
        rcases List.mem_append.mp z with z | z
        · exact List.mem_append_left _ z
        · exact List.mem_append_right _ (s6 a z))
      have kp6 : Kp H1 P1 [] H2 P2 := kp'.trans0 (kp5.sub fun a z => by cases z)
      have hD2 : H2 D = some (.lst ws) := kp5.own D (List.mem_append_left _ (List.mem_singleton.mpr rfl)) _ hD'
      have rL2 := rL'.kp (kp5.sub fun a z => by cases z)
      refine ht σ3 H2 _ ⟨P2, ow3, e2, k6, l6, ?_⟩
      cases qt : t e2 with
      | exc z e3 => simp [qt, Acc] at acc6
      | bad => simp [qt, Acc] at acc6
      | ok b e3 =>
        simp only [qt] at acc6
        intro b' H3 P3 o3 ow4 x7 k7 r7 l7
        obtain ⟨rfl, rfl⟩ := r7
        simp only [List.nil_append] at x7 k7
        obtain ⟨x7', k7'⟩ := x7.frame kD6 k7
        have kp7 := x7.kp kD6
        have acc7 := acc6.rebase x7'
        have kp67 : Kp H1 P1 [] H3 P3 := kp6.trans0 (kp7.sub fun a z => by cases z)
        have hD3 : H3 D = some (.lst ws) := kp7.own D (List.mem_singleton.mpr rfl) _ hD2
        have rL3 := rL2.kp (kp7.sub fun a z => by cases z)
        cases b' with
        | false =>
          simp only [Bool.false_eq_true, if_false]
          simp only at acc7
          obtain ⟨ow5, rel5, ok5, s5⟩ := wipe_rel hz (vs := vs) (f := [D]) k7' l7
          rw [hσ3] at rel5
          refine ⟨P3, ow5, wipeE vs e3, ys, ws, kp67, ok5, rel5, fun j hj hl => wipe_at hj (by rw [wipe_len] at hl; exact hl), hD3, rL3, by omega, ?_⟩
          refine acc7.rebase (Ext.refl.sub fun a z => ?_)
          rcases List.mem_append.mp z with z | z
          · exact List.mem_append_left _ z
          · exact List.mem_append_right _ (s5 a z)
        | true =>
          simp only [if_true]
          simp only at acc7
          refine he σ3 H3 _ ⟨P3, ow4, e3, k7, l7, ?_⟩
          cases qe : el e3 with
          | exc z e4 => simp [qe, Acc] at acc7
          | bad => simp [qe, Acc] at acc7
          | ok u e4 =>
            simp only [qe] at acc7
            intro yv H4 P4 o5 ow5 x8 k8 r8 l8
            obtain ⟨x8', k8'⟩ := x8.frame k7' k8
            have kp8 := x8.kp k7'
            have acc8 := acc7.rebase x8'
            have hD4 : H4 D = some (.lst ws) := kp8.own D (List.mem_singleton.mpr rfl) _ hD3
            have rL4 := rL3.kp (kp8.sub fun a z => by cases z)
            refine ⟨ws, hD4, Nat.lt_of_lt_of_le (Nat.lt_of_le_of_lt hws hlt) ri.len, ?_⟩
            cases qu : u.takeF e4 with
            | none => simp [qu, Acc] at acc8
            | some pr =>
              obtain ⟨yy, e5⟩ := pr
              simp only [qu] at acc8
              obtain ⟨P5, ow6, x9, k9, r9, l9, kp9⟩ := OV.takeF_rep (f := [D]) k8' l8 r8 qu
              have acc9 := acc8.rebase x9
              have hlen : (ws ++ [yv]).length ≤ sizeLine := by
                rw [List.length_append]
                have := ri.len
                show ws.length + 1 ≤ _
                omega
              obtain ⟨xa, ka, kpa⟩ := mut_lst (p := D) (ws := ws ++ [yv]) k9 (List.mem_append_left _ (List.mem_singleton.mpr rfl)) hlen
              have acca := acc9.rebase xa
              have hDn : D ∉ ow6 := fun z => k9.dis D (List.mem_singleton.mpr rfl) z
              have kp_env := kpa ow6 hDn (fun a z => List.mem_append_right _ z)
              have kp_nil := kpa [] (fun z => by cases z) (fun a z => by cases z)
              obtain ⟨ow7, rel7, ok7, s7⟩ := wipe_rel hz (vs := vs) (f := [D]) ka (l9.kp kp_env)
              rw [hσ3] at rel7
              have rLa := (rL4.kp (kp9.sub fun a z => by cases z)).kp kp_nil
              have ry : RepL Γ (upd H4 D (.lst (ws ++ [yv]))) P5 [yy] [yv] [] := by
                simp only [RepL]
                exact ⟨yv, [], [], [], rfl, r9.kp kp_nil, ⟨rfl, rfl⟩, rfl⟩
              refine ⟨P5, ow7, wipeE vs e5, ys ++ [yy], ws ++ [yv], ((kp67.trans0 (kp8.sub fun a z => by cases z)).trans0 (kp9.sub fun a z => by cases z)).trans0 kp_nil, ok7, rel7, fun j hj hl => wipe_at hj (by rw [wipe_len] at hl; exact hl), upd_same, by simpa using rLa.append ry, ?_, ?_⟩
              · rw [List.length_append]; show ws.length + 1 ≤ _; omega
              · refine acca.rebase (Ext.refl.sub fun a z => ?_)
                rcases List.mem_append.mp z with z | z
                · exact List.mem_append_left _ z
                · exact List.mem_append_right _ (s7 a z)
  · have e : i = xs.length := by omega
    subst e
    rw [List.drop_length] at acc'
    simp only [lcLoop] at acc'
    refine .inl ⟨ri.stop H' P' kp', acc' (.ref D) H' P' [D] ow' .refl ok' ?_ ?_⟩
    · show Rep Γ H' P' (.lst true ys) _ _
      simp only [Rep]
      exact ⟨D, ws, [], rfl, hD', rL', rfl⟩
    · refine unwipe_rel hz rel' hn' nd fun j x hj hx => ?_
      obtain ⟨v, h1, h2⟩ := hold j x hj hx
      exact ⟨v, h1, h2.kp (kp'.sub fun a z => by cases z)⟩
def SPTs (Γ : Ctx) (X : Cx) (ifs : List Expr) (t : CB) : Prop := ∀ W, Takes X W → PTs X ifs (tS Γ RepB W t)
theorem pts_imp {X : Cx} {es : List Expr} {t t' : TT} (h : PTs X es t) (i : ∀ σ H Q, t' σ H Q → t σ H Q) : PTs X es t' := ⟨fun pins s σ H Q I hw => h.run pins s σ H Q I (i _ _ _ hw)⟩
theorem sp_nil : SPTs Γ X [] VI.tYes := fun W tk => pts_imp pts_nil fun σ H Q ⟨P, ow, e, ok, rel, acc⟩ => acc true H P [] ow .refl ok ⟨rfl, rfl⟩ rel
theorem sp_one {c : Expr} {t : CB} (h : SB Γ X c t) : SPTs Γ X [c] t := fun W tk => pts_one (h W tk)
/-- [elt for tgE in iter if ..] -/
theorem se_lc {elt tgE iter : Expr} {ifs : List Expr} {scope : Scope} {own : List (Str × Nat)} {pos : Pos} {it : CI} {tg : Tg} {t : CB} {el : C} (hz : Γ.fix = []) (hc : X.calm = true) (hN : X.N.Nodup) (hi : SI Γ X tgE iter it) (ok : BlkOk X.N X.env.scope scope own)
    (hg : ∀ (s : Shared) (H : Hp) (C : Addr) (cl : List (Str × Addr)) (fp : List Addr), SG (X.blk s H scope (compEnvC scope cl C X.env) fp) tgE tg) (ht : ∀ (s : Shared) (H : Hp) (C : Addr) (cl : List (Str × Addr)) (fp : List Addr), SPTs Γ (X.blk s H scope (compEnvC scope cl C X.env) fp) ifs t)
    (he : ∀ (s : Shared) (H : Hp) (C : Addr) (cl : List (Str × Addr)) (fp : List Addr), SE Γ (X.blk s H scope (compEnvC scope cl C X.env) fp) elt el) (nd : (own.map (·.2)).Nodup := by decide) (hsl : ∀ i ∈ tg.slots, i ∈ own.map (·.2) := by decide) (hs : ∀ x, foldedSetIterable iter X.env x = pure x := by intro _; rfl) :
    SE Γ X (.ListComp elt [⟨tgE, iter, ifs, 0⟩] scope pos) (cLC it tg t el (own.map (·.2))) := fun W tk =>
  pe_imp (pe_lc (g := gOf X.K tg) hc hN (hi W tk) ok (fun s H C cl fp => hg s H C cl fp) (fun s H C cl fp => ht s H C cl fp _ LamX.takes0) (fun s H C cl fp => he s H C cl fp _ LamX.takes0) hs) fun σ H Q h => lc_red hz h nd hsl (fun _ _ _ h => h) (fun _ _ _ h => h)
/-- y = [..] on one line -/
theorem ss_setLc {i : Nat} {y : Str} {py : Pos} {elt tgE iter : Expr} {ifs : List Expr} {scope : Scope} {own : List (Str × Nat)} {pos spos : Pos} {it : CI} {tg : Tg} {t : CB} {el : C} (hz : Γ.fix = []) (hc : X.calm = true) (hN : X.N.Nodup) (hy : X.N[i]? = some y) (hyl : X.env.scope.names.lookup y = some .local)
    (hsw : swapsWith (.ListComp elt [⟨tgE, iter, ifs, 0⟩] scope pos) (some (.Name y py)) spos.line X.env = pure true) (hi : SI Γ X tgE iter it) (ok : BlkOk X.N X.env.scope scope own)
    (hg : ∀ (s : Shared) (H : Hp) (C : Addr) (cl : List (Str × Addr)) (fp : List Addr), SG (X.blk s H scope (compEnvC scope cl C X.env) fp) tgE tg) (ht : ∀ (s : Shared) (H : Hp) (C : Addr) (cl : List (Str × Addr)) (fp : List Addr), SPTs Γ (X.blk s H scope (compEnvC scope cl C X.env) fp) ifs t)
    (he : ∀ (s : Shared) (H : Hp) (C : Addr) (cl : List (Str × Addr)) (fp : List Addr), SE Γ (X.blk s H scope (compEnvC scope cl C X.env) fp) elt el) (nd : (own.map (·.2)).Nodup := by decide) (hsl : ∀ i ∈ tg.slots, i ∈ own.map (·.2) := by decide) (hs : ∀ x, foldedSetIterable iter X.env x = pure x := by intro _; rfl) :
    SS Γ pins X (.Assign [.Name y py] (.ListComp elt [⟨tgE, iter, ifs, 0⟩] scope pos) spos) (sAsg pins (.n i) (cLC it tg t el (own.map (·.2)))) := fun fx W tk => by
  refine ps_imp (ps_setLc (g := gOf X.K tg) hc hN hy hyl hsw (hi W tk) ok (fun s H C cl fp => hg s H C cl fp) (fun s H C cl fp => ht s H C cl fp _ LamX.takes0) (fun s H C cl fp => he s H C cl fp _ LamX.takes0) hs) fun D σ H ⟨P, ow, e, ok, rel, acc⟩ => ?_
  refine lc_red (W := W) hz ?_ nd hsl (fun _ _ _ h => h) (fun _ _ _ h => h)
  refine useS ok rel acc fun u e1 v H1 P1 o1 ow1 k r l acc1 => ?_
  cases q1 : u.take e1 with
  | none => simp [q1, AccS] at acc1
  | some pr =>
    obtain ⟨x, e2⟩ := pr
    cases q2 : asg pins (.n i) x e2 with
    | none => simp [q1, q2, AccS] at acc1
    | some e3 =>
      simp only [q1, q2] at acc1
      obtain ⟨P2, o2, ow2, x2, k2, r2, l2, _⟩ := OV.take_rep (f := []) k l r q1
      have z := g_ok (K := X.K) fx (.n i) σ H1 P2 o2 ow2 x v e2 e3 D.nx k2 l2 r2 q2 fun σ' ow' k3 s3 l3 p3 _ => acc1 σ' H1 P2 ow' (Ext.sub (ow1 := o2 ++ ow2) x2 s3) k3 l3 p3
      simpa only [gOf] using z

/-! ### what is walked -/
theorem pi_imp {tgE iter : Expr} {t t' : TI} (h : PI X tgE iter t) (i : ∀ σ H R, t' σ H R → t σ H R) : PI X tgE iter t' := ⟨fun pins s σ H R I hw => h.run pins s σ H R I (i _ _ _ hw)⟩
end
end VI
set_option Elab.async false
set_option linter.all false
set_option maxRecDepth 100000
/-! VI7: what is walked: lists, tuples, ranges, texts, enumerate and zip of any of lists and tuples. -/
namespace VI
open PySem PySem.Spec PyProof.Rows L2

section
variable {Γ : Ctx} {X : Cx} {W : WX} {σ : L2.St} {H H1 : Hp} {P P1 : Addr → Prop} {ow f o : List Addr} {e : En} {tgE : Expr}
/-! ### a list (true) or a tuple (false) that is read -/
def SqK (K : PySem.W.Frag) (H : Hp) (k : Bool) (a : Addr) (xs : List V) : Prop := if k then SqL K H a xs else TupN H a xs
theorem SqK.inv {k : Bool} {a : Addr} {xs : List V} {pins : List (Addr × Obj)} {s : Shared} (I : Inv X pins σ H s) (h : SqK X.K H k a xs) : ∃ its : List Value, Vals xs its ∧ xs.length ≤ sizeLine ∧ a < s.heap.objs.size ∧ (if k then s.heap.IsList a its.toArray else s.heap.IsTuple a its.toArray) := by
  cases k with
  | true =>
    obtain ⟨its, r, p, z⟩ := I.list h
    exact ⟨its, r, z, p.lt, p.isList⟩
  | false =>
    obtain ⟨its, r, p, z⟩ := I.tuple (TupN.sq (h : TupN H a _))
    exact ⟨its, r, z, p.lt, p⟩
theorem SqK.inj {k : Bool} {a : Addr} {xs ys : List V} {pins : List (Addr × Obj)} {s : Shared} (I : Inv X pins σ H s) (h : SqK X.K H k a xs) (h' : SqK X.K H k a ys) : xs = ys := by
  cases k with
  | true => exact I.list_inj h h'
  | false => exact TupN.inj (h : TupN H a xs) (h' : TupN H a ys)
/-- where a value's items lie -/
def SeqAtV (Γ : Ctx) (H : Hp) (P : Addr → Prop) (x : Val) (k : Bool) (a : Addr) (ws : List V) : Prop := (if k then Still Γ H P a ws else TupN H a ws)
theorem seq_rep {x : Val} {v : V} {xs : List Val} (r : Rep Γ H P x v []) (q : seqItems x = some xs) : ∃ k a ws, v = .ref a ∧ SeqAtV Γ H P x k a ws ∧ RepL Γ H P xs ws [] := by
  cases x <;> first | (simp [seqItems] at q; done) | skip
  · simp only [seqItems, Option.some.injEq] at q
    subst q
    simp only [Rep] at r
    obtain ⟨a, ws, e, h1, h2⟩ := r
    exact ⟨false, a, ws, e, h1, h2⟩
  · rename_i b vs
    simp only [seqItems, Option.some.injEq] at q
    subst q
    cases b with
    | true =>
      simp only [Rep] at r
      obtain ⟨a, ws, o', _, _, _, e⟩ := r
      cases e
    | false =>
      simp only [Rep] at r
      obtain ⟨a, ws, e, h1, h3⟩ := r
      exact ⟨true, a, ws, e, h1, h3⟩
theorem SeqAtV.kp {x : Val} {k : Bool} {a : Addr} {ws : List V} {H' : Hp} {P' : Addr → Prop} (h : SeqAtV Γ H P x k a ws) (q : Kp H P [] H' P') (K : PySem.W.Frag) (hK : K = Γ.K) : SqK K H' k a ws := by
  subst hK
  cases k with
  | true =>
    rcases (show Still Γ H P a ws from h) with ⟨h1 | ⟨ob, h1⟩, h2⟩ | h1
    · exact .inl (.inl (q.frz a _ h2 h1))
    · exact .inl (.inr ⟨ob, q.frd a ob _ h1⟩)
    · exact .inr h1
  | false => exact (h : TupN H a ws).elim fun ob h => ⟨ob, q.frd a ob _ h.1, h.2⟩
theorem SeqAtV.len {x : Val} {k : Bool} {a : Addr} {ws : List V} (ok : Ok Γ H P ow) (h : SeqAtV Γ H P x k a ws) : ws.length ≤ sizeLine := by
  cases k with
  | true =>
    rcases (show Still Γ H P a ws from h) with h1 | ⟨o, its, n, _, _, _, _, hz, r⟩
    · exact ok.z a ws (.inl h1.1)
    · rw [r.length]
      simpa using hz
  | false => exact ok.z a ws (.inr h)

/-! ### for x in e -/
def Its2 (K : PySem.W.Frag) (k : Bool) (a : Addr) : It := if k then Itl K a else Itt K a
def iSq (K : PySem.W.Frag) (tl : TE) : TI := fun σ H R => tl σ H fun x H1 => ∃ k a xs, x = .ref a ∧ SqK K H1 k a xs ∧ R (Its2 K k a) H1
theorem pi_sq {l : Expr} {tl : TE} (hl : PE X l tl) : PI X tgE l (iSq X.K tl) := by
  refine ⟨fun pins s σ H R I h => ?_⟩
  refine thn (hl.run pins s σ H _ I h) fun v s1 ⟨x, H1, I1, r1, q1⟩ => ?_
  obtain ⟨k, a, xs, rfl, hq, q⟩ := q1
  cases r1
  cases k with
  | true =>
    obtain ⟨its, rv, p, _⟩ := I1.list hq
    refine wpAny_pyIter_list p.isList ?_
    refine ⟨s1.heap.objs.size, [s1.heap.objs.size], _, _, H1, rfl, I1.kept (t' := s1.toks) (fun b o e => Heap.get?_push_of_some _ e), turn_list a _, ⟨_, Heap.get?_push_size _ rfl, rfl, rfl⟩, fun b hb => ?_, q⟩
    rw [List.mem_singleton] at hb
    subst hb
    exact I1.fpOk (Nat.le_refl _) (I1.hok.fresh (Nat.le_refl _))
  | false =>
    obtain ⟨its, rv, p, _⟩ := I1.tuple (TupN.sq (hq : TupN _ _ _))
    refine wpAny_pyIter_tuple (show s1.heap.IsTuple a its.toArray from p) ?_
    refine ⟨s1.heap.objs.size, [s1.heap.objs.size], _, _, H1, rfl, I1.kept (t' := s1.toks) (fun b o e => Heap.get?_push_of_some _ e), turn_tuple a _, ⟨_, Heap.get?_push_size _ rfl, rfl, rfl⟩, fun b hb => ?_, q⟩
    rw [List.mem_singleton] at hb
    subst hb
    exact I1.fpOk (Nat.le_refl _) (I1.hok.fresh (Nat.le_refl _))
theorem kp_self : Kp H P [] H P := ⟨fun _ z => (by cases z), fun _ _ _ h => h, fun _ _ h => h, fun _ _ _ h => h, fun _ h => h⟩
theorem seq_walks {x : Val} {k : Bool} {a : Addr} {ws : List V} {xs : List Val} (ok : Ok Γ H P ow) (h : SeqAtV Γ H P x k a ws) (r : RepL Γ H P xs ws []) (K : PySem.W.Frag) (hK : K = Γ.K) : RepI Γ H P xs (Its2 K k a) where
  len := by rw [r.length]; exact h.len ok
  go := fun H' P' i kp hi => by
    have q := h.kp kp K hK
    rw [r.length] at hi
    cases k with
    | true => exact ⟨ws, ws[i], q, List.getElem?_eq_getElem hi⟩
    | false => exact ⟨ws, ws[i], TupN.sq (q : TupN _ _ _), List.getElem?_eq_getElem hi⟩
  stop := fun H' P' kp => by
    have q := h.kp kp K hK
    rw [r.length]
    cases k with
    | true => exact ⟨ws, q, Nat.le_refl _⟩
    | false => exact ⟨ws, TupN.sq (q : TupN _ _ _), Nat.le_refl _⟩
  yld := fun H' P' i v H2 y ok' kp hy yl => by
    have q := h.kp kp K hK
    obtain ⟨w, o', e1, r1⟩ := (r.kp kp).get hy
    have hnil : Rep Γ H' P' y w [] := by
      have main : ∀ {xs : List Val} {ws : List V} {i : Nat}, RepL Γ H' P' xs ws [] → xs[i]? = some y → ∃ w, ws[i]? = some w ∧ Rep Γ H' P' y w [] := by
        intro xs
        induction xs with
        | nil => intro ws i _ e; simp at e
        | cons z zs ih =>
          intro ws i h e
          simp only [RepL] at h
          obtain ⟨w, ws', o1, o2, rfl, a1, a2, a3⟩ := h
          have e1 : o1 = [] := (List.append_eq_nil_iff.mp a3.symm).1
          have e2 : o2 = [] := (List.append_eq_nil_iff.mp a3.symm).2
          subst e1 e2
          cases i with
          | zero => simp at e; subst e; exact ⟨w, rfl, a1⟩
          | succ i => obtain ⟨w', b1, b2⟩ := ih a2 (by simpa using e); exact ⟨w', by simpa using b1, b2⟩
      obtain ⟨w', b1, b2⟩ := main (r.kp kp) hy
      rw [e1] at b1; cases b1
      exact b2
    have hv : H2 = H' ∧ ws[i]? = some v := by
      cases k with
      | true => exact ⟨yl.1, yl.2 ws q⟩
      | false => exact ⟨yl.1, yl.2 ws (TupN.sq (q : TupN _ _ _))⟩
    obtain ⟨rfl, hv⟩ := hv
    rw [e1] at hv; cases hv
    exact ⟨P', .refl, ok', hnil⟩
theorem RepI.mono {xs : List Val} {J : It} {H2 : Hp} {P2 : Addr → Prop} (r : RepI Γ H P xs J) (k : Kp H P [] H2 P2) : RepI Γ H2 P2 xs J :=
  ⟨r.len, fun H' P' i kp => r.go H' P' i (k.trans0 kp), fun H' P' kp => r.stop H' P' (k.trans0 kp), fun H' P' i x H3 y ok kp => r.yld H' P' i x H3 y ok (k.trans0 kp)⟩
theorem si_seq {a : Expr} {c : C} (hK : X.K = Γ.K) (h : SE Γ X a c) : SI Γ X tgE a (iSeq c) := fun W tk =>
  pi_imp (pi_sq (h W tk)) fun σ H R ⟨P, ow, e, ok, rel, acc⟩ => by
    refine tS.use (f := []) ok rel acc fun u e1 v H1 P1 o1 ow1 kp1 ok1 r1 rel1 acc1 => ?_
    cases q : u.takeF e1 with
    | none => simp [q, Acc] at acc1
    | some pr =>
      obtain ⟨x, e2⟩ := pr
      cases q2 : seqItems x with
      | none => simp [q, q2, Acc] at acc1
      | some xs =>
        simp only [q, q2] at acc1
        obtain ⟨P2, ow2, x2, k2, r2, rel2, kp2⟩ := OV.takeF_rep (f := []) ok1 rel1 r1 q
        obtain ⟨k, a', ws, rfl, s1, s2⟩ := seq_rep r2 q2
        refine ⟨k, a', ws, rfl, s1.kp kp_self _ hK, ?_⟩
        exact acc1 _ H1 P2 [] ow2 x2 k2 ⟨seq_walks (ow := ow2) k2 s1 s2 _ hK, rfl⟩ rel2

/-! ### ranges -/
theorem rngV_length (lo : Int) : ∀ n : Nat, (rngV lo n).length = n
  | 0 => rfl
  | n + 1 => by rw [rngV, List.length_cons, rngV_length (lo + 1) n]
theorem rngV_get : ∀ (n : Nat) (lo : Int) (i : Nat), i < n → (rngV lo n)[i]? = some (.int (lo + i))
  | 0, _, _, h => by omega
  | n + 1, lo, 0, _ => by simp [rngV]
  | n + 1, lo, i + 1, h => by
    rw [rngV, List.getElem?_cons_succ, rngV_get n (lo + 1) i (by omega)]
    congr 2
    omega
theorem rng_walks {lo : Int} {n : Nat} (hn : n ≤ sizeLine) : RepI Γ H P (rngV lo n) (Itr lo n) where
  len := by rw [rngV_length]; exact hn
  go := fun H' P' i kp hi => by rw [rngV_length] at hi; exact hi
  stop := fun H' P' kp => by rw [rngV_length]; exact Nat.le_refl n
  yld := fun H' P' i v H2 y ok' kp hy yl => by
    obtain ⟨rfl, rfl⟩ := yl
    have hi : i < n := by
      have := (List.getElem?_eq_some_iff.mp hy).1
      rwa [rngV_length] at this
    rw [rngV_get n lo i hi] at hy
    cases hy
    exact ⟨P', .refl, ok', rep_int⟩
theorem rngOk_iff {lo hi : Int} (h : rngOk lo hi = true) : -(2 ^ 62) ≤ lo ∧ lo < 2 ^ 62 ∧ -(2 ^ 62) ≤ hi ∧ hi < 2 ^ 62 ∧ (hi - lo).toNat ≤ sizeLine := by
  unfold rngOk at h
  have h := of_decide_eq_true h
  rw [sizeLine_eq]
  unfold big at h
  omega
theorem gets1 {us : List OV} {vs : List V} {o : List Addr} {x : Val} (rel : RelE Γ H P e σ ow) (r : RepOs Γ H P σ us vs o) (q : gets us e = some [x]) : ∃ v o', vs = [v] ∧ Rep Γ H P x v o' := by
  have h := gets_rep rel r q
  cases h with
  | cons a t =>
    cases t
    obtain ⟨o', h⟩ := a
    exact ⟨_, o', rfl, h⟩
theorem si_rng1 {a : Expr} {l : List C} {p pos : Pos} (hg : Gl X "range") (hm : X.mg "range" = none) (ha : SA Γ X [a] l) (hl : l.length = 1 := by rfl) (hs : starEach [a] X.env = [(false, eval a X.env)] := by rfl) : SI Γ X tgE (.Call (.Name "range" p) [a] [] pos) (iRng l) := fun W tk =>
  pi_imp (pi_range1 hg hm (ha W tk) hs) fun σ H R ⟨P, ow, e, ok, rel, acc⟩ => by
    refine tS.useE (f := []) ok rel acc fun us e1 vs H1 P1 o1 ow1 hc kp1 ok1 r1 rel1 acc1 => ?_
    have hlen : us.length = 1 := by rw [cs_length hc, hl]
    split at acc1
    · rename_i hi q
      by_cases hr : rngOk 0 hi = true
      · rw [if_pos hr] at acc1
        obtain ⟨v, o', rfl, r2⟩ := gets1 rel1 r1 q
        simp only [Rep] at r2
        obtain ⟨b1, b2, b3, b4, b5⟩ := rngOk_iff hr
        refine ⟨hi, by rw [r2.1], b3, b4, acc1 _ H1 P1 [] ow1 (Ext.refl.sub fun a z => List.mem_append_right o1 z) ok1.right.right ⟨rng_walks (by simpa using b5), rfl⟩ rel1⟩
      · rw [if_neg hr] at acc1; exact acc1.elim
    · rename_i lo hi q
      have := gets_rep rel1 r1 q
      have := this.length
      rw [← r1.length, hlen] at this
      simp at this
    · exact acc1.elim
/-! ### texts -/
end
end VI
set_option Elab.async false
set_option linter.all false
set_option maxRecDepth 100000
/-! VI8: enumerate and zip, over lists and tuples in any mix. -/
namespace VI
open PySem PySem.Spec PyProof.Rows L2

/-- an iterator at it over the list or tuple at a -/
def IterK (h : Heap) (k : Bool) (it a : Addr) (i : Nat) : Prop := if k then h.IsListIter it a i else h.IsTupleIter it a i
def SeqK (h : Heap) (k : Bool) (a : Addr) (its : Array Value) : Prop := if k then h.IsList a its else h.IsTuple a its
def StK (k : Bool) (it a : Addr) (its : Array Value) (i : Nat) (h : Heap) : Prop := IterK h k it a i ∧ SeqK h k a its
theorem drawsK {prog : Program} {w : World} {A : Around} (hh : A.handled = none) (k : Bool) (it a : Addr) (hne : a ≠ it) (its : Array Value) : Draws prog w A it [it, a] its.size (fun i v => its[i]? = some v) (StK k it a its) := by
  cases k with
  | true => exact Draws.list hh it a hne its
  | false => exact Draws.tuple hh it a hne its
theorem IterK.at {h h' : Heap} {k : Bool} {it a : Addr} {i : Nat} (x : IterK h k it a i) (q : ∀ o, h.get? it = some o → h'.get? it = some o) : IterK h' k it a i := by
  cases k with
  | true => exact Heap.IsListIter.at x q
  | false => exact Heap.IsTupleIter.at x q
theorem IterK.obj {h : Heap} {k : Bool} {it a : Addr} {i : Nat} (x : IterK h k it a i) : ∃ o, h.get? it = some o ∧ ∀ v, o.data ≠ .cell v := by
  cases k with
  | true =>
    obtain ⟨o, e, _, d⟩ := (show h.IsListIter it a i from x)
    exact ⟨o, e, fun v z => by rw [d] at z; cases z⟩
  | false =>
    obtain ⟨o, e, _, d⟩ := (show h.IsTupleIter it a i from x)
    exact ⟨o, e, fun v z => by rw [d] at z; cases z⟩
def itO (k : Bool) (a : Addr) : Obj := if k then { cls := .type "list_iterator", data := .fields #[.ref a, .int 0 0] } else { cls := .type "tuple_iterator", data := .fields #[.ref a, .int 0 0] }
theorem beginsK (k : Bool) (a : Addr) (its : Array Value) : Begins (.ref a) (itO k a) fun h => SeqK h k a its := by
  cases k with
  | true => exact begins_list a its
  | false => exact begins_tuple a its
theorem iterK_new {h : Heap} {k : Bool} {it a : Addr} (e : h.get? it = some (itO k a)) : IterK h k it a 0 := by
  cases k with
  | true => exact ⟨_, e, rfl, rfl⟩
  | false => exact ⟨_, e, rfl, rfl⟩
section
variable {X : Cx} {σ : L2.St} {H : Hp} {tgE : Expr}
theorem SqK.heap {k : Bool} {a : Addr} {xs : List V} {pins : List (Addr × Obj)} {s : Shared} (I : Inv X pins σ H s) (h : SqK X.K H k a xs) : ∃ its : List Value, Vals xs its ∧ a < s.heap.objs.size ∧ SeqK s.heap k a its.toArray := by
  obtain ⟨its, r, _, l, p⟩ := h.inv I
  exact ⟨its, r, l, p⟩

/-! ### enumerate -/
def IteK (K : PySem.W.Frag) (k : Bool) (a : Addr) : It :=
  ⟨fun i H => ∃ xs x, SqK K H k a xs ∧ xs[i]? = some x, fun i H v H' => ∃ T x, v = .ref T ∧ H T = none ∧ (∃ ob : Obj, H' = upd H T (.frz ob (.tup [.int (i : Nat), x])) ∧ ob.dict = none) ∧ ∀ xs, SqK K H k a xs → xs[i]? = some x, fun i H => ∃ xs, SqK K H k a xs ∧ xs.length = i⟩
theorem turn_enumK {P : Program} {w : World} {K : PySem.W.Frag} {elts : List Expr} {kk : Nat} {tpos : Pos} (k : Bool) (a e it : Addr) :
    Turn P w K (.Tuple elts kk tpos) (IteK K k a) [e, it] e (fun i h => (∃ old, IsEnum h e it ((i : Nat) : Int) old) ∧ IterK h k it a i ∧ e ≠ it ∧ a ≠ it ∧ a ≠ e) where
  mem := by simp
  obj := fun i h st b hb => by
    obtain ⟨⟨old, he⟩, hi, _⟩ := st
    rcases (show b = e ∨ b = it by simpa using hb) with rfl | rfl
    · exact ⟨_, he, fun v q => nomatch q⟩
    · exact hi.obj
  keep := fun i h h' st q => by
    obtain ⟨⟨old, he⟩, hi, ne⟩ := st
    exact ⟨⟨old, q e (by simp) _ he⟩, hi.at fun o z => q it (by simp) o z, ne⟩
  item := by
    intro X hP hw hK hc i pins s σ H E I hf st hg
    subst hP hw hK
    obtain ⟨⟨old, he⟩, hit, hne, hai, hae⟩ := st
    obtain ⟨xs, x, hq, hx⟩ := hg
    obtain ⟨its, rv, _, p⟩ := hq.heap I
    have hel : e < s.heap.objs.size := Heap.lt_size he
    have hil : it < s.heap.objs.size := by obtain ⟨o, q, _⟩ := hit.obj; exact Heap.lt_size q
    have hlt : i < its.toArray.size := by
      have h1 := (List.getElem?_eq_some_iff.mp hx).1
      rw [List.size_toArray, ← rv.length]; exact h1
    refine wpAny_pyNext_enum_itemC (drawsK (prog := X.prog) (w := X.w) (A := X.A.in1) (I.ok.hd hc) k it a hai its.toArray) he ⟨hit, p⟩ hlt hne (by simp [hne, Ne.symm hae]) fun u h' tk hu ho st' hT hsz hk => ?_
    obtain ⟨u', hu', ru⟩ := rv.get hx
    have eu : u = u' := by
      have : its[i]? = some u := by simpa using hu
      rw [hu'] at this; exact (Option.some.inj this).symm
    subst eu
    refine ⟨_, rfl, wpAny_letOwnedTupleGo_enum (s := { s with heap := h', toks := tk + 1 }) ho fun h2 he2 sb => ?_⟩
    have hT2 : h2.get? s.heap.objs.size = some { cls := .type "tuple", data := .seq #[.int i tk, u] } := (sb.2 _ (Nat.ne_of_gt hel)).trans hT
    have new : ObjOk X.prog X.w (upd H s.heap.objs.size (.frz { cls := .type "tuple", data := .seq #[.int i tk, u] } (.tup [.int (i : Nat), x]))) h2 s.heap.objs.size (.frz { cls := .type "tuple", data := .seq #[.int i tk, u] } (.tup [.int (i : Nat), x])) :=
      ⟨hT2, small_line (n := 2) (by decide), [.int i tk, u], .cons ⟨_, rfl⟩ (.cons ru .nil), ⟨_, hT2, rfl, _, rfl⟩⟩
    have I1 : Inv X pins σ (upd H s.heap.objs.size (.frz { cls := .type "tuple", data := .seq #[.int i tk, u] } (.tup [.int (i : Nat), x]))) { s with heap := h2, toks := tk + 1 } :=
      I.turnedNew (ch := [e, it]) (fun b ob hb q => (sb.2 b (fun z => hb (by simp [z]))).trans (hk b ob (fun z => hb (by simp [z])) (fun z => hb (by simp [z])) q)) hf (Nat.le_refl _) new
    refine ⟨.ref s.heap.objs.size, _, I1, rfl, ⟨_, x, rfl, I.hok.fresh (Nat.le_refl _), ⟨_, rfl, rfl⟩, fun ys hy => by rw [hy.inj I hq]; exact hx⟩, ⟨⟨u, ?_⟩, st'.1.at fun o q => (sb.2 it (Ne.symm hne)).trans q, hne, hai, hae⟩, fun b hb => ?_⟩
    · rw [show ((i + 1 : Nat) : Int) = (i : Int) + 1 by omega]; exact he2
    · have hb' : b < s.heap.objs.size := by
        rcases (show b = e ∨ b = it by simpa using hb) with rfl | rfl
        · exact hel
        · exact hil
      rw [upd_ne (Nat.ne_of_lt hb')]
      exact (hf b hb).1
  done := by
    intro X hP hw hK hc i pins s σ H E I hf st hg
    subst hP hw hK
    obtain ⟨⟨old, he⟩, hit, hne, hai, hae⟩ := st
    obtain ⟨xs, hq, rfl⟩ := hg
    obtain ⟨its, rv, _, p⟩ := hq.heap I
    obtain ⟨f0, f1, f2, f3, f4, f5⟩ := hf it (by simp)
    have hn : xs.length = its.toArray.size := by rw [List.size_toArray]; exact rv.length
    refine wpAny_pyNext_enum_endD (drawsK (prog := X.prog) (w := X.w) (A := X.A.in1) (I.ok.hd hc) k it a hai its.toArray) he ⟨by rw [← hn]; exact hit, p⟩ fun h' eb => ⟨rfl, I.turned (t' := s.toks) (fun b o hb q => eb b o hb q) f0 f1 f3 f4 f5⟩
  self := fun A i s Q E st h => let ⟨⟨_, he⟩, _⟩ := st; wpAny_pyIter_enum he h
def iEnuK (K : PySem.W.Frag) (ta : TA) : TI := fun σ H R => ta σ H fun vs H1 => ∃ k a xs, vs = [.ref a] ∧ SqK K H1 k a xs ∧ R (IteK K k a) H1
theorem sub_enum1 {v : Value} {o : Obj} {H : Heap → Prop} (B : Begins v o H) :
    Meets (Builtin.«enumerate.__new__» ⟨[.type "enumerate", v], []⟩) (fun _ R s => H s.heap ∧
      R (.ok (.ret (.ref (s.heap.push o).objs.size))) { s with heap := (s.heap.push o).push { cls := .type "enumerate", data := .fields #[.none, .bool false, .ref s.heap.objs.size, rawInt 0, .none, .none] } }) :=
  .of_wp fun prog w A R s h => by
    obtain ⟨hp, g, d, tk, os⟩ := s
    obtain ⟨h1, h⟩ := h
    have hsub := sub_enumerate
    have q1 : ∀ {A' : Around} {E : Value → Shared → Prop} {Q : Value → Shared → Prop}, Q (.ref hp.objs.size) ⟨hp.push o, g, d, tk, os⟩ → wpAny (model prog w) A' (pyIter v) Q E ⟨hp, g, d, tk, os⟩ :=
      fun q => B.iter prog w _ _ ⟨hp, g, d, tk, os⟩ _ h1 q
    wp_walk using q1
    refine wpAny_stack_any fun st => wpAny_pure ?_
    split
    · rename_i c _ _ _ _ _
      cases (c == Value.type "enumerate")
      · wp_walk using q1
        exact ⟨_, rfl, h⟩
      · wp_walk using q1
        exact ⟨_, rfl, h⟩
    · wp_walk using q1
      exact ⟨_, rfl, h⟩
theorem call_enum1 {prog : Program} {w : World} {A : Around} {E : Value → Shared → Prop} {s : Shared} {v : Value} {o : Obj} {H : Heap → Prop} {Q : Value → Shared → Prop} (B : Begins v o H) (h1 : H s.heap)
    (h : ∀ h', IsEnum h' (s.heap.objs.size + 1) s.heap.objs.size 0 .none → h'.get? s.heap.objs.size = some o → (∀ b o, s.heap.get? b = some o → h'.get? b = some o) → Q (.ref (s.heap.objs.size + 1)) { s with heap := h' }) :
    wpAny (model prog w) A (call (.type "enumerate") [v]) Q E s := by
  refine callType_new F.called_enumerate (by decide) (F.typeCall_enumerate_1 _) (F.newCall_enumerate_1 _) (fun obj => F.args_object_init_2 obj _) F.entry_enumerate_new (sub_enum1 B) ⟨h1, ?_⟩
  have hz : (s.heap.push o).objs.size = s.heap.objs.size + 1 := Heap.size_push ..
  have he : IsEnum ((s.heap.push o).push { cls := .type "enumerate", data := .fields #[.none, .bool false, .ref s.heap.objs.size, rawInt 0, .none, .none] }) (s.heap.objs.size + 1) s.heap.objs.size 0 .none := by
    have z := Heap.get?_push_size (s.heap.push o) (o := { cls := .type "enumerate", data := .fields #[.none, .bool false, .ref s.heap.objs.size, rawInt 0, .none, .none] }) rfl
    rw [hz] at z
    exact z
  show _ ∧ _
  rw [hz]
  exact ⟨⟨_, he, rfl⟩, h _ he (Heap.get?_push_of_some _ (Heap.get?_push_size _ B.free)) fun b o x => Heap.get?_push_of_some _ (Heap.get?_push_of_some _ x)⟩
theorem pi_enuK {ex : Expr} {ta : TA} {p pos tpos : Pos} {elts : List Expr} {kk : Nat} (hg : Gl X "enumerate") (hm : X.mg "enumerate" = none) (ha : PA X [ex] ta) (hs : starEach [ex] X.env = [(false, eval ex X.env)] := by rfl) :
    PI X (.Tuple elts kk tpos) (.Call (.Name "enumerate" p) [ex] [] pos) (iEnuK X.K ta) := by
  refine ⟨fun pins s σ H R I h => ?_⟩
  refine Call_ (ld_blt I hg hm boot_enumerate (PyProof.Rows.callWith_type1 (thn (ha.run pos pins s σ H _ I h) fun us s1 ⟨vs, H1, I1, r1, q1⟩ => ?_) hs rfl))
  obtain ⟨k, a, xs, rfl, hq, q⟩ := q1
  cases r1 with
  | cons r rr =>
    cases rr
    cases r
    obtain ⟨its, rv, hal, p'⟩ := hq.heap I1
    have key : ∀ h', IsEnum h' (s1.heap.objs.size + 1) s1.heap.objs.size 0 .none → h'.get? s1.heap.objs.size = some (itO k a) → (∀ b o, s1.heap.get? b = some o → h'.get? b = some o) →
        wpAny (model X.prog X.w) X.A (pyIter (.ref (s1.heap.objs.size + 1))) (PIE X pins σ (.Tuple elts kk tpos) R) X.xe { s1 with heap := h' } := fun h' he hit hk => by
      refine wpAny_pyIter_enum he ?_
      have I2 : Inv X pins σ H1 { s1 with heap := h' } := I1.kept (t' := s1.toks) hk
      refine ⟨s1.heap.objs.size + 1, [s1.heap.objs.size + 1, s1.heap.objs.size], _, _, H1, rfl, I2, turn_enumK k a (s1.heap.objs.size + 1) s1.heap.objs.size, ⟨⟨.none, he⟩, iterK_new hit, Nat.succ_ne_self _, Nat.ne_of_lt hal, Nat.ne_of_lt (Nat.lt_succ_of_lt hal)⟩, fun b hb => ?_, q⟩
      have hle : s1.heap.objs.size ≤ b := by
        rcases (show b = s1.heap.objs.size + 1 ∨ b = s1.heap.objs.size by simpa using hb) with z | z
        · rw [z]; exact Nat.le_add_right _ _
        · rw [z]; exact Nat.le_refl _
      exact I1.fpOk hle (I1.hok.fresh hle)
    exact call_enum1 (beginsK k a its.toArray) p' fun h' he hit hk => key h' he hit hk

/-! ### zip -/
def ItzK (K : PySem.W.Frag) (k1 k2 : Bool) (a b : Addr) : It :=
  ⟨fun i H => ∃ xs ys x y, SqK K H k1 a xs ∧ SqK K H k2 b ys ∧ xs[i]? = some x ∧ ys[i]? = some y,
    fun i H v H' => ∃ T x y, v = .ref T ∧ H T = none ∧ (∃ ob : Obj, H' = upd H T (.frz ob (.tup [x, y])) ∧ ob.dict = none) ∧ (∀ xs, SqK K H k1 a xs → xs[i]? = some x) ∧ ∀ ys, SqK K H k2 b ys → ys[i]? = some y,
    fun i H => ∃ xs ys, SqK K H k1 a xs ∧ SqK K H k2 b ys ∧ i = min xs.length ys.length⟩
theorem turn_zipK {P : Program} {w : World} {K : PySem.W.Frag} {elts : List Expr} {kk : Nat} {tpos : Pos} (k1 k2 : Bool) {a b z TI TO i1 i2 : Addr} (D : ZipSep2 z TI TO i1 i2 [i1, a] [i2, b]) (ha1 : a ≠ i1) (hb2 : b ≠ i2) :
    Turn P w K (.Tuple elts kk tpos) (ItzK K k1 k2 a b) [z, TI, TO, i1, i2] z (fun i h => IsZip h z TI TO .none ∧ IsTupOf2 h TI (.ref i1) (.ref i2) ∧ (∃ x y, IsTupOf2 h TO x y) ∧ IterK h k1 i1 a i ∧ IterK h k2 i2 b i) where
  mem := by simp
  obj := fun i h st c hc => by
    obtain ⟨hz, hTI, ⟨x, y, hTO⟩, h1, h2⟩ := st
    have e' : c = z ∨ c = TI ∨ c = TO ∨ c = i1 ∨ c = i2 := by simpa using hc
    rcases e' with q | q | q | q | q
    · rw [q]; exact ⟨_, hz, fun v q => nomatch q⟩
    · rw [q]; exact ⟨_, hTI, fun v q => nomatch q⟩
    · rw [q]; exact ⟨_, hTO, fun v q => nomatch q⟩
    · rw [q]; exact h1.obj
    · rw [q]; exact h2.obj
  keep := fun i h h' st q => by
    obtain ⟨hz, hTI, ⟨x, y, hTO⟩, h1, h2⟩ := st
    exact ⟨q z (by simp) _ hz, q TI (by simp) _ hTI, ⟨x, y, q TO (by simp) _ hTO⟩, h1.at fun o u => q i1 (by simp) o u, h2.at fun o u => q i2 (by simp) o u⟩
  item := by
    intro X hP hw hK hc i pins s σ H E I hf st hg
    subst hP hw hK
    obtain ⟨hz, hTI, ⟨x0, y0, hTO⟩, h1, h2⟩ := st
    obtain ⟨xs, ys, x, y, hqx, hqy, hx, hy⟩ := hg
    obtain ⟨its, rv, _, p1⟩ := hqx.heap I
    obtain ⟨its2, rv2, _, p2⟩ := hqy.heap I
    have hzl : z < s.heap.objs.size := Heap.lt_size hz
    have l1 : i < its.toArray.size := by
      have h := (List.getElem?_eq_some_iff.mp hx).1
      rw [List.size_toArray, ← rv.length]; exact h
    have l2 : i < its2.toArray.size := by
      have h := (List.getElem?_eq_some_iff.mp hy).1
      rw [List.size_toArray, ← rv2.length]; exact h
    refine wpAny_pyNext_zipD2_item D (drawsK (prog := X.prog) (w := X.w) (A := X.A.in1) (I.ok.hd hc) k1 i1 a ha1 its.toArray) (drawsK (prog := X.prog) (w := X.w) (A := X.A.in1) (I.ok.hd hc) k2 i2 b hb2 its2.toArray) hz hTI hTO ⟨h1, p1⟩ ⟨h2, p2⟩ l1 l2 fun u u2 h' tk hu hu2 z' TO' s1 s2 hT hsz hk => ?_
    obtain ⟨v1, e1, r1⟩ := rv.get hx
    obtain ⟨v2, e2, r2⟩ := rv2.get hy
    have eu : u = v1 := by
      have q : its[i]? = some u := by simpa using hu
      rw [e1] at q; exact (Option.some.inj q).symm
    have eu2 : u2 = v2 := by
      have q : its2[i]? = some u2 := by simpa using hu2
      rw [e2] at q; exact (Option.some.inj q).symm
    subst eu eu2
    refine ⟨_, rfl, wpAny_letOwnedTupleGo_zip (s := { s with heap := h', toks := tk }) z' fun h'' z'' sb => ?_⟩
    have hT2 : h''.get? s.heap.objs.size = some { cls := .type "tuple", data := .seq #[u, u2] } := (sb.2 _ (Nat.ne_of_gt hzl)).trans hT
    have new : ObjOk X.prog X.w (upd H s.heap.objs.size (.frz { cls := .type "tuple", data := .seq #[u, u2] } (.tup [x, y]))) h'' s.heap.objs.size (.frz { cls := .type "tuple", data := .seq #[u, u2] } (.tup [x, y])) :=
      ⟨hT2, small_line (n := 2) (by decide), [u, u2], .cons r1 (.cons r2 .nil), ⟨_, hT2, rfl, _, rfl⟩⟩
    have I1 : Inv X pins σ (upd H s.heap.objs.size (.frz { cls := .type "tuple", data := .seq #[u, u2] } (.tup [x, y]))) { s with heap := h'', toks := tk } :=
      I.turnedNew (ch := [z, TI, TO, i1, i2]) (fun c o hb q => (sb.2 c (fun e => hb (by simp [e]))).trans (hk c o (fun e => hb (by simp [e])) (fun e => hb (by simp [e])) (fun e => hb (by simp [e])) (fun e => hb (by simp [e])) q)) hf (Nat.le_refl _) new
    refine ⟨.ref s.heap.objs.size, _, I1, rfl, ⟨_, x, y, rfl, I.hok.fresh (Nat.le_refl _), ⟨_, rfl, rfl⟩, fun l hl => by rw [hl.inj I hqx]; exact hx, fun l hl => by rw [hl.inj I hqy]; exact hy⟩, ⟨z'', ?_, ⟨u, u2, ?_⟩, ?_, ?_⟩, fun c hcm => ?_⟩
    · exact (sb.2 _ D.TIz).trans (hk _ _ D.TIz D.TITO D.TIi1 D.TIi2 hTI)
    · exact (sb.2 _ D.TOz).trans TO'
    · exact s1.1.at fun o q => (sb.2 _ (Ne.symm D.zi1)).trans q
    · exact s2.1.at fun o q => (sb.2 _ (Ne.symm D.zi2)).trans q
    · have hlt : c < s.heap.objs.size := by
        have e' : c = z ∨ c = TI ∨ c = TO ∨ c = i1 ∨ c = i2 := by simpa using hcm
        rcases e' with q | q | q | q | q
        · rw [q]; exact hzl
        · rw [q]; exact Heap.lt_size hTI
        · rw [q]; exact Heap.lt_size hTO
        · rw [q]; obtain ⟨_, e, _⟩ := h1.obj; exact Heap.lt_size e
        · rw [q]; obtain ⟨_, e, _⟩ := h2.obj; exact Heap.lt_size e
      rw [upd_ne (Nat.ne_of_lt hlt)]
      exact (hf c hcm).1
  done := by
    intro X hP hw hK hc i pins s σ H E I hf st hg
    subst hP hw hK
    obtain ⟨hz, hTI, ⟨x0, y0, hTO⟩, h1, h2⟩ := st
    obtain ⟨xs, ys, hqx, hqy, hend⟩ := hg
    obtain ⟨its, rv, _, p1⟩ := hqx.heap I
    obtain ⟨its2, rv2, _, p2⟩ := hqy.heap I
    have l1 : xs.length = its.toArray.size := by rw [List.size_toArray]; exact rv.length
    have l2 : ys.length = its2.toArray.size := by rw [List.size_toArray]; exact rv2.length
    refine wpAny_pyNext_zipD2_end D (drawsK (prog := X.prog) (w := X.w) (A := X.A.in1) (I.ok.hd hc) k1 i1 a ha1 its.toArray) (drawsK (prog := X.prog) (w := X.w) (A := X.A.in1) (I.ok.hd hc) k2 i2 b hb2 its2.toArray) hz hTI hTO ⟨h1, p1⟩ ⟨h2, p2⟩ (by omega) (by omega) (by omega) fun h' tk hk => ⟨rfl, ?_⟩
    exact I.turnedL (t' := tk) (ch := [z, TI, TO, i1, i2]) (fun c o hb q => hk c o (fun e => hb (by simp [e])) (fun e => hb (by simp [e])) (fun e => hb (by simp [e])) (fun e => hb (by simp [e])) q) hf
  self := fun A i s Q E st h => wpAny_pyIter_zip st.1 h
def iZipK (K : PySem.W.Frag) (ta : TA) : TI := fun σ H R => ta σ H fun vs H1 => ∃ k1 k2 a b xs ys, vs = [.ref a, .ref b] ∧ SqK K H1 k1 a xs ∧ SqK K H1 k2 b ys ∧ R (ItzK K k1 k2 a b) H1
theorem pi_zipK {ex e2 : Expr} {ta : TA} {p pos tpos : Pos} {elts : List Expr} {kk : Nat} (hg : Gl X "zip") (hm : X.mg "zip" = none) (ha : PA X [ex, e2] ta)
    (hs : starEach [ex, e2] X.env = (false, eval ex X.env) :: starEach [e2] X.env := by rfl) (hpl : (backTo pos (starEach [e2] X.env)).any (·.1) = false := by rfl) :
    PI X (.Tuple elts kk tpos) (.Call (.Name "zip" p) [ex, e2] [] pos) (iZipK X.K ta) := by
  refine ⟨fun pins s σ H R I h => ?_⟩
  refine Call_ (ld_blt I hg hm PyProof.Rows.boot_zip (PyProof.Rows.callWith_type1 (thn (ha.run pos pins s σ H _ I h) fun us s1 ⟨vs, H1, I1, r1, q1⟩ => ?_) hs hpl))
  obtain ⟨k1, k2, a, b, xs, ys, rfl, hqx, hqy, q⟩ := q1
  cases r1 with
  | cons r rr =>
    cases rr with
    | cons r' rr =>
      cases rr
      cases r
      cases r'
      obtain ⟨its, rv, la, p1⟩ := hqx.heap I1
      obtain ⟨its2, rv2, lb, p2⟩ := hqy.heap I1
      refine zip_begins2 (beginsK k1 a its.toArray) (beginsK k2 b its2.toArray) p1 p2 fun h' hz hTI hTO h1 h2 hsz hk => wpAny_pyIter_zip hz ?_
      have I2 : Inv X pins σ H1 { s1 with heap := h' } := I1.kept (t' := s1.toks) hk
      have D : ZipSep2 (s1.heap.objs.size + 4) (s1.heap.objs.size + 2) (s1.heap.objs.size + 3) s1.heap.objs.size (s1.heap.objs.size + 1) [s1.heap.objs.size, a] [s1.heap.objs.size + 1, b] := zip_sep2 (fp1 := [a]) (fp2 := [b]) (by simpa using la) (by simpa using lb)
      refine ⟨s1.heap.objs.size + 4, [s1.heap.objs.size + 4, s1.heap.objs.size + 2, s1.heap.objs.size + 3, s1.heap.objs.size, s1.heap.objs.size + 1], _, _, H1, rfl, I2, turn_zipK k1 k2 D (Nat.ne_of_lt la) (Nat.ne_of_lt (Nat.lt_succ_of_lt lb)), ⟨hz, hTI, ⟨_, _, hTO⟩, iterK_new h1, iterK_new h2⟩, fun c hcm => ?_, q⟩
      have e' : c = s1.heap.objs.size + 4 ∨ c = s1.heap.objs.size + 2 ∨ c = s1.heap.objs.size + 3 ∨ c = s1.heap.objs.size ∨ c = s1.heap.objs.size + 1 := by simpa using hcm
      have hle : s1.heap.objs.size ≤ c := by
        rcases e' with z | z | z | z | z
        · rw [z]; exact Nat.le_add_right _ _
        · rw [z]; exact Nat.le_add_right _ _
        · rw [z]; exact Nat.le_add_right _ _
        · rw [z]; exact Nat.le_refl _
        · rw [z]; exact Nat.le_add_right _ _
      exact I1.fpOk hle (I1.hok.fresh hle)
end

/-! ### over the trees -/
section
variable {Γ : Ctx} {X : Cx} {W : WX} {σ : L2.St} {H H1 : Hp} {P P1 : Addr → Prop} {ow f o : List Addr} {e : En} {tgE : Expr}
theorem enum_length : ∀ (k : Int) (l : List Val), (enum k l).length = l.length
  | _, [] => rfl
  | k, _ :: r => by rw [enum, List.length_cons, List.length_cons, enum_length (k + 1) r]
theorem enum_get : ∀ (l : List Val) (k : Int) (i : Nat), (enum k l)[i]? = (l[i]?).map fun x => .tup [.int (k + i), x]
  | [], _, i => by simp [enum]
  | x :: r, k, 0 => by simp [enum]
  | x :: r, k, i + 1 => by
    rw [enum, List.getElem?_cons_succ, List.getElem?_cons_succ, enum_get r (k + 1) i]
    congr 1
    funext z
    rw [show k + 1 + (i : Int) = k + ((i + 1 : Nat) : Int) by omega]
theorem zipV_length : ∀ (a b : List Val), (zipV a b).length = min a.length b.length
  | [], _ => by simp [zipV]
  | _ :: _, [] => by simp [zipV]
  | _ :: r, _ :: s => by rw [zipV, List.length_cons, zipV_length r s, List.length_cons, List.length_cons]; omega
theorem zipV_get : ∀ (a b : List Val) (i : Nat) (z : Val), (zipV a b)[i]? = some z → ∃ x y, a[i]? = some x ∧ b[i]? = some y ∧ z = .tup [x, y]
  | [], _, _, _, h => by simp [zipV] at h
  | _ :: _, [], _, _, h => by simp [zipV] at h
  | x :: r, y :: s, 0, z, h => by simp [zipV] at h; exact ⟨x, y, rfl, rfl, h.symm⟩
  | x :: r, y :: s, i + 1, z, h => by
    rw [zipV, List.getElem?_cons_succ] at h
    obtain ⟨a, b, h1, h2, h3⟩ := zipV_get r s i z h
    exact ⟨a, b, by simpa using h1, by simpa using h2, h3⟩
theorem repL_nil_get : ∀ {xs : List Val} {ws : List V} {i : Nat} {y : Val}, RepL Γ H P xs ws [] → xs[i]? = some y → ∃ w, ws[i]? = some w ∧ Rep Γ H P y w []
  | [], _, _, _, _, e => by simp at e
  | z :: zs, ws, i, y, h, e => by
    simp only [RepL] at h
    obtain ⟨w, ws', o1, o2, rfl, a1, a2, a3⟩ := h
    have e1 : o1 = [] := (List.append_eq_nil_iff.mp a3.symm).1
    have e2 : o2 = [] := (List.append_eq_nil_iff.mp a3.symm).2
    subst e1 e2
    cases i with
    | zero => simp at e; subst e; exact ⟨w, rfl, a1⟩
    | succ i => obtain ⟨w', b1, b2⟩ := repL_nil_get a2 (by simpa using e); exact ⟨w', by simpa using b1, b2⟩
theorem pair_rep {T : Addr} {ob : Obj} {x y : Val} {v u : V} (ok : Ok Γ H P ow) (hT : H T = none) (hob : ob.dict = none) (r1 : Rep Γ H P x v []) (r2 : Rep Γ H P y u []) : Ext H P [] (upd H T (.frz ob (.tup [v, u]))) P [] ∧ Ok Γ (upd H T (.frz ob (.tup [v, u]))) P [] ∧ Rep Γ (upd H T (.frz ob (.tup [v, u]))) P (.tup [x, y]) (.ref T) [] := by
  obtain ⟨a, b, c⟩ := new_tupN (ob := ob) (ws := [v, u]) ok hT (small_line (n := 2) (by decide))
  refine ⟨a, b, ?_⟩
  simp only [Rep, RepL]
  have c' := c.sub (o' := []) (fun _ z => by cases z)
  exact ⟨T, [v, u], rfl, ⟨ob, upd_same, hob⟩, v, [u], [], [], rfl, r1.kp c', ⟨u, [], [], [], rfl, r2.kp c', ⟨rfl, rfl⟩, rfl⟩, rfl⟩
theorem enu_walks {x : Val} {k : Bool} {a : Addr} {ws : List V} {xs : List Val} (ok : Ok Γ H P ow) (h : SeqAtV Γ H P x k a ws) (r : RepL Γ H P xs ws []) (K : PySem.W.Frag) (hK : K = Γ.K) : RepI Γ H P (enum 0 xs) (IteK K k a) where
  len := by rw [enum_length, r.length]; exact h.len ok
  go := fun H' P' i kp hi => by
    rw [enum_length, r.length] at hi
    exact ⟨ws, ws[i], h.kp kp K hK, List.getElem?_eq_getElem hi⟩
  stop := fun H' P' kp => by
    rw [enum_length, r.length]
    exact ⟨ws, h.kp kp K hK, rfl⟩
  yld := fun H' P' i v H2 y ok' kp hy yl => by
    rw [enum_get] at hy
    cases hx : xs[i]? with
    | none => rw [hx] at hy; simp at hy
    | some z =>
      rw [hx] at hy
      simp only [Option.map_some, Option.some.injEq] at hy
      subst hy
      obtain ⟨w, e1, r1⟩ := repL_nil_get (r.kp kp) hx
      obtain ⟨T, u, rfl, hT, ⟨ob, rfl, hob⟩, hu⟩ := yl
      have := hu ws (h.kp kp K hK)
      rw [e1] at this
      cases this
      have e0 : (0 : Int) + (i : Int) = (i : Int) := by omega
      rw [e0]
      obtain ⟨a1, a2, a3⟩ := pair_rep (ob := ob) (x := .int i) (y := z) ok' hT hob rep_int r1
      exact ⟨P', a1, a2, a3⟩
theorem si_enu {a : Expr} {c : C} {p pos tpos : Pos} {elts : List Expr} {kk : Nat} (hK : X.K = Γ.K) (hg : Gl X "enumerate") (hm : X.mg "enumerate" = none) (h : SE Γ X a c) (hs : starEach [a] X.env = [(false, eval a X.env)] := by rfl) : SI Γ X (.Tuple elts kk tpos) (.Call (.Name "enumerate" p) [a] [] pos) (iEnu c) := fun W tk =>
  pi_imp (pi_enuK hg hm (sa_cons h sa_nil hs W tk) hs) fun σ H R ⟨P, ow, e, ok, rel, acc⟩ => by
    refine ⟨P, ow, e, ok, rel, ?_⟩
    unfold iEnu iSeq at acc
    simp only [cs]
    cases hc : c e with
    | ok u e1 =>
      rw [hc] at acc
      simp only [Res.bind] at acc ⊢
      intro vs H1 P1 o1 ow1 x1 ok1 r1 rel1
      obtain ⟨v, vs', o2, o3, rfl, r2, ⟨rfl, rfl⟩, rfl⟩ := r1
      have acc1 := Acc.rebase acc x1
      cases q : u.takeF e1 with
      | none => simp [q, Acc] at acc1
      | some pr =>
        obtain ⟨x, e2⟩ := pr
        cases q2 : seqItems x with
        | none => simp [q, q2, Acc] at acc1
        | some xs =>
          simp only [q, q2] at acc1
          obtain ⟨P2, ow2, x2, k2, r3, rel2, kp2⟩ := OV.takeF_rep (f := []) (by simpa using ok1) rel1 r2 q
          obtain ⟨k, a', ws, rfl, s1, s2⟩ := seq_rep r3 q2
          refine ⟨k, a', ws, rfl, s1.kp kp_self _ hK, ?_⟩
          exact acc1 _ H1 P2 [] ow2 (by simpa using x2) k2 ⟨enu_walks (ow := ow2) k2 s1 s2 _ hK, rfl⟩ rel2
    | exc x e1 => rw [hc] at acc; exact acc
    | bad => rw [hc] at acc; exact acc
theorem zip_walks {x y : Val} {k1 k2 : Bool} {a b : Addr} {ws us : List V} {xs ys : List Val} (ok : Ok Γ H P ow) (h1 : SeqAtV Γ H P x k1 a ws) (r1 : RepL Γ H P xs ws []) (h2 : SeqAtV Γ H P y k2 b us) (r2 : RepL Γ H P ys us []) (K : PySem.W.Frag) (hK : K = Γ.K) : RepI Γ H P (zipV xs ys) (ItzK K k1 k2 a b) where
  len := by rw [zipV_length, r1.length]; exact Nat.le_trans (Nat.min_le_left _ _) (h1.len ok)
  go := fun H' P' i kp hi => by
    rw [zipV_length, r1.length, r2.length] at hi
    exact ⟨ws, us, _, _, h1.kp kp K hK, h2.kp kp K hK, List.getElem?_eq_getElem (by omega), List.getElem?_eq_getElem (by omega)⟩
  stop := fun H' P' kp => by
    rw [zipV_length, r1.length, r2.length]
    exact ⟨ws, us, h1.kp kp K hK, h2.kp kp K hK, rfl⟩
  yld := fun H' P' i v H2 z ok' kp hz yl => by
    obtain ⟨p, q, e1, e2, rfl⟩ := zipV_get _ _ _ _ hz
    obtain ⟨w, f1, g1⟩ := repL_nil_get (r1.kp kp) e1
    obtain ⟨u, f2, g2⟩ := repL_nil_get (r2.kp kp) e2
    obtain ⟨T, w', u', rfl, hT, ⟨ob, rfl, hob⟩, hw, hu⟩ := yl
    have a1 := hw ws (h1.kp kp K hK)
    have a2 := hu us (h2.kp kp K hK)
    rw [f1] at a1; cases a1
    rw [f2] at a2; cases a2
    obtain ⟨b1, b2, b3⟩ := pair_rep (ob := ob) ok' hT hob g1 g2
    exact ⟨P', b1, b2, b3⟩
theorem si_zip {a b : Expr} {c d : C} {p pos tpos : Pos} {elts : List Expr} {kk : Nat} (hK : X.K = Γ.K) (hg : Gl X "zip") (hm : X.mg "zip" = none) (h1 : SE Γ X a c) (h2 : SE Γ X b d) (hs : starEach [a, b] X.env = (false, eval a X.env) :: starEach [b] X.env := by rfl) (hs2 : starEach [b] X.env = (false, eval b X.env) :: starEach [] X.env := by rfl)
    (hpl : (backTo pos (starEach [b] X.env)).any (·.1) = false := by rfl) : SI Γ X (.Tuple elts kk tpos) (.Call (.Name "zip" p) [a, b] [] pos) (iZip c d) := fun W tk =>
  pi_imp (pi_zipK hg hm (sa_cons h1 (sa_cons h2 sa_nil hs2) hs W tk) hs hpl) fun σ H R ⟨P, ow, e, ok, rel, acc⟩ => by
    refine ⟨P, ow, e, ok, rel, ?_⟩
    unfold iZip at acc
    simp only [cs]
    cases hc : c e with
    | ok u e1 =>
      rw [hc] at acc
      simp only [Res.bind] at acc ⊢
      cases hd : d e1 with
      | ok w e2 =>
        rw [hd] at acc
        simp only at acc ⊢
        intro vs H1 P1 o1 ow1 x1 ok1 r1 rel1
        obtain ⟨v, vs', oa, ob, rfl, ra, ⟨v2, vs2, oc, od, rfl, rb, ⟨rfl, rfl⟩, rfl⟩, rfl⟩ := r1
        simp only [List.append_nil] at x1 ok1
        have acc1 := Acc.rebase acc x1
        cases q : u.takeF e2 with
        | none => simp [q, Acc] at acc1
        | some pr =>
          obtain ⟨x, e3⟩ := pr
          cases q2 : w.takeF e3 with
          | none => simp [q, q2, Acc] at acc1
          | some pr2 =>
            obtain ⟨y, e4⟩ := pr2
            cases q3 : seqItems x with
            | none => simp [q, q2, q3, Acc] at acc1
            | some xs =>
              cases q4 : seqItems y with
              | none => simp [q, q2, q3, q4, Acc] at acc1
              | some ys =>
                simp only [q, q2, q3, q4] at acc1
                have pq : ((oa ++ oc) ++ ow1).Perm (oc ++ (oa ++ ow1)) := pm (by intro a; simp only [List.count_append]; omega)
                obtain ⟨P2, ow2, x2, k2, r3, rel2, kp2⟩ := OV.takeF_rep (f := oc) (ok1.perm pq) rel1 ra q
                obtain ⟨P3, ow3, x3, k3, r4, rel3, kp3⟩ := OV.takeF_rep (f := []) (show Ok Γ H1 P2 ([] ++ (oc ++ ow2)) from k2) rel2 (rb.kp kp2) q2
                obtain ⟨k, a', ws, rfl, s1, s2⟩ := seq_rep r3 q3
                obtain ⟨k', b', us, rfl, t1, t2⟩ := seq_rep r4 q4
                have s1' : SeqAtV Γ H1 P3 x k a' ws := by
                  cases k with
                  | true => exact (show Still Γ _ _ _ _ from s1).elim (fun q => .inl ⟨q.1, kp3.inc _ q.2⟩) .inr
                  | false => exact s1
                refine ⟨k, k', a', b', ws, us, rfl, s1'.kp kp_self _ hK, t1.kp kp_self _ hK, ?_⟩
                exact acc1 _ H1 P3 [] ow3 ((x2.permL pq.symm).trans x3) k3 ⟨zip_walks (ow := ow3) k3 s1' (s2.kp kp3) t1 t2 _ hK, rfl⟩ rel3
      | exc x e2 => rw [hd] at acc; exact acc
      | bad => rw [hd] at acc; exact acc
    | exc x e1 => rw [hc] at acc; exact acc
    | bad => rw [hc] at acc; exact acc
end
end VI
set_option Elab.async false
set_option linter.all false
set_option maxRecDepth 100000
/-! VI9: the operations on trees are what the operators and built-ins give. -/
namespace VI
open PySem PySem.Spec PyProof.Rows L2

/-! ### data -/
mutual
theorem okV_d : ∀ {v : Val} {n : Nat}, depthV v ≤ n → n < 1000 → okV v = true → ∃ d, toD v = some d ∧ PyData.canLay0 d = true ∧ PyData.depth d = depthV v
  | .non, n, h, hn, k => ⟨.none, by simp only [toD], by simp [PyData.canLay0], by simp [PyData.depth, depthV]⟩
  | .bl b, n, h, hn, k => ⟨.bool b, by simp only [toD], by simp [PyData.canLay0], by simp [PyData.depth, depthV]⟩
  | .int i, n, h, hn, k => ⟨.int i, by simp only [toD], by simp [PyData.canLay0], by simp [PyData.depth, depthV]⟩
  | .str s, n, h, hn, k => ⟨.str s, by simp only [toD], by simp only [okV] at k; simp only [PyData.canLay0]; exact k, by simp [PyData.depth, depthV]⟩
  | .tup vs, n, h, hn, k => by
    simp only [depthV, okV] at h k
    obtain ⟨ds, e1, e2, e3⟩ := okVs_d (n := n) (by omega) hn k
    exact ⟨.tuple ds, by simp [toD, e1], by simpa [PyData.canLay0] using e2, by simp [PyData.depth, depthV, e3]⟩
  | .lst _ vs, n, h, hn, k => by
    simp only [depthV, okV] at h k
    obtain ⟨ds, e1, e2, e3⟩ := okVs_d (n := n) (by omega) hn k
    exact ⟨.list ds, by simp [toD, e1], by simpa [PyData.canLay0] using e2, by simp [PyData.depth, depthV, e3]⟩
  | .dic _ _ _, n, h, hn, k => by simp [okV] at k
  | .ins _ _ _ _, n, h, hn, k => by simp [okV] at k
  | .fn _, n, h, hn, k => by simp [okV] at k
  | .ty _, n, h, hn, k => by simp [okV] at k
theorem okVs_d : ∀ {vs : List Val} {n : Nat}, depthVs vs ≤ n → n < 1000 → okVs vs = true → ∃ ds, toDs vs = some ds ∧ PyData.canLayAll0 ds = true ∧ PyData.depthAll ds = depthVs vs
  | [], n, h, hn, k => ⟨[], by simp [toDs], by simp [PyData.canLayAll0], by simp [PyData.depthAll, depthVs]⟩
  | v :: vs, n, h, hn, k => by
    simp only [depthVs, okVs, Bool.and_eq_true] at h k
    obtain ⟨d, e1, e2, e3⟩ := okV_d (n := n) (by omega) hn k.1
    obtain ⟨ds, f1, f2, f3⟩ := okVs_d (n := n) (by omega) hn k.2
    exact ⟨d :: ds, by simp [toDs, e1, f1], by simp [PyData.canLayAll0, e2, f2], by simp [PyData.depthAll, depthVs, e3, f3]⟩
end
theorem isD_d {v : Val} (h : isD v = true) : ∃ d, toD v = some d ∧ SeqAt.shaped d = true := by
  unfold isD at h
  simp only [Bool.and_eq_true, decide_eq_true_eq] at h
  obtain ⟨d, e1, e2, e3⟩ := okV_d h.1 (by decide) h.2
  refine ⟨d, e1, ?_⟩
  show (d.canLay0 && decide (d.depth ≤ 64)) = true
  rw [e2, e3]
  simp
  omega
mutual
theorem eqV0_d : ∀ {x y : Val} {d e : PyData}, toD x = some d → toD y = some e → eqV0 x y = PyData.eqv d e
  | .non, y, d, e, h1, h2 => by
    simp only [toD, Option.some.injEq] at h1
    subst h1
    cases y <;> simp [toD] at h2 <;> first | (subst h2; simp [eqV0, PyData.eqv]) | (obtain ⟨_, _, rfl⟩ := h2; simp [eqV0, PyData.eqv])
  | .bl b, y, d, e, h1, h2 => by
    simp only [toD, Option.some.injEq] at h1
    subst h1
    cases y <;> simp [toD] at h2 <;> first | (subst h2; simp [eqV0, PyData.eqv, b2I]) | (obtain ⟨_, _, rfl⟩ := h2; simp [eqV0, PyData.eqv])
  | .int i, y, d, e, h1, h2 => by
    simp only [toD, Option.some.injEq] at h1
    subst h1
    cases y <;> simp [toD] at h2 <;> first | (subst h2; simp [eqV0, PyData.eqv, b2I]) | (obtain ⟨_, _, rfl⟩ := h2; simp [eqV0, PyData.eqv])
  | .str i, y, d, e, h1, h2 => by
    simp only [toD, Option.some.injEq] at h1
    subst h1
    cases y <;> simp [toD] at h2 <;> first | (subst h2; simp [eqV0, PyData.eqv]) | (obtain ⟨_, _, rfl⟩ := h2; simp [eqV0, PyData.eqv])
  | .tup xs, y, d, e, h1, h2 => by
    simp only [toD, Option.map_eq_some_iff] at h1
    obtain ⟨ds, e1, rfl⟩ := h1
    cases y <;> simp [toD] at h2 <;> first | (subst h2; simp [eqV0, PyData.eqv]; done) | (obtain ⟨es, e2, rfl⟩ := h2; first | (simp [eqV0, PyData.eqv]; done) | (simp only [eqV0, PyData.eqv]; exact eqVs_d e1 e2))
  | .lst _ xs, y, d, e, h1, h2 => by
    simp only [toD, Option.map_eq_some_iff] at h1
    obtain ⟨ds, e1, rfl⟩ := h1
    cases y <;> simp [toD] at h2 <;> first | (subst h2; simp [eqV0, PyData.eqv]; done) | (obtain ⟨es, e2, rfl⟩ := h2; first | (simp [eqV0, PyData.eqv]; done) | (simp only [eqV0, PyData.eqv]; exact eqVs_d e1 e2))
  | .dic _ _ _, y, d, e, h1, h2 => by simp [toD] at h1
  | .ins _ _ _ _, y, d, e, h1, h2 => by simp [toD] at h1
  | .fn _, y, d, e, h1, h2 => by simp [toD] at h1
  | .ty _, y, d, e, h1, h2 => by simp [toD] at h1
theorem eqVs_d : ∀ {xs ys : List Val} {ds es : List PyData}, toDs xs = some ds → toDs ys = some es → eqVs xs ys = PyData.eqvAll ds es
  | [], [], ds, es, h1, h2 => by
    simp only [toDs, Option.some.injEq] at h1 h2
    subst h1 h2
    simp [eqVs, PyData.eqvAll]
  | [], y :: ys, ds, es, h1, h2 => by
    simp only [toDs, Option.some.injEq] at h1
    subst h1
    simp only [toDs, Option.bind_eq_some_iff, Option.map_eq_some_iff] at h2
    obtain ⟨d, _, es', _, rfl⟩ := h2
    simp [eqVs, PyData.eqvAll]
  | x :: xs, [], ds, es, h1, h2 => by
    simp only [toDs, Option.some.injEq] at h2
    subst h2
    simp only [toDs, Option.bind_eq_some_iff, Option.map_eq_some_iff] at h1
    obtain ⟨d, _, es', _, rfl⟩ := h1
    simp [eqVs, PyData.eqvAll]
  | x :: xs, y :: ys, ds, es, h1, h2 => by
    simp only [toDs, Option.bind_eq_some_iff, Option.map_eq_some_iff] at h1 h2
    obtain ⟨d, a1, ds', a2, rfl⟩ := h1
    obtain ⟨e, b1, es', b2, rfl⟩ := h2
    simp only [eqVs, PyData.eqvAll, eqV0_d a1 b1, eqVs_d a2 b2]
end

section
variable {Γ : Ctx} {X : Cx} {W : WX} {σ : L2.St} {H : Hp} {P : Addr → Prop} {ow o : List Addr}
mutual
theorem rep_dp : ∀ {x : Val} {v : V} {o : List Addr} {d : PyData}, Rep Γ H P x v o → toD x = some d → Dp Γ.K H v d
  | .non, v, o, d, r, h => by
    simp only [Rep] at r; simp only [toD, Option.some.injEq] at h
    rw [r.1, ← h]; exact .non
  | .bl b, v, o, d, r, h => by
    simp only [Rep] at r; simp only [toD, Option.some.injEq] at h
    rw [r.1, ← h]; exact .bl b
  | .int b, v, o, d, r, h => by
    simp only [Rep] at r; simp only [toD, Option.some.injEq] at h
    rw [r.1, ← h]; exact .int b
  | .str b, v, o, d, r, h => by
    simp only [Rep] at r; simp only [toD, Option.some.injEq] at h
    rw [r.1, ← h]; exact .str b
  | .tup xs, v, o, d, r, h => by
    simp only [Rep] at r; simp only [toD, Option.map_eq_some_iff] at h
    obtain ⟨a, ws, rfl, e, r⟩ := r
    obtain ⟨ds, h1, rfl⟩ := h
    exact .tup (TupN.sq e) (repL_dp r h1)
  | .lst true xs, v, o, d, r, h => by
    simp only [Rep] at r; simp only [toD, Option.map_eq_some_iff] at h
    obtain ⟨a, ws, o', rfl, e, r, _⟩ := r
    obtain ⟨ds, h1, rfl⟩ := h
    exact .lst (.of e) (repL_dp r h1)
  | .lst false xs, v, o, d, r, h => by
    simp only [Rep] at r; simp only [toD, Option.map_eq_some_iff] at h
    obtain ⟨a, ws, rfl, e, r⟩ := r
    obtain ⟨ds, h1, rfl⟩ := h
    exact .lst e.sq (repL_dp r h1)
  | .dic _ _ _, v, o, d, r, h => by simp [toD] at h
  | .ins _ _ _ _, v, o, d, r, h => by simp [toD] at h
  | .fn _, v, o, d, r, h => by simp [toD] at h
  | .ty _, v, o, d, r, h => by simp [toD] at h
theorem repL_dp : ∀ {xs : List Val} {vs : List V} {o : List Addr} {ds : List PyData}, RepL Γ H P xs vs o → toDs xs = some ds → DpAll Γ.K H vs ds
  | [], vs, o, ds, r, h => by
    simp only [RepL] at r; simp only [toDs, Option.some.injEq] at h
    rw [r.1, ← h]; exact .nil
  | x :: xs, vs, o, ds, r, h => by
    simp only [RepL] at r
    simp only [toDs, Option.bind_eq_some_iff, Option.map_eq_some_iff] at h
    obtain ⟨w, ws', o1, o2, rfl, r1, r2, _⟩ := r
    obtain ⟨d, a1, ds', a2, rfl⟩ := h
    exact .cons (rep_dp r1 a1) (repL_dp r2 a2)
end
theorem rd_eq : Rd2 Γ eqD (rEqD Γ.K) := fun H P x y z v u o1 o2 Q ok h r1 r2 k => by
  unfold eqD at h
  split at h
  · rename_i hh
    simp only [Bool.and_eq_true] at hh
    cases h
    obtain ⟨d, e1, s1⟩ := isD_d hh.1
    obtain ⟨e, e2, s2⟩ := isD_d hh.2
    refine ⟨d, e, rep_dp r1 e1, rep_dp r2 e2, s1, s2, ?_⟩
    rw [← eqV0_d e1 e2]
    exact k _ H P [] .refl ok rep_bl
  · cases h
theorem rd_ne : Rd2 Γ neD (rNeD Γ.K) := fun H P x y z v u o1 o2 Q ok h r1 r2 k => by
  unfold neD at h
  split at h
  · rename_i hh
    simp only [Bool.and_eq_true] at hh
    cases h
    obtain ⟨d, e1, s1⟩ := isD_d hh.1
    obtain ⟨e, e2, s2⟩ := isD_d hh.2
    refine ⟨d, e, rep_dp r1 e1, rep_dp r2 e2, s1, s2, ?_⟩
    rw [← eqV0_d e1 e2]
    exact k _ H P [] .refl ok rep_bl
  · cases h
/-! ### ints -/
theorem rd_sub : Rd2 Γ subV (rI0 fun i j => .int (i - j)) := fun H P x y z v u o1 o2 Q ok h r1 r2 k => by
  unfold subV at h
  split at h
  · cases h
    simp only [Rep] at r1 r2
    exact ⟨_, _, r1.1, r2.1, k _ H P [] .refl ok rep_int⟩
  · cases h
theorem rd_lt : Rd2 Γ ltV (rI0 fun i j => .bl (decide (i < j))) := fun H P x y z v u o1 o2 Q ok h r1 r2 k => by
  unfold ltV at h
  split at h
  · cases h
    simp only [Rep] at r1 r2
    exact ⟨_, _, r1.1, r2.1, k _ H P [] .refl ok rep_bl⟩
  · cases h
theorem rd_le : Rd2 Γ leV (rI0 fun i j => .bl (decide (i ≤ j))) := fun H P x y z v u o1 o2 Q ok h r1 r2 k => by
  unfold leV at h
  split at h
  · cases h
    simp only [Rep] at r1 r2
    exact ⟨_, _, r1.1, r2.1, k _ H P [] .refl ok rep_bl⟩
  · cases h
theorem rd_gt : Rd2 Γ gtV (rI0 fun i j => .bl (decide (j < i))) := fun H P x y z v u o1 o2 Q ok h r1 r2 k => by
  unfold gtV at h
  split at h
  · cases h
    simp only [Rep] at r1 r2
    exact ⟨_, _, r1.1, r2.1, k _ H P [] .refl ok rep_bl⟩
  · cases h
theorem rd_ge : Rd2 Γ geV (rI0 fun i j => .bl (decide (j ≤ i))) := fun H P x y z v u o1 o2 Q ok h r1 r2 k => by
  unfold geV at h
  split at h
  · cases h
    simp only [Rep] at r1 r2
    exact ⟨_, _, r1.1, r2.1, k _ H P [] .refl ok rep_bl⟩
  · cases h
theorem rd_fdiv : Rd2 Γ fdivV (rI CDivN fun i j => .int (i.fdiv j)) := fun H P x y z v u o1 o2 Q ok h r1 r2 k => by
  unfold fdivV at h
  split at h
  · split at h
    · rename_i c
      cases h
      simp only [Rep] at r1 r2
      have c := of_decide_eq_true c
      exact ⟨_, _, r1.1, r2.1, c, k _ H P [] .refl ok rep_int⟩
    · cases h
  · cases h
theorem rd_mod : Rd2 Γ modV (rI (fun _ j => j ≠ 0) fun i j => .int (i.fmod j)) := fun H P x y z v u o1 o2 Q ok h r1 r2 k => by
  unfold modV at h
  split at h
  · split at h
    · rename_i c
      cases h
      simp only [Rep] at r1 r2
      exact ⟨_, _, r1.1, r2.1, of_decide_eq_true c, k _ H P [] .refl ok rep_int⟩
    · cases h
  · cases h
theorem rd_pow : Rd2 Γ powV (rI CPow fun i j => .int (i ^ j.toNat)) := fun H P x y z v u o1 o2 Q ok h r1 r2 k => by
  unfold powV at h
  split at h
  · split at h
    · rename_i c
      cases h
      have c := of_decide_eq_true c
      simp only [Rep] at r1 r2
      exact ⟨_, _, r1.1, r2.1, ⟨c.1, c.2.1, by have := c.2.2; omega⟩, k _ H P [] .refl ok rep_int⟩
    · cases h
  · cases h
theorem rd_neg : Rd1 Γ negV (rU fun i => .int (-i)) := fun H P x z v o1 Q ok h r1 k => by
  unfold negV at h
  split at h
  · cases h
    simp only [Rep] at r1
    exact ⟨_, r1.1, k _ H P [] .refl ok rep_int⟩
  · cases h
end
end VI
set_option Elab.async false
set_option linter.all false
set_option maxRecDepth 100000
/-! VI10: sums, products, membership, places, slices. -/
namespace VI
open PySem PySem.Spec PyProof.Rows L2

section
variable {Γ : Ctx} {X : Cx} {W : WX} {σ : L2.St} {H : Hp} {P : Addr → Prop} {ow o : List Addr} {K : PySem.W.Frag}
/-! ### RepL -/
theorem repL_nil_app {xs ys : List Val} {ws us : List V} (h1 : RepL Γ H P xs ws []) (h2 : RepL Γ H P ys us []) : RepL Γ H P (xs ++ ys) (ws ++ us) [] := by simpa using h1.append h2
theorem repL_rep {xs : List Val} {ws : List V} (h : RepL Γ H P xs ws []) : ∀ n : Nat, RepL Γ H P (VI.rep xs n) (List.replicate n ws).flatten []
  | 0 => by simp [VI.rep, RepL]
  | n + 1 => by
    rw [List.replicate_succ, List.flatten_cons]
    exact repL_nil_app h (repL_rep h n)
theorem repL_one {x : Val} {w : V} {xs : List Val} {ws : List V} (h1 : Rep Γ H P x w []) (h : RepL Γ H P xs ws []) : RepL Γ H P (x :: xs) (w :: ws) [] := by
  simp only [RepL]
  exact ⟨w, ws, [], [], rfl, h1, h, rfl⟩
theorem repL_head {x : Val} {xs : List Val} {ws : List V} (h : RepL Γ H P (x :: xs) ws []) : ∃ w ws', ws = w :: ws' ∧ Rep Γ H P x w [] ∧ RepL Γ H P xs ws' [] := by
  simp only [RepL] at h
  obtain ⟨w, ws', o1, o2, rfl, h1, h2, e⟩ := h
  have e1 : o1 = [] := (List.append_eq_nil_iff.mp e.symm).1
  have e2 : o2 = [] := (List.append_eq_nil_iff.mp e.symm).2
  subst e1 e2
  exact ⟨w, ws', rfl, h1, h2⟩
theorem repL_drop : ∀ {xs : List Val} {ws : List V} (n : Nat), RepL Γ H P xs ws [] → RepL Γ H P (xs.drop n) (ws.drop n) []
  | xs, ws, 0, h => h
  | [], ws, n + 1, h => by
    simp only [RepL] at h
    rw [h.1]
    simp [RepL]
  | x :: xs, ws, n + 1, h => by
    obtain ⟨w, ws', rfl, _, h2⟩ := repL_head h
    simpa using repL_drop n h2
theorem repL_take : ∀ {xs : List Val} {ws : List V} (n : Nat), RepL Γ H P xs ws [] → RepL Γ H P (xs.take n) (ws.take n) []
  | xs, ws, 0, h => by simp [RepL]
  | [], ws, n + 1, h => by
    simp only [RepL] at h
    rw [h.1]
    simp [RepL]
  | x :: xs, ws, n + 1, h => by
    obtain ⟨w, ws', rfl, h1, h2⟩ := repL_head h
    simpa using repL_one h1 (repL_take n h2)
theorem repL_fz {xs : List Val} {ws : List V} (h : RepL Γ H P xs ws o) (f : isFzL xs = true) : RepL Γ H P xs ws [] := by
  have := h.nil f
  subst this
  exact h
/-- a list read where it stands -/
theorem rep_lst {b : Bool} {xs : List Val} {v : V} (r : Rep Γ H P (.lst b xs) v o) : ∃ a ws o', v = .ref a ∧ SqL Γ.K H a ws ∧ RepL Γ H P xs ws o' := by
  cases b with
  | true =>
    simp only [Rep] at r
    obtain ⟨a, ws, o', e, h, r, _⟩ := r
    exact ⟨a, ws, o', e, .of h, r⟩
  | false =>
    simp only [Rep] at r
    obtain ⟨a, ws, e, h, r⟩ := r
    exact ⟨a, ws, o, e, h.sq, r⟩
theorem rep_lstT {xs : List Val} {v : V} (r : Rep Γ H P (.lst true xs) v o) : ∃ a ws o', v = .ref a ∧ H a = some (.lst ws) ∧ RepL Γ H P xs ws o' := by
  simp only [Rep] at r
  obtain ⟨a, ws, o', e, h, r, _⟩ := r
  exact ⟨a, ws, o', e, h, r⟩
theorem rep_tup {xs : List Val} {v : V} (r : Rep Γ H P (.tup xs) v o) : ∃ a ws, v = .ref a ∧ TupN H a ws ∧ RepL Γ H P xs ws o := by
  simpa only [Rep] using r
theorem mk_tup {a : Addr} {xs : List Val} {ws : List V} (h : TupN H a ws) (r : RepL Γ H P xs ws o) : Rep Γ H P (.tup xs) (.ref a) o := by
  simp only [Rep]
  exact ⟨a, ws, rfl, h, r⟩
theorem rep_seq {x : Val} {v : V} {xs : List Val} (r : Rep Γ H P x v o) (q : seqItems x = some xs) : ∃ a ws o', v = .ref a ∧ (SqL Γ.K H a ws ∨ SqT Γ.K H a ws) ∧ RepL Γ H P xs ws o' := by
  cases x <;> first | (simp [seqItems] at q; done) | skip
  · simp only [seqItems, Option.some.injEq] at q
    subst q
    obtain ⟨a, ws, e, h, r⟩ := rep_tup r
    exact ⟨a, ws, o, e, .inr h.sq, r⟩
  · simp only [seqItems, Option.some.injEq] at q
    subst q
    obtain ⟨a, ws, o', e, h, r⟩ := rep_lst r
    exact ⟨a, ws, o', e, .inl h, r⟩
theorem out_lst {p : Addr} {xs : List Val} {ws : List V} {Q : VK} (ok : Ok Γ H P []) (hp : H p = none) (hz : ws.length ≤ sizeLine) (r : RepL Γ H P xs ws []) (k : ∀ w H' P' o, Ext H P [] H' P' o → Ok Γ H' P' o → Rep Γ H' P' (.lst true xs) w o → Q w H') :
    Q (.ref p) (upd H p (.lst ws)) := by
  obtain ⟨x, k', kp⟩ := new_lst ok hp hz
  refine k _ _ P [p] x k' ?_
  simp only [Rep]
  exact ⟨p, ws, [], rfl, upd_same, r.kp kp, rfl⟩
theorem out_tup {p : Addr} {ob : Obj} {xs : List Val} {ws : List V} {Q : VK} (ok : Ok Γ H P []) (hp : H p = none) (hob : ob.dict = none) (hz : ws.length ≤ sizeLine) (r : RepL Γ H P xs ws []) (k : ∀ w H' P' o, Ext H P [] H' P' o → Ok Γ H' P' o → Rep Γ H' P' (.tup xs) w o → Q w H') :
    Q (.ref p) (upd H p (.frz ob (.tup ws))) := by
  obtain ⟨x, k', kp⟩ := new_tupN ok hp hz
  exact k _ _ P [] x k' (mk_tup ⟨ob, upd_same, hob⟩ (r.kp kp))
theorem sq_len {a : Addr} {ws : List V} (ok : Ok Γ H P ow) (h : SqL Γ.K H a ws) : ws.length ≤ sizeLine := by
  rcases h with h | ⟨o, its, n, _, _, _, _, hz, r⟩
  · exact ok.z a ws (.inl h)
  · rw [r.length]
    simpa using hz
theorem most_line {n : Nat} (h : n ≤ most) : n ≤ sizeLine := by rw [sizeLine_eq]; exact h

/-! ### + -/
/-- t + u: a new object is known -/
def rCatN (K : PySem.W.Frag) : R2 := fun x y H Q => ∃ a b xs ys, x = .ref a ∧ y = .ref b ∧ SqT K H a xs ∧ SqT K H b ys ∧ xs.length + ys.length ≤ sizeLine ∧
  (xs = [] → Q (.ref b) H) ∧ (xs ≠ [] → ys = [] → Q (.ref a) H) ∧ (xs ≠ [] → ys ≠ [] → ∀ p ob, H p = none → ob.dict = none → Q (.ref p) (upd H p (.frz ob (.tup (xs ++ ys)))))
theorem op_catN : OpR X (binaryOp .Add) (rCatN X.K) := fun pins s σ H x y v u Q I rx ry h => by
  obtain ⟨a, b, xs, ys, e1, e2, ha, hb, hz, q0, q1, q2⟩ := h
  by_cases hx : xs = []
  · exact op_catA pins s σ H x y v u Q I rx ry ⟨a, b, xs, ys, e1, e2, ha, hb, hz, q0, fun z => absurd hx z, fun z => absurd hx z⟩
  by_cases hy : ys = []
  · exact op_catA pins s σ H x y v u Q I rx ry ⟨a, b, xs, ys, e1, e2, ha, hb, hz, q0, q1, fun _ z => absurd hy z⟩
  subst e1 e2
  cases rx
  cases ry
  obtain ⟨vs, r1, p1, _⟩ := I.tuple ha
  obtain ⟨ws, r2, p2, _⟩ := I.tuple hb
  have l1 := r1.length
  have l2 := r2.length
  refine HT.cat_tup p1 p2 (fun z => hx (List.eq_nil_of_length_eq_zero (by rw [l1, z]; rfl))) (fun z => absurd (List.eq_nil_of_length_eq_zero (by rw [l2, z]; rfl)) hy) (fun _ => ?_) (by omega)
  refine ⟨.ref s.heap.objs.size, _, I.laid (t' := s.toks) (o := .frz { cls := .type "tuple", data := .seq (vs ++ ws).toArray } (.tup (xs ++ ys))) (fun _ _ e => Heap.get?_push_of_some _ e) (Nat.le_refl _) ?_, rfl, q2 hx hy _ _ (I.hok.fresh (Nat.le_refl _)) rfl⟩
  exact ⟨Heap.get?_push_size _ rfl, by rw [List.length_append]; exact hz, vs ++ ws, r1.append r2, ⟨_, Heap.get?_push_size _ rfl, rfl, _, rfl⟩⟩
/-- t * k: the object is known -/
def rRepN (K : PySem.W.Frag) : R2 := fun x y H Q => ∃ l k xs, x = .ref l ∧ y = .int k ∧ SqT K H l xs ∧ xs ≠ [] ∧ 2 ≤ k ∧ k ≤ 1000 ∧ xs.length ≤ 1000 ∧ ∀ p ob, H p = none → ob.dict = none → Q (.ref p) (upd H p (.frz ob (.tup (List.replicate k.toNat xs).flatten)))
theorem op_repN : OpR X (binaryOp .Mult) (rRepN X.K) := fun pins s σ H x y v u Q I rx ry h => by
  obtain ⟨l, k, xs, rfl, rfl, hT, hne, h1, h2, hz, q⟩ := h
  cases rx
  obtain ⟨t, rfl⟩ := ry
  obtain ⟨its, r, ⟨⟨_, dd, _, sl⟩, ho, hc, n, hd⟩, _⟩ := I.tuple hT
  simp only at hc hd
  subst hc hd
  have hle : xs.length = its.length := r.length
  have hi : its.toArray.isEmpty = false := by
    cases its with
    | nil => exact absurd (List.eq_nil_of_length_eq_zero hle) hne
    | cons _ _ => rfl
  have hsz : its.toArray.size = xs.length := by simp [hle]
  have hm : ((its.toArray.size : Nat) : Int) * k ≤ 1000 * 1000 := by
    rw [hsz]
    exact Int.le_trans (Int.mul_le_mul_of_nonneg_right (show ((xs.length : Nat) : Int) ≤ 1000 by omega) (by omega)) (Int.mul_le_mul_of_nonneg_left h2 (by omega))
  have fl : k.toNat * xs.length ≤ sizeLine := by
    rw [sizeLine_eq]
    exact Nat.le_trans (Nat.mul_le_mul (show k.toNat ≤ 1000 by omega) hz) (by omega)
  have d0 : (decide (k < -(2 ^ 63)) || decide (k ≥ 2 ^ 63)) = false := by
    simp only [Bool.or_eq_false_iff, decide_eq_false_iff_not]
    omega
  have d1 : (its.toArray.isEmpty || k == 1) = false := by
    rw [hi]
    exact beq_eq_false_iff_ne.mpr (by omega)
  have d2 : (decide (k ≤ 0) || its.toArray.isEmpty) = false := by
    rw [hi]
    simp
    omega
  have d4 : Builtin.Tuple.tupleTooMany (((its.toArray.size : Nat) : Int) * k) = false := by
    unfold Builtin.Tuple.tupleTooMany
    refine decide_eq_false ?_
    rw [sizeLine_eq]
    omega
  have hrun := tuple_mulW l its.toArray n dd sl k t d0 d1 d2 (by omega) d4 (by rw [size_rep, List.size_toArray, PyProof.Rows.lm_len_rep_flat, ← hle]; exact fl)
  refine wpAny_binaryOp_repeat_ref (T := "tuple") (U := "int") (by decide) ⟨_, ho, rfl⟩ (fun _ => typeIs_int _ k t) noFill_tuple_mul F.fills_int_mul F.slot_int_rmul repeat_tuple F.slot_int_index.lookup ?_
  refine call_meets F.slot_int_rmul (typeIs_int s k t) F.entry_int_rmul (F.args_int_rmul_2 _ _) (int_rmul_tuple k t l its.toArray n dd sl) ⟨ho, rfl, ⟨_, ho, rfl⟩, ?_⟩
  refine call_meets F.slot_tuple_mul ⟨_, ho, rfl⟩ F.entry_tuple_mul (F.args_tuple_mul_2 _ _) hrun ⟨ho, ?_⟩
  rw [size_rep]
  refine ⟨.ref s.heap.objs.size, _, I.laid (t' := s.toks) (o := .frz { cls := .type "tuple", data := .seq (List.replicate k.toNat its).flatten.toArray } (.tup (List.replicate k.toNat xs).flatten)) (fun _ _ e => Heap.get?_push_of_some _ e) (Nat.le_refl _) ?_, rfl, q _ _ (I.hok.fresh (Nat.le_refl _)) rfl⟩
  exact ⟨Heap.get?_push_size _ rfl, by rw [PyProof.Rows.lm_len_rep_flat]; exact fl, _, r.rep k.toNat, ⟨_, Heap.get?_push_size _ rfl, rfl, _, rfl⟩⟩
def rAddV (K : PySem.W.Frag) : R2 := fun x y H Q => (rI0 fun i j => .int (i + j)) x y H Q ∨ (∃ i j, x = .str i ∧ y = .str j ∧ i.length + j.length ≤ sizeLine ∧ Q (.str (i ++ j)) H) ∨ rCat x y H Q ∨ rCatN K x y H Q
theorem opr_add : OpR X (binaryOp .Add) (rAddV X.K) := op_add.or (op_add_str.or (op_cat.or op_catN))
theorem rd_add : Rd2 Γ addV (rAddV K) := fun H P x y z v u o1 o2 Q ok h r1 r2 k => by
  unfold addV at h
  split at h
  · cases h
    simp only [Rep] at r1 r2
    exact .inl ⟨_, _, r1.1, r2.1, k _ H P [] .refl ok rep_int⟩
  · split at h
    · rename_i c
      cases h
      simp only [Rep] at r1 r2
      exact .inr (.inl ⟨_, _, r1.1, r2.1, most_line (of_decide_eq_true c), k _ H P [] .refl ok rep_str⟩)
    · cases h
  · rename_i xs ys
    split at h
    · rename_i c
      cases h
      simp only [Bool.and_eq_true, decide_eq_true_eq] at c
      obtain ⟨a, ws, rfl, e1, q1⟩ := rep_tup r1
      obtain ⟨b, us, rfl, e2, q2⟩ := rep_tup r2
      have q1 := repL_fz q1 c.1.1
      have q2 := repL_fz q2 c.1.2
      have hz : ws.length + us.length ≤ sizeLine := by rw [← q1.length, ← q2.length]; exact most_line c.2
      refine .inr (.inr (.inr ⟨a, b, ws, us, rfl, rfl, e1.sq, e2.sq, hz, fun e => ?_, fun _ e => ?_, fun _ _ p ob hp hob => ?_⟩))
      · subst e
        have : xs = [] := List.eq_nil_of_length_eq_zero q1.length
        subst this
        exact k _ H P [] .refl ok (mk_tup e2 q2)
      · subst e
        have : ys = [] := List.eq_nil_of_length_eq_zero q2.length
        subst this
        exact k _ H P [] .refl ok (mk_tup e1 (by simpa using q1))
      · exact out_tup ok hp hob (by rw [List.length_append]; exact hz) (repL_nil_app q1 q2) k
    · cases h
  · rename_i xs ys
    split at h
    · rename_i c
      cases h
      simp only [Bool.and_eq_true, decide_eq_true_eq] at c
      obtain ⟨a, ws, o', rfl, e1, q1⟩ := rep_lstT r1
      obtain ⟨b, us, o'', rfl, e2, q2⟩ := rep_lstT r2
      have q1 := repL_fz q1 c.1.1
      have q2 := repL_fz q2 c.1.2
      have hz : ws.length + us.length ≤ sizeLine := by rw [← q1.length, ← q2.length]; exact most_line c.2
      refine .inr (.inr (.inl ⟨a, b, ws, us, rfl, rfl, e1, e2, hz, fun p hp => ?_⟩))
      exact out_lst ok hp (by rw [List.length_append]; exact hz) (repL_nil_app q1 q2) k
    · cases h
  · cases h
/-! ### * -/
def rMulV (K : PySem.W.Frag) : R2 := fun x y H Q => (rI CMul fun i j => .int (i * j)) x y H Q ∨ rRep x y H Q ∨ rRepN K x y H Q
theorem opr_mul : OpR X (binaryOp .Mult) (rMulV X.K) := op_mul.or (op_rep.or op_repN)
theorem small64_iff {a : Int} (h : VI.small64 a = true) : -(2 ^ 64) < a ∧ a < 2 ^ 64 := by
  have := of_decide_eq_true h
  unfold lim64 at this
  omega
theorem rd_mul : Rd2 Γ mulV (rMulV K) := fun H P x y z v u o1 o2 Q ok h r1 r2 k => by
  unfold mulV at h
  split at h
  · split at h
    · rename_i c
      cases h
      simp only [Rep] at r1 r2
      refine .inl ⟨_, _, r1.1, r2.1, ?_, k _ H P [] .refl ok rep_int⟩
      rcases Bool.or_eq_true_iff.mp c with c | c
      · exact .inl (small64_iff c)
      · exact .inr (small64_iff c)
    · cases h
  · rename_i xs n
    split at h
    · rename_i c
      cases h
      simp only [Bool.and_eq_true, decide_eq_true_eq] at c
      obtain ⟨a, ws, o', rfl, e1, q1⟩ := rep_lstT r1
      have q1 := repL_fz q1 c.1
      simp only [Rep] at r2
      have hl : ws.length ≤ 1000 := by rw [← q1.length]; exact c.2.2.1
      have hz : ws.length * n.toNat ≤ sizeLine := by
        rw [sizeLine_eq]
        have : ws.length * n.toNat ≤ 1000 * 1000 := Nat.mul_le_mul hl (by omega)
        omega
      refine .inr (.inl ⟨a, n, ws, rfl, r2.1, e1, by omega, by omega, hz, fun p hp => ?_⟩)
      exact out_lst ok hp (by rw [PyProof.Rows.lm_len_rep_flat, Nat.mul_comm]; exact hz) (repL_rep q1 _) k
    · cases h
  · rename_i xs n
    split at h
    · rename_i c
      cases h
      simp only [Bool.and_eq_true, decide_eq_true_eq] at c
      obtain ⟨a, ws, rfl, e1, q1⟩ := rep_tup r1
      have q1 := repL_fz q1 c.1
      simp only [Rep] at r2
      have hl : ws.length ≤ 1000 := by rw [← q1.length]; exact c.2.2.1
      have hz : ws.length * n.toNat ≤ sizeLine := by
        rw [sizeLine_eq]
        have : ws.length * n.toNat ≤ 1000 * 1000 := Nat.mul_le_mul hl (by omega)
        omega
      have hne : ws ≠ [] := fun e => c.2.2.2.2 (by subst e; exact List.eq_nil_of_length_eq_zero q1.length)
      refine .inr (.inr ⟨a, n, ws, rfl, r2.1, e1.sq, hne, c.2.2.2.1, c.2.1, hl, fun p ob hp hob => ?_⟩)
      exact out_tup ok hp hob (by rw [PyProof.Rows.lm_len_rep_flat, Nat.mul_comm]; exact hz) (repL_rep q1 _) k
    · cases h
  · cases h
/-! ### is None -/
theorem isNon_iff {x : Val} {v : V} (r : Rep Γ H P x v o) : decide (v = V.non) = isNon x := by
  cases x with
  | non => simp only [Rep] at r; simp [isNon, r.1]
  | bl b => simp only [Rep] at r; simp [isNon, r.1]
  | int b => simp only [Rep] at r; simp [isNon, r.1]
  | str b => simp only [Rep] at r; simp [isNon, r.1]
  | fn b => simp only [Rep] at r; simp [isNon, r.1]
  | ty b => simp only [Rep] at r; simp [isNon, r.1]
  | tup xs => obtain ⟨a, ws, rfl, _⟩ := rep_tup r; simp [isNon]
  | lst b xs => obtain ⟨a, ws, o', rfl, _⟩ := rep_lst r; simp [isNon]
  | dic b ks xs =>
    cases b <;> simp only [Rep] at r
    · obtain ⟨a, ws, rfl, _⟩ := r; simp [isNon]
    · obtain ⟨a, ws, o', rfl, _⟩ := r; simp [isNon]
  | ins b c fs xs =>
    cases b <;> simp only [Rep] at r
    · obtain ⟨a, dx, ws, rfl, _⟩ := r; simp [isNon]
    · obtain ⟨a, dx, ws, o', rfl, _⟩ := r; simp [isNon]
def rIsN (neg : Bool) : R2 := fun x y H Q => y = .non ∧ Q (.bl (if neg then !decide (x = .non) else decide (x = .non))) H
theorem non_of {y : Val} {u : V} (r : Rep Γ H P y u o) (h : isNon y = true) : u = .non := by
  have := isNon_iff r
  rw [h] at this
  exact of_decide_eq_true this
theorem rd_is : Rd2 Γ isV (fun x y H Q => y = .non ∧ Q (.bl (decide (x = .non))) H) := fun H P x y z v u o1 o2 Q ok h r1 r2 k => by
  unfold isV at h
  split at h
  · rename_i c
    cases h
    refine ⟨non_of r2 c, ?_⟩
    rw [isNon_iff r1]
    exact k _ H P [] .refl ok rep_bl
  · cases h
theorem rd_isNot : Rd2 Γ isNotV (fun x y H Q => y = .non ∧ Q (.bl (!decide (x = .non))) H) := fun H P x y z v u o1 o2 Q ok h r1 r2 k => by
  unfold isNotV at h
  split at h
  · rename_i c
    cases h
    refine ⟨non_of r2 c, ?_⟩
    rw [isNon_iff r1]
    exact k _ H P [] .refl ok rep_bl
  · cases h
/-! ### in -/
theorem flat_rep {x : Val} {v : V} (r : Rep Γ H P x v o) (h : VI.flatB x = true) : flatV v = true := by
  cases x <;> first | (simp [VI.flatB] at h; done) | (simp only [Rep] at r; rw [r.1]; rfl)
theorem eqV_rep {x y : Val} {v u : V} {o2 : List Addr} (r1 : Rep Γ H P x v o) (r2 : Rep Γ H P y u o2) (h1 : VI.flatB x = true) (h2 : VI.flatB y = true) : L2.eqV v u = eqV0 x y := by
  cases x <;> first | (simp [VI.flatB] at h1; done) | skip
  all_goals
    simp only [Rep] at r1
    rw [r1.1]
    cases y <;> first | (simp [VI.flatB] at h2; done) | skip
    all_goals
      simp only [Rep] at r2
      rw [r2.1]
      simp [L2.eqV, eqV0, b2I]
theorem inL_rep {x : Val} {v : V} (r : Rep Γ H P x v o) (h : VI.flatB x = true) : ∀ {xs : List Val} {ws : List V} {o' : List Addr}, RepL Γ H P xs ws o' → xs.all VI.flatB = true → ws.all flatV = true ∧ L2.inV v ws = inL x xs
  | [], ws, o', q, _ => by
    simp only [RepL] at q
    rw [q.1]
    exact ⟨rfl, rfl⟩
  | y :: ys, ws, o', q, f => by
    simp only [RepL] at q
    obtain ⟨w, ws', p1, p2, rfl, h1, h2, _⟩ := q
    simp only [List.all_cons, Bool.and_eq_true] at f
    obtain ⟨i1, i2⟩ := inL_rep r h h2 f.2
    refine ⟨by simp [flat_rep h1 f.1, i1], ?_⟩
    unfold L2.inV inL at i2 ⊢
    simp only [List.any_cons, i2, eqV_rep h1 r f.1 h]
theorem rd_notIn : Rd2 Γ notInV (rIn Γ.K true) := fun H P x y z v u o1 o2 Q ok h r1 r2 k => by
  unfold notInV at h
  split at h
  · rename_i xs hs
    split at h
    · rename_i c
      cases h
      simp only [Bool.and_eq_true] at c
      obtain ⟨a, ws, o', rfl, hq, q⟩ := rep_seq r2 hs
      obtain ⟨i1, i2⟩ := inL_rep r1 c.1 q c.2
      refine ⟨a, ws, rfl, hq, flat_rep r1 c.1, i1, ?_⟩
      rw [if_pos rfl, i2]
      exact k _ H P [] .refl ok rep_bl
    · cases h
  · cases h
/-! ### x[i] -/
theorem place_ix {n : Nat} {i : Int} : place n i = ixN n i := rfl
theorem rd_ix : Rd2 Γ subsV (rIx Γ.K) := fun H P x y z v u o1 o2 Q ok h r1 r2 k => by
  unfold subsV at h
  split at h
  · rename_i b xs i
    obtain ⟨x', e1, e2⟩ := Option.bind_eq_some_iff.mp h
    split at e2
    · rename_i hf
      cases e2
      obtain ⟨j, f1, f2⟩ := Option.bind_eq_some_iff.mp e1
      obtain ⟨a, ws, o', rfl, hq, q⟩ := rep_lst r1
      simp only [Rep] at r2
      obtain ⟨w, o3, g1, g2⟩ := q.get f2
      refine .inl ⟨a, ws, i, w, rfl, r2.1, hq, ?_, ?_⟩
      · unfold atI
        rw [← q.length, ← place_ix, f1]
        exact g1
      · have := g2.nil hf
        subst this
        exact k _ H P [] .refl ok g2
    · cases e2
  · rename_i xs i
    obtain ⟨x', e1, e2⟩ := Option.bind_eq_some_iff.mp h
    split at e2
    · rename_i hf
      cases e2
      obtain ⟨j, f1, f2⟩ := Option.bind_eq_some_iff.mp e1
      obtain ⟨a, ws, rfl, hq, q⟩ := rep_tup r1
      simp only [Rep] at r2
      obtain ⟨w, o3, g1, g2⟩ := q.get f2
      refine .inr (.inl ⟨a, ws, i, w, rfl, r2.1, TupN.sq hq, ?_, ?_⟩)
      · unfold atI
        rw [← q.length, ← place_ix, f1]
        exact g1
      · have := g2.nil hf
        subst this
        exact k _ H P [] .refl ok g2
    · cases e2
  · rename_i s i
    split at h
    · rename_i c
      obtain ⟨ch, e1, e2⟩ := Option.map_eq_some_iff.mp h
      subst e2
      obtain ⟨j, f1, f2⟩ := Option.bind_eq_some_iff.mp e1
      simp only [Rep] at r1 r2
      refine .inr (.inr ⟨s, i, ch, r1.1, r2.1, most_line (of_decide_eq_true c), ?_, k _ H P [] .refl ok rep_str⟩)
      unfold atI
      have hl : s.cps.toList.length = s.cps.size := by simp
      rw [hl, ← place_ix, f1]
      exact f2
    · cases h
  · cases h
/-! ### one sign in a text -/
end
end VI
set_option Elab.async false
set_option linter.all false
set_option maxRecDepth 100000
/-! VI11: a sign in a text; slices; built-ins by values; isinstance. -/
namespace VI
open PySem PySem.Spec PyProof.Rows L2
def inG (x y : Val) : Option Val := match y with
  | .str _ => inS x y
  | _ => VI.inV x y
def notB : Val → Option Val
  | .bl b => some (.bl (!b))
  | _ => none
def notInG (x y : Val) : Option Val := match y with
  | .str _ => (inS x y).bind notB
  | _ => notInV x y
section
variable {Γ : Ctx} {X : Cx} {W : WX} {σ : L2.St} {H : Hp} {P : Addr → Prop} {ow o : List Addr} {K : PySem.W.Frag}
def rInG (K : PySem.W.Frag) : R2 := fun x y H Q => rIn K false x y H Q ∨ (∃ (c : Nat) (z : Str), x = .str ⟨#[c]⟩ ∧ y = .str z ∧ Q (.bl (decide (c ∈ z.cps.toList))) H)
def rNotInG (K : PySem.W.Frag) : R2 := fun x y H Q => rIn K true x y H Q ∨ (∃ (c : Nat) (z : Str), x = .str ⟨#[c]⟩ ∧ y = .str z ∧ Q (.bl (!decide (c ∈ z.cps.toList))) H)
theorem opr_notIn : OpR X (compareOp .NotIn) (rNotInG X.K) := op_notIn_seq.or op_notIn_sign
theorem one_sign {a : Str} (h : a.cps.size = 1) : a = ⟨#[a.cps.getD 0 0]⟩ := by
  cases a with
  | mk c =>
    simp only at h
    have hl : c.toList.length = 1 := by simpa using h
    match hc : c.toList, hl with
    | [x], _ =>
      have : c = #[x] := by
        have := congrArg List.toArray hc
        simpa using this
      subst this
      simp
theorem inS_of {a b z : Val} {v u : V} {o1 o2 : List Addr} (h : inS a b = some z) (r1 : Rep Γ H P a v o1) (r2 : Rep Γ H P b u o2) : ∃ (c : Nat) (s : Str), v = .str ⟨#[c]⟩ ∧ u = .str s ∧ z = .bl (decide (c ∈ s.cps.toList)) := by
  unfold inS at h
  split at h
  · rename_i a b
    split at h
    · rename_i c
      cases h
      simp only [Rep] at r1 r2
      refine ⟨a.cps.getD 0 0, b, ?_, r2.1, ?_⟩
      · rw [r1.1]
        exact congrArg V.str (one_sign (of_decide_eq_true c))
      · rw [List.contains_eq_mem]
    · cases h
  · cases h
theorem rd_notInG : Rd2 Γ notInG (rNotInG Γ.K) := fun H P x y z v u o1 o2 Q ok h r1 r2 k => by
  unfold notInG at h
  split at h
  · obtain ⟨w, h1, h2⟩ := Option.bind_eq_some_iff.mp h
    obtain ⟨c, s, rfl, rfl, rfl⟩ := inS_of h1 r1 r2
    simp only [notB, Option.some.injEq] at h2
    subst h2
    exact .inr ⟨c, s, rfl, rfl, k _ H P [] .refl ok rep_bl⟩
  · exact .inl (rd_notIn H P x y z v u o1 o2 Q ok h r1 r2 k)
/-! ### slices -/
def slV (l h : Bool) : List Val → Option Val
  | [x] => if !l && !h then sliceV x none none else none
  | [x, a] => if l && !h then sliceV x (some a) none else if !l && h then sliceV x none (some a) else none
  | _ => none
def cSl (a b c : C) : C := fun e => (a e).bind fun u e1 => (b e1).bind fun w e2 => match w.get e2 with
  | some (.int i) => (c e2).bind fun t e3 => liftO ((u.get e3).bind fun x => (t.get e3).bind fun y => sliceV x (some (.int i)) (some y)) e3
  | _ => .bad
/-- t[lo:hi]: a new object is known -/
def rSlN (K : PySem.W.Frag) : V → Option Int → Option Int → Hp → VK → Prop := fun x lo hi H Q => ∃ a xs, x = .ref a ∧ SqT K H a xs ∧
  (HT.sIx xs.length 0 lo = 0 ∧ HT.sIx xs.length xs.length hi = xs.length → Q (.ref a) H) ∧
  (¬ (HT.sIx xs.length 0 lo = 0 ∧ HT.sIx xs.length xs.length hi = xs.length) → ∀ p ob, H p = none → ob.dict = none → Q (.ref p) (upd H p (.frz ob (.tup (cutV xs lo hi)))))
theorem sl_tupN : SlR X (rSlN X.K) := fun pins s σ H x v vl vu lo hi sl Q I rx hs pl pu h => by
  obtain ⟨a, xs, e, hx, q1, q2⟩ := h
  by_cases hw : HT.sIx xs.length 0 lo = 0 ∧ HT.sIx xs.length xs.length hi = xs.length
  · exact sl_tupA pins s σ H x v vl vu lo hi sl Q I rx hs pl pu ⟨a, xs, e, hx, q1, fun z => absurd hw z⟩
  subst e
  cases rx
  obtain ⟨its, r, ht, hz⟩ := I.tuple hx
  have hlen : its.toArray.size = xs.length := by simp [r.length]
  refine ⟨"tuple", _, PyProof.Rows.slot_tuple_getitem.lookup, ht.typeIs, HT.getItem_tuple_cut ht hs pl pu (by rw [hlen]; exact hw) ?_ (by rw [hlen]; exact hz)⟩
  rw [hlen]
  refine ⟨.ref s.heap.objs.size, _, I.laid (t' := s.toks) (o := .frz _ (.tup (cutV xs lo hi))) (fun _ _ e => Heap.get?_push_of_some _ e) (Nat.le_refl _) ⟨Heap.get?_push_size _ rfl, Nat.le_trans (cutV_length _ _ _) hz, _, ?_, ⟨_, Heap.get?_push_size _ rfl, rfl, _, rfl⟩⟩, rfl, q2 hw _ _ (I.hok.fresh (Nat.le_refl _)) rfl⟩
  exact (r.drop _).take _
def rSlV (K : PySem.W.Frag) : V → Option Int → Option Int → Hp → VK → Prop := fun x lo hi H Q => rSlL K x lo hi H Q ∨ rSlN K x lo hi H Q ∨ rSlS x lo hi H Q
theorem slr_all : SlR X (rSlV X.K) := sl_list.or (sl_tupN.or sl_str)
theorem cut_ix {α : Type} {xs : List α} {lo hi : Option Int} : cut xs lo hi = (xs.drop (HT.sIx xs.length 0 lo)).take (HT.sIx xs.length xs.length hi - HT.sIx xs.length 0 lo) := by
  unfold cut
  cases lo <;> cases hi <;> rfl
theorem repL_cut {xs : List Val} {ws : List V} {lo hi : Option Int} (r : RepL Γ H P xs ws []) : RepL Γ H P (cut xs lo hi) (cutV ws lo hi) [] := by
  rw [cut_ix, r.length]
  exact repL_take _ (repL_drop _ r)
theorem rd_sl {x z : Val} {v : V} {l h : Option Val} {lo hi : Option Int} {Q : VK} (ok : Ok Γ H P []) (e : sliceV x l h = some z) (pl : partI l = some lo) (ph : partI h = some hi) (r : Rep Γ H P x v o)
    (k : ∀ w H' P' o, Ext H P [] H' P' o → Ok Γ H' P' o → Rep Γ H' P' z w o → Q w H') : rSlV Γ.K v lo hi H Q := by
  unfold sliceV at e
  simp only [pl, ph, Option.bind_some] at e
  split at e
  · split at e
    · rename_i xs c
      cases e
      obtain ⟨a, ws, o', rfl, hq, q⟩ := rep_lst r
      have q := repL_fz q c
      have hz : ws.length ≤ sizeLine := sq_len ok hq
      exact .inl ⟨a, ws, rfl, hq, fun p hp => out_lst ok hp (Nat.le_trans (cutV_length _ _ _) hz) (repL_cut q) k⟩
    · cases e
  · split at e
    · rename_i xs c
      cases e
      obtain ⟨a, ws, rfl, hq, q⟩ := rep_tup r
      have q := repL_fz q c
      have hz : ws.length ≤ sizeLine := ok.z a ws (.inr hq)
      refine .inr (.inl ⟨a, ws, rfl, hq.sq, fun w => ?_, fun _ p ob hp hob => out_tup ok hp hob (Nat.le_trans (cutV_length _ _ _) hz) (repL_cut q) k⟩)
      have : cut xs lo hi = xs := by
        rw [cut_ix, q.length, w.1, w.2]
        simp [← q.length]
      rw [this] at k
      exact k _ H P [] .refl ok (mk_tup hq q)
    · cases e
  · split at e
    · rename_i s c
      cases e
      simp only [Rep] at r
      refine .inr (.inr ⟨s, r.1, most_line (of_decide_eq_true c), ?_⟩)
      have : (⟨(cut s.cps.toList lo hi).toArray⟩ : Str) = cutS s lo hi := by
        unfold cutS
        rw [cut_ix]
        have : s.cps.toList.length = s.length := by simp [Str.length]
        rw [this]
      rw [this] at k
      exact k _ H P [] .refl ok rep_str
    · cases e
  · cases e
theorem partI_some {a : Val} {v : V} {lo : Option Int} (h : partI (some a) = some lo) (r : Rep Γ H P a v o) : ∃ i, v = .int i ∧ lo = some i := by
  cases a <;> simp [partI] at h
  simp only [Rep] at r
  exact ⟨_, r.1, h.symm⟩
theorem sliceV_parts {x z : Val} {l h : Option Val} (e : sliceV x l h = some z) : ∃ lo hi, partI l = some lo ∧ partI h = some hi := by
  unfold sliceV at e
  obtain ⟨lo, h1, e⟩ := Option.bind_eq_some_iff.mp e
  obtain ⟨hi, h2, e⟩ := Option.bind_eq_some_iff.mp e
  exact ⟨lo, hi, h1, h2⟩
theorem bind_assoc {α β γ : Type} (c : Res α) (f : α → En → Res β) (g : β → En → Res γ) : (c.bind f).bind g = c.bind fun a e => (f a e).bind g := by cases c <;> rfl
theorem ok_bind {α β : Type} (a : α) (e : En) (f : α → En → Res β) : (Res.ok a e).bind f = f a e := rfl
/-- the end of it -/
theorem lift_acc {fn : Option Val} {Q : VK} {e : En} (acc : Acc Γ (RepO Γ) W σ H P ow Q (liftO fn e)) : ∃ z, fn = some z ∧ Acc Γ (RepO Γ) W σ H P ow Q (.ok (.val z) e) := by
  cases fn with
  | none => exact acc.elim
  | some z => exact ⟨z, rfl, acc⟩
theorem se_sl10 {a b : Expr} {ca cb : C} {p2 pos : Pos} (hK : X.K = Γ.K) (ha : SE Γ X a ca) (hb : SE Γ X b cb) : SE Γ X (.Subscript a (.Slice (some b) none none p2) pos) (cB (slV true false) [ca, cb]) := fun W tk =>
  pe_imp (pe_slice slr_all (ha W tk) (po_some (hb W tk)) po_none) fun σ H Q ⟨P, ow, e, ok, rel, acc⟩ => by
    simp only [cB, cs, bind_assoc, ok_bind] at acc
    refine tS.use (f := []) ok rel acc fun u e1 v H1 P1 o1 ow1 kp1 ok1 r1 rel1 acc1 => ?_
    refine tS.use (f := o1) ok1 rel1 acc1 fun w e2 v2 H2 P2 o2 ow2 kp2 ok2 r2 rel2 acc2 => ?_
    have r1' := r1.kp kp2
    obtain ⟨z, q, acc2⟩ := lift_acc acc2
    obtain ⟨vs, q0, q3⟩ := Option.bind_eq_some_iff.mp q
    simp only [gets, Option.bind_eq_some_iff, Option.map_some, Option.some.injEq, Option.map_eq_some_iff] at q0
    obtain ⟨x, q1, _, ⟨y, q2, rfl⟩, rfl⟩ := q0
    obtain ⟨o3, s1⟩ := OV.get_rep rel2 r1' q1
    obtain ⟨o4, s2⟩ := OV.get_rep rel2 r2 q2
    have q3' : sliceV x (some y) none = some z := by simpa [slV] using q3
    obtain ⟨lo, hi, p1, p2⟩ := sliceV_parts q3'
    obtain ⟨i, rfl, rfl⟩ := partI_some p1 s2
    cases p2
    have ok2' : Ok Γ H2 P2 ((o1 ++ o2) ++ ow2) := by simpa using ok2
    exact ⟨i, rfl, hK ▸ rd_sl ok2.nil q3' p1 rfl s1 (fin_val ok2' rel2 (by simpa using acc2))⟩
theorem se_sl01 {a b : Expr} {ca cb : C} {p2 pos : Pos} (hK : X.K = Γ.K) (ha : SE Γ X a ca) (hb : SE Γ X b cb) : SE Γ X (.Subscript a (.Slice none (some b) none p2) pos) (cB (slV false true) [ca, cb]) := fun W tk =>
  pe_imp (pe_slice slr_all (ha W tk) po_none (po_some (hb W tk))) fun σ H Q ⟨P, ow, e, ok, rel, acc⟩ => by
    simp only [cB, cs, bind_assoc, ok_bind] at acc
    refine tS.use (f := []) ok rel acc fun u e1 v H1 P1 o1 ow1 kp1 ok1 r1 rel1 acc1 => ?_
    refine tS.use (f := o1) ok1 rel1 acc1 fun w e2 v2 H2 P2 o2 ow2 kp2 ok2 r2 rel2 acc2 => ?_
    have r1' := r1.kp kp2
    obtain ⟨z, q, acc2⟩ := lift_acc acc2
    obtain ⟨vs, q0, q3⟩ := Option.bind_eq_some_iff.mp q
    simp only [gets, Option.bind_eq_some_iff, Option.map_some, Option.some.injEq, Option.map_eq_some_iff] at q0
    obtain ⟨x, q1, _, ⟨y, q2, rfl⟩, rfl⟩ := q0
    obtain ⟨o3, s1⟩ := OV.get_rep rel2 r1' q1
    obtain ⟨o4, s2⟩ := OV.get_rep rel2 r2 q2
    have q3' : sliceV x none (some y) = some z := by simpa [slV] using q3
    obtain ⟨lo, hi, p1, p2⟩ := sliceV_parts q3'
    obtain ⟨i, rfl, rfl⟩ := partI_some p2 s2
    cases p1
    have ok2' : Ok Γ H2 P2 ((o1 ++ o2) ++ ow2) := by simpa using ok2
    exact ⟨i, rfl, hK ▸ rd_sl ok2.nil q3' rfl p2 s1 (fin_val ok2' rel2 (by simpa using acc2))⟩
end
end VI
set_option Elab.async false
set_option linter.all false
set_option maxRecDepth 100000
/-! VI12: built-ins by values; isinstance. -/
namespace VI
open PySem PySem.Spec PyProof.Rows L2
/-- one class asked for: a built-in, or an own one by number -/
inductive Cq where
  | b (T : String) | o (k : Nat)
def ansB (t : String) : Cq → Bool
  | .b T => t == T || (t == "bool" && T == "int")
  | .o _ => false
def ansO (sub : Nat → Nat → Bool) (c : Nat) : Cq → Bool
  | .b _ => false
  | .o k => sub c k
/-- the classes: how many, which stands below which -/
structure Hier where
  n : Nat
  sub : Nat → Nat → Bool
def isi (h : Hier) (qs : List Cq) (x : Val) : Option Bool := match x with
  | .ins _ c _ _ => if c < h.n then some (qs.any (ansO h.sub c)) else none
  | y => (tyName y).map fun t => qs.any (ansB t)
def isiV (h : Hier) (qs : List Cq) (x : Val) : Option Val := (isi h qs x).map .bl
def tys : List String := ["NoneType", "bool", "int", "str", "tuple", "list", "dict"]
def tyq : List String := ["bool", "int", "str", "tuple", "list", "dict"]
theorem kit_all : (tys.all fun t => tyq.all fun T => kitB t T == some (t == T || (t == "bool" && T == "int"))) = true := by decide +kernel
theorem kit_bb {K : PySem.W.Frag} {t T : String} (h1 : t ∈ tys) (h2 : T ∈ tyq) : PySem.W.kitOne K (.type t) (.type T) = some (ansB t (.b T)) := by
  have := kit_all
  rw [List.all_eq_true] at this
  have := this t h1
  rw [List.all_eq_true] at this
  exact kit_ty (beq_iff_eq.mp (this T h2))
/-- what an own class's object tells of isinstance -/
structure ClsOk (K : PySem.W.Frag) (C : Addr) : Prop where
  cl : Cls K C
  ha : PySem.W.findIn K (.ref C) "__class__" = some (some (.builtin "object.__class__"))
  hn : PySem.W.specialIn K (.builtin "object.__class__") "__get__" = some (some (.builtin "getset_descriptor.__get__"))
  htk : PySem.W.takesIn K (.builtin "object.__class__") = some true
  hm : PySem.W.mroIn K C (.type "object") = some true
structure HierOk (Γ : Ctx) (h : Hier) : Prop where
  cls : ∀ c, c < h.n → ClsOk Γ.K (Γ.cls c)
  ob : ∀ c, c < h.n → ∀ T ∈ tyq, PySem.W.kitOne Γ.K (.ref (Γ.cls c)) (.type T) = some false
def CqOk (Γ : Ctx) (h : Hier) : Cq → Prop
  | .b T => T ∈ tyq
  | .o k => (∀ t ∈ tys, PySem.W.kitOne Γ.K (.type t) (.ref (Γ.cls k)) = some false) ∧ ∀ c, c < h.n → PySem.W.kitOne Γ.K (.ref (Γ.cls c)) (.ref (Γ.cls k)) = some (h.sub c k)
def cqV (Γ : Ctx) : Cq → V
  | .b T => .ty T
  | .o k => .ref (Γ.cls k)
def cqU (Γ : Ctx) : Cq → Value
  | .b T => .type T
  | .o k => .ref (Γ.cls k)
theorem cq_cls (Γ : Ctx) : ∀ q : Cq, ClsV (cqV Γ q) (cqU Γ q)
  | .b T => .ty T
  | .o k => .own _
theorem kitAny_any {K : PySem.W.Frag} {t : Value} {f : Cq → Bool} {Γ : Ctx} : ∀ {qs : List Cq}, (∀ q ∈ qs, PySem.W.kitOne K t (cqU Γ q) = some (f q)) → PySem.W.kitAny K t (qs.map (cqU Γ)) = some (qs.any f)
  | [], _ => kitAny_nil
  | q :: qs, h => by
    have ih := kitAny_any fun q hq => h q (List.mem_cons_of_mem _ hq)
    refine kitAny_cons (h q List.mem_cons_self) (fun e => ?_) fun e => ?_
    · rw [List.any_cons, e, Bool.false_or]; exact ih
    · rw [List.any_cons, e, Bool.true_or]
section
variable {Γ : Ctx} {X : Cx} {W : WX} {σ : L2.St} {H : Hp} {P : Addr → Prop} {ow o : List Addr} {K : PySem.W.Frag}
theorem ty_rep {x : Val} {v : V} {t : String} (r : Rep Γ H P x v o) (h : tyName x = some t) : TyX Γ.K H v (.type t) ∧ t ∈ tys := by
  cases x <;> simp only [tyName, Option.some.injEq] at h <;> first | (cases h; done) | skip
  · subst h; simp only [Rep] at r; rw [r.1]; exact ⟨.base .non, by decide⟩
  · subst h; simp only [Rep] at r; rw [r.1]; exact ⟨.base (.bl _), by decide⟩
  · subst h; simp only [Rep] at r; rw [r.1]; exact ⟨.base (.int _), by decide⟩
  · subst h; simp only [Rep] at r; rw [r.1]; exact ⟨.base (.str _), by decide⟩
  · subst h; obtain ⟨a, ws, rfl, h, _⟩ := rep_tup r; exact ⟨h.elim fun _ q => .fTuple q.1, by decide⟩
  · subst h
    obtain ⟨a, ws, _, rfl, h, _⟩ := rep_lst r
    rcases h with (h | ⟨ob, h⟩) | ⟨o, its, n, h, hc, _⟩
    · exact ⟨.base (.lst h), by decide⟩
    · exact ⟨.base (.frz h), by decide⟩
    · exact ⟨.kList h hc, by decide⟩
  · subst h
    rename_i b ks xs
    cases b <;> simp only [Rep] at r
    · obtain ⟨a, ws, rfl, h, _⟩ := r; exact ⟨.base (.dK h), by decide⟩
    · obtain ⟨a, ws, o', rfl, h, _⟩ := r; exact ⟨.base (.dK h), by decide⟩
theorem ins_rep {b : Bool} {c : Nat} {fs : List Str} {xs : List Val} {v : V} (r : Rep Γ H P (.ins b c fs xs) v o) : ∃ a dx ws o', v = .ref a ∧ H a = some (.ins (Γ.cls c) dx (fs.zip ws)) ∧ fs.length = ws.length ∧ RepL Γ H P xs ws o' := by
  cases b <;> simp only [Rep] at r
  · obtain ⟨a, dx, ws, e, h, l, _, q⟩ := r; exact ⟨a, dx, ws, o, e, h, l, q⟩
  · obtain ⟨a, dx, ws, o', e, h, l, q, _⟩ := r; exact ⟨a, dx, ws, o', e, h, l, q⟩
theorem isi_any {h : Hier} (hk : HierOk Γ h) {qs : List Cq} (hq : ∀ q ∈ qs, CqOk Γ h q) {x : Val} {v : V} {b : Bool} (r : Rep Γ H P x v o) (e : isi h qs x = some b) :
    ∃ t f, TyX Γ.K H v t ∧ b = qs.any f ∧ ∀ q ∈ qs, PySem.W.kitOne Γ.K t (cqU Γ q) = some (f q) := by
  unfold isi at e
  split at e
  · rename_i b' c fs xs
    split at e
    · rename_i hc
      cases e
      obtain ⟨a, dx, ws, o', rfl, h1, _, _⟩ := ins_rep r
      have k := hk.cls c hc
      refine ⟨.ref (Γ.cls c), ansO h.sub c, .base (.ins h1 k.cl k.ha k.hn k.htk k.hm), rfl, fun q hq' => ?_⟩
      cases q with
      | b T => exact hk.ob c hc T (hq _ hq')
      | o k => exact (hq _ hq').2 c hc
    · cases e
  · obtain ⟨t, e1, e2⟩ := Option.map_eq_some_iff.mp e
    obtain ⟨ty, hm⟩ := ty_rep r e1
    refine ⟨.type t, ansB t, ty, e2.symm, fun q hq' => ?_⟩
    cases q with
    | b T => exact kit_bb hm (hq _ hq')
    | o k => exact (hq _ hq').1 t hm
/-- isinstance(x, c), one class -/
theorem se_isi {a c : Expr} {ca : C} {p pos : Pos} {h : Hier} {q : Cq} (hk : HierOk Γ h) (hK : X.K = Γ.K) (hq : CqOk Γ h q) (hg : Gl X "isinstance") (hm : X.mg "isinstance" = none) (ha : SE Γ X a ca) (hc : PE X c (tC (cqV Γ q)))
    (hs : starEach [a, c] X.env = (false, eval a X.env) :: starEach [c] X.env := by rfl) (hs2 : starEach [c] X.env = (false, eval c X.env) :: starEach [] X.env := by rfl) (hpl : (backTo pos (starEach [c] X.env)).any (·.1) = false := by rfl) :
    SE Γ X (.Call (.Name "isinstance" p) [a, c] [] pos) (c1 (isiV h [q]) ca) := fun W tk =>
  pe_imp (pe_callB call_isi hg hm (by rfl) (pa_cons (ha W tk) (pa_cons hc pa_nil hs2) hs) (by decide) (by decide) hs hpl) fun σ H Q h0 => by
    refine c1_red (r := fun v H Q => rIsi X.K [v, cqV Γ q] H Q) (fun H P x z v o1 Q ok e r k => ?_) h0
    unfold isiV at e
    obtain ⟨b, e1, e2⟩ := Option.map_eq_some_iff.mp e
    subst e2
    obtain ⟨t, f, ty, e3, e4⟩ := isi_any hk (qs := [q]) (fun q' hq' => by rw [List.mem_singleton] at hq'; subst hq'; exact hq) r e1
    rw [hK]
    refine ⟨v, cqV Γ q, t, cqU Γ q, b, rfl, cq_cls Γ q, ty, ?_, k _ H P [] .refl ok rep_bl⟩
    rw [e4 q List.mem_cons_self, e3]
    simp
/-- isinstance(x, (c, d)) -/
theorem se_isi2 {a c d : Expr} {ca : C} {p pos tp : Pos} {kk : Nat} {h : Hier} {q q' : Cq} (hk : HierOk Γ h) (hK : X.K = Γ.K) (hq : CqOk Γ h q) (hq' : CqOk Γ h q') (hg : Gl X "isinstance") (hm : X.mg "isinstance" = none) (ha : SE Γ X a ca) (hc : PE X c (tC (cqV Γ q))) (hd : PE X d (tC (cqV Γ q')))
    (hs : starEach [a, .Tuple [c, d] kk tp] X.env = (false, eval a X.env) :: starEach [.Tuple [c, d] kk tp] X.env := by rfl) (hs2 : starEach [.Tuple [c, d] kk tp] X.env = (false, eval (.Tuple [c, d] kk tp) X.env) :: starEach [] X.env := by rfl) (hpl : (backTo pos (starEach [.Tuple [c, d] kk tp] X.env)).any (·.1) = false := by rfl)
    (hs3 : starEach [c, d] X.env = (false, eval c X.env) :: starEach [d] X.env := by rfl) (hs4 : starEach [d] X.env = (false, eval d X.env) :: starEach [] X.env := by rfl) :
    SE Γ X (.Call (.Name "isinstance" p) [a, .Tuple [c, d] kk tp] [] pos) (c1 (isiV h [q, q']) ca) := fun W tk =>
  pe_imp (pe_callB call_isiT hg hm (by rfl) (pa_cons (ha W tk) (pa_cons (pe_tup (pa_cons hc (pa_cons hd pa_nil hs4) hs3)) pa_nil hs2) hs) (by decide) (by decide) hs hpl) fun σ H Q ⟨P, ow, e, ok, rel, acc⟩ => by
    unfold c1 at acc
    refine tS.use (f := []) ok rel acc fun u e1 v H1 P1 o1 ow1 kp1 ok1 r1 rel1 acc1 => ?_
    obtain ⟨z, q1, acc1⟩ := lift_acc acc1
    obtain ⟨x, q2, q3⟩ := Option.bind_eq_some_iff.mp q1
    unfold isiV at q3
    obtain ⟨b, e3, e4⟩ := Option.map_eq_some_iff.mp q3
    subst e4
    obtain ⟨o2, s1⟩ := OV.get_rep rel1 r1 q2
    refine ⟨small_line (n := 2) (by decide), fun tpa htp => ?_⟩
    obtain ⟨x3, k3, kp3⟩ := new_tup (ws := [cqV Γ q, cqV Γ q']) ok1.nil htp (small_line (n := 2) (by decide))
    obtain ⟨x4, k4, kp4⟩ := ok_drop (g := o1) ok1 x3 k3
    have s2 : Rep Γ (upd H1 tpa (.tup [cqV Γ q, cqV Γ q'])) P1 x v o2 := s1.kp ⟨fun a _ u hu => by rw [upd_ne (ne_of_none hu htp)]; exact hu, kp4.frz, kp4.tup, kp4.frd, kp4.inc⟩
    obtain ⟨t, f, ty, e5, e6⟩ := isi_any hk (qs := [q, q']) (fun q0 h0 => by
      rcases List.mem_cons.mp h0 with rfl | h0
      · exact hq
      · rw [List.mem_singleton] at h0; subst h0; exact hq') s2 e3
    show rIsiT X.K [v, .ref tpa] _ Q
    rw [hK]
    refine ⟨v, tpa, [cqV Γ q, cqV Γ q'], t, [cqU Γ q, cqU Γ q'], b, rfl, upd_same, .cons (cq_cls Γ q) (.cons (cq_cls Γ q') .nil), ty, ?_, acc1 (.bl b) _ P1 [] ow1 x4 k4 (show Rep Γ (upd H1 tpa (.tup [cqV Γ q, cqV Γ q'])) P1 (.bl b) (.bl b) [] from rep_bl) (rel1.kp (kp4.sub fun a z => List.mem_append_right _ z))⟩
    rw [e5]
    exact kitAny_any (K := Γ.K) (t := t) (f := f) (Γ := Γ) (qs := [q, q']) e6
/-! ### len, abs, int, max, min, sum, all, any, tuple, list -/
theorem pair1 {F : V → Val → Prop} {vs : List V} {x : Val} (h : Paired F vs [x]) : ∃ v, vs = [v] ∧ F v x := by
  cases h with
  | cons a b => cases b; exact ⟨_, rfl, a⟩
theorem pair2 {F : V → Val → Prop} {vs : List V} {x y : Val} (h : Paired F vs [x, y]) : ∃ v u, vs = [v, u] ∧ F v x ∧ F u y := by
  cases h with
  | cons a b => obtain ⟨u, rfl, c⟩ := pair1 b; exact ⟨_, _, rfl, a, c⟩
def rLenV (K : PySem.W.Frag) : List V → Hp → VK → Prop := fun xs H Q => (∃ p ys, xs = [.ref p] ∧ (SqL K H p ys ∨ SqT K H p ys) ∧ Q (.int ys.length) H) ∨ (∃ z, xs = [.str z] ∧ z.length ≤ sizeLine ∧ Q (.int z.length) H)
theorem cr_len : CallR X (.builtin "len") (rLenV X.K) := call_len_seq.or call_len_str
theorem rd_len : RdN Γ lenV (rLenV Γ.K) := fun H P xs z vs Q ok e hp k => by
  unfold lenV at e
  split at e
  · cases e
    obtain ⟨v, rfl, o, r⟩ := pair1 hp
    obtain ⟨a, ws, o', rfl, h, q⟩ := rep_lst r
    refine .inl ⟨a, ws, rfl, .inl h, ?_⟩
    rw [← q.length]
    exact k _ H P [] .refl ok rep_int
  · cases e
    obtain ⟨v, rfl, o, r⟩ := pair1 hp
    obtain ⟨a, ws, rfl, h, q⟩ := rep_tup r
    refine .inl ⟨a, ws, rfl, .inr (TupN.sq h), ?_⟩
    rw [← q.length]
    exact k _ H P [] .refl ok rep_int
  · split at e
    · rename_i c
      cases e
      obtain ⟨v, rfl, o, r⟩ := pair1 hp
      simp only [Rep] at r
      exact .inr ⟨_, by rw [r.1], most_line (of_decide_eq_true c), k _ H P [] .refl ok rep_int⟩
    · cases e
  · cases e
theorem rd_abs : RdN Γ absV' (fun xs H Q => ∃ i, xs = [.int i] ∧ Q (.int (if i < 0 then -i else i)) H) := fun H P xs z vs Q ok e hp k => by
  unfold absV' at e
  split at e
  · cases e
    obtain ⟨v, rfl, o, r⟩ := pair1 hp
    simp only [Rep] at r
    exact ⟨_, by rw [r.1], k _ H P [] .refl ok rep_int⟩
  · cases e
theorem rd_int : RdN Γ intV (fun xs H Q => (∃ i, xs = [.int i] ∧ Q (.int i) H) ∨ ∃ k, xs = [.bl k] ∧ Q (.int (if k then 1 else 0)) H) := fun H P xs z vs Q ok e hp k => by
  unfold intV at e
  split at e
  · cases e
    obtain ⟨v, rfl, o, r⟩ := pair1 hp
    simp only [Rep] at r
    exact .inl ⟨_, by rw [r.1], k _ H P [] .refl ok rep_int⟩
  · cases e
    obtain ⟨v, rfl, o, r⟩ := pair1 hp
    simp only [Rep] at r
    exact .inr ⟨_, by rw [r.1], k _ H P [] .refl ok rep_int⟩
  · cases e
theorem rd_min2 : RdN Γ min2V (fun xs H Q => ∃ i j, xs = [.int i, .int j] ∧ Q (.int (if j < i then j else i)) H) := fun H P xs z vs Q ok e hp k => by
  unfold min2V at e
  split at e
  · cases e
    obtain ⟨v, u, rfl, ⟨o, r⟩, ⟨o2, r2⟩⟩ := pair2 hp
    simp only [Rep] at r r2
    exact ⟨_, _, by rw [r.1, r2.1], k _ H P [] .refl ok rep_int⟩
  · cases e
theorem ints_rep : ∀ {xs : List Val} {ws : List V} {o : List Addr} {ns : List Int}, RepL Γ H P xs ws o → toInts xs = some ns → ws = ns.map V.int
  | [], ws, o, ns, r, h => by
    simp only [RepL] at r
    simp only [toInts, Option.some.injEq] at h
    rw [r.1, ← h]
    rfl
  | x :: xs, ws, o, ns, r, h => by
    cases x <;> simp only [toInts] at h <;> first | (cases h; done) | skip
    obtain ⟨ms, e1, rfl⟩ := Option.map_eq_some_iff.mp h
    simp only [RepL] at r
    obtain ⟨w, ws', o1, o2, rfl, r1, r2, _⟩ := r
    simp only [Rep] at r1
    rw [r1.1, ints_rep r2 e1]
    rfl
theorem bls_rep : ∀ {xs : List Val} {ws : List V} {o : List Addr} {ns : List Bool}, RepL Γ H P xs ws o → toBls xs = some ns → ws = ns.map V.bl
  | [], ws, o, ns, r, h => by
    simp only [RepL] at r
    simp only [toBls, Option.some.injEq] at h
    rw [r.1, ← h]
    rfl
  | x :: xs, ws, o, ns, r, h => by
    cases x <;> simp only [toBls] at h <;> first | (cases h; done) | skip
    obtain ⟨ms, e1, rfl⟩ := Option.map_eq_some_iff.mp h
    simp only [RepL] at r
    obtain ⟨w, ws', o1, o2, rfl, r1, r2, _⟩ := r
    simp only [Rep] at r1
    rw [r1.1, bls_rep r2 e1]
    rfl
theorem sumL_eq : ∀ ns : List Int, sumL ns = ns.sum
  | [] => rfl
  | n :: ns => by simp [sumL, sumL_eq ns]
/-- of lists -/
def sumLV : List Val → Option Val
  | [.lst _ xs] => (toInts xs).map fun ns => .int (sumL ns)
  | _ => none
theorem rd_sumL : RdN Γ sumLV (rSum Γ.K) := fun H P xs z vs Q ok e hp k => by
  unfold sumLV at e
  split at e
  · obtain ⟨ns, e1, rfl⟩ := Option.map_eq_some_iff.mp e
    obtain ⟨v, rfl, o, r⟩ := pair1 hp
    obtain ⟨a, ws, o', rfl, h, q⟩ := rep_lst r
    have := ints_rep q e1
    subst this
    refine ⟨a, ns, rfl, h, ?_⟩
    rw [← sumL_eq]
    exact k _ H P [] .refl ok rep_int
  · cases e
theorem rd_all : RdN Γ allV (rAll Γ.K) := fun H P xs z vs Q ok e hp k => by
  unfold allV at e
  split at e
  · obtain ⟨ns, e1, rfl⟩ := Option.map_eq_some_iff.mp e
    obtain ⟨v, rfl, o, r⟩ := pair1 hp
    obtain ⟨a, ws, o', rfl, h, q⟩ := rep_lst r
    have := bls_rep q e1
    subst this
    exact ⟨a, ns, rfl, h, k _ H P [] .refl ok rep_bl⟩
  · cases e
/-- tuple(l): the object is known -/
def rTupN (K : PySem.W.Frag) : List V → Hp → VK → Prop := fun xs H Q => ∃ p ys, xs = [.ref p] ∧ ((SqL K H p ys ∧ ∀ l ob, H l = none → ob.dict = none → Q (.ref l) (upd H l (.frz ob (.tup ys)))) ∨ (SqT K H p ys ∧ Q (.ref p) H))
theorem cr_tupN : CallR X (.type "tuple") (rTupN X.K) := fun pins s σ H xs us Q I r h => by
  obtain ⟨p, ys, e, h⟩ := h
  rcases h with ⟨hq, q⟩ | h
  · subst e
    obtain ⟨_, rfl, rx⟩ := vals1 r
    cases rx
    obtain ⟨its, r', pl, hz⟩ := I.list hq
    refine call_tuple_list pl.isList (fun h' kp => ?_) (by rw [List.size_toArray, ← r'.length]; exact hz)
    have I1 := I.kept (t' := s.toks) kp
    refine ⟨.ref h'.objs.size, _, I1.laid (t' := s.toks) (o := .frz { cls := .type "tuple", data := .seq its.toArray } (.tup ys)) (fun _ _ e => Heap.get?_push_of_some _ e) (Nat.le_refl _) ?_, rfl, q _ _ (I1.hok.fresh (Nat.le_refl _)) rfl⟩
    exact ⟨Heap.get?_push_size _ rfl, hz, its, r', ⟨_, Heap.get?_push_size _ rfl, rfl, _, rfl⟩⟩
  · exact call_tuple_of pins s σ H xs us Q I r ⟨p, ys, e, .inr h⟩
theorem rd_tuple : RdN Γ tupleV (rTupN Γ.K) := fun H P xs z vs Q ok e hp k => by
  unfold tupleV at e
  split at e
  · split at e
    · rename_i c
      cases e
      obtain ⟨v, rfl, o, r⟩ := pair1 hp
      obtain ⟨a, ws, o', rfl, h, q⟩ := rep_lst r
      have q := repL_fz q c
      exact ⟨a, ws, rfl, .inl ⟨h, fun l ob hl hob => out_tup ok hl hob (sq_len ok h) q k⟩⟩
    · cases e
  · split at e
    · rename_i c
      cases e
      obtain ⟨v, rfl, o, r⟩ := pair1 hp
      obtain ⟨a, ws, rfl, h, q⟩ := rep_tup r
      have q := repL_fz q c
      exact ⟨a, ws, rfl, .inr ⟨h.sq, k _ H P [] .refl ok (mk_tup h q)⟩⟩
    · cases e
  · cases e
theorem rd_list : RdN Γ listV (fun xs H Q => ∃ p ys, xs = [.ref p] ∧ (SqL Γ.K H p ys ∨ SqT Γ.K H p ys) ∧ ∀ l, H l = none → Q (.ref l) (upd H l (.lst ys))) := fun H P xs z vs Q ok e hp k => by
  unfold listV at e
  split at e
  · split at e
    · rename_i c
      cases e
      obtain ⟨v, rfl, o, r⟩ := pair1 hp
      obtain ⟨a, ws, o', rfl, h, q⟩ := rep_lst r
      have q := repL_fz q c
      exact ⟨a, ws, rfl, .inl h, fun l hl => out_lst ok hl (sq_len ok h) q k⟩
    · cases e
  · split at e
    · rename_i c
      cases e
      obtain ⟨v, rfl, o, r⟩ := pair1 hp
      obtain ⟨a, ws, rfl, h, q⟩ := rep_tup r
      have q := repL_fz q c
      exact ⟨a, ws, rfl, .inr h.sq, fun l hl => out_lst ok hl (ok.z a ws (.inr h)) q k⟩
    · cases e
  · cases e
end
/-! ### sorted: ints -/
def insI (x : Int) : List Int → List Int
  | [] => [x]
  | y :: r => if x ≤ y then x :: y :: r else y :: insI x r
def sortI : List Int → List Int
  | [] => []
  | x :: r => insI x (sortI r)
theorem insI_perm (x : Int) : ∀ l : List Int, (insI x l).Perm (x :: l)
  | [] => .refl _
  | y :: r => by
    unfold insI
    split
    · exact .refl _
    · exact (List.Perm.cons y (insI_perm x r)).trans (List.Perm.swap x y r)
theorem sortI_perm : ∀ l : List Int, (sortI l).Perm l
  | [] => .refl _
  | x :: r => (insI_perm x _).trans (List.Perm.cons x (sortI_perm r))
theorem insI_sorted {x : Int} : ∀ {l : List Int}, l.Pairwise (· ≤ ·) → (insI x l).Pairwise (· ≤ ·)
  | [], _ => by simp [insI]
  | y :: r, h => by
    unfold insI
    have h' := List.pairwise_cons.mp h
    split
    · rename_i c
      refine List.pairwise_cons.mpr ⟨fun z hz => ?_, h⟩
      rcases List.mem_cons.mp hz with rfl | hz
      · exact c
      · exact Int.le_trans c (h'.1 z hz)
    · rename_i c
      refine List.pairwise_cons.mpr ⟨fun z hz => ?_, insI_sorted h'.2⟩
      rcases List.mem_cons.mp ((insI_perm x r).subset hz) with rfl | hz
      · omega
      · exact h'.1 z hz
theorem sortI_sorted : ∀ l : List Int, (sortI l).Pairwise (· ≤ ·)
  | [] => List.Pairwise.nil
  | x :: r => insI_sorted (sortI_sorted r)
theorem sorted_one {a b : List Int} (p : a.Perm b) (ha : a.Pairwise (· ≤ ·)) (hb : b.Pairwise (· ≤ ·)) : a = b := List.Perm.eq_of_pairwise (fun x y _ _ h1 h2 => Int.le_antisymm h1 h2) ha hb p
def intsV (ns : List Int) : List Val := ns.map .int
/-- of lists -/
def sortedLV : List Val → Option Val
  | [.lst _ xs] => (toInts xs).map fun ns => .lst true (intsV (sortI ns))
  | _ => none
theorem repL_ints {Γ : Ctx} {H : Hp} {P : Addr → Prop} : ∀ ns : List Int, RepL Γ H P (intsV ns) (ns.map V.int) []
  | [] => by simp [intsV, RepL]
  | n :: ns => repL_one rep_int (repL_ints ns)
theorem rd_sortedL {Γ : Ctx} : RdN Γ sortedLV (rSortedI Γ.K) := fun H P xs z vs Q ok e hp k => by
  unfold sortedLV at e
  split at e
  · obtain ⟨ns, e1, rfl⟩ := Option.map_eq_some_iff.mp e
    obtain ⟨v, rfl, o, r⟩ := pair1 hp
    obtain ⟨a, ws, o', rfl, h, q⟩ := rep_lst r
    have := ints_rep q e1
    subst this
    refine ⟨a, ns, rfl, h, fun ns' p hp hs hn => ?_⟩
    have : ns' = sortI ns := sorted_one (hp.trans (sortI_perm ns).symm) hs (sortI_sorted ns)
    subst this
    have hz : (List.map V.int ns).length ≤ sizeLine := sq_len ok h
    refine out_lst ok hn ?_ (repL_ints _) k
    rw [List.length_map] at hz ⊢
    rw [(sortI_perm ns).length_eq]
    exact hz
  · cases e
end VI
set_option Elab.async false
set_option linter.all false
set_option maxRecDepth 100000
/-! VI13: changing an owned list that a name holds. -/
namespace VI
open PySem PySem.Spec PyProof.Rows L2
def oL (e : En) (i : Nat) : Option (List Val) := match slot e i with
  | some (.lst true xs) => some xs
  | _ => none
theorem oL_some {e : En} {i : Nat} {xs : List Val} (h : oL e i = some xs) : slot e i = some (.lst true xs) := by
  unfold oL at h
  split at h
  · rename_i h'; cases h; exact h'
  · cases h
/-- x.append(e) -/
def sApp (i : Nat) (c : C) : S := fun e => match oL e i with
  | none => .bad
  | some _ => (c e).toS fun u e1 => match u.takeF e1 with
    | some (y, e2) => match oL e2 i with
      | some xs => if decide (xs.length < most) then .nx (e2.set i (some (.lst true (xs ++ [y])))) else .bad
      | none => .bad
    | none => .bad
/-- x.extend(e), e a list -/
def sExt (i : Nat) (c : C) : S := fun e => match oL e i with
  | none => .bad
  | some _ => (c e).toS fun u e1 => match u.get e1 with
    | some (.lst true ys) => match oL e1 i with
      | some xs => if isFzL ys && decide (xs.length + ys.length ≤ most) then .nx (e1.set i (some (.lst true (xs ++ ys)))) else .bad
      | none => .bad
    | _ => .bad
/-- x.pop(e) -/
def cPopAt (i : Nat) (c : C) : C := fun e => match oL e i with
  | none => .bad
  | some _ => (c e).bind fun u e1 => match u.get e1 with
    | some (.int k) => match oL e1 i with
      | some xs => match (place xs.length k).bind fun j => (xs[j]?).map fun y => (j, y) with
        | some (j, y) => if isFz y then .ok (.val y) (e1.set i (some (.lst true (xs.eraseIdx j)))) else .bad
        | none => .bad
      | none => .bad
    | _ => .bad
/-- x.pop() -/
def cPop (i : Nat) : C := fun e => match oL e i with
  | none => .bad
  | some xs => match xs[xs.length - 1]? with
    | some y => if isFz y then .ok (.val y) (e.set i (some (.lst true xs.dropLast))) else .bad
    | none => .bad
/-- x[a] = b -/
def sSetI (i : Nat) (ci cv : C) : S := fun e => (cv e).toS fun u e1 => match u.takeF e1 with
  | some (y, e2) => match oL e2 i with
    | none => .bad
    | some _ => (ci e2).toS fun w e3 => match w.get e3 with
      | some (.int k) => match oL e3 i with
        | some xs => match place xs.length k with
          | some j => match xs[j]? with
            | some z => if isFz z then .nx (e3.set i (some (.lst true (xs.set j y)))) else .bad
            | none => .bad
          | none => .bad
        | none => .bad
      | _ => .bad
  | none => .bad
/-- x[a] op= b -/
def sAugI (i : Nat) (ci : C) (fn : Val → Val → Option Val) (cv : C) : S := fun e => match oL e i with
  | none => .bad
  | some _ => (ci e).toS fun w e1 => match w.get e1, oL e1 i with
    | some (.int k), some xs => match place xs.length k with
      | some j => match xs[j]? with
        | some x => if isFz x then (cv e1).toS fun u e2 => match (u.get e2).bind fun y => fn x y, oL e2 i with
          | some z, some xs2 => if isFz z && xs2.all isFz && decide (xs2.length = xs.length) then .nx (e2.set i (some (.lst true (xs2.set j z)))) else .bad
          | _, _ => .bad else .bad
        | none => .bad
      | none => .bad
    | _, _ => .bad

section
variable {Γ : Ctx} {X : Cx} {W : WX} {σ : L2.St} {H : Hp} {P : Addr → Prop} {ow o : List Addr} {K : PySem.W.Frag} {e : En} {i : Nat} {xs : List Val} {pins : List Nat}
theorem oL_at (rel : RelE Γ H P e σ ow) (h : oL e i = some xs) : ∃ a ws o', σ[i]? = some (some (.ref a)) ∧ H a = some (.lst ws) ∧ RepL Γ H P xs ws o' := by
  obtain ⟨v, o1, e1, r, _⟩ := rel.get (slot_some.mp (oL_some h))
  obtain ⟨a, ws, o', rfl, h1, h2⟩ := rep_lstT r
  exact ⟨a, ws, o', e1, h1, h2⟩
theorem mut_slot {f : List Addr} (ok : Ok Γ H P (f ++ ow)) (rel : RelE Γ H P e σ ow) (h : oL e i = some xs) : ∃ a ws o', σ[i]? = some (some (.ref a)) ∧ H a = some (.lst ws) ∧ RepL Γ H P xs ws o' ∧
    ∀ (ws' : List V) (xs' : List Val), ws'.length ≤ sizeLine → (∀ H', Kp H P o' H' P → RepL Γ H' P xs' ws' o') →
      Ext H P (f ++ ow) (upd H a (.lst ws')) P (f ++ ow) ∧ Ok Γ (upd H a (.lst ws')) P (f ++ ow) ∧ RelE Γ (upd H a (.lst ws')) P (e.set i (some (.lst true xs'))) σ ow ∧ Kp H P f (upd H a (.lst ws')) P := by
  have hs := slot_some.mp (oL_some h)
  obtain ⟨v, o1, ow', e1, r, rel', pq⟩ := rel.take hs
  simp only [Rep] at r
  obtain ⟨a, ws, o', rfl, h1, h2, rfl⟩ := r
  refine ⟨a, ws, o', e1, h1, h2, fun ws' xs' hz hr => ?_⟩
  have pq2 : (f ++ ow).Perm (f ++ ((a :: o') ++ ow')) := pq.append_left f
  have ok' := ok.perm pq2
  have ha : a ∈ f ++ ((a :: o') ++ ow') := List.mem_append_right _ (List.mem_append_left _ List.mem_cons_self)
  obtain ⟨x, k, kp⟩ := mut_lst ok' ha hz
  have n := List.nodup_append.mp ok'.n
  have n2 := List.nodup_append.mp n.2.1
  have n3 := List.nodup_cons.mp n2.1
  have k1 : Kp H P o' (upd H a (.lst ws')) P := kp o' n3.1 fun b hb => List.mem_append_right _ (List.mem_append_left _ (List.mem_cons_of_mem _ hb))
  have k2 : Kp H P ow' (upd H a (.lst ws')) P := kp ow' (fun q => n2.2.2 a List.mem_cons_self a q rfl) fun b hb => List.mem_append_right _ (List.mem_append_right _ hb)
  have k3 : Kp H P f (upd H a (.lst ws')) P := kp f (fun q => n.2.2 a q a (List.mem_append_left _ List.mem_cons_self) rfl) fun b hb => List.mem_append_left _ hb
  have hi : i < e.length := (List.getElem?_eq_some_iff.mp hs).1
  have rr : Rep Γ (upd H a (.lst ws')) P (.lst true xs') (.ref a) (a :: o') := by
    simp only [Rep]
    exact ⟨a, ws', o', rfl, upd_same, hr _ k1, rfl⟩
  have rel2 := (rel'.kp k2).put (by rw [List.getElem?_set_self hi]) e1 rr
  rw [List.set_set] at rel2
  exact ⟨(x.permL pq2.symm).perm pq2.symm, k.perm pq2.symm, rel2.perm pq.symm, k3⟩
theorem repL_snoc {ws : List V} {y : Val} {w : V} (h : RepL Γ H P xs ws o) (r : Rep Γ H P y w []) : RepL Γ H P (xs ++ [y]) (ws ++ [w]) o := by
  have := h.append (repL_one r (xs := []) (ws := []) (by simp [RepL]))
  simpa using this
theorem ss_app {x : Str} {a : Expr} {c : C} {p ap cp pos : Pos} (hN : X.N[i]? = some x) (hv : Vis X.env.scope x) (ha : SE Γ X a c) (hd : (x == ("__debug__" : Str)) = false := by decide) (hcd : (x == ("__classdict__" : Str)) = false := by decide)
    (hbase : attributeBase (.Name x p) "append" X.env (eval (.Name x p) X.env) = eval (.Name x p) X.env := by rfl)
    (hfew : ((backTo cp (starEach [a] X.env)).all (fun x => !x.1) && (backToKw cp (keywordEach [] X.env)).all (fun x => x.1.isSome)
      && decide ([a].length + ([] : List Keyword).length + (if ([] : List Keyword).isEmpty then 0 else 1) < 30)) = true := by rfl)
    (hline : (ap.endLine == cp.line) = true := by rfl) (hs : starEach [a] X.env = (false, eval a X.env) :: starEach [] X.env := by rfl)
    (hsw : swapsWith (.Call (.Attribute (.Name x p) "append" ap) [a] [] cp) none pos.line X.env = pure false := by rfl) :
    SS Γ pins X (.Expr (.Call (.Attribute (.Name x p) "append" ap) [a] [] cp) pos) (sApp i c) := fun fx W tk =>
  ps_imp (ps_expr (pe_bm PySem.F.plainAttrs_list PySem.F.slot_list_append PySem.F.type_list_append mt_append (pe_var hN hv hd hcd) (pa_cons (ha W tk) pa_nil hs) hbase hfew hline hs) hsw) fun D σ H ⟨P, ow, e, ok, rel, acc⟩ => by
    unfold sApp at acc
    cases q : oL e i with
    | none => simp [q, AccS] at acc
    | some xs0 =>
      simp only [q] at acc
      obtain ⟨a0, ws0, o0, e1, h1, _⟩ := oL_at rel q
      refine ⟨.ref a0, e1, .inl ⟨rfl, _, .of h1⟩, ?_⟩
      refine useS ok rel acc fun u e1' v H1 P1 o1 ow1 k r l acc1 => ?_
      cases q1 : u.takeF e1' with
      | none => simp [q1, AccS] at acc1
      | some pr =>
        obtain ⟨y, e2⟩ := pr
        simp only [q1] at acc1
        cases q2 : oL e2 i with
        | none => simp [q2, AccS] at acc1
        | some xs =>
          simp only [q2] at acc1
          split at acc1
          · rename_i hz
            obtain ⟨P2, ow2, x2, k2, r2, l2, kp2⟩ := OV.takeF_rep (f := []) (by simpa using k) l r q1
            obtain ⟨a1, ws, o2, f1, f2, f3, fin⟩ := mut_slot (f := []) k2 l2 q2
            rw [e1] at f1; cases f1
            have hl : (ws ++ [v]).length ≤ sizeLine := by
              rw [List.length_append, List.length_singleton, ← f3.length]
              exact most_line (of_decide_eq_true hz)
            obtain ⟨x3, k3, l3, _⟩ := fin (ws ++ [v]) (xs ++ [y]) hl fun H' kp' => repL_snoc (f3.kp kp') (r2.kp (kp'.sub fun a z => by cases z))
            exact ⟨a0, ws, v, rfl, rfl, f2, by rw [List.length_append, List.length_singleton] at hl; exact hl, acc1 σ _ P2 ow2 (x2.trans x3) k3 l3 .refl⟩
          · exact acc1.elim
end
end VI
set_option Elab.async false
set_option linter.all false
set_option maxRecDepth 100000
/-! VI14: pops, x[a] = b, x[a] op= b. -/
namespace VI
open PySem PySem.Spec PyProof.Rows L2
def addIV : Val → Val → Option Val
  | .int a, .int b => some (.int (a + b))
  | _, _ => none
def mulIV : Val → Val → Option Val
  | .int a, .int b => if VI.small64 a || VI.small64 b then some (.int (a * b)) else none
  | _, _ => none
section
variable {Γ : Ctx} {X : Cx} {W : WX} {σ : L2.St} {H : Hp} {P : Addr → Prop} {ow o : List Addr} {K : PySem.W.Frag} {e : En} {i : Nat} {xs : List Val} {pins : List Nat}
/-! ### RepL: one item taken out, one set anew -/
theorem repL_erase : ∀ {xs : List Val} {ws : List V} {o : List Addr} {j : Nat} {y : Val}, RepL Γ H P xs ws o → xs[j]? = some y → isFz y = true → ∃ w, ws[j]? = some w ∧ Rep Γ H P y w [] ∧ ∀ (H' : Hp) (P' : Addr → Prop), Kp H P o H' P' → RepL Γ H' P' (xs.eraseIdx j) (ws.eraseIdx j) o
  | [], _, _, _, _, h, e, _ => by simp at e
  | x :: xs, _, _, 0, y, h, e, f => by
    simp only [RepL] at h
    obtain ⟨w, ws', o1, o2, rfl, h1, h2, rfl⟩ := h
    simp at e
    subst e
    have := h1.nil f
    subst this
    exact ⟨w, rfl, h1, fun H' P' k => by simpa using h2.kp (k.sub fun a z => by simpa using z)⟩
  | x :: xs, _, _, j + 1, y, h, e, f => by
    simp only [RepL] at h
    obtain ⟨w, ws', o1, o2, rfl, h1, h2, rfl⟩ := h
    obtain ⟨w', e1, r, k⟩ := repL_erase h2 (by simpa using e) f
    refine ⟨w', by simpa using e1, r, fun H' P' kp => ?_⟩
    show RepL Γ H' P' (x :: xs.eraseIdx j) (w :: ws'.eraseIdx j) _
    simp only [RepL]
    exact ⟨w, _, o1, o2, rfl, h1.kp (kp.sub fun a z => List.mem_append_left _ z), k H' P' (kp.sub fun a z => List.mem_append_right _ z), rfl⟩
theorem repL_set : ∀ {xs : List Val} {ws : List V} {o : List Addr} {j : Nat} {y z : Val} {u : V}, RepL Γ H P xs ws o → xs[j]? = some y → isFz y = true → Rep Γ H P z u [] → ∀ (H' : Hp) (P' : Addr → Prop), Kp H P o H' P' → RepL Γ H' P' (xs.set j z) (ws.set j u) o
  | [], _, _, _, _, _, _, h, e, _, _ => by simp at e
  | x :: xs, _, _, 0, y, z, u, h, e, f, r => fun H' P' k => by
    simp only [RepL] at h
    obtain ⟨w, ws', o1, o2, rfl, h1, h2, rfl⟩ := h
    simp at e
    subst e
    have := h1.nil f
    subst this
    show RepL Γ H' P' (z :: xs) (u :: ws') _
    simp only [RepL]
    exact ⟨u, ws', [], o2, rfl, r.kp (k.sub fun a q => by cases q), h2.kp (k.sub fun a q => by simpa using q), rfl⟩
  | x :: xs, _, _, j + 1, y, z, u, h, e, f, r => fun H' P' k => by
    simp only [RepL] at h
    obtain ⟨w, ws', o1, o2, rfl, h1, h2, rfl⟩ := h
    show RepL Γ H' P' (x :: xs.set j z) (w :: ws'.set j u) _
    simp only [RepL]
    exact ⟨w, _, o1, o2, rfl, h1.kp (k.sub fun a z => List.mem_append_left _ z), repL_set h2 (by simpa using e) f r H' P' (k.sub fun a z => List.mem_append_right _ z), rfl⟩
theorem se_popAt {x : Str} {a : Expr} {c : C} {p ap cp : Pos} (hN : X.N[i]? = some x) (hv : Vis X.env.scope x) (ha : SE Γ X a c) (hd : (x == ("__debug__" : Str)) = false := by decide) (hcd : (x == ("__classdict__" : Str)) = false := by decide)
    (hbase : attributeBase (.Name x p) "pop" X.env (eval (.Name x p) X.env) = eval (.Name x p) X.env := by rfl)
    (hfew : ((backTo cp (starEach [a] X.env)).all (fun x => !x.1) && (backToKw cp (keywordEach [] X.env)).all (fun x => x.1.isSome)
      && decide ([a].length + ([] : List Keyword).length + (if ([] : List Keyword).isEmpty then 0 else 1) < 30)) = true := by rfl)
    (hline : (ap.endLine == cp.line) = true := by rfl) (hs : starEach [a] X.env = (false, eval a X.env) :: starEach [] X.env := by rfl) :
    SE Γ X (.Call (.Attribute (.Name x p) "pop" ap) [a] [] cp) (cPopAt i c) := fun W tk =>
  pe_imp (pe_bm PySem.F.plainAttrs_list PySem.F.slot_list_pop PySem.F.type_list_pop mt_popAt (pe_var hN hv hd hcd) (pa_cons (ha W tk) pa_nil hs) hbase hfew hline hs) fun σ H Q ⟨P, ow, e, ok, rel, acc⟩ => by
    unfold cPopAt at acc
    cases q : oL e i with
    | none => simp [q, Acc] at acc
    | some xs0 =>
      simp only [q] at acc
      obtain ⟨a0, ws0, o0, e1, h1, _⟩ := oL_at rel q
      refine ⟨.ref a0, e1, .inl ⟨rfl, _, .of h1⟩, ?_⟩
      refine tS.use (f := []) ok rel acc fun u e1' v H1 P1 o1 ow1 kp1 k r l acc1 => ?_
      cases q1 : u.get e1' with
      | none => simp [q1, Acc] at acc1
      | some yv =>
        cases yv <;> simp only [q1] at acc1 <;> first | exact acc1.elim | skip
        rename_i n
        cases q2 : oL e1' i with
        | none => simp [q2, Acc] at acc1
        | some xs =>
          simp only [q2] at acc1
          split at acc1
          · rename_i j y hj
            split at acc1
            · rename_i hf
              obtain ⟨j', f1, f2⟩ := Option.bind_eq_some_iff.mp hj
              obtain ⟨y', f3, f4⟩ := Option.map_eq_some_iff.mp f2
              cases f4
              obtain ⟨o2, r2⟩ := OV.get_rep l r q1
              simp only [Rep] at r2
              obtain ⟨a1, ws, o2, g1, g2, g3, fin⟩ := mut_slot (f := o1) k l q2
              rw [e1] at g1; cases g1
              obtain ⟨w, w1, w2, w3⟩ := repL_erase g3 f3 hf
              have hz : ws.length ≤ sizeLine := k.z a0 ws (.inl (.inl g2))
              have hl : (ws.eraseIdx j).length ≤ sizeLine := Nat.le_trans (by rw [List.length_eraseIdx]; split <;> omega) hz
              obtain ⟨x3, k3, l3, kf⟩ := fin (ws.eraseIdx j) (xs.eraseIdx j) hl fun H' kp' => w3 H' P1 kp'
              have hx := f1
              rw [place_ix, g3.length] at hx
              obtain ⟨s1, s2, s3, s4⟩ := ixN_seq hx
              have hsz := sizeLine_eq
              refine ⟨a0, ws, n, j, w, rfl, by rw [r2.1], g2, by omega, by omega, s1, w1, ?_⟩
              have w2' : Rep Γ (upd H1 a0 (.lst (ws.eraseIdx j))) P1 y w [] := w2.kp (kf.sub fun b z => by cases z)
              exact acc1 w _ P1 [] ow1 (x3.sub fun a z => List.mem_append_right _ z) k3.right w2' l3
            · exact acc1.elim
          · exact acc1.elim
end
end VI
set_option Elab.async false
set_option linter.all false
set_option maxRecDepth 100000
/-! VI15: x.pop(), x[a] = b, x[a] op= b. -/
namespace VI
open PySem PySem.Spec PyProof.Rows L2
section
variable {Γ : Ctx} {X : Cx} {W : WX} {σ : L2.St} {H : Hp} {P : Addr → Prop} {ow o : List Addr} {K : PySem.W.Frag} {e : En} {i : Nat} {xs : List Val} {pins : List Nat}
/-- as useS; what is frozen is kept -/
theorem useS0 {α β : Type} {R : Hp → (Addr → Prop) → L2.St → α → β → List Addr → Prop} {D : Ends} {Q : β → Hp → Prop} {c : En → Res α} {k : α → En → SRes}
    (ok : Ok Γ H P ow) (rel : RelE Γ H P e σ ow) (h : AccS Γ W pins D σ H P ow ((c e).toS k))
    (h1 : ∀ a e' b H1 P1 o1 ow1, Kp H P [] H1 P1 → Ok Γ H1 P1 (o1 ++ ow1) → R H1 P1 σ a b o1 → RelE Γ H1 P1 e' σ ow1 → AccS Γ W pins D σ H1 P1 (o1 ++ ow1) (k a e') → Q b H1) : tS Γ R W c σ H Q := by
  refine ⟨P, ow, e, ok, rel, ?_⟩
  cases hc : c e with
  | ok a e' =>
    rw [hc] at h
    intro b H' P' o ow' y k' q l
    exact h1 a e' b H' P' o ow' (y.kp0 ok) k' q l (AccS.rebase h y .refl)
  | exc x e' =>
    rw [hc] at h
    exact fun H' P' ow' cls d y k' l q => h σ H' P' ow' cls d y k' l .refl q
  | bad => rw [hc] at h; exact h
theorem ss_setI {x : Str} {a b : Expr} {ca cb : C} {p tp pos : Pos} (hN : X.N[i]? = some x) (hv : Vis X.env.scope x) (ha : SE Γ X a ca) (hb : SE Γ X b cb) (hd : (x == ("__debug__" : Str)) = false := by decide) (hcd : (x == ("__classdict__" : Str)) = false := by decide)
    (hs : swapsWithSole [.Subscript (.Name x p) a tp] b pos.line X.env = pure false := by rfl) (hw : swappedStores [.Subscript (.Name x p) a tp] b X.env = pure none := by rfl)
    (h1 : (assignEach [.Subscript (.Name x p) a tp] X.env).map (·.2) = [assign (.Subscript (.Name x p) a tp) X.env] := by rfl)
    (hg : ∀ v, assign (.Subscript (.Name x p) a tp) X.env v = (do
      let ov ← holding [v] (eval (.Name x p) X.env)
      let iv ← holding [v, ov] (eval a X.env)
      standAt tp
      holding [v, ov, iv] (setItem ov iv v)
      release [v, ov, iv] []) := by intro _; rfl) : SS Γ pins X (.Assign [.Subscript (.Name x p) a tp] b pos) (sSetI i ca cb) := fun fx W tk =>
  ps_imp (ps_asg (hb W tk) (pg_sub (pe_var hN hv hd hcd) (ha W tk) set_list hg) hs hw h1) fun D σ H ⟨P, ow, e, ok, rel, acc⟩ => by
    unfold sSetI at acc
    refine useS ok rel acc fun u e1 v H1 P1 o1 ow1 k r l acc1 => ?_
    cases q1 : u.takeF e1 with
    | none => simp [q1, AccS] at acc1
    | some pr =>
      obtain ⟨y, e2⟩ := pr
      simp only [q1] at acc1
      cases q2 : oL e2 i with
      | none => simp [q2, AccS] at acc1
      | some xs0 =>
        simp only [q2] at acc1
        obtain ⟨P2, ow2, x2, k2, r2, l2, kp2⟩ := OV.takeF_rep (f := []) (by simpa using k) l r q1
        obtain ⟨a0, ws0, o0, f1, _, _⟩ := oL_at l2 q2
        refine ⟨.ref a0, f1, ?_⟩
        have acc2 := acc1.rebase x2 (Pin.refl (σ := σ))
        refine useS0 (by simpa using k2) l2 (by simpa using acc2) fun w e3 vi H3 P3 o3 ow3 kp3 k3 r3 l3 acc3 => ?_
        cases q3 : w.get e3 with
        | none => simp [q3, AccS] at acc3
        | some kv =>
          cases kv <;> simp only [q3] at acc3 <;> first | exact acc3.elim | skip
          rename_i n
          obtain ⟨o4, r4⟩ := OV.get_rep l3 r3 q3
          simp only [Rep] at r4
          cases q4 : oL e3 i with
          | none => simp [q4, AccS] at acc3
          | some xs =>
            simp only [q4] at acc3
            cases q5 : place xs.length n with
            | none => simp [q5, AccS] at acc3
            | some j =>
              simp only [q5] at acc3
              cases q6 : xs[j]? with
              | none => simp [q6, AccS] at acc3
              | some z =>
                simp only [q6] at acc3
                split at acc3
                · rename_i hf
                  obtain ⟨a1, ws, o2, g1, g2, g3, fin⟩ := mut_slot (f := o3) k3 l3 q4
                  rw [f1] at g1; cases g1
                  have r5 := r2.kp kp3
                  have hz : ws.length ≤ sizeLine := k3.z a0 ws (.inl (.inl g2))
                  obtain ⟨x4, k4, l4, _⟩ := fin (ws.set j v) (xs.set j y) (by rw [List.length_set]; exact hz) (fun H' kp' => repL_set g3 q6 hf r5 H' P3 kp')
                  refine ⟨a0, ws, n, j, rfl, r4.1, g2, by rw [← place_ix, ← g3.length]; exact q5, ?_⟩
                  exact acc3 σ _ P3 ow3 (x4.sub fun a z => List.mem_append_right _ z) k4.right l4 .refl
                · exact acc3.elim
/-! ### x[a] op= b -/
end
end VI
set_option Elab.async false
set_option linter.all false
set_option maxRecDepth 100000
/-! VI16: a def keeps the promise of its pure run. -/
namespace VI
open PySem PySem.Spec PyProof.Rows L2
section
variable {Γ : Ctx} {X : Cx} {W : WX} {σ σ' : L2.St} {H : Hp} {P : Addr → Prop} {ow o : List Addr} {e : En} {i : Nat} {xs : List Val} {vs : List V}
theorem repE_args : ∀ {xs : List Val} {vs : List V} {o : List Addr} (m : Nat), RepL Γ H P xs vs o → RepE Γ H P (xs.map some ++ List.replicate m none) (vs.map some ++ List.replicate m none) o
  | [], vs, o, m, h => by
    simp only [RepL] at h
    obtain ⟨rfl, rfl⟩ := h
    simp only [List.map_nil, List.nil_append]
    induction m with
    | zero => exact ⟨rfl, rfl⟩
    | succ m ih => exact ⟨none, _, rfl, ih⟩
  | x :: xs, vs, o, m, h => by
    simp only [RepL] at h
    obtain ⟨w, ws', o1, o2, rfl, h1, h2, rfl⟩ := h
    exact ⟨w, _, o1, o2, rfl, h1, repE_args m h2, rfl⟩
theorem rel_start {fd : FDef} {N : List Str} (hz : Γ.fix = []) (hn : fd.n = N.length) (r : RepL Γ H P xs vs o) : RelE Γ H P (startE fd xs) (L2.start N vs) o := by
  refine ⟨o, ?_, .refl _, fun p hp => by rw [hz] at hp; cases hp⟩
  unfold startE L2.start
  rw [hn, r.length]
  exact repE_args _ r
/-- what was lent is given back -/
theorem outs_rep : ∀ {refs : List Nat} {e : En} {ow : List Addr} {outs : List (Nat × Val)}, ow.Nodup → RelE Γ H P e σ' ow → (∀ i ∈ refs, ∃ v, vs[i]? = some v ∧ σ'[i]? = some (some v)) → outsOf refs e = some outs → ∃ o', RepOut Γ H P vs outs o' ∧ o'.Nodup ∧ ∀ a ∈ o', a ∈ ow
  | [], e, ow, outs, nd, rel, hr, h => by
    simp only [outsOf, Option.some.injEq] at h
    subst h
    exact ⟨[], rfl, List.nodup_nil, fun a z => by cases z⟩
  | i :: r, e, ow, outs, nd, rel, hr, h => by
    simp only [outsOf] at h
    obtain ⟨x, h1, h2⟩ := Option.bind_eq_some_iff.mp h
    obtain ⟨outs', h3, rfl⟩ := Option.map_eq_some_iff.mp h2
    obtain ⟨v, o1, ow', e1, r1, rel', pq⟩ := rel.take (slot_some.mp h1)
    have nd' := pq.nodup_iff.mp nd
    have n := List.nodup_append.mp nd'
    obtain ⟨o2, q1, q2, q3⟩ := outs_rep n.2.1 rel' (fun j hj => hr j (List.mem_cons_of_mem _ hj)) h3
    obtain ⟨v', g1, g2⟩ := hr i List.mem_cons_self
    rw [e1] at g2; cases g2
    refine ⟨o1 ++ o2, ⟨v, o1, o2, g1, r1, q1, rfl⟩, List.nodup_append.mpr ⟨n.1, q2, fun a z b w => n.2.2 a z b (q3 b w)⟩, fun a z => pq.symm.subset ?_⟩
    rcases List.mem_append.mp z with z | z
    · exact List.mem_append_left _ z
    · exact List.mem_append_right _ (q3 a z)
theorem start_get {N : List Str} {j : Nat} (h : j < vs.length) : (L2.start N vs)[j]? = some (some vs[j]) := by
  unfold L2.start
  rw [List.getElem?_append_left (by rw [List.length_map]; exact h), List.getElem?_map, List.getElem?_eq_getElem h]
  rfl
theorem run_acc {call : Call} {fd : FDef} {N : List Str} {Q : VK} {E : XK} (hz : Γ.fix = []) (hn : fd.n = N.length) (hrefs : ∀ i ∈ fd.refs, i < fd.np) (ok : Ok Γ H P ow) (r : RepL Γ H P xs vs ow) (acc : AccF Γ vs H P ow Q E (runDef fd call xs)) :
    tT Γ (fun cls d _ H' => E cls d H') fd.refs (fd.body call) { nx := fun _ H' => Q .non H', rt := Q } (L2.start N vs) H := by
  refine ⟨P, ow, startE fd xs, ok, rel_start hz hn r, ?_⟩
  unfold runDef at acc
  split at acc
  · rename_i hl
    have hp : ∀ (σ' : L2.St), Pin fd.refs (L2.start N vs) σ' → ∀ i ∈ fd.refs, ∃ v, vs[i]? = some v ∧ σ'[i]? = some (some v) := fun σ' p i hi => by
      have hi' : i < vs.length := by rw [← r.length, hl]; exact hrefs i hi
      exact ⟨vs[i], List.getElem?_eq_getElem hi', by rw [p i hi, start_get hi']⟩
    cases hb : fd.body call (startE fd xs) with
    | nx e =>
      simp only [hb] at acc
      intro σ' H' P' ow' x k l p
      cases ho : outsOf fd.refs e with
      | none => simp [ho, AccF] at acc
      | some outs =>
        simp only [ho] at acc
        obtain ⟨o', q1, q2, q3⟩ := outs_rep k.n l (hp σ' p) ho
        exact acc .non H' P' [] o' (x.sub q3) (k.sub q3 q2) rep_non q1
    | rt z e =>
      simp only [hb] at acc
      intro v σ' H' P' o1 ow' x k rz l p
      cases ho : outsOf fd.refs e with
      | none => simp [ho, AccF] at acc
      | some outs =>
        simp only [ho] at acc
        have n := List.nodup_append.mp k.n
        obtain ⟨o', q1, q2, q3⟩ := outs_rep n.2.1 l (hp σ' p) ho
        have hs : ∀ a ∈ o1 ++ o', a ∈ o1 ++ ow' := fun a z => by
          rcases List.mem_append.mp z with z | z
          · exact List.mem_append_left _ z
          · exact List.mem_append_right _ (q3 a z)
        exact acc v H' P' o1 o' (x.sub hs) (k.sub hs (List.nodup_append.mpr ⟨n.1, q2, fun a z b w => n.2.2 a z b (q3 b w)⟩)) rz q1
    | exc z e =>
      simp only [hb] at acc
      intro σ' H' P' ow' cls d x k l p rx
      cases ho : outsOf fd.refs e with
      | none => simp [ho, AccF] at acc
      | some outs =>
        simp only [ho] at acc
        obtain ⟨o', q1, q2, q3⟩ := outs_rep k.n l (hp σ' p) ho
        exact acc H' P' o' cls d (x.sub q3) (k.sub q3 q2) q1 rx
    | bk e => simp [hb, AccF] at acc
    | ct e => simp [hb, AccF] at acc
    | bad => simp [hb, AccF] at acc
  · exact acc.elim
end
section
variable {Γ : Ctx} {P : Program} {w : World} {K : PySem.W.Frag} {mg : Str → Option Value} {base : Heap}
/-- no depth: no promise -/
theorem def_ok0 {f : Addr} {fd : FuncData} {ps : List Str} {k n : Nat} {Pr : Nat → Option FDef} : FnOk P w K mg base (L2.CX P w) k f fd ps (spF Γ (callN Pr 0) n) where
  len := fun vs H Q E h => by
    obtain ⟨P', ow, xs, ok, r, acc⟩ := h
    exact acc.elim
  run := fun A outer s H args us vs Q E hr e0 hb r h => by
    obtain ⟨P', ow, xs, ok, r, acc⟩ := h
    exact acc.elim
end
end VI
set_option Elab.async false
set_option linter.all false
set_option maxRecDepth 100000
/-! VI17: attributes, instances, len and == of one's own. -/
namespace VI
open PySem PySem.Spec PyProof.Rows L2
/-! ### e.f -/
/-- of the classes cs -/
def fldV (cs : List Nat) (f : Str) : Val → Option Val
  | .ins _ c fs xs => if cs.contains c then ((fs.zip xs).lookup f).bind fun y => if isFz y then some y else none else none
  | _ => none
def FldOk (Γ : Ctx) (cs : List Nat) (f : Str) : Prop := ∀ c ∈ cs, Cls Γ.K (Γ.cls c) ∧ NoAttr Γ.K (Γ.cls c) f
section
variable {Γ : Ctx} {X : Cx} {W : WX} {σ : L2.St} {H : Hp} {P : Addr → Prop} {ow o : List Addr} {K : PySem.W.Frag} {e : En} {i : Nat} {pins : List Nat}
/-! ### self.f = e -/
def oI (e : En) (i : Nat) : Option (Nat × List Str × List Val) := match slot e i with
  | some (.ins true c fs xs) => some (c, fs, xs)
  | _ => none
/-- a new attribute, or one set anew -/
def putV (f : Str) (y : Val) : List Str → List Val → Option (List Str × List Val)
  | [], [] => some ([f], [y])
  | g :: fs, x :: xs => if g = f then (if isFz x then some (g :: fs, y :: xs) else none) else (putV f y fs xs).map fun p => (g :: p.1, x :: p.2)
  | _, _ => none
def sFldSet (cs : List Nat) (i : Nat) (f : Str) (c : C) : S := fun e => (c e).toS fun u e1 => match u.takeF e1 with
  | some (y, e2) => match oI e2 i with
    | some (k, fs, xs) => if cs.contains k && decide (fs.length < 1000) then match putV f y fs xs with
      | some (fs', xs') => .nx (e2.set i (some (.ins true k fs' xs')))
      | none => .bad else .bad
    | none => .bad
  | none => .bad
/-! ### an instance is made -/
def cMake (call : Call) (f c : Nat) (as : List C) : C := fun e => (cs as e).bind fun us e1 => match takes us e1 with
  | some (xs, e2) => match call f (.ins true c [] [] :: xs) with
    | .ok r outs => match r with
      | .non => match outs.lookup 0 with
        | some y => .ok (.val y) e2
        | none => .bad
      | _ => .bad
    | .exc x _ => .exc x e2
    | .bad => .bad
  | none => .bad
def tMakeS (C : Addr) (sp : Sp) (E : L2.St → XK) (t : TA) : TE := fun σ H Q => t σ H fun vs H1 => ∀ x dx, H1 x = none → H1 dx = none → dx ≠ x →
  sp (.ref x :: vs) (upd (upd H1 dx (.own x)) x (.ins C dx [])) (fun v H2 => v = .non ∧ Q (.ref x) H2) (E σ)
end
end VI
set_option Elab.async false
set_option linter.all false
set_option maxRecDepth 100000
/-! VI18: calls that only read; len and == of one's own; raise, try. -/
namespace VI
open PySem PySem.Spec PyProof.Rows L2
section
variable {Γ : Ctx} {X : Cx} {W : WX} {σ : L2.St} {H : Hp} {P : Addr → Prop} {ow o : List Addr} {K : PySem.W.Frag} {e : En} {i : Nat} {pins : List Nat}
/-! ### len of one's own -/
structure LenOk (X : Cx) (Γ : Ctx) (call : Call) (n c : Nat) (k : Nat) : Prop where
  ex : ∃ (f : Addr) (fd : FuncData) (ps : List Str), FnOk X.prog X.w X.K X.mg X.base (L2.CX X.prog X.w) k f fd ps (spF Γ call n) ∧ Binds X.K fd ps [] ∧ PySem.W.findIn X.K (.ref (Γ.cls c)) "__len__" = some (some (.ref f)) ∧ PySem.W.isFn X.K (.ref f) = true
def lenG (call : Call) (n c : Nat) (as : List Val) : Option Val := match as with
  | [.ins b c' fs xs] => if c' = c then match call n [fz (.ins b c' fs xs)] with
    | .ok (.int m) [] => if decide (0 ≤ m ∧ m < big) then some (.int m) else none
    | _ => none else none
  | _ => lenV as
def rLenG (X : Cx) (C : Addr) (sp : Sp) : List V → Hp → VK → Prop := fun vs H Q => rLenV X.K vs H Q ∨ ∃ a dx fs, vs = [.ref a] ∧ H a = some (.ins C dx fs) ∧ sp [.ref a] H (fun v H' => ∃ m, v = .int m ∧ 0 ≤ m ∧ m < 2 ^ 63 ∧ Q (.int m) H') C8.E0
/-! ### == of one's own -/
def eqG (call : Call) (n c : Nat) (x y : Val) : Option Val := match x, y with
  | .ins b1 c1 f1 x1, .ins b2 c2 f2 x2 => if c1 = c ∧ c2 = c then match call n [fz (.ins b1 c1 f1 x1), fz (.ins b2 c2 f2 x2)] with
    | .ok (.bl r) [] => some (.bl r)
    | _ => none else none
  | x, y => eqD x y
/-! ### raise X() -/
def sRaise0 (c : Nat) : S := fun e => .exc ⟨c, [], []⟩ e
theorem pmk_own0 {C : Addr} {bmB : List Value} {B newId initId : String} {x : Str} {p pos : Pos} (F : ExcBaseFacts B newId initId bmB) (q : PySem.W.excIn X.K C bmB newId = true) (gC : X.mg x = some (.ref C)) (kC : PySem.W.keepIn X.K (.ref C) = true) (r : Raises X (.ref C)) (hg : Gl X x)
    (hdb : (x == ("__debug__" : Str)) = false := by decide) : PMk X (.Call (.Name x p) [] [] pos) (fun _ H Q => Q (.ref C) none H) := by
  intro pins s σ H Q I h
  refine wpAny_Call_Name_kw (ld_glob I hg gC ?_ hdb)
  refine PySem.W.callWith_K0 I.kIn kC ?_
  show wpAny _ _ (call (.ref C) []) _ _ _
  obtain ⟨bm, N, nm, qn, bs, hdct, sn, sub, ab, col, dd, k0, k1, k2, k3, k5, mN, hC, hN, hni, T⟩ := exc_obj I.kIn q
  refine wpAny_call_exc_subT F T hC hN hni (fun h' e hm => ?_) (by show 0 ≤ sizeLine; omega)
  exact mk_of I hm r h (I.hok.gone hm.new)
/-- an own error class without __init__, below ValueError -/
structure Exc0 (K : PySem.W.Frag) (C : Addr) : Prop where
  ex : ∃ (bmB : List Value) (B newId initId : String), ExcBaseFacts B newId initId bmB ∧ PySem.W.excIn K C bmB newId = true
  kC : PySem.W.keepIn K (.ref C) = true
  exC : PySem.W.subIn K (.ref C) (.type "BaseException") = some true
  tyC : PySem.W.typeIn K (.ref C) = some (.type "type")
theorem ss_raise0 {c : Nat} {x : Str} {p pos pos' : Pos} (hc : X.calm = true) (E : Exc0 X.K (Γ.cls c)) (hg : Gl X x) (hm : X.mg x = some (.ref (Γ.cls c))) (hdb : (x == ("__debug__" : Str)) = false := by decide) : SS Γ pins X (.Raise (some (.Call (.Name x p) [] [] pos)) none pos') (sRaise0 c) := fun fx W tk => by
  obtain ⟨bmB, B, newId, initId, F, q⟩ := E.ex
  exact ps_imp (ps_raise hc tk (pmk_own0 F q hm E.kC (raises_own E.exC E.tyC) hg hdb)) fun D σ H ⟨P, ow, e, ok, rel, acc⟩ => acc σ H P ow (.ref (Γ.cls c)) none .refl ok rel .refl ⟨rfl, .inl ⟨rfl, rfl⟩⟩
/-! ### try -/
/-- the clauses: which errors, by their class's number (none: not known), and the suite -/
abbrev Hds := List ((Nat → Option Bool) × S)
def noExc : SRes → SRes
  | .exc _ _ => .bad
  | r => r
def hdRun (x : Exc) : Hds → En → SRes
  | [], e => .exc x e
  | (t, s) :: r, e => match t x.c with
    | some true => noExc (s e)
    | some false => hdRun x r e
    | none => .bad
def sTry (body : S) (hs : Hds) : S := fun e => match body e with
  | .exc x e1 => hdRun x hs e1
  | r => r
inductive HdOk (Γ : Ctx) (pins : List Nat) (X : Cx) : List ExceptHandler → Hds → List (Value × (Addr → Value → Option Addr → TS)) → Prop
  | nil : HdOk Γ pins X [] [] []
  | cons {x : Str} {c : Value} {t : Nat → Option Bool} {s : S} {b₀ : Stmt} {suite : List Stmt} {np pos' : Pos} {hds : List ExceptHandler} {l : Hds} {ll : List (Value × (Addr → Value → Option Addr → TS))} (hc : Names X x c) (ht : ∀ k b, t k = some b → PySem.W.exmOne X.K (.ref (Γ.cls k)) c = some b)
      (hsu : ∀ (a : Addr) (oe : Obj) (pn : List (Addr × Obj)), SSs Γ pins (X.suite a ((a, oe) :: pn)) (b₀ :: suite) s) (r : HdOk Γ pins X hds l ll) :
      HdOk Γ pins X (.ExceptHandler (some (.Name x np)) none (b₀ :: suite) pos' :: hds) ((t, s) :: l) ((c, fun _ _ _ => tT Γ (fun _ _ _ _ => False) pins s) :: ll)
theorem HdOk.hds (fx : FixIn Γ pins) : ∀ {hs : List ExceptHandler} {l : Hds} {ll : List (Value × (Addr → Value → Option Addr → TS))}, HdOk Γ pins X hs l ll → HdsOk X hs ll
  | _, _, _, .nil => .nil
  | _, _, _, .cons hc ht hsu r => .cons hc (fun a oe cls d pn _ _ => hsu a oe pn fx _ LamX.takes0) (HdOk.hds fx r)
theorem noExc_acc {D : Ends} {r : SRes} (h : AccS Γ W pins D σ H P ow (noExc r)) : AccS Γ (fun _ _ _ _ => False) pins D σ H P ow r := by
  cases r <;> first | exact h | exact (show False from h).elim
theorem HdOk.acc {D : Ends} {x : Exc} {σ' : L2.St} {H' : Hp} {P' : Addr → Prop} {ow' : List Addr} {cls : Value} {d : Option Addr} {e1 : En} (k : Ok Γ H' P' ow') (rel : RelE Γ H' P' e1 σ' ow') (rx : RepX Γ H' P' x cls d) :
    ∀ {hs : List ExceptHandler} {l : Hds} {ll : List (Value × (Addr → Value → Option Addr → TS))}, HdOk Γ pins X hs l ll → AccS Γ W pins D σ' H' P' ow' (hdRun x l e1) → wMany X.K W D ll cls d σ' H'
  | _, _, _, .nil, acc => acc σ' H' P' ow' cls d .refl k rel .refl rx
  | _, _, _, .cons (t := t) (s := s) hc ht hsu r, acc => by
    simp only [hdRun] at acc
    cases q : t x.c with
    | none => simp [q, AccS] at acc
    | some b =>
      refine ⟨b, by rw [rx.1]; exact ht _ _ q, fun hb a _ => ?_, fun hb => ?_⟩
      · subst hb
        simp only [q] at acc
        exact ⟨P', ow', e1, k, rel, noExc_acc acc⟩
      · subst hb
        simp only [q] at acc
        exact HdOk.acc k rel rx r acc
end
end VI
set_option Elab.async false
set_option linter.all false
set_option maxRecDepth 100000
set_option maxHeartbeats 2000000
/-! VI19: f(lambda: e), f a def that calls what it got: one run over the names of both. -/
namespace VI
open PySem PySem.Spec PyProof.Rows L2 LamX
/-! ### the pure run: the def's slots ahead, the caller's behind -/
def cAct (n0 : Nat) (c : C) : C := fun e => match c (e.drop n0) with
  | .ok u e1 => match u.take e1 with
    | some (x, e2) => .ok (.val x) (e.take n0 ++ e2)
    | none => .bad
  | .exc x e1 => .exc x (e.take n0 ++ e1)
  | .bad => .bad
structure HDef where
  n : Nat
  body : List Nat → C → S
def pinsOf (n0 m : Nat) : List Nat := 0 :: (List.range (m + 1)).map (n0 + ·)
def cLam (h : HDef) (c : C) : C := fun e => match h.body (pinsOf h.n e.length) (cAct h.n c) (List.replicate h.n none ++ e) with
  | .rt x e' => .ok (.val x) (e'.drop h.n)
  | .nx e' => .ok (.val .non) (e'.drop h.n)
  | _ => .bad

/-! ### another record of what is fixed -/
def Ctx.withFix (Γ : Ctx) (l : List (Nat × Option (Option V))) (cd : List (Addr × Str)) : Ctx := { Γ with fix := l, cod := cd ++ Γ.cod }
section
variable {Γ : Ctx} {l : List (Nat × Option (Option V))} {cd : List (Addr × Str)} {H : Hp} {P : Addr → Prop}
mutual
theorem rep_fix : ∀ {x : Val} {v : V} {o : List Addr}, Rep (Γ.withFix l cd) H P x v o ↔ Rep Γ H P x v o
  | .non, _, _ => by simp only [Rep]
  | .bl _, _, _ => by simp only [Rep]
  | .int _, _, _ => by simp only [Rep]
  | .str _, _, _ => by simp only [Rep]
  | .fn _, _, _ => by simp only [Rep]; exact Iff.rfl
  | .ty _, _, _ => by simp only [Rep]
  | .tup xs, _, _ => by simp only [Rep, repL_fix]
  | .lst true xs, _, _ => by simp only [Rep, repL_fix]
  | .lst false xs, _, _ => by simp only [Rep, repL_fix]; exact Iff.rfl
  | .dic true ks xs, _, _ => by simp only [Rep, repL_fix]
  | .dic false ks xs, _, _ => by simp only [Rep, repL_fix]
  | .ins true c fs xs, _, _ => by simp only [Rep, repL_fix]; exact Iff.rfl
  | .ins false c fs xs, _, _ => by simp only [Rep, repL_fix]; exact Iff.rfl
theorem repL_fix : ∀ {xs : List Val} {ws : List V} {o : List Addr}, RepL (Γ.withFix l cd) H P xs ws o ↔ RepL Γ H P xs ws o
  | [], _, _ => by simp only [RepL]
  | x :: xs, _, _ => by simp only [RepL, rep_fix, repL_fix]
end
theorem repE_fix : ∀ {es : En} {σ : L2.St} {o : List Addr}, RepE (Γ.withFix l cd) H P es σ o ↔ RepE Γ H P es σ o
  | [], _, _ => Iff.rfl
  | none :: es, _, _ => by simp only [RepE, repE_fix]
  | some x :: es, _, _ => by simp only [RepE, repE_fix, rep_fix]
theorem ok_fix {ow : List Addr} (k : Ok Γ H P ow) (hc : ∀ p ∈ cd, H p.1 = some (CodeO p.1 p.2)) : Ok (Γ.withFix l cd) H P ow := ⟨k.p, k.m, k.d, k.n, ⟨k.t.1, fun p hp => (List.mem_append.mp hp).elim (hc p) (k.t.2 p)⟩, k.z⟩
theorem ok_unfix {ow : List Addr} (k : Ok (Γ.withFix l cd) H P ow) : Ok Γ H P ow := ⟨k.p, k.m, k.d, k.n, ⟨k.t.1, fun p hp => k.t.2 p (List.mem_append_right _ hp)⟩, k.z⟩
theorem repX_fix {x : Exc} {cls : Value} {d : Option Addr} : RepX (Γ.withFix l cd) H P x cls d ↔ RepX Γ H P x cls d := by
  unfold RepX
  simp only [repL_fix]
  exact Iff.rfl
/-! ### two environments, one behind the other -/
theorem repE_app : ∀ {e1 e2 : En} {s1 s2 : L2.St} {o1 o2 : List Addr}, RepE Γ H P e1 s1 o1 → RepE Γ H P e2 s2 o2 → RepE Γ H P (e1 ++ e2) (s1 ++ s2) (o1 ++ o2)
  | [], e2, s1, s2, o1, o2, h1, h2 => by rw [h1.1, h1.2]; exact h2
  | none :: e1, e2, _, s2, o1, o2, ⟨w, s', rfl, h⟩, h2 => ⟨w, s' ++ s2, rfl, repE_app h h2⟩
  | some x :: e1, e2, _, s2, _, o2, ⟨v, s', a, b, rfl, r, h, rfl⟩, h2 => ⟨v, s' ++ s2, a, b ++ o2, rfl, r, repE_app h h2, by simp⟩
theorem repE_split : ∀ {n : Nat} {e : En} {σ : L2.St} {o : List Addr}, RepE Γ H P e σ o → ∃ o1 o2, RepE Γ H P (e.take n) (σ.take n) o1 ∧ RepE Γ H P (e.drop n) (σ.drop n) o2 ∧ o = o1 ++ o2
  | 0, e, σ, o, h => ⟨[], o, by simp [RepE], by simpa using h, rfl⟩
  | n + 1, [], σ, o, h => by
    obtain ⟨rfl, rfl⟩ := h
    exact ⟨[], [], by simp [RepE], by simp [RepE], rfl⟩
  | n + 1, none :: e, _, o, ⟨w, s', rfl, h⟩ => by
    obtain ⟨o1, o2, a, b, c⟩ := repE_split (n := n) h
    exact ⟨o1, o2, ⟨w, _, rfl, a⟩, by simpa using b, c⟩
  | n + 1, some x :: e, _, _, ⟨v, s', a1, b1, rfl, r, h, rfl⟩ => by
    obtain ⟨o1, o2, a, b, c⟩ := repE_split (n := n) h
    exact ⟨a1 ++ o1, o2, ⟨v, _, a1, o1, rfl, r, a, rfl⟩, by simpa using b, by rw [c]; simp⟩
def fixOf : Nat → L2.St → List (Nat × Option (Option V))
  | n, [] => [(n, none)]
  | n, w :: r => (n, some w) :: fixOf (n + 1) r
theorem fixOf_drop : ∀ {so : L2.St} {n : Nat} {σ : L2.St}, (∀ p ∈ fixOf n so, σ[p.1]? = p.2) → σ.drop n = so
  | [], n, σ, h => by
    have h0 : σ[n]? = none := h (n, none) List.mem_cons_self
    rw [List.drop_of_length_le (List.getElem?_eq_none_iff.mp h0)]
  | w :: r, n, σ, h => by
    have h0 : σ[n]? = some w := h (n, some w) List.mem_cons_self
    have hr := fixOf_drop (so := r) (n := n + 1) (σ := σ) fun p hp => h p (List.mem_cons_of_mem _ hp)
    obtain ⟨hn, e⟩ := List.getElem?_eq_some_iff.mp h0
    rw [List.drop_eq_getElem_cons hn, hr, e]
theorem fixOf_app : ∀ {so : L2.St} {n : Nat} {si : L2.St}, si.length = n → ∀ p ∈ fixOf n so, (si ++ so)[p.1]? = p.2
  | [], n, si, hl, p, hp => by
    have := List.mem_singleton.mp hp
    subst this
    show (si ++ [])[n]? = none
    rw [List.append_nil]
    exact List.getElem?_eq_none_iff.mpr (by omega)
  | w :: r, n, si, hl, p, hp => by
    rcases List.mem_cons.mp hp with rfl | hp
    · show (si ++ w :: r)[n]? = some w
      rw [List.getElem?_append_right (by omega), hl]
      simp
    · have := fixOf_app (so := r) (n := n + 1) (si := si ++ [w]) (by simp [hl]) p hp
      simpa using this
theorem fixOf_pins : ∀ {so : L2.St} {n : Nat}, ∀ p ∈ fixOf n so, n ≤ p.1 ∧ p.1 ≤ n + so.length
  | [], n, p, hp => by
    have := List.mem_singleton.mp hp
    subst this
    exact ⟨Nat.le_refl _, Nat.le_add_right _ _⟩
  | w :: r, n, p, hp => by
    rcases List.mem_cons.mp hp with rfl | hp
    · exact ⟨Nat.le_refl _, by simp⟩
    · have := fixOf_pins (so := r) (n := n + 1) p hp
      simp
      omega
theorem fix_pins {so : L2.St} {n0 : Nat} {w : Option (Option V)} : FixIn (Γ.withFix ((0, w) :: fixOf n0 so) cd) (pinsOf n0 so.length) := fun p hp => by
  rcases List.mem_cons.mp hp with rfl | hp
  · exact List.mem_cons_self
  have := fixOf_pins (so := so) (n := n0) p hp
  refine List.mem_cons_of_mem _ ?_
  rw [List.mem_map]
  exact ⟨p.1 - n0, List.mem_range.mpr (by omega), by omega⟩
end
section
variable {X : Cx} {pins : List (Addr × Obj)} {σ σ' : L2.St} {H HZ : Hp} {s s1 : Shared}
/-- the slots that no name of the scope has may hold anything -/
theorem Inv.slots (I : Inv X pins σ H s) (hl : σ'.length = σ.length) (h : ∀ (i : Nat) (x : Str), X.N[i]? = some x → Vis X.env.scope x → σ'[i]? = σ[i]?) : Inv X pins σ' H s :=
  { I with
    loc := by
      obtain ⟨m, h1, h2⟩ := I.loc
      exact ⟨m, h1, fun i x v a b c => h2 i x v a (by rw [← h i x a c]; exact b) c⟩
    len := by rw [hl]; exact I.len }
/-- the lambda is made: its code object is new, or found in the table (told with what stays there) -/
theorem lam_make3 {T : List (Addr × Str)} {c P : Addr} {params : Arguments} {body : Expr} {scope : Scope} {pos : Pos} {E : Value → Shared → Prop} {Q : Value → Shared → Prop} (I : Inv X pins σ H s) (TB : TabB X.base X.mg c P) (hcode : X.env.code = .ref c)
    (hm : (P, X.env.qual ++ "<lambda>") ∈ T) (hu : ∀ p ∈ T, p.1 = P → p.2 = X.env.qual ++ "<lambda>") (hT : Tabs T H) (hdef : defaultsOf params X.env = ([], [])) (hfree : ∀ y ∈ scope.names, y.2 = .free → ∃ c, X.env.cells.lookup y.1 = some c)
    (h : ∀ (f c' : Addr) (pm ctv : Value) (H1 : Hp) (s' : Shared), Inv X pins σ H1 s' → ExtN H H1 → (∀ b o, H b = some o → ∃ o', H1 b = some o') → Tabs T H1 →
      s'.heap.get? f = some (PySem.W.kla_obj "<lambda>" (X.env.qual ++ "<lambda>") params body scope (cloFrom X.env.cells scope.names []) pm c' ctv) → H1 f = none → f ∉ frs X.stack → H1 c' = some (CodeO c' (X.env.qual ++ "<lambda>")) → Q (.ref f) s') :
    wpAny (model X.prog X.w) X.A (eval (.Lambda params body scope pos) X.env) Q E s := by
  obtain ⟨ps, hP, ht, ha⟩ := hT _ hm
  refine PySem.W.kla_eval hdef ?_
  have bP : s.heap.BuiltinsAt X.mg P := TB.bm.keeps I.bk
  have hP' : s.heap.get? P = some { cls := .none, data := .fields ps } := I.hok P _ hP
  have nofr : ∀ f, s.heap.objs.size ≤ f → f ∉ frs X.stack := fun f hf z => by
    rcases List.mem_cons.mp (I.stkSub _ z) with e | e
    · have h1 := I.lt
      rw [← e] at h1
      exact Nat.lt_irrefl _ (Nat.lt_of_lt_of_le h1 hf)
    · exact I.nofs hf e
  cases hc : codeAmong pos ps.toList with
  | none =>
    refine PySem.W.kla_makeFunction (mg := X.mg) (c := c) (P := P) (ps := ps) (closure_ok hfree) I.ok.glob (I.mod.glob.keeps I.bk) hcode (TB.code.keeps I.bk) hP' ht hc TB.gP bP fun c' ctv h' tk hx hge hlt hrec htb => ?_
    obtain ⟨c2, oc, vs, t, e2, hoc, hd, hv⟩ := hrec
    cases e2
    have hsz : s.heap.objs.size ≤ h'.objs.size := Nat.le_trans hge (Nat.le_of_lt hlt)
    have nC : H c' = none := I.hok.fresh hge
    have I1 := inv_table (t' := tk) (more := #[rawInt pos.line, rawInt pos.col, .ref c']) (h' := h'.push (PySem.W.kla_obj "<lambda>" (X.env.qual ++ "<lambda>") params body scope (cloFrom X.env.cells scope.names []) ((X.mg "__name__").getD .none) c' ctv)) I hP
      (fun b o hb e => Heap.get?_push_of_some _ (hx b o hb e)) (Heap.get?_push_of_some _ htb) hge ⟨oc, vs, t, Heap.get?_push_of_some _ hoc, hd, hv⟩
    have hE : ExtN H (upd (upd H P (.tbl (ps ++ #[rawInt pos.line, rawInt pos.col, .ref c']))) c' (CodeO c' (X.env.qual ++ "<lambda>"))) := fun b o e n => by
      rw [upd_ne (ne_of_none e nC), upd_ne (fun z => n ps (Option.some.inj (e.symm.trans (by rw [z]; exact hP))))]
      exact e
    have eL : (ps ++ #[rawInt pos.line, rawInt pos.col, .ref c']).toList = ps.toList ++ [rawInt pos.line, rawInt pos.col, .ref c'] := by simp
    refine h h'.objs.size c' ((X.mg "__name__").getD .none) ctv _ _ I1 hE (fun b o e => ?_) (fun p hp => ?_) (Heap.get?_push_size _ rfl) ?_ (nofr _ hsz) upd_same
    · rw [upd_ne (ne_of_none e nC)]
      by_cases hb : b = P
      · subst hb
        exact ⟨_, upd_same⟩
      · exact ⟨o, by rw [upd_ne hb]; exact e⟩
    · by_cases hb : p.1 = P
      · rw [hu p hp hb, hb]
        refine ⟨_, by rw [upd_ne (ne_of_none hP nC), upd_same], by rw [eL]; exact PySem.TriplesOk_snoc _ _ _ _ ht, fun p' cv hcv => ?_⟩
        rw [eL] at hcv
        rcases among_app _ ht hcv with z | z
        · obtain ⟨c0, e1, e2⟩ := ha p' cv z
          exact ⟨c0, e1, hE _ _ e2 codeO_ne⟩
        · exact ⟨c', z, upd_same⟩
      · obtain ⟨ps', a1, a2, a3⟩ := hT p hp
        refine ⟨ps', by rw [upd_ne (ne_of_none a1 nC), upd_ne hb]; exact a1, a2, fun p' cv hcv => ?_⟩
        obtain ⟨c0, e1, e2⟩ := a3 p' cv hcv
        exact ⟨c0, e1, hE _ _ e2 codeO_ne⟩
    · have n1 : h'.objs.size ≠ c' := Nat.ne_of_gt hlt
      have n2 : h'.objs.size ≠ P := Nat.ne_of_gt (Nat.lt_of_lt_of_le (Heap.lt_size hP') hsz)
      rw [upd_ne n1, upd_ne n2]
      exact I.hok.fresh hsz
  | some cv =>
    obtain ⟨c', e, hco⟩ := ha pos cv hc
    subst e
    refine PySem.W.kla_makeFunctionHit (mg := X.mg) (c := c) (P := P) (ps := ps) (closure_ok hfree) I.ok.glob (I.mod.glob.keeps I.bk) hcode (TB.code.keeps I.bk) hP' ht hc bP fun ctv h' tk hx hsz => ?_
    have I1 : Inv X pins σ H { s with heap := h'.push (PySem.W.kla_obj "<lambda>" (X.env.qual ++ "<lambda>") params body scope (cloFrom X.env.cells scope.names []) ((X.mg "__name__").getD .none) c' ctv), toks := tk } := I.kept fun b o e => Heap.get?_push_of_some _ (hx b o e)
    exact h h'.objs.size c' ((X.mg "__name__").getD .none) ctv H _ I1 (ExtN.refl H) (fun b o e => ⟨o, e⟩) hT (Heap.get?_push_size _ rfl) (I.hok.fresh hsz) (nofr _ hsz) hco
/-- x(), in the def that got the lambda, told at the slots as they stand -/
theorem pe_actS {CXg : CXT} {Eg : XK} {Ng : List Str} {qg : Str} {sg : Scope} {g f c' : Addr} {cdg pm ctv : Value} {params : Arguments} {body : Expr} {scope : Scope} {k i : Nat} {a : Str} {pn : List (Addr × Obj)} {xe : Value → Shared → Prop} {W : WX} {tb : XK → TE} {p1 p2 : Pos}
    (I : Inv X pins σ H s) (L : LamS X.env.scope scope) (hf : s.heap.get? f = some (PySem.W.kla_obj "<lambda>" (X.env.qual ++ "<lambda>") params body scope (cloFrom X.env.cells scope.names []) pm c' ctv)) (hfn : H f = none) (hfr : f ∉ frs X.stack)
    (hbind : bindArgs (PySem.W.kla_fn "<lambda>" (X.env.qual ++ "<lambda>") params body scope (cloFrom X.env.cells scope.names []) pm (.ref c') ctv) ⟨[], []⟩ = pure [])
    (tk : Takes ((cxOf CXg X.prog X.w X.K X.mg X.base Ng qg sg g cdg X.A X.stack s H Eg).tr pn xe) W) (hr : Room (k + 1) (X.A.deeper (envOfC qg sg s.heap.objs.size g cdg)))
    (hbody : ∀ (A : Around) (outer : List Env) (s : Shared) (H : Hp) (E : XK), Room k (A.deeper (lamEnv X scope s.heap.objs.size f c')) → PE (lamCx X A outer s H E scope f c') body (tb E))
    (hN : Ng[i]? = some a) (hv : Vis sg a) (hd : (a == ("__debug__" : Str)) = false := by decide) (hcd : (a == ("__classdict__" : Str)) = false := by decide) :
    PE ((cxOf CXg X.prog X.w X.K X.mg X.base Ng qg sg g cdg X.A X.stack s H Eg).tr pn xe) (.Call (.Name a p1) [] [] p2)
      (fun σZ HZ Q => σZ[i]? = some (some (.ref f)) ∧ HZ c' = some (CodeO c' (X.env.qual ++ "<lambda>")) ∧ tb (WE W σZ) σ HZ Q) := by
  refine ⟨fun pinsZ sZ σZ HZ Q IZ h => ?_⟩
  obtain ⟨hs, hc, ht⟩ := h
  refine wpAny_Call_Name_kw (thn ((pe_var (pos := p1) (i := i) hN hv hd hcd).run pinsZ sZ σZ HZ (fun v H1 => v = .ref f ∧ H1 = HZ) IZ ⟨.ref f, hs, rfl, rfl⟩) fun u s1 ⟨v, H1, I1, r1, q1⟩ => ?_)
  obtain ⟨ev, eH⟩ := q1
  subst ev
  rw [eH] at I1
  obtain rfl : u = Value.ref f := r1
  have of1 : s1.heap.get? f = some (PySem.W.kla_obj "<lambda>" (X.env.qual ++ "<lambda>") params body scope (cloFrom X.env.cells scope.names []) pm c' ctv) := I1.base.keep f _ hf hfn hfr (fun z => nomatch (show f ∈ ([] : List Addr) from z))
  refine PySem.W.callWith_F0 ⟨_, _, _, _, of1⟩ ?_
  have un : Un (frs X.stack) [] H HZ s.heap s1.heap := I1.base
  obtain ⟨⟨oc, vs, t, hoc, hdc, hvc⟩, _, _⟩ := I1.hok c' _ hc
  have rc : codeAny (model X.prog X.w) (X.A.deeper (envOfC qg sg s.heap.objs.size g cdg)) (.call (.ref f) ⟨[], []⟩) (CR (L2.CX X.prog X.w) (envOfC qg sg s.heap.objs.size g cdg :: X.stack) X.prog X.w HZ s1 Q (WE W σZ)) s1 := by
    refine PySem.W.kla_callFunE hr.depth of1 rfl L.co L.gen rfl ⟨c', oc, vs, t, rfl, hoc, hdc, hvc⟩ ?_
    rw [hbind]
    refine wpAny_pure (wpAny_newFunctionEnv (fun y hy => (L.own y hy).2) (fun y hy => absurd hy (by simp)) (fun h₁ hns hsb => ⟨I1.nolimit.fresh _ hsb, ?_⟩) L.kind)
    show codeAny _ _ (.expr body (lamEnv X scope s1.heap.objs.size f c')) _ _
    have kp : ∀ b o, s1.heap.get? b = some o → h₁.get? b = some o := fun b o e => hsb.extBut b o (Nat.ne_of_lt (Heap.lt_size e)) (Heap.get?_push_of_some _ e)
    have J : Inv (lamCx X (X.A.deeper (envOfC qg sg s.heap.objs.size g cdg)) (envOfC qg sg s.heap.objs.size g cdg :: X.stack) s1 HZ (WE W σZ) scope f c') [] σ HZ { s1 with heap := h₁, toks := s1.toks + ([] : List (Str × Value)).length } :=
      lam_start2 I L I1.env0 hr.hd un hns kp
    refine PySem.W.kla_codeExpr (wpAny_mono ((hbody _ _ s1 HZ (WE W σZ) (hr.deeper _)).run [] _ _ HZ Q J ht) (fun v s' hq => ?_) fun e s' hq => hq)
    obtain ⟨w', H', J', rv, q⟩ := hq
    exact ⟨w', H', J'.os, J'.bare, J'.base, J'.hok, rv, q⟩
  have hx : PassesAt (L2.CX X.prog X.w) ((cxOf CXg X.prog X.w X.K X.mg X.base Ng qg sg g cdg X.A X.stack s H Eg).tr pn xe) σZ (WE W σZ) := passAt tk σZ
  refine wpAny_call (codeAny_mono rc fun r s' hq => ?_)
  cases r with
  | error e => exact hx pinsZ HZ s1 e s' I1 hq
  | ok fl =>
    cases fl with
    | ret u => exact I1.after hq
    | next => exact False.elim hq
    | brk => exact False.elim hq
    | cont => exact False.elim hq
end
end VI
set_option Elab.async false
set_option linter.all false
set_option maxRecDepth 100000
set_option maxHeartbeats 2000000
/-! VI20: f(lambda: e). -/
namespace VI
open PySem PySem.Spec PyProof.Rows L2 LamX
section
variable {Γ : Ctx} {X : Cx} {W : WX} {σ : L2.St} {H H1 : Hp} {P : Addr → Prop} {ow : List Addr} {e : En}
theorem ext_table (ok : Ok Γ H P ow) (eN : ExtN H H1) (dm : ∀ b o, H b = some o → ∃ o', H1 b = some o') (T1 : TabsC Γ H1) (hz : ∀ a xs, Rd H1 a (.lst xs) ∨ TupN H1 a xs → xs.length ≤ sizeLine) :
    Ext H P ow H1 P ow ∧ Ok Γ H1 P ow ∧ ∀ l : List Addr, (∀ a ∈ l, a ∈ ow) → Kp H P l H1 P := by
  have hw : ∀ a ∈ ow, ∀ u, H a = some u → H1 a = some u := fun a z u h => eN a u h ((ok.m a z).notbl h)
  have hp : ∀ a u, P a → H a = some u → H1 a = some u := fun a u z h => by
    obtain ⟨u', e', t⟩ := ok.p a z
    rw [h] at e'; cases e'
    exact eN a u h t
  refine ⟨⟨fun a u h _ t => eN a u h t, fun a z => .inl z, fun _ h => h, fun _ h => .inl h, dm⟩, ⟨fun a h => ?_, fun a z => ?_, ok.d, ok.n, T1, hz⟩, fun l hl => ⟨fun a z u h => hw a (hl a z) u h, fun a u z h => hp a u z h, fun a xs h => eN a _ h (fun ps z => by cases z), fun a ob u h => eN a _ h (fun ps z => by cases z), fun _ h => h⟩⟩
  · obtain ⟨u, e1, e2⟩ := ok.p a h
    exact ⟨u, hp a u h e1, e2⟩
  · obtain ⟨u, e1, e2⟩ := ok.m a z
    exact ⟨u, hw a z u e1, e2⟩
theorem code_ext {H' : Hp} {P' : Addr → Prop} {ow' : List Addr} {c : Addr} {q : Str} (ok : Ok Γ H P ow) (x : Ext H P ow H' P' ow') (h : H c = some (CodeO c q)) : H' c = some (CodeO c q) :=
  x.keep c _ h (fun z => by
    obtain ⟨u', e', q⟩ := ok.m c z
    rw [h] at e'; cases e'
    rcases q with ⟨_, q⟩ | ⟨_, q⟩ | ⟨_, _, _, q⟩ <;> (unfold CodeO at q; cases q)) fun ps => codeO_ne ps
/-- the lambda's call within the def's run -/
theorem act_red {cb : C} {n0 : Nat} {σZ : L2.St} {HZ : Hp} {Q : VK} {cd : List (Addr × Str)} {vf : V} (hz : Γ.fix = []) (h : tS (Γ.withFix ((0, some (some vf)) :: fixOf n0 σ) cd) (RepO (Γ.withFix ((0, some (some vf)) :: fixOf n0 σ) cd)) W (cAct n0 cb) σZ HZ Q) : σZ[0]? = some (some vf) ∧ (∀ p ∈ cd, HZ p.1 = some (CodeO p.1 p.2)) ∧
    tS Γ (RepO Γ) (fun cls d _ H' => W cls d σZ H') cb σ HZ Q := by
  obtain ⟨P, ow, e, ok, rel, acc⟩ := h
  have ok' := ok_unfix ok
  obtain ⟨o, re, pq, fx⟩ := rel
  have hd : σZ.drop n0 = σ := fixOf_drop fun p hp => fx p (List.mem_cons_of_mem _ hp)
  have hcd : ∀ p ∈ cd, HZ p.1 = some (CodeO p.1 p.2) := fun p hp => ok.t.2 p (List.mem_append_left _ hp)
  refine ⟨fx (0, some (some vf)) List.mem_cons_self, hcd, ?_⟩
  obtain ⟨o1, o2, r1, r2, rfl⟩ := repE_split (n := n0) (repE_fix.mp re)
  rw [hd] at r2
  have rel2 : RelE Γ HZ P (e.drop n0) σ o2 := ⟨o2, r2, .refl _, fun p hp => by rw [hz] at hp; cases hp⟩
  have okp := ok'.perm pq.symm
  refine ⟨P, o2, e.drop n0, okp.right, rel2, ?_⟩
  have back : ∀ {H' : Hp} {P' : Addr → Prop} {ow' : List Addr} {e2 : En}, Kp HZ P o1 H' P' → RelE Γ H' P' e2 σ ow' → RelE (Γ.withFix ((0, some (some vf)) :: fixOf n0 σ) cd) H' P' (e.take n0 ++ e2) σZ (o1 ++ ow') := fun {H' P' ow' e2} kp rl => by
    obtain ⟨o3, r3, p3, _⟩ := rl
    have := repE_app (r1.kp kp) r3
    rw [← hd, List.take_append_drop] at this
    exact ⟨o1 ++ o3, repE_fix.mpr this, p3.append_left o1, fx⟩
  unfold cAct at acc
  cases hc : cb (e.drop n0) with
  | ok u e1 =>
    simp only [hc] at acc
    intro b H' P' o' ow' x k r l
    obtain ⟨x', k'⟩ := x.frame okp k
    have kp := x.kp okp
    cases q : u.take e1 with
    | none => simp [q, Acc] at acc
    | some pr =>
      obtain ⟨y, e2⟩ := pr
      simp only [q] at acc
      obtain ⟨P2, o3, ow2, x2, k2, r3, l2, kp2⟩ := OV.take_rep (f := o1) k' l r q
      have pq2 : (o1 ++ (o3 ++ ow2)).Perm (o3 ++ (o1 ++ ow2)) := pm (by intro a; simp only [List.count_append]; omega)
      refine acc b H' P2 o3 (o1 ++ ow2) ((x'.permL pq).trans (x2.perm pq2)) (ok_fix (k2.perm pq2) fun p hp => code_ext okp.right x (hcd p hp)) (rep_fix.mpr r3) (back ?_ l2)
      exact ⟨fun a z u h => kp2.own a z u (kp.own a z u h), fun a u p h => kp2.frz a u (kp.inc a p) (kp.frz a u p h), fun a xs h => kp2.tup a xs (kp.tup a xs h), fun a ob u h => kp2.frd a ob u (kp.frd a ob u h), fun a h => kp2.inc a (kp.inc a h)⟩
  | exc x e1 =>
    simp only [hc] at acc
    intro H' P' ow' cls d y k l rx
    obtain ⟨y', k'⟩ := y.frame okp k
    exact acc H' P' (o1 ++ ow') cls d (y'.permL pq) (ok_fix k' fun p hp => code_ext okp.right y (hcd p hp)) (back (y.kp okp) l) (repX_fix.mpr rx)
  | bad => simp [hc, Acc] at acc
theorem start_take {N0 dum : List Str} {v : V} (h : 0 < N0.length) : (L2.start (N0 ++ dum) [v]).take N0.length = some v :: List.replicate (N0.length - 1) none := by
  unfold L2.start
  obtain ⟨m, hm⟩ : ∃ m, N0.length = m + 1 := ⟨N0.length - 1, by omega⟩
  rw [hm]
  simp only [List.map_cons, List.map_nil, List.singleton_append, List.take_succ_cons, List.length_append, List.length_singleton, Nat.add_sub_cancel, hm]
  rw [List.take_replicate]
  congr 2
  omega
theorem repE_nones : ∀ {n : Nat} {σ : L2.St}, σ.length = n → RepE Γ H P (List.replicate n none) σ []
  | 0, σ, h => ⟨List.eq_nil_of_length_eq_zero h, rfl⟩
  | n + 1, [], h => by simp at h
  | n + 1, w :: σ, h => ⟨w, σ, rfl, repE_nones (by simpa using h)⟩
/-- x(lambda: body) -/
theorem se_lam {x a : Str} {g c PT : Addr} {k : Nat} {pg : Arguments} {bg : List Stmt} {sg : Scope} {dV kV doc pm cdv ct oc : Value} {an od : Option Addr} {osl : Array (Option Value)} {Ng0 dum : List Str} {params : Arguments} {body : Expr} {scope : Scope} {p lpos pos : Pos} {h : HDef} {cb : C}
    (hz : Γ.fix = []) (hg : Gl X x) (hm : X.mg x = some (.ref g)) (hk : PySem.W.keepIn X.K (.ref g) = true) (lk : X.K.lookup g = some ⟨oc, od, .func (PySem.W.fnOf x x pg bg sg dV kV doc pm an cdv ct), osl⟩) (hcg : PySem.W.codeIn X.K cdv x = true)
    (hb : L2.Binds X.K (PySem.W.fnOf x x pg bg sg dV kV doc pm an cdv ct) [a] []) (Sg : FnScope (Ng0 ++ dum) [a] sg) (h0 : Ng0[0]? = some a) (hn : h.n = Ng0.length) (hdl : dum.length = X.N.length) (hvis : ∀ y ∈ dum, ¬ Vis sg y) (hva : Vis sg a)
    (hG : ∀ (l : List (Nat × Option (Option V))) (cd : List (Addr × Str)) (s : Shared) (H : Hp) (act : C) (pins : List Nat), Room (k + 1) (X.A.deeper (envOfC x sg s.heap.objs.size g cdv)) → (∀ pn xe p1 p2, SE (Γ.withFix l cd) ((cxOf C8.CX0 X.prog X.w X.K X.mg X.base (Ng0 ++ dum) x sg g cdv X.A X.stack s H C8.E0).tr pn xe) (.Call (.Name a p1) [] [] p2) act) →
      SSs (Γ.withFix l cd) pins (cxOf C8.CX0 X.prog X.w X.K X.mg X.base (Ng0 ++ dum) x sg g cdv X.A X.stack s H C8.E0).nox bg (h.body pins act))
    (TB : TabB X.base X.mg c PT) (hcode : X.env.code = .ref c) (hmT : (PT, X.env.qual ++ "<lambda>") ∈ Γ.T) (hu : ∀ q ∈ Γ.T, q.1 = PT → q.2 = X.env.qual ++ "<lambda>") (hr : Room (k + 2) X.A) (L : LamS X.env.scope scope) (hdef : defaultsOf params X.env = ([], []))
    (hbind : ∀ (q : Str) (cl : List (Str × Addr)) (pm cv ctv : Value), bindArgs (PySem.W.kla_fn "<lambda>" q params body scope cl pm cv ctv) ⟨[], []⟩ = pure [])
    (hbody : ∀ (A : Around) (outer : List Env) (s : Shared) (H : Hp) (E : XK) (f c' : Addr), Room k (A.deeper (lamEnv X scope s.heap.objs.size f c')) → SE Γ (lamCx X A outer s H E scope f c') body cb)
    (hdb : (x == ("__debug__" : Str)) = false := by decide) (hd : (a == ("__debug__" : Str)) = false := by decide) (hcd : (a == ("__classdict__" : Str)) = false := by decide) :
    SE Γ X (.Call (.Name x p) [.Lambda params body scope lpos] [] pos) (cLam h cb) := fun W tk => by
  refine ⟨fun pins s σ H Q I ⟨P0, ow, e, ok, rel, acc⟩ => ?_⟩
  refine wpAny_Call_Name_kw (ld_glob I hg hm ?_ hdb)
  refine PySem.W.callWith_K (h₀ := X.base) I.ok.mod.kin hk ?_ (by rfl) (by rfl)
  show wpAny _ _ (spliced ((false, eval (.Lambda params body scope lpos) X.env) :: backTo pos (starEach [] X.env))) _ _ s
  refine Calls.spliced_cons (lam_make3 I TB hcode hmT hu ok.t.1 hdef (L.has I.ok) fun f c' pm' ctv H1 s' I1 eN dm T1 hf hfn hfr hco => ?_)
  refine Calls.spliced_nil ⟨I1.kIn, ?_⟩
  obtain ⟨x1, ok1, kp1⟩ := ext_table ok eN dm ⟨T1, fun p hp => eN _ _ (ok.t.2 p hp) fun ps => codeO_ne ps⟩ fun a xs hh => by
    rcases hh with hh | hh
    · obtain ⟨_, _, _, z⟩ := I1.list (.inl hh)
      exact z
    · obtain ⟨_, _, _, z⟩ := I1.tuple (TupN.sq hh)
      exact z
  have rel1 := rel.kp (kp1 ow fun _ z => z)
  have acc1 := Acc.rebase acc x1
  have hlen : σ.length = X.N.length := I.len
  have he : e.length = σ.length := rel.length
  have n0 : 0 < Ng0.length := (List.getElem?_eq_some_iff.mp h0).1
  have hNa : (Ng0 ++ dum)[0]? = some a := by rw [List.getElem?_append_left n0]; exact h0
  have rc : codeAny (model X.prog X.w) X.A (.call (.ref g) ⟨[.ref f], []⟩) (CR C8.CX0 X.stack X.prog X.w H1 s' Q C8.E0) s' := by
    refine run_ofS (N := Ng0 ++ dum) (ps := [a]) (us := [.ref f]) (vs := [.ref f]) lk hcg Sg hr I1.env0 (hb s' [.ref f] I1.kIn rfl) (.cons rfl .nil) rfl fun hr' => ?_
    have act : ∀ pn xe p1 p2, SE (Γ.withFix ((0, some (some (.ref f))) :: fixOf h.n σ) [(c', X.env.qual ++ "<lambda>")]) ((cxOf C8.CX0 X.prog X.w X.K X.mg X.base (Ng0 ++ dum) x sg g cdv X.A X.stack s' H1 C8.E0).tr pn xe) (.Call (.Name a p1) [] [] p2) (cAct h.n cb) :=
      fun pn xe p1 p2 W' tk' => pe_imp (pe_actS (i := 0) (tb := fun E => tS Γ (RepO Γ) (fun cls d _ H' => E cls d H') cb) I1 L hf hfn hfr (hbind _ _ _ _ _) tk' hr'
        (fun A outer s H E hr2 => hbody A outer s H E f c' hr2 (fun cls d _ H' => E cls d H') (takes_of rfl rfl rfl rfl)) hNa hva hd hcd) fun σZ HZ Q' hh => by
          obtain ⟨a1, a2, a3⟩ := act_red hz hh
          exact ⟨a1, a2 _ List.mem_cons_self, a3⟩
    have body := hG ((0, some (some (.ref f))) :: fixOf h.n σ) [(c', X.env.qual ++ "<lambda>")] s' H1 (cAct h.n cb) (pinsOf h.n σ.length) hr' act fix_pins (fun _ _ _ _ => False) LamX.takes0
    refine ⟨fun D σ0 HZ => σ0.length = (Ng0 ++ dum).length → tT (Γ.withFix ((0, some (some (.ref f))) :: fixOf h.n σ) [(c', X.env.qual ++ "<lambda>")]) (fun _ _ _ _ => False) (pinsOf h.n σ.length) (h.body (pinsOf h.n σ.length) (cAct h.n cb)) D (σ0.take h.n ++ σ) HZ, PSs.nox ⟨fun pinsZ sZ σZ HZ D IZ hw => ?_⟩, fun _ => ?_⟩
    · have hlz : σZ.length = (Ng0 ++ dum).length := IZ.len
      have hle : Ng0.length ≤ σZ.length := by rw [hlz, List.length_append]; omega
      refine body.run pinsZ sZ (σZ.take h.n ++ σ) HZ D (Inv.slots IZ ?_ fun i y hy hvy => ?_) (hw hlz)
      · rw [List.length_append, List.length_take, hn, Nat.min_eq_left hle, hlz, List.length_append, hlen, hdl]
      · have hy' : (Ng0 ++ dum)[i]? = some y := hy
        by_cases hi : i < Ng0.length
        · rw [List.getElem?_append_left (by rw [List.length_take]; omega), List.getElem?_take, if_pos (by omega)]
        · rw [List.getElem?_append_right (by omega)] at hy'
          exact absurd hvy (hvis y (List.mem_of_getElem? hy'))
    · rw [hn, start_take n0]
      have hl1 : (some (V.ref f) :: List.replicate (Ng0.length - 1) none).length = Ng0.length := by simp; omega
      have re : RepE Γ H1 P0 (List.replicate Ng0.length none) (some (V.ref f) :: List.replicate (Ng0.length - 1) none) [] := repE_nones hl1
      obtain ⟨o, r1, pq, _⟩ := rel1
      refine ⟨P0, ow, List.replicate Ng0.length none ++ e, ok_fix ok1 (fun p hp => by rw [List.mem_singleton] at hp; subst hp; exact hco), ⟨o, repE_fix.mpr (by simpa using repE_app re r1), pq, fun p hp => ?_⟩, ?_⟩
      · rcases List.mem_cons.mp hp with rfl | hp
        · rfl
        · exact fixOf_app hl1 p hp
      · unfold cLam at acc1
        rw [← hn, ← he]
        have fin : ∀ (v : V) (y : Val) (e2 : En) (σ' : L2.St) (H' : Hp) (P' : Addr → Prop) (o' ow' : List Addr), Acc Γ (RepO Γ) W σ H1 P0 ow Q (.ok (.val y) (e2.drop h.n)) → Ext H1 P0 ow H' P' (o' ++ ow') → Ok (Γ.withFix ((0, some (some (.ref f))) :: fixOf h.n σ) [(c', X.env.qual ++ "<lambda>")]) H' P' (o' ++ ow') →
            Rep Γ H' P' y v o' → RelE (Γ.withFix ((0, some (some (.ref f))) :: fixOf h.n σ) [(c', X.env.qual ++ "<lambda>")]) H' P' e2 σ' ow' → Q v H' := fun v y e2 σ' H' P' o' ow' ac xx kk rv rl => by
          obtain ⟨o3, r3, p3, fx⟩ := rl
          have hdr : σ'.drop h.n = σ := fixOf_drop fun p hp => fx p (List.mem_cons_of_mem _ hp)
          obtain ⟨q1, q2, s1, s2, rfl⟩ := repE_split (n := h.n) (repE_fix.mp r3)
          rw [hdr] at s2
          have k1 := ok_unfix kk
          have pq5 : (o' ++ ow').Perm ((o' ++ q2) ++ q1) := (p3.symm.append_left o').trans (VI.pm (by intro a; simp only [List.count_append]; omega))
          refine ac v H' P' o' q2 ((xx.perm pq5).sub fun a z => List.mem_append_left _ z) (k1.perm pq5).left rv ⟨q2, s2, .refl _, fun p hp => by rw [hz] at hp; cases hp⟩
        cases hr0 : h.body (pinsOf h.n e.length) (cAct h.n cb) (List.replicate h.n none ++ e) with
        | rt y e2 =>
          simp only [hr0] at acc1
          exact fun v σ' H' P' o' ow' xx kk rv rl _ => fin v y e2 σ' H' P' o' ow' acc1 xx kk (rep_fix.mp rv) rl
        | nx e2 =>
          simp only [hr0] at acc1
          exact fun σ' H' P' ow' xx kk rl _ => fin .non .non e2 σ' H' P' [] ow' acc1 xx kk rep_non rl
        | bk e2 => simp [hr0, Acc] at acc1
        | ct e2 => simp [hr0, Acc] at acc1
        | exc y e2 => simp [hr0, Acc] at acc1
        | bad => simp [hr0, Acc] at acc1
  refine wpAny_call (codeAny_mono rc fun r s2 hq => ?_)
  cases r with
  | error e => exact (show False from hq).elim
  | ok fl =>
    cases fl with
    | ret u => exact I1.after hq
    | next => exact False.elim hq
    | brk => exact False.elim hq
    | cont => exact False.elim hq
end
end VI
set_option Elab.async false
set_option linter.all false
set_option maxRecDepth 100000
/-! VI21: a, b = x, y; what the module's names stand for; defs and classes by their promises. -/
namespace VI
open PySem PySem.Spec PyProof.Rows L2
def sPar (pins : List Nat) (i j : Nat) (a b : C) : S := fun e => (cs [a, b] e).toS fun us e1 => match takes us e1 with
  | some (xs, e2) => match xs with
    | [x, y] => if pins.contains i || pins.contains j then .bad else if decide (i < e2.length ∧ j < e2.length) then .nx ((e2.set i (some x)).set j (some y)) else .bad
    | _ => .bad
  | none => .bad
section
variable {Γ : Ctx} {X : Cx} {W : WX} {σ : L2.St} {H : Hp} {P : Addr → Prop} {ow o : List Addr} {e : En} {pins : List Nat}
theorem ss_par {i j : Nat} {x y : Str} {a b : Expr} {ca cb : C} {px py pt pos : Pos} {kt k2 pt2} (hc : X.calm = true) (hN : X.N.Nodup) (hi : X.N[i]? = some x) (hj : X.N[j]? = some y) (hij : i ≠ j)
    (hx : X.env.scope.names.lookup x = some .local) (hy : X.env.scope.names.lookup y = some .local) (ha : SE Γ X a ca) (hb : SE Γ X b cb)
    (hw : swappedStores [.Tuple [.Name x px, .Name y py] kt pt] (.Tuple [a, b] k2 pt2) X.env = pure (some [x, y]) := by rfl)
    (hs : swapsWithSole [.Tuple [.Name x px, .Name y py] kt pt] (.Tuple [a, b] k2 pt2) pos.line X.env = pure false := by rfl)
    (h1 : starEach [a, b] X.env = (false, eval a X.env) :: starEach [b] X.env := by rfl) (h2 : starEach [b] X.env = (false, eval b X.env) :: starEach [] X.env := by rfl) :
    SS Γ pins X (.Assign [.Tuple [.Name x px, .Name y py] kt pt] (.Tuple [a, b] k2 pt2) pos) (sPar pins i j ca cb) := fun fx W tk =>
  ps_imp (ps_par hc hN hi hj hij hx hy (sa_cons ha (sa_cons hb sa_nil h2) h1 W tk) hw hs) fun D σ H ⟨P, ow, e, ok, rel, acc⟩ => by
    unfold sPar at acc
    refine useS ok rel acc fun us e1 vs H1 P1 o1 ow1 k r l acc1 => ?_
    cases q1 : takes us e1 with
    | none => simp [q1, AccS] at acc1
    | some pr =>
      obtain ⟨xs, e2⟩ := pr
      simp only [q1] at acc1
      obtain ⟨P2, o2, ow2, x2, k2, r2, l2, _⟩ := takes_rep (f := []) k l r q1
      simp only [List.nil_append] at x2 k2
      split at acc1
      · rename_i x y
        split at acc1
        · exact acc1.elim
        · rename_i hp
          have hp1 : ¬ pins.contains i = true := fun z => hp (by rw [z]; rfl)
          have hp2 : ¬ pins.contains j = true := fun z => hp (by rw [z]; simp)
          split at acc1
          · rename_i hl
            have hl := of_decide_eq_true hl
            simp only [RepL] at r2
            obtain ⟨v, vs', p1, p2, rfl, s1, ⟨w, vs2, p3, p4, rfl, s2, ⟨rfl, rfl⟩, rfl⟩, rfl⟩ := r2
            simp only [List.append_nil] at x2 k2
            refine ⟨v, w, rfl, ?_⟩
            have pq : ((p1 ++ p3) ++ ow2).Perm (p3 ++ (p1 ++ ow2)) := VI.pm (by intro a; simp only [List.count_append]; omega)
            have k3 := k2.perm pq
            obtain ⟨ow3, l3, k4, s3⟩ := l2.store k3.right hl.1 s1 (fx.free hp1)
            have k5 : Ok Γ H1 P2 (p3 ++ ow3) := by
              have n := List.nodup_append.mp k3.n
              refine k3.sub (fun a z => ?_) (List.nodup_append.mpr ⟨n.1, k4.n, fun a z b w => n.2.2 a z b (s3 b w)⟩)
              rcases List.mem_append.mp z with z | z
              · exact List.mem_append_left _ z
              · exact List.mem_append_right _ (s3 a z)
            obtain ⟨ow4, l4, k6, s4⟩ := l3.store k5 (by rw [List.length_set]; exact hl.2) s2 (fx.free hp2)
            refine acc1 _ H1 P2 ow4 ((x2.perm pq).sub fun a z => ?_) k6 l4 fun n hn => ?_
            · rcases List.mem_append.mp (s4 a z) with z | z
              · exact List.mem_append_left _ z
              · exact List.mem_append_right _ (s3 a z)
            · rw [List.getElem?_set_ne, List.getElem?_set_ne]
              · intro z; subst z; exact hp1 (by simpa using hn)
              · intro z; subst z; exact hp2 (by simpa using hn)
          · exact acc1.elim
      · exact acc1.elim
/-! ### the module's constants -/
theorem se_gint {x : Str} {i : Int} {pos : Pos} (hg : Gl X x) (hm : ∃ t, X.mg x = some (.int i t)) (hd : (x == ("__debug__" : Str)) = false := by decide) : SE Γ X (.Name x pos) (cV (.int i)) := by
  obtain ⟨t, hm⟩ := hm
  exact se_of (pe_glob (v := .int i) hg hm ⟨t, rfl⟩ hd) fun _ _ => rep_int
/-! ### a def, a class by its promise -/
structure DefAt (P : Program) (w : World) (K : PySem.W.Frag) (mg : Str → Option Value) (base : Heap) (k : Nat) (x : Str) (sp : Sp) : Prop where
  ex : ∃ (f : Addr) (fd : FuncData) (ps : List Str), FnOk P w K mg base (L2.CX P w) k f fd ps sp ∧ mg x = some (.ref f) ∧ PySem.W.keepIn K (.ref f) = true ∧ Binds K fd ps []
theorem se_def {call : Call} {n k : Nat} {x : Str} {p pos : Pos} {a : Expr} {es : List Expr} {l : List Arg} (D : DefAt X.prog X.w X.K X.mg X.base k x (spF Γ call n)) (hr : Room k X.A) (hg : Gl X x) (ha : SAr Γ X (a :: es) l)
    (hdb : (x == ("__debug__" : Str)) = false := by decide) (he : starEach (a :: es) X.env = (false, eval a X.env) :: starEach es X.env := by rfl) (hpl : (backTo pos (starEach es X.env)).any (·.1) = false := by rfl) : SE Γ X (.Call (.Name x p) (a :: es) [] pos) (cCall call n l) := by
  obtain ⟨f, fd, ps, F, hm, hk, hb⟩ := D.ex
  exact se_call F hr hg hm hk hb ha hdb he hpl
structure MakeAt (P : Program) (w : World) (K : PySem.W.Frag) (mg : Str → Option Value) (base : Heap) (k : Nat) (x : Str) (C : Addr) (sp : Sp) : Prop where
  ex : ∃ (f : Addr) (fd : FuncData) (ps : List Str), Mk K C f ∧ FnOk P w K mg base (L2.CX P w) k f fd ps sp ∧ mg x = some (.ref C) ∧ Binds K fd ps []
/-- a method that a built-in finds: __len__, __eq__ -/
structure SpecAt (P : Program) (w : World) (K : PySem.W.Frag) (mg : Str → Option Value) (base : Heap) (k : Nat) (m : Str) (C : Addr) (sp : Sp) : Prop where
  ex : ∃ (f : Addr) (fd : FuncData) (ps : List Str), FnOk P w K mg base (L2.CX P w) k f fd ps sp ∧ Binds K fd ps [] ∧ PySem.W.findIn K (.ref C) m = some (some (.ref f)) ∧ PySem.W.isFn K (.ref f) = true
/-! ### list(range(..)), tuple(range(..)) -/
theorem rngV_map (a : Int) : ∀ n : Nat, ∀ (H : Hp) (P : Addr → Prop), RepL Γ H P (rngV a n) ((List.range n).map fun i => V.int (a + (i : Nat))) []
  | n, H, P => by
    refine RepL.of_fz (by rw [rngV_length, List.length_map, List.length_range]) fun i x hx => ?_
    have hi : i < n := by
      have := (List.getElem?_eq_some_iff.mp hx).1
      rwa [rngV_length] at this
    rw [rngV_get n a i hi] at hx
    cases hx
    exact ⟨.int (a + (i : Nat)), by simp [hi], rep_int⟩
def cRgL (own : Bool) (as : List C) : C := fun e => (cs as e).bind fun us e1 => liftO ((gets us e1).bind (rngList own)) e1
end
end VI
set_option Elab.async false
set_option linter.all false
set_option maxRecDepth 100000
set_option maxHeartbeats 1000000
/-! VI22: the lambda's rule by promises; an empty dict. -/
namespace VI
open PySem PySem.Spec PyProof.Rows L2 LamX
/-- a def that calls what it got -/
structure HofAt (K : PySem.W.Frag) (mg : Str → Option Value) (x a : Str) (st : Stmt) : Prop where
  ex : ∃ (g : Addr) (dV kV doc pm cdv ct oc : Value) (an od : Option Addr) (osl : Array (Option Value)), mg x = some (.ref g) ∧ PySem.W.keepIn K (.ref g) = true ∧ K.lookup g = some ⟨oc, od, .func (PySem.W.fnOf x x (defArgs st) (defBody st) (defScope st) dV kV doc pm an cdv ct), osl⟩ ∧
    PySem.W.codeIn K cdv x = true ∧ L2.Binds K (PySem.W.fnOf x x (defArgs st) (defBody st) (defScope st) dV kV doc pm an cdv ct) [a] []
section
variable {Γ : Ctx} {X : Cx} {W : WX} {σ : L2.St} {H : Hp} {P : Addr → Prop} {ow o : List Addr} {e : En} {pins : List Nat}
theorem not_vis {sg : Scope} {dum : List Str} (h : (dum.all fun y => (sg.names.lookup y).isNone) = true) : ∀ y ∈ dum, ¬ Vis sg y := fun y hy v => by
  have := List.all_eq_true.mp h y hy
  rcases v with v | v | v <;> (rw [v] at this; cases this)
theorem se_lamD {x a : Str} {st : Stmt} {c PT : Addr} {k : Nat} {Ng0 dum : List Str} {params : Arguments} {body : Expr} {scope : Scope} {p lpos pos : Pos} {h : HDef} {cb : C} (D : HofAt X.K X.mg x a st) (hz : Γ.fix = []) (hg : Gl X x) (Sg : FnScope (Ng0 ++ dum) [a] (defScope st)) (h0 : Ng0[0]? = some a)
    (hn : h.n = Ng0.length) (hdl : dum.length = X.N.length) (hvis : (dum.all fun y => ((defScope st).names.lookup y).isNone) = true) (hva : Vis (defScope st) a)
    (hG : ∀ (g : Addr) (cdv : Value) (l : List (Nat × Option (Option V))) (cd : List (Addr × Str)) (s : Shared) (H : Hp) (act : C) (pins : List Nat), Room (k + 1) (X.A.deeper (envOfC x (defScope st) s.heap.objs.size g cdv)) → (∀ pn xe p1 p2, SE (Γ.withFix l cd) ((cxOf C8.CX0 X.prog X.w X.K X.mg X.base (Ng0 ++ dum) x (defScope st) g cdv X.A X.stack s H C8.E0).tr pn xe) (.Call (.Name a p1) [] [] p2) act) →
      SSs (Γ.withFix l cd) pins (cxOf C8.CX0 X.prog X.w X.K X.mg X.base (Ng0 ++ dum) x (defScope st) g cdv X.A X.stack s H C8.E0).nox (defBody st) (h.body pins act))
    (TB : TabB X.base X.mg c PT) (hcode : X.env.code = .ref c) (hmT : (PT, X.env.qual ++ "<lambda>") ∈ Γ.T) (hu : ∀ q ∈ Γ.T, q.1 = PT → q.2 = X.env.qual ++ "<lambda>") (hr : Room (k + 2) X.A) (L : LamS X.env.scope scope) (hdef : defaultsOf params X.env = ([], []))
    (hbind : ∀ (q : Str) (cl : List (Str × Addr)) (pm cv ctv : Value), bindArgs (PySem.W.kla_fn "<lambda>" q params body scope cl pm cv ctv) ⟨[], []⟩ = pure [])
    (hbody : ∀ (A : Around) (outer : List Env) (s : Shared) (H : Hp) (E : XK) (f c' : Addr), Room k (A.deeper (lamEnv X scope s.heap.objs.size f c')) → SE Γ (lamCx X A outer s H E scope f c') body cb)
    (hdb : (x == ("__debug__" : Str)) = false := by decide) (hd : (a == ("__debug__" : Str)) = false := by decide) (hcd : (a == ("__classdict__" : Str)) = false := by decide) :
    SE Γ X (.Call (.Name x p) [.Lambda params body scope lpos] [] pos) (cLam h cb) := by
  obtain ⟨g, dV, kV, doc, pm, cdv, ct, oc, an, od, osl, hm, hk, lk, hcg, hb⟩ := D.ex
  exact se_lam hz hg hm hk lk hcg hb Sg h0 hn hdl (not_vis hvis) hva (fun l cd s H act pins => hG g cdv l cd s H act pins) TB hcode hmT hu hr L hdef hbind hbody hdb hd hcd
theorem se_dic0 {pos : Pos} : SE Γ X (.Dict [] [] pos) (cV (.dic true [] [])) := fun W tk => pe_imp pe_dnewK fun σ H Q ⟨P, ow, e, ok, rel, acc⟩ => fun p hp => by
  obtain ⟨x3, k3, kp3⟩ := new_dic (ws := []) ok hp
  obtain ⟨x4, k4, kp4⟩ := ok_drop (g := []) (ow := ow) ok x3 k3
  refine acc (.ref p) _ P [p] ow x4 k4 ?_ (rel.kp kp4)
  show Rep Γ _ P (.dic true [] []) _ _
  simp only [Rep]
  exact ⟨p, [], [], rfl, upd_same, rfl, by simp [RepL], rfl⟩
end
end VI
set_option Elab.async false
set_option linter.all false
set_option maxRecDepth 100000
set_option maxHeartbeats 1000000
/-! VI23: comprehensions with two fors. -/
namespace VI
open PySem PySem.Spec PyProof.Rows L2
def lcLoop2 (tg : Tg) (t : CB) (it1 : CI) (tg1 : Tg) (t1 : CB) (el : C) (vs vs1 : List Nat) : List Val → List Val → En → Res (List Val)
  | [], acc, e => .ok acc e
  | x :: xs, acc, e => match asg [] tg x e with
    | none => .bad
    | some e1 => match t e1 with
      | .ok true e2 => match it1 e2 with
        | .ok ys e3 => if decide (acc.length + ys.length ≤ most) then match lcLoop tg1 t1 el vs1 ys acc (wipeE vs1 e3) with
            | .ok acc' e4 => lcLoop2 tg t it1 tg1 t1 el vs vs1 xs acc' (wipeE vs e4)
            | _ => .bad else .bad
        | _ => .bad
      | .ok false e2 => lcLoop2 tg t it1 tg1 t1 el vs vs1 xs acc (wipeE vs e2)
      | _ => .bad
/-- [el for tg in it if t for tg1 in it1 if t1] -/
def cLC2 (it : CI) (tg : Tg) (t : CB) (it1 : CI) (tg1 : Tg) (t1 : CB) (el : C) (vs vs1 : List Nat) : C := fun e => (it e).bind fun xs e1 =>
  match lcLoop2 tg t it1 tg1 t1 el vs vs1 xs [] (wipeE vs e1) with
  | .ok ys e2 => .ok (.val (.lst true ys)) (unwipe vs e1 e2)
  | _ => .bad
def thenR (r : Res (List Val)) (k : List Val → En → Res OV) : Res OV := match r with
  | .ok ys e => k ys e
  | _ => .bad
section
variable {Γ : Ctx} {X : Cx} {W : WX} {σ0 σ : L2.St} {H : Hp} {P : Addr → Prop} {ow o : List Addr} {e : En} {pins : List Nat}
end
end VI
set_option Elab.async false
set_option linter.all false
set_option maxRecDepth 100000
set_option maxHeartbeats 2000000
/-! VI24: tuple(text), sorted(tuple of ints), tuple * 1 and less. -/
namespace VI
open PySem PySem.Spec PyProof.Rows L2
section
variable {prog : Program} {w : World} {A : Around} {E : Value → Shared → Prop} {s : Shared}
theorem code_tuple_new_str {Q₁ : Value → Shared → Prop} (hh : A.handled = none) (x : Str) (t : Tok)
    (h : ∀ (s' : Shared) (acc : Array Value), (∀ b o, s.heap.get? b = some o → s'.heap.get? b = some o) → s'.gens = s.gens → s'.drawn = s.drawn → s'.os = s.os → ItemsOf (SignAt x) acc x.cps.size → Q₁ (.ref s'.heap.objs.size) { s' with heap := s'.heap.push { cls := .type "tuple", data := .seq acc } }) (hsz : x.cps.size ≤ sizeLine) :
    codeAny (model prog w) A (.call (.builtin "tuple.__new__") ⟨[.type "tuple", .str x t], []⟩) (wants Q₁ E) s := by
  refine codeAny_of_tree ?_
  show wpAny _ A.in1 (do checkBuiltinCall "tuple.__new__" ⟨[.type "tuple", .str x t], []⟩; again (.builtin "tuple.__new__" ⟨[.type "tuple", .str x t], []⟩)) _ _ s
  refine wpAny_bind (wpAny_of_eq (F.newCall_tuple_1 _) (wpAny_pure ⟨plainId_quiet F.plain_tuple_new _, codeAny_builtin F.entry_tuple_new ?_⟩))
  rw [Around.under_plainId F.plain_tuple_new _]
  have hsub := sub_tuple_self
  have hinit := init_tuple_lookup
  have hmh := madeHere_tuple
  have hTI : s.TypeIs (.str x t) "str" := rfl
  have hh1 : A.in1.handled = none := hh
  wp_walk using wpAny_typeOf hTI, wpAny_collect_str (hn := hsz) hh1 x t
  intro s' acc hk h1 h2 h3 hacc
  show wpAny _ _ (Builtin.Tuple.tupleExact acc.toList.toArray >>= fun v => ret v) _ _ _
  unfold Builtin.Tuple.tupleExact
  refine wpAny_bind (wpAny_newObj_type ?_ (by show acc.toList.toArray.size ≤ sizeLine; simp only [Array.toArray_toList]; rw [hacc.1]; exact hsz))
  refine wpAny_pure ?_
  have e : acc.toList.toArray = acc := by simp
  rw [e]
  exact h s' acc hk h1 h2 h3 hacc
theorem call_tuple_str {Q : Value → Shared → Prop} (hh : A.handled = none) (x : Str) (t : Tok)
    (hQ : ∀ (s' : Shared) (acc : Array Value), (∀ b o, s.heap.get? b = some o → s'.heap.get? b = some o) → s'.gens = s.gens → s'.drawn = s.drawn → s'.os = s.os → ItemsOf (SignAt x) acc x.cps.size → Q (.ref s'.heap.objs.size) { s' with heap := s'.heap.push { cls := .type "tuple", data := .seq acc } }) (hsz : x.cps.size ≤ sizeLine) :
    wpAny (model prog w) A (call (.type "tuple") [.str x t]) Q E s := by
  refine callType_codes (Q₁ := fun obj s₁ => s₁.TypeIs obj "tuple" ∧ Q obj s₁) F.called_tuple (F.typeCall_tuple_1 _) F.entry_object_init
    (code_tuple_new_str (A := A.in1) (hsz := hsz) hh x t fun s' acc a b c d e => ⟨⟨_, Heap.get?_push_size _ rfl, rfl⟩, hQ s' acc a b c d e⟩) fun obj s₁ h₁ => ?_
  exact ⟨h₁.1, F.args_object_init_2 obj _, object_init_meets F.called_tuple.init.lookup F.called_tuple.made (by decide) prog w A.in1 _ s₁ ⟨h₁.1, rfl, h₁.2⟩⟩
/-! ### tuple * int: the rest -/
theorem tuple_mulSame (l : Addr) (items : Array Value) (n : Nat) (dd : Option Addr) (sl : Array (Option Value)) (x : Int) (u : Tok) (c0 : (decide (x < -(2 ^ 63)) || decide (x ≥ 2 ^ 63)) = false) (c1 : (items.isEmpty || x == 1) = true) :
    Meets (Builtin.«tuple.__mul__» ⟨[.ref l, .int x u], []⟩) (fun _ R s => s.heap.get? l = some { cls := .type "tuple", dict := dd, data := .seq items n, slots := sl } ∧ R (.ok (.ret (Value.ref l))) s) :=
  .of_wp fun prog w A R s h => by
    obtain ⟨hp, g, d, tk, os⟩ := s
    obtain ⟨hl, h⟩ := h
    have f1 := AutoSeq1.idx_int
    have hT : Shared.TypeIs ⟨hp, g, d, tk, os⟩ (.ref l) "tuple" := ⟨_, hl, rfl⟩
    wp_walk using wpAny_loadPart' hl
    repeat (first
      | (refine wpAny_ite_false (decide_eq_false (by rw [c0]; exact Bool.false_ne_true)) ?_; wp_walk using wpAny_loadPart' hl)
      | (refine wpAny_ite_true (decide_eq_true c1) ?_; wp_walk using wpAny_loadPart' hl))
    exact ⟨_, rfl, h⟩
theorem tuple_mulNone (l : Addr) (items : Array Value) (n : Nat) (dd : Option Addr) (sl : Array (Option Value)) (x : Int) (u : Tok) (c0 : (decide (x < -(2 ^ 63)) || decide (x ≥ 2 ^ 63)) = false) (c1 : (items.isEmpty || x == 1) = false) (c2 : (decide (x ≤ 0) || items.isEmpty) = true) :
    Meets (Builtin.«tuple.__mul__» ⟨[.ref l, .int x u], []⟩) (fun _ R s => s.heap.get? l = some { cls := .type "tuple", dict := dd, data := .seq items n, slots := sl } ∧
      R (.ok (.ret (Value.ref s.heap.objs.size))) { s with heap := s.heap.push { cls := Value.type "tuple", data := Data.seq #[] }, toks := s.toks }) :=
  .of_wp fun prog w A R s h => by
    obtain ⟨hp, g, d, tk, os⟩ := s
    obtain ⟨hl, h⟩ := h
    have f1 := AutoSeq1.idx_int
    wp_walk using wpAny_loadPart' hl
    repeat (first
      | (refine wpAny_ite_false (decide_eq_false (by rw [c0]; exact Bool.false_ne_true)) ?_; wp_walk using wpAny_loadPart' hl)
      | (refine wpAny_ite_false (decide_eq_false (by rw [c1]; exact Bool.false_ne_true)) ?_; wp_walk using wpAny_loadPart' hl)
      | (refine wpAny_ite_true (decide_eq_true c2) ?_; wp_walk using wpAny_loadPart' hl))
    exact ⟨_, rfl, h⟩
end
section
variable {prog : Program} {w : World} {A : Around} {E : Value → Shared → Prop} {s : Shared}
/-- sorted(t), a tuple -/
theorem sorted_ordT {l : Addr} {vs : List Value} {ltv : Value → Value → Bool} {Q : Value → Shared → Prop} (O : SrtO.Swo ltv) (hl : s.heap.IsTuple l vs.toArray) (hz : vs.length ≤ sizeLine)
    (hS : 2 ≤ vs.length → ∀ (h₁ : Heap) (a : Addr), h₁.get? a = some (seqObj "list" vs.toArray 0) → (∀ b o, s.heap.get? b = some o → b ≠ a ∧ h₁.get? b = some o) → SrtO.SortableO prog w A.in1.in1 { s with heap := h₁ } a vs ltv)
    (h : ∀ (out : List Value) (hp : Heap), (∀ b o, s.heap.get? b = some o → hp.get? b = some o) → SrtO.Srtd ltv out → SrtO.Stb ltv out vs → Q (.ref hp.objs.size) { s with heap := sortedHeap (hp.push (seqObj "list" vs.toArray 0)) hp.objs.size vs out.toArray }) :
    wpAny (model prog w) A (call (.builtin "sorted") [.ref l]) Q E s := by
  obtain ⟨o, ho, hc, n, hd⟩ := id hl
  refine Calls.call_function_entry kind_sorted plain_sorted entry_sorted (args_sorted1 _) ?_
  unfold Builtin.«sorted»
  refine wpAny_bind (m := checkCount "sorted" 1 1 _) (wpAny_pure ?_)
  refine wpAny_bind (wpAny_collect_seq l (.inr rfl) ho hc hd (fun hp hk => ?_) (by rw [List.size_toArray]; exact hz))
  rw [show vs.toArray.toList = vs from by simp]
  refine wpAny_bind (wpAny_newList ?_ hz)
  have hoL : (hp.push (seqObj "list" vs.toArray 0)).get? hp.objs.size = some (seqObj "list" vs.toArray 0) := Heap.get?_push_size _ rfl
  have keep : ∀ b o, s.heap.get? b = some o → b ≠ hp.objs.size ∧ (hp.push (seqObj "list" vs.toArray 0)).get? b = some o := fun b o q =>
    ⟨Nat.ne_of_lt (Heap.lt_size (hk b o q)), Heap.get?_push_of_some _ (hk b o q)⟩
  show wpAny _ _ _ _ _ { s with heap := hp.push (seqObj "list" vs.toArray 0) }
  refine wpAny_bind (wpAny_holding (wpAny_call_entry slot_list_sort ⟨_, hoL, rfl⟩ entry_list_sort (SrtO.list_sort_ord O hoL hz (fun h2 => hS h2 _ _ hoL keep) fun out hs hb => ⟨_, rfl, ?_⟩) (args_list_sort _)))
  exact wpAny_pure ⟨_, rfl, h out hp hk hs hb⟩
end
/-! ### the rules -/
def tupleG (as : List Val) : Option Val := match as with
  | [.str s] => if decide (s.cps.size ≤ most) then some (.tup (signs s.cps.toList)) else none
  | _ => tupleV as
def sortedG (as : List Val) : Option Val := match as with
  | [.tup xs] => (toInts xs).map fun ns => .lst true (intsV (sortI ns))
  | _ => sortedLV as
def mulG (x y : Val) : Option Val := match x with
  | .tup xs => match y with
    | .int k => if isFzL xs && decide (k ≤ 1000 ∧ xs.length ≤ 1000 ∧ -1000 ≤ k) then some (.tup (rep xs k.toNat)) else none
    | _ => none
  | _ => mulV x y
section
variable {Γ : Ctx} {X : Cx} {W : WX} {σ : L2.St} {H : Hp} {P : Addr → Prop} {ow o : List Addr} {e : En}
def signsV (s : Str) : List V := s.cps.toList.map fun c => V.str ⟨#[c]⟩
def rTupS : List V → Hp → VK → Prop := fun xs H Q => ∃ z, xs = [.str z] ∧ z.length ≤ sizeLine ∧ ∀ l ob, H l = none → ob.dict = none → Q (.ref l) (upd H l (.frz ob (.tup (signsV z))))
theorem cr_tupS (hc : X.calm = true) : CallR X (.type "tuple") rTupS := by
  intro pins s σ H xs us Q I r h
  obtain ⟨z, rfl, hz, q⟩ := h
  obtain ⟨u, rfl, t, rfl⟩ := vals1 r
  refine call_tuple_str (I.ok.hd hc) z t (fun s' acc hk hg hd ho hacc => ?_) hz
  obtain ⟨hp, g, d, tk, os⟩ := s'
  simp only at hk hg hd ho
  subst hg hd ho
  have I1 : Inv X pins σ H { s with heap := hp, toks := tk } := I.kept hk
  have hv : Vals (signsV z) acc.toList := by
    have := vals_of_get acc.toList (fun j => V.str ⟨#[z.cps.getD j 0]⟩) fun j u hj => by
      have hj' : j < acc.size := by
        have := (List.getElem?_eq_some_iff.mp hj).1
        simpa using this
      obtain ⟨c, tt, e1, e2⟩ := hacc.2 j u (by rw [← hj, Array.getElem?_toList])
      refine ⟨tt, ?_⟩
      rw [e2]
      have : z.cps.getD j 0 = c := by rw [Array.getD_eq_getD_getElem?, e1]; rfl
      rw [this]
    have e : (List.range acc.toList.length).map (fun j => V.str ⟨#[z.cps.getD j 0]⟩) = signsV z := by
      unfold signsV
      apply List.ext_getElem?
      intro i
      have hl : acc.toList.length = z.cps.size := by rw [Array.length_toList]; exact hacc.1
      rw [List.getElem?_map, List.getElem?_map, hl]
      by_cases hi : i < z.cps.size
      · rw [List.getElem?_range hi]
        simp [hi]
      · rw [List.getElem?_eq_none (by simp; omega), List.getElem?_eq_none (by simp; omega)]
        rfl
    rw [e] at this
    exact this
  refine ⟨.ref hp.objs.size, _, I1.laid (t' := tk) (o := .frz { cls := .type "tuple", data := .seq acc } (.tup (signsV z))) (fun b ob q => Heap.get?_push_of_some _ q) (Nat.le_refl _) ?_, rfl, q _ _ (I1.hok.fresh (Nat.le_refl _)) rfl⟩
  exact ⟨Heap.get?_push_size _ rfl, by unfold signsV; rw [List.length_map, Array.length_toList]; exact hz, _, hv, IsTup.new hp acc⟩
theorem repL_signs : ∀ l : List Nat, RepL Γ H P (signs l) (l.map fun c => V.str ⟨#[c]⟩) []
  | [] => by simp [signs, RepL]
  | c :: r => repL_one rep_str (repL_signs r)
def rTupG (K : PySem.W.Frag) : List V → Hp → VK → Prop := fun xs H Q => rTupN K xs H Q ∨ rTupS xs H Q
theorem cr_tupG (hc : X.calm = true) : CallR X (.type "tuple") (rTupG X.K) := cr_tupN.or (cr_tupS hc)
theorem rd_tupG : RdN Γ tupleG (rTupG Γ.K) := fun H P xs z vs Q ok e hp k => by
  unfold tupleG at e
  split at e
  · split at e
    · rename_i s c
      cases e
      obtain ⟨v, rfl, o, r⟩ := pair1 hp
      simp only [Rep] at r
      have hz : s.length ≤ sizeLine := most_line (of_decide_eq_true c)
      refine .inr ⟨s, by rw [r.1], hz, fun l ob hl hob => out_tup ok hl hob (by unfold signsV; rw [List.length_map, Array.length_toList]; exact hz) (repL_signs _) k⟩
    · cases e
  · exact .inl (rd_tuple H P xs z vs Q ok e hp k)
/-! sorted -/
def rSortedT (K : PySem.W.Frag) : List V → Hp → VK → Prop := fun vs H Q => ∃ (a : Addr) (ns : List Int), vs = [V.ref a] ∧ SqT K H a (ns.map V.int) ∧
  ∀ (ns' : List Int) (p : Addr), ns'.Perm ns → ns'.Pairwise (· ≤ ·) → H p = none → Q (.ref p) (upd H p (.lst (ns'.map V.int)))
theorem cr_sortedTup : CallR X (.builtin "sorted") (rSortedT X.K) := by
  intro pins s σ H vs us Q I r h
  obtain ⟨a, ns, rfl, hs, q⟩ := h
  obtain ⟨its, rv, hl, hz⟩ := I.tuple hs
  rw [Vals.ref1 r]
  have hi := rv.ints
  refine sorted_ordT SrtO.swo_int hl (by rw [← rv.length]; exact hz) (fun h2 h₁ a' _ _ => SrtO.ints_sortable hi h2) fun out hp hk h1 h2 => ?_
  obtain ⟨k1, k2, k3⟩ := SrtO.ints_out hi h1 h2
  have I1 : Inv X pins σ H { s with heap := hp, toks := s.toks } := I.kept hk
  have hoL : (hp.push (seqObj "list" its.toArray 0)).get? hp.objs.size = some (seqObj "list" its.toArray 0) := Heap.get?_push_size _ rfl
  obtain ⟨ep, he'⟩ := PyProof.Rows.sortedHeap_at (vs := its) (out := out.toArray) hoL
  have hlen : ((out.map SrtO.iv).map V.int).length ≤ sizeLine := by
    rw [List.length_map, k2.length_eq]
    rw [List.length_map] at hz
    exact hz
  refine ⟨.ref _, upd H hp.objs.size (.lst ((out.map SrtO.iv).map V.int)), I1.laid (t' := s.toks) (fun b o e => ?_) (Nat.le_refl _) ⟨hlen, out, ep, vals_of_ints k1, he'⟩, rfl, q _ _ k2 k3 (I1.hok.fresh (Nat.le_refl _))⟩
  have hb : b < hp.objs.size := Heap.lt_size e
  rw [PyProof.Rows.sortedHeap_old (Nat.ne_of_lt hb) (by rw [PyProof.Rows.size_push']; exact Nat.lt_succ_of_lt hb)]
  exact Heap.get?_push_of_some _ e
def rSortedG (K : PySem.W.Frag) : List V → Hp → VK → Prop := fun vs H Q => rSortedI K vs H Q ∨ rSortedT K vs H Q
theorem cr_sortedG : CallR X (.builtin "sorted") (rSortedG X.K) := cr_sortedI.or cr_sortedTup
theorem rd_sortedG : RdN Γ sortedG (rSortedG Γ.K) := fun H P xs z vs Q ok e hp k => by
  unfold sortedG at e
  split at e
  · obtain ⟨ns, e1, rfl⟩ := Option.map_eq_some_iff.mp e
    obtain ⟨v, rfl, o, r⟩ := pair1 hp
    obtain ⟨a, ws, rfl, h, q⟩ := rep_tup r
    have := ints_rep q e1
    subst this
    refine .inr ⟨a, ns, rfl, TupN.sq h, fun ns' p hp hs hn => ?_⟩
    have : ns' = sortI ns := sorted_one (hp.trans (sortI_perm ns).symm) hs (sortI_sorted ns)
    subst this
    have hz : (List.map V.int ns).length ≤ sizeLine := ok.z a _ (.inr h)
    refine out_lst ok hn ?_ (repL_ints _) k
    rw [List.length_map] at hz ⊢
    rw [(sortI_perm ns).length_eq]
    exact hz
  · exact .inl (rd_sortedL H P xs z vs Q ok e hp k)
/-! tuple * int -/
def rRepSame (K : PySem.W.Frag) : R2 := fun x y H Q => ∃ l k xs, x = .ref l ∧ y = .int k ∧ SqT K H l xs ∧ (xs = [] ∨ k = 1) ∧ -1000 ≤ k ∧ k ≤ 1000 ∧ Q (.ref l) H
theorem op_repSame : OpR X (binaryOp .Mult) (rRepSame X.K) := by
  intro pins s σ H x y v u Q I rx ry h
  obtain ⟨l, k, xs, rfl, rfl, hT, hs, h1, h2, q⟩ := h
  cases rx
  obtain ⟨t, rfl⟩ := ry
  obtain ⟨its, r, ⟨⟨cls, dd, data, sl⟩, ho, hc, n, hd⟩, _⟩ := I.tuple hT
  simp only at hc hd
  subst hc hd
  have c0 : (decide (k < -(2 ^ 63)) || decide (k ≥ 2 ^ 63)) = false := by
    rw [decide_eq_false (by omega), decide_eq_false (by omega)] <;> rfl
  have c1 : (its.toArray.isEmpty || k == 1) = true := by
    rcases hs with rfl | rfl
    · have : its = [] := by cases r; rfl
      subst this
      rfl
    · simp
  exact wpAny_binaryOp_repeat_ref (T := "tuple") (U := "int") (by decide) ⟨_, ho, rfl⟩ (fun s' => typeIs_int s' k t) noFill_tuple_mul F.fills_int_mul F.slot_int_rmul repeat_tuple F.slot_int_index.lookup
    (call_meets F.slot_int_rmul (typeIs_int s k t) F.entry_int_rmul (F.args_int_rmul_2 _ _) (int_rmul_tuple k t l its.toArray n dd sl)
      ⟨ho, rfl, ⟨_, ho, rfl⟩, call_meets F.slot_tuple_mul ⟨_, ho, rfl⟩ F.entry_tuple_mul (F.args_tuple_mul_2 _ _) (tuple_mulSame l its.toArray n dd sl k t c0 c1) ⟨ho, ⟨.ref l, H, I, rfl, q⟩⟩⟩)
def rRepNone (K : PySem.W.Frag) : R2 := fun x y H Q => ∃ l k xs, x = .ref l ∧ y = .int k ∧ SqT K H l xs ∧ xs ≠ [] ∧ k ≤ 0 ∧ -1000 ≤ k ∧ ∀ p ob, H p = none → ob.dict = none → Q (.ref p) (upd H p (.frz ob (.tup [])))
theorem op_repNone : OpR X (binaryOp .Mult) (rRepNone X.K) := by
  intro pins s σ H x y v u Q I rx ry h
  obtain ⟨l, k, xs, rfl, rfl, hT, hne, h1, h2, q⟩ := h
  cases rx
  obtain ⟨t, rfl⟩ := ry
  obtain ⟨its, r, ⟨⟨cls, dd, data, sl⟩, ho, hc, n, hd⟩, _⟩ := I.tuple hT
  simp only at hc hd
  subst hc hd
  have hi : its.toArray.isEmpty = false := by
    cases its with
    | nil => exact absurd (by cases r; rfl) hne
    | cons a b => rfl
  have c0 : (decide (k < -(2 ^ 63)) || decide (k ≥ 2 ^ 63)) = false := by
    rw [decide_eq_false (by omega), decide_eq_false (by omega)] <;> rfl
  have c1 : (its.toArray.isEmpty || k == 1) = false := by
    rw [hi, Bool.false_or]
    exact beq_eq_false_iff_ne.mpr (by omega)
  have c2 : (decide (k ≤ 0) || its.toArray.isEmpty) = true := by rw [decide_eq_true h1, Bool.true_or]
  refine wpAny_binaryOp_repeat_ref (T := "tuple") (U := "int") (by decide) ⟨_, ho, rfl⟩ (fun s' => typeIs_int s' k t) noFill_tuple_mul F.fills_int_mul F.slot_int_rmul repeat_tuple F.slot_int_index.lookup
    (call_meets F.slot_int_rmul (typeIs_int s k t) F.entry_int_rmul (F.args_int_rmul_2 _ _) (int_rmul_tuple k t l its.toArray n dd sl)
      ⟨ho, rfl, ⟨_, ho, rfl⟩, call_meets F.slot_tuple_mul ⟨_, ho, rfl⟩ F.entry_tuple_mul (F.args_tuple_mul_2 _ _) (tuple_mulNone l its.toArray n dd sl k t c0 c1 c2) ⟨ho, ?_⟩⟩)
  refine ⟨.ref s.heap.objs.size, _, I.laid (t' := s.toks) (o := .frz { cls := .type "tuple", data := .seq #[] } (.tup [])) (fun b ob q => Heap.get?_push_of_some _ q) (Nat.le_refl _) ?_, rfl, q _ _ (I.hok.fresh (Nat.le_refl _)) rfl⟩
  exact ⟨Heap.get?_push_size _ rfl, Nat.zero_le _, [], .nil, IsTup.new _ _⟩
def rMulG (K : PySem.W.Frag) : R2 := fun x y H Q => rMulV K x y H Q ∨ rRepSame K x y H Q ∨ rRepNone K x y H Q
theorem opr_mulG : OpR X (binaryOp .Mult) (rMulG X.K) := opr_mul.or (op_repSame.or op_repNone)
theorem rep_none {α : Type} : ∀ n : Nat, VI.rep ([] : List α) n = []
  | 0 => rfl
  | n + 1 => by show [] ++ VI.rep ([] : List α) n = []; rw [rep_none n]; rfl
theorem rd_mulG : Rd2 Γ mulG (rMulG Γ.K) := fun H P x y z v u o1 o2 Q ok h r1 r2 k => by
  unfold mulG at h
  split at h
  · rename_i xs
    split at h
    · rename_i n
      split at h
      · rename_i c
        cases h
        simp only [Bool.and_eq_true, decide_eq_true_eq] at c
        obtain ⟨a, ws, rfl, e1, q1⟩ := rep_tup r1
        have q1 := repL_fz q1 c.1
        simp only [Rep] at r2
        by_cases hx : ws = []
        · refine .inr (.inl ⟨a, n, ws, rfl, r2.1, e1.sq, .inl hx, c.2.2.2, c.2.1, ?_⟩)
          have : xs = [] := List.eq_nil_of_length_eq_zero (by rw [q1.length, hx]; rfl)
          subst this
          rw [rep_none] at k
          exact k _ H P [] .refl ok (mk_tup e1 q1)
        · by_cases h1 : n = 1
          · subst h1
            refine .inr (.inl ⟨a, 1, ws, rfl, r2.1, e1.sq, .inr rfl, c.2.2.2, c.2.1, ?_⟩)
            exact k _ H P [] .refl ok (mk_tup e1 (by simpa [VI.rep] using q1))
          · by_cases h0 : n ≤ 0
            · refine .inr (.inr ⟨a, n, ws, rfl, r2.1, e1.sq, hx, h0, c.2.2.2, fun p ob hp hob => ?_⟩)
              have e0 : n.toNat = 0 := by omega
              rw [e0] at k
              exact out_tup ok hp hob (Nat.zero_le _) (by simp [VI.rep, RepL]) k
            · have hne : xs ≠ [] := fun e => hx (by subst e; exact List.eq_nil_of_length_eq_zero q1.length.symm)
              have hm : mulV (.tup xs) (.int n) = some (.tup (VI.rep xs n.toNat)) := by
                show (if isFzL xs && decide (n ≤ 1000 ∧ xs.length ≤ 1000 ∧ 2 ≤ n ∧ xs ≠ []) then _ else none) = _
                rw [if_pos (by simp only [Bool.and_eq_true, decide_eq_true_eq]; exact ⟨c.1, c.2.1, c.2.2.1, by omega, hne⟩)]
              exact .inl (rd_mul H P _ _ _ _ _ o1 o2 Q ok hm (mk_tup e1 (by have := r1; simpa only [Rep] using (show RepL Γ H P xs ws o1 from by
                obtain ⟨a', ws', e', f', g'⟩ := rep_tup r1
                cases e'
                cases e1.inj f'
                exact g'))) (by simp only [Rep]; exact r2) k)
      · cases h
    · cases h
  · exact .inl (rd_mul H P x y z v u o1 o2 Q ok h r1 r2 k)
end
end VI
set_option Elab.async false
set_option linter.all false
set_option maxRecDepth 100000
set_option maxHeartbeats 2000000
/-! VI25: where the defs stand; the end of a law. -/
namespace VI
open PySem PySem.Spec PyProof.Rows L2 LamX
/-- the def st as the function fd at f, its code at cdv -/
structure DFn (K : PySem.W.Frag) (x qual : Str) (st : Stmt) (f : Addr) (fd : FuncData) (cdv : Value) : Prop where
  ex : ∃ (oc : Value) (od : Option Addr) (kV doc pm : Value) (an : Option Addr) (ct : Value) (osl : Array (Option Value)),
    fd = PySem.W.fnOf x qual (defArgs st) (defBody st) (defScope st) .none kV doc pm an cdv ct ∧ K.lookup f = some ⟨oc, od, .func fd, osl⟩ ∧ PySem.W.codeIn K cdv qual = true
/-- .. and how it is found -/
structure DefIn (K : PySem.W.Frag) (x qual : Str) (st : Stmt) (ps : List Str) (cp : Value → Prop) (loc : Addr → Prop) : Prop where
  ex : ∃ (f : Addr) (fd : FuncData) (cdv : Value), DFn K x qual st f fd cdv ∧ Binds K fd ps [] ∧ cp cdv ∧ loc f
theorem defIn_mk {K : PySem.W.Frag} {x qual : Str} {st : Stmt} {ps : List Str} {cp : Value → Prop} {loc : Addr → Prop} {f : Addr} {oc : Value} {od an : Option Addr} {osl : Array (Option Value)} {kV doc pm cdv ct : Value}
    (l : K.lookup f = some ⟨oc, od, .func (PySem.W.fnOf x qual (defArgs st) (defBody st) (defScope st) .none kV doc pm an cdv ct), osl⟩) (c : PySem.W.codeIn K cdv qual = true)
    (h : ∀ us : List Value, us.length = ps.length → bindArgs (PySem.W.fnOf x qual (defArgs st) (defBody st) (defScope st) .none kV doc pm an cdv ct) ⟨us, []⟩ = pure (ps.zip us)) (hc : cp cdv) (hl : loc f) : DefIn K x qual st ps cp loc :=
  ⟨f, _, cdv, ⟨oc, od, kV, doc, pm, an, ct, osl, rfl, l, c⟩, .all h, hc, hl⟩
theorem hofAt_mk {K : PySem.W.Frag} {mg : Str → Option Value} {x a : Str} {st : Stmt} {g : Addr} {oc : Value} {od an : Option Addr} {osl : Array (Option Value)} {kV doc pm cdv ct : Value}
    (l : K.lookup g = some ⟨oc, od, .func (PySem.W.fnOf x x (defArgs st) (defBody st) (defScope st) .none kV doc pm an cdv ct), osl⟩) (c : PySem.W.codeIn K cdv x = true)
    (h : ∀ us : List Value, us.length = ([a] : List Str).length → bindArgs (PySem.W.fnOf x x (defArgs st) (defBody st) (defScope st) .none kV doc pm an cdv ct) ⟨us, []⟩ = pure (([a] : List Str).zip us)) (hm : mg x = some (.ref g)) (hk : PySem.W.keepIn K (.ref g) = true) : HofAt K mg x a st :=
  ⟨g, .none, kV, doc, pm, cdv, ct, oc, an, od, osl, hm, hk, l, c, .all h⟩
section
variable {Γ : Ctx} {P : Program} {w : World} {K : PySem.W.Frag} {mg : Str → Option Value} {base : Heap}
theorem def_okC {x qual : Str} {st : Stmt} {f : Addr} {fd : FuncData} {cdv : Value} {N ps : List Str} {m k n d : Nat} {fdv : FDef} {Pr : Nat → Option FDef} (hz : Γ.fix = []) (F : DFn K x qual st f fd cdv) (S : FnScope N ps (defScope st)) (hP : Pr n = some fdv) (hn : fdv.n = N.length) (hp : fdv.np = ps.length) (hrefs : ∀ i ∈ fdv.refs, i < fdv.np) (hk : k = m + 1)
    (hbody : ∀ (A : Around) (outer : List Env) (s : Shared) (H : Hp) (E : XK), Room m (A.deeper (envOfC qual (defScope st) s.heap.objs.size f cdv)) →
      SSs Γ fdv.refs (cxOf (L2.CX P w) P w K mg base N qual (defScope st) f cdv A outer s H E) (defBody st) (fdv.body (callN Pr d))) :
    FnOk P w K mg base (L2.CX P w) k f fd ps (spF Γ (callN Pr (d + 1)) n) := by
  subst hk
  obtain ⟨oc, od, kV, doc, pm, an, ct, osl, rfl, lk, hcd⟩ := F.ex
  refine L2.fn_of lk hcd S (fun vs H Q E h => ?_) fun A outer s H vs Q E hr h => ?_
  · obtain ⟨P', ow, xs, ok, r, acc⟩ := h
    simp only [callN, hP] at acc
    unfold runDef at acc
    split at acc
    · rename_i hl
      rw [← r.length, hl, hp]
    · exact acc.elim
  · obtain ⟨P', ow, xs, ok, r, acc⟩ := h
    simp only [callN, hP] at acc
    exact ⟨_, hbody A outer s H E hr (fun p hp => by rw [hz] at hp; cases hp) (fun cls d _ H' => E cls d H') (takes_of rfl rfl rfl rfl), run_acc hz hn hrefs ok r acc⟩
end
/-! ### the end -/
def ZOk (H : Hp) : Prop := ∀ a xs, Rd H a (.lst xs) ∨ TupN H a xs → xs.length ≤ sizeLine
/-- the law's promise, where every list's size is known -/
def spW (Γ : Ctx) (call : Call) (f : Nat) : Sp := fun vs H Q E => vs.length = 1 ∧ (ZOk H → spF Γ call f vs H Q E)
theorem zok_of {P : Program} {w : World} {H : Hp} {h : Heap} (hok : HOk P w H h) : ZOk H := fun a xs hh => by
  rcases hh with (hh | ⟨o, hh⟩) | ⟨o, hh, _⟩
  · exact (hok a _ hh).1
  · exact (hok a _ hh).2.1
  · exact (hok a _ hh).2.1
theorem law_sp {Γ : Ctx} {H : Hp} {a : Addr} {ns : List Int} {call : Call} {f : Nat} {outs : List (Nat × Val)} (hcod : Γ.cod = []) (hT : ∀ p ∈ Γ.T, H p.1 = some (.tbl #[])) (hS : SqL Γ.K H a (ns.map V.int)) (hc : call f [.lst false (intsV ns)] = .ok (.bl true) outs) :
    spW Γ call f [.ref a] H (fun v _ => v = .bl true) fun _ _ _ => False := by
  refine ⟨rfl, fun z => ?_⟩
  have tb : TabsC Γ H := ⟨fun p hp => ⟨#[], hT p hp, by exact trivial, fun pos cv e => (by cases e)⟩, fun p hp => (by rw [hcod] at hp; cases hp)⟩
  have fin : ∀ P : Addr → Prop, Ok Γ H P [] → Still Γ H P a (ns.map V.int) → spF Γ call f [.ref a] H (fun v _ => v = .bl true) fun _ _ _ => False := fun P ok st => by
    refine ⟨P, [], [.lst false (intsV ns)], ok, ?_, ?_⟩
    · exact repL_one (by simp only [Rep]; exact ⟨a, _, rfl, st, repL_ints ns⟩) (by simp [RepL])
    · rw [hc]
      intro v H' P' o o' _ _ r _
      simp only [Rep] at r
      exact r.1
  rcases hS with h | h
  · refine fin (fun b => b = a) ⟨fun b e => ?_, fun b z => (by cases z), fun b z => (by cases z), List.nodup_nil, tb, z⟩ (.inl ⟨h, rfl⟩)
    subst e
    rcases h with h | ⟨o, h⟩
    · exact ⟨_, h, fun ps q => by cases q⟩
    · exact ⟨_, h, fun ps q => by cases q⟩
  · exact fin (fun _ => False) ⟨fun b e => e.elim, fun b z => (by cases z), fun b z => (by cases z), List.nodup_nil, tb, z⟩ (.inr h)
/-- the table of the def x is known and empty -/
def TabX (K : PySem.W.Frag) (h : Heap) (x : Str) : Prop := ∀ c P, PySem.W.tabIn K x = some (c, P) → PySem.W.CodeHd h c P ∧ h.get? P = some { cls := .none, data := .fields #[] }
theorem tabIn_mk {K : PySem.W.Frag} {x : Str} {f c P : Addr} {oc : Value} {od : Option Addr} {fd : FuncData} {osl : Array (Option Value)} {ec : Value} {dd : Option Addr} {vs : Array Value} {sl : Array (Option Value)} (a : PySem.W.nsIn K mainGlobals x = some (some (.ref f))) (l : K.lookup f = some ⟨oc, od, .func fd, osl⟩) (hc : fd.code = .ref c)
    (u : K.lookup c = some ⟨ec, dd, .fields vs, sl⟩) (v : vs[11]? = some (.ref P)) : PySem.W.tabIn K x = some (c, P) := by
  unfold PySem.W.tabIn
  simp only [a, l, hc, u, v]
end VI
set_option Elab.async false
set_option linter.all false
set_option maxRecDepth 100000
/-! VM1: sum, min, max of lists and tuples of ints; count, index. -/
namespace VI
open PySem PySem.Spec PyProof.Rows L2
section
variable {Γ : Ctx} {X : Cx} {W : WX} {σ : L2.St} {H : Hp} {P : Addr → Prop} {ow o : List Addr} {e : En} {i : Nat} {pins : List Nat}
/-! ### sum -/
def rSumT (K : PySem.W.Frag) : List V → Hp → VK → Prop := fun vs H Q => ∃ (a : Addr) (ns : List Int), vs = [V.ref a] ∧ SqT K H a (ns.map V.int) ∧ Q (.int ns.sum) H
theorem cr_sumT (hc : X.calm = true) : CallR X (.builtin "sum") (rSumT X.K) := by
  intro pins s σ H vs us Q I r h
  obtain ⟨a, ns, rfl, hs, q⟩ := h
  obtain ⟨its, rv, hl, _⟩ := I.tuple hs
  rw [Vals.ref1 r]
  have hi := rv.ints
  obtain ⟨xs, e⟩ := hi.allInts.items
  have hn : numsOf (intItems xs).toList = ns := by rw [← e]; exact hi.numsOf
  rw [nums_intItems] at hn
  have hl' : IsTup s.heap a its.toArray := hl
  rw [e] at hl'
  obtain ⟨o, ho, hcl, n, hd⟩ := hl'
  refine PySem.W.ktm_sumG (I.ok.hd hc) ⟨o, ho, hcl, n, hd⟩ fun h' tk t' hk => ?_
  rw [preSum_eq, List.take_of_length_le (by simp), hn]
  exact ⟨.int _, H, I.kept hk, ⟨_, rfl⟩, q⟩
def rSumG (K : PySem.W.Frag) : List V → Hp → VK → Prop := fun vs H Q => rSum K vs H Q ∨ rSumT K vs H Q
theorem cr_sumG (hc : X.calm = true) : CallR X (.builtin "sum") (rSumG X.K) := (cr_sum hc).or (cr_sumT hc)
def sumGV (as : List Val) : Option Val := match as with
  | [.tup xs] => (toInts xs).map fun ns => .int (sumL ns)
  | _ => sumLV as
theorem rd_sumG : RdN Γ sumGV (rSumG Γ.K) := fun H P xs z vs Q ok e hp k => by
  unfold sumGV at e
  split at e
  · obtain ⟨ns, e1, rfl⟩ := Option.map_eq_some_iff.mp e
    obtain ⟨v, rfl, o, r⟩ := pair1 hp
    obtain ⟨a, ws, rfl, h, q⟩ := rep_tup r
    have := ints_rep q e1
    subst this
    refine .inr ⟨a, ns, rfl, TupN.sq h, ?_⟩
    rw [← sumL_eq]
    exact k _ H P [] .refl ok rep_int
  · exact .inl (rd_sumL H P xs z vs Q ok e hp k)
/-! ### min, max of one list or tuple of ints, not empty -/
def minL : List Int → Option Int
  | [] => none
  | n :: ns => some (ns.foldl min n)
def maxL : List Int → Option Int
  | [] => none
  | n :: ns => some (ns.foldl max n)
def seqInts (x : Val) : Option (List Int) := (seqItems x).bind toInts
def minSV : List Val → Option Val
  | [x] => (seqInts x).bind fun ns => (minL ns).map .int
  | _ => none
def maxSV : List Val → Option Val
  | [x] => (seqInts x).bind fun ns => (maxL ns).map .int
  | _ => none
def rExtr (K : PySem.W.Frag) (f : List Int → Option Int) : List V → Hp → VK → Prop := fun vs H Q => ∃ (a : Addr) (ns : List Int) (m : Int), vs = [V.ref a] ∧ (SqL K H a (ns.map V.int) ∨ SqT K H a (ns.map V.int)) ∧ f ns = some m ∧ Q (.int m) H
/-! ### methods that read: x.m(y); chk: what is asked of x ahead of y -/
def isLst : Val → Bool
  | .lst _ _ => true
  | _ => false
def cM (chk : Val → Bool) (f : Val → Val → Option Val) (a b : C) : C := fun e => (a e).bind fun u e1 => match u.get e1 with
  | some x0 => if chk x0 then (b e1).bind fun w e2 => liftO ((u.get e2).bind fun x => (w.get e2).bind fun y => f x y) e2 else .bad
  | none => .bad
/-- the second argument alone -/
def on1 (r : R2) : V → List V → Hp → VK → Prop := fun x xs H Q => ∃ y, xs = [y] ∧ r x y H Q
/-- how many items are == y -/
def countV (x y : Val) : Option Val := match x with
  | .lst _ xs => if isD (.lst false xs) && isD y then some (.int (xs.countP fun z => eqV0 z y)) else none
  | _ => none
def rCntD (K : PySem.W.Frag) : R2 := fun x y H Q => ∃ (a : Addr) (d : PyData) (ds : List PyData), x = V.ref a ∧ Dp K H (V.ref a) (.list ds) ∧ Dp K H y d ∧ SeqAt.shaped (.list ds) = true ∧ SeqAt.shaped d = true ∧ Q (.int (ds.countP fun z => PyData.eqv z d : Nat)) H
/-- the first place of an item that is == y -/
def indexV (x y : Val) : Option Val := match x with
  | .lst _ xs => if isD (.lst false xs) && isD y then (xs.findIdx? fun z => eqV0 z y).map fun j => .int (j : Nat) else none
  | _ => none
def rIxD (K : PySem.W.Frag) : R2 := fun x y H Q => ∃ (a : Addr) (d : PyData) (ds : List PyData) (j : Nat) (z : PyData), x = V.ref a ∧ Dp K H (V.ref a) (.list ds) ∧ Dp K H y d ∧
  SeqAt.shaped (.list ds) = true ∧ SeqAt.shaped d = true ∧ ds[j]? = some z ∧ PyData.eqv z d = true ∧ (∀ (m : Nat) (z' : PyData), m < j → ds[m]? = some z' → PyData.eqv z' d = false) ∧ Q (.int (j : Nat)) H
end
end VI
set_option Elab.async false
set_option linter.all false
set_option maxRecDepth 100000
set_option maxHeartbeats 2000000
/-! VN1: count, index of lists and of tuples that the run made. -/
namespace VI
open PySem PySem.Spec PyProof.Rows L2
section
variable {Γ : Ctx} {X : Cx} {W : WX} {σ : L2.St} {H : Hp} {P : Addr → Prop} {ow o : List Addr} {e : En}
def countT (x y : Val) : Option Val := match x with
  | .tup xs => if isD (.tup xs) && isD y then some (.int (xs.countP fun z => eqV0 z y)) else none
  | _ => none
def indexT (x y : Val) : Option Val := match x with
  | .tup xs => if isD (.tup xs) && isD y then (xs.findIdx? fun z => eqV0 z y).map fun j => .int (j : Nat) else none
  | _ => none
/-- a.m(b): f where a is a list, g where it is a tuple -/
def cMG (f g : Val → Val → Option Val) (a b : C) : C := fun e => (a e).bind fun u e1 => match u.get e1 with
  | some (.lst _ _) => (b e1).bind fun w e2 => liftO ((u.get e2).bind fun x => (w.get e2).bind fun y => f x y) e2
  | some (.tup _) => (b e1).bind fun w e2 => liftO ((u.get e2).bind fun x => (w.get e2).bind fun y => g x y) e2
  | _ => .bad
def rCntT (K : PySem.W.Frag) : R2 := fun x y H Q => ∃ (a : Addr) (d : PyData) (ds : List PyData), x = V.ref a ∧ Dp K H (V.ref a) (.tuple ds) ∧ Dp K H y d ∧ SeqAt.shaped (.tuple ds) = true ∧ SeqAt.shaped d = true ∧ Q (.int (ds.countP fun z => PyData.eqv z d : Nat)) H
def rIxT (K : PySem.W.Frag) : R2 := fun x y H Q => ∃ (a : Addr) (d : PyData) (ds : List PyData) (j : Nat) (z : PyData), x = V.ref a ∧ Dp K H (V.ref a) (.tuple ds) ∧ Dp K H y d ∧
  SeqAt.shaped (.tuple ds) = true ∧ SeqAt.shaped d = true ∧ ds[j]? = some z ∧ PyData.eqv z d = true ∧ (∀ (m : Nat) (z' : PyData), m < j → ds[m]? = some z' → PyData.eqv z' d = false) ∧ Q (.int (j : Nat)) H
/-! the rules -/
def tCM (K : PySem.W.Frag) (rl rt : V → List V → Hp → VK → Prop) (to : TE) (t : TA) : TE := fun σ H Q => to σ H fun x H1 => (tyV K "list" x H1 ∧ t σ H1 fun xs H2 => rl x xs H2 Q) ∨ ((∃ p xs, x = .ref p ∧ TupN H1 p xs) ∧ t σ H1 fun xs H2 => rt x xs H2 Q)
end
end VI
set_option Elab.async false
set_option linter.all false
set_option maxRecDepth 100000
/-! VM2: x[::-1] of tuples and lists, join, list(range(..)), dict of pairs. -/
namespace VI
open PySem PySem.Spec PyProof.Rows L2
section
variable {prog : Program} {w : World} {A : Around} {E : Value → Shared → Prop} {s : Shared}
theorem slicePart_any {v : Value} {o : Option Int} {Q : Option Int → Shared → Prop} (p : IsPart v o) (h : Q o s) : wpAny (model prog w) A (Builtin.Slice.slicePartIndex v) Q E s := HT.slicePart_ p h
theorem sliceApplied_rev {sl : Addr} {vl vu vk : Value} {n : Nat} {Q : Int × Int × Nat → Shared → Prop} (hs : s.heap.IsSliceOf sl vl vu vk) (pl : IsPart vl none) (pu : IsPart vu none) (pk : IsPart vk (some (-1)))
    (h : Q ((n : Int) - 1, -1, n) s) : wpAny (model prog w) A (Builtin.Slice.sliceApplied (.ref sl) (pure (n : Int))) Q E s := by
  obtain ⟨os, hos, hcs, hds⟩ := id hs
  unfold Builtin.Slice.sliceApplied Builtin.Slice.sliceFields
  refine wpAny_bind (wpAny_bind (wpAny_field hos hds (x := vl) rfl (wpAny_bind (wpAny_field hos hds (x := vu) rfl (wpAny_bind (wpAny_field hos hds (x := vk) rfl (wpAny_pure ?_)))))))
  refine wpAny_bind (slicePart_any pk ?_)
  show wpAny _ _ (if ((-1 : Int) == 0) = true then _ else _) _ _ s
  rw [if_neg (by decide)]
  refine wpAny_bind (slicePart_any pl (wpAny_bind (slicePart_any pu (wpAny_bind (wpAny_pure ?_)))))
  have e1 : Builtin.Slice.sliceAdjust none none (-1) (n : Int) = ((n : Int) - 1, -1) := rfl
  have e2 : Builtin.Slice.slicePlaces ((n : Int) - 1) (-1) (-1) = n := by
    unfold Builtin.Slice.slicePlaces
    have h1 : ¬ ((-1 : Int) > 0) := by decide
    simp only [h1, if_false, Int.neg_neg, Int.ediv_one]
    split <;> omega
  show wpAny _ _ (match Builtin.Slice.sliceAdjust none none (-1) (n : Int) with | (lo, hi) => pure (lo, (-1 : Int), Builtin.Slice.slicePlaces lo hi (-1))) _ _ s
  rw [e1]
  show wpAny _ _ (pure ((n : Int) - 1, (-1 : Int), Builtin.Slice.slicePlaces ((n : Int) - 1) (-1) (-1))) _ _ s
  rw [e2]
  exact wpAny_pure h
theorem pick_rev (xs : Array Value) : ((List.range xs.size).filterMap fun (k : Nat) => xs[((xs.size : Int) - 1 + (k : Int) * (-1)).toNat]?) = xs.toList.reverse := by
  have e : (fun (k : Nat) => xs[((xs.size : Int) - 1 + (k : Int) * (-1)).toNat]?) = (xs[·]?) ∘ (fun k => xs.size - 1 - k) := by
    funext k
    show xs[((xs.size : Int) - 1 + (k : Int) * (-1)).toNat]? = xs[xs.size - 1 - k]?
    congr 1
    omega
  rw [e, ← List.filterMap_map, PySem.W.krv_range, List.filterMap_reverse, PySem.W.krv_all]
theorem getItem_tuple_rev {t sl : Addr} {items : Array Value} {vl vu vk : Value} {Q : Value → Shared → Prop} (ht : IsTup s.heap t items) (hs : s.heap.IsSliceOf sl vl vu vk) (pl : IsPart vl none) (pu : IsPart vu none) (pk : IsPart vk (some (-1)))
    (h : Q (.ref s.heap.objs.size) { s with heap := s.heap.push { cls := .type "tuple", data := .seq items.toList.reverse.toArray } })
    (hsz : items.size ≤ sizeLine) : wpAny (model prog w) A (getItem (.ref t) (.ref sl)) Q E s := by
  have htake : sizeOk (.seq items.toList.reverse.toArray) := by
    show items.toList.reverse.toArray.size ≤ sizeLine
    rw [List.size_toArray, List.length_reverse, Array.length_toList]
    exact hsz
  obtain ⟨os, hos, hcs, hds⟩ := id hs
  have hTs : s.TypeIs (.ref sl) "slice" := ⟨os, hos, hcs⟩
  unfold getItem
  try with_reducible refine wpAny_holding ?_
  first | refine wpAny_bind (wpAny_pure ?_) | skip
  refine wpAny_bind (wpAny_sequenceKey ht.typeIs (by decide) ?_)
  refine wpAny_bind (wpAny_callSpecial?_slot (name := Str.ofString "__getitem__") ht.typeIs PyProof.Rows.slot_tuple_getitem
    (wpAny_call_entry PyProof.Rows.slot_tuple_getitem ht.typeIs entry_tuple_getitem ?_ (args_tuple_getitem _ _)))
  show wpAny _ _ (Builtin.Tuple.tupleItemsOf (.ref t) >>= _) _ _ s
  refine wpAny_bind (tupleItemsOf_ ht ?_)
  refine wpAny_bind (wpAny_typeOf hTs ?_)
  rw [if_pos (by decide)]
  refine wpAny_bind (sliceApplied_rev hs pl pu pk ?_)
  have hno : ¬ ((((items.size : Int) - 1 == 0 && (-1 : Int) == 1 && items.size == items.size)) = true) := by
    intro q
    rw [Bool.and_eq_true, Bool.and_eq_true] at q
    exact absurd q.1.2 (by decide)
  show wpAny _ _ (if ((items.size : Int) - 1 == 0 && (-1 : Int) == 1 && items.size == items.size) = true then _ else _) _ _ s
  rw [if_neg hno, pick_rev]
  first
    | exact wpAny_bind (m := Builtin.Tuple.tupleExact _) (wpAny_newObj_type (wpAny_pure ⟨_, rfl, wpAny_pure h⟩) htake)
    | exact wpAny_bind (m := Builtin.Tuple.tupleExact _) (wpAny_newObj_type (wpAny_bind (wpAny_pure (wpAny_pure ⟨_, rfl, wpAny_pure h⟩))) htake)
    | exact wpAny_bind (wpAny_bind (m := Builtin.Tuple.tupleExact _) (wpAny_newObj_type (wpAny_pure (wpAny_pure ⟨_, rfl, wpAny_pure h⟩)) htake))
    | exact wpAny_bind (wpAny_bind (m := Builtin.Tuple.tupleExact _) (wpAny_newObj_type (wpAny_pure ⟨_, rfl, wpAny_pure h⟩) htake))
end
section
variable {Γ : Ctx} {X : Cx} {W : WX} {σ : L2.St} {H : Hp} {P : Addr → Prop} {ow o : List Addr} {e : En} {i : Nat} {pins : List Nat}
def rRev (K : PySem.W.Frag) : V → Hp → VK → Prop := fun x H Q => ∃ a xs, x = .ref a ∧ ((SqL K H a xs ∧ ∀ p, H p = none → Q (.ref p) (upd H p (.lst xs.reverse))) ∨ (SqT K H a xs ∧ ∀ p ob, H p = none → ob.dict = none → Q (.ref p) (upd H p (.frz ob (.tup xs.reverse)))))
theorem pe_rev {e : Expr} {te : TE} {k : Nat} {p1 p2 p3 pos : Pos} (he : PE X e te) : PE X (.Subscript e (.Slice none none (some (.UnaryOp .USub (.Constant (.int 1) k p1) p2)) p3) pos) (tUn (rRev X.K) te) := by
  refine ⟨fun pins s σ H Q I h => ?_⟩
  refine Subscript_ (thn (he.run pins s σ H _ I h) fun v s1 ⟨x, H1, I1, r1, q1⟩ => ?_)
  obtain ⟨a, xs, ex, q⟩ := q1
  subst ex
  cases r1
  have hst : PO X (some (.UnaryOp .USub (.Constant (.int 1) k p1) p2)) (tPart (tUn (rU fun i => .int (-i)) (tC (.int 1)))) := po_some (pe_un un_neg pe_int)
  refine wpAny_Slice (thn (po_none.run pins s1 σ H1 (fun o H2 => o = none ∧ H2 = H1) I1 ⟨rfl, rfl⟩) fun vl s2 ⟨l, H2, I2, pl, el, e2⟩ => ?_)
  subst el e2
  refine thn (po_none.run pins s2 σ H2 (fun o H3 => o = none ∧ H3 = H2) I2 ⟨rfl, rfl⟩) fun vu s3 ⟨u, H3, I3, pu, eu, e3⟩ => ?_
  subst eu e3
  refine thn (hst.run pins s3 σ H3 (fun o H4 => o = some (-1) ∧ H4 = H3) I3 ⟨1, rfl, -1, rfl, rfl, rfl⟩) fun vs s4 ⟨o, H4, I4, ps, eo, e4⟩ => ?_
  subst eo e4
  have I5 : Inv X pins σ H4 { s4 with heap := s4.heap.push { cls := .type "slice", data := .fields #[vl, vu, vs] } } := I4.kept (t' := s4.toks) fun b ob q => Heap.get?_push_of_some _ q
  show wpAny (model X.prog X.w) X.A (subscriptTail e (.Slice none none (some (.UnaryOp .USub (.Constant (.int 1) k p1) p2)) p3) (.ref a) (.ref s4.heap.objs.size)) (EP X pins σ Q) X.xe { s4 with heap := s4.heap.push { cls := .type "slice", data := .fields #[vl, vu, vs] } }
  rcases q with ⟨hx, q⟩ | ⟨hx, q⟩
  · obtain ⟨its, r, ht, hz⟩ := I5.list hx
    have hlen := r.length
    refine tail_any (ops := [.ref a, .ref s4.heap.objs.size]) ht.isList.typeIs (PySem.slot_list_getitem.lookup) ?_ (by with_unfolding_all rfl)
    refine wpAny_getItem_list_slice ht.isList (Heap.IsSliceOf.new _ vl vu vs) pl pu ps (by decide) ?_ (by rw [List.size_toArray]; omega)
    rw [PySem.W.krv_pick]
    refine ⟨.ref _, _, I5.laid (t' := s4.toks) (o := .lst xs.reverse) (fun b ob q => Heap.get?_push_of_some _ q) (Nat.le_refl _) ?_, rfl, q _ (I5.hok.fresh (Nat.le_refl _))⟩
    exact ⟨by rw [List.length_reverse]; exact hz, _, 0, r.reverse, Heap.get?_push_size _ rfl⟩
  · obtain ⟨its, r, ht, hz⟩ := I5.tuple hx
    have hlen := r.length
    refine tail_any (ops := [.ref a, .ref s4.heap.objs.size]) ht.typeIs (PyProof.Rows.slot_tuple_getitem.lookup) ?_ (by with_unfolding_all rfl)
    refine getItem_tuple_rev ht (Heap.IsSliceOf.new _ vl vu vs) pl pu ps ?_ (by rw [List.size_toArray]; omega)
    refine ⟨.ref _, _, I5.laid (t' := s4.toks) (o := .frz { cls := .type "tuple", data := .seq its.reverse.toArray } (.tup xs.reverse)) (fun b ob q => Heap.get?_push_of_some _ q) (Nat.le_refl _) ?_, rfl, q _ _ (I5.hok.fresh (Nat.le_refl _)) rfl⟩
    exact ⟨Heap.get?_push_size _ rfl, by rw [List.length_reverse]; exact hz, _, r.reverse, IsTup.new _ _⟩
def revV : Val → Option Val
  | .tup xs => if isFzL xs then some (.tup xs.reverse) else none
  | .lst _ xs => if isFzL xs then some (.lst true xs.reverse) else none
  | _ => none
theorem mem_fzL : ∀ {xs : List Val} {j : Nat} {x : Val}, isFzL xs = true → xs[j]? = some x → isFz x = true
  | [], j, x, _, h => by simp at h
  | y :: ys, 0, x, hz, h => by
    simp only [isFzL, Bool.and_eq_true] at hz
    simp at h
    subst h
    exact hz.1
  | y :: ys, j + 1, x, hz, h => by
    simp only [isFzL, Bool.and_eq_true] at hz
    simp at h
    exact mem_fzL hz.2 h
theorem repL_reverse {xs : List Val} {ws : List V} (h : RepL Γ H P xs ws o) (hf : isFzL xs = true) : RepL Γ H P xs.reverse ws.reverse [] := by
  refine RepL.of_fz (by rw [List.length_reverse, List.length_reverse, h.length]) fun i x hx => ?_
  have hi : i < xs.length := by have := (List.getElem?_eq_some_iff.mp hx).1; rwa [List.length_reverse] at this
  rw [List.getElem?_reverse hi] at hx
  obtain ⟨w, o', e1, r⟩ := h.get hx
  have hl := h.length
  have := r.nil (mem_fzL hf hx)
  subst this
  exact ⟨w, by rw [List.getElem?_reverse (by omega), ← hl]; exact e1, r⟩
theorem rd_rev : Rd1 Γ revV (rRev Γ.K) := fun H P x z v o1 Q ok hf r k => by
  unfold revV at hf
  split at hf
  · split at hf
    · rename_i xs c
      cases hf
      obtain ⟨a, ws, rfl, h, q⟩ := rep_tup r
      have hz := ok.z a ws (.inr h)
      have q2 := repL_reverse q c
      refine ⟨a, ws, rfl, .inr ⟨h.sq, fun p ob hp hob => ?_⟩⟩
      exact out_tup ok hp hob (by rw [List.length_reverse]; exact hz) q2 k
    · cases hf
  · split at hf
    · rename_i b xs c
      cases hf
      obtain ⟨a, ws, o', rfl, h, q⟩ := rep_lst r
      have q2 := repL_reverse q c
      refine ⟨a, ws, rfl, .inl ⟨h, fun p hp => ?_⟩⟩
      exact out_lst ok hp (by rw [List.length_reverse]; exact sq_len ok h) q2 k
    · cases hf
  · cases hf
theorem se_rev {a : Expr} {ca : C} {k : Nat} {p1 p2 p3 pos : Pos} (hX : X.K = Γ.K) (ha : SE Γ X a ca) : SE Γ X (.Subscript a (.Slice none none (some (.UnaryOp .USub (.Constant (.int 1) k p1) p2)) p3) pos) (c1 revV ca) :=
  se_1 (fun ta h => pe_rev h) (by rw [hX]; exact rd_rev) ha
/-! ### sep.join(xs) -/
def isSt : Val → Bool
  | .str _ => true
  | _ => false
def strsOf : List Val → Option (List Str)
  | [] => some []
  | .str s :: r => (strsOf r).map (s :: ·)
  | _ :: _ => none
def joinV (x y : Val) : Option Val := match x with
  | .str a => ((seqItems y).bind strsOf).bind fun ys => if decide ((ys.map (·.length)).sum + ys.length * a.length ≤ 16777216) then some (.str (Txt.join a ys)) else none
  | _ => none
def rJoin (K : PySem.W.Frag) : R2 := fun x y H Q => ∃ a p, ∃ ys : List Str, x = .str a ∧ y = .ref p ∧ (SqL K H p (ys.map V.str) ∨ SqT K H p (ys.map V.str)) ∧ (ys.map (·.length)).sum + ys.length * a.length ≤ 16777216 ∧ Q (.str (Txt.join a ys)) H
/-! ### list(range(..)), tuple(range(..)) -/
def tTupRN (te : L2.St → Hp → (Int → Int → Hp → Prop) → Prop) : TE := fun σ H Q => te σ H fun a b H1 => RgOk a b ∧ ∀ q, H1 q = none → ∀ ob : Obj, ob.dict = none → Q (.ref q) (upd H1 q (.frz ob (.tup (rgV a b))))
theorem pe_tupRN {e : Expr} {te : L2.St → Hp → (Int → Int → Hp → Prop) → Prop} {p pos : Pos} (hc : X.calm = true) (hg : Gl X "tuple") (hm : X.mg "tuple" = none) (he : PRg X e te)
    (na : starEach [e] X.env = (false, eval e X.env) :: starEach [] X.env := by rfl) : PE X (.Call (.Name "tuple" p) [e] [] pos) (tTupRN te) :=
  ⟨fun pins s σ H Q I h => by
    refine Call_ (ld_blt I hg hm boot_tuple (PyProof.Rows.callWith_type1 (args_cons (thn (he pins s σ H _ I h) fun x s1 z => args_nil ?_) na) na))
    obtain ⟨r, a, b, t, u, v, H1, rfl, hr, I1, ⟨b1, b2, b3, b4, b5⟩, q⟩ := z
    refine call_tuple_range (n := (b - a).toNat) (I1.ok.hd hc) hr (small_one b1 b2 b3 b4) (rangeSize_nat a b) b5 fun h' tk acc hk hi => ?_
    have I2 : Inv X pins σ H1 { s1 with heap := h', toks := tk } := I1.kept hk
    refine ⟨.ref h'.objs.size, _, I2.laid (t' := tk) (o := .frz { cls := .type "tuple", data := .seq acc } (.tup (rgV a b))) (fun _ _ e => Heap.get?_push_of_some _ e) (Nat.le_refl _) ?_, rfl, q _ (I2.hok.fresh (Nat.le_refl _)) _ rfl⟩
    refine ⟨Heap.get?_push_size _ rfl, ?_, acc.toList, vals_rg hi, IsTup.new _ _⟩
    rw [rgV_length, sizeLine_eq]
    omega⟩
def rRg1 (own : Bool) : V → Hp → VK → Prop := fun x H Q => ∃ n, x = .int n ∧ RgOk 0 n ∧ ∀ q, H q = none → if own then Q (.ref q) (upd H q (.lst (rgV 0 n))) else ∀ ob : Obj, ob.dict = none → Q (.ref q) (upd H q (.frz ob (.tup (rgV 0 n))))
def rRg2 (own : Bool) : R2 := fun x y H Q => ∃ i j, x = .int i ∧ y = .int j ∧ RgOk i j ∧ ∀ q, H q = none → if own then Q (.ref q) (upd H q (.lst (rgV i j))) else ∀ ob : Obj, ob.dict = none → Q (.ref q) (upd H q (.frz ob (.tup (rgV i j))))
theorem rgOk_ok {a b : Int} (h : rngOk a b = true) : RgOk a b := by
  unfold rngOk big at h
  have := of_decide_eq_true h
  unfold RgOk
  omega
theorem rg_len {a b : Int} (h : RgOk a b) : (rgV a b).length ≤ sizeLine := by
  rw [rgV_length]
  have := h.2.2.2.2
  have := sizeLine_eq
  omega
theorem rd_rg1 (own : Bool) : Rd1 Γ (fun x => rngList own [x]) (rRg1 own) := fun H P x z v o1 Q ok hf r k => by
  cases x <;> try (cases hf; done)
  rename_i n
  simp only [rngList] at hf
  split at hf
  · rename_i c
    have hk := rgOk_ok c
    simp only [Rep] at r
    refine ⟨n, r.1, hk, fun q hq => ?_⟩
    have hr : RepL Γ H P (rngV 0 n.toNat) (rgV 0 n) [] := by
      have := rngV_map (Γ := Γ) 0 n.toNat H P
      unfold rgV
      simpa using this
    cases own with
    | true => cases hf; exact out_lst ok hq (rg_len hk) hr k
    | false => cases hf; exact fun ob hob => out_tup ok hq hob (rg_len hk) hr k
  · cases hf
theorem se_trg1 {a : Expr} {ca : C} {p pr q pos : Pos} (hc : X.calm = true) (hg : Gl X "tuple") (hm : X.mg "tuple" = none) (gr : Gl X "range") (mr : X.mg "range" = none) (ha : SE Γ X a ca)
    (na : starEach [a] X.env = (false, eval a X.env) :: starEach [] X.env := by rfl) (nb : starEach [.Call (.Name "range" pr) [a] [] q] X.env = (false, eval (.Call (.Name "range" pr) [a] [] q) X.env) :: starEach [] X.env := by rfl) :
    SE Γ X (.Call (.Name "tuple" p) [.Call (.Name "range" pr) [a] [] q] [] pos) (c1 (fun x => rngList false [x]) ca) :=
  se_1 (r := rRg1 false) (fun ta h => pe_tupRN hc hg hm (prg_1 gr mr h na) nb) (rd_rg1 false) ha
end
end VI
set_option Elab.async false
set_option linter.all false
set_option maxRecDepth 100000
/-! VM3: try .. except X as e: the suite knows the class of e. -/
namespace VI
open PySem PySem.Spec PyProof.Rows L2
/-- the name of the error has no value behind the suite -/
def offS (i : Nat) : SRes → SRes
  | .nx e => match e[i]? with
    | some none => .nx e
    | _ => .bad
  | .bk e => match e[i]? with
    | some none => .bk e
    | _ => .bad
  | .ct e => match e[i]? with
    | some none => .ct e
    | _ => .bad
  | .rt x e => .rt x e
  | _ => .bad
/-- try: body; except X as e: suite (that knows the number of e's class) -/
def sTryAs (pins : List Nat) (i : Nat) (body : S) (t : Nat → Option Bool) (s : Nat → S) : S := fun e => match body e with
  | .exc x e1 => if pins.contains i then .bad else match e1[i]? with
    | some none => match x.fs with
      | [] => match t x.c with
        | some true => offS i (s x.c e1)
        | some false => .exc x e1
        | none => .bad
      | _ :: _ => .bad
    | _ => .bad
  | r => r
def Ctx.addFix (Γ : Ctx) (i : Nat) (v : V) : Ctx := Γ.withFix ((i, some (some v)) :: Γ.fix) []
section
variable {Γ : Ctx} {X : Cx} {W : WX} {σ : L2.St} {H : Hp} {P : Addr → Prop} {ow o : List Addr} {e : En} {i : Nat} {pins : List Nat}
theorem unfix_rel {v : V} {σ' : L2.St} (h : RelE (Γ.addFix i v) H P e σ' ow) : RelE Γ H P e σ' ow := by
  obtain ⟨o, h1, h2, h3⟩ := h
  exact ⟨o, repE_fix.mp h1, h2, fun p hp => h3 p (List.mem_cons_of_mem _ hp)⟩
theorem off_rel {v : V} {σ' : L2.St} (h : RelE (Γ.addFix i v) H P e σ' ow) (q : e[i]? = some none) (hf : ∀ p ∈ Γ.fix, p.1 ≠ i) : RelE Γ H P e (σ'.set i none) ow := (unfix_rel h).sig q hf
theorem pin_off {σ' σ2 : L2.St} {v : Option V} (hp : ¬ pins.contains i = true) (p : Pin (i :: pins) (σ'.set i v) σ2) : Pin pins σ' (σ2.set i none) := fun j hj => by
  have hne : i ≠ j := fun z => hp (by subst z; simpa using hj)
  rw [List.getElem?_set_ne hne]
  have := p j (List.mem_cons_of_mem _ hj)
  rw [List.getElem?_set_ne hne] at this
  exact this
theorem pin_off' {σ' σ2 : L2.St} {v : Option V} (hp : ¬ pins.contains i = true) (p : Pin (i :: pins) (σ'.set i v) σ2) : Pin pins σ' σ2 := fun j hj => by
  have hne : i ≠ j := fun z => hp (by subst z; simpa using hj)
  have := p j (List.mem_cons_of_mem _ hj)
  rw [List.getElem?_set_ne hne] at this
  exact this
theorem off_acc {D : Ends} {σ' : L2.St} {v : V} {r : SRes} (hf : ∀ p ∈ Γ.fix, p.1 ≠ i) (hp : ¬ pins.contains i = true) (acc : AccS Γ W pins D σ' H P ow (offS i r)) :
    AccS (Γ.addFix i v) (fun _ _ _ _ => False) (i :: pins) { nx := fun σ2 H2 => D.nx (σ2.set i none) H2, rt := D.rt, bk := fun σ2 H2 => D.bk (σ2.set i none) H2, ct := fun σ2 H2 => D.ct (σ2.set i none) H2 } (σ'.set i (some v)) H P ow r := by
  cases r with
  | nx e2 =>
    simp only [offS] at acc
    split at acc
    · rename_i q
      exact fun σ2 H2 P2 ow2 x k rel p => acc (σ2.set i none) H2 P2 ow2 x (ok_unfix k) (off_rel rel q hf) (pin_off hp p)
    · exact acc.elim
  | bk e2 =>
    simp only [offS] at acc
    split at acc
    · rename_i q
      exact fun σ2 H2 P2 ow2 x k rel p => acc (σ2.set i none) H2 P2 ow2 x (ok_unfix k) (off_rel rel q hf) (pin_off hp p)
    · exact acc.elim
  | ct e2 =>
    simp only [offS] at acc
    split at acc
    · rename_i q
      exact fun σ2 H2 P2 ow2 x k rel p => acc (σ2.set i none) H2 P2 ow2 x (ok_unfix k) (off_rel rel q hf) (pin_off hp p)
    · exact acc.elim
  | rt y e2 => exact fun w σ2 H2 P2 o ow2 x k rp rel p => acc w σ2 H2 P2 o ow2 x (ok_unfix k) (rep_fix.mp rp) (unfix_rel rel) (pin_off' hp p)
  | exc y e2 => exact (show False from acc).elim
  | bad => exact (show False from acc).elim
theorem ss_tryAs {x n : Str} {c : Value} {t : Nat → Option Bool} {s : Nat → S} {b₀ : Stmt} {body suite : List Stmt} {sb : S} {np pos pos' : Pos} (hst : X.stack = X.env :: X.outer) (hf : X.env.frame = some X.env.locals) (hN : X.N.Nodup) (hi : X.N[i]? = some n) (hln : X.env.kindOf n = some .local) (hc : Names X x c)
    (ht : ∀ k b, t k = some b → PySem.W.exmOne X.K (.ref (Γ.cls k)) c = some b)
    (hb : ∀ (pn : List (Addr × Obj)) (xe : Value → Shared → Prop), PassesOwn (model X.prog X.w) X.A X.env xe → SSs Γ pins (X.tr pn xe) body sb)
    (hsu : ∀ (a : Addr) (oe : Obj) (k : Nat) (pn : List (Addr × Obj)), t k = some true → Zc (.ref (Γ.cls k)) none oe → (∃ vs, oe.data = .fields vs) → SSs (Γ.addFix i (.ref a)) (i :: pins) (X.suite a ((a, oe) :: pn)) (b₀ :: suite) (s k)) :
    SS Γ pins X (.Try body [.ExceptHandler (some (.Name x np)) (some n) (b₀ :: suite) pos'] [] [] pos) (sTryAs pins i sb t s) := fun fx W tk =>
  ps_imp (L2.ps_try_as (tb := fun W => tT Γ W pins sb) (ts := fun a cls d D σ H => ∃ k, cls = .ref (Γ.cls k) ∧ d = none ∧ t k = some true ∧ i ∉ pins ∧ tT (Γ.addFix i (.ref a)) (fun _ _ _ _ => False) (i :: pins) (s k) D σ H) hst hf hN hi hln hc tk
    (fun W pn xe tk' po => hb pn xe po fx W tk') (fun a oe cls d pn hz hfl => ⟨fun pins0 s0 σ0 H0 D0 I0 ⟨k, e1, e2, e3, e5, h0⟩ => by
      subst e1 e2
      refine (hsu a oe k pn e3 hz hfl ?_ _ LamX.takes0).run pins0 s0 σ0 H0 D0 I0 h0
      intro p hp
      rcases List.mem_cons.mp hp with rfl | hp
      · exact List.mem_cons_self
      · exact List.mem_cons_of_mem _ (fx p hp)⟩)) fun D σ H ⟨P, ow, e, ok, rel, acc⟩ => by
    refine ⟨P, ow, e, ok, rel, ?_⟩
    unfold sTryAs at acc
    cases q : sb e with
    | nx e1 => rw [q] at acc; exact acc
    | bk e1 => rw [q] at acc; exact acc
    | ct e1 => rw [q] at acc; exact acc
    | rt x e1 => rw [q] at acc; exact acc
    | bad => rw [q] at acc; exact acc
    | exc x e1 =>
      rw [q] at acc
      simp only at acc
      intro σ' H' P' ow' cls d y k l p rx
      have acc := acc.rebase y p
      split at acc
      · exact acc.elim
      · rename_i hpi
        cases q1 : e1[i]? with
        | none => simp [q1, AccS] at acc
        | some w =>
          cases w with
          | some w => simp [q1, AccS] at acc
          | none =>
            cases q2 : x.fs with
            | cons f fs => simp [q1, q2, AccS] at acc
            | nil =>
              have hd : d = none := by
                rcases rx.2 with h | h
                · exact h.2
                · exact absurd q2 h.1
              cases q3 : t x.c with
              | none => simp [q1, q2, q3, AccS] at acc
              | some b =>
                refine ⟨b, by rw [rx.1]; exact ht _ _ q3, fun hb a ha => ?_, fun hb => ?_⟩
                · subst hb
                  simp only [q1, q2, q3] at acc
                  refine ⟨x.c, rx.1, hd, q3, by simpa using hpi, P', ow', e1, ok_fix k (by intro p hp; cases hp), ?_, off_acc (fx.free hpi) hpi acc⟩
                  obtain ⟨o, h1, h2, h3⟩ := l
                  refine ⟨o, repE_fix.mpr (h1.sig q1), h2, fun p hp => ?_⟩
                  rcases List.mem_cons.mp hp with rfl | hp
                  · show (σ'.set i (some (V.ref a)))[i]? = some (some (.ref a))
                    rw [List.getElem?_set_self]
                    rw [← h1.length]
                    exact (List.getElem?_eq_some_iff.mp q1).1
                  · exact h3.set (fx.free hpi) p hp
                · subst hb
                  simp only [q1, q2, q3] at acc
                  exact acc σ' H' P' ow' cls d .refl k l .refl rx
/-- isinstance(e, C), e the error that the suite holds -/
theorem se_isE {X0 : Cx} {Γ' : Ctx} {a : Addr} {oe : Obj} {pn : List (Addr × Obj)} {k : Nat} {n : Str} {c : Expr} {cv : V} {cu : Value} {b : Bool} {p np pos : Pos} (hX : X = X0.suite a ((a, oe) :: pn)) (C : ExcC X0.K (Γ'.cls k)) (hz : Zc (.ref (Γ'.cls k)) none oe) (hfl : ∃ vs, oe.data = .fields vs)
    (hfix : (i, some (some (V.ref a))) ∈ Γ.fix) (hN : X.N[i]? = some n) (hv : Vis X.env.scope n) (hg : Gl X "isinstance") (hm : X.mg "isinstance" = none) (hc : PE X c (tC cv)) (hcv : ∀ u, RelV cv u → u = cu) (hk : PySem.W.kitOne X0.K (.ref (Γ'.cls k)) cu = some b)
    (hd : (n == ("__debug__" : Str)) = false := by decide) (hcd : (n == ("__classdict__" : Str)) = false := by decide)
    (hs : starEach [.Name n np, c] X.env = (false, eval (.Name n np) X.env) :: starEach [c] X.env := by rfl) (hs2 : starEach [c] X.env = (false, eval c X.env) :: starEach [] X.env := by rfl) (hpl : (backTo pos (starEach [c] X.env)).any (·.1) = false := by rfl) :
    SE Γ X (.Call (.Name "isinstance" p) [.Name n np, c] [] pos) (cV (.bl b)) := fun W tk => by
  subst hX
  refine pe_imp (pe_callB (call_isE C hz hfl) hg hm (by rfl) (pa_cons (pe_var hN hv hd hcd) (pa_cons hc pa_nil hs2) hs) (by decide) (by decide) hs hpl) fun σ H Q ⟨P, ow, e, ok, rel, acc⟩ => ?_
  obtain ⟨o, h1, h2, h3⟩ := rel
  exact ⟨.ref a, h3 _ hfix, cv, cu, b, rfl, hcv, hk, acc (.bl b) H P [] ow .refl ok (rep_bl (Γ := Γ) (H := H) (P := P)) ⟨o, h1, h2, h3⟩⟩
end
end VI
set_option Elab.async false
set_option linter.all false
set_option maxRecDepth 100000
/-! VM4: comprehensions whose items stay owned. -/
namespace VI
open PySem PySem.Spec PyProof.Rows L2
def lcLoopO (tg : Tg) (t : CB) (el : C) (vs : List Nat) : List Val → List Val → En → Res (List Val)
  | [], acc, e => .ok acc e
  | x :: xs, acc, e => match asg [] tg x e with
    | none => .bad
    | some e1 => match t e1 with
      | .ok true e2 => match el e2 with
        | .ok u e3 => match u.take e3 with
          | some (y, e4) => lcLoopO tg t el vs xs (acc ++ [y]) (wipeE vs e4)
          | none => .bad
        | _ => .bad
      | .ok false e2 => lcLoopO tg t el vs xs acc (wipeE vs e2)
      | _ => .bad
def cLCO (it : CI) (tg : Tg) (t : CB) (el : C) (vs : List Nat) : C := fun e => (it e).bind fun xs e1 =>
  match lcLoopO tg t el vs xs [] (wipeE vs e1) with
  | .ok ys e2 => .ok (.val (.lst true ys)) (unwipe vs e1 e2)
  | _ => .bad
section
variable {Γ : Ctx} {X : Cx} {W : WX} {pins : List Nat} {D : Ends} {σ σ1 : L2.St} {H H1 : Hp} {P P1 : Addr → Prop} {ow ow1 f g o : List Addr} {e e' : En}
end
end VI
set_option Elab.async false
set_option linter.all false
set_option maxRecDepth 100000
/-! VM5: x[a][b] = v and x[a][b], x an owned list of owned lists. -/
namespace VI
open PySem PySem.Spec PyProof.Rows L2
section
variable {Γ : Ctx} {X : Cx} {W : WX} {σ : L2.St} {H : Hp} {P : Addr → Prop} {ow o f : List Addr} {e : En} {i : Nat} {pins : List Nat} {D : Ends}
/-- x[a][b] = v -/
def sSetII (i : Nat) (ca cb cv : C) : S := fun e => (cv e).toS fun u e1 => match u.takeF e1 with
  | some (y, e2) => match oL e2 i with
    | none => .bad
    | some _ => (ca e2).toS fun w e3 => match w.get e3 with
      | some (.int k) => match oL e3 i with
        | some xs => match place xs.length k with
          | some j => match xs[j]? with
            | some (.lst true ys) => (cb (e3.set i none)).toS fun w2 e4 => match w2.get e4 with
              | some (.int k2) => match e4[i]? with
                | some none => match place ys.length k2 with
                  | some j2 => match ys[j2]? with
                    | some z => if isFz z then .nx (e4.set i (some (.lst true (xs.set j (.lst true (ys.set j2 y)))))) else .bad
                    | none => .bad
                  | none => .bad
                | _ => .bad
              | _ => .bad
            | _ => .bad
          | none => .bad
        | none => .bad
      | _ => .bad
  | none => .bad
end
end VI
set_option Elab.async false
set_option linter.all false
set_option maxRecDepth 100000
/-! VM6: x[a][b] read, x an owned list of owned lists; dict of one pair. -/
namespace VI
open PySem PySem.Spec PyProof.Rows L2
section
variable {Γ : Ctx} {X : Cx} {W : WX} {σ : L2.St} {H : Hp} {P : Addr → Prop} {ow o f : List Addr} {e : En} {i : Nat} {pins : List Nat} {D : Ends}
def cIx2 (i : Nat) (ca cb : C) : C := fun e => match oL e i with
  | none => .bad
  | some _ => (ca e).bind fun w e3 => match w.get e3 with
    | some (.int k) => match oL e3 i with
      | some xs => match place xs.length k with
        | some j => match xs[j]? with
          | some (.lst true ys) => (cb (e3.set i none)).bind fun w2 e4 => match w2.get e4 with
            | some (.int k2) => match e4[i]? with
              | some none => match place ys.length k2 with
                | some j2 => match ys[j2]? with
                  | some z => if isFz z then .ok (.val z) (e4.set i (some (.lst true xs))) else .bad
                  | none => .bad
                | none => .bad
              | _ => .bad
            | _ => .bad
          | _ => .bad
        | none => .bad
      | none => .bad
    | _ => .bad
end
end VI
set_option Elab.async false
set_option linter.all false
set_option maxRecDepth 100000
/-! VM7: dict([(k, v)]); products of two great numbers. -/
namespace VI
open PySem PySem.Spec PyProof.Rows L2
section
variable {Γ : Ctx} {X : Cx} {W : WX} {σ : L2.St} {H : Hp} {P : Addr → Prop} {ow o f : List Addr} {e : En} {i : Nat} {pins : List Nat} {D : Ends}
def dict1V : List Val → Option Val
  | [.lst _ [.tup [.int k, v]]] => if isFz v then some (.dic true [.inl k] [v]) else none
  | _ => none
def rDict1 (K : PySem.W.Frag) : List V → Hp → VK → Prop := fun xs H Q => ∃ (a : Addr) (ps : List Addr) (kvs : List (Key × V)), xs = [.ref a] ∧ SqL K H a (ps.map V.ref) ∧ Paired (fun p kv => SqT K H p [kV kv.1, kv.2]) ps kvs ∧ ∀ p, H p = none → Q (.ref p) (upd H p (.dK (mergeK [] kvs)))
/-! ### wide products -/
def mulW (x y : Val) : Option Val := match x, y with
  | .int a, .int b => if small64 a || small64 b || decide (a.natAbs.log2 + b.natAbs.log2 < 1000000) then some (.int (a * b)) else none
  | x, y => mulG x y
def rMulW (K : PySem.W.Frag) : R2 := fun x y H Q => rMulG K x y H Q ∨ rI CMulW (fun i j => .int (i * j)) x y H Q
theorem opr_mulW : OpR X (binaryOp .Mult) (rMulW X.K) := opr_mulG.or op_mulW
theorem rd_mulW : Rd2 Γ mulW (rMulW Γ.K) := fun H P x y z v u o1 o2 Q ok h r1 r2 k => by
  unfold mulW at h
  split at h
  · rename_i a b
    split at h
    · rename_i c
      cases h
      rcases Bool.or_eq_true_iff.mp c with c | c
      · refine .inl (rd_mulG H P (.int a) (.int b) (.int (a * b)) v u o1 o2 Q ok ?_ r1 r2 k)
        show mulV (.int a) (.int b) = _
        simp only [mulV]
        rw [if_pos c]
      · simp only [Rep] at r1 r2
        exact .inr ⟨a, b, r1.1, r2.1, (by unfold CMulW; exact of_decide_eq_true c), k _ H P [] .refl ok rep_int⟩
    · cases h
  · exact .inl (rd_mulG H P x y z v u o1 o2 Q ok h r1 r2 k)
end
end VI
set_option Elab.async false
set_option linter.all false
set_option maxRecDepth 100000
/-! VM8: a, b, c = x, y, z. -/
namespace VI
open PySem PySem.Spec PyProof.Rows L2
def sPar3 (pins : List Nat) (i j l : Nat) (a b c : C) : S := fun e => (cs [a, b, c] e).toS fun us e1 => match takes us e1 with
  | some (xs, e2) => match xs with
    | [x, y, z] => if pins.contains i || pins.contains j || pins.contains l then .bad else if decide (i < e2.length ∧ j < e2.length ∧ l < e2.length) then .nx (((e2.set i (some x)).set j (some y)).set l (some z)) else .bad
    | _ => .bad
  | none => .bad
section
variable {Γ : Ctx} {X : Cx} {W : WX} {σ : L2.St} {H : Hp} {P : Addr → Prop} {ow o : List Addr} {e : En} {pins : List Nat}
end
end VI
set_option Elab.async false
set_option linter.all false
set_option maxRecDepth 100000
/-! VM9: x is True. -/
namespace VI
open PySem PySem.Spec PyProof.Rows L2
def isG (x y : Val) : Option Val := match x, y with
  | .bl a, .bl b => some (.bl (decide (a = b)))
  | x, y => isV x y
section
variable {Γ : Ctx} {X : Cx} {W : WX} {σ : L2.St} {H : Hp} {P : Addr → Prop} {ow o f : List Addr} {e : En} {i : Nat} {pins : List Nat} {D : Ends}
def rIsG : R2 := fun x y H Q => (y = .non ∧ Q (.bl (decide (x = .non))) H) ∨ (∃ m n, x = .bl m ∧ y = .bl n ∧ Q (.bl (decide (m = n))) H)
end
end VI
set_option Elab.async false
set_option linter.all false
set_option maxRecDepth 100000
/-! VM10: len(set(a list of ints)). -/
namespace VI
open PySem PySem.Spec PyProof.Rows L2
/-- how many different ones -/
def distinct (ns : List Int) : Nat := (firstMet (fun i => ns.getD i 0) ns.length).length
def lenSetV : List Val → Option Val
  | [.lst _ xs] => (toInts xs).bind fun ns => if decide (ns.length ≤ 1000) then some (.int (distinct ns)) else none
  | _ => none
def rLenSet (K : PySem.W.Frag) : List V → Hp → VK → Prop := fun xs H Q => ∃ (l : Addr) (ns : List Int), xs = [.ref l] ∧ SqL K H l (ns.map V.int) ∧ ns.length ≤ 1000 ∧ Q (.int (distinct ns)) H
section
variable {Γ : Ctx} {X : Cx} {W : WX} {σ : L2.St} {H : Hp} {P : Addr → Prop} {ow o f : List Addr} {e : En} {i : Nat} {pins : List Nat} {D : Ends}
end
end VI
set_option Elab.async false
set_option linter.all false
set_option maxRecDepth 100000
/-! VM11: is not True. -/
namespace VI
open PySem PySem.Spec PyProof.Rows L2
def isNotG (x y : Val) : Option Val := match x, y with
  | .bl a, .bl b => some (.bl (!decide (a = b)))
  | x, y => isNotV x y
section
variable {Γ : Ctx} {X : Cx} {W : WX} {σ : L2.St} {H : Hp} {P : Addr → Prop} {ow o f : List Addr} {e : En} {i : Nat} {pins : List Nat} {D : Ends}
theorem op_isNotBl : OpR X (compareOp .IsNot) (fun x y H Q => ∃ m n, x = .bl m ∧ y = .bl n ∧ Q (.bl (!decide (m = n))) H) := by
  intro pins s σ H x y v u Q I rx ry h
  obtain ⟨m, n, rfl, rfl, q⟩ := h
  cases (show v = Value.bool m from rx)
  cases (show u = Value.bool n from ry)
  by_cases e : m = n
  · subst e
    exact wpAny_isNot_self rfl ⟨.bl false, H, I, rfl, by simpa using q⟩
  · exact wpAny_isNot_other rfl (fun z => e (Value.bool.inj z)) ⟨.bl true, H, I, rfl, by simpa [e] using q⟩
def rIsNotG : R2 := fun x y H Q => (y = .non ∧ Q (.bl (!decide (x = .non))) H) ∨ (∃ m n, x = .bl m ∧ y = .bl n ∧ Q (.bl (!decide (m = n))) H)
theorem op_isNotG : OpR X (compareOp .IsNot) rIsNotG := op_notN.or op_isNotBl
theorem rd_isNotG : Rd2 Γ isNotG rIsNotG := fun H P x y z v u o1 o2 Q ok h r1 r2 k => by
  unfold isNotG at h
  split at h
  · cases h
    simp only [Rep] at r1 r2
    exact .inr ⟨_, _, r1.1, r2.1, k _ H P [] .refl ok rep_bl⟩
  · exact .inl (rd_isNot H P x y z v u o1 o2 Q ok h r1 r2 k)
end
end VI
set_option Elab.async false
set_option linter.all false
set_option maxRecDepth 100000
set_option maxHeartbeats 2000000
/-! VM12: own errors with two fields: raise X(a, b); except X as e: x = (e.f, e.g). -/
namespace VI
open PySem PySem.Spec PyProof.Rows L2 LamX
/-- what the error's __init__ promises -/
def spX2 (K : PySem.W.Frag) (C : Addr) (f1 f2 : Str) : Sp := fun vs H Q E => ∃ a y1 y2, vs = [V.ref a, y1, y2] ∧ H a = some (exo a C none) ∧
  ∀ dx, H dx = none → dx ≠ a → Q .non (upd (upd (upd H dx (exd dx [(f1, y1)])) a (exo a C (some dx))) dx (exd dx [(f2, y2), (f1, y1)]))
section
variable {Γ : Ctx} {P : Program} {w : World} {K : PySem.W.Frag} {mg : Str → Option Value} {base : Heap}
end
section
variable {Γ : Ctx} {X : Cx} {W : WX} {σ : L2.St} {H : Hp} {P : Addr → Prop} {ow o f : List Addr} {e : En} {i : Nat} {pins : List Nat} {D : Ends}
/-- an own error class with two fields and how it is made -/
structure ErrAt (P : Program) (w : World) (K : PySem.W.Frag) (mg : Str → Option Value) (base : Heap) (k : Nat) (x : Str) (C : Addr) (f1 f2 : Str) : Prop where
  ex : ∃ (fI : Addr) (fd : FuncData) (ps : List Str), OexC K C ∧ PySem.W.findIn K (.ref C) "__init__" = some (some (.ref fI)) ∧ PySem.W.typeIn K (.ref fI) = some (.type "function") ∧
    FnOk P w K mg base (L2.CX P w) k fI fd ps (spX2 K C f1 f2) ∧ Binds K fd ps [] ∧ mg x = some (.ref C)
/-- raise X(a, b) -/
def sRaise2 (c : Nat) (f1 f2 : Str) (c1 c2 : C) : S := fun e => (cs [c1, c2] e).toS fun us e1 => match takesF us e1 with
  | some (xs, e2) => match xs with
    | [x1, x2] => .exc ⟨c, [f2, f1], [x2, x1]⟩ e2
    | _ => .bad
  | none => .bad
end
end VI
set_option Elab.async false
set_option linter.all false
set_option maxRecDepth 100000
set_option maxHeartbeats 2000000
/-! VM13: try: .. except X as e: y = (e.f, e.g), X an own error with two fields. -/
namespace VI
open PySem PySem.Spec PyProof.Rows L2 LamX
/-- kk: the number of X; i: e's slot; j: y's -/
def sTryF (pins : List Nat) (i j kk : Nat) (body : S) (t : Nat → Option Bool) (f1 f2 : Str) : S := fun e => match body e with
  | .exc x e1 => if pins.contains i || pins.contains j || i == j || f1 == f2 then .bad else match e1[i]? with
    | some none => match t x.c with
      | some true => if x.c = kk then (match x.fs, x.vs with
        | [g2, g1], [v2, v1] => if g1 = f1 ∧ g2 = f2 ∧ j < e1.length then .nx (e1.set j (some (.tup [v1, v2]))) else .bad
        | _, _ => .bad) else .bad
      | some false => .exc x e1
      | none => .bad
    | _ => .bad
  | r => r
section
variable {Γ : Ctx} {X : Cx} {W : WX} {σ : L2.St} {H : Hp} {P : Addr → Prop} {ow o : List Addr} {e : En} {i j : Nat} {pins : List Nat}
end
end VI
set_option Elab.async false
set_option linter.all false
set_option maxRecDepth 100000
set_option maxHeartbeats 2000000
/-! VN2: repr of nested things: what a tree is as data, how long its text is, and that repr tells just this text where no repr is under way. -/
namespace VI
open PySem PySem.Spec PyProof.Rows L2
def keyPD : KeyT → PyData
  | .inl i => .int i
  | .inr s => .str s
mutual
/-- what a tree is as plain data -/
def pdV : Val → Option PyData
  | .non => some .none
  | .bl b => some (.bool b)
  | .int i => some (.int i)
  | .str s => some (.str s)
  | .tup vs => (pdL vs).map .tuple
  | .lst _ vs => (pdL vs).map .list
  | .dic _ ks vs => if ks.length = vs.length then (pdL vs).map fun ds => .dict ((ks.map keyPD).zip ds) else none
  | .ins _ _ _ _ => none
  | .fn _ => none
  | .ty _ => none
def pdL : List Val → Option (List PyData)
  | [] => some []
  | v :: vs => (pdV v).bind fun d => (pdL vs).map (d :: ·)
end
def bigC : Nat := 1000000000
def intC (i : Int) : Nat := if i.natAbs < 10 ^ 12 then 13 else if i.natAbs < 10 ^ 40 then 41 else bigC
def strC (s : Str) : Nat := if s.cps.toList.all (fun c => decide (c < 16 ^ 8)) then 10 * s.length + 2 else bigC
def keyC : KeyT → Nat
  | .inl i => intC i
  | .inr s => strC s
mutual
/-- no less than the length of the text -/
def szV : Val → Nat
  | .non => 4
  | .bl _ => 5
  | .int i => intC i
  | .str s => strC s
  | .tup vs => szL vs + 3
  | .lst _ vs => szL vs + 3
  | .dic _ ks vs => (ks.map fun k => keyC k + 4).sum + szL vs + 3
  | _ => bigC
def szL : List Val → Nat
  | [] => 0
  | v :: vs => szV v + 2 + szL vs
end
mutual
def dpV : Val → Nat
  | .tup vs => dpL vs + 1
  | .lst _ vs => dpL vs + 1
  | .dic _ _ vs => dpL vs + 1
  | _ => 0
def dpL : List Val → Nat
  | [] => 0
  | v :: vs => max (dpV v) (dpL vs)
end
def reprV : List Val → Option Val
  | [v] => (pdV v).bind fun d => if decide (szV v ≤ 100000) && decide (dpV v ≤ 100) then some (.str d.shown) else none
  | _ => none
/-! ### things in the abstract heap as data -/
mutual
inductive Dat (K : PySem.W.Frag) (H : Hp) : V → PyData → Prop
  | non : Dat K H .non .none
  | bl (b) : Dat K H (.bl b) (.bool b)
  | int (i) : intC i ≤ 100000 → Dat K H (.int i) (.int i)
  | str (s) : strC s ≤ 100000 → Dat K H (.str s) (.str s)
  | lst {a ws ds} : SqL K H a ws → DatL K H ws ds → Dat K H (.ref a) (.list ds)
  | tup {a ws ds} : SqT K H a ws → DatL K H ws ds → Dat K H (.ref a) (.tuple ds)
  | dic {a : Addr} {ks : List KeyT} {ws : List V} {ds : List PyData} : H a = some (.dK (ks.zip ws)) → ks.length = ws.length → (∀ k ∈ ks, keyC k ≤ 100000) → DatL K H ws ds → Dat K H (.ref a) (.dict ((ks.map keyPD).zip ds))
inductive DatL (K : PySem.W.Frag) (H : Hp) : List V → List PyData → Prop
  | nil : DatL K H [] []
  | cons {v ws d ds} : Dat K H v d → DatL K H ws ds → DatL K H (v :: ws) (d :: ds)
end
section
variable {Γ : Ctx} {H : Hp} {P : Addr → Prop}
theorem pd_len : ∀ {vs : List Val} {ds : List PyData}, pdL vs = some ds → ds.length = vs.length
  | [], ds, h => by
    simp only [pdL, Option.some.injEq] at h
    subst h; rfl
  | v :: vs, ds, h => by
    simp only [pdL] at h
    cases h1 : pdV v with
    | none => rw [h1] at h; cases h
    | some d =>
      rw [h1] at h
      cases h2 : pdL vs with
      | none => rw [h2] at h; cases h
      | some ds' =>
        rw [h2] at h
        simp only [Option.bind_some, Option.map_some, Option.some.injEq] at h
        subst h
        rw [List.length_cons, List.length_cons, pd_len h2]
theorem key_mem : ∀ {ks : List KeyT} {k : KeyT}, k ∈ ks → keyC k ≤ (ks.map fun k => keyC k + 4).sum
  | [], _, h => by cases h
  | j :: ks, k, h => by
    simp only [List.map_cons, List.sum_cons]
    rcases List.mem_cons.mp h with rfl | h
    · omega
    · have := key_mem h
      omega
mutual
theorem dat_of : ∀ {x : Val} {v : V} {o : List Addr} {d : PyData}, Rep Γ H P x v o → pdV x = some d → szV x ≤ 100000 → Dat Γ.K H v d
  | .non, v, o, d, r, h, hz => by
    simp only [Rep] at r; simp only [pdV, Option.some.injEq] at h
    rw [r.1, ← h]; exact .non
  | .bl b, v, o, d, r, h, hz => by
    simp only [Rep] at r; simp only [pdV, Option.some.injEq] at h
    rw [r.1, ← h]; exact .bl b
  | .int i, v, o, d, r, h, hz => by
    simp only [Rep] at r; simp only [pdV, Option.some.injEq] at h
    rw [r.1, ← h]; exact .int i (by simpa only [szV] using hz)
  | .str s, v, o, d, r, h, hz => by
    simp only [Rep] at r; simp only [pdV, Option.some.injEq] at h
    rw [r.1, ← h]; exact .str s (by simpa only [szV] using hz)
  | .tup vs, v, o, d, r, h, hz => by
    simp only [pdV] at h
    cases h1 : pdL vs with
    | none => rw [h1] at h; cases h
    | some ds =>
      rw [h1] at h
      simp only [Option.map_some, Option.some.injEq] at h
      simp only [Rep] at r
      obtain ⟨a, ws, rfl, q, r⟩ := r
      rw [← h]
      exact .tup q.sq (datL_of r h1 (by simp only [szV] at hz; omega))
  | .lst true vs, v, o, d, r, h, hz => by
    simp only [pdV] at h
    cases h1 : pdL vs with
    | none => rw [h1] at h; cases h
    | some ds =>
      rw [h1] at h
      simp only [Option.map_some, Option.some.injEq] at h
      simp only [Rep] at r
      obtain ⟨a, ws, o', rfl, q, r, _⟩ := r
      rw [← h]
      exact .lst (.of q) (datL_of r h1 (by simp only [szV] at hz; omega))
  | .lst false vs, v, o, d, r, h, hz => by
    simp only [pdV] at h
    cases h1 : pdL vs with
    | none => rw [h1] at h; cases h
    | some ds =>
      rw [h1] at h
      simp only [Option.map_some, Option.some.injEq] at h
      simp only [Rep] at r
      obtain ⟨a, ws, rfl, q, r⟩ := r
      rw [← h]
      exact .lst q.sq (datL_of r h1 (by simp only [szV] at hz; omega))
  | .dic true ks vs, v, o, d, r, h, hz => by
    simp only [pdV] at h
    split at h
    · cases h1 : pdL vs with
      | none => rw [h1] at h; cases h
      | some ds =>
        rw [h1] at h
        simp only [Option.map_some, Option.some.injEq] at h
        simp only [Rep] at r
        obtain ⟨a, ws, o', rfl, q, l, r, _⟩ := r
        rw [← h]
        exact .dic q l (fun k hk => by
          simp only [szV] at hz
          have := key_mem hk
          omega) (datL_of r h1 (by simp only [szV] at hz; omega))
    · cases h
  | .dic false ks vs, v, o, d, r, h, hz => by
    simp only [pdV] at h
    split at h
    · cases h1 : pdL vs with
      | none => rw [h1] at h; cases h
      | some ds =>
        rw [h1] at h
        simp only [Option.map_some, Option.some.injEq] at h
        simp only [Rep] at r
        obtain ⟨a, ws, rfl, q, l, _, r⟩ := r
        rw [← h]
        exact .dic q l (fun k hk => by
          simp only [szV] at hz
          have := key_mem hk
          omega) (datL_of r h1 (by simp only [szV] at hz; omega))
    · cases h
  | .ins _ _ _ _, v, o, d, r, h, hz => by simp only [pdV] at h; cases h
  | .fn _, v, o, d, r, h, hz => by simp only [pdV] at h; cases h
  | .ty _, v, o, d, r, h, hz => by simp only [pdV] at h; cases h
theorem datL_of : ∀ {xs : List Val} {vs : List V} {o : List Addr} {ds : List PyData}, RepL Γ H P xs vs o → pdL xs = some ds → szL xs ≤ 100000 → DatL Γ.K H vs ds
  | [], vs, o, ds, r, h, hz => by
    simp only [RepL] at r; simp only [pdL, Option.some.injEq] at h
    rw [r.1, ← h]; exact .nil
  | x :: xs, vs, o, ds, r, h, hz => by
    simp only [pdL] at h
    cases h1 : pdV x with
    | none => rw [h1] at h; cases h
    | some d =>
      rw [h1] at h
      cases h2 : pdL xs with
      | none => rw [h2] at h; cases h
      | some ds' =>
        rw [h2] at h
        simp only [Option.bind_some, Option.map_some, Option.some.injEq] at h
        simp only [RepL] at r
        obtain ⟨w, ws', o1, o2, rfl, r1, r2, _⟩ := r
        rw [← h]
        exact .cons (dat_of r1 h1 (by simp only [szL] at hz; omega)) (datL_of r2 h2 (by simp only [szL] at hz; omega))
end
end
/-! ### how long, how deep -/
theorem shown_int_le40 {i : Int} (h : i.natAbs < 10 ^ 40) : (PyData.shown (.int i)).length ≤ 41 := by
  have e := int_text_length_le10 (k := 40) (by decide) h
  show (Str.ofString (toString i)).length ≤ 41
  rw [PySem.ofString_length]; exact e
theorem log2_of_lt {i : Int} {m : Nat} (h : i.natAbs < m) (hm : m < 2 ^ 200) : i.natAbs.log2 < 1920 := by
  by_cases z : i.natAbs = 0
  · rw [z]; decide
  · refine (Nat.log2_lt z).mpr (Nat.lt_trans h ?_)
    exact Nat.lt_of_lt_of_le hm (Nat.pow_le_pow_right (by decide) (by decide))
theorem int_len {i : Int} (h : intC i ≤ 100000) : (PyData.shown (.int i)).length ≤ intC i ∧ i.natAbs.log2 < 1920 := by
  unfold intC at h ⊢
  by_cases hi : i.natAbs < 10 ^ 12
  · rw [if_pos hi]
    exact ⟨PyData.shown_int_le hi, log2_of_lt hi (by decide)⟩
  · rw [if_neg hi] at h ⊢
    by_cases h2 : i.natAbs < 10 ^ 40
    · rw [if_pos h2]
      exact ⟨shown_int_le40 h2, log2_of_lt h2 (by decide)⟩
    · rw [if_neg h2] at h
      exact absurd h (by unfold bigC; omega)
theorem str_len {s : Str} (h : strC s ≤ 100000) : (reprText s).length ≤ strC s := by
  unfold strC at h ⊢
  split at h
  · rename_i hs
    rw [if_pos hs]
    exact StrLaws.reprText_len s fun c hc => of_decide_eq_true (List.all_eq_true.mp hs c hc)
  · exact absurd h (by unfold bigC; omega)
theorem key_len {k : KeyT} (h : keyC k ≤ 100000) : (keyPD k).shown.length ≤ keyC k ∧ (keyPD k).showable = true := by
  cases k with
  | inl i =>
    have := int_len (i := i) h
    exact ⟨this.1, by simp only [keyPD, PyData.showable]; exact decide_eq_true this.2⟩
  | inr s => exact ⟨by simp only [keyPD, PyData.shown, keyC]; exact str_len (s := s) h, by simp only [keyPD, PyData.showable]⟩
theorem key_dp (k : KeyT) : (keyPD k).depth = 0 := by cases k <;> simp only [keyPD, PyData.depth]
theorem kv_len : ∀ {ks : List KeyT} {ds : List PyData}, ks.length = ds.length → (ks.map fun k => keyC k + 4).sum ≤ 100000 → PyData.showableAll ds = true →
    ((PyData.shownKv ((ks.map keyPD).zip ds)).map (·.length)).sum + 2 * ds.length ≤ (ks.map fun k => keyC k + 4).sum + ((PyData.shownAll ds).map (·.length)).sum ∧ PyData.showableKv ((ks.map keyPD).zip ds) = true ∧ PyData.depthKv ((ks.map keyPD).zip ds) ≤ PyData.depthAll ds
  | [], [], _, _, _ => by simp [PyData.shownKv, PyData.shownAll, PyData.showableKv, PyData.depthKv]
  | [], _ :: _, h, _, _ => by cases h
  | _ :: _, [], h, _, _ => by cases h
  | k :: ks, d :: ds, h, hz, hs => by
    simp only [PyData.showableAll, Bool.and_eq_true] at hs
    simp only [List.map_cons, List.sum_cons] at hz
    obtain ⟨h1, h2, h3⟩ := kv_len (ks := ks) (ds := ds) (by simpa using h) (by omega) hs.2
    obtain ⟨g1, g2⟩ := key_len (k := k) (by omega)
    refine ⟨?_, ?_, ?_⟩
    · have e : ((": " : String) : Str).length = 2 := by decide +kernel
      simp only [List.map_cons, List.zip_cons_cons, PyData.shownKv, PyData.shownAll, List.sum_cons, strLen_append, List.length_cons, e]
      omega
    · simp only [List.map_cons, List.zip_cons_cons, PyData.showableKv, g2, hs.1, h2, Bool.and_self]
    · simp only [List.map_cons, List.zip_cons_cons, PyData.depthKv, PyData.depthAll, key_dp]
      omega
mutual
theorem len_of : ∀ {x : Val} {d : PyData}, pdV x = some d → szV x ≤ 100000 → d.shown.length ≤ szV x ∧ d.showable = true ∧ d.depth ≤ dpV x
  | .non, d, h, hz => by
    simp only [pdV, Option.some.injEq] at h
    subst h
    exact ⟨by simp only [PyData.shown, szV]; decide +kernel, by simp only [PyData.showable], by simp only [PyData.depth]; omega⟩
  | .bl b, d, h, hz => by
    simp only [pdV, Option.some.injEq] at h
    subst h
    exact ⟨by simp only [PyData.shown, szV]; cases b <;> decide +kernel, by simp only [PyData.showable], by simp only [PyData.depth]; omega⟩
  | .int i, d, h, hz => by
    simp only [pdV, Option.some.injEq] at h
    subst h
    simp only [szV] at hz ⊢
    have := int_len hz
    exact ⟨this.1, by simp only [PyData.showable]; exact decide_eq_true this.2, by simp only [PyData.depth]; omega⟩
  | .str s, d, h, hz => by
    simp only [pdV, Option.some.injEq] at h
    subst h
    simp only [szV] at hz ⊢
    exact ⟨by simpa only [PyData.shown] using str_len hz, by simp only [PyData.showable], by simp only [PyData.depth]; omega⟩
  | .tup vs, d, h, hz => by
    simp only [pdV] at h
    cases h1 : pdL vs with
    | none => rw [h1] at h; cases h
    | some ds =>
      rw [h1] at h
      simp only [Option.map_some, Option.some.injEq] at h
      subst h
      simp only [szV] at hz ⊢
      obtain ⟨q1, q2, q3⟩ := lenL_of h1 (by omega)
      have := tupleText_len_le (PyData.shownAll ds)
      have e := PyData.shownAll_length ds
      exact ⟨by simp only [PyData.shown]; omega, by simpa only [PyData.showable] using q2, by simp only [PyData.depth, dpV]; omega⟩
  | .lst o vs, d, h, hz => by
    simp only [pdV] at h
    cases h1 : pdL vs with
    | none => rw [h1] at h; cases h
    | some ds =>
      rw [h1] at h
      simp only [Option.map_some, Option.some.injEq] at h
      subst h
      simp only [szV] at hz ⊢
      obtain ⟨q1, q2, q3⟩ := lenL_of h1 (by omega)
      have := listText_len_le (PyData.shownAll ds)
      have e := PyData.shownAll_length ds
      exact ⟨by simp only [PyData.shown]; omega, by simpa only [PyData.showable] using q2, by simp only [PyData.depth, dpV]; omega⟩
  | .dic o ks vs, d, h, hz => by
    simp only [pdV] at h
    split at h
    · rename_i hl
      cases h1 : pdL vs with
      | none => rw [h1] at h; cases h
      | some ds =>
        rw [h1] at h
        simp only [Option.map_some, Option.some.injEq] at h
        subst h
        simp only [szV] at hz ⊢
        obtain ⟨q1, q2, q3⟩ := lenL_of h1 (by omega)
        have hl' : ks.length = ds.length := by rw [pd_len h1, hl]
        obtain ⟨g1, g2, g3⟩ := kv_len hl' (by omega) q2
        have := dictText_len_le (PyData.shownKv ((ks.map keyPD).zip ds))
        have e := PyData.shownKv_length ((ks.map keyPD).zip ds)
        rw [List.length_zip, List.length_map, hl', Nat.min_self] at e
        exact ⟨by simp only [PyData.shown]; omega, by simpa only [PyData.showable] using g2, by simp only [PyData.depth, dpV]; omega⟩
    · cases h
  | .ins _ _ _ _, d, h, _ => by simp only [pdV] at h; cases h
  | .fn _, d, h, _ => by simp only [pdV] at h; cases h
  | .ty _, d, h, _ => by simp only [pdV] at h; cases h
theorem lenL_of : ∀ {xs : List Val} {ds : List PyData}, pdL xs = some ds → szL xs ≤ 100000 → ((PyData.shownAll ds).map (·.length)).sum + 2 * ds.length ≤ szL xs ∧ PyData.showableAll ds = true ∧ PyData.depthAll ds ≤ dpL xs
  | [], ds, h, hz => by
    simp only [pdL, Option.some.injEq] at h
    subst h
    simp [PyData.shownAll, PyData.showableAll, PyData.depthAll]
  | x :: xs, ds, h, hz => by
    simp only [pdL] at h
    cases h1 : pdV x with
    | none => rw [h1] at h; cases h
    | some d =>
      rw [h1] at h
      cases h2 : pdL xs with
      | none => rw [h2] at h; cases h
      | some ds' =>
        rw [h2] at h
        simp only [Option.bind_some, Option.map_some, Option.some.injEq] at h
        subst h
        simp only [szL] at hz ⊢
        obtain ⟨a1, a2, a3⟩ := len_of h1 (by omega)
        obtain ⟨b1, b2, b3⟩ := lenL_of h2 (by omega)
        refine ⟨by simp only [PyData.shownAll, List.map_cons, List.sum_cons, List.length_cons]; omega, by simp only [PyData.showableAll, a2, b2, Bool.and_self], ?_⟩
        simp only [PyData.depthAll, dpL]
        omega
end
end VI
set_option Elab.async false
set_option linter.all false
set_option maxRecDepth 100000
set_option maxHeartbeats 2000000
/-! VN3: repr(x) tells the text of the data where no repr is under way. -/
namespace VI
open PySem PySem.Spec PyProof.Rows L2
/-- a value reads as data, and a repr beneath another one tells its text -/
structure Shows (prog : Program) (w : World) (h₀ : Heap) (u : Value) (d : PyData) : Prop where
  rd : ∃ as, Reads h₀ u d as
  rk : ∃ bs, ReadAtMost h₀ d.depth bs ∧ ReprK prog w bs h₀ d.depth u d.shown
structure ShowsL (prog : Program) (w : World) (h₀ : Heap) (us : List Value) (ds : List PyData) : Prop where
  rd : ∃ as, ReadsAll h₀ us ds as
  rk : ∃ bs, ReadAtMost h₀ (PyData.depthAll ds) bs ∧ ReprAllK prog w bs h₀ (PyData.depthAll ds) us (PyData.shownAll ds)
section
variable {prog : Program} {w : World} {h₀ : Heap} {a : Addr} {ob : Obj}
theorem ShowsL.nil : ShowsL prog w h₀ [] [] := ⟨⟨[], .nil⟩, [], (fun _ z => nomatch z), by simp only [PyData.shownAll]; exact .nil⟩
theorem ShowsL.cons {u : Value} {us : List Value} {d : PyData} {ds : List PyData} (x : Shows prog w h₀ u d) (y : ShowsL prog w h₀ us ds) : ShowsL prog w h₀ (u :: us) (d :: ds) := by
  obtain ⟨⟨a1, r1⟩, c1, m1, k1⟩ := x
  obtain ⟨⟨a2, r2⟩, c2, m2, k2⟩ := y
  have l1 : d.depth ≤ PyData.depthAll (d :: ds) := by simp only [PyData.depthAll]; omega
  have l2 : PyData.depthAll ds ≤ PyData.depthAll (d :: ds) := by simp only [PyData.depthAll]; omega
  refine ⟨⟨_, .cons r1 r2⟩, c1 ++ c2, (m1.mono l1).append (m2.mono l2), ?_⟩
  have q1 := (k1.more (as' := c1 ++ c2) fun b z => List.mem_append_left _ z).level_le l1
  have q2 := k2.more_le (as' := c1 ++ c2) (fun b z => List.mem_append_right _ z) l2
  simp only [PyData.shownAll]
  exact .cons q1 q2
theorem Shows.none : Shows prog w h₀ .none .none := ⟨⟨_, .none⟩, [], (fun _ z => nomatch z), by simp only [PyData.shown]; exact .of_is ReprIs.none _ _ _⟩
theorem Shows.bool (b : Bool) : Shows prog w h₀ (.bool b) (.bool b) := ⟨⟨_, .bool b⟩, [], (fun _ z => nomatch z), by simp only [PyData.shown]; exact .of_is (ReprIs.bool b) _ _ _⟩
theorem Shows.int {i : Int} {t : Tok} (h : i.natAbs.log2 < 1920) : Shows prog w h₀ (.int i t) (.int i) := ⟨⟨_, .int i t⟩, [], (fun _ z => nomatch z), by simp only [PyData.shown]; exact .of_is (ReprIs.int t h) _ _ _⟩
theorem Shows.str {x : Str} {t : Tok} (h : (reprText x).length ≤ sizeLine) : Shows prog w h₀ (.str x t) (.str x) := ⟨⟨_, .str x t⟩, [], (fun _ z => nomatch z), by simp only [PyData.shown]; exact .of_is (ReprIs.str x t h) _ _ _⟩
/-- what is known of a thing with parts: its address does not come in the parts -/
theorem fresh_of {d : PyData} {as : List Addr} {n : Nat} {bs : List Addr} (r : Reads h₀ (.ref a) d as) (m : ReadAtMost h₀ n bs) (h : d.depth = n + 1) : a ∉ bs ∧ ReadAtMost h₀ (n + 1) (a :: bs) := by
  have q := ReadAtMost.cons r (by omega) m
  rw [h] at q
  exact ⟨not_mem_of_deeper r (by omega) m, q⟩
theorem Shows.list {vs : Array Value} {n : Nat} {ds : List PyData} (e1 : h₀.get? a = some ob) (e2 : ob.cls = .type "list") (e3 : ob.data = .seq vs n) (x : ShowsL prog w h₀ vs.toList ds) : Shows prog w h₀ (.ref a) (.list ds) := by
  obtain ⟨⟨a1, r1⟩, c1, m1, k1⟩ := x
  have r : Reads h₀ (.ref a) (.list ds) _ := .list e1 e2 e3 r1
  obtain ⟨f1, f2⟩ := fresh_of r m1 (by simp only [PyData.depth])
  refine ⟨⟨_, r⟩, a :: c1, by simpa only [PyData.depth] using f2, ?_⟩
  simp only [PyData.depth, PyData.shown]
  obtain ⟨l⟩ := vs
  cases l with
  | nil =>
    have r1' : ReadsAll h₀ [] ds a1 := r1
    cases r1'
    simp only [PyData.shownAll, listText_nil]
    exact ReprK.listEmpty e1 e2 e3
  | cons y l =>
    have hl := k1.length_eq
    exact ReprK.list e1 e2 e3 f1 (by simpa using hl) fun i z q => k1.item i z (by simpa using q)
theorem Shows.tuple {vs : Array Value} {n : Nat} {ds : List PyData} (e1 : h₀.get? a = some ob) (e2 : ob.cls = .type "tuple") (e3 : ob.data = .seq vs n) (x : ShowsL prog w h₀ vs.toList ds) : Shows prog w h₀ (.ref a) (.tuple ds) := by
  obtain ⟨⟨a1, r1⟩, c1, m1, k1⟩ := x
  have r : Reads h₀ (.ref a) (.tuple ds) _ := .tuple e1 e2 e3 r1
  obtain ⟨f1, f2⟩ := fresh_of r m1 (by simp only [PyData.depth])
  refine ⟨⟨_, r⟩, a :: c1, by simpa only [PyData.depth] using f2, ?_⟩
  simp only [PyData.depth, PyData.shown]
  exact ReprK.tuple e1 e2 e3 f1 k1
theorem Shows.dict {es : Array DictEntry} {n : Nat} {kvs : List (PyData × PyData)} (e1 : h₀.get? a = some ob) (e2 : ob.cls = .type "dict") (e3 : ob.data = .dict es n) (ns : (a == sysModules) = false)
    (x : ShowsL prog w h₀ (es.toList.map (·.key)) (kvs.map (·.1))) (y : ShowsL prog w h₀ (es.toList.map (·.val)) (kvs.map (·.2))) : Shows prog w h₀ (.ref a) (.dict kvs) := by
  obtain ⟨⟨a1, r1⟩, c1, m1, k1⟩ := x
  obtain ⟨⟨a2, r2⟩, c2, m2, k2⟩ := y
  have r : Reads h₀ (.ref a) (.dict kvs) _ := .dict e1 e2 e3 r1 r2
  have l1 := PyData.depthAll_keys_le kvs
  have l2 := PyData.depthAll_vals_le kvs
  obtain ⟨f1, f2⟩ := fresh_of r ((m1.mono l1).append (m2.mono l2)) (by simp only [PyData.depth])
  refine ⟨⟨_, r⟩, a :: (c1 ++ c2), by simpa only [PyData.depth] using f2, ?_⟩
  simp only [PyData.depth, PyData.shown, PyData.shownKv_eq]
  have q1 := k1.more_le (as' := c1 ++ c2) (fun b z => List.mem_append_left _ z) l1
  have q2 := k2.more_le (as' := c1 ++ c2) (fun b z => List.mem_append_right _ z) l2
  exact ReprK.dict e1 e2 e3 ns f1 (ReprEntriesK.of_two es.toList _ _ q1 q2)
end
section
variable {X : Cx} {pins : List (Addr × Obj)} {σ : L2.St} {H : Hp} {s : Shared}
theorem DatL.len {K : PySem.W.Frag} {H : Hp} : ∀ {vs : List V} {ds : List PyData}, DatL K H vs ds → vs.length = ds.length
  | _, _, .nil => rfl
  | _, _, .cons _ r => by rw [List.length_cons, List.length_cons, DatL.len r]
theorem keys_show {prog : Program} {w : World} {h₀ : Heap} : ∀ {es : List DictEntry} {kv : List (Key × Value)}, Pairs (mixKind prog w) es kv → (∀ k ∈ kv.map (·.1), keyC k ≤ 100000) → ShowsL prog w h₀ (es.map (·.key)) ((kv.map (·.1)).map keyPD)
  | _, _, .nil, _ => .nil
  | _, _, .cons (e := e) (kv := kv) (es := es) (kvs := kvs) i v r, hk => by
    have hk1 := hk kv.1 (by simp)
    refine .cons ?_ (keys_show r fun k z => hk k (by simp only [List.map_cons]; exact List.mem_cons_of_mem _ z))
    obtain ⟨k, y⟩ := kv
    rcases keyIs_shape (show keyIs k e.key = true from i) with ⟨j, t, e1, e2⟩ | ⟨j, t, e1, e2⟩
    · simp only at e1 hk1 ⊢
      first
        | (rw [e1] at hk1 ⊢; rw [e2]; exact Shows.int (int_len hk1).2)
        | (rw [e2] at hk1 ⊢; rw [e1]; exact Shows.int (int_len hk1).2)
    · simp only at e1 hk1 ⊢
      have z : ∀ {x : Str}, strC x ≤ 100000 → (reprText x).length ≤ sizeLine := fun {x} q => by
        have := str_len q
        rw [sizeLine_eq]; omega
      first
        | (rw [e1] at hk1 ⊢; rw [e2]; exact Shows.str (z hk1))
        | (rw [e2] at hk1 ⊢; rw [e1]; exact Shows.str (z hk1))
theorem pairs_val {prog : Program} {w : World} : ∀ {es : List DictEntry} {kv : List (Key × Value)}, Pairs (mixKind prog w) es kv → es.map (·.val) = kv.map (·.2)
  | _, _, .nil => rfl
  | _, _, .cons _ v r => by rw [List.map_cons, List.map_cons, v, pairs_val r]
theorem kv_split : ∀ {ks : List Key} {ws : List V} {kv : List (Key × Value)}, ks.length = ws.length → KV (ks.zip ws) kv → kv.map (·.1) = ks ∧ Vals ws (kv.map (·.2))
  | [], [], _, _, r => by cases r; exact ⟨rfl, .nil⟩
  | [], _ :: _, _, h, _ => by cases h
  | _ :: _, [], _, h, _ => by cases h
  | k :: ks, v :: ws, _, h, r => by
    rw [List.zip_cons_cons] at r
    cases r with
    | cons p q =>
      obtain ⟨i, j⟩ := kv_split (ks := ks) (ws := ws) (by simpa using h) q
      exact ⟨by rw [List.map_cons, i, ← p.1], .cons p.2 j⟩
mutual
theorem Dat.shows (I : Inv X pins σ H s) : ∀ {v : V} {d : PyData} {u : Value}, Dat X.K H v d → RelV v u → Shows X.prog X.w s.heap u d
  | _, _, u, .non, r => by
    obtain rfl : u = Value.none := r
    exact .none
  | _, _, u, .bl b, r => by
    obtain rfl : u = Value.bool b := r
    exact .bool b
  | _, _, u, .int i h, r => by
    obtain ⟨t, rfl⟩ : ∃ t, u = Value.int i t := r
    exact .int (int_len h).2
  | _, _, u, .str x h, r => by
    obtain ⟨t, rfl⟩ : ∃ t, u = Value.str x t := r
    have := str_len h
    exact .str (by rw [sizeLine_eq]; omega)
  | _, _, u, .lst (a := a) q ds, r => by
    obtain rfl : u = Value.ref a := r
    obtain ⟨its, rv, ⟨o, n, g1, g2, g3, g4⟩, _⟩ := I.list q
    exact .list g1 g2 g4 (DatL.shows I ds (by simpa using rv))
  | _, _, u, .tup (a := a) q ds, r => by
    obtain rfl : u = Value.ref a := r
    obtain ⟨its, rv, ⟨o, g1, g2, n, g3⟩, _⟩ := I.tuple q
    exact .tuple g1 g2 g3 (DatL.shows I ds (by simpa using rv))
  | _, _, u, .dic (a := a) (ks := ks) (ws := ws) (ds := ds) q l hk dl, r => by
    obtain rfl : u = Value.ref a := r
    obtain ⟨_, ns, kv, rk, o, es, ep, g1, g2, g3, _, pr, _⟩ := dk_of I.hok q
    obtain ⟨k1, k2⟩ := kv_split l rk
    have kl := DatL.len dl
    have el : (ks.map keyPD).length = ds.length := by rw [List.length_map, l, kl]
    refine .dict g1 g2.1 g3 ns ?_ ?_
    · have := keys_show (h₀ := s.heap) pr fun k z => hk k (by rw [← k1]; exact z)
      rw [k1] at this
      rw [List.map_fst_zip (by omega)]
      exact this
    · rw [List.map_snd_zip (by omega), pairs_val pr]
      exact DatL.shows I dl k2
theorem DatL.shows (I : Inv X pins σ H s) : ∀ {vs : List V} {ds : List PyData} {us : List Value}, DatL X.K H vs ds → Vals vs us → ShowsL X.prog X.w s.heap us ds
  | _, _, us, .nil, r => by
    cases r
    exact .nil
  | _, _, us, .cons d ds, r => by
    cases r with
    | cons r1 r2 => exact .cons (Dat.shows I d r1) (DatL.shows I ds r2)
end
/-- repr(x) -/
theorem repr_dat (I : Inv X pins σ H s) {v : V} {d : PyData} {u : Value} {Q : Value → Shared → Prop} {E : Value → Shared → Prop} (hg : X.A.guards = some []) (hu : X.A.units + (d.depth + 1) < cLine) (x : Dat X.K H v d) (r : RelV v u) (hz : d.shown.length ≤ sizeLine)
    (q : ∀ u' s', Inv X pins σ H s' → RelV (.str d.shown) u' → Q u' s') : wpAny (model X.prog X.w) X.A (call (.builtin "repr") [u]) Q E s := by
  have qh : ∀ (h' : Heap) (t tk : Tok), (∀ b o, s.heap.get? b = some o → h'.get? b = some o) → Q (.str d.shown t) { s with heap := h', toks := tk } := fun h' t tk k => q _ _ (I.kept k) ⟨t, rfl⟩
  cases x with
  | non =>
    obtain rfl : u = Value.none := r
    exact PySem.P.repr_of_none (by simpa only [PyData.shown] using q _ _ (I.tok _) ⟨_, rfl⟩)
  | bl b =>
    obtain rfl : u = Value.bool b := r
    exact PySem.P.repr_of_bool (by simpa only [PyData.shown] using q _ _ (I.tok _) ⟨_, rfl⟩)
  | int i h =>
    obtain ⟨t, rfl⟩ : ∃ t, u = Value.int i t := r
    exact PySem.P.repr_of_int (int_len h).2 (by simpa only [PyData.shown] using q _ _ (I.tok _) ⟨_, rfl⟩)
  | str x h =>
    obtain ⟨t, rfl⟩ : ∃ t, u = Value.str x t := r
    have := str_len h
    exact PySem.P.repr_of_str (by simpa only [PyData.shown] using q _ _ (I.tok _) ⟨_, rfl⟩) (by rw [sizeLine_eq]; omega)
  | @lst a ws ds y dl =>
    obtain rfl : u = Value.ref a := r
    obtain ⟨its, rv, ⟨o, n, g1, g2, g3, g4⟩, _⟩ := I.list y
    obtain ⟨⟨a1, r1⟩, c1, m1, k1⟩ := DatL.shows I dl rv
    have rr : Reads s.heap (.ref a) (.list ds) _ := .list g1 g2 g4 (by simpa using r1)
    obtain ⟨f1, f2⟩ := fresh_of rr m1 (by simp only [PyData.depth])
    simp only [PyData.depth] at hu
    simp only [PyData.shown] at hz qh
    refine call_repr_slot (by omega) ⟨o, g1, g2⟩ F.slot_list_repr.toG ?_
    cases its with
    | nil =>
      cases r1
      simp only [PyData.shownAll, listText_nil] at qh
      exact call_list_repr_empty ⟨o, g1, g2⟩ g1 g4 ⟨_, _, rfl, qh s.heap _ _ fun _ _ e => e⟩
    | cons z l =>
      have hl := k1.length_eq
      exact call_list_reprK g1 g2 g4 f1 (by simpa using hl) (fun i z q => k1.item i z (by simpa using q)) hg (fun b _ => Clear.nil b) (by show X.A.units + 1 + _ < cLine; omega) (fun _ _ e => e) (fun h' t tk k => ⟨_, _, rfl, qh h' t tk k⟩) hz
  | @tup a ws ds y dl =>
    obtain rfl : u = Value.ref a := r
    obtain ⟨its, rv, ⟨o, g1, g2, n, g3⟩, _⟩ := I.tuple y
    obtain ⟨⟨a1, r1⟩, c1, m1, k1⟩ := DatL.shows I dl rv
    have rr : Reads s.heap (.ref a) (.tuple ds) _ := .tuple g1 g2 g3 (by simpa using r1)
    obtain ⟨f1, f2⟩ := fresh_of rr m1 (by simp only [PyData.depth])
    simp only [PyData.depth] at hu
    simp only [PyData.shown] at hz qh
    refine call_repr_slot (by omega) ⟨o, g1, g2⟩ F.slot_tuple_repr ?_
    exact call_tuple_reprK g1 g2 g3 f1 (by simpa using k1) hg (fun b _ => Clear.nil b) (by show X.A.units + 1 + _ < cLine; omega) (fun _ _ e => e) (fun h' t tk k => ⟨_, _, rfl, qh h' t tk k⟩) hz
  | @dic a ks ws ds y l hk dl =>
    obtain rfl : u = Value.ref a := r
    obtain ⟨_, ns, kv, rk, o, es, ep, g1, g2, g3, _, pr, _⟩ := dk_of I.hok y
    obtain ⟨k1, k2⟩ := kv_split l rk
    have kl := DatL.len dl
    have el : (ks.map keyPD).length = ds.length := by rw [List.length_map, l, kl]
    have SK : ShowsL X.prog X.w s.heap (es.toList.map (·.key)) (((ks.map keyPD).zip ds).map (·.1)) := by
      have := keys_show (h₀ := s.heap) pr fun k z => hk k (by rw [← k1]; exact z)
      rw [k1] at this
      rw [List.map_fst_zip (by omega)]
      exact this
    have SV : ShowsL X.prog X.w s.heap (es.toList.map (·.val)) (((ks.map keyPD).zip ds).map (·.2)) := by
      rw [List.map_snd_zip (by omega), pairs_val pr]
      exact DatL.shows I dl k2
    obtain ⟨⟨a1, r1⟩, c1, m1, q1⟩ := SK
    obtain ⟨⟨a2, r2⟩, c2, m2, q2⟩ := SV
    have rr : Reads s.heap (.ref a) (.dict ((ks.map keyPD).zip ds)) _ := .dict g1 g2.1 g3 r1 r2
    have l1 := PyData.depthAll_keys_le ((ks.map keyPD).zip ds)
    have l2 := PyData.depthAll_vals_le ((ks.map keyPD).zip ds)
    obtain ⟨f1, f2⟩ := fresh_of rr ((m1.mono l1).append (m2.mono l2)) (by simp only [PyData.depth])
    simp only [PyData.depth] at hu
    simp only [PyData.shown, PyData.shownKv_eq] at hz qh
    refine call_repr_slot (by omega) ⟨o, g1, g2.1⟩ F.slot_dict_repr ?_
    exact call_dict_reprK g1 g2.1 g3 ns f1 (ReprEntriesK.of_two es.toList _ _ (q1.more_le (as' := c1 ++ c2) (fun b z => List.mem_append_left _ z) l1) (q2.more_le (as' := c1 ++ c2) (fun b z => List.mem_append_right _ z) l2)) hg (fun b _ => Clear.nil b)
      (by show X.A.units + 1 + _ < cLine; omega) (fun _ _ e => e) (fun h' t tk k => ⟨_, _, rfl, qh h' t tk k⟩) hz
def rRepr (K : PySem.W.Frag) : List V → Hp → VK → Prop := fun xs H Q => ∃ v d, xs = [v] ∧ Dat K H v d ∧ d.depth ≤ 100 ∧ d.shown.length ≤ sizeLine ∧ Q (.str d.shown) H
theorem cr_repr {k : Nat} (hr : Room k X.A) (hg : X.A.guards = some []) : CallR X (.builtin "repr") (rRepr X.K) := by
  intro pins s σ H xs us Q I r h
  obtain ⟨v, d, rfl, dd, hd, hz, q⟩ := h
  obtain ⟨u, rfl, t⟩ := vals1 r
  have hu := hr.un
  exact repr_dat I hg (by omega) dd t hz fun u' s' I' r' => ⟨_, H, I', r', q⟩
end
theorem rd_repr {Γ : Ctx} : RdN Γ reprV (rRepr Γ.K) := fun H P xs z vs Q ok e hp k => by
  unfold reprV at e
  split at e
  · rename_i x
    cases hT : pdV x with
    | none => rw [hT] at e; cases e
    | some d =>
      rw [hT] at e
      simp only [Option.bind_some] at e
      split at e
      · rename_i hle
        cases e
        simp only [Bool.and_eq_true, decide_eq_true_eq] at hle
        obtain ⟨v, rfl, o, r⟩ := pair1 hp
        obtain ⟨l1, l2, l3⟩ := len_of hT hle.1
        exact ⟨v, d, rfl, dat_of r hT hle.1, by omega, by rw [sizeLine_eq]; omega, k _ H P [] .refl ok rep_str⟩
      · cases e
  · cases e
end VI
set_option Elab.async false
set_option linter.all false
set_option maxRecDepth 100000
set_option maxHeartbeats 2000000
/-! VN4: {k: e} with a written key. -/
namespace VI
open PySem PySem.Spec PyProof.Rows L2
def cDic1 (k : KeyT) (a : C) : C := fun e => (a e).bind fun u e1 => match u.takeF e1 with
  | some (x, e2) => .ok (.val (.dic true [k] [x])) e2
  | none => .bad
section
variable {Γ : Ctx} {X : Cx} {W : WX} {σ : L2.St} {H : Hp} {P : Addr → Prop} {ow o f : List Addr}
theorem dic1_red {k : KeyT} {a : C} {Q : VK} (h : tS Γ (RepO Γ) W (cDic1 k a) σ H Q) : tDisp [(tC (kV k), tS Γ (RepO Γ) W a)] σ H Q := by
  obtain ⟨P, ow, e, ok, rel, acc⟩ := h
  intro p hp
  obtain ⟨x3, k3, kp3⟩ := new_dic (ws := []) ok hp
  obtain ⟨x4, k4, kp4⟩ := ok_drop (g := []) (ow := ow) ok x3 k3
  show tS Γ (RepO Γ) W a σ (upd H p (.dK [])) _
  refine tS.use (f := [p]) k4 (rel.kp kp4) (Acc.rebase acc x4) fun u e1 v H1 P1 o1 ow1 kp1 ok1 r1 rel1 acc1 => ?_
  have hp1 : H1 p = some (.dK []) := kp1.own p List.mem_cons_self _ upd_same
  cases q : u.takeF e1 with
  | none => simp [q, Acc] at acc1
  | some pr =>
    obtain ⟨x, e2⟩ := pr
    simp only [q] at acc1
    obtain ⟨P2, ow2, x2, k2, r2, rel2, kp2⟩ := OV.takeF_rep (f := [p]) ok1 rel1 r1 q
    refine ⟨hp1, [(k, v)], rfl, by simp, ?_⟩
    have em : mergeK [] [(k, v)] = [(k, v)] := rfl
    rw [em]
    obtain ⟨x5, k5, kp5⟩ := mut_own (u := .dK [(k, v)]) k2 (List.mem_append_left _ List.mem_cons_self) ⟨_, upd_same, .inr (.inl ⟨_, rfl⟩)⟩ (fun xs h => by rcases h with h | ⟨_, h⟩ <;> cases h) (fun _ _ z => by cases z)
    have nn := List.nodup_append.mp k2.n
    have kpw := kp5 ow2 (fun z => nn.2.2 p List.mem_cons_self p z rfl) fun b hb => List.mem_append_right _ hb
    have kp0 := kp5 [] (fun z => by cases z) fun b hb => by cases hb
    refine acc1 (.ref p) _ P2 [p] ow2 (x2.trans x5) k5 ?_ (rel2.kp kpw)
    show Rep Γ _ P2 (.dic true [k] [x]) _ _
    simp only [Rep, RepL]
    exact ⟨p, [v], [], rfl, upd_same, rfl, ⟨v, [], [], [], rfl, r2.kp kp0, ⟨rfl, rfl⟩, rfl⟩, rfl⟩
theorem se_dic1 {ke ve : Expr} {k : KeyT} {a : C} {pos : Pos} (hk : PE X ke (tC (kV k))) (ha : SE Γ X ve a) : SE Γ X (.Dict [some ke] [ve] pos) (cDic1 k a) := fun W tk =>
  pe_imp (pe_disp (pps_cons hk (ha W tk) pps_nil) rfl rfl (by simp) (by simp)) fun σ H Q h => dic1_red h
theorem se_dicI {i : Int} {j : Nat} {ve : Expr} {a : C} {p pos : Pos} (ha : SE Γ X ve a) : SE Γ X (.Dict [some (.Constant (.int i) j p)] [ve] pos) (cDic1 (.inl i) a) := se_dic1 (k := .inl i) pe_int ha
end
end VI
set_option Elab.async false
set_option linter.all false
set_option maxRecDepth 100000
set_option maxHeartbeats 2000000
/-! VN5: the end of a law whose own def is run where nothing else is under way (so that it may call repr). -/
namespace VI
open PySem PySem.Spec PyProof.Rows L2 LamX
/-- the law's def keeps its promise where the caller calls it -/
def LawRun (P : Program) (w : World) (K : PySem.W.Frag) (mg : Str → Option Value) (base : Heap) (CX : CXT) (fa : Addr) (fd : FuncData) (x : Str) (sp : Sp) : Prop :=
  ∀ (s : Shared) (H : Hp) (u : Value) (v : V) (Q : VK) (E : XK), Env0 P w K mg base callerA [] s H → BindsTo s fd ⟨[u], []⟩ [(x, u)] → RelV v u → sp [v] H Q E →
    codeAny (model P w) callerA (.call (.ref fa) ⟨[u], []⟩) (CR CX [] P w H s Q E) s
section
variable {P : Program} {w : World} {K : PySem.W.Frag} {mg mb : Str → Option Value} {base : Heap}
theorem lawRun_of {Γ : Ctx} {x qual : Str} {st : Stmt} {f : Addr} {fd : FuncData} {cdv : Value} {N : List Str} {m n d : Nat} {fdv : FDef} {y : Str} {Pr : Nat → Option FDef} (hz : Γ.fix = []) (F : DFn K x qual st f fd cdv) (S : FnScope N [y] (defScope st)) (hP : Pr n = some fdv)
    (hn : fdv.n = N.length) (hp : fdv.np = 1) (hrefs : ∀ i ∈ fdv.refs, i < fdv.np) (hr : Room (m + 1) callerA)
    (hbody : ∀ (A : Around) (outer : List Env) (s : Shared) (H : Hp) (E : XK), A.guards = some [] → Room m (A.deeper (envOfC qual (defScope st) s.heap.objs.size f cdv)) →
      SSs Γ fdv.refs (cxOf (L2.CX P w) P w K mg base N qual (defScope st) f cdv A outer s H E) (defBody st) (fdv.body (callN Pr d))) : LawRun P w K mg base (L2.CX P w) f fd y (spF Γ (callN Pr (d + 1)) n) := by
  obtain ⟨oc, od, kV, doc, pm, an, ct, osl, rfl, lk, hcd⟩ := F.ex
  intro s H u v Q E e0 hb r hsp
  obtain ⟨P', ow, xs, ok, rp, acc⟩ := hsp
  simp only [callN, hP] at acc
  have run := run_acc hz hn hrefs ok rp acc
  have room' := hr.deeper (envOfC qual (defScope st) s.heap.objs.size f cdv)
  have body := hbody callerA [] s H E rfl room' (fun p z => by rw [hz] at z; cases z) (fun cls d _ H' => E cls d H') (takes_of rfl rfl rfl rfl)
  have old : ∀ b o, base.get? b = some o → s.heap.get? b = some o := fun b o z => (e0.bs b o z).1
  have inK := e0.mod.kin.keeps old
  have par : ∀ z ∈ [y].zip [u], (defScope st).names.lookup z.1 = some .local ∨ ((defScope st).names.lookup z.1 = some .cell ∧ ((cellsFrom (s.heap.objs.size + 1) (defScope st).names []).lookup z.1).isSome = true) := fun z hz => by
    obtain ⟨z1, z2⟩ := z
    rcases S.par z1 (List.of_mem_zip hz).1 with q | q
    · exact .inl q
    · obtain ⟨c, q2⟩ := cell_has (n := s.heap.objs.size + 1) q
      exact .inr ⟨q, by rw [q2]; rfl⟩
  have rv : Vals [v] [u] := .cons r .nil
  refine codeAny_call_function hr.depth (inK _ _ lk) rfl S.co S.gen rfl (PySem.W.codeRec_of inK hcd) (hb _ _ _ _ ?_)
  refine wpAny_newFunctionEnv_cells S.kind par fun env he s1 ent => ?_
  subst he
  refine ⟨(e0.mod.nolimit.keeps old).keeps ent.toInCall.keep, codeAny_func ?_⟩
  have I := inv_start (CX := L2.CX P w) (E := E) (f := f) (cd := cdv) (qual := qual) S hr.hd e0 rfl rv ent
  refine wpAny_mono (body.run [] s1 (start N [v]) H _ I run) (fun fl s' hs => ?_) fun e s' hs => hs
  cases fl with
  | brk =>
    obtain ⟨_, _, _, z⟩ := hs
    exact (show False from z).elim
  | cont =>
    obtain ⟨_, _, _, z⟩ := hs
    exact (show False from z).elim
  | next =>
    obtain ⟨σ', H', J, q⟩ := hs
    exact ⟨.non, H', J.os, J.bare, J.base, J.hok, rfl, q⟩
  | ret z =>
    obtain ⟨v', σ', H', J, r', q⟩ := hs
    exact ⟨v', H', J.os, J.bare, J.base, J.hok, r', q⟩
/-- the law's call, from a world in which the script is a list of ints and cs are the known code objects with their empty tables -/
theorem law_callG {CX : CXT} {fa a : Addr} {cs : List (Addr × Addr)} {fd : FuncData} {x : Str} {sp : Sp} {s₁ : Shared} {vs : List Value} {ns : List Int}
    (KX : K.In s₁.heap) (gns : s₁.heap.Ns mainGlobals mg) (bns : s₁.heap.Ns builtinsNs mb) (bb : ∀ y : Str, y ≠ "__name__" → mb y = bootBuiltins y) (nolim : s₁.heap.NoLimit) (nog : s₁.gens = #[])
    (tabs : ∀ p ∈ cs, s₁.heap.get? p.2 = some { cls := .none, data := .fields #[] }) (tabK : ∀ p ∈ cs, K.lookup p.2 = none) (heads : ∀ p ∈ cs, PySem.W.CodeHd s₁.heap p.1 p.2)
    (blt : ∃ (m : Addr) (ob : Obj), mg "__builtins__" = some (.ref m) ∧ m ≠ builtinsNs ∧ s₁.heap.get? m = some ob ∧ ob.cls = .type "module" ∧ ob.dict = some builtinsNs ∧ ob.data = .plain)
    (lst : s₁.heap.get? a = some { cls := .type "list", data := .seq vs.toArray }) (hin : IntsAre vs ns) (short : ns.length ≤ sizeLine)
    (F : ∀ base : Heap, K.In base → base.Ns mainGlobals mg → (∀ p ∈ cs, TabB base mg p.1 p.2) → LawRun P w K mg base CX fa fd x sp) (bnd : ∀ (s : Shared) (u : Value), BindsTo s fd ⟨[u], []⟩ [(x, u)])
    (hsp : ∀ H : Hp, (∀ p ∈ cs, H p.2 = some (.tbl #[])) → SqL K H a (ns.map V.int) → sp [.ref a] H (fun v _ => v = .bl true) fun _ _ _ => False)
    (noX : ∀ H e s', CX [] H s₁ (fun _ _ _ => False) e s' → False) :
    codeAny (model P w) callerA (.call (.ref fa) ⟨[.ref a], []⟩) (fun r s' => r = .ok (.ret (.bool true)) ∧ OldK s₁.heap s'.heap ∧ s'.os = s₁.os ∧ AllBare s'.gens) s₁ := by
  classical
  have rv := vals_ints hin
  let ob : Obj := { cls := .type "list", data := .seq vs.toArray }
  have tab : ∀ b, b ∈ cs.map (·.2) → s₁.heap.get? b = some { cls := .none, data := .fields #[] } := fun b z => by
    obtain ⟨p, z1, z2⟩ := List.mem_map.mp z
    subst z2
    exact tabs p z1
  have aT : a ∉ cs.map (·.2) := fun z => by
    have := tab a z
    rw [lst] at this
    cases congrArg Obj.data (Option.some.inj this)
  -- what is tracked: the tables, and the script where nothing is written of it
  let Hh : Hp := fun b => if b ∈ cs.map (·.2) then some (.tbl #[]) else if b = a ∧ K.lookup a = none then some (.frz ob (.lst (ns.map V.int))) else none
  have seen : ∀ {b u}, Hh b = some u → (b ∈ cs.map (·.2) ∧ u = .tbl #[]) ∨ (b ∉ cs.map (·.2) ∧ b = a ∧ K.lookup a = none ∧ u = .frz ob (.lst (ns.map V.int))) := fun {b u} z => by
    by_cases h1 : b ∈ cs.map (·.2)
    · have z' : some (HO.tbl #[]) = some u := (if_pos h1).symm.trans z
      cases z'
      exact .inl ⟨h1, rfl⟩
    · have z1 : (if b = a ∧ K.lookup a = none then some (HO.frz ob (.lst (ns.map V.int))) else none) = some u := (if_neg h1).symm.trans z
      by_cases h2 : b = a ∧ K.lookup a = none
      · rw [if_pos h2] at z1
        cases z1
        exact .inr ⟨h1, h2.1, h2.2, rfl⟩
      · rw [if_neg h2] at z1
        cases z1
  have tbl : ∀ p ∈ cs, Hh p.2 = some (.tbl #[]) := fun p z => if_pos (List.mem_map.mpr ⟨p, z, rfl⟩)
  have good : HOk P w Hh s₁.heap := fun b u z => by
    rcases seen z with ⟨h1, rfl⟩ | ⟨_, rfl, _, rfl⟩
    · exact tab b h1
    · exact ⟨lst, by rw [List.length_map]; exact short, vs, _, rv, lst⟩
  have script : SqL K Hh a (ns.map V.int) := by
    cases k : K.lookup a with
    | none => exact .inl (.inr ⟨ob, (if_neg aT).trans (if_pos ⟨rfl, k⟩)⟩)
    | some o =>
      have e := KX a o k
      rw [lst] at e
      cases e
      have sz : vs.length ≤ sizeLine := by rw [hin.length]; exact short
      exact .inr ⟨_, vs.toArray, _, k, rfl, rfl, rfl, by rw [List.size_toArray]; exact sz, by simpa using rv⟩
  -- things that are neither lists nor tables are not tracked
  have clear : ∀ {b : Addr} {o : Obj}, s₁.heap.get? b = some o → (∀ us n, o.data ≠ .seq us n) → o.data ≠ .fields #[] → Hh b = none := fun {b o} e h1 h2 => by
    cases z : Hh b with
    | none => rfl
    | some u =>
      rcases seen z with ⟨h, _⟩ | ⟨_, rfl, _⟩
      · rw [tab b h] at e
        cases e
        exact absurd rfl h2
      · rw [lst] at e
        cases e
        exact absurd rfl (h1 _ _)
  have stay : ∀ {b : Addr} {o : Obj}, s₁.heap.get? b = some o → (∀ us n, o.data ≠ .seq us n) → o.data ≠ .fields #[] → (hidT s₁.heap Hh).get? b = some o := fun e h1 h2 => hidT_get e (clear e h1 h2)
  have space : ∀ {b : Addr} {m : Str → Option Value}, s₁.heap.Ns b m → (hidT s₁.heap Hh).Ns b m := fun {b m} z => by
    obtain ⟨o, es, ep, e, d, rest⟩ := z
    exact ⟨o, es, ep, stay e (fun us n q => by rw [d] at q; cases q) (fun q => by rw [d] at q; cases q), d, rest⟩
  have inK : K.In (hidT s₁.heap Hh) := fun b o e => hidT_get (KX b o e) (by
    cases z : Hh b with
    | none => rfl
    | some u =>
      rcases seen z with ⟨h, _⟩ | ⟨_, rfl, h, _⟩
      · obtain ⟨p, p1, rfl⟩ := List.mem_map.mp h
        rw [tabK p p1] at e
        cases e
      · rw [h] at e
        cases e)
  have lim : (hidT s₁.heap Hh).NoLimit := nolim.elim fun mc z => ⟨mc, space z.1, z.2⟩
  have md : L2.Mod K mg (hidT s₁.heap Hh) := ⟨inK, space gns, ⟨mb, space bns, bb⟩, lim⟩
  have tb : ∀ p ∈ cs, TabB (hidT s₁.heap Hh) mg p.1 p.2 := fun p hp => by
    have here := tabs p hp
    have glob : ∀ c : Addr, (∃ o, s₁.heap.get? c = some o ∧ (o.data = .plain ∨ c = mainGlobals)) → c ≠ p.2 := fun c ⟨o, e, q⟩ z => by
      rw [z, here] at e
      cases e
      rcases q with q | q
      · cases q
      · obtain ⟨o2, es, ep, e2, d2, _⟩ := gns
        rw [← q, z, here] at e2
        cases e2
        cases d2
    obtain ⟨g, ges, gep, eg, dg, _⟩ := gns
    refine ⟨?_, ?_, fun z => glob mainGlobals ⟨g, eg, .inr rfl⟩ z⟩
    · obtain ⟨o, us, file, tf, fl, tg, inF, tx, tt, e1, r1, r2, r3, rest⟩ := heads p hp
      refine ⟨o, us, file, tf, fl, tg, inF, tx, tt, stay e1 (fun vs n z => by rw [r2] at z; cases z) (fun z => ?_), r1, r2, r3, rest⟩
      rw [r2] at z
      cases z
      simp at r3
    · obtain ⟨m, o, b1, b2, b3, b4, b5, b6⟩ := blt
      have m1 : m ≠ mainGlobals := fun z => by
        rw [z, eg] at b3
        cases b3
        rw [dg] at b6
        cases b6
      exact ⟨m, o, b1, b2, m1, glob m ⟨o, b3, .inl b6⟩, stay b3 (fun us n z => by rw [b6] at z; cases z) (fun z => by rw [b6] at z; cases z), b4, b5, b6⟩
  have e0 : Env0 P w K mg (hidT s₁.heap Hh) callerA [] s₁ Hh := by
    refine ⟨rfl, md, fun b o z => of_hidT z, Nat.le_of_eq (hidT_size _ _), trivial, fun b z => ?_, good, .of_eq nog⟩
    exact absurd (show b ∈ ([] : List Addr) from z) (by simp)
  have main := F _ inK (space gns) tb s₁ Hh (.ref a) (.ref a) _ _ e0 (bnd s₁ (.ref a)) rfl (hsp Hh tbl script)
  refine codeAny_mono main fun r s' z => ?_
  match r, z with
  | .error e, z => exact (noX Hh e s' z).elim
  | .ok .next, z => exact (show False from z).elim
  | .ok .brk, z => exact (show False from z).elim
  | .ok .cont, z => exact (show False from z).elim
  | .ok (.ret u), z =>
    obtain ⟨v, H', os, bare, un, good', ru, q⟩ := z
    have q' : v = .bl true := q
    subst q'
    obtain rfl : u = Value.bool true := ru
    -- the tables may have grown, all else stands as it stood
    have more : ∀ p ∈ cs, ∃ us : Array Value, s'.heap.get? p.2 = some { cls := .none, data := .fields us } := fun p hp => by
      obtain ⟨us, e⟩ := un.tbls p.2 #[] (tbl p hp)
      exact ⟨_, good' p.2 _ e⟩
    have same : ∀ b o, b ∉ cs.map (·.2) → s₁.heap.get? b = some o → s'.heap.get? b = some o := fun b o nb e => by
      cases k : Hh b with
      | none => exact un.keep b o e k (fun z => absurd (show b ∈ ([] : List Addr) from z) (by simp)) (by simp)
      | some u =>
        rcases seen k with ⟨h, _⟩ | ⟨_, _, _, rfl⟩
        · exact absurd h nb
        · have w1 := good b _ k
          have w2 := good' b _ (un.frzs b _ _ k)
          have w3 := w1.1.symm.trans e
          cases w3
          exact w2.1
    refine ⟨rfl, ⟨fun b o e => ?_, fun b o e => ?_⟩, os, bare⟩
    · by_cases nb : b ∈ cs.map (·.2)
      · obtain ⟨p, hp, rfl⟩ := List.mem_map.mp nb
        obtain ⟨us, g⟩ := more p hp
        rw [tabs p hp] at e
        cases e
        exact .inr (.inl ⟨((heads p hp).tab (tabs p hp)).isCodeTable, rfl, #[], us, rfl, by simpa using g⟩)
      · exact .inl (same b o nb e)
    · by_cases nb : b ∈ cs.map (·.2)
      · obtain ⟨p, hp, rfl⟩ := List.mem_map.mp nb
        obtain ⟨us, g⟩ := more p hp
        exact ⟨_, g⟩
      · exact ⟨o, same b o nb e⟩
end
/-- what is known of the law at the head's heap h -/
def LawAtG (l : PySem.W.OpenLaw) (w : World) (K : PySem.W.Frag) (CX : CXT) (n : Nat) (x : Str) (mg : Str → Option Value) (fa : Addr) (h : Heap) : Prop :=
  ∃ (fd : FuncData) (cs : List (Addr × Addr)) (sp : Sp), (∀ p ∈ cs, h.get? p.2 = some { cls := .none, data := .fields #[] }) ∧ (∀ p ∈ cs, K.lookup p.2 = none) ∧ (∀ p ∈ cs, PySem.W.CodeHd h p.1 p.2) ∧ (∀ (s : Shared) (u : Value), BindsTo s fd ⟨[u], []⟩ [(x, u)]) ∧
    (∀ (H : Hp) (a : Addr) (ns : List Int), ns.length ≤ n → (∀ p ∈ cs, H p.2 = some (.tbl #[])) → SqL K H a (ns.map V.int) → sp [.ref a] H (fun v _ => v = .bl true) fun _ _ _ => False) ∧
    ∀ base : Heap, K.In base → base.Ns mainGlobals mg → (∀ p ∈ cs, TabB base mg p.1 p.2) → LawRun l.prog w K mg base CX fa fd x sp
theorem lawRun_sp {Γ : Ctx} {P : Program} {w : World} {K : PySem.W.Frag} {mg : Str → Option Value} {base : Heap} {CX : CXT} {n : Nat} {f : Addr} {fd : FuncData} {x : Str} {call : Call} (F : LawRun P w K mg base CX f fd x (spF Γ call n)) : LawRun P w K mg base CX f fd x (spW Γ call n) :=
  fun s H u v Q E e0 hb r h => F s H u v Q E e0 hb r (h.2 (zok_of e0.hok))
theorem walk_ofTabsG {l : PySem.W.OpenLaw} {n : Nat} {q : Program} {loose : List Str} {XP : (Str → Option Value) → Heap → Prop} {YP : World → Heap → Prop} {d : DefRec} {K : Params → PySem.W.Frag} {CX : World → CXT} {x : Str} {xs : List Str}
    (hn : l.most = some n) (hn2 : n ≤ sizeLine) (hdf : d.params.defaults = []) (hrec : (xs.all fun y => (recsOf q).any fun e => e.name == y) = true) (hY : ∀ (w : World) (h : Heap), YP w h → (K w.params).In h)
    (F : ∀ (w : World) (mg : Str → Option Value) (fa : Addr) (h : Heap), YP w h → (K w.params).In h → h.Ns mainGlobals mg → mg d.name = some (.ref fa) → (∀ y ∈ xs, TabX (K w.params) h y) → LawAtG l w (K w.params) (CX w) n x mg fa h)
    (noX : ∀ (w : World) (H : Hp) (s : Shared) (e : Value) (s' : Shared), CX w [] H s (fun _ _ _ => False) e s' → False) :
    PySem.W.WalkO q loose XP YP l.row.toRowW d [] (fun f vs => PySem.call f vs) := by
  refine Att.attach_callB hn hdf fun w s₀ s₁ mg mb fa o pm cd doc a vs ns G Y ho hd hcd hmg hobj hints hlen hbits hg => ?_
  have inK := hY w _ Y
  have tabX : ∀ y ∈ xs, TabX (K w.params) s₁.heap y := fun y hy c T ht => by
    obtain ⟨e, m1, m2⟩ := List.any_eq_true.mp (List.all_eq_true.mp hrec y hy)
    cases k : (recsOf q).find? (fun e => e.name == y) with
    | none => exact absurd m2 (List.find?_eq_none.mp k e m1)
    | some _ => exact PySem.W.tab_of G.T inK k ht
  obtain ⟨fd, cs, sp, t1, t2, t3, bn, hs, run⟩ := F w mg fa _ Y inK G.T.g hmg tabX
  exact law_callG inK G.T.g G.T.b G.T.builtins G.T.nolimit hg t1 t2 t3 G.T.bmain hobj hints (Nat.le_trans hlen hn2) run bn (fun H t z => hs H a ns hlen t z) fun H e s' => noX w H s₁ e s'
end VI
set_option Elab.async false
set_option linter.all false
set_option maxRecDepth 100000
set_option maxHeartbeats 2000000
/-! VN6: list(text); x[a], y[b] = a pair. -/
namespace VI
open PySem PySem.Spec PyProof.Rows L2
def listG (as : List Val) : Option Val := match as with
  | [.str s] => if decide (s.length ≤ most) then some (.lst true (signs s.cps.toList)) else none
  | _ => listV as
/-- x[a] = y, then k -/
def setAt (i : Nat) (ci : C) (y : Val) (k : En → SRes) : En → SRes := fun e => match oL e i with
  | none => .bad
  | some _ => (ci e).toS fun w e1 => match w.get e1 with
    | some (.int n) => match oL e1 i with
      | some xs => match place xs.length n with
        | some j => match xs[j]? with
          | some z => if isFz z then k (e1.set i (some (.lst true (xs.set j y)))) else .bad
          | none => .bad
        | none => .bad
      | none => .bad
    | _ => .bad
/-- x[a], y[b] = a pair of frozen things -/
def sSet2 (i : Nat) (ci : C) (j : Nat) (cj : C) (c : C) : S := fun e => (c e).toS fun u e1 => match u.get e1 with
  | some (.tup [y1, y2]) => if isFz y1 && isFz y2 then setAt i ci y1 (setAt j cj y2 .nx) e1 else .bad
  | _ => .bad
section
variable {Γ : Ctx} {X : Cx} {W : WX} {σ : L2.St} {H : Hp} {P : Addr → Prop} {ow o : List Addr} {e : En} {pins : List Nat} {D : Ends}
def rLstS : List V → Hp → VK → Prop := fun xs H Q => ∃ z, xs = [.str z] ∧ z.length ≤ sizeLine ∧ ∀ l, H l = none → Q (.ref l) (upd H l (.lst (signsV z)))
end
end VI
set_option Elab.async false
set_option linter.all false
set_option maxRecDepth 100000
set_option maxHeartbeats 2000000
/-! VN7: x[a], y[b] = e, e a pair of frozen things. -/
namespace VI
open PySem PySem.Spec PyProof.Rows L2
section
variable {Γ : Ctx} {X : Cx} {W : WX} {σ : L2.St} {H : Hp} {P : Addr → Prop} {ow o : List Addr} {e : En} {pins : List Nat} {i j : Nat}
end
end VI
set_option Elab.async false
set_option linter.all false
set_option maxRecDepth 100000
set_option maxHeartbeats 2000000
/-! VN8: defs that may call repr: their promise holds where no repr is under way; str of an int. -/
namespace VI
open PySem PySem.Spec PyProof.Rows L2
/-- a def's promise where no repr is under way -/
structure FnOkG (P : Program) (w : World) (K : PySem.W.Frag) (mg : Str → Option Value) (base : Heap) (CX : CXT) (k : Nat) (f : Addr) (fd : FuncData) (ps : List Str) (sp : Sp) : Prop where
  many : ∀ vs H Q E, sp vs H Q E → vs.length = ps.length
  go : ∀ (A : Around) (outer : List Env) (s : Shared) (H : Hp) (args : Args) (us : List Value) (vs : List V) (Q : VK) (E : XK), A.guards = some [] → Room k A → Env0 P w K mg base A outer s H → BindsTo s fd args (ps.zip us) → Vals vs us → sp vs H Q E →
    codeAny (model P w) A (.call (.ref f) args) (CR CX outer P w H s Q E) s
theorem FnOk.toG {P : Program} {w : World} {K : PySem.W.Frag} {mg : Str → Option Value} {base : Heap} {CX : CXT} {k : Nat} {f : Addr} {fd : FuncData} {ps : List Str} {sp : Sp} (F : FnOk P w K mg base CX k f fd ps sp) : FnOkG P w K mg base CX k f fd ps sp :=
  ⟨F.len, fun A outer s H args us vs Q E _ => F.run A outer s H args us vs Q E⟩
section
variable {Γ : Ctx} {P : Program} {w : World} {K : PySem.W.Frag} {mg : Str → Option Value} {base : Heap}
theorem def_okG {x qual : Str} {st : Stmt} {f : Addr} {fd : FuncData} {cdv : Value} {N ps : List Str} {m k n d : Nat} {fdv : FDef} {Pr : Nat → Option FDef} (hz : Γ.fix = []) (F : DFn K x qual st f fd cdv) (S : FnScope N ps (defScope st)) (hP : Pr n = some fdv) (hn : fdv.n = N.length) (hp : fdv.np = ps.length) (hrefs : ∀ i ∈ fdv.refs, i < fdv.np) (hk : k = m + 1)
    (hbody : ∀ (A : Around) (outer : List Env) (s : Shared) (H : Hp) (E : XK), A.guards = some [] → Room m (A.deeper (envOfC qual (defScope st) s.heap.objs.size f cdv)) →
      SSs Γ fdv.refs (cxOf (L2.CX P w) P w K mg base N qual (defScope st) f cdv A outer s H E) (defBody st) (fdv.body (callN Pr d))) :
    FnOkG P w K mg base (L2.CX P w) k f fd ps (spF Γ (callN Pr (d + 1)) n) := by
  subst hk
  obtain ⟨oc, od, kV, doc, pm, an, ct, osl, rfl, lk, hcd⟩ := F.ex
  have many : ∀ vs H Q E, spF Γ (callN Pr (d + 1)) n vs H Q E → vs.length = ps.length := fun vs H Q E h => by
    obtain ⟨P', ow, xs, ok, r, acc⟩ := h
    simp only [callN, hP] at acc
    unfold runDef at acc
    split at acc
    · rename_i hl
      rw [← r.length, hl, hp]
    · exact acc.elim
  refine ⟨many, fun A outer s H args us vs Q E gd room e0 hb rv hsp => ?_⟩
  have hl := many _ _ _ _ hsp
  obtain ⟨P', ow, xs, ok, rp, acc⟩ := hsp
  simp only [callN, hP] at acc
  have run := run_acc hz hn hrefs ok rp acc
  have room' := room.deeper (envOfC qual (defScope st) s.heap.objs.size f cdv)
  have body := hbody A outer s H E gd room' (fun p z => by rw [hz] at z; cases z) (fun cls d _ H' => E cls d H') (takes_of rfl rfl rfl rfl)
  have old : ∀ b o, base.get? b = some o → s.heap.get? b = some o := fun b o z => (e0.bs b o z).1
  have inK := e0.mod.kin.keeps old
  have par : ∀ z ∈ ps.zip us, (defScope st).names.lookup z.1 = some .local ∨ ((defScope st).names.lookup z.1 = some .cell ∧ ((cellsFrom (s.heap.objs.size + 1) (defScope st).names []).lookup z.1).isSome = true) := fun z hz => by
    obtain ⟨z1, z2⟩ := z
    rcases S.par z1 (List.of_mem_zip hz).1 with q | q
    · exact .inl q
    · obtain ⟨c, q2⟩ := cell_has (n := s.heap.objs.size + 1) q
      exact .inr ⟨q, by rw [q2]; rfl⟩
  refine codeAny_call_function room.depth (inK _ _ lk) rfl S.co S.gen rfl (PySem.W.codeRec_of inK hcd) (hb _ _ _ _ ?_)
  refine wpAny_newFunctionEnv_cells S.kind par fun env he s1 ent => ?_
  subst he
  refine ⟨(e0.mod.nolimit.keeps old).keeps ent.toInCall.keep, codeAny_func ?_⟩
  have I := inv_start (CX := L2.CX P w) (E := E) (f := f) (cd := cdv) (qual := qual) S room.hd e0 hl rv ent
  refine wpAny_mono (body.run [] s1 (start N vs) H _ I run) (fun fl s' hs => ?_) fun e s' hs => hs
  cases fl with
  | brk =>
    obtain ⟨_, _, _, z⟩ := hs
    exact (show False from z).elim
  | cont =>
    obtain ⟨_, _, _, z⟩ := hs
    exact (show False from z).elim
  | next =>
    obtain ⟨σ', H', J, q⟩ := hs
    exact ⟨.non, H', J.os, J.bare, J.base, J.hok, rfl, q⟩
  | ret z =>
    obtain ⟨v', σ', H', J, r', q⟩ := hs
    exact ⟨v', H', J.os, J.bare, J.base, J.hok, r', q⟩
theorem def_ok0G {f : Addr} {fd : FuncData} {ps : List Str} {k n : Nat} {Pr : Nat → Option FDef} : FnOkG P w K mg base (L2.CX P w) k f fd ps (spF Γ (callN Pr 0) n) := FnOk.toG def_ok0
end
/-- a guarded def, found by its name -/
structure DefAtG (P : Program) (w : World) (K : PySem.W.Frag) (mg : Str → Option Value) (base : Heap) (k : Nat) (x : Str) (sp : Sp) : Prop where
  ex : ∃ (f : Addr) (fd : FuncData) (ps : List Str), FnOkG P w K mg base (L2.CX P w) k f fd ps sp ∧ mg x = some (.ref f) ∧ PySem.W.keepIn K (.ref f) = true ∧ Binds K fd ps []
section
variable {Γ : Ctx} {X : Cx} {k : Nat} {f : Addr} {fd : FuncData} {ps : List Str} {sp : Sp} {σ : L2.St} {H : Hp}
theorem run_fnG {pins : List (Addr × Obj)} {s : Shared} {E : XK} {Q : VK} {us : List Value} {vs : List V} (F : FnOkG X.prog X.w X.K X.mg X.base (L2.CX X.prog X.w) k f fd ps sp) (gd : X.A.guards = some []) (hr : Room k X.A) (hb : Binds X.K fd ps []) (pass : PassesAt (L2.CX X.prog X.w) X σ E)
    (I : Inv X pins σ H s) (rv : Vals vs us) (h : sp vs H Q E) : wpAny (model X.prog X.w) X.A (call (.ref f) us) (EP X pins σ Q) X.xe s := by
  have len : us.length = ps.length := by rw [← rv.length]; exact F.many _ _ _ _ h
  have bnd := hb s us I.kIn (by simpa using len)
  simp only [List.append_nil] at bnd
  have main := F.go X.A X.stack s H ⟨us, []⟩ us vs Q E gd hr I.env0 bnd rv h
  refine wpAny_call (codeAny_mono main fun r s' z => ?_)
  match r, z with
  | .error e, z => exact pass pins H s e s' I z
  | .ok .next, z => exact (show False from z).elim
  | .ok .brk, z => exact (show False from z).elim
  | .ok .cont, z => exact (show False from z).elim
  | .ok (.ret u), z => exact I.after z
theorem se_defG {call : Call} {n : Nat} {x : Str} {p pos : Pos} {a : Expr} {es : List Expr} {l : List Arg} (D : DefAtG X.prog X.w X.K X.mg X.base k x (spF Γ call n)) (gd : X.A.guards = some []) (hr : Room k X.A) (hg : Gl X x) (ha : SAr Γ X (a :: es) l)
    (hdb : (x == ("__debug__" : Str)) = false := by decide) (he : starEach (a :: es) X.env = (false, eval a X.env) :: starEach es X.env := by rfl) (hpl : (backTo pos (starEach es X.env)).any (·.1) = false := by rfl) : SE Γ X (.Call (.Name x p) (a :: es) [] pos) (cCall call n l) := by
  obtain ⟨f, fd, ps, F, hm, hk, hb⟩ := D.ex
  intro W tk
  have pe : PE X (.Call (.Name x p) (a :: es) [] pos) (fun σ H Q => tS Γ (RepAs Γ) W (evArgs l) σ H fun vs H1 => spF Γ call n vs H1 Q (WE W σ)) := by
    constructor
    intro pins s σ H Q I h
    apply wpAny_Call_Name_kw
    refine ld_glob I hg hm ?_ hdb
    apply PySem.W.callWith_K (h₀ := X.base) I.ok.mod.kin hk _ he hpl
    refine thn ((ha W tk).run pos pins s σ H _ I h) fun us s1 z => ?_
    obtain ⟨vs, H1, J, rv, q⟩ := z
    exact ⟨J.kIn, run_fnG F gd hr hb (passAt tk σ) J rv q⟩
  exact pe_imp pe fun σ H Q h => call_red h
end
/-! ### str of an int -/
def strV (as : List Val) : Option Val := match as with
  | [.int i] => if decide (i.natAbs < 1000000000000) then some (.str (toString i)) else none
  | _ => none
def rStrI : List V → Hp → VK → Prop := fun xs H Q => ∃ i : Int, xs = [.int i] ∧ i.natAbs.log2 < 1920 ∧ Q (.str (toString i)) H
end VI
set_option Elab.async false
set_option linter.all false
set_option maxRecDepth 100000
set_option maxHeartbeats 2000000
/-! VN9: k in d, d[k] = v of a dict with ints as keys; defs as values, a call of a name that holds one. -/
namespace VI
open PySem PySem.Spec PyProof.Rows L2
theorem room1 {k : Nat} {A : Around} (r : Room k A) : A.units + 1 < cLine := by have := r.un; omega
def hasK (ks : List KeyT) (k : Int) : Bool := ks.any fun j => decide (j = .inl k)
def inDV (x y : Val) : Option Val := match x, y with
  | .int k, .dic _ ks _ => some (.bl (hasK ks k))
  | _, _ => none
def notInDV (x y : Val) : Option Val := match x, y with
  | .int k, .dic _ ks _ => some (.bl (!hasK ks k))
  | _, _ => none
def rInDK (b : Bool) : R2 := fun x y H Q => ∃ a o, y = .ref a ∧ DGet H a x o ∧ Q (.bl (b ^^ o.isSome)) H
def oD (e : En) (i : Nat) : Option (List KeyT × List Val) := match slot e i with
  | some (.dic true ks xs) => some (ks, xs)
  | _ => none
theorem oD_some {e : En} {i : Nat} {p : List KeyT × List Val} (h : oD e i = some p) : slot e i = some (.dic true p.1 p.2) := by
  unfold oD at h
  split at h
  · rename_i q; cases h; exact q
  · cases h
/-- d[k] = v, k new -/
def sSetD (i : Nat) (ci cv : C) : S := fun e => (cv e).toS fun u e1 => match u.takeF e1 with
  | some (y, e2) => match oD e2 i with
    | none => .bad
    | some _ => (ci e2).toS fun w e3 => match w.get e3 with
      | some (.int k) => match oD e3 i with
        | some (ks, xs) => if !hasK ks k && decide (xs.length + 1 < most) then .nx (e3.set i (some (.dic true (ks ++ [.inl k]) (xs ++ [y])))) else .bad
        | none => .bad
      | _ => .bad
  | none => .bad
theorem any_zip {k : KeyT} : ∀ {ks : List KeyT} {ws : List V}, ks.length = ws.length → (ks.zip ws).any (fun kv => decide (kv.1 = k)) = ks.any fun j => decide (j = k)
  | [], [], _ => rfl
  | j :: ks, w :: ws, h => by
    have ih := any_zip (k := k) (ks := ks) (ws := ws) (by simpa using h)
    rw [List.zip_cons_cons, List.any_cons, ih, List.any_cons]
theorem isSome_zip {k : Int} {ks : List KeyT} {ws : List V} (h : ks.length = ws.length) : (valV (ks.zip ws) (.inl k)).isSome = hasK ks k := (valV_any (.inl k) (ks.zip ws)).symm.trans (any_zip h)
section
variable {Γ : Ctx} {X : Cx} {W : WX} {σ : L2.St} {H : Hp} {P : Addr → Prop} {ow o : List Addr} {e : En} {i : Nat} {pins : List Nat}
theorem opr_inDK (hu : X.A.units + 1 < cLine) : OpR X (compareOp .In) (rInDK false) := fun pins s σ H x y v u Q I rx ry h => by
  obtain ⟨a, o, rfl, g, q⟩ := h
  cases ry
  exact d_in hu I g rx fun s' I' => ⟨.bl _, H, I', by rw [Bool.false_xor]; rfl, q⟩
theorem rep_dicL {b : Bool} {ks : List KeyT} {xs : List Val} {v : V} {o : List Addr} (h : Rep Γ H P (.dic b ks xs) v o) : ∃ a ws, v = .ref a ∧ H a = some (.dK (ks.zip ws)) ∧ ks.length = ws.length := by
  cases b <;> simp only [Rep] at h
  · obtain ⟨a, ws, h1, h2, h3, _⟩ := h; exact ⟨a, ws, h1, h2, h3⟩
  · obtain ⟨a, ws, _, h1, h2, h3, _⟩ := h; exact ⟨a, ws, h1, h2, h3⟩
theorem rd_inDK : Rd2 Γ inDV (rInDK false) := fun H P x y z v u o1 o2 Q ok h r1 r2 k => by
  unfold inDV at h
  split at h
  · rename_i n b ks xs
    cases h
    simp only [Rep] at r1
    obtain ⟨a, ws, rfl, h1, h2⟩ := rep_dicL r2
    refine ⟨a, valV (ks.zip ws) (.inl n), rfl, by rw [r1.1]; exact DGet.k (k := .inl n) h1, ?_⟩
    rw [isSome_zip h2, Bool.false_xor]
    exact k _ H P [] .refl ok rep_bl
  · cases h
theorem oD_at {p : List KeyT × List Val} (rel : RelE Γ H P e σ ow) (h : oD e i = some p) : ∃ a, σ[i]? = some (some (.ref a)) := by
  obtain ⟨v, o1, e1, r, _⟩ := rel.get (slot_some.mp (oD_some h))
  obtain ⟨a, ws, rfl, _⟩ := rep_dicL r
  exact ⟨a, e1⟩
theorem mut_slotD {f : List Addr} {p : List KeyT × List Val} (ok : Ok Γ H P (f ++ ow)) (rel : RelE Γ H P e σ ow) (h : oD e i = some p) : ∃ a ws o', σ[i]? = some (some (.ref a)) ∧ H a = some (.dK (p.1.zip ws)) ∧ p.1.length = ws.length ∧ RepL Γ H P p.2 ws o' ∧
    ∀ (ks' : List KeyT) (ws' : List V) (xs' : List Val), ks'.length = ws'.length → (∀ H', Kp H P o' H' P → RepL Γ H' P xs' ws' o') →
      Ext H P (f ++ ow) (upd H a (.dK (ks'.zip ws'))) P (f ++ ow) ∧ Ok Γ (upd H a (.dK (ks'.zip ws'))) P (f ++ ow) ∧ RelE Γ (upd H a (.dK (ks'.zip ws'))) P (e.set i (some (.dic true ks' xs'))) σ ow := by
  have hs := slot_some.mp (oD_some h)
  obtain ⟨v, o1, ow', e1, r, rel', pq⟩ := rel.take hs
  simp only [Rep] at r
  obtain ⟨a, ws, o', rfl, h1, hl, h2, rfl⟩ := r
  refine ⟨a, ws, o', e1, h1, hl, h2, fun ks' ws' xs' hz hr => ?_⟩
  have pq2 : (f ++ ow).Perm (f ++ ((a :: o') ++ ow')) := pq.append_left f
  have ok' := ok.perm pq2
  have ha : a ∈ f ++ ((a :: o') ++ ow') := List.mem_append_right _ (List.mem_append_left _ List.mem_cons_self)
  obtain ⟨x, k, kp⟩ := mut_own (u := .dK (ks'.zip ws')) ok' ha ⟨_, upd_same, .inr (.inl ⟨_, rfl⟩)⟩ (fun xs h => by rcases h with h | ⟨_, h⟩ <;> cases h) (fun _ _ z => by cases z)
  have n := List.nodup_append.mp ok'.n
  have n2 := List.nodup_append.mp n.2.1
  have n3 := List.nodup_cons.mp n2.1
  have k1 : Kp H P o' (upd H a (.dK (ks'.zip ws'))) P := kp o' n3.1 fun b hb => List.mem_append_right _ (List.mem_append_left _ (List.mem_cons_of_mem _ hb))
  have k2 : Kp H P ow' (upd H a (.dK (ks'.zip ws'))) P := kp ow' (fun q => n2.2.2 a List.mem_cons_self a q rfl) fun b hb => List.mem_append_right _ (List.mem_append_right _ hb)
  have hi : i < e.length := (List.getElem?_eq_some_iff.mp hs).1
  have rr : Rep Γ (upd H a (.dK (ks'.zip ws'))) P (.dic true ks' xs') (.ref a) (a :: o') := by
    simp only [Rep]
    exact ⟨a, ws', o', rfl, upd_same, hz, hr _ k1, rfl⟩
  have rel2 := (rel'.kp k2).put (by rw [List.getElem?_set_self hi]) e1 rr
  rw [List.set_set] at rel2
  exact ⟨(x.permL pq2.symm).perm pq2.symm, k.perm pq2.symm, rel2.perm pq.symm⟩
theorem ss_setD {x : Str} {a b : Expr} {ca cb : C} {p tp pos : Pos} (hu : X.A.units + 1 < cLine) (hN : X.N[i]? = some x) (hv : Vis X.env.scope x) (ha : SE Γ X a ca) (hb : SE Γ X b cb) (hd : (x == ("__debug__" : Str)) = false := by decide) (hcd : (x == ("__classdict__" : Str)) = false := by decide)
    (hs : swapsWith b (some (.Subscript (.Name x p) a tp)) pos.line X.env = pure false := by rfl) : SS Γ pins X (.Assign [.Subscript (.Name x p) a tp] b pos) (sSetD i ca cb) := fun fx W tk =>
  ps_imp (ps_dput hu (pe_var hN hv hd hcd) (ha W tk) (hb W tk) hs) fun D σ H ⟨P, ow, e, ok, rel, acc⟩ => by
    unfold sSetD at acc
    refine useS ok rel acc fun u e1 v H1 P1 o1 ow1 k r l acc1 => ?_
    cases q1 : u.takeF e1 with
    | none => simp [q1, AccS] at acc1
    | some pr =>
      obtain ⟨y, e2⟩ := pr
      simp only [q1] at acc1
      cases q2 : oD e2 i with
      | none => simp [q2, AccS] at acc1
      | some p0 =>
        simp only [q2] at acc1
        obtain ⟨P2, ow2, x2, k2, r2, l2, kp2⟩ := OV.takeF_rep (f := []) (by simpa using k) l r q1
        obtain ⟨a0, f1⟩ := oD_at l2 q2
        refine ⟨.ref a0, f1, ?_⟩
        have acc2 := acc1.rebase x2 (Pin.refl (σ := σ))
        refine useS0 (by simpa using k2) l2 (by simpa using acc2) fun w e3 vi H3 P3 o3 ow3 kp3 k3 r3 l3 acc3 => ?_
        cases q3 : w.get e3 with
        | none => simp [q3, AccS] at acc3
        | some kv =>
          cases kv <;> simp only [q3] at acc3 <;> first | exact acc3.elim | skip
          rename_i n
          obtain ⟨o4, r4⟩ := OV.get_rep l3 r3 q3
          simp only [Rep] at r4
          cases q4 : oD e3 i with
          | none => simp [q4, AccS] at acc3
          | some p3 =>
            obtain ⟨ks, xs⟩ := p3
            simp only [q4] at acc3
            split at acc3
            · rename_i hf
              have hnew : hasK ks n = false := by have := hf.1; simpa using this
              obtain ⟨a1, ws, o2, g1, g2, g2l, g3, fin⟩ := mut_slotD (f := o3) k3 l3 q4
              rw [f1] at g1; cases g1
              simp only at g2 g2l g3
              have r5 := r2.kp kp3
              have hlen : (ks.zip ws).length < sizeLine := by
                rw [List.length_zip, g2l, Nat.min_self, ← g3.length]
                have h1 := hf.2
                have h2 := most_line (n := xs.length + 1) (Nat.le_of_lt h1)
                omega
              have hn : valV (ks.zip ws) (.inl n) = none := by
                have := isSome_zip (k := n) g2l
                rw [hnew] at this
                exact Option.not_isSome_iff_eq_none.mp (by rw [this]; decide)
              obtain ⟨x4, k4, l4⟩ := fin (ks ++ [.inl n]) (ws ++ [v]) (xs ++ [y]) (by simp [g2l]) (fun H' kp' => repL_snoc (g3.kp kp') (r5.kp (kp'.sub fun a z => by cases z)))
              refine ⟨a0, _, rfl, by rw [r4.1]; exact DPut.k (k := .inl n) (v := v) g2 hlen, ?_⟩
              have e9 : putK (ks.zip ws) (.inl n) v = (ks ++ [Sum.inl n]).zip (ws ++ [v]) := by
                rw [putK_new v hn, List.zip_append g2l]; rfl
              rw [e9]
              exact acc3 σ _ P3 ow3 (x4.sub fun a z => List.mem_append_right _ z) k4.right l4 .refl
            · exact acc3.elim
end
/-! ### defs as values -/
/-- a def at its address -/
structure HlAt (P : Program) (w : World) (K : PySem.W.Frag) (mg : Str → Option Value) (base : Heap) (k : Nat) (f : Addr) (sp : Sp) : Prop where
  ex : ∃ (fd : FuncData) (ps : List Str), FnOk P w K mg base (L2.CX P w) k f fd ps sp ∧ PySem.W.keepIn K (.ref f) = true ∧ Binds K fd ps []
theorem hl_of {P : Program} {w : World} {K : PySem.W.Frag} {mg : Str → Option Value} {base : Heap} {k : Nat} {x : Str} {a : Addr} {sp : Sp} (D : DefAt P w K mg base k x sp) (hm : mg x = some (.ref a)) : HlAt P w K mg base k a sp := by
  obtain ⟨f, fd, ps, F, h, hk, hb⟩ := D.ex
  rw [hm] at h
  cases h
  exact ⟨fd, ps, F, hk, hb⟩
theorem HlAt.mono {P : Program} {w : World} {K : PySem.W.Frag} {mg : Str → Option Value} {base : Heap} {k : Nat} {a : Addr} {sp : Sp} (h : HlAt P w K mg base k a sp) : HlAt P w K mg base k a sp := h
inductive Hls (P : Program) (w : World) (mg : Str → Option Value) (base : Heap) (k : Nat) (Γ : Ctx) (call : Call) : List Nat → Prop
  | nil : Hls P w mg base k Γ call []
  | cons {f : Nat} {l : List Nat} : HlAt P w Γ.K mg base k (Γ.fn f) (spF Γ call f) → Hls P w mg base k Γ call l → Hls P w mg base k Γ call (f :: l)
theorem Hls.at {P : Program} {w : World} {mg : Str → Option Value} {base : Heap} {k : Nat} {Γ : Ctx} {call : Call} : ∀ {l : List Nat}, Hls P w mg base k Γ call l → ∀ f ∈ l, HlAt P w Γ.K mg base k (Γ.fn f) (spF Γ call f)
  | _, .cons h t, f, m => by
    rcases List.mem_cons.mp m with rfl | m
    · exact h
    · exact Hls.at t f m
def cCallF (call : Call) (L : List Nat) (j : Nat) (l : List Arg) : C := fun e => match slot e j with
  | some (.fn f) => if L.contains f then cCall call f l e else .bad
  | _ => .bad
section
variable {Γ : Ctx} {X : Cx} {k : Nat} {σ : L2.St} {H : Hp}
theorem se_fnV {x : Str} {n : Nat} {pos : Pos} (hg : Gl X x) (hm : X.mg x = some (.ref (Γ.fn n))) (hd : (x == ("__debug__" : Str)) = false := by decide) : SE Γ X (.Name x pos) (cV (.fn n)) :=
  se_of (pe_glob (v := .ref (Γ.fn n)) hg hm rfl hd) fun _ _ => by simp [Rep]
theorem se_callF {call : Call} {L : List Nat} {j : Nat} {x : Str} {p pos : Pos} {a : Expr} {es : List Expr} {l : List Arg} (hK : X.K = Γ.K) (hL : Hls X.prog X.w X.mg X.base k Γ call L) (hr : Room k X.A) (hN : X.N[j]? = some x) (hv : Vis X.env.scope x) (ha : SAr Γ X (a :: es) l)
    (hdb : (x == ("__debug__" : Str)) = false := by decide) (hcd : (x == ("__classdict__" : Str)) = false := by decide) (he : starEach (a :: es) X.env = (false, eval a X.env) :: starEach es X.env := by rfl) (hpl : (backTo pos (starEach es X.env)).any (·.1) = false := by rfl) :
    SE Γ X (.Call (.Name x p) (a :: es) [] pos) (cCallF call L j l) := by
  intro W tk
  constructor
  intro pins s σ H Q I h
  obtain ⟨P, ow, e, ok, rel, acc⟩ := h
  unfold cCallF at acc
  split at acc
  · rename_i f hs
    split at acc
    · rename_i hf
      obtain ⟨fd, ps, F, hk, hb⟩ := (hL.at f (by simpa using hf)).ex
      rw [← hK] at F hk hb
      obtain ⟨v, o1, e1, r, _⟩ := rel.get (slot_some.mp hs)
      simp only [Rep] at r
      obtain ⟨rfl, rfl⟩ := r
      have h2 := call_red (Q := Q) ⟨P, ow, e, ok, rel, acc⟩
      apply wpAny_Call_Name_kw
      have load := (pe_var (pos := p) hN hv hdb hcd).run pins s σ H (fun u H1 => u = .ref (Γ.fn f) ∧ H1 = H) I ⟨_, e1, rfl, rfl⟩
      refine thn load fun u s1 z => ?_
      obtain ⟨_, _, J, r1, rfl, rfl⟩ := z
      cases r1
      apply PySem.W.callWith_K (h₀ := X.base) J.ok.mod.kin hk _ he hpl
      refine thn ((ha W tk).run pos pins s1 σ _ _ J h2) fun us s2 z => ?_
      obtain ⟨vs, H2, J2, rv, q⟩ := z
      exact ⟨J2.kIn, run_fnS (E := fun _ => WE W σ) F hr hb (passAt tk σ) J2 rv q⟩
    · exact acc.elim
  · exact acc.elim
end
end VI
set_option Elab.async false
set_option linter.all false
set_option maxRecDepth 100000
/-! VX: running a pure text step by step: one lemma a construct, found by its head. -/
namespace VI
open PySem
variable {c a b : C} {t u : CB} {s : S} {r : List S} {R R1 R2 : SRes} {e e0 e1 e2 e3 : En} {i j k f p : Nat} {x x0 y z w : Val} {xs ys zs : List Val} {call : Call} {as : List Arg} {l : List C} {pins refs : List Nat} {bb b1 b2 b3 : Bool}
theorem slot_get (h : slot e i = some x) : e[i]? = some (some x) := by
  unfold slot at h
  cases q : e[i]? with
  | none => rw [q] at h; cases h
  | some v =>
    rw [q] at h
    cases v with
    | none => cases h
    | some v => simp at h; rw [h]
theorem set_slot (h : slot e i = some x) : e.set i (some x) = e := by
  have h := slot_get h
  apply List.ext_getElem?
  intro j
  by_cases q : i = j
  · subst q
    rw [List.getElem?_set_self (List.getElem?_eq_some_iff.mp h).1, h]
  · rw [List.getElem?_set_ne q]
theorem setL0 {v v' : Option Val} {r : En} : List.set (v :: r) 0 v' = v' :: r := rfl
theorem setLS {v v' : Option Val} {r r' : En} (h : List.set r i v' = r') : List.set (v :: r) (i + 1) v' = v :: r' := by rw [List.set_cons_succ, h]
/-! expressions: (V) c e = .ok (.val x) e1 -/
def Ex (c : C) (e : En) (x : Val) (e1 : En) : Prop := ∃ u, c e = .ok u e1 ∧ u.get e1 = some x
theorem cN_ok (h : slot e i = some x) : cN i e = .ok (.pk i) e := by unfold cN; rw [h]
theorem exN (h : slot e i = some x) : Ex (cN i) e x e := ⟨.pk i, cN_ok h, h⟩
theorem exV (h : c e = .ok (.val x) e1) : Ex c e x e1 := ⟨.val x, h, rfl⟩
theorem xV : cV x e = .ok (.val x) e := rfl
theorem x1 {g : Val → Option Val} (h : Ex a e x e1) (q : g x = some z) : c1 g a e = .ok (.val z) e1 := by
  obtain ⟨u, h1, h2⟩ := h
  unfold c1
  rw [h1]
  show liftO ((u.get e1).bind g) e1 = _
  rw [h2]
  show liftO (g x) e1 = _
  rw [q]; rfl
theorem x2N {g : Val → Val → Option Val} (h0 : slot e i = some x0) (h1 : Ex b e y e2) (h2 : slot e2 i = some x) (q : g x y = some z) : c2 g (cN i) b e = .ok (.val z) e2 := by
  obtain ⟨u, h3, h4⟩ := h1
  unfold c2
  rw [cN_ok h0]
  show (b e).bind _ = _
  rw [h3]
  show liftO ((slot e2 i).bind fun x => (u.get e2).bind fun y => g x y) e2 = _
  rw [h2, h4]
  show liftO (g x y) e2 = _
  rw [q]; rfl
theorem x2V {g : Val → Val → Option Val} (h0 : a e = .ok (.val x) e1) (h1 : Ex b e1 y e2) (q : g x y = some z) : c2 g a b e = .ok (.val z) e2 := by
  obtain ⟨u, h3, h4⟩ := h1
  unfold c2
  rw [h0]
  show (b e1).bind _ = _
  rw [h3]
  show liftO ((u.get e2).bind fun y => g x y) e2 = _
  rw [h4]
  show liftO (g x y) e2 = _
  rw [q]; rfl
/-! lists of expressions -/
theorem csNil : cs [] e = .ok [] e := rfl
theorem csN {us : List OV} (h : slot e i = some x) (g : cs l e = .ok us e1) : cs (cN i :: l) e = .ok (.pk i :: us) e1 := by
  show (cN i e).bind (fun u e1 => (cs l e1).bind fun us e2 => .ok (u :: us) e2) = _
  rw [cN_ok h]
  show (cs l e).bind _ = _
  rw [g]; rfl
theorem csV {us : List OV} (h : a e = .ok (.val x) e1) (g : cs l e1 = .ok us e2) : cs (a :: l) e = .ok (.val x :: us) e2 := by
  show (a e).bind (fun u e1 => (cs l e1).bind fun us e2 => .ok (u :: us) e2) = _
  rw [h]
  show (cs l e1).bind _ = _
  rw [g]; rfl
theorem gsNil : gets [] e = some [] := rfl
theorem gsN {us : List OV} (h : slot e i = some x) (g : gets us e = some xs) : gets (.pk i :: us) e = some (x :: xs) := by
  show (slot e i).bind (fun x => (gets us e).map (x :: ·)) = _
  rw [h, g]; rfl
theorem gsV {us : List OV} (g : gets us e = some xs) : gets (.val x :: us) e = some (x :: xs) := by
  show (gets us e).map (x :: ·) = _
  rw [g]; rfl
theorem tfNil : takesF [] e = some ([], e) := rfl
theorem tfV {us : List OV} (h : fz x = y) (g : takesF us e = some (xs, e1)) : takesF (.val x :: us) e = some (y :: xs, e1) := by
  show (takesF us e).map (fun (p : List Val × En) => (fz x :: p.1, p.2)) = _
  rw [g, h]; rfl
theorem tfN {us : List OV} (h : slot e i = some x) (hz : fz x = x) (g : takesF us e = some (xs, e1)) : takesF (.pk i :: us) e = some (x :: xs, e1) := by
  show ((slot e i).map fun x => (fz x, e.set i (some (fz x)))).bind (fun p => (takesF us p.2).map fun q => (p.1 :: q.1, q.2)) = _
  rw [h]
  show (takesF us (e.set i (some (fz x)))).map (fun q => (fz x :: q.1, q.2)) = _
  rw [hz, set_slot h, g]; rfl
theorem tfNl {us : List OV} (h : slot e i = some x) (hz : fz x = y) (he : e.set i (some y) = e0) (g : takesF us e0 = some (xs, e1)) : takesF (.pk i :: us) e = some (y :: xs, e1) := by
  show ((slot e i).map fun x => (fz x, e.set i (some (fz x)))).bind (fun p => (takesF us p.2).map fun q => (p.1 :: q.1, q.2)) = _
  rw [h]
  show (takesF us (e.set i (some (fz x)))).map (fun q => (fz x :: q.1, q.2)) = _
  rw [hz, he, g]; rfl
theorem tkNil : takes [] e = some ([], e) := rfl
theorem tkV {us : List OV} (g : takes us e = some (xs, e1)) : takes (.val x :: us) e = some (x :: xs, e1) := by
  show (takes us e).map (fun (p : List Val × En) => (x :: p.1, p.2)) = _
  rw [g]; rfl
theorem tkN {us : List OV} (h : slot e i = some x) (hz : fz x = x) (g : takes us e = some (xs, e1)) : takes (.pk i :: us) e = some (x :: xs, e1) := by
  show ((slot e i).map fun x => (fz x, e.set i (some (fz x)))).bind (fun p => (takes us p.2).map fun q => (p.1 :: q.1, q.2)) = _
  rw [h]
  show (takes us (e.set i (some (fz x)))).map (fun q => (fz x :: q.1, q.2)) = _
  rw [hz, set_slot h, g]; rfl
theorem tkNl {us : List OV} (h : slot e i = some x) (hz : fz x = y) (he : e.set i (some y) = e0) (g : takes us e0 = some (xs, e1)) : takes (.pk i :: us) e = some (y :: xs, e1) := by
  show ((slot e i).map fun x => (fz x, e.set i (some (fz x)))).bind (fun p => (takes us p.2).map fun q => (p.1 :: q.1, q.2)) = _
  rw [h]
  show (takes us (e.set i (some (fz x)))).map (fun q => (fz x :: q.1, q.2)) = _
  rw [hz, he, g]; rfl
theorem xB {g : List Val → Option Val} {us : List OV} (h : cs l e = .ok us e1) (h2 : gets us e1 = some xs) (q : g xs = some z) : cB g l e = .ok (.val z) e1 := by
  unfold cB
  rw [h]
  show liftO ((gets us e1).bind g) e1 = _
  rw [h2]
  show liftO (g xs) e1 = _
  rw [q]; rfl
theorem xTup {us : List OV} (h : cs l e = .ok us e1) (g : takesF us e1 = some (xs, e2)) : cTup l e = .ok (.val (.tup xs)) e2 := by
  unfold cTup
  rw [h]
  show (match takesF us e1 with | some (xs, e2) => Res.ok (OV.val (.tup xs)) e2 | none => .bad) = _
  rw [g]
theorem xLst {us : List OV} (h : cs l e = .ok us e1) (g : takesF us e1 = some (xs, e2)) : cLst l e = .ok (.val (.lst true xs)) e2 := by
  unfold cLst
  rw [h]
  show (match takesF us e1 with | some (xs, e2) => Res.ok (OV.val (.lst true xs)) e2 | none => .bad) = _
  rw [g]
theorem xTupO {us : List OV} (h : cs l e = .ok us e1) (g : takes us e1 = some (xs, e2)) : cTupO l e = .ok (.val (.tup xs)) e2 := by
  unfold cTupO
  rw [h]
  show (match takes us e1 with | some (xs, e2) => Res.ok (OV.val (.tup xs)) e2 | none => .bad) = _
  rw [g]
theorem xLstO {us : List OV} (h : cs l e = .ok us e1) (g : takes us e1 = some (xs, e2)) : cLstO l e = .ok (.val (.lst true xs)) e2 := by
  unfold cLstO
  rw [h]
  show (match takes us e1 with | some (xs, e2) => Res.ok (OV.val (.lst true xs)) e2 | none => .bad) = _
  rw [g]
/-! calls -/
theorem eaNil : evArgs [] e = .ok [] e := rfl
theorem eaN {us : List AV} (h : slot e i = some x) (g : evArgs as e = .ok us e1) : evArgs (.v (cN i) :: as) e = .ok (.v (.pk i) :: us) e1 := by
  show (cN i e).bind (fun u e1 => (evArgs as e1).bind fun us e2 => .ok (.v u :: us) e2) = _
  rw [cN_ok h]
  show (evArgs as e).bind _ = _
  rw [g]; rfl
theorem eaV {us : List AV} (h : a e = .ok (.val x) e1) (g : evArgs as e1 = .ok us e2) : evArgs (.v a :: as) e = .ok (.v (.val x) :: us) e2 := by
  show (a e).bind (fun u e1 => (evArgs as e1).bind fun us e2 => .ok (.v u :: us) e2) = _
  rw [h]
  show (evArgs as e1).bind _ = _
  rw [g]; rfl
theorem eaR {us : List AV} (h : slot e i = some x) (g : evArgs as e = .ok us e1) : evArgs (Arg.r i :: as) e = .ok (AV.r i :: us) e1 := by
  show (match slot e i with | some _ => (evArgs as e).bind fun us e2 => Res.ok (AV.r i :: us) e2 | none => Res.bad) = _
  rw [h]
  show (evArgs as e).bind _ = _
  rw [g]; rfl
theorem taNil : takeArgs [] e = some ([], e) := rfl
theorem taV {us : List AV} (g : takeArgs us e = some (xs, e1)) : takeArgs (.v (.val x) :: us) e = some (x :: xs, e1) := by
  show (takeArgs us e).map (fun (p : List Val × En) => (x :: p.1, p.2)) = _
  rw [g]; rfl
theorem taN {us : List AV} (h : slot e i = some x) (hz : fz x = x) (g : takeArgs us e = some (xs, e1)) : takeArgs (.v (.pk i) :: us) e = some (x :: xs, e1) := by
  show ((slot e i).map fun x => (fz x, e.set i (some (fz x)))).bind (fun p => (takeArgs us p.2).map fun q => (p.1 :: q.1, q.2)) = _
  rw [h]
  show (takeArgs us (e.set i (some (fz x)))).map (fun q => (fz x :: q.1, q.2)) = _
  rw [hz, set_slot h, g]; rfl
theorem taNl {us : List AV} (h : slot e i = some x) (hz : fz x = y) (he : e.set i (some y) = e0) (g : takeArgs us e0 = some (xs, e1)) : takeArgs (.v (.pk i) :: us) e = some (y :: xs, e1) := by
  show ((slot e i).map fun x => (fz x, e.set i (some (fz x)))).bind (fun p => (takeArgs us p.2).map fun q => (p.1 :: q.1, q.2)) = _
  rw [h]
  show (takeArgs us (e.set i (some (fz x)))).map (fun q => (fz x :: q.1, q.2)) = _
  rw [hz, he, g]; rfl
theorem taR {us : List AV} (h : slot e i = some x) (he : e.set i none = e0) (g : takeArgs us e0 = some (xs, e1)) : takeArgs (.r i :: us) e = some (x :: xs, e1) := by
  show (slot e i).bind (fun x => (takeArgs us (e.set i none)).map fun q => (x :: q.1, q.2)) = _
  rw [h, he]
  show (takeArgs us e0).map (fun q => (x :: q.1, q.2)) = _
  rw [g]; rfl
variable {o : List (Nat × Val)}
theorem poNil : putOuts p [] o e = some e := rfl
theorem poV {us : List AV} {v : OV} (g : putOuts (p + 1) us o e = some e1) : putOuts p (.v v :: us) o e = some e1 := g
theorem poR {us : List AV} (h : o.lookup p = some x) (he : e.set i (some x) = e0) (g : putOuts (p + 1) us o e0 = some e1) : putOuts p (.r i :: us) o e = some e1 := by
  show (o.lookup p).bind (fun x => putOuts (p + 1) us o (e.set i (some x))) = _
  rw [h]
  show putOuts (p + 1) us o (e.set i (some x)) = _
  rw [he, g]
theorem xCall {us : List AV} (h1 : evArgs as e = .ok us e1) (h2 : takeArgs us e1 = some (xs, e2)) (h3 : call f xs = .ok z o) (h4 : putOuts 0 us o e2 = some e3) : cCall call f as e = .ok (.val z) e3 := by
  unfold cCall
  rw [h1]
  show (match takeArgs us e1 with
    | some (xs, e2) => match call f xs with
      | .ok r outs => match putOuts 0 us outs e2 with
        | some e3 => Res.ok (OV.val r) e3
        | none => .bad
      | .exc x outs => match putOuts 0 us outs e2 with
        | some e3 => .exc x e3
        | none => .bad
      | .bad => .bad
    | none => .bad) = _
  simp only [h2, h3, h4]
theorem xCallX {us : List AV} {q : Exc} (h1 : evArgs as e = .ok us e1) (h2 : takeArgs us e1 = some (xs, e2)) (h3 : call f xs = .exc q o) (h4 : putOuts 0 us o e2 = some e3) : cCall call f as e = .exc q e3 := by
  unfold cCall
  rw [h1]
  show (match takeArgs us e1 with
    | some (xs, e2) => match call f xs with
      | .ok r outs => match putOuts 0 us outs e2 with
        | some e3 => Res.ok (OV.val r) e3
        | none => .bad
      | .exc x outs => match putOuts 0 us outs e2 with
        | some e3 => .exc x e3
        | none => .bad
      | .bad => .bad
    | none => .bad) = _
  simp only [h2, h3, h4]
theorem xMake {us : List OV} {n : Nat} (h1 : cs l e = .ok us e1) (h2 : takes us e1 = some (xs, e2)) (h3 : call f (.ins true n [] [] :: xs) = .ok .non o) (h4 : o.lookup 0 = some y) : cMake call f n l e = .ok (.val y) e2 := by
  unfold cMake
  rw [h1]
  show (match takes us e1 with
    | some (xs, e2) => match call f (.ins true n [] [] :: xs) with
      | .ok r outs => match r with
        | .non => match outs.lookup 0 with
          | some y => Res.ok (OV.val y) e2
          | none => .bad
        | _ => .bad
      | .exc x _ => .exc x e2
      | .bad => .bad
    | none => .bad) = _
  simp only [h2, h3, h4]
/-! tests; the known answer goes on -/
theorem tBx (h : Ex a e (.bl bb) e1) : tB a e = .ok bb e1 := by
  obtain ⟨u, h1, h2⟩ := h
  unfold tB
  rw [h1]
  show (match u.get e1 with | some (.bl b) => Res.ok b e1 | _ => .bad) = _
  rw [h2]
theorem tNotx (h : t e = .ok bb e1) (q : (!bb) = b1) : tNot t e = .ok b1 e1 := by
  unfold tNot
  rw [h, ← q]; rfl
def TK (bb : Bool) (A B : Res Bool) (R : Res Bool) : Prop := (if bb then A else B) = R
theorem tAndx {Q : Res Bool} (h : t e = .ok bb e1) (k : TK bb (u e1) (.ok false e1) Q) : VI.tAnd t u e = Q := by
  unfold VI.tAnd
  rw [h]
  exact k
theorem tOrx {Q : Res Bool} (h : t e = .ok bb e1) (k : TK bb (.ok true e1) (u e1) Q) : VI.tOr t u e = Q := by
  unfold VI.tOr
  rw [h]
  exact k
theorem tkT {A B Q : Res Bool} (h : A = Q) : TK true A B Q := h
theorem tkF {A B Q : Res Bool} (h : B = Q) : TK false A B Q := h
theorem tkT' {A B Q : Res Bool} (q : bb = true) (h : A = Q) : TK bb A B Q := by rw [q]; exact h
theorem tkF' {A B Q : Res Bool} (q : bb = false) (h : B = Q) : TK bb A B Q := by rw [q]; exact h
theorem tkA (h : u e = .ok b1 e) : TK bb (u e) (.ok false e) (.ok (bb && b1) e) := by
  unfold TK
  cases bb
  · rfl
  · exact h
theorem tkO (h : u e = .ok b1 e) : TK bb (.ok true e) (u e) (.ok (bb || b1) e) := by
  unfold TK
  cases bb
  · exact h
  · rfl
def VK' (bb : Bool) (A B : Res OV) (R : Res OV) : Prop := (if bb then A else B) = R
theorem xIf {Q : Res OV} (h : t e = .ok bb e1) (k : VK' bb (a e1) (b e1) Q) : cIf t a b e = Q := by
  unfold cIf
  rw [h]
  exact k
theorem vkT {A B Q : Res OV} (h : A = Q) : VK' true A B Q := h
theorem vkF {A B Q : Res OV} (h : B = Q) : VK' false A B Q := h
theorem vkT' {A B Q : Res OV} (q : bb = true) (h : A = Q) : VK' bb A B Q := by rw [q]; exact h
theorem vkF' {A B Q : Res OV} (q : bb = false) (h : B = Q) : VK' bb A B Q := by rw [q]; exact h
theorem vkS (h : a e = .ok (.val x) e) (g : b e = .ok (.val y) e) : VK' bb (a e) (b e) (.ok (.val (if bb then x else y)) e) := by
  unfold VK'
  cases bb
  · exact g
  · exact h
theorem xAnd {Q : Res OV} (h : Ex a e (.bl bb) e1) (k : VK' bb (b e1) (.ok (.val (.bl false)) e1) Q) : VI.cAnd a b e = Q := by
  obtain ⟨u, h1, h2⟩ := h
  unfold VI.cAnd
  rw [h1]
  show (match u.get e1 with | some (.bl true) => b e1 | some (.bl false) => .ok (.val (.bl false)) e1 | _ => .bad) = _
  rw [h2]
  cases bb <;> exact k
theorem xOr {Q : Res OV} (h : Ex a e (.bl bb) e1) (k : VK' bb (.ok (.val (.bl true)) e1) (b e1) Q) : VI.cOr a b e = Q := by
  obtain ⟨u, h1, h2⟩ := h
  unfold VI.cOr
  rw [h1]
  show (match u.get e1 with | some (.bl true) => Res.ok (OV.val (.bl true)) e1 | some (.bl false) => b e1 | _ => .bad) = _
  rw [h2]
  cases bb <;> exact k
theorem vkA (h : b e = .ok (.val (.bl b1)) e) : VK' bb (b e) (.ok (.val (.bl false)) e) (.ok (.val (.bl (bb && b1))) e) := by
  unfold VK'
  cases bb
  · rfl
  · exact h
theorem vkO (h : b e = .ok (.val (.bl b1)) e) : VK' bb (.ok (.val (.bl true)) e) (b e) (.ok (.val (.bl (bb || b1))) e) := by
  unfold VK'
  cases bb
  · exact h
  · rfl
theorem xCh {g h : Val → Val → Option Val} (h1 : Ex a e x e) (h2 : Ex b e y e) (q : g x y = some (.bl b1)) (h3 : Ex c e z e) (q2 : h y z = some (.bl b2)) : cCh g h a b c e = .ok (.val (.bl (b1 && b2))) e := by
  obtain ⟨u, p1, p2⟩ := h1
  obtain ⟨v, p3, p4⟩ := h2
  obtain ⟨w, p5, p6⟩ := h3
  unfold cCh
  rw [p1]
  show (b e).bind _ = _
  rw [p3]
  show (match (u.get e).bind fun x => (v.get e).bind fun y => g x y with
    | some (.bl true) => (c e).bind fun z e3 => liftO ((v.get e3).bind fun y => (z.get e3).bind fun v => h y v) e3
    | some (.bl false) => Res.ok (.val (.bl false)) e
    | _ => Res.bad) = _
  rw [p2, p4]
  show (match g x y with
    | some (.bl true) => (c e).bind fun z e3 => liftO ((v.get e3).bind fun y => (z.get e3).bind fun v => h y v) e3
    | some (.bl false) => Res.ok (.val (.bl false)) e
    | _ => Res.bad) = _
  rw [q]
  cases b1 with
  | false => rfl
  | true =>
    show (c e).bind _ = _
    rw [p5]
    show liftO ((v.get e).bind fun y => (w.get e).bind fun v => h y v) e = _
    rw [p4, p6]
    show liftO (h y z) e = _
    rw [q2]; rfl
theorem xMGt {g h : Val → Val → Option Val} (h1 : Ex a e (.tup xs) e) (h2 : Ex b e y e) (q : h (.tup xs) y = some z) : cMG g h a b e = .ok (.val z) e := by
  obtain ⟨u, p1, p2⟩ := h1
  obtain ⟨v, p3, p4⟩ := h2
  unfold cMG
  rw [p1]
  show (match u.get e with
    | some (.lst _ _) => (b e).bind fun w e2 => liftO ((u.get e2).bind fun x => (w.get e2).bind fun y => g x y) e2
    | some (.tup _) => (b e).bind fun w e2 => liftO ((u.get e2).bind fun x => (w.get e2).bind fun y => h x y) e2
    | _ => .bad) = _
  rw [p2]
  show (b e).bind _ = _
  rw [p3]
  show liftO ((u.get e).bind fun x => (v.get e).bind fun y => h x y) e = _
  rw [p2, p4]
  show liftO (h (.tup xs) y) e = _
  rw [q]; rfl
theorem xMGl {g h : Val → Val → Option Val} {o : Bool} (h1 : Ex a e (.lst o xs) e) (h2 : Ex b e y e) (q : g (.lst o xs) y = some z) : cMG g h a b e = .ok (.val z) e := by
  obtain ⟨u, p1, p2⟩ := h1
  obtain ⟨v, p3, p4⟩ := h2
  unfold cMG
  rw [p1]
  show (match u.get e with
    | some (.lst _ _) => (b e).bind fun w e2 => liftO ((u.get e2).bind fun x => (w.get e2).bind fun y => g x y) e2
    | some (.tup _) => (b e).bind fun w e2 => liftO ((u.get e2).bind fun x => (w.get e2).bind fun y => h x y) e2
    | _ => .bad) = _
  rw [p2]
  show (b e).bind _ = _
  rw [p3]
  show liftO ((u.get e).bind fun x => (v.get e).bind fun y => g x y) e = _
  rw [p2, p4]
  show liftO (g (.lst o xs) y) e = _
  rw [q]; rfl
/-! targets -/
theorem asN (hp : pins.contains i = false) (hl : decide (i < e.length) = true) (he : e.set i (some x) = e1) : asg pins (.n i) x e = some e1 := by
  unfold asg
  rw [hp, if_pos (of_decide_eq_true hl), he]; rfl
theorem asT {gs : List Tg} (h : asgL pins gs xs e = some e1) : asg pins (.t gs) (.tup xs) e = some e1 := by
  unfold asg; exact h
theorem asLn : asgL pins [] [] e = some e := by unfold asgL; rfl
theorem asLc {g : Tg} {gs : List Tg} (h : asg pins g x e = some e1) (k : asgL pins gs xs e1 = some e2) : asgL pins (g :: gs) (x :: xs) e = some e2 := by
  unfold asgL
  rw [h]; exact k
/-! what is walked -/
theorem iSeqN (h : slot e i = some x) (hz : fz x = x) (q : seqItems x = some xs) : iSeq (cN i) e = .ok xs e := by
  unfold iSeq
  rw [cN_ok h]
  show (match (slot e i).map fun x => (fz x, e.set i (some (fz x))) with
    | some (x, e2) => match seqItems x with
      | some xs => Res.ok xs e2
      | none => .bad
    | none => .bad) = _
  rw [h]
  show (match seqItems (fz x) with
      | some xs => Res.ok xs (e.set i (some (fz x)))
      | none => .bad) = _
  rw [hz, set_slot h, q]
theorem iSeqV (h : c e = .ok (.val x) e1) (hz : fz x = y) (q : seqItems y = some xs) : iSeq c e = .ok xs e1 := by
  unfold iSeq
  rw [h]
  show (match seqItems (fz x) with
      | some xs => Res.ok xs e1
      | none => .bad) = _
  rw [hz, q]
theorem iEnux (h : iSeq c e = .ok xs e1) : iEnu c e = .ok (enum 0 xs) e1 := by
  unfold iEnu
  rw [h]; rfl
theorem iRng1 {n : Nat} {z : Int} (h : Ex a e (.int z) e1) (hz : z = n) (q : rngOk 0 z = true) : iRng [a] e = .ok (rngV 0 n) e1 := by
  obtain ⟨u, h1, h2⟩ := h
  unfold iRng
  have : cs [a] e = .ok [u] e1 := by
    show (a e).bind (fun u e1 => (cs [] e1).bind fun us e2 => .ok (u :: us) e2) = _
    rw [h1]; rfl
  rw [this]
  show (match gets [u] e1 with
    | some [.int hi] => if rngOk 0 hi then Res.ok (rngV 0 hi.toNat) e1 else .bad
    | some [.int lo, .int hi] => if rngOk lo hi then .ok (rngV lo (hi - lo).toNat) e1 else .bad
    | _ => .bad) = _
  have : gets [u] e1 = some [.int z] := by
    show (u.get e1).bind (fun x => (gets [] e1).map (x :: ·)) = _
    rw [h2]; rfl
  rw [this]
  show (if rngOk 0 z then Res.ok (rngV 0 z.toNat) e1 else .bad) = _
  rw [q, if_pos rfl, hz]
  simp
/-! statements -/
theorem xAsg (h : c e = .ok (.val x) e1) {tg : Tg} (g : asg pins tg x e1 = some e2) : sAsg pins tg c e = .nx e2 := by
  unfold sAsg
  rw [h]
  show (match asg pins tg x e1 with | some e3 => SRes.nx e3 | none => .bad) = _
  rw [g]
theorem xAsgN (h : slot e j = some x) (hz : fz x = x) {tg : Tg} (g : asg pins tg x e = some e2) : sAsg pins tg (cN j) e = .nx e2 := by
  unfold sAsg
  rw [cN_ok h]
  show (match (slot e j).map fun x => (fz x, e.set j (some (fz x))) with
    | some (x, e2) => match asg pins tg x e2 with | some e3 => SRes.nx e3 | none => .bad
    | none => .bad) = _
  rw [h]
  show (match asg pins tg (fz x) (e.set j (some (fz x))) with | some e3 => SRes.nx e3 | none => .bad) = _
  rw [hz, set_slot h, g]
theorem xPar {us : List OV} (h : cs [a, b] e = .ok us e1) (g : takes us e1 = some ([x, y], e2)) (hp : (pins.contains i || pins.contains j) = false) (hl : decide (i < e2.length ∧ j < e2.length) = true) (he : e2.set i (some x) = e3) {e4 : En} (he2 : e3.set j (some y) = e4) : sPar pins i j a b e = .nx e4 := by
  unfold sPar
  rw [h]
  show (match takes us e1 with
  | some (xs, e2) => match xs with
    | [x, y] => if pins.contains i || pins.contains j then SRes.bad else if decide (i < e2.length ∧ j < e2.length) then .nx ((e2.set i (some x)).set j (some y)) else .bad
    | _ => .bad
  | none => .bad) = _
  rw [g]
  show (if pins.contains i || pins.contains j then SRes.bad else if decide (i < e2.length ∧ j < e2.length) then .nx ((e2.set i (some x)).set j (some y)) else .bad) = _
  rw [hp, hl, he, he2]; rfl
theorem xPar3 {us : List OV} {m : Nat} {e4 e5 : En} (h : cs [a, b, c] e = .ok us e1) (g : takes us e1 = some ([x, y, w], e2)) (hp : (pins.contains i || pins.contains j || pins.contains m) = false) (hl : decide (i < e2.length ∧ j < e2.length ∧ m < e2.length) = true)
    (he : e2.set i (some x) = e3) (he2 : e3.set j (some y) = e4) (he3 : e4.set m (some w) = e5) : sPar3 pins i j m a b c e = .nx e5 := by
  unfold sPar3
  rw [h]
  simp only [Res.toS, g, hp, hl, he, he2, he3, Bool.false_eq_true, if_false, if_true]
theorem xRet (h : c e = .ok (.val x) e1) : sRet pins c e = .rt x e1 := by
  unfold sRet
  rw [h]; rfl
theorem xRetN (h : slot e i = some x) (hp : pins.contains i = false) (he : e.set i none = e1) : sRet pins (cN i) e = .rt x e1 := by
  unfold sRet
  rw [cN_ok h]
  show (match slot e i with
    | some x => if pins.contains i then SRes.rt (fz x) (e.set i (some (fz x))) else .rt x (e.set i none)
    | none => .bad) = _
  rw [h]
  show (if pins.contains i then SRes.rt (fz x) (e.set i (some (fz x))) else .rt x (e.set i none)) = _
  rw [hp, he]; rfl
theorem xExp (h : c e = .ok (.val x) e1) : sExp c e = .nx e1 := by
  unfold sExp
  rw [h]; rfl
theorem xExpX {q : Exc} (h : c e = .exc q e1) : sExp c e = .exc q e1 := by
  unfold sExp
  rw [h]; rfl
def SK (bb : Bool) (A B R : SRes) : Prop := (if bb then A else B) = R
theorem xsIf {s1 s2 : S} (h : t e = .ok bb e1) (k : SK bb (s1 e1) (s2 e1) R) : sIf t s1 s2 e = R := by
  unfold sIf
  rw [h]
  exact k
theorem skT {A B : SRes} (h : A = R) : SK true A B R := h
theorem skF {A B : SRes} (h : B = R) : SK false A B R := h
theorem skT' {A B : SRes} (q : bb = true) (h : A = R) : SK bb A B R := by rw [q]; exact h
theorem skF' {A B : SRes} (q : bb = false) (h : B = R) : SK bb A B R := by rw [q]; exact h
def QK (R1 : SRes) (r : List S) (R : SRes) : Prop := (match R1 with | .nx e1 => sSeq r e1 | q => q) = R
theorem sqN : sSeq [] e = .nx e := rfl
theorem sqC (h : s e = R1) (k : QK R1 r R) : sSeq (s :: r) e = R := by
  show (match s e with | .nx e1 => sSeq r e1 | q => q) = R
  rw [h]; exact k
theorem qkN (h : sSeq r e = R) : QK (.nx e) r R := h
theorem qkR : QK (.rt x e) r (.rt x e) := rfl
theorem qkX {q : Exc} : QK (.exc q e) r (.exc q e) := rfl
theorem qkC : QK (.ct e) r (.ct e) := rfl
theorem qkB : QK (.bk e) r (.bk e) := rfl
theorem xApp (h0 : slot e i = some (.lst true ys)) (h : c e = .ok (.val x) e1) (hz : fz x = y) (h1 : slot e1 i = some (.lst true xs)) (hl : xs.length < most) (he : e1.set i (some (.lst true (xs ++ [y]))) = e2) : sApp i c e = .nx e2 := by
  have o0 : oL e i = some ys := by unfold oL; rw [h0]
  have o1 : oL e1 i = some xs := by unfold oL; rw [h1]
  unfold sApp
  rw [o0]
  show (c e).toS _ = _
  rw [h]
  show (match some (fz x, e1) with
    | some (y, e2) => match oL e2 i with
      | some xs => if decide (xs.length < most) then SRes.nx (e2.set i (some (.lst true (xs ++ [y])))) else .bad
      | none => .bad
    | none => .bad) = _
  simp only [o1, hz, decide_eq_true hl, if_true, he]
theorem xAppN (h0 : slot e j = some x) (hz : fz x = x) (h1 : slot e i = some (.lst true xs)) (hl : xs.length < most) (he : e.set i (some (.lst true (xs ++ [x]))) = e2) : sApp i (cN j) e = .nx e2 := by
  have o1 : oL e i = some xs := by unfold oL; rw [h1]
  unfold sApp
  rw [o1]
  show (cN j e).toS _ = _
  rw [cN_ok h0]
  show (match (slot e j).map fun x => (fz x, e.set j (some (fz x))) with
    | some (y, e2) => match oL e2 i with
      | some xs => if decide (xs.length < most) then SRes.nx (e2.set i (some (.lst true (xs ++ [y])))) else .bad
      | none => .bad
    | none => .bad) = _
  rw [h0]
  show (match oL (e.set j (some (fz x))) i with
      | some xs => if decide (xs.length < most) then SRes.nx ((e.set j (some (fz x))).set i (some (.lst true (xs ++ [fz x])))) else .bad
      | none => .bad) = _
  rw [hz, set_slot h0, o1]
  simp only [decide_eq_true hl, if_true, he]
theorem xRaise0 {n : Nat} : sRaise0 n e = .exc ⟨n, [], []⟩ e := rfl
theorem xFor {it : CI} {tg : Tg} {body : S} (h : it e = .ok xs e1) (g : forLoop pins tg body xs e1 = R) : sFor pins it tg body e = R := by
  unfold sFor
  rw [h]; exact g
/-! defs -/
def RK (refs : List Nat) (R : SRes) (q : CRes) : Prop := (match R with
    | .rt x e => match outsOf refs e with
      | some o => CRes.ok x o
      | none => .bad
    | .nx e => match outsOf refs e with
      | some o => .ok .non o
      | none => .bad
    | .exc x e => match outsOf refs e with
      | some o => .exc x o
      | none => .bad
    | _ => .bad) = q
theorem runX {fd : FDef} {as : List Val} {m : Nat} {q : CRes} (h1 : decide (as.length = fd.np ∧ fd.n - as.length = m) = true) (h : fd.body call (as.map some ++ List.replicate m none) = R) (k : RK fd.refs R q) : runDef fd call as = q := by
  have h1 := of_decide_eq_true h1
  unfold runDef
  rw [if_pos h1.1]
  unfold startE
  rw [h1.2, h]
  exact k
theorem oN : outsOf [] e = some [] := rfl
theorem oC (h : slot e i = some x) (he : e.set i none = e1) (g : outsOf refs e1 = some o) : outsOf (i :: refs) e = some ((i, x) :: o) := by
  show (slot e i).bind (fun x => (outsOf refs (e.set i none)).map ((i, x) :: ·)) = _
  rw [h, he]
  show (outsOf refs e1).map ((i, x) :: ·) = _
  rw [g]; rfl
theorem rkR (h : outsOf refs e = some o) : RK refs (.rt x e) (.ok x o) := by
  simp only [RK, h]
theorem rkN (h : outsOf refs e = some o) : RK refs (.nx e) (.ok .non o) := by
  simp only [RK, h]
theorem rkX {q : Exc} (h : outsOf refs e = some o) : RK refs (.exc q e) (.exc q o) := by
  simp only [RK, h]

theorem cs1 {us : List OV} (h : cs [a] e = .ok us e1) : ∃ u, a e = .ok u e1 ∧ us = [u] := by
  unfold cs at h
  cases q : a e with
  | ok u e2 =>
    rw [q] at h
    simp only [Res.bind, cs, Res.ok.injEq] at h
    exact ⟨u, by rw [h.2], h.1.symm⟩
  | exc x e2 => rw [q] at h; cases h
  | bad => rw [q] at h; cases h
theorem cs2 {us : List OV} (h : cs [a, b] e = .ok us e2) : ∃ u w e1, a e = .ok u e1 ∧ b e1 = .ok w e2 ∧ us = [u, w] := by
  unfold cs at h
  cases q : a e with
  | ok u e1 =>
    rw [q] at h
    simp only [Res.bind] at h
    cases q2 : cs [b] e1 with
    | ok vs e3 =>
      rw [q2] at h
      simp only [Res.ok.injEq] at h
      obtain ⟨w, h1, h2⟩ := cs1 q2
      exact ⟨u, w, e1, rfl, by rw [h1, h.2], by rw [← h.1, h2]⟩
    | exc x e3 => rw [q2] at h; cases h
    | bad => rw [q2] at h; cases h
  | exc x e1 => rw [q] at h; cases h
  | bad => rw [q] at h; cases h
theorem iSeqG {us : List OV} (h : cs [a] e = .ok us e1) (t : takesF us e1 = some ([x], e2)) (q : seqItems x = some xs) : iSeq a e = .ok xs e2 := by
  obtain ⟨u, h1, rfl⟩ := cs1 h
  unfold iSeq
  rw [h1]
  show (match u.takeF e1 with
    | some (x, e2) => (match seqItems x with
      | some xs => Res.ok xs e2
      | none => .bad)
    | none => .bad) = _
  cases h2 : u.takeF e1 with
  | none => unfold takesF at t; rw [h2] at t; cases t
  | some p =>
    obtain ⟨y, e3⟩ := p
    unfold takesF at t
    rw [h2] at t
    simp only [Option.bind_some, takesF, Option.map_some, Option.some.injEq, Prod.mk.injEq, List.cons.injEq, and_true] at t
    obtain ⟨rfl, rfl⟩ := t
    simp only [q]
theorem iZipG {us : List OV} (h : cs [a, b] e = .ok us e1) (t : takesF us e1 = some ([x, y], e2)) (q : seqItems x = some xs) (q2 : seqItems y = some ys) : iZip a b e = .ok (zipV xs ys) e2 := by
  obtain ⟨u, w, e0, h1, h2, rfl⟩ := cs2 h
  unfold iZip
  rw [h1]
  show (b e0).bind _ = _
  rw [h2]
  show (match u.takeF e1 with
  | some (x, e3) => match w.takeF e3 with
    | some (y, e4) => match seqItems x, seqItems y with
      | some xs, some ys => Res.ok (zipV xs ys) e4
      | _, _ => .bad
    | none => .bad
  | none => .bad) = _
  cases h3 : u.takeF e1 with
  | none => unfold takesF at t; rw [h3] at t; cases t
  | some p =>
    obtain ⟨x', e3⟩ := p
    unfold takesF at t
    rw [h3] at t
    simp only [Option.bind_some] at t
    cases h4 : w.takeF e3 with
    | none => unfold takesF at t; rw [h4] at t; cases t
    | some p =>
      obtain ⟨y', e4⟩ := p
      unfold takesF at t
      rw [h4] at t
      simp only [Option.bind_some, takesF, Option.map_some, Option.some.injEq, Prod.mk.injEq, List.cons.injEq, and_true] at t
      obtain ⟨⟨rfl, rfl⟩, rfl⟩ := t
      simp only [h4, q, q2]
theorem iEnuG {us : List OV} (h : cs [a] e = .ok us e1) (t : takesF us e1 = some ([x], e2)) (q : seqItems x = some xs) : iEnu a e = .ok (enum 0 xs) e2 := iEnux (iSeqG h t q)
/-- range(n): the end as a Nat -/
theorem iRngN {n : Nat} (h : Ex a e (.int (n : Int)) e1) (q : n ≤ 16777216) : iRng [a] e = .ok (rngV 0 n) e1 := iRng1 h rfl (by unfold rngOk big; exact decide_eq_true (by omega))
theorem rkR' (h : outsOf refs e = some o) (hx : x = y) : RK refs (.rt x e) (.ok y o) := by rw [← hx]; exact rkR h

theorem xPopAt {q : Nat} (h0 : slot e i = some (.lst true ys)) (h : c e = .ok (.val (.int (q : Int))) e1) (h1 : slot e1 i = some (.lst true xs)) (hg : xs[q]? = some x) (hz : isFz x = true) (he : e1.set i (some (.lst true (xs.eraseIdx q))) = e2) : cPopAt i c e = .ok (.val x) e2 := by
  have o0 : oL e i = some ys := by unfold oL; rw [h0]
  have o1 : oL e1 i = some xs := by unfold oL; rw [h1]
  have hl : q < xs.length := (List.getElem?_eq_some_iff.mp hg).1
  have hp : place xs.length (q : Int) = some q := by unfold place; rw [if_pos (by omega), if_pos (by omega)]; simp
  unfold cPopAt
  rw [o0]
  show (c e).bind _ = _
  rw [h]
  simp only [Res.bind, OV.get, o1, hp, Option.bind_some, hg, Option.map_some, hz, if_true, he]
theorem xPop {q : Nat} (h0 : slot e i = some (.lst true xs)) (hg : xs[xs.length - 1]? = some x) (hz : isFz x = true) (he : e.set i (some (.lst true xs.dropLast)) = e2) : cPop i e = .ok (.val x) e2 := by
  have o0 : oL e i = some xs := by unfold oL; rw [h0]
  unfold cPop
  simp only [o0, hg, hz, if_true, he]
/-! while -/
theorem whG {t : CB} {body : S} {I : Nat → En → Prop} {Q : En → Prop} (h : ∀ m e, I m e → (∃ e1, t e = .ok false e1 ∧ Q e1) ∨ ∃ e0 e1 m', m' < m ∧ t e = .ok true e0 ∧ body e0 = .nx e1 ∧ I m' e1) : ∀ (N m : Nat) (e : En), m < N → I m e → ∃ e', whLoop t body N e = .nx e' ∧ Q e'
  | 0, m, e, hm, _ => by omega
  | N + 1, m, e, hm, hI => by
    rcases h m e hI with ⟨e1, h1, h2⟩ | ⟨e0, e1, m', h1, h2, h3, h4⟩
    · refine ⟨e1, ?_, h2⟩
      show (t e).toS (fun b e1 => if b then loopStep (body e1) (whLoop t body N) else .nx e1) = _
      rw [h1]; rfl
    · obtain ⟨e', g1, g2⟩ := whG h N m' e1 (by omega) h4
      refine ⟨e', ?_, g2⟩
      show (t e).toS (fun b e1 => if b then loopStep (body e1) (whLoop t body N) else .nx e1) = _
      rw [h2]
      show loopStep (body e0) (whLoop t body N) = _
      rw [h3]; exact g1
theorem xWh {t : CB} {body : S} (h : whLoop t body turns e = R) : sWh t body e = R := h
end VI
set_option Elab.async false
set_option linter.all false
set_option maxRecDepth 100000
/-! VY: runs of loops over values that are not known, facts of the operations. No program. -/
namespace VI
open PySem
theorem get_t (x : Val) (e : En) : OV.get (.val x) e = some x := rfl
theorem get_p (i : Nat) (e : En) : OV.get (.pk i) e = slot e i := rfl
theorem slot0 (x : Option Val) (e : En) : slot (x :: e) 0 = x := by cases x <;> rfl
theorem slotS (x : Option Val) (e : En) (i : Nat) : slot (x :: e) (i + 1) = slot e i := rfl
theorem fzi (n : Int) : fz (.int n) = .int n := rfl
theorem fzb (n : Bool) : fz (.bl n) = .bl n := rfl
theorem fzn : fz .non = .non := rfl
theorem fzs (n : Str) : fz (.str n) = .str n := rfl
theorem fzt (xs : List Val) : fz (.tup xs) = .tup (fzL xs) := by rw [fz]
theorem intsV_cons (n : Int) (r : List Int) : intsV (n :: r) = .int n :: intsV r := rfl
theorem intsV_fz : ∀ cs : List Int, isFzL (intsV cs) = true
  | [] => rfl
  | c :: r => by rw [intsV_cons]; simp only [isFzL, isFz, Bool.true_and]; exact intsV_fz r
theorem intsV_fzL : ∀ ns : List Int, fzL (intsV ns) = intsV ns
  | [] => rfl
  | z :: r => by rw [intsV_cons]; simp only [fzL, fz]; rw [intsV_fzL r]
theorem intsV_len (cs : List Int) : (intsV cs).length = cs.length := by simp [intsV]
theorem intsV_get (cs : List Int) (j : Nat) : (intsV cs)[j]? = cs[j]?.map .int := by simp [intsV]
theorem intsV_mem {x : Val} {cs : List Int} (h : x ∈ intsV cs) : ∃ n, x = .int n ∧ n ∈ cs := by
  obtain ⟨n, a, b⟩ := List.mem_map.mp h
  exact ⟨n, b.symm, a⟩
theorem toInts_ints : ∀ ns : List Int, toInts (intsV ns) = some ns
  | [] => rfl
  | n :: r => by rw [intsV_cons]; simp [toInts, toInts_ints r]
theorem intsV_rep (n : Nat) (x : Int) : rep [Val.int x] n = intsV (List.replicate n x) := by
  induction n with
  | zero => rfl
  | succ n ih => rw [rep, ih]; rfl
theorem place_nat {n j : Nat} (h : j < n) : place n (j : Int) = some j := by
  unfold place
  rw [if_pos (by omega), if_pos (by omega)]
  simp
theorem subs_tup {xs : List Val} {j : Nat} {x : Val} (h : xs[j]? = some x) (hf : isFz x = true) : subsV (.tup xs) (.int j) = some x := by
  have hl : j < xs.length := (List.getElem?_eq_some_iff.mp h).1
  simp [subsV, place_nat hl, h, hf]
theorem subs_lst {o : Bool} {xs : List Val} {j : Nat} {x : Val} (h : xs[j]? = some x) (hf : isFz x = true) : subsV (.lst o xs) (.int j) = some x := by
  have hl : j < xs.length := (List.getElem?_eq_some_iff.mp h).1
  simp [subsV, place_nat hl, h, hf]
theorem subs_li {o : Bool} {cs : List Int} {j : Nat} (h : j < cs.length) : subsV (.lst o (intsV cs)) (.int j) = some (.int cs[j]) :=
  subs_lst (by rw [intsV_get, List.getElem?_eq_getElem h]; rfl) rfl
/-! ### comprehensions -/
/-! ### for -/
theorem lenG_any {call : Call} {n c : Nat} {xs : List Val} : lenG call n c [.tup xs] = some (.int xs.length) := rfl
theorem lenG_lst {call : Call} {n c : Nat} {o : Bool} {xs : List Val} : lenG call n c [.lst o xs] = some (.int xs.length) := rfl
theorem eqG_int {call : Call} {n c : Nat} {x y : Int} : eqG call n c (.int x) (.int y) = some (.bl (x == y)) := by
  simp [eqG, eqD, isD, depthV, okV, eqV0]
theorem toBls_bl : ∀ (xs : List Val) (p : Val → Bool), toBls (xs.map fun x => .bl (p x)) = some (xs.map p)
  | [], p => rfl
  | x :: r, p => by simp [toBls, toBls_bl r p]
theorem all_map_bl {xs : List Val} {p : Val → Bool} {o : Bool} : allV [.lst o (xs.map fun x => .bl (p x))] = some (.bl (xs.all p)) := by
  simp [allV, toBls_bl, List.all_map]
theorem fzL_mem : ∀ {xs : List Val}, fzL xs = xs → ∀ x ∈ xs, fz x = x
  | y :: ys, h, x, hx => by
    simp only [fzL, List.cons.injEq] at h
    rcases List.mem_cons.mp hx with rfl | hx
    · exact h.1
    · exact fzL_mem h.2 x hx
theorem neD_int {x y : Int} : neD (.int x) (.int y) = some (.bl (!(x == y))) := by
  simp [neD, isD, depthV, okV, eqV0]
theorem zip_ints : ∀ (a b : List Int), zipV (intsV a) (intsV b) = (a.zip b).map fun q => .tup [.int q.1, .int q.2]
  | [], _ => rfl
  | _ :: _, [] => rfl
  | x :: a, y :: b => by
    show Val.tup [.int x, .int y] :: zipV (intsV a) (intsV b) = _
    rw [zip_ints a b]
    rfl
def gi (sc : List Int) (j : Nat) : Int := (sc[j]?).getD 0
theorem tup_li (o : Bool) (b : List Int) : tupleG [.lst o (intsV b)] = some (.tup (intsV b)) := by simp [tupleG, tupleV, intsV_fz]
theorem depthVs_ints : ∀ b : List Int, depthVs (intsV b) = 0
  | [] => rfl
  | x :: r => by rw [intsV_cons]; simp [depthVs, depthV, depthVs_ints r]
theorem okVs_ints : ∀ b : List Int, okVs (intsV b) = true
  | [] => rfl
  | x :: r => by rw [intsV_cons]; simp [okVs, okV, okVs_ints r]
theorem eqVs_ints : ∀ a b : List Int, eqVs (intsV a) (intsV b) = (a == b)
  | [], [] => rfl
  | [], _ :: _ => rfl
  | _ :: _, [] => rfl
  | x :: a, y :: b => by
    rw [intsV_cons, intsV_cons]
    simp only [eqVs, eqV0, eqVs_ints a b]
    rfl
theorem rng_ints (n : Nat) : rngV 0 n = intsV ((List.range n).map fun (j : Nat) => (j : Int)) := by
  have : ∀ (n : Nat) (a : Nat), rngV (a : Int) n = intsV ((List.range' a n).map fun (j : Nat) => (j : Int)) := by
    intro n
    induction n with
    | zero => intro a; rfl
    | succ n ih =>
      intro a
      show Val.int a :: rngV ((a : Int) + 1) n = _
      rw [show ((a : Int) + 1) = ((a + 1 : Nat) : Int) by omega, ih, List.range'_succ]
      rfl
  rw [List.range_eq_range']
  exact this n 0
theorem rngOk_n {n : Nat} (h : n ≤ 16777216) : rngOk 0 n = true := by
  unfold rngOk big
  exact decide_eq_true (by omega)
theorem zti (b : List Int) : fz (.tup (intsV b)) = .tup (intsV b) := by rw [fzt, intsV_fzL]
theorem fzL_of_is {xs : List Val} (h : isFzL xs = true) : fzL xs = xs := fzL_of h

/-! ### comprehensions over L.map F -/
section
variable {c : C} {tg : Tg} {t : CB} {el : C} {vs : List Nat} {e e1 e2 e3 : En} {it : CI} {xs ys acc : List Val} {α : Type} {F G : α → Val} {L : List α}
theorem xLC (hi : it e = .ok xs e1) (hw : wipeE vs e1 = e2) (hl : lcLoop tg t el vs xs [] e2 = .ok ys e3) {e4 : En} (hu : unwipe vs e1 e3 = e4) : cLC it tg t el vs e = .ok (.val (.lst true ys)) e4 := by
  unfold cLC
  rw [hi]
  show (match lcLoop tg t el vs xs [] (wipeE vs e1) with
  | .ok ys e2 => Res.ok (OV.val (.lst true ys)) (unwipe vs e1 e2)
  | _ => .bad) = _
  rw [hw, hl]
  show Res.ok _ _ = _
  rw [hu]
theorem xLCs (hi : it e = .ok xs e1) (hl : lcLoop tg t el vs xs [] e1 = .ok ys e1) (hw : wipeE vs e1 = e1) (hu : unwipe vs e1 e1 = e1) : cLC it tg t el vs e = .ok (.val (.lst true ys)) e1 := xLC hi hw hl hu
theorem lcF : ∀ (L : List α) (acc : List Val), (∀ a ∈ L, ∃ e1 y e2, asg [] tg (F a) e = some e1 ∧ el e1 = .ok (.val y) e2 ∧ fz y = G a ∧ wipeE vs e2 = e) → lcLoop tg VI.tYes el vs (L.map F) acc e = .ok (acc ++ L.map G) e
  | [], acc, _ => by simp [lcLoop]
  | a :: L, acc, h => by
    obtain ⟨e1, y, e2, h1, h2, h3, h4⟩ := h a List.mem_cons_self
    have ih := lcF L (acc ++ [G a]) fun b hb => h b (List.mem_cons_of_mem _ hb)
    simp only [List.map_cons, lcLoop, h1, VI.tYes, h2, OV.takeF, h3, h4]
    rw [ih]
    simp
theorem lcFN {i : Nat} {t : CB} {p : α → Bool} : ∀ (L : List α) (acc : List Val), (∀ a ∈ L, ∃ e1 e2, asg [] tg (F a) e = some e1 ∧ t e1 = .ok (p a) e2 ∧ slot e2 i = some (G a) ∧ fz (G a) = G a ∧ wipeE vs e2 = e) → lcLoop tg t (cN i) vs (L.map F) acc e = .ok (acc ++ (L.filter p).map G) e
  | [], acc, _ => by simp [lcLoop]
  | a :: L, acc, h => by
    obtain ⟨e1, e2, h1, h2, h3, h4, h5⟩ := h a List.mem_cons_self
    cases q : p a with
    | false =>
      have ih := lcFN (p := p) L acc fun b hb => h b (List.mem_cons_of_mem _ hb)
      rw [q] at h2
      simp only [List.map_cons, lcLoop, h1, h2, h5]
      rw [ih, List.filter_cons_of_neg (by rw [q]; simp)]
    | true =>
      have ih := lcFN (p := p) L (acc ++ [G a]) fun b hb => h b (List.mem_cons_of_mem _ hb)
      rw [q] at h2
      have hs : e2.set i (some (G a)) = e2 := set_slot h3
      simp only [List.map_cons, lcLoop, h1, h2, cN_ok h3, OV.takeF, h3, Option.map_some, h4, hs, h5]
      rw [ih, List.filter_cons_of_pos q]
      simp
/-- a state goes along -/
theorem lcS {S : Type} {E : S → En} {I : S → Prop} {β : Type} {Rr : α → β → Prop} {M : β → Val} : ∀ (L : List α) (acc : List Val) (s : S), I s → (∀ a ∈ L, ∀ s, I s → ∃ e1 y e2 b s', asg [] tg (F a) (E s) = some e1 ∧ el e1 = .ok (.val y) e2 ∧ fz y = M b ∧ wipeE vs e2 = E s' ∧ I s' ∧ Rr a b) →
    ∃ (bs : List β) (s' : S), lcLoop tg VI.tYes el vs (L.map F) acc (E s) = .ok (acc ++ bs.map M) (E s') ∧ I s' ∧ bs.length = L.length ∧ ∀ (i : Nat) (a : α) (b : β), L[i]? = some a → bs[i]? = some b → Rr a b
  | [], acc, s, hs, _ => ⟨[], s, by simp [lcLoop], hs, rfl, fun i a b h => by simp at h⟩
  | a :: L, acc, s, hs, h => by
    obtain ⟨e1, y, e2, b, s1, h1, h2, h3, h4, h5, h6⟩ := h a List.mem_cons_self s hs
    obtain ⟨bs, s2, g1, g2, g3, g4⟩ := lcS (Rr := Rr) (M := M) L (acc ++ [M b]) s1 h5 fun c hc => h c (List.mem_cons_of_mem _ hc)
    refine ⟨b :: bs, s2, ?_, g2, by simp [g3], fun i c d hc hd => ?_⟩
    · simp only [List.map_cons, lcLoop, h1, VI.tYes, h2, OV.takeF, h3, h4]
      rw [g1]
      simp
    · cases i with
      | zero => simp at hc hd; subst hc hd; exact h6
      | succ i => exact g4 i c d (by simpa using hc) (by simpa using hd)
/-! ### for over L.map F -/
theorem forI {pins : List Nat} {body : S} {I : List α → En → Prop} : ∀ (L done : List α) (e : En), I done e → (∀ (dn : List α) (a : α) (rest : List α) (e : En), done ++ L = dn ++ a :: rest → I dn e → ∃ e1 e2, asg pins tg (F a) e = some e1 ∧ (body e1 = .nx e2 ∨ body e1 = .ct e2) ∧ I (dn ++ [a]) e2) →
    ∃ e', forLoop pins tg body (L.map F) e = .nx e' ∧ I (done ++ L) e'
  | [], done, e, h, _ => ⟨e, rfl, by simpa using h⟩
  | a :: L, done, e, h, hs => by
    obtain ⟨e1, e2, h1, h2, h3⟩ := hs done a L e rfl h
    obtain ⟨e', h4, h5⟩ := forI L (done ++ [a]) e2 h3 fun dn b rest e3 hb h6 => hs dn b rest e3 (by rw [← hb]; simp) h6
    refine ⟨e', ?_, by simpa using h5⟩
    show (match asg pins tg (F a) e with | none => SRes.bad | some e1 => loopStep (body e1) (forLoop pins tg body (L.map F))) = _
    rw [h1]
    show loopStep (body e1) _ = _
    rcases h2 with h2 | h2 <;> (rw [h2]; exact h4)
end
/-! ### lists as maps -/
theorem rngM (n : Nat) : rngV 0 n = (List.range n).map fun j : Nat => Val.int (j : Int) := by rw [rng_ints]; simp [intsV]
theorem enumM {α : Type} (F : α → Val) : ∀ (L : List α) (k : Nat), enum (k : Int) (L.map F) = (L.zipIdx k).map fun p => Val.tup [.int (p.2 : Int), F p.1]
  | [], k => rfl
  | a :: L, k => by
    show Val.tup [.int (k : Int), F a] :: enum ((k : Int) + 1) (L.map F) = _
    rw [show ((k : Int) + 1) = ((k + 1 : Nat) : Int) by omega, enumM F L (k + 1)]
    rfl
theorem enumM0 {α : Type} (F : α → Val) (L : List α) : enum 0 (L.map F) = L.zipIdx.map fun p => Val.tup [.int (p.2 : Int), F p.1] := enumM F L 0
theorem mapFz {α : Type} {F : α → Val} {L : List α} (h : ∀ a ∈ L, isFz (F a) = true) : isFzL (L.map F) = true := by
  rw [isFzL_all, List.all_map]
  exact List.all_eq_true.mpr h
theorem fzLst {o : Bool} {xs : List Val} (h : isFzL xs = true) : fz (.lst o xs) = .lst false xs := by rw [fz, fzL_of h]
theorem fzTup {xs : List Val} (h : isFzL xs = true) : fz (.tup xs) = .tup xs := by rw [fz, fzL_of h]
theorem subsT {α : Type} {F : α → Val} {L : List α} {i : Nat} {a : α} (h : L[i]? = some a) (hf : isFz (F a) = true) : subsV (.tup (L.map F)) (.int (i : Int)) = some (F a) := subs_tup (by rw [List.getElem?_map, h]; rfl) hf
theorem subsL {α : Type} {F : α → Val} {L : List α} {i : Nat} {a : α} {o : Bool} (h : L[i]? = some a) (hf : isFz (F a) = true) : subsV (.lst o (L.map F)) (.int (i : Int)) = some (F a) := subs_lst (by rw [List.getElem?_map, h]; rfl) hf
theorem allM {α : Type} {p : α → Bool} {L : List α} {o : Bool} : allV [.lst o (L.map fun a => Val.bl (p a))] = some (.bl (L.all p)) := by
  have := all_map_bl (xs := L.map fun a => Val.bl (p a)) (p := fun v => match v with | .bl b => b | _ => false) (o := o)
  rw [List.map_map, List.all_map] at this
  exact this
end VI
set_option Elab.async false
set_option linter.all false
set_option maxRecDepth 100000
set_option maxHeartbeats 1600000
/-! VZ: facts of plain use (slices, sums of tuples, x[i] = y, texts of things), found first in single laws. -/
namespace VI
open PySem PySem.Spec PyProof.Rows
def kd : Val → Bool
  | .fn _ => false
  | .ty _ => false
  | .ins _ _ _ _ => false
  | _ => true
structure Th1 (X : Val) : Prop where
  k : kd X = true
  z : fz X = X
  el : ∀ xs, X = .tup xs → ∀ y ∈ xs, kd y = true ∧ fz y = y
theorem isFz_el : ∀ {xs : List Val}, isFzL xs = true → ∀ x ∈ xs, fz x = x
  | [], _, x, hx => by cases hx
  | y :: ys, h, x, hx => by
    simp only [isFzL, Bool.and_eq_true] at h
    rcases List.mem_cons.mp hx with rfl | hx
    · exact fz_of h.1
    · exact isFz_el h.2 x hx
theorem isFzL_is : ∀ {xs : List Val}, isFzL xs = true → ∀ x ∈ xs, isFz x = true
  | [], _, x, hx => by cases hx
  | y :: ys, h, x, hx => by
    simp only [isFzL, Bool.and_eq_true] at h
    rcases List.mem_cons.mp hx with rfl | hx
    · exact h.1
    · exact isFzL_is h.2 x hx
theorem lcI {tg : Tg} {el : VI.C} {vs : List Nat} {e : En} {G : Val → Val} (L : List Val) (h : ∀ a ∈ L, ∃ e1 y e2, asg [] tg a e = some e1 ∧ el e1 = .ok (.val y) e2 ∧ fz y = G a ∧ wipeE vs e2 = e) : lcLoop tg VI.tYes el vs L [] e = .ok (L.map G) e := by
  have := lcF (F := fun x : Val => x) (G := G) L [] h
  rwa [List.map_id'] at this
theorem addL {xs ys : List Val} (h1 : isFzL xs = true) (h2 : isFzL ys = true) (hl : xs.length + ys.length ≤ 1000) : addV (.lst true xs) (.lst true ys) = some (.lst true (xs ++ ys)) := by
  show (if isFzL xs && isFzL ys && decide (xs.length + ys.length ≤ most) then some (Val.lst true (xs ++ ys)) else none) = _
  rw [h1, h2, decide_eq_true (by unfold most; omega)]
  rfl
theorem addT {xs ys : List Val} (h1 : isFzL xs = true) (h2 : isFzL ys = true) (hl : xs.length + ys.length ≤ 1000000) : addV (.tup xs) (.tup ys) = some (.tup (xs ++ ys)) := by
  show (if isFzL xs && isFzL ys && decide (xs.length + ys.length ≤ most) then some (Val.tup (xs ++ ys)) else none) = _
  rw [h1, h2, decide_eq_true (by unfold most; omega)]
  rfl
theorem cut_hi {α : Type} (xs : List α) (j : Nat) (h : j ≤ xs.length) : cut xs none (some (j : Int)) = xs.take j := by
  have h1 : ¬ ((j : Int) < 0) := by omega
  have h2 : min ((j : Int).toNat) xs.length = j := by rw [Int.toNat_natCast]; omega
  show (xs.drop 0).take ((if (j : Int) < 0 then ((j : Int) + (xs.length : Int)).toNat else min ((j : Int).toNat) xs.length) - 0) = _
  rw [if_neg h1, h2]
  simp
theorem cut_lo {α : Type} (xs : List α) (j : Nat) (h : j ≤ xs.length) : cut xs (some (j : Int)) none = xs.drop j := by
  have h1 : ¬ ((j : Int) < 0) := by omega
  have h2 : min ((j : Int).toNat) xs.length = j := by rw [Int.toNat_natCast]; omega
  show (xs.drop (if (j : Int) < 0 then ((j : Int) + (xs.length : Int)).toNat else min ((j : Int).toNat) xs.length)).take (xs.length - (if (j : Int) < 0 then ((j : Int) + (xs.length : Int)).toNat else min ((j : Int).toNat) xs.length)) = _
  rw [if_neg h1, h2, ← List.length_drop, List.take_length]
theorem slT_hi {xs : List Val} {j : Nat} (hz : isFzL xs = true) (h : j ≤ xs.length) : slV false true [.tup xs, .int (j : Int)] = some (.tup (xs.take j)) := by
  show sliceV (.tup xs) none (some (.int (j : Int))) = _
  simp only [sliceV, partI, Option.bind_some, hz, if_true, cut_hi xs j h]
theorem xSetV {e e1 e2 : En} {ci cv : C} {i j : Nat} {xs : List Val} {x y : Val} (hv : cv e = .ok (.val x) e1) (hz : fz x = y) (hs : slot e1 i = some (.lst true xs)) (hi : Ex ci e1 (.int (j : Int)) e1) (hj : j < xs.length) (hx : isFzL xs = true) (he : e1.set i (some (.lst true (xs.set j y))) = e2) : sSetI i ci cv e = .nx e2 := by
  obtain ⟨u, h1, h2⟩ := hi
  have ho : oL e1 i = some xs := by unfold oL; rw [hs]
  have hp : place xs.length (j : Int) = some j := place_nat hj
  have hg : xs[j]? = some xs[j] := List.getElem?_eq_getElem hj
  have hf : isFz xs[j] = true := isFzL_is hx _ (List.getElem_mem hj)
  unfold sSetI
  rw [hv]
  simp only [Res.toS, OV.takeF, hz, ho, h1, h2, hp, hg, hf, if_true, he]
theorem pins_no {n m j : Nat} (h0 : 0 < j) (h : j < n) : (pinsOf n m).contains j = false := by
  simp only [pinsOf, List.contains_eq_any_beq, List.any_cons, List.any_map]
  rw [show (j == 0) = false from beq_eq_false_iff_ne.mpr (by omega), Bool.false_or]
  rw [List.any_eq_false]
  intro x _
  simp
  omega
theorem okS_app {a b : Str} (h : okS a = true) (g : okS b = true) : okS (a ++ b) = true := by
  show okS (Str.append a b) = true
  unfold okS at *
  show ((a.cps ++ b.cps).all _) = true
  rw [Array.all_append, h, g]
  rfl
theorem okS_str (s : String) : okS (Str.ofString s) = true := by
  rw [Str.ofString_eq_toList]
  unfold okS
  simp only [List.all_toArray, List.all_eq_true, List.mem_map, decide_eq_true_eq, forall_exists_index, and_imp]
  intro n c _ h
  subst h
  have := c.valid
  rcases this with h | h
  · exact Nat.lt_of_lt_of_le h (by decide)
  · exact h.2
theorem okS_join {sep : Str} (h : okS sep = true) : ∀ {ts : List Str}, (∀ t ∈ ts, okS t = true) → okS (Str.join sep ts) = true
  | [], _ => by
    show okS Str.empty = true
    decide +kernel
  | [x], g => g x List.mem_cons_self
  | x :: y :: r, g => okS_app (okS_app (g x List.mem_cons_self) h) (okS_join h fun t ht => g t (List.mem_cons_of_mem _ ht))
theorem okS_from : ∀ (ts : List Str) (k : Nat) (acc : Str), okS acc = true → (∀ t ∈ ts, okS t = true) → okS (textFrom k acc ts) = true
  | [], _, acc, h, _ => h
  | t :: ts, k, acc, h, g => okS_from ts (k + 1) _ (okS_app (okS_app h (okS_str _)) (g t List.mem_cons_self)) fun t ht => g t (List.mem_cons_of_mem _ ht)
theorem okS_list {ts : List Str} (g : ∀ t ∈ ts, okS t = true) : okS (listText ts) = true := okS_app (okS_from ts 0 _ (okS_str _) g) (okS_str _)
theorem okS_tup {ts : List Str} (g : ∀ t ∈ ts, okS t = true) : okS (tupleText ts) = true := okS_app (okS_app (okS_str _) (okS_join (okS_str _) g)) (okS_str _)
theorem okS_dic {ts : List Str} (g : ∀ t ∈ ts, okS t = true) : okS (dictText ts) = true := okS_app (okS_app (okS_str _) (okS_join (okS_str _) g)) (okS_str _)
def txK (k : KeyT) : Bool := match k with
  | .inl _ => true
  | .inr s => okS (reprText s)
mutual
def txV : Val → Bool
  | .str s => okS (reprText s)
  | .tup vs => txL vs
  | .lst _ vs => txL vs
  | .dic _ ks vs => ks.all txK && txL vs
  | _ => true
def txL : List Val → Bool
  | [] => true
  | v :: vs => txV v && txL vs
end
theorem okS_key {k : KeyT} (h : txK k = true) : okS (keyPD k).shown = true := by
  cases k with
  | inl i => simp only [keyPD, PyData.shown]; exact okS_str _
  | inr s =>
    simp only [keyPD, PyData.shown]
    exact h
theorem okS_kv : ∀ {ks : List KeyT} {ds : List PyData}, (ks.all txK) = true → (∀ t ∈ PyData.shownAll ds, okS t = true) → ∀ t ∈ PyData.shownKv ((ks.map keyPD).zip ds), okS t = true
  | [], ds, _, _, t, ht => by simp only [List.map_nil, List.zip_nil_left, PyData.shownKv] at ht; cases ht
  | k :: ks, [], _, _, t, ht => by simp only [List.zip_nil_right, PyData.shownKv] at ht; cases ht
  | k :: ks, d :: ds, hk, hd, t, ht => by
    rw [List.all_cons, Bool.and_eq_true] at hk
    simp only [List.map_cons, List.zip_cons_cons, PyData.shownKv] at ht
    simp only [PyData.shownAll] at hd
    rcases List.mem_cons.mp ht with rfl | ht
    · exact okS_app (okS_app (okS_key hk.1) (okS_str _)) (hd _ List.mem_cons_self)
    · exact okS_kv hk.2 (fun t ht => hd t (List.mem_cons_of_mem _ ht)) t ht
mutual
theorem shown_ok : ∀ {x : Val} {d : PyData}, pdV x = some d → txV x = true → okS d.shown = true
  | .non, d, h, _ => by
    simp only [pdV, Option.some.injEq] at h
    subst h
    simp only [PyData.shown]
    exact okS_str _
  | .bl b, d, h, _ => by
    simp only [pdV, Option.some.injEq] at h
    subst h
    simp only [PyData.shown]
    cases b <;> exact okS_str _
  | .int i, d, h, _ => by
    simp only [pdV, Option.some.injEq] at h
    subst h
    simp only [PyData.shown]
    exact okS_str _
  | .str s, d, h, g => by
    simp only [pdV, Option.some.injEq] at h
    subst h
    simp only [PyData.shown]
    simpa only [txV] using g
  | .tup vs, d, h, g => by
    simp only [pdV] at h
    cases h1 : pdL vs with
    | none => rw [h1] at h; cases h
    | some ds =>
      rw [h1] at h
      simp only [Option.map_some, Option.some.injEq] at h
      subst h
      simp only [PyData.shown]
      exact okS_tup (shownL_ok h1 (by simpa only [txV] using g))
  | .lst o vs, d, h, g => by
    simp only [pdV] at h
    cases h1 : pdL vs with
    | none => rw [h1] at h; cases h
    | some ds =>
      rw [h1] at h
      simp only [Option.map_some, Option.some.injEq] at h
      subst h
      simp only [PyData.shown]
      exact okS_list (shownL_ok h1 (by simpa only [txV] using g))
  | .dic o ks vs, d, h, g => by
    simp only [pdV] at h
    split at h
    · cases h1 : pdL vs with
      | none => rw [h1] at h; cases h
      | some ds =>
        rw [h1] at h
        simp only [Option.map_some, Option.some.injEq] at h
        subst h
        simp only [txV, Bool.and_eq_true] at g
        simp only [PyData.shown]
        exact okS_dic (okS_kv g.1 (shownL_ok h1 g.2))
    · cases h
  | .ins _ _ _ _, d, h, _ => by simp only [pdV] at h; cases h
  | .fn _, d, h, _ => by simp only [pdV] at h; cases h
  | .ty _, d, h, _ => by simp only [pdV] at h; cases h
theorem shownL_ok : ∀ {xs : List Val} {ds : List PyData}, pdL xs = some ds → txL xs = true → ∀ t ∈ PyData.shownAll ds, okS t = true
  | [], ds, h, _, t, ht => by
    simp only [pdL, Option.some.injEq] at h
    subst h
    simp only [PyData.shownAll] at ht
    cases ht
  | x :: xs, ds, h, g, t, ht => by
    simp only [pdL] at h
    cases h1 : pdV x with
    | none => rw [h1] at h; cases h
    | some d =>
      rw [h1] at h
      cases h2 : pdL xs with
      | none => rw [h2] at h; cases h
      | some ds' =>
        rw [h2] at h
        simp only [Option.bind_some, Option.map_some, Option.some.injEq] at h
        subst h
        simp only [txL, Bool.and_eq_true] at g
        simp only [PyData.shownAll] at ht
        rcases List.mem_cons.mp ht with rfl | ht
        · exact shown_ok h1 g.1
        · exact shownL_ok h2 g.2 t ht
end
theorem isFzL_of {xs : List Val} (h : ∀ x ∈ xs, isFz x = true) : isFzL xs = true := by
  induction xs with
  | nil => rfl
  | cons x xs ih => rw [isFzL, h x List.mem_cons_self, ih fun y hy => h y (List.mem_cons_of_mem _ hy)]; rfl
theorem isFzL_take {xs : List Val} (n : Nat) (h : isFzL xs = true) : isFzL (xs.take n) = true := isFzL_of fun x hx => isFzL_is h x (List.mem_of_mem_take hx)
theorem isFzL_drop {xs : List Val} (n : Nat) (h : isFzL xs = true) : isFzL (xs.drop n) = true := isFzL_of fun x hx => isFzL_is h x (List.mem_of_mem_drop hx)
theorem isFzL_app {xs ys : List Val} (h : isFzL xs = true) (g : isFzL ys = true) : isFzL (xs ++ ys) = true := isFzL_of fun x hx => by
  rcases List.mem_append.mp hx with hx | hx
  · exact isFzL_is h x hx
  · exact isFzL_is g x hx

/-! ### things that have a text -/
structure Gd (n d : Nat) (v : Val) : Prop where
  pd : (pdV v).isSome = true
  sz : szV v ≤ n
  dp : dpV v ≤ d
  z : isFz v = true
  tx : txV v = true
def GdL (n d : Nat) (xs : List Val) : Prop := ∀ x ∈ xs, Gd n d x
theorem Gd.up {n d n' d' : Nat} {v : Val} (g : Gd n d v) (h : n ≤ n') (h2 : d ≤ d') : Gd n' d' v := ⟨g.pd, Nat.le_trans g.sz h, Nat.le_trans g.dp h2, g.z, g.tx⟩
theorem GdL.up {n d n' d' : Nat} {xs : List Val} (g : GdL n d xs) (h : n ≤ n') (h2 : d ≤ d') : GdL n' d' xs := fun x hx => (g x hx).up h h2
theorem GdL.nil {n d : Nat} : GdL n d [] := fun x hx => by cases hx
theorem GdL.cons {n d : Nat} {x : Val} {xs : List Val} (g : Gd n d x) (h : GdL n d xs) : GdL n d (x :: xs) := fun y hy => by
  rcases List.mem_cons.mp hy with rfl | hy
  · exact g
  · exact h y hy
theorem GdL.app {n d : Nat} {xs ys : List Val} (g : GdL n d xs) (h : GdL n d ys) : GdL n d (xs ++ ys) := fun y hy => by
  rcases List.mem_append.mp hy with hy | hy
  · exact g y hy
  · exact h y hy
theorem GdL.sub {n d : Nat} {xs ys : List Val} (g : GdL n d xs) (h : ∀ y ∈ ys, y ∈ xs) : GdL n d ys := fun y hy => g y (h y hy)
theorem GdL.fz {n d : Nat} : ∀ {xs : List Val}, GdL n d xs → isFzL xs = true
  | [], _ => rfl
  | x :: xs, g => by
    rw [isFzL, (g x List.mem_cons_self).z, GdL.fz fun y hy => g y (List.mem_cons_of_mem _ hy)]
    rfl
theorem GdL.pd {n d : Nat} : ∀ {xs : List Val}, GdL n d xs → (pdL xs).isSome = true
  | [], _ => rfl
  | x :: xs, g => by
    obtain ⟨a, ha⟩ := Option.isSome_iff_exists.mp (g x List.mem_cons_self).pd
    obtain ⟨b, hb⟩ := Option.isSome_iff_exists.mp (GdL.pd fun y hy => g y (List.mem_cons_of_mem _ hy))
    rw [pdL, ha, hb]
    rfl
theorem GdL.tx {n d : Nat} : ∀ {xs : List Val}, GdL n d xs → txL xs = true
  | [], _ => rfl
  | x :: xs, g => by
    rw [txL, (g x List.mem_cons_self).tx, GdL.tx fun y hy => g y (List.mem_cons_of_mem _ hy)]
    rfl
theorem GdL.sz {n d : Nat} : ∀ {xs : List Val}, GdL n d xs → szL xs ≤ (n + 2) * xs.length
  | [], _ => by simp [szL]
  | x :: xs, g => by
    have h1 := (g x List.mem_cons_self).sz
    have h2 := GdL.sz fun y hy => g y (List.mem_cons_of_mem _ hy)
    rw [szL, List.length_cons, Nat.mul_succ]
    omega
theorem GdL.dp {n d : Nat} : ∀ {xs : List Val}, GdL n d xs → dpL xs ≤ d
  | [], _ => by simp [dpL]
  | x :: xs, g => by
    have h1 := (g x List.mem_cons_self).dp
    have h2 := GdL.dp fun y hy => g y (List.mem_cons_of_mem _ hy)
    rw [dpL]
    omega
theorem Gd.tup {n d m N : Nat} {xs : List Val} (g : GdL n d xs) (h : xs.length ≤ m) (hN : (n + 2) * m + 3 ≤ N) : Gd N (d + 1) (.tup xs) := by
  obtain ⟨a, ha⟩ := Option.isSome_iff_exists.mp g.pd
  have h1 := g.sz
  have h2 := Nat.mul_le_mul_left (n + 2) h
  refine ⟨by rw [pdV, ha]; rfl, by rw [szV]; omega, by rw [dpV]; have := g.dp; omega, by rw [isFz]; exact g.fz, by rw [txV]; exact g.tx⟩
theorem Gd.lst {n d m N : Nat} {xs : List Val} (g : GdL n d xs) (h : xs.length ≤ m) (hN : (n + 2) * m + 3 ≤ N) : Gd N (d + 1) (.lst false xs) := by
  obtain ⟨a, ha⟩ := Option.isSome_iff_exists.mp g.pd
  have h1 := g.sz
  have h2 := Nat.mul_le_mul_left (n + 2) h
  refine ⟨by rw [pdV, ha]; rfl, by rw [szV]; omega, by rw [dpV]; have := g.dp; omega, by rw [isFz, g.fz]; rfl, by rw [txV]; exact g.tx⟩
theorem Gd.dic {n d N : Nat} {v : Val} (g : Gd n d v) (hN : n + 22 ≤ N) : Gd N (d + 1) (.dic false [.inl 0] [v]) := by
  obtain ⟨a, ha⟩ := Option.isSome_iff_exists.mp g.pd
  have h1 := g.sz
  have h2 := g.dp
  refine ⟨by simp [pdV, pdL, ha], ?_, ?_, ?_, by simp only [txV, txL, g.tx]; rfl⟩
  · simp only [szV, szL, keyC, intC, List.map_cons, List.map_nil, List.sum_cons, List.sum_nil]
    simp
    omega
  · simp only [dpV, dpL]
    omega
  · simp only [isFz, isFzL, g.z]
    rfl
theorem Gd.lit {v : Val} {n d : Nat} (h : ((pdV v).isSome && decide (szV v ≤ n) && decide (dpV v ≤ d) && isFz v && txV v) = true) : Gd n d v := by
  simp only [Bool.and_eq_true, decide_eq_true_eq] at h
  exact ⟨h.1.1.1.1, h.1.1.1.2, h.1.1.2, h.1.2, h.2⟩
theorem Gd.int {i : Int} (h : i.natAbs < 10 ^ 12) : Gd 13 0 (.int i) := ⟨rfl, by simp [szV, intC, h], by simp [dpV], rfl, rfl⟩
theorem pd_kd {v : Val} (h : (pdV v).isSome = true) : kd v = true := by
  cases v <;> first | rfl | (simp [pdV] at h; done)
theorem pdL_el : ∀ {xs : List Val}, (pdL xs).isSome = true → ∀ x ∈ xs, (pdV x).isSome = true
  | [], _, x, hx => by cases hx
  | y :: ys, h, x, hx => by
    rw [pdL] at h
    cases h1 : pdV y with
    | none => rw [h1] at h; cases h
    | some a =>
      rw [h1] at h
      cases h2 : pdL ys with
      | none => rw [h2] at h; cases h
      | some b =>
        rcases List.mem_cons.mp hx with rfl | hx
        · rw [h1]; rfl
        · exact pdL_el (by rw [h2]; rfl) x hx
theorem pdT_el {xs : List Val} (h : (pdV (.tup xs)).isSome = true) : ∀ x ∈ xs, (pdV x).isSome = true := pdL_el (by
  rw [pdV] at h
  cases h1 : pdL xs with
  | none => rw [h1] at h; cases h
  | some a => rfl)
theorem th1_of {v : Val} (h : (pdV v).isSome = true) (z : isFz v = true) : Th1 v := ⟨pd_kd h, fz_of z, fun xs e y hy => by
  subst e
  exact ⟨pd_kd (pdT_el h y hy), isFz_el (by simpa only [isFz] using z) y hy⟩⟩
theorem Gd.th1 {n d : Nat} {v : Val} (g : Gd n d v) : Th1 v := th1_of g.pd g.z
theorem Gd.repr {n d : Nat} {v : Val} (g : Gd n d v) (h : n ≤ 100000) (h2 : d ≤ 100) : ∃ s : Str, reprV [v] = some (.str s) ∧ okS s = true := by
  obtain ⟨a, ha⟩ := Option.isSome_iff_exists.mp g.pd
  refine ⟨a.shown, ?_, shown_ok ha g.tx⟩
  show ((pdV v).bind fun d => if decide (szV v ≤ 100000) && decide (dpV v ≤ 100) then some (Val.str d.shown) else none) = _
  have h3 := g.sz
  have h4 := g.dp
  rw [ha, decide_eq_true (show szV v ≤ 100000 by omega), decide_eq_true (show dpV v ≤ 100 by omega)]
  rfl
theorem cut_any {α : Type} (xs : List α) (j : Nat) : cut xs (some (j : Int)) none = xs.drop j := by
  by_cases h : j ≤ xs.length
  · exact cut_lo xs j h
  · have hb : bnd xs.length 0 (some (j : Int)) = min j xs.length := by
      show (if (j : Int) < 0 then ((j : Int) + (xs.length : Int)).toNat else min (j : Int).toNat xs.length) = _
      rw [if_neg (by omega), Int.toNat_natCast]
    unfold cut
    rw [hb, Nat.min_eq_right (by omega), List.drop_eq_nil_of_le (Nat.le_refl _), List.drop_eq_nil_of_le (by omega)]
    simp
theorem slT_any {xs : List Val} {j : Nat} (h : isFzL xs = true) : slV true false [.tup xs, .int (j : Int)] = some (.tup (xs.drop j)) := by
  show (if isFzL xs then some (Val.tup (cut xs (some (j : Int)) none)) else none) = _
  rw [h, cut_any]
  rfl
theorem mem_take {n : Nat} {xs : List Val} {j : Nat} {d : Nat} (g : GdL n d xs) : GdL n d (xs.take j) := g.sub fun _ h => List.mem_of_mem_take h
theorem mem_drop {n : Nat} {xs : List Val} {j : Nat} {d : Nat} (g : GdL n d xs) : GdL n d (xs.drop j) := g.sub fun _ h => List.mem_of_mem_drop h
theorem xDic1 {kk : KeyT} {i : Nat} {e : En} {x : Val} (h : slot e i = some x) (hz : fz x = x) : cDic1 kk (cN i) e = .ok (.val (.dic true [kk] [x])) e := by
  have hs := slot_get h
  unfold cDic1
  rw [cN_ok h]
  show (match OV.takeF (.pk i) e with
    | some (y, e2) => Res.ok (OV.val (.dic true [kk] [y])) e2
    | none => .bad) = _
  simp only [OV.takeF, h, Option.map_some, hz]
  rw [set_slot h]
theorem fz_dic1 {kk : KeyT} {x : Val} (hz : fz x = x) : fz (.dic true [kk] [x]) = .dic false [kk] [x] := by simp only [fz, fzL, hz]
theorem fz_lst1 {x : Val} (hz : fz x = x) : fz (.lst true [x]) = .lst false [x] := by simp only [fz, fzL, hz]
theorem fz_tup1 {x : Val} (hz : fz x = x) : fz (.tup [x]) = .tup [x] := by simp only [fz, fzL, hz]

end VI
set_option Elab.async false
set_option linter.all false
set_option maxRecDepth 100000
set_option maxHeartbeats 4000000
namespace LK
open PySem PySem.Spec PyProof.Rows L2 LamX VI
def top (i : Nat) : Stmt := PySem.Challenge.pw_lendalong_k55_whole_cars_park.main.body.getD i (.Pass ⟨0, 0, 0, 0⟩)
abbrev s_0 : Stmt := top 1
abbrev s_1 : Stmt := top 2
abbrev s_2 : Stmt := top 8
abbrev s_3 : Stmt := top 9
abbrev s_4 : Stmt := top 10
abbrev s_5 : Stmt := top 11
abbrev s_6 : Stmt := top 12
abbrev s_7 : Stmt := top 13
abbrev s_8 : Stmt := top 14
abbrev s_9 : Stmt := top 15
abbrev s_10 : Stmt := top 16
abbrev s_11 : Stmt := top 17
abbrev s_12 : Stmt := top 18
abbrev s_13 : Stmt := top 20
abbrev s_14 : Stmt := top 21
abbrev s_15 : Stmt := top 22
abbrev s_16 : Stmt := top 23
abbrev s_17 : Stmt := top 24
abbrev s_18 : Stmt := top 25
abbrev s_19 : Stmt := top 26
abbrev s_20 : Stmt := top 27
abbrev s_21 : Stmt := top 28
abbrev s_22 : Stmt := top 29
abbrev s_23 : Stmt := top 30
abbrev s_24 : Stmt := top 31
abbrev s_25 : Stmt := top 32
abbrev s_26 : Stmt := top 33
abbrev s_27 : Stmt := top 34
def subC (a b : Nat) : Bool := [(0, 0), (1, 0), (1, 1)].contains (a, b)
def hier : Hier := ⟨0, subC⟩
def exm_DueError : Nat → Option Bool := fun k => if [0, 1].contains k then some (subC k 0) else none
def l_0 (call : Call) (pins : List Nat) : List S := [(sRet pins (cAnd (c1 (isiV hier [.b "int"]) (cN 0)) (c1 notV (c1 (isiV hier [.b "bool"]) (cN 0)))))]
def b_0 (call : Call) (pins : List Nat) : S := sSeq (l_0 call pins)
def f_0 : FDef := ⟨1, 1, [], fun call => b_0 call []⟩
def l_1 (call : Call) (pins : List Nat) : List S := [(sRet pins (cAnd (cCall call 0 [.v (cN 0)]) (cCh leV leV (cN 1) (cN 0) (cN 2))))]
def b_1 (call : Call) (pins : List Nat) : S := sSeq (l_1 call pins)
def f_1 : FDef := ⟨3, 3, [], fun call => b_1 call []⟩
def l_2 (call : Call) (pins : List Nat) : List S := [(sIf (VI.tOr (tNot (tB (c1 (isiV hier [.b "tuple"]) (cN 0)))) (tNot (tB (cCh leV leV (cV (.int (1))) (cB lenV [(cN 0)]) (cV (.int (60))))))) (sSeq [(sRet pins (cV (.bl false)))]) (sSeq [])), (sRet pins (cB allV [(cLC (iSeq (cN 0)) (.n 1) VI.tYes (cCall call 1 [.v (cN 1), .v (cV (.int (0))), .v (c2 subV (cB lenV [(cN 0)]) (cV (.int (1))))]) [1])]))]
def b_2 (call : Call) (pins : List Nat) : S := sSeq (l_2 call pins)
def f_2 : FDef := ⟨1, 2, [], fun call => b_2 call []⟩
def l_3 (call : Call) (pins : List Nat) : List S := [(sIf (tNot (tB (cCall call 2 [.v (cN 0)]))) (sSeq [(sRaise0 1)]) (sSeq []))]
def b_3 (call : Call) (pins : List Nat) : S := sSeq (l_3 call pins)
def f_3 : FDef := ⟨1, 1, [], fun call => b_3 call []⟩
def l_4 (call : Call) (pins : List Nat) : List S := [(sPar pins 1 2 (cV (.dic true [] [])) (cLst [])), (sFor pins (iSeq (cN 0)) (.n 3) (sSeq [(sAsg pins (.n 4) (cN 3)), (sWh (VI.tAnd (tB (c2 ltV (cN 4) (cB lenV [(cN 0)]))) (tB (c2 inDV (cN 4) (cN 1)))) (sSeq [(sAsg pins (.n 4) (c2 addV (cN 4) (cV (.int (1)))))])), (sIf (tB (c2 ltV (cN 4) (cB lenV [(cN 0)]))) (sSeq [(sSetD 1 (cN 4) (cV (.bl true))), (sApp 2 (cN 4))]) (sSeq [(sApp 2 (cV .non))]))])), (sRet pins (cN 2))]
def b_4 (call : Call) (pins : List Nat) : S := sSeq (l_4 call pins)
def f_4 : FDef := ⟨1, 5, [], fun call => b_4 call []⟩
def l_5 (call : Call) (pins : List Nat) : List S := [(sExp (cCall call 3 [.v (cN 0)])), (sRet pins (cB tupleG [(cCall call 4 [.v (cN 0)])]))]
def b_5 (call : Call) (pins : List Nat) : S := sSeq (l_5 call pins)
def f_5 : FDef := ⟨1, 1, [], fun call => b_5 call []⟩
def l_6 (call : Call) (pins : List Nat) : List S := [(sRet pins (cB allV [(cLC (iRng [(cB lenV [(cN 0)])]) (.n 1) VI.tYes (c2 geV (cB lenV [(cLC (iSeq (cN 0)) (.n 2) (tB (c2 leV (cN 2) (cN 1))) (cN 2) [2])]) (c2 addV (cN 1) (cV (.int (1))))) [1])]))]
def b_6 (call : Call) (pins : List Nat) : S := sSeq (l_6 call pins)
def f_6 : FDef := ⟨1, 3, [], fun call => b_6 call []⟩
def l_7 (call : Call) (pins : List Nat) : List S := [(sRet pins (cAnd (cCall call 2 [.v (cN 0)]) (cCall call 6 [.v (cN 0)])))]
def b_7 (call : Call) (pins : List Nat) : S := sSeq (l_7 call pins)
def f_7 : FDef := ⟨1, 1, [], fun call => b_7 call []⟩
def l_8 (call : Call) (pins : List Nat) : List S := [(sIf (tNot (tB (cCall call 7 [.v (cN 0)]))) (sSeq [(sRaise0 1)]) (sSeq []))]
def b_8 (call : Call) (pins : List Nat) : S := sSeq (l_8 call pins)
def f_8 : FDef := ⟨1, 1, [], fun call => b_8 call []⟩
def l_9 (call : Call) (pins : List Nat) : List S := [(sExp (cCall call 3 [.v (cN 0)])), (sFor pins (iRng [(cB lenV [(cN 0)])]) (.n 1) (sSeq [(sIf (tB (c2 ltV (cB lenV [(cLC (iSeq (cN 0)) (.n 2) (tB (c2 leV (cN 2) (cN 1))) (cN 2) [2])]) (c2 addV (cN 1) (cV (.int (1)))))) (sSeq [(sRet pins (cN 1))]) (sSeq []))])), (sRet pins (cV .non))]
def b_9 (call : Call) (pins : List Nat) : S := sSeq (l_9 call pins)
def f_9 : FDef := ⟨1, 3, [], fun call => b_9 call []⟩
def l_10 (call : Call) (pins : List Nat) : List S := [(sExp (cCall call 8 [.v (cN 0)])), (sRet pins (cB sumGV [(cLC (iZip (cCall call 4 [.v (cN 0)]) (cN 0)) (.t [(.n 1), (.n 2)]) VI.tYes (c2 subV (cN 1) (cN 2)) [1, 2])]))]
def b_10 (call : Call) (pins : List Nat) : S := sSeq (l_10 call pins)
def f_10 : FDef := ⟨1, 3, [], fun call => b_10 call []⟩
def l_11 (call : Call) (pins : List Nat) : List S := [(sExp (cCall call 3 [.v (cN 0)])), (sRet pins (cB tupleG [(cLC (iEnu (cCall call 4 [.v (cN 0)])) (.t [(.n 1), (.n 2)]) (tB (c2 eqD (cN 2) (c2 subsV (cN 0) (cN 1)))) (cN 1) [1, 2])]))]
def b_11 (call : Call) (pins : List Nat) : S := sSeq (l_11 call pins)
def f_11 : FDef := ⟨1, 3, [], fun call => b_11 call []⟩
def l_12 (call : Call) (pins : List Nat) : List S := [(sExp (cCall call 3 [.v (cN 0)])), (sRet pins (cB tupleG [(cB sortedG [(cN 0)])]))]
def b_12 (call : Call) (pins : List Nat) : S := sSeq (l_12 call pins)
def f_12 : FDef := ⟨1, 1, [], fun call => b_12 call []⟩
def l_13 (call : Call) (pins : List Nat) : List S := [(sAsg pins (.n 1) (cLC (iSeq (cB (slV false true) [(cN 0), (cV (.int (63)))])) (.n 2) VI.tYes (cB absV' [(cB intV [(cN 2)])]) [2])), (sRet pins (cLst [(cN 1), (cV (.int (0))), (cV (.int (0))), (c2 addV (cV (.int (67))) (c2 mulW (cV (.int (5))) (cB lenV [(cN 1)]))), (cV (.int (0)))]))]
def b_13 (call : Call) (pins : List Nat) : S := sSeq (l_13 call pins)
def f_13 : FDef := ⟨1, 3, [], fun call => b_13 call []⟩
def l_14 (call : Call) (pins : List Nat) : List S := [(sIf (VI.tAnd (tB (c2 eqD (c2 subsV (cN 0) (cV (.int (2)))) (cV (.int (0))))) (tB (c2 ltV (c2 subsV (cN 0) (cV (.int (1)))) (cB lenV [(c2 subsV (cN 0) (cV (.int (0))))])))) (sSeq [(sAsg pins (.n 2) (c2 subsV (c2 subsV (cN 0) (cV (.int (0)))) (c2 subsV (cN 0) (cV (.int (1)))))), (sSetI 0 (cV (.int (1))) (c2 addV (c2 subsV (cN 0) (cV (.int (1)))) (cV (.int (1))))), (sSetI 0 (cV (.int (3))) (c2 modV (cB intV [(c2 addV (c2 addV (c2 mulW (c2 subsV (cN 0) (cV (.int (3)))) (cV (.int (69621)))) (c2 mulW (cN 2) (cV (.int (40692))))) (cV (.int (37))))]) (cV (.int (2147483629))))), (sIf (tB (c2 geV (cN 2) (c2 powV (cV (.int (10))) (cV (.int (18)))))) (sSeq [(sSetI 0 (cV (.int (2))) (cN 2))]) (sSeq []))]) (sSeq [])), (sIf (tB (c2 gtV (c2 subsV (cN 0) (cV (.int (2)))) (cV (.int (0))))) (sSeq [(sAsg pins (.n 3) (c2 modV (cB intV [(c2 subsV (cN 0) (cV (.int (2))))]) (cN 1))), (sSetI 0 (cV (.int (2))) (c2 fdivV (c2 subsV (cN 0) (cV (.int (2)))) (cN 1))), (sRet pins (cN 3))]) (sSeq [])), (sSetI 0 (cV (.int (4))) (c2 addV (c2 subsV (cN 0) (cV (.int (4)))) (cV (.int (1))))), (sAsg pins (.n 4) (c2 modV (cB intV [(c2 mulW (cB intV [(c2 addV (c2 subsV (cN 0) (cV (.int (3)))) (c2 mulW (cV (.int (7919))) (c2 subsV (cN 0) (cV (.int (4))))))]) (cV (.int (48271))))]) (cV (.int (2147483647))))), (sAsg pins (.n 4) (c2 modV (cB intV [(c2 mulW (cN 4) (c2 addV (c2 fdivV (cN 4) (cV (.int (1009)))) (cV (.int (69621)))))]) (cV (.int (2147483647))))), (sAsg pins (.n 4) (c2 modV (cB intV [(c2 mulW (cN 4) (c2 addV (c2 fdivV (cN 4) (cV (.int (2003)))) (cV (.int (40014)))))]) (cV (.int (2147483563))))), (sRet pins (c2 modV (cB intV [(c2 fdivV (cN 4) (cV (.int (16))))]) (cN 1)))]
def b_14 (call : Call) (pins : List Nat) : S := sSeq (l_14 call pins)
def f_14 : FDef := ⟨2, 5, [0], fun call => b_14 call [0]⟩
def l_15 (call : Call) (pins : List Nat) : List S := [(sRet pins (c2 subsV (cN 1) (cCall call 14 [.r 0, .v (cB lenV [(cN 1)])])))]
def b_15 (call : Call) (pins : List Nat) : S := sSeq (l_15 call pins)
def f_15 : FDef := ⟨2, 2, [0], fun call => b_15 call [0]⟩
def l_16 (call : Call) (pins : List Nat) : List S := [(sPar pins 2 3 (cB listV [(cN 1)]) (cLst [])), (sWh (tB (c2 gtV (cB lenV [(cN 2)]) (cV (.int (0))))) (sSeq [(sApp 3 (cPopAt 2 (cCall call 14 [.r 0, .v (cB lenV [(cN 2)])])))])), (sRet pins (cN 3))]
def b_16 (call : Call) (pins : List Nat) : S := sSeq (l_16 call pins)
def f_16 : FDef := ⟨2, 4, [0], fun call => b_16 call [0]⟩
def l_17 (call : Call) (pins : List Nat) : List S := [(sIf (tB (c1 (isiV hier [.b "tuple", .b "list"]) (cN 1))) (sSeq [(sIf (VI.tOr (tB (c2 neD (c1 (isiV hier [.b "tuple"]) (cN 0)) (c1 (isiV hier [.b "tuple"]) (cN 1)))) (tNot (tB (c1 (isiV hier [.b "tuple", .b "list"]) (cN 0))))) (sSeq [(sRet pins (cV (.bl false)))]) (sSeq [])), (sRet pins (cAnd (c2 eqD (cB lenV [(cN 0)]) (cB lenV [(cN 1)])) (cB allV [(cLC (iZip (cN 0) (cN 1)) (.t [(.n 2), (.n 3)]) VI.tYes (cCall call 17 [.v (cN 2), .v (cN 3)]) [2, 3])])))]) (sSeq [])), (sIf (VI.tOr (tB (c1 (isiV hier [.b "bool"]) (cN 1))) (VI.tOr (tB (c1 (isiV hier [.b "bool"]) (cN 0))) (VI.tOr (tB (c2 isV (cN 1) (cV .non))) (tB (c2 isV (cN 0) (cV .non)))))) (sSeq [(sRet pins (cAnd (c2 eqD (c1 (isiV hier [.b "bool"]) (cN 0)) (c1 (isiV hier [.b "bool"]) (cN 1))) (cAnd (c2 eqD (c2 isV (cN 0) (cV .non)) (c2 isV (cN 1) (cV .non))) (c2 eqD (cN 0) (cN 1)))))]) (sSeq [])), (sRet pins (cAnd (c2 eqD (c1 (isiV hier [.b "str"]) (cN 0)) (c1 (isiV hier [.b "str"]) (cN 1))) (cAnd (c1 (isiV hier [.b "int", .b "str"]) (cN 0)) (c2 eqD (cN 0) (cN 1)))))]
def b_17 (call : Call) (pins : List Nat) : S := sSeq (l_17 call pins)
def f_17 : FDef := ⟨2, 4, [], fun call => b_17 call []⟩
def l_18 (call : Call) (pins : List Nat) : List S := [(sAsg pins (.n 2) (cCall call 14 [.r 0, .v (cV (.int (7)))])), (sIf (tB (c2 ltV (cN 2) (cV (.int (4))))) (sSeq [(sAsg pins (.n 4) (cCall call 16 [.r 0, .v (cLC (iRng [(cN 1)]) (.n 3) VI.tYes (cCall call 14 [.r 0, .v (c2 addV (cN 3) (cV (.int (1))))]) [3])])), (sIf (tB (c2 eqD (cN 2) (cV (.int (3))))) (sSeq [(sAsg pins (.n 3) (cCall call 14 [.r 0, .v (cN 1)])), (sSetI 4 (cN 3) (cB min2V [(c2 subV (cN 1) (cV (.int (1)))), (c2 addV (c2 addV (c2 subsV (cN 4) (cN 3)) (cV (.int (1)))) (cCall call 14 [.r 0, .v (cV (.int (3)))]))]))]) (sSeq [])), (sRet pins (cB tupleG [(cN 4)]))]) (sSeq [])), (sIf (tB (c2 eqD (cN 2) (cV (.int (4))))) (sSeq [(sRet pins (c2 mulW (cTup [(cCall call 14 [.r 0, .v (cN 1)])]) (cN 1)))]) (sSeq [])), (sIf (tB (c2 eqD (cN 2) (cV (.int (5))))) (sSeq [(sRet pins (c1 revV (c1 (fun x => rngList false [x]) (cN 1))))]) (sSeq [])), (sRet pins (cB tupleG [(cLC (iRng [(cN 1)]) (.n 3) VI.tYes (cCall call 14 [.r 0, .v (cN 1)]) [3])]))]
def b_18 (call : Call) (pins : List Nat) : S := sSeq (l_18 call pins)
def f_18 : FDef := ⟨2, 5, [0], fun call => b_18 call [0]⟩
def l_19 (call : Call) (pins : List Nat) : List S := [(sPar pins 1 2 (cV (.dic true [] [])) (cLst [])), (sFor pins (iSeq (cN 0)) (.n 3) (sSeq [(sAsg pins (.n 4) (cN 3)), (sWh (tB (c2 inDV (cN 4) (cN 1))) (sSeq [(sAsg pins (.n 4) (c2 addV (cN 4) (cV (.int (1)))))])), (sApp 2 (cIf (tB (c2 ltV (cN 4) (cB lenV [(cN 0)]))) (cN 4) (cV .non))), (sIf (tB (c2 ltV (cN 4) (cB lenV [(cN 0)]))) (sSeq [(sSetD 1 (cN 4) (cV (.bl true)))]) (sSeq []))])), (sRet pins (cB tupleG [(cN 2)]))]
def b_19 (call : Call) (pins : List Nat) : S := sSeq (l_19 call pins)
def f_19 : FDef := ⟨1, 5, [], fun call => b_19 call []⟩
def l_20 (call : Call) (pins : List Nat) : List S := [(sFor pins (iRng [(cB lenV [(cN 0)])]) (.n 1) (sSeq [(sIf (tB (c2 leV (cB lenV [(cLC (iSeq (cN 0)) (.n 2) (tB (c2 leV (cN 2) (cN 1))) (cN 2) [2])]) (cN 1))) (sSeq [(sRet pins (cN 1))]) (sSeq []))])), (sRet pins (cV .non))]
def b_20 (call : Call) (pins : List Nat) : S := sSeq (l_20 call pins)
def f_20 : FDef := ⟨1, 3, [], fun call => b_20 call []⟩
def l_21 (call : Call) (pins : List Nat) : List S := [(sIf (VI.tOr (tNot (tB (c1 (isiV hier [.b "tuple"]) (cN 0)))) (tNot (tB (cCh leV leV (cV (.int (1))) (cB lenV [(cN 0)]) (cV (.int (60))))))) (sSeq [(sRet pins (cV (.bl false)))]) (sSeq [])), (sIf (tNot (tB (cB allV [(cLC (iSeq (cN 0)) (.n 1) VI.tYes (cAnd (c1 (isiV hier [.b "int"]) (cN 1)) (c1 notV (c1 (isiV hier [.b "bool"]) (cN 1)))) [1])]))) (sSeq [(sRet pins (cV (.bl false)))]) (sSeq [])), (sRet pins (cB allV [(cLC (iSeq (cN 0)) (.n 1) VI.tYes (cCh leV ltV (cV (.int (0))) (cN 1) (cB lenV [(cN 0)])) [1])]))]
def b_21 (call : Call) (pins : List Nat) : S := sSeq (l_21 call pins)
def f_21 : FDef := ⟨1, 2, [], fun call => b_21 call []⟩
def b_22 (call : Call) (pins : List Nat) (act : C) : S := (sSeq [(sTryAs pins 1 (sSeq [(sExp act)]) exm_DueError (fun kx => (sSeq [(sRet (1 :: pins) (cAnd (cV (.bl (subC kx 1))) (cV (.bl true))))]))), (sRet pins (cV (.bl false)))])
def h_22 (call : Call) : HDef := ⟨2, b_22 call⟩
def l_23 (call : Call) (pins : List Nat) : List S := [(sAsg pins (.n 1) (cCall call 15 [.r 0, .v (cLst [(cV .non), (c1 negV (cV (.int (1)))), (cV (.str (Str.ofString "p"))), (cV (.bl true))])])), (sFor pins (iRng [(c2 addV (cV (.int (1))) (cCall call 14 [.r 0, .v (cV (.int (28)))]))]) (.n 2) (sSeq [(sAsg pins (.n 1) (c2 subsV (cLst [(cTup [(cN 1)]), (cLst [(cN 1)]), (cDic1 (.inl (0)) (cN 1))]) (cCall call 14 [.r 0, .v (cV (.int (3)))])))])), (sRet pins (cN 1))]
def b_23 (call : Call) (pins : List Nat) : S := sSeq (l_23 call pins)
def f_23 : FDef := ⟨1, 3, [0], fun call => b_23 call [0]⟩
def l_24 (call : Call) (pins : List Nat) : List S := [(sPar pins 2 3 (cCall call 14 [.r 0, .v (cB lenV [(cN 1)])]) (cB lenV [(cN 1)])), (sAsg pins (.n 4) (cCall call 15 [.r 0, .v (cLst [(cN 3), (c1 negV (cV (.int (1)))), (cV (.bl true)), (cV (.bl false)), (cV .non), (cV (.str (Str.ofString "0"))), (cTup [(cV (.int (0)))]), (cLst [(cV (.int (0)))]), (cV (.dic true [] [])), (c2 powV (cV (.int (10))) (cV (.int (20)))), (cCall call 14 [.r 0, .v (cN 3)])])])), (sAsg pins (.n 5) (c2 addV (c2 addV (cB (slV false true) [(cN 1), (cN 2)]) (cTup [(cN 4)])) (cB (slV true false) [(cN 1), (c2 addV (cN 2) (cV (.int (1))))]))), (sAsg pins (.n 6) (cLst [(cN 5), (cN 5), (cN 5), (cN 5), (cB listV [(cN 1)]), (cTup []), (cV .non), (cV (.int (0))), (cV (.str (Str.ofString ""))), (cV (.dic true [] [])), (cTup [(cN 1)]), (cLst []), (c2 mulW (cTup [(cV (.int (0)))]) (cV (.int (61)))), (c2 addV (cN 1) (cTup [(c2 addV (cN 3) (cV (.int (1))))]))])), (sRet pins (cCall call 15 [.r 0, .v (c2 addV (cN 6) (cLst [(c2 addV (cB (slV false true) [(cN 1), (cN 2)]) (cB (slV true false) [(cN 1), (c2 addV (cN 2) (cV (.int (1))))])), (cCall call 23 [.r 0]), (c2 mulW (cTup [(cV (.int (0)))]) (cV (.int (60))))]))]))]
def b_24 (call : Call) (pins : List Nat) : S := sSeq (l_24 call pins)
def f_24 : FDef := ⟨2, 7, [0], fun call => b_24 call [0]⟩
def l_25 (call : Call) (pins : List Nat) : List S := [(sPar pins 2 3 (cCall call 19 [.v (cN 1)]) (cB reprV [(cN 1)])), (sAsg pins (.n 4) (c2 notInG (cV .non) (cN 2))), (sAsg pins (.n 5) (cLst [(cCall call 5 [.v (cN 1)]), (cCall call 7 [.v (cN 1)]), (cCall call 9 [.v (cN 1)]), (cCall call 12 [.v (cN 1)]), (cCall call 2 [.v (cN 1)])])), (sIf (tNot (tB (cCall call 17 [.v (cN 5), .v (cLst [(cN 2), (cN 4), (cCall call 20 [.v (cN 1)]), (cB tupleG [(cB sortedG [(cN 1)])]), (cV (.bl true))])]))) (sSeq [(sRet pins (cV (.bl false)))]) (sSeq [])), (sIf (tB (c2 neD (c2 isV (cCall call 9 [.v (cN 1)]) (cV .non)) (cN 4))) (sSeq [(sRet pins (cV (.bl false)))]) (sSeq [])), (sIf (tNot (tB (cCall call 17 [.v (cCall call 11 [.v (cN 1)]), .v (cB tupleG [(cLC (iEnu (cN 2)) (.t [(.n 8), (.n 9)]) (tB (c2 eqD (cN 9) (c2 subsV (cN 1) (cN 8)))) (cN 8) [8, 9])])]))) (sSeq [(sRet pins (cV (.bl false)))]) (sSeq [])), (sIf (tB (cN 4)) (sSeq [(sIf (tNot (tB (cCall call 17 [.v (cCall call 10 [.v (cN 1)]), .v (c2 subV (cB sumGV [(cN 2)]) (cB sumGV [(cN 1)]))]))) (sSeq [(sRet pins (cV (.bl false)))]) (sSeq []))]) (sSeq [(sIf (tNot (tB (cLam (h_22 call) (cCall call 10 [.v (cN 1)])))) (sSeq [(sRet pins (cV (.bl false)))]) (sSeq []))])), (sAsg pins (.n 6) (cB tupleG [(cCall call 16 [.r 0, .v (cB listV [(cN 1)])])])), (sAsg pins (.n 7) (cCall call 5 [.v (cN 6)])), (sIf (tB (c2 neD (cB sortedG [(cLC (iSeq (cN 7)) (.n 9) (tB (c2 isNotV (cN 9) (cV .non))) (cN 9) [9])]) (cB sortedG [(cLC (iSeq (cN 2)) (.n 9) (tB (c2 isNotV (cN 9) (cV .non))) (cN 9) [9])]))) (sSeq [(sRet pins (cV (.bl false)))]) (sSeq [])), (sIf (VI.tOr (tNot (tB (cCall call 17 [.v (cCall call 7 [.v (cN 6)]), .v (cN 4)]))) (VI.tAnd (tB (cN 4)) (tB (c2 neD (cCall call 10 [.v (cN 6)]) (cCall call 10 [.v (cN 1)]))))) (sSeq [(sRet pins (cV (.bl false)))]) (sSeq [])), (sRet pins (c2 eqD (cB reprV [(cN 1)]) (cN 3)))]
def b_25 (call : Call) (pins : List Nat) : S := sSeq (l_25 call pins)
def f_25 : FDef := ⟨2, 10, [0], fun call => b_25 call [0]⟩
def l_26 (call : Call) (pins : List Nat) : List S := [(sPar pins 2 3 (cCall call 21 [.v (cN 1)]) (cB reprV [(cN 1)])), (sIf (VI.tOr (tNot (tB (cCall call 17 [.v (cCall call 2 [.v (cN 1)]), .v (cN 2)]))) (tB (c2 neD (cB reprV [(cN 1)]) (cN 3)))) (sSeq [(sRet pins (cV (.bl false)))]) (sSeq [])), (sIf (tB (cN 2)) (sSeq [(sRet pins (cCall call 25 [.r 0, .v (cN 1)]))]) (sSeq [])), (sIf (tB (c2 isNotG (cCall call 7 [.v (cN 1)]) (cV (.bl false)))) (sSeq [(sRet pins (cV (.bl false)))]) (sSeq [])), (sFor pins (iSeq (cTup [(cV (.fn 5)), (cV (.fn 9)), (cV (.fn 11)), (cV (.fn 12)), (cV (.fn 10))])) (.n 4) (sSeq [(sIf (tNot (tB (cLam (h_22 call) (cCallF call [5, 9, 11, 12, 10] 4 [.v (cN 1)])))) (sSeq [(sRet pins (cV (.bl false)))]) (sSeq []))])), (sRet pins (c2 eqD (cB reprV [(cN 1)]) (cN 3)))]
def b_26 (call : Call) (pins : List Nat) : S := sSeq (l_26 call pins)
def f_26 : FDef := ⟨2, 5, [0], fun call => b_26 call [0]⟩
def l_27 (call : Call) (pins : List Nat) : List S := [(sAsg pins (.n 1) (cCall call 13 [.v (cN 0)])), (sFor pins (iSeq (cLst [(cV (.int (1))), (c2 addV (cV (.int (2))) (cCall call 14 [.r 1, .v (cV (.int (5)))])), (c2 addV (cV (.int (1))) (cCall call 14 [.r 1, .v (cV (.int (60)))])), (cV (.int (60)))])) (.n 2) (sSeq [(sAsg pins (.n 3) (cCall call 18 [.r 1, .v (cN 2)])), (sIf (tNot (tB (cCall call 25 [.r 1, .v (cN 3)]))) (sSeq [(sRet pins (cV (.bl false)))]) (sSeq [])), (sFor pins (iRng [(cV (.int (5)))]) (.n 4) (sSeq [(sIf (tNot (tB (cCall call 26 [.r 1, .v (cCall call 24 [.r 1, .v (cN 3)])]))) (sSeq [(sRet pins (cV (.bl false)))]) (sSeq []))]))])), (sAsg pins (.n 5) (cLst [(cCall call 5 [.v (cTup [(cV (.int (1))), (cV (.int (0))), (cV (.int (0)))])]), (cCall call 5 [.v (cTup [(cV (.int (2))), (cV (.int (2))), (cV (.int (0)))])]), (cCall call 9 [.v (cTup [(cV (.int (2))), (cV (.int (2))), (cV (.int (0)))])]), (cCall call 11 [.v (cTup [(cV (.int (1))), (cV (.int (1))), (cV (.int (0)))])]), (cCall call 10 [.v (cTup [(cV (.int (0))), (cV (.int (0))), (cV (.int (0)))])])])), (sRet pins (cCall call 17 [.v (cN 5), .v (cLst [(cTup [(cV (.int (1))), (cV (.int (0))), (cV (.int (2)))]), (cTup [(cV (.int (2))), (cV .non), (cV (.int (0)))]), (cV (.int (1))), (cTup [(cV (.int (0))), (cV (.int (2)))]), (cV (.int (3)))])]))]
def b_27 (call : Call) (pins : List Nat) : S := sSeq (l_27 call pins)
def f_27 : FDef := ⟨1, 6, [], fun call => b_27 call []⟩
def Pr : Nat → Option FDef
  | 0 => some f_0
  | 1 => some f_1
  | 2 => some f_2
  | 3 => some f_3
  | 4 => some f_4
  | 5 => some f_5
  | 6 => some f_6
  | 7 => some f_7
  | 8 => some f_8
  | 9 => some f_9
  | 10 => some f_10
  | 11 => some f_11
  | 12 => some f_12
  | 13 => some f_13
  | 14 => some f_14
  | 15 => some f_15
  | 16 => some f_16
  | 17 => some f_17
  | 18 => some f_18
  | 19 => some f_19
  | 20 => some f_20
  | 21 => some f_21
  | 23 => some f_23
  | 24 => some f_24
  | 25 => some f_25
  | 26 => some f_26
  | 27 => some f_27
  | _ => none
structure GG (P : Program) (w : World) (Γ : VI.Ctx) (mg : Str → Option Value) (base : Heap) (call : Call) (k : Nat) (tb : Nat → Addr × Addr) : Prop where
  hz : Γ.fix = []
  hier : HierOk Γ hier
  c_BadCars : mg "BadCars" = some (.ref (Γ.cls 1))
  c_DueError : mg "DueError" = some (.ref (Γ.cls 0))
  d__law_any : DefAt P w Γ.K mg base k "_law_any" (spF Γ call 15)
  d__law_are_wishes : DefAt P w Γ.K mg base k "_law_are_wishes" (spF Γ call 21)
  d__law_bent : DefAt P w Γ.K mg base k "_law_bent" (spF Γ call 24)
  d__law_deep : DefAt P w Γ.K mg base k "_law_deep" (spF Γ call 23)
  d__law_draw : DefAt P w Γ.K mg base k "_law_draw" (spF Γ call 14)
  d__law_hand : DefAt P w Γ.K mg base k "_law_hand" (spF Γ call 13)
  d__law_is_judged : DefAtG P w Γ.K mg base k "_law_is_judged" (spF Γ call 26)
  d__law_is_right : DefAtG P w Γ.K mg base k "_law_is_right" (spF Γ call 25)
  d__law_mixed : DefAt P w Γ.K mg base k "_law_mixed" (spF Γ call 16)
  d__law_parked : DefAt P w Γ.K mg base k "_law_parked" (spF Γ call 19)
  d__law_same : DefAt P w Γ.K mg base k "_law_same" (spF Γ call 17)
  d__law_short : DefAt P w Γ.K mg base k "_law_short" (spF Γ call 20)
  d__law_wishes : DefAt P w Γ.K mg base k "_law_wishes" (spF Γ call 18)
  d_ascending : DefAt P w Γ.K mg base k "ascending" (spF Γ call 12)
  d_check_parking : DefAt P w Γ.K mg base k "check_parking" (spF Γ call 8)
  d_check_wishes : DefAt P w Γ.K mg base k "check_wishes" (spF Γ call 3)
  d_driven : DefAt P w Γ.K mg base k "driven" (spF Γ call 10)
  d_is_integer : DefAt P w Γ.K mg base k "is_integer" (spF Γ call 0)
  d_is_parking : DefAt P w Γ.K mg base k "is_parking" (spF Γ call 7)
  d_is_wishes : DefAt P w Γ.K mg base k "is_wishes" (spF Γ call 2)
  d_is_within : DefAt P w Γ.K mg base k "is_within" (spF Γ call 1)
  d_lucky : DefAt P w Γ.K mg base k "lucky" (spF Γ call 11)
  d_park : DefAt P w Γ.K mg base k "park" (spF Γ call 5)
  d_parked : DefAt P w Γ.K mg base k "parked" (spF Γ call 4)
  d_parks_all : DefAt P w Γ.K mg base k "parks_all" (spF Γ call 6)
  d_short_place : DefAt P w Γ.K mg base k "short_place" (spF Γ call 9)
  g_MOST_CARS : ∃ t, mg "MOST_CARS" = some (.int (60) t)
  h_DueError : ∀ k b, exm_DueError k = some b → PySem.W.exmOne Γ.K (.ref (Γ.cls k)) (.ref (Γ.cls 0)) = some b
  ie_DueError : ∀ k, exm_DueError k = some true → ExcC Γ.K (Γ.cls k)
  kq_DueError_BadCars : ∀ k, exm_DueError k = some true → PySem.W.kitOne Γ.K (.ref (Γ.cls k)) (.ref (Γ.cls 1)) = some (subC k 1)
  kt_DueError_ValueError : ∀ k, exm_DueError k = some true → PySem.W.kitOne Γ.K (.ref (Γ.cls k)) (.type "ValueError") = some true
  l__law_refused : HofAt Γ.K mg "_law_refused" "call" s_22
  n_ValueError : mg "ValueError" = none
  n_abs : mg "abs" = none
  n_all : mg "all" = none
  n_bool : mg "bool" = none
  n_enumerate : mg "enumerate" = none
  n_int : mg "int" = none
  n_isinstance : mg "isinstance" = none
  n_len : mg "len" = none
  n_list : mg "list" = none
  n_min : mg "min" = none
  n_range : mg "range" = none
  n_repr : mg "repr" = none
  n_sorted : mg "sorted" = none
  n_str : mg "str" = none
  n_sum : mg "sum" = none
  n_tuple : mg "tuple" = none
  n_zip : mg "zip" = none
  v_ascending : mg "ascending" = some (.ref (Γ.fn 12))
  v_driven : mg "driven" = some (.ref (Γ.fn 10))
  v_lucky : mg "lucky" = some (.ref (Γ.fn 11))
  v_park : mg "park" = some (.ref (Γ.fn 5))
  v_short_place : mg "short_place" = some (.ref (Γ.fn 9))
  x_BadCars : Exc0 Γ.K (Γ.cls 1)
  tab_25 : TabB base mg (tb 25).1 (tb 25).2
  mem_25 : ((tb 25).2, (("_law_is_right" : Str) ++ ".<locals>." ++ "<lambda>" : Str)) ∈ Γ.T
  uni_25 : ∀ q ∈ Γ.T, q.1 = (tb 25).2 → q.2 = (("_law_is_right" : Str) ++ ".<locals>." ++ "<lambda>" : Str)
  tab_26 : TabB base mg (tb 26).1 (tb 26).2
  mem_26 : ((tb 26).2, (("_law_is_judged" : Str) ++ ".<locals>." ++ "<lambda>" : Str)) ∈ Γ.T
  uni_26 : ∀ q ∈ Γ.T, q.1 = (tb 26).2 → q.2 = (("_law_is_judged" : Str) ++ ".<locals>." ++ "<lambda>" : Str)
def dum_25 : List Str := ["~0", "~1", "~2", "~3", "~4", "~5", "~6", "~7", "~8", "~9"]
theorem sc_22_25 : FnScope ((["call", "error"] : List Str) ++ dum_25) ["call"] (defScope s_22) := ⟨rfl, rfl, rfl, by decide +kernel, rfl, by decide +kernel, by decide +kernel⟩
def dum_26 : List Str := ["~0", "~1", "~2", "~3", "~4"]
theorem sc_22_26 : FnScope ((["call", "error"] : List Str) ++ dum_26) ["call"] (defScope s_22) := ⟨rfl, rfl, rfl, by decide +kernel, rfl, by decide +kernel, by decide +kernel⟩
theorem t_22 {P : Program} {w : World} {mg : Str → Option Value} {base : Heap} {Γ : VI.Ctx} {call : Call} {k : Nat} {tb : Nat → Addr × Addr} (G : GG P w Γ mg base call k tb) {l : List (Nat × Option (Option V))} {cd : List (Addr × Str)} {dum : List Str} (ndX : ((["call", "error"] : List Str) ++ dum).Nodup) {g : Addr} {cdv : Value} {A : Around} {stack : List Env} {s : Shared} {H : Hp} {act : C} {pins : List Nat} {m : Nat} (hm : k + 9 ≤ m) (hr : Room m (A.deeper (envOfC "_law_refused" (defScope s_22) s.heap.objs.size g cdv)))
    (hact : ∀ pn xe p1 p2, SE (Γ.withFix l cd) ((cxOf C8.CX0 P w Γ.K mg base ((["call", "error"] : List Str) ++ dum) "_law_refused" (defScope s_22) g cdv A stack s H C8.E0).tr pn xe) (.Call (.Name "call" p1) [] [] p2) act) :
    SSs (Γ.withFix l cd) pins (cxOf C8.CX0 P w Γ.K mg base ((["call", "error"] : List Str) ++ dum) "_law_refused" (defScope s_22) g cdv A stack s H C8.E0).nox (defBody s_22) (b_22 call pins act) := by
  have hKX : Γ.K = (Γ.withFix l cd).K := rfl
  exact (ss_cons (ss_tryAs (i := 1) rfl rfl ndX rfl rfl ⟨rfl, by decide, .inl G.c_DueError⟩ G.h_DueError (fun _ _ hpX => (ss_cons (ss_expr (hact _ _ _ _)) ss_nil)) (fun ea oe kx pnx hkx hzx hfx => (ss_cons (ss_ret (se_and (se_isE (Γ' := Γ) (k := kx) rfl (G.ie_DueError kx hkx) hzx hfx List.mem_cons_self (i := 1) rfl (.inl (by kernel_rfl)) rfl G.n_isinstance (pe_glob (v := .ref (Γ.cls 1)) rfl G.c_BadCars rfl) (by intro u h; cases h; rfl) (G.kq_DueError_BadCars kx hkx)) (se_one (se_isE (Γ' := Γ) (k := kx) rfl (G.ie_DueError kx hkx) hzx hfx List.mem_cons_self (i := 1) rfl (.inl (by kernel_rfl)) rfl G.n_isinstance (pe_bltn (v := .ty "ValueError") rfl G.n_ValueError (by rfl) rfl) (by intro u h; cases h; rfl) (G.kt_DueError_ValueError kx hkx))))) ss_nil))) (ss_cons (ss_ret se_bl) ss_nil))
theorem sc_0 : FnScope (["thing"] : List Str) (["thing"] : List Str) (defScope s_0) := ⟨rfl, rfl, rfl, by decide +kernel, rfl, by decide +kernel, by decide +kernel⟩
theorem t_0 {P : Program} {w : World} {mg : Str → Option Value} {base : Heap} {Γ : VI.Ctx} {call : Call} {k m : Nat} {tb : Nat → Addr × Addr} (G : GG P w Γ mg base call k tb) (hm : k + 12 ≤ m) {f : Addr} {cdv : Value} {A : Around} {outer : List Env} {s : Shared} {H : Hp} {E : XK} {pins : List Nat}
    (hr : Room m (A.deeper (envOfC "is_integer" (defScope s_0) s.heap.objs.size f cdv))) : SSs Γ pins (cxOf (L2.CX P w) P w Γ.K mg base (["thing"] : List Str) "is_integer" (defScope s_0) f cdv A outer s H E) (defBody s_0) (b_0 call pins) := by
  have ndX : ((["thing"] : List Str) : List Str).Nodup := sc_0.nd
  have hpX := passes_of (X := cxOf (L2.CX P w) P w Γ.K mg base (["thing"] : List Str) "is_integer" (defScope s_0) f cdv A outer s H E) rfl
  have hKX : Γ.K = Γ.K := rfl
  exact (ss_cons (ss_ret (se_and (se_isi G.hier hKX (q := .b "int") (show "int" ∈ tyq by decide) rfl G.n_isinstance (se_name (i := 0) rfl (.inl (by kernel_rfl))) (pe_bltn (v := .ty "int") rfl G.n_int (by rfl) rfl)) (se_one (se_not (se_isi G.hier hKX (q := .b "bool") (show "bool" ∈ tyq by decide) rfl G.n_isinstance (se_name (i := 0) rfl (.inl (by kernel_rfl))) (pe_bltn (v := .ty "bool") rfl G.n_bool (by rfl) rfl)))))) ss_nil)
theorem sc_1 : FnScope (["thing", "low", "high"] : List Str) (["thing", "low", "high"] : List Str) (defScope s_1) := ⟨rfl, rfl, rfl, by decide +kernel, rfl, by decide +kernel, by decide +kernel⟩
theorem t_1 {P : Program} {w : World} {mg : Str → Option Value} {base : Heap} {Γ : VI.Ctx} {call : Call} {k m : Nat} {tb : Nat → Addr × Addr} (G : GG P w Γ mg base call k tb) (hm : k + 12 ≤ m) {f : Addr} {cdv : Value} {A : Around} {outer : List Env} {s : Shared} {H : Hp} {E : XK} {pins : List Nat}
    (hr : Room m (A.deeper (envOfC "is_within" (defScope s_1) s.heap.objs.size f cdv))) : SSs Γ pins (cxOf (L2.CX P w) P w Γ.K mg base (["thing", "low", "high"] : List Str) "is_within" (defScope s_1) f cdv A outer s H E) (defBody s_1) (b_1 call pins) := by
  have ndX : ((["thing", "low", "high"] : List Str) : List Str).Nodup := sc_1.nd
  have hpX := passes_of (X := cxOf (L2.CX P w) P w Γ.K mg base (["thing", "low", "high"] : List Str) "is_within" (defScope s_1) f cdv A outer s H E) rfl
  have hKX : Γ.K = Γ.K := rfl
  exact (ss_cons (ss_ret (se_and (se_def G.d_is_integer (hr.mono (by omega)) rfl (sr_v (se_name (i := 0) rfl (.inl (by kernel_rfl))) sr_nil)) (se_one (se_ch op_le op_le rd_le rd_le (se_name (i := 1) rfl (.inl (by kernel_rfl))) (se_name (i := 0) rfl (.inl (by kernel_rfl))) (se_name (i := 2) rfl (.inl (by kernel_rfl))))))) ss_nil)
theorem sc_2 : FnScope (["thing", "wish"] : List Str) (["thing"] : List Str) (defScope s_2) := ⟨rfl, rfl, rfl, by decide +kernel, rfl, by decide +kernel, by decide +kernel⟩
theorem t_2 {P : Program} {w : World} {mg : Str → Option Value} {base : Heap} {Γ : VI.Ctx} {call : Call} {k m : Nat} {tb : Nat → Addr × Addr} (G : GG P w Γ mg base call k tb) (hm : k + 12 ≤ m) {f : Addr} {cdv : Value} {A : Around} {outer : List Env} {s : Shared} {H : Hp} {E : XK} {pins : List Nat}
    (hr : Room m (A.deeper (envOfC "is_wishes" (defScope s_2) s.heap.objs.size f cdv))) : SSs Γ pins (cxOf (L2.CX P w) P w Γ.K mg base (["thing", "wish"] : List Str) "is_wishes" (defScope s_2) f cdv A outer s H E) (defBody s_2) (b_2 call pins) := by
  have ndX : ((["thing", "wish"] : List Str) : List Str).Nodup := sc_2.nd
  have hpX := passes_of (X := cxOf (L2.CX P w) P w Γ.K mg base (["thing", "wish"] : List Str) "is_wishes" (defScope s_2) f cdv A outer s H E) rfl
  have hKX : Γ.K = Γ.K := rfl
  exact (ss_cons (ss_if (sb_w (sw_or (sb_not (sb_val (se_isi G.hier hKX (q := .b "tuple") (show "tuple" ∈ tyq by decide) rfl G.n_isinstance (se_name (i := 0) rfl (.inr (.inl (by kernel_rfl)))) (pe_bltn (v := .ty "tuple") rfl G.n_tuple (by rfl) rfl)))) (sw_or1 (sb_not (sb_ch op_le op_le rd_le rd_le se_int (se_B (fun _ ht => pe_callB cr_len rfl G.n_len (by rfl) ht) rd_len (sa_cons (se_name (i := 0) rfl (.inr (.inl (by kernel_rfl)))) sa_nil)) (se_gint rfl G.g_MOST_CARS)))))) (ss_cons (ss_ret se_bl) ss_nil) ss_nil) (ss_cons (ss_ret (se_B (fun _ ht => pe_callB (cr_all rfl) rfl G.n_all (by rfl) ht) rd_all (sa_cons (se_lc G.hz rfl ndX (own := [("wish", 1)]) (si_seq hKX (se_name (i := 0) rfl (.inr (.inl (by kernel_rfl))))) (blkOk_by (by kernel_rfl)) (fun _ _ _ _ _ => (sg_name ndX rfl (.inl (by kernel_rfl)))) (fun _ _ _ _ _ => sp_nil) (fun _ _ _ _ _ => (se_def G.d_is_within (hr.mono (by omega)) rfl (sr_v (se_name (i := 1) rfl (.inl (by kernel_rfl))) (sr_v se_int (sr_v (se_2 (fun _ _ h1 h2 => pe_op op_sub h1 h2) rd_sub (se_B (fun _ ht => pe_callB cr_len rfl G.n_len (by rfl) ht) rd_len (sa_cons (se_name (i := 0) rfl (.inr (.inl (by kernel_rfl)))) sa_nil)) se_int) sr_nil)))))) sa_nil))) ss_nil))
theorem sc_3 : FnScope (["wishes"] : List Str) (["wishes"] : List Str) (defScope s_3) := ⟨rfl, rfl, rfl, by decide +kernel, rfl, by decide +kernel, by decide +kernel⟩
theorem t_3 {P : Program} {w : World} {mg : Str → Option Value} {base : Heap} {Γ : VI.Ctx} {call : Call} {k m : Nat} {tb : Nat → Addr × Addr} (G : GG P w Γ mg base call k tb) (hm : k + 12 ≤ m) {f : Addr} {cdv : Value} {A : Around} {outer : List Env} {s : Shared} {H : Hp} {E : XK} {pins : List Nat}
    (hr : Room m (A.deeper (envOfC "check_wishes" (defScope s_3) s.heap.objs.size f cdv))) : SSs Γ pins (cxOf (L2.CX P w) P w Γ.K mg base (["wishes"] : List Str) "check_wishes" (defScope s_3) f cdv A outer s H E) (defBody s_3) (b_3 call pins) := by
  have ndX : ((["wishes"] : List Str) : List Str).Nodup := sc_3.nd
  have hpX := passes_of (X := cxOf (L2.CX P w) P w Γ.K mg base (["wishes"] : List Str) "check_wishes" (defScope s_3) f cdv A outer s H E) rfl
  have hKX : Γ.K = Γ.K := rfl
  exact (ss_cons (ss_if (sb_not (sb_val (se_def G.d_is_wishes (hr.mono (by omega)) rfl (sr_v (se_name (i := 0) rfl (.inl (by kernel_rfl))) sr_nil)))) (ss_cons (ss_raise0 rfl G.x_BadCars rfl G.c_BadCars) ss_nil) ss_nil) ss_nil)
theorem sc_4 : FnScope (["wishes", "taken", "found", "wish", "here"] : List Str) (["wishes"] : List Str) (defScope s_4) := ⟨rfl, rfl, rfl, by decide +kernel, rfl, by decide +kernel, by decide +kernel⟩
theorem t_4 {P : Program} {w : World} {mg : Str → Option Value} {base : Heap} {Γ : VI.Ctx} {call : Call} {k m : Nat} {tb : Nat → Addr × Addr} (G : GG P w Γ mg base call k tb) (hm : k + 12 ≤ m) {f : Addr} {cdv : Value} {A : Around} {outer : List Env} {s : Shared} {H : Hp} {E : XK} {pins : List Nat}
    (hr : Room m (A.deeper (envOfC "parked" (defScope s_4) s.heap.objs.size f cdv))) : SSs Γ pins (cxOf (L2.CX P w) P w Γ.K mg base (["wishes", "taken", "found", "wish", "here"] : List Str) "parked" (defScope s_4) f cdv A outer s H E) (defBody s_4) (b_4 call pins) := by
  have ndX : ((["wishes", "taken", "found", "wish", "here"] : List Str) : List Str).Nodup := sc_4.nd
  have hpX := passes_of (X := cxOf (L2.CX P w) P w Γ.K mg base (["wishes", "taken", "found", "wish", "here"] : List Str) "parked" (defScope s_4) f cdv A outer s H E) rfl
  have hKX : Γ.K = Γ.K := rfl
  exact (ss_cons (ss_par (i := 1) (j := 2) rfl ndX rfl rfl (by decide) rfl rfl se_dic0 (se_lst sa_nil)) (ss_cons (ss_for hpX rfl (si_seq hKX (se_name (i := 0) rfl (.inl (by kernel_rfl)))) (sg_name ndX rfl (.inl (by kernel_rfl))) (ss_cons (ss_set ndX (i := 4) rfl (.inl (by kernel_rfl)) (se_name (i := 3) rfl (.inl (by kernel_rfl)))) (ss_cons (ss_while hpX (sb_w (sw_and (sb_2 (fun _ _ h1 h2 => pt_cmpR op_lt h1 h2 rfl) rd_lt (se_name (i := 4) rfl (.inl (by kernel_rfl))) (se_B (fun _ ht => pe_callB cr_len rfl G.n_len (by rfl) ht) rd_len (sa_cons (se_name (i := 0) rfl (.inl (by kernel_rfl))) sa_nil))) (sw_and1 (sb_2 (fun _ _ h1 h2 => pt_cmpR (opr_inDK (by have h1 := room1 hr; exact h1)) h1 h2 rfl) rd_inDK (se_name (i := 4) rfl (.inl (by kernel_rfl))) (se_name (i := 1) rfl (.inl (by kernel_rfl))))))) (ss_cons (ss_set ndX (i := 4) rfl (.inl (by kernel_rfl)) (se_2 (fun _ _ h1 h2 => pe_op opr_add h1 h2) rd_add (se_name (i := 4) rfl (.inl (by kernel_rfl))) se_int)) ss_nil)) (ss_cons (ss_if (sb_2 (fun _ _ h1 h2 => pt_cmpR op_lt h1 h2 rfl) rd_lt (se_name (i := 4) rfl (.inl (by kernel_rfl))) (se_B (fun _ ht => pe_callB cr_len rfl G.n_len (by rfl) ht) rd_len (sa_cons (se_name (i := 0) rfl (.inl (by kernel_rfl))) sa_nil))) (ss_cons (ss_setD (by have h1 := room1 hr; exact h1) (i := 1) rfl (.inl (by kernel_rfl)) (se_name (i := 4) rfl (.inl (by kernel_rfl))) se_bl) (ss_cons (ss_app (i := 2) rfl (.inl (by kernel_rfl)) (se_name (i := 4) rfl (.inl (by kernel_rfl)))) ss_nil)) (ss_cons (ss_app (i := 2) rfl (.inl (by kernel_rfl)) se_non) ss_nil)) ss_nil)))) (ss_cons (ss_ret (se_name (i := 2) rfl (.inl (by kernel_rfl)))) ss_nil)))
theorem sc_5 : FnScope (["wishes"] : List Str) (["wishes"] : List Str) (defScope s_5) := ⟨rfl, rfl, rfl, by decide +kernel, rfl, by decide +kernel, by decide +kernel⟩
theorem t_5 {P : Program} {w : World} {mg : Str → Option Value} {base : Heap} {Γ : VI.Ctx} {call : Call} {k m : Nat} {tb : Nat → Addr × Addr} (G : GG P w Γ mg base call k tb) (hm : k + 12 ≤ m) {f : Addr} {cdv : Value} {A : Around} {outer : List Env} {s : Shared} {H : Hp} {E : XK} {pins : List Nat}
    (hr : Room m (A.deeper (envOfC "park" (defScope s_5) s.heap.objs.size f cdv))) : SSs Γ pins (cxOf (L2.CX P w) P w Γ.K mg base (["wishes"] : List Str) "park" (defScope s_5) f cdv A outer s H E) (defBody s_5) (b_5 call pins) := by
  have ndX : ((["wishes"] : List Str) : List Str).Nodup := sc_5.nd
  have hpX := passes_of (X := cxOf (L2.CX P w) P w Γ.K mg base (["wishes"] : List Str) "park" (defScope s_5) f cdv A outer s H E) rfl
  have hKX : Γ.K = Γ.K := rfl
  exact (ss_cons (ss_expr (se_def G.d_check_wishes (hr.mono (by omega)) rfl (sr_v (se_name (i := 0) rfl (.inl (by kernel_rfl))) sr_nil))) (ss_cons (ss_ret (se_B (fun _ ht => pe_callTy (cr_tupG rfl) rfl G.n_tuple (by rfl) ht) rd_tupG (sa_cons (se_def G.d_parked (hr.mono (by omega)) rfl (sr_v (se_name (i := 0) rfl (.inl (by kernel_rfl))) sr_nil)) sa_nil))) ss_nil))
theorem sc_6 : FnScope (["wishes", "k", "wish"] : List Str) (["wishes"] : List Str) (defScope s_6) := ⟨rfl, rfl, rfl, by decide +kernel, rfl, by decide +kernel, by decide +kernel⟩
theorem t_6 {P : Program} {w : World} {mg : Str → Option Value} {base : Heap} {Γ : VI.Ctx} {call : Call} {k m : Nat} {tb : Nat → Addr × Addr} (G : GG P w Γ mg base call k tb) (hm : k + 12 ≤ m) {f : Addr} {cdv : Value} {A : Around} {outer : List Env} {s : Shared} {H : Hp} {E : XK} {pins : List Nat}
    (hr : Room m (A.deeper (envOfC "parks_all" (defScope s_6) s.heap.objs.size f cdv))) : SSs Γ pins (cxOf (L2.CX P w) P w Γ.K mg base (["wishes", "k", "wish"] : List Str) "parks_all" (defScope s_6) f cdv A outer s H E) (defBody s_6) (b_6 call pins) := by
  have ndX : ((["wishes", "k", "wish"] : List Str) : List Str).Nodup := sc_6.nd
  have hpX := passes_of (X := cxOf (L2.CX P w) P w Γ.K mg base (["wishes", "k", "wish"] : List Str) "parks_all" (defScope s_6) f cdv A outer s H E) rfl
  have hKX : Γ.K = Γ.K := rfl
  exact (ss_cons (ss_ret (se_B (fun _ ht => pe_callB (cr_all rfl) rfl G.n_all (by rfl) ht) rd_all (sa_cons (se_lc G.hz rfl ndX (own := [("k", 1)]) (si_rng1 rfl G.n_range (sa_cons (se_B (fun _ ht => pe_callB cr_len rfl G.n_len (by rfl) ht) rd_len (sa_cons (se_name (i := 0) rfl (.inr (.inl (by kernel_rfl)))) sa_nil)) sa_nil)) (blkOk_by (by kernel_rfl)) (fun _ _ _ _ _ => (sg_name ndX rfl (.inr (by kernel_rfl)))) (fun _ _ _ _ _ => sp_nil) (fun _ _ _ _ _ => (se_2 (fun _ _ h1 h2 => pe_cmpR op_ge h1 h2 rfl) rd_ge (se_B (fun _ ht => pe_callB cr_len rfl G.n_len (by rfl) ht) rd_len (sa_cons (se_lc G.hz rfl ndX (own := [("wish", 2)]) (si_seq hKX (se_name (i := 0) rfl (.inr (.inl (by kernel_rfl))))) (blkOk_by (by kernel_rfl)) (fun _ _ _ _ _ => (sg_name ndX rfl (.inl (by kernel_rfl)))) (fun _ _ _ _ _ => (sp_one (sb_2 (fun _ _ h1 h2 => pt_cmpR op_le h1 h2 rfl) rd_le (se_name (i := 2) rfl (.inl (by kernel_rfl))) (se_name (i := 1) rfl (.inr (.inl (by kernel_rfl))))))) (fun _ _ _ _ _ => (se_name (i := 2) rfl (.inl (by kernel_rfl))))) sa_nil)) (se_2 (fun _ _ h1 h2 => pe_op opr_add h1 h2) rd_add (se_name (i := 1) rfl (.inr (.inl (by kernel_rfl)))) se_int)))) sa_nil))) ss_nil)
theorem sc_7 : FnScope (["thing"] : List Str) (["thing"] : List Str) (defScope s_7) := ⟨rfl, rfl, rfl, by decide +kernel, rfl, by decide +kernel, by decide +kernel⟩
theorem t_7 {P : Program} {w : World} {mg : Str → Option Value} {base : Heap} {Γ : VI.Ctx} {call : Call} {k m : Nat} {tb : Nat → Addr × Addr} (G : GG P w Γ mg base call k tb) (hm : k + 12 ≤ m) {f : Addr} {cdv : Value} {A : Around} {outer : List Env} {s : Shared} {H : Hp} {E : XK} {pins : List Nat}
    (hr : Room m (A.deeper (envOfC "is_parking" (defScope s_7) s.heap.objs.size f cdv))) : SSs Γ pins (cxOf (L2.CX P w) P w Γ.K mg base (["thing"] : List Str) "is_parking" (defScope s_7) f cdv A outer s H E) (defBody s_7) (b_7 call pins) := by
  have ndX : ((["thing"] : List Str) : List Str).Nodup := sc_7.nd
  have hpX := passes_of (X := cxOf (L2.CX P w) P w Γ.K mg base (["thing"] : List Str) "is_parking" (defScope s_7) f cdv A outer s H E) rfl
  have hKX : Γ.K = Γ.K := rfl
  exact (ss_cons (ss_ret (se_and (se_def G.d_is_wishes (hr.mono (by omega)) rfl (sr_v (se_name (i := 0) rfl (.inl (by kernel_rfl))) sr_nil)) (se_one (se_def G.d_parks_all (hr.mono (by omega)) rfl (sr_v (se_name (i := 0) rfl (.inl (by kernel_rfl))) sr_nil))))) ss_nil)
theorem sc_8 : FnScope (["wishes"] : List Str) (["wishes"] : List Str) (defScope s_8) := ⟨rfl, rfl, rfl, by decide +kernel, rfl, by decide +kernel, by decide +kernel⟩
theorem t_8 {P : Program} {w : World} {mg : Str → Option Value} {base : Heap} {Γ : VI.Ctx} {call : Call} {k m : Nat} {tb : Nat → Addr × Addr} (G : GG P w Γ mg base call k tb) (hm : k + 12 ≤ m) {f : Addr} {cdv : Value} {A : Around} {outer : List Env} {s : Shared} {H : Hp} {E : XK} {pins : List Nat}
    (hr : Room m (A.deeper (envOfC "check_parking" (defScope s_8) s.heap.objs.size f cdv))) : SSs Γ pins (cxOf (L2.CX P w) P w Γ.K mg base (["wishes"] : List Str) "check_parking" (defScope s_8) f cdv A outer s H E) (defBody s_8) (b_8 call pins) := by
  have ndX : ((["wishes"] : List Str) : List Str).Nodup := sc_8.nd
  have hpX := passes_of (X := cxOf (L2.CX P w) P w Γ.K mg base (["wishes"] : List Str) "check_parking" (defScope s_8) f cdv A outer s H E) rfl
  have hKX : Γ.K = Γ.K := rfl
  exact (ss_cons (ss_if (sb_not (sb_val (se_def G.d_is_parking (hr.mono (by omega)) rfl (sr_v (se_name (i := 0) rfl (.inl (by kernel_rfl))) sr_nil)))) (ss_cons (ss_raise0 rfl G.x_BadCars rfl G.c_BadCars) ss_nil) ss_nil) ss_nil)
theorem sc_9 : FnScope (["wishes", "k", "wish"] : List Str) (["wishes"] : List Str) (defScope s_9) := ⟨rfl, rfl, rfl, by decide +kernel, rfl, by decide +kernel, by decide +kernel⟩
theorem t_9 {P : Program} {w : World} {mg : Str → Option Value} {base : Heap} {Γ : VI.Ctx} {call : Call} {k m : Nat} {tb : Nat → Addr × Addr} (G : GG P w Γ mg base call k tb) (hm : k + 12 ≤ m) {f : Addr} {cdv : Value} {A : Around} {outer : List Env} {s : Shared} {H : Hp} {E : XK} {pins : List Nat}
    (hr : Room m (A.deeper (envOfC "short_place" (defScope s_9) s.heap.objs.size f cdv))) : SSs Γ pins (cxOf (L2.CX P w) P w Γ.K mg base (["wishes", "k", "wish"] : List Str) "short_place" (defScope s_9) f cdv A outer s H E) (defBody s_9) (b_9 call pins) := by
  have ndX : ((["wishes", "k", "wish"] : List Str) : List Str).Nodup := sc_9.nd
  have hpX := passes_of (X := cxOf (L2.CX P w) P w Γ.K mg base (["wishes", "k", "wish"] : List Str) "short_place" (defScope s_9) f cdv A outer s H E) rfl
  have hKX : Γ.K = Γ.K := rfl
  exact (ss_cons (ss_expr (se_def G.d_check_wishes (hr.mono (by omega)) rfl (sr_v (se_name (i := 0) rfl (.inl (by kernel_rfl))) sr_nil))) (ss_cons (ss_for hpX rfl (si_rng1 rfl G.n_range (sa_cons (se_B (fun _ ht => pe_callB cr_len rfl G.n_len (by rfl) ht) rd_len (sa_cons (se_name (i := 0) rfl (.inl (by kernel_rfl))) sa_nil)) sa_nil)) (sg_name ndX rfl (.inr (by kernel_rfl))) (ss_cons (ss_if (sb_2 (fun _ _ h1 h2 => pt_cmpR op_lt h1 h2 rfl) rd_lt (se_B (fun _ ht => pe_callB cr_len rfl G.n_len (by rfl) ht) rd_len (sa_cons (se_lc G.hz rfl ndX (own := [("wish", 2)]) (si_seq hKX (se_name (i := 0) rfl (.inl (by kernel_rfl)))) (blkOk_by (by kernel_rfl)) (fun _ _ _ _ _ => (sg_name ndX rfl (.inl (by kernel_rfl)))) (fun _ _ _ _ _ => (sp_one (sb_2 (fun _ _ h1 h2 => pt_cmpR op_le h1 h2 rfl) rd_le (se_name (i := 2) rfl (.inl (by kernel_rfl))) (se_name (i := 1) rfl (.inr (.inl (by kernel_rfl))))))) (fun _ _ _ _ _ => (se_name (i := 2) rfl (.inl (by kernel_rfl))))) sa_nil)) (se_2 (fun _ _ h1 h2 => pe_op opr_add h1 h2) rd_add (se_name (i := 1) rfl (.inr (.inl (by kernel_rfl)))) se_int)) (ss_cons (ss_ret (se_name (i := 1) rfl (.inr (.inl (by kernel_rfl))))) ss_nil) ss_nil) ss_nil)) (ss_cons (ss_ret se_non) ss_nil)))
theorem sc_10 : FnScope (["wishes", "place", "wish"] : List Str) (["wishes"] : List Str) (defScope s_10) := ⟨rfl, rfl, rfl, by decide +kernel, rfl, by decide +kernel, by decide +kernel⟩
theorem t_10 {P : Program} {w : World} {mg : Str → Option Value} {base : Heap} {Γ : VI.Ctx} {call : Call} {k m : Nat} {tb : Nat → Addr × Addr} (G : GG P w Γ mg base call k tb) (hm : k + 12 ≤ m) {f : Addr} {cdv : Value} {A : Around} {outer : List Env} {s : Shared} {H : Hp} {E : XK} {pins : List Nat}
    (hr : Room m (A.deeper (envOfC "driven" (defScope s_10) s.heap.objs.size f cdv))) : SSs Γ pins (cxOf (L2.CX P w) P w Γ.K mg base (["wishes", "place", "wish"] : List Str) "driven" (defScope s_10) f cdv A outer s H E) (defBody s_10) (b_10 call pins) := by
  have ndX : ((["wishes", "place", "wish"] : List Str) : List Str).Nodup := sc_10.nd
  have hpX := passes_of (X := cxOf (L2.CX P w) P w Γ.K mg base (["wishes", "place", "wish"] : List Str) "driven" (defScope s_10) f cdv A outer s H E) rfl
  have hKX : Γ.K = Γ.K := rfl
  exact (ss_cons (ss_expr (se_def G.d_check_parking (hr.mono (by omega)) rfl (sr_v (se_name (i := 0) rfl (.inl (by kernel_rfl))) sr_nil))) (ss_cons (ss_ret (se_B (fun _ ht => pe_callB (cr_sumG rfl) rfl G.n_sum (by rfl) ht) rd_sumG (sa_cons (se_lc G.hz rfl ndX (own := [("place", 1), ("wish", 2)]) (si_zip hKX rfl G.n_zip (se_def G.d_parked (hr.mono (by omega)) rfl (sr_v (se_name (i := 0) rfl (.inl (by kernel_rfl))) sr_nil)) (se_name (i := 0) rfl (.inl (by kernel_rfl)))) (blkOk_by (by kernel_rfl)) (fun _ _ _ _ _ => (sg_tup rfl (sgs_cons (sg_name ndX rfl (.inl (by kernel_rfl))) (sgs_cons (sg_name ndX rfl (.inl (by kernel_rfl))) sgs_nil)))) (fun _ _ _ _ _ => sp_nil) (fun _ _ _ _ _ => (se_2 (fun _ _ h1 h2 => pe_op op_sub h1 h2) rd_sub (se_name (i := 1) rfl (.inl (by kernel_rfl))) (se_name (i := 2) rfl (.inl (by kernel_rfl)))))) sa_nil))) ss_nil))
theorem sc_11 : FnScope (["wishes", "car", "place"] : List Str) (["wishes"] : List Str) (defScope s_11) := ⟨rfl, rfl, rfl, by decide +kernel, rfl, by decide +kernel, by decide +kernel⟩
theorem t_11 {P : Program} {w : World} {mg : Str → Option Value} {base : Heap} {Γ : VI.Ctx} {call : Call} {k m : Nat} {tb : Nat → Addr × Addr} (G : GG P w Γ mg base call k tb) (hm : k + 12 ≤ m) {f : Addr} {cdv : Value} {A : Around} {outer : List Env} {s : Shared} {H : Hp} {E : XK} {pins : List Nat}
    (hr : Room m (A.deeper (envOfC "lucky" (defScope s_11) s.heap.objs.size f cdv))) : SSs Γ pins (cxOf (L2.CX P w) P w Γ.K mg base (["wishes", "car", "place"] : List Str) "lucky" (defScope s_11) f cdv A outer s H E) (defBody s_11) (b_11 call pins) := by
  have ndX : ((["wishes", "car", "place"] : List Str) : List Str).Nodup := sc_11.nd
  have hpX := passes_of (X := cxOf (L2.CX P w) P w Γ.K mg base (["wishes", "car", "place"] : List Str) "lucky" (defScope s_11) f cdv A outer s H E) rfl
  have hKX : Γ.K = Γ.K := rfl
  exact (ss_cons (ss_expr (se_def G.d_check_wishes (hr.mono (by omega)) rfl (sr_v (se_name (i := 0) rfl (.inr (.inl (by kernel_rfl)))) sr_nil))) (ss_cons (ss_ret (se_B (fun _ ht => pe_callTy (cr_tupG rfl) rfl G.n_tuple (by rfl) ht) rd_tupG (sa_cons (se_lc G.hz rfl ndX (own := [("car", 1), ("place", 2)]) (si_enu hKX rfl G.n_enumerate (se_def G.d_parked (hr.mono (by omega)) rfl (sr_v (se_name (i := 0) rfl (.inr (.inl (by kernel_rfl)))) sr_nil))) (blkOk_by (by kernel_rfl)) (fun _ _ _ _ _ => (sg_tup rfl (sgs_cons (sg_name ndX rfl (.inl (by kernel_rfl))) (sgs_cons (sg_name ndX rfl (.inl (by kernel_rfl))) sgs_nil)))) (fun _ _ _ _ _ => (sp_one (sb_2 (fun _ _ h1 h2 => pt_cmpR (op_eqD hr.units) h1 h2 rfl) rd_eq (se_name (i := 2) rfl (.inl (by kernel_rfl))) (se_2 (fun _ _ h1 h2 => pe_ix ix_seq h1 h2 (fun _ _ => rfl)) rd_ix (se_name (i := 0) rfl (.inr (.inl (by kernel_rfl)))) (se_name (i := 1) rfl (.inl (by kernel_rfl))))))) (fun _ _ _ _ _ => (se_name (i := 1) rfl (.inl (by kernel_rfl))))) sa_nil))) ss_nil))
theorem sc_12 : FnScope (["wishes"] : List Str) (["wishes"] : List Str) (defScope s_12) := ⟨rfl, rfl, rfl, by decide +kernel, rfl, by decide +kernel, by decide +kernel⟩
theorem t_12 {P : Program} {w : World} {mg : Str → Option Value} {base : Heap} {Γ : VI.Ctx} {call : Call} {k m : Nat} {tb : Nat → Addr × Addr} (G : GG P w Γ mg base call k tb) (hm : k + 12 ≤ m) {f : Addr} {cdv : Value} {A : Around} {outer : List Env} {s : Shared} {H : Hp} {E : XK} {pins : List Nat}
    (hr : Room m (A.deeper (envOfC "ascending" (defScope s_12) s.heap.objs.size f cdv))) : SSs Γ pins (cxOf (L2.CX P w) P w Γ.K mg base (["wishes"] : List Str) "ascending" (defScope s_12) f cdv A outer s H E) (defBody s_12) (b_12 call pins) := by
  have ndX : ((["wishes"] : List Str) : List Str).Nodup := sc_12.nd
  have hpX := passes_of (X := cxOf (L2.CX P w) P w Γ.K mg base (["wishes"] : List Str) "ascending" (defScope s_12) f cdv A outer s H E) rfl
  have hKX : Γ.K = Γ.K := rfl
  exact (ss_cons (ss_expr (se_def G.d_check_wishes (hr.mono (by omega)) rfl (sr_v (se_name (i := 0) rfl (.inl (by kernel_rfl))) sr_nil))) (ss_cons (ss_ret (se_B (fun _ ht => pe_callTy (cr_tupG rfl) rfl G.n_tuple (by rfl) ht) rd_tupG (sa_cons (se_B (fun _ ht => pe_callB cr_sortedG rfl G.n_sorted (by rfl) ht) rd_sortedG (sa_cons (se_name (i := 0) rfl (.inl (by kernel_rfl))) sa_nil)) sa_nil))) ss_nil))
theorem sc_13 : FnScope (["script", "cells", "cell"] : List Str) (["script"] : List Str) (defScope s_13) := ⟨rfl, rfl, rfl, by decide +kernel, rfl, by decide +kernel, by decide +kernel⟩
theorem t_13 {P : Program} {w : World} {mg : Str → Option Value} {base : Heap} {Γ : VI.Ctx} {call : Call} {k m : Nat} {tb : Nat → Addr × Addr} (G : GG P w Γ mg base call k tb) (hm : k + 12 ≤ m) {f : Addr} {cdv : Value} {A : Around} {outer : List Env} {s : Shared} {H : Hp} {E : XK} {pins : List Nat}
    (hr : Room m (A.deeper (envOfC "_law_hand" (defScope s_13) s.heap.objs.size f cdv))) : SSs Γ pins (cxOf (L2.CX P w) P w Γ.K mg base (["script", "cells", "cell"] : List Str) "_law_hand" (defScope s_13) f cdv A outer s H E) (defBody s_13) (b_13 call pins) := by
  have ndX : ((["script", "cells", "cell"] : List Str) : List Str).Nodup := sc_13.nd
  have hpX := passes_of (X := cxOf (L2.CX P w) P w Γ.K mg base (["script", "cells", "cell"] : List Str) "_law_hand" (defScope s_13) f cdv A outer s H E) rfl
  have hKX : Γ.K = Γ.K := rfl
  exact (ss_cons (ss_setLc (i := 1) G.hz rfl ndX rfl rfl (sw_true rfl (by kernel_rfl) rfl (by kernel_rfl)) (own := [("cell", 2)]) (si_seq hKX (se_sl01 hKX (se_name (i := 0) rfl (.inl (by kernel_rfl))) se_int)) (blkOk_by (by kernel_rfl)) (fun _ _ _ _ _ => (sg_name ndX rfl (.inl (by kernel_rfl)))) (fun _ _ _ _ _ => sp_nil) (fun _ _ _ _ _ => (se_B (fun _ ht => pe_callB call_abs rfl G.n_abs (by rfl) ht) rd_abs (sa_cons (se_B (fun _ ht => pe_callTy call_int1 rfl G.n_int (by rfl) ht) rd_int (sa_cons (se_name (i := 2) rfl (.inl (by kernel_rfl))) sa_nil)) sa_nil)))) (ss_cons (ss_ret (se_lst (sa_cons (se_name (i := 1) rfl (.inl (by kernel_rfl))) (sa_cons se_int (sa_cons se_int (sa_cons (se_2 (fun _ _ h1 h2 => pe_op opr_add h1 h2) rd_add se_int (se_2 (fun _ _ h1 h2 => pe_op opr_mulW h1 h2) rd_mulW se_int (se_B (fun _ ht => pe_callB cr_len rfl G.n_len (by rfl) ht) rd_len (sa_cons (se_name (i := 1) rfl (.inl (by kernel_rfl))) sa_nil)))) (sa_cons se_int sa_nil))))))) ss_nil))
theorem sc_14 : FnScope (["hand", "many", "cell", "digit", "number"] : List Str) (["hand", "many"] : List Str) (defScope s_14) := ⟨rfl, rfl, rfl, by decide +kernel, rfl, by decide +kernel, by decide +kernel⟩
theorem t_14 {P : Program} {w : World} {mg : Str → Option Value} {base : Heap} {Γ : VI.Ctx} {call : Call} {k m : Nat} {tb : Nat → Addr × Addr} (G : GG P w Γ mg base call k tb) (hm : k + 12 ≤ m) {f : Addr} {cdv : Value} {A : Around} {outer : List Env} {s : Shared} {H : Hp} {E : XK} {pins : List Nat}
    (hr : Room m (A.deeper (envOfC "_law_draw" (defScope s_14) s.heap.objs.size f cdv))) : SSs Γ pins (cxOf (L2.CX P w) P w Γ.K mg base (["hand", "many", "cell", "digit", "number"] : List Str) "_law_draw" (defScope s_14) f cdv A outer s H E) (defBody s_14) (b_14 call pins) := by
  have ndX : ((["hand", "many", "cell", "digit", "number"] : List Str) : List Str).Nodup := sc_14.nd
  have hpX := passes_of (X := cxOf (L2.CX P w) P w Γ.K mg base (["hand", "many", "cell", "digit", "number"] : List Str) "_law_draw" (defScope s_14) f cdv A outer s H E) rfl
  have hKX : Γ.K = Γ.K := rfl
  exact (ss_cons (ss_if (sb_w (sw_and (sb_2 (fun _ _ h1 h2 => pt_cmpR (op_eqD hr.units) h1 h2 rfl) rd_eq (se_2 (fun _ _ h1 h2 => pe_ix ix_seq h1 h2 (fun _ _ => rfl)) rd_ix (se_name (i := 0) rfl (.inl (by kernel_rfl))) se_int) se_int) (sw_and1 (sb_2 (fun _ _ h1 h2 => pt_cmpR op_lt h1 h2 rfl) rd_lt (se_2 (fun _ _ h1 h2 => pe_ix ix_seq h1 h2 (fun _ _ => rfl)) rd_ix (se_name (i := 0) rfl (.inl (by kernel_rfl))) se_int) (se_B (fun _ ht => pe_callB cr_len rfl G.n_len (by rfl) ht) rd_len (sa_cons (se_2 (fun _ _ h1 h2 => pe_ix ix_seq h1 h2 (fun _ _ => rfl)) rd_ix (se_name (i := 0) rfl (.inl (by kernel_rfl))) se_int) sa_nil)))))) (ss_cons (ss_set ndX (i := 2) rfl (.inl (by kernel_rfl)) (se_2 (fun _ _ h1 h2 => pe_ix ix_seq h1 h2 (fun _ _ => rfl)) rd_ix (se_2 (fun _ _ h1 h2 => pe_ix ix_seq h1 h2 (fun _ _ => rfl)) rd_ix (se_name (i := 0) rfl (.inl (by kernel_rfl))) se_int) (se_2 (fun _ _ h1 h2 => pe_ix ix_seq h1 h2 (fun _ _ => rfl)) rd_ix (se_name (i := 0) rfl (.inl (by kernel_rfl))) se_int))) (ss_cons (ss_setI (i := 0) rfl (.inl (by kernel_rfl)) se_int (se_2 (fun _ _ h1 h2 => pe_op opr_add h1 h2) rd_add (se_2 (fun _ _ h1 h2 => pe_ix ix_seq h1 h2 (fun _ _ => rfl)) rd_ix (se_name (i := 0) rfl (.inl (by kernel_rfl))) se_int) se_int)) (ss_cons (ss_setI (i := 0) rfl (.inl (by kernel_rfl)) se_int (se_2 (fun _ _ h1 h2 => pe_op op_modN h1 h2) rd_mod (se_B (fun _ ht => pe_callTy call_int1 rfl G.n_int (by rfl) ht) rd_int (sa_cons (se_2 (fun _ _ h1 h2 => pe_op opr_add h1 h2) rd_add (se_2 (fun _ _ h1 h2 => pe_op opr_add h1 h2) rd_add (se_2 (fun _ _ h1 h2 => pe_op opr_mulW h1 h2) rd_mulW (se_2 (fun _ _ h1 h2 => pe_ix ix_seq h1 h2 (fun _ _ => rfl)) rd_ix (se_name (i := 0) rfl (.inl (by kernel_rfl))) se_int) se_int) (se_2 (fun _ _ h1 h2 => pe_op opr_mulW h1 h2) rd_mulW (se_name (i := 2) rfl (.inl (by kernel_rfl))) se_int)) se_int) sa_nil)) se_int)) (ss_cons (ss_if (sb_2 (fun _ _ h1 h2 => pt_cmpR op_ge h1 h2 rfl) rd_ge (se_name (i := 2) rfl (.inl (by kernel_rfl))) (se_2 (fun _ _ h1 h2 => pe_op op_pow h1 h2) rd_pow se_int se_int)) (ss_cons (ss_setI (i := 0) rfl (.inl (by kernel_rfl)) se_int (se_name (i := 2) rfl (.inl (by kernel_rfl)))) ss_nil) ss_nil) ss_nil)))) ss_nil) (ss_cons (ss_if (sb_2 (fun _ _ h1 h2 => pt_cmpR op_gt h1 h2 rfl) rd_gt (se_2 (fun _ _ h1 h2 => pe_ix ix_seq h1 h2 (fun _ _ => rfl)) rd_ix (se_name (i := 0) rfl (.inl (by kernel_rfl))) se_int) se_int) (ss_cons (ss_set ndX (i := 3) rfl (.inl (by kernel_rfl)) (se_2 (fun _ _ h1 h2 => pe_op op_modN h1 h2) rd_mod (se_B (fun _ ht => pe_callTy call_int1 rfl G.n_int (by rfl) ht) rd_int (sa_cons (se_2 (fun _ _ h1 h2 => pe_ix ix_seq h1 h2 (fun _ _ => rfl)) rd_ix (se_name (i := 0) rfl (.inl (by kernel_rfl))) se_int) sa_nil)) (se_name (i := 1) rfl (.inl (by kernel_rfl))))) (ss_cons (ss_setI (i := 0) rfl (.inl (by kernel_rfl)) se_int (se_2 (fun _ _ h1 h2 => pe_op op_fdivN h1 h2) rd_fdiv (se_2 (fun _ _ h1 h2 => pe_ix ix_seq h1 h2 (fun _ _ => rfl)) rd_ix (se_name (i := 0) rfl (.inl (by kernel_rfl))) se_int) (se_name (i := 1) rfl (.inl (by kernel_rfl))))) (ss_cons (ss_ret (se_name (i := 3) rfl (.inl (by kernel_rfl)))) ss_nil))) ss_nil) (ss_cons (ss_setI (i := 0) rfl (.inl (by kernel_rfl)) se_int (se_2 (fun _ _ h1 h2 => pe_op opr_add h1 h2) rd_add (se_2 (fun _ _ h1 h2 => pe_ix ix_seq h1 h2 (fun _ _ => rfl)) rd_ix (se_name (i := 0) rfl (.inl (by kernel_rfl))) se_int) se_int)) (ss_cons (ss_set ndX (i := 4) rfl (.inl (by kernel_rfl)) (se_2 (fun _ _ h1 h2 => pe_op op_modN h1 h2) rd_mod (se_B (fun _ ht => pe_callTy call_int1 rfl G.n_int (by rfl) ht) rd_int (sa_cons (se_2 (fun _ _ h1 h2 => pe_op opr_mulW h1 h2) rd_mulW (se_B (fun _ ht => pe_callTy call_int1 rfl G.n_int (by rfl) ht) rd_int (sa_cons (se_2 (fun _ _ h1 h2 => pe_op opr_add h1 h2) rd_add (se_2 (fun _ _ h1 h2 => pe_ix ix_seq h1 h2 (fun _ _ => rfl)) rd_ix (se_name (i := 0) rfl (.inl (by kernel_rfl))) se_int) (se_2 (fun _ _ h1 h2 => pe_op opr_mulW h1 h2) rd_mulW se_int (se_2 (fun _ _ h1 h2 => pe_ix ix_seq h1 h2 (fun _ _ => rfl)) rd_ix (se_name (i := 0) rfl (.inl (by kernel_rfl))) se_int))) sa_nil)) se_int) sa_nil)) se_int)) (ss_cons (ss_set ndX (i := 4) rfl (.inl (by kernel_rfl)) (se_2 (fun _ _ h1 h2 => pe_op op_modN h1 h2) rd_mod (se_B (fun _ ht => pe_callTy call_int1 rfl G.n_int (by rfl) ht) rd_int (sa_cons (se_2 (fun _ _ h1 h2 => pe_op opr_mulW h1 h2) rd_mulW (se_name (i := 4) rfl (.inl (by kernel_rfl))) (se_2 (fun _ _ h1 h2 => pe_op opr_add h1 h2) rd_add (se_2 (fun _ _ h1 h2 => pe_op op_fdivN h1 h2) rd_fdiv (se_name (i := 4) rfl (.inl (by kernel_rfl))) se_int) se_int)) sa_nil)) se_int)) (ss_cons (ss_set ndX (i := 4) rfl (.inl (by kernel_rfl)) (se_2 (fun _ _ h1 h2 => pe_op op_modN h1 h2) rd_mod (se_B (fun _ ht => pe_callTy call_int1 rfl G.n_int (by rfl) ht) rd_int (sa_cons (se_2 (fun _ _ h1 h2 => pe_op opr_mulW h1 h2) rd_mulW (se_name (i := 4) rfl (.inl (by kernel_rfl))) (se_2 (fun _ _ h1 h2 => pe_op opr_add h1 h2) rd_add (se_2 (fun _ _ h1 h2 => pe_op op_fdivN h1 h2) rd_fdiv (se_name (i := 4) rfl (.inl (by kernel_rfl))) se_int) se_int)) sa_nil)) se_int)) (ss_cons (ss_ret (se_2 (fun _ _ h1 h2 => pe_op op_modN h1 h2) rd_mod (se_B (fun _ ht => pe_callTy call_int1 rfl G.n_int (by rfl) ht) rd_int (sa_cons (se_2 (fun _ _ h1 h2 => pe_op op_fdivN h1 h2) rd_fdiv (se_name (i := 4) rfl (.inl (by kernel_rfl))) se_int) sa_nil)) (se_name (i := 1) rfl (.inl (by kernel_rfl))))) ss_nil)))))))
theorem sc_15 : FnScope (["hand", "some"] : List Str) (["hand", "some"] : List Str) (defScope s_15) := ⟨rfl, rfl, rfl, by decide +kernel, rfl, by decide +kernel, by decide +kernel⟩
theorem t_15 {P : Program} {w : World} {mg : Str → Option Value} {base : Heap} {Γ : VI.Ctx} {call : Call} {k m : Nat} {tb : Nat → Addr × Addr} (G : GG P w Γ mg base call k tb) (hm : k + 12 ≤ m) {f : Addr} {cdv : Value} {A : Around} {outer : List Env} {s : Shared} {H : Hp} {E : XK} {pins : List Nat}
    (hr : Room m (A.deeper (envOfC "_law_any" (defScope s_15) s.heap.objs.size f cdv))) : SSs Γ pins (cxOf (L2.CX P w) P w Γ.K mg base (["hand", "some"] : List Str) "_law_any" (defScope s_15) f cdv A outer s H E) (defBody s_15) (b_15 call pins) := by
  have ndX : ((["hand", "some"] : List Str) : List Str).Nodup := sc_15.nd
  have hpX := passes_of (X := cxOf (L2.CX P w) P w Γ.K mg base (["hand", "some"] : List Str) "_law_any" (defScope s_15) f cdv A outer s H E) rfl
  have hKX : Γ.K = Γ.K := rfl
  exact (ss_cons (ss_ret (se_2 (fun _ _ h1 h2 => pe_ix ix_seq h1 h2 (fun _ _ => rfl)) rd_ix (se_name (i := 1) rfl (.inl (by kernel_rfl))) (se_def G.d__law_draw (hr.mono (by omega)) rfl (sr_r (i := 0) rfl (.inl (by kernel_rfl)) (sr_v (se_B (fun _ ht => pe_callB cr_len rfl G.n_len (by rfl) ht) rd_len (sa_cons (se_name (i := 1) rfl (.inl (by kernel_rfl))) sa_nil)) sr_nil))))) ss_nil)
theorem sc_16 : FnScope (["hand", "some", "rest", "found"] : List Str) (["hand", "some"] : List Str) (defScope s_16) := ⟨rfl, rfl, rfl, by decide +kernel, rfl, by decide +kernel, by decide +kernel⟩
theorem t_16 {P : Program} {w : World} {mg : Str → Option Value} {base : Heap} {Γ : VI.Ctx} {call : Call} {k m : Nat} {tb : Nat → Addr × Addr} (G : GG P w Γ mg base call k tb) (hm : k + 12 ≤ m) {f : Addr} {cdv : Value} {A : Around} {outer : List Env} {s : Shared} {H : Hp} {E : XK} {pins : List Nat}
    (hr : Room m (A.deeper (envOfC "_law_mixed" (defScope s_16) s.heap.objs.size f cdv))) : SSs Γ pins (cxOf (L2.CX P w) P w Γ.K mg base (["hand", "some", "rest", "found"] : List Str) "_law_mixed" (defScope s_16) f cdv A outer s H E) (defBody s_16) (b_16 call pins) := by
  have ndX : ((["hand", "some", "rest", "found"] : List Str) : List Str).Nodup := sc_16.nd
  have hpX := passes_of (X := cxOf (L2.CX P w) P w Γ.K mg base (["hand", "some", "rest", "found"] : List Str) "_law_mixed" (defScope s_16) f cdv A outer s H E) rfl
  have hKX : Γ.K = Γ.K := rfl
  exact (ss_cons (ss_par (i := 2) (j := 3) rfl ndX rfl rfl (by decide) rfl rfl (se_B (fun _ ht => pe_callTy call_list_of rfl G.n_list (by rfl) ht) rd_list (sa_cons (se_name (i := 1) rfl (.inl (by kernel_rfl))) sa_nil)) (se_lst sa_nil)) (ss_cons (ss_while hpX (sb_2 (fun _ _ h1 h2 => pt_cmpR op_gt h1 h2 rfl) rd_gt (se_B (fun _ ht => pe_callB cr_len rfl G.n_len (by rfl) ht) rd_len (sa_cons (se_name (i := 2) rfl (.inl (by kernel_rfl))) sa_nil)) se_int) (ss_cons (ss_app (i := 3) rfl (.inl (by kernel_rfl)) (se_popAt (i := 2) rfl (.inl (by kernel_rfl)) (se_def G.d__law_draw (hr.mono (by omega)) rfl (sr_r (i := 0) rfl (.inl (by kernel_rfl)) (sr_v (se_B (fun _ ht => pe_callB cr_len rfl G.n_len (by rfl) ht) rd_len (sa_cons (se_name (i := 2) rfl (.inl (by kernel_rfl))) sa_nil)) sr_nil))))) ss_nil)) (ss_cons (ss_ret (se_name (i := 3) rfl (.inl (by kernel_rfl)))) ss_nil)))
theorem sc_17 : FnScope (["one", "due", "two", "other"] : List Str) (["one", "due"] : List Str) (defScope s_17) := ⟨rfl, rfl, rfl, by decide +kernel, rfl, by decide +kernel, by decide +kernel⟩
theorem t_17 {P : Program} {w : World} {mg : Str → Option Value} {base : Heap} {Γ : VI.Ctx} {call : Call} {k m : Nat} {tb : Nat → Addr × Addr} (G : GG P w Γ mg base call k tb) (hm : k + 12 ≤ m) {f : Addr} {cdv : Value} {A : Around} {outer : List Env} {s : Shared} {H : Hp} {E : XK} {pins : List Nat}
    (hr : Room m (A.deeper (envOfC "_law_same" (defScope s_17) s.heap.objs.size f cdv))) : SSs Γ pins (cxOf (L2.CX P w) P w Γ.K mg base (["one", "due", "two", "other"] : List Str) "_law_same" (defScope s_17) f cdv A outer s H E) (defBody s_17) (b_17 call pins) := by
  have ndX : ((["one", "due", "two", "other"] : List Str) : List Str).Nodup := sc_17.nd
  have hpX := passes_of (X := cxOf (L2.CX P w) P w Γ.K mg base (["one", "due", "two", "other"] : List Str) "_law_same" (defScope s_17) f cdv A outer s H E) rfl
  have hKX : Γ.K = Γ.K := rfl
  exact (ss_cons (ss_if (sb_val (se_isi2 G.hier hKX (q := .b "tuple") (q' := .b "list") (show "tuple" ∈ tyq by decide) (show "list" ∈ tyq by decide) rfl G.n_isinstance (se_name (i := 1) rfl (.inl (by kernel_rfl))) (pe_bltn (v := .ty "tuple") rfl G.n_tuple (by rfl) rfl) (pe_bltn (v := .ty "list") rfl G.n_list (by rfl) rfl))) (ss_cons (ss_if (sb_w (sw_or (sb_2 (fun _ _ h1 h2 => pt_cmpR (op_neD hr.units) h1 h2 rfl) rd_ne (se_isi G.hier hKX (q := .b "tuple") (show "tuple" ∈ tyq by decide) rfl G.n_isinstance (se_name (i := 0) rfl (.inl (by kernel_rfl))) (pe_bltn (v := .ty "tuple") rfl G.n_tuple (by rfl) rfl)) (se_isi G.hier hKX (q := .b "tuple") (show "tuple" ∈ tyq by decide) rfl G.n_isinstance (se_name (i := 1) rfl (.inl (by kernel_rfl))) (pe_bltn (v := .ty "tuple") rfl G.n_tuple (by rfl) rfl))) (sw_or1 (sb_not (sb_val (se_isi2 G.hier hKX (q := .b "tuple") (q' := .b "list") (show "tuple" ∈ tyq by decide) (show "list" ∈ tyq by decide) rfl G.n_isinstance (se_name (i := 0) rfl (.inl (by kernel_rfl))) (pe_bltn (v := .ty "tuple") rfl G.n_tuple (by rfl) rfl) (pe_bltn (v := .ty "list") rfl G.n_list (by rfl) rfl))))))) (ss_cons (ss_ret se_bl) ss_nil) ss_nil) (ss_cons (ss_ret (se_and (se_2 (fun _ _ h1 h2 => pe_cmpR (op_eqD hr.units) h1 h2 rfl) rd_eq (se_B (fun _ ht => pe_callB cr_len rfl G.n_len (by rfl) ht) rd_len (sa_cons (se_name (i := 0) rfl (.inl (by kernel_rfl))) sa_nil)) (se_B (fun _ ht => pe_callB cr_len rfl G.n_len (by rfl) ht) rd_len (sa_cons (se_name (i := 1) rfl (.inl (by kernel_rfl))) sa_nil))) (se_one (se_B (fun _ ht => pe_callB (cr_all rfl) rfl G.n_all (by rfl) ht) rd_all (sa_cons (se_lc G.hz rfl ndX (own := [("two", 2), ("other", 3)]) (si_zip hKX rfl G.n_zip (se_name (i := 0) rfl (.inl (by kernel_rfl))) (se_name (i := 1) rfl (.inl (by kernel_rfl)))) (blkOk_by (by kernel_rfl)) (fun _ _ _ _ _ => (sg_tup rfl (sgs_cons (sg_name ndX rfl (.inl (by kernel_rfl))) (sgs_cons (sg_name ndX rfl (.inl (by kernel_rfl))) sgs_nil)))) (fun _ _ _ _ _ => sp_nil) (fun _ _ _ _ _ => (se_def G.d__law_same (hr.mono (by omega)) rfl (sr_v (se_name (i := 2) rfl (.inl (by kernel_rfl))) (sr_v (se_name (i := 3) rfl (.inl (by kernel_rfl))) sr_nil))))) sa_nil))))) ss_nil)) ss_nil) (ss_cons (ss_if (sb_w (sw_or (sb_val (se_isi G.hier hKX (q := .b "bool") (show "bool" ∈ tyq by decide) rfl G.n_isinstance (se_name (i := 1) rfl (.inl (by kernel_rfl))) (pe_bltn (v := .ty "bool") rfl G.n_bool (by rfl) rfl))) (sw_or (sb_val (se_isi G.hier hKX (q := .b "bool") (show "bool" ∈ tyq by decide) rfl G.n_isinstance (se_name (i := 0) rfl (.inl (by kernel_rfl))) (pe_bltn (v := .ty "bool") rfl G.n_bool (by rfl) rfl))) (sw_or (sb_2 (fun _ _ h1 h2 => pt_cmpR op_isN h1 h2 rfl) rd_is (se_name (i := 1) rfl (.inl (by kernel_rfl))) se_non) (sw_or1 (sb_2 (fun _ _ h1 h2 => pt_cmpR op_isN h1 h2 rfl) rd_is (se_name (i := 0) rfl (.inl (by kernel_rfl))) se_non)))))) (ss_cons (ss_ret (se_and (se_2 (fun _ _ h1 h2 => pe_cmpR (op_eqD hr.units) h1 h2 rfl) rd_eq (se_isi G.hier hKX (q := .b "bool") (show "bool" ∈ tyq by decide) rfl G.n_isinstance (se_name (i := 0) rfl (.inl (by kernel_rfl))) (pe_bltn (v := .ty "bool") rfl G.n_bool (by rfl) rfl)) (se_isi G.hier hKX (q := .b "bool") (show "bool" ∈ tyq by decide) rfl G.n_isinstance (se_name (i := 1) rfl (.inl (by kernel_rfl))) (pe_bltn (v := .ty "bool") rfl G.n_bool (by rfl) rfl))) (se_and (se_2 (fun _ _ h1 h2 => pe_cmpR (op_eqD hr.units) h1 h2 rfl) rd_eq (se_2 (fun _ _ h1 h2 => pe_cmpR op_isN h1 h2 rfl) rd_is (se_name (i := 0) rfl (.inl (by kernel_rfl))) se_non) (se_2 (fun _ _ h1 h2 => pe_cmpR op_isN h1 h2 rfl) rd_is (se_name (i := 1) rfl (.inl (by kernel_rfl))) se_non)) (se_one (se_2 (fun _ _ h1 h2 => pe_cmpR (op_eqD hr.units) h1 h2 rfl) rd_eq (se_name (i := 0) rfl (.inl (by kernel_rfl))) (se_name (i := 1) rfl (.inl (by kernel_rfl)))))))) ss_nil) ss_nil) (ss_cons (ss_ret (se_and (se_2 (fun _ _ h1 h2 => pe_cmpR (op_eqD hr.units) h1 h2 rfl) rd_eq (se_isi G.hier hKX (q := .b "str") (show "str" ∈ tyq by decide) rfl G.n_isinstance (se_name (i := 0) rfl (.inl (by kernel_rfl))) (pe_bltn (v := .ty "str") rfl G.n_str (by rfl) rfl)) (se_isi G.hier hKX (q := .b "str") (show "str" ∈ tyq by decide) rfl G.n_isinstance (se_name (i := 1) rfl (.inl (by kernel_rfl))) (pe_bltn (v := .ty "str") rfl G.n_str (by rfl) rfl))) (se_and (se_isi2 G.hier hKX (q := .b "int") (q' := .b "str") (show "int" ∈ tyq by decide) (show "str" ∈ tyq by decide) rfl G.n_isinstance (se_name (i := 0) rfl (.inl (by kernel_rfl))) (pe_bltn (v := .ty "int") rfl G.n_int (by rfl) rfl) (pe_bltn (v := .ty "str") rfl G.n_str (by rfl) rfl)) (se_one (se_2 (fun _ _ h1 h2 => pe_cmpR (op_eqD hr.units) h1 h2 rfl) rd_eq (se_name (i := 0) rfl (.inl (by kernel_rfl))) (se_name (i := 1) rfl (.inl (by kernel_rfl)))))))) ss_nil)))
theorem sc_18 : FnScope (["hand", "many", "way", "at", "found"] : List Str) (["hand", "many"] : List Str) (defScope s_18) := ⟨rfl, rfl, rfl, by decide +kernel, rfl, by decide +kernel, by decide +kernel⟩
theorem t_18 {P : Program} {w : World} {mg : Str → Option Value} {base : Heap} {Γ : VI.Ctx} {call : Call} {k m : Nat} {tb : Nat → Addr × Addr} (G : GG P w Γ mg base call k tb) (hm : k + 12 ≤ m) {f : Addr} {cdv : Value} {A : Around} {outer : List Env} {s : Shared} {H : Hp} {E : XK} {pins : List Nat}
    (hr : Room m (A.deeper (envOfC "_law_wishes" (defScope s_18) s.heap.objs.size f cdv))) : SSs Γ pins (cxOf (L2.CX P w) P w Γ.K mg base (["hand", "many", "way", "at", "found"] : List Str) "_law_wishes" (defScope s_18) f cdv A outer s H E) (defBody s_18) (b_18 call pins) := by
  have ndX : ((["hand", "many", "way", "at", "found"] : List Str) : List Str).Nodup := sc_18.nd
  have hpX := passes_of (X := cxOf (L2.CX P w) P w Γ.K mg base (["hand", "many", "way", "at", "found"] : List Str) "_law_wishes" (defScope s_18) f cdv A outer s H E) rfl
  have hKX : Γ.K = Γ.K := rfl
  exact (ss_cons (ss_set ndX (i := 2) rfl (.inl (by kernel_rfl)) (se_def G.d__law_draw (hr.mono (by omega)) rfl (sr_r (i := 0) rfl (.inr (.inl (by kernel_rfl))) (sr_v se_int sr_nil)))) (ss_cons (ss_if (sb_2 (fun _ _ h1 h2 => pt_cmpR op_lt h1 h2 rfl) rd_lt (se_name (i := 2) rfl (.inl (by kernel_rfl))) se_int) (ss_cons (ss_set ndX (i := 4) rfl (.inl (by kernel_rfl)) (se_def G.d__law_mixed (hr.mono (by omega)) rfl (sr_r (i := 0) rfl (.inr (.inl (by kernel_rfl))) (sr_v (se_lc G.hz rfl ndX (own := [("at", 3)]) (si_rng1 rfl G.n_range (sa_cons (se_name (i := 1) rfl (.inr (.inl (by kernel_rfl)))) sa_nil)) (blkOk_by (by kernel_rfl)) (fun _ _ _ _ _ => (sg_name ndX rfl (.inl (by kernel_rfl)))) (fun _ _ _ _ _ => sp_nil) (fun _ _ _ _ _ => (se_def G.d__law_draw (hr.mono (by omega)) rfl (sr_r (i := 0) rfl (.inr (.inl (by kernel_rfl))) (sr_v (se_2 (fun _ _ h1 h2 => pe_op opr_add h1 h2) rd_add (se_name (i := 3) rfl (.inl (by kernel_rfl))) se_int) sr_nil))))) sr_nil)))) (ss_cons (ss_if (sb_2 (fun _ _ h1 h2 => pt_cmpR (op_eqD hr.units) h1 h2 rfl) rd_eq (se_name (i := 2) rfl (.inl (by kernel_rfl))) se_int) (ss_cons (ss_set ndX (i := 3) rfl (.inl (by kernel_rfl)) (se_def G.d__law_draw (hr.mono (by omega)) rfl (sr_r (i := 0) rfl (.inr (.inl (by kernel_rfl))) (sr_v (se_name (i := 1) rfl (.inr (.inl (by kernel_rfl)))) sr_nil)))) (ss_cons (ss_setI (i := 4) rfl (.inl (by kernel_rfl)) (se_name (i := 3) rfl (.inl (by kernel_rfl))) (se_B (fun _ ht => pe_callB (call_min2 rfl) rfl G.n_min (by rfl) ht) rd_min2 (sa_cons (se_2 (fun _ _ h1 h2 => pe_op op_sub h1 h2) rd_sub (se_name (i := 1) rfl (.inr (.inl (by kernel_rfl)))) se_int) (sa_cons (se_2 (fun _ _ h1 h2 => pe_op opr_add h1 h2) rd_add (se_2 (fun _ _ h1 h2 => pe_op opr_add h1 h2) rd_add (se_2 (fun _ _ h1 h2 => pe_ix ix_seq h1 h2 (fun _ _ => rfl)) rd_ix (se_name (i := 4) rfl (.inl (by kernel_rfl))) (se_name (i := 3) rfl (.inl (by kernel_rfl)))) se_int) (se_def G.d__law_draw (hr.mono (by omega)) rfl (sr_r (i := 0) rfl (.inr (.inl (by kernel_rfl))) (sr_v se_int sr_nil)))) sa_nil)))) ss_nil)) ss_nil) (ss_cons (ss_ret (se_B (fun _ ht => pe_callTy (cr_tupG rfl) rfl G.n_tuple (by rfl) ht) rd_tupG (sa_cons (se_name (i := 4) rfl (.inl (by kernel_rfl))) sa_nil))) ss_nil))) ss_nil) (ss_cons (ss_if (sb_2 (fun _ _ h1 h2 => pt_cmpR (op_eqD hr.units) h1 h2 rfl) rd_eq (se_name (i := 2) rfl (.inl (by kernel_rfl))) se_int) (ss_cons (ss_ret (se_2 (fun _ _ h1 h2 => pe_op opr_mulW h1 h2) rd_mulW (se_tup (sa_cons (se_def G.d__law_draw (hr.mono (by omega)) rfl (sr_r (i := 0) rfl (.inr (.inl (by kernel_rfl))) (sr_v (se_name (i := 1) rfl (.inr (.inl (by kernel_rfl)))) sr_nil))) sa_nil)) (se_name (i := 1) rfl (.inr (.inl (by kernel_rfl)))))) ss_nil) ss_nil) (ss_cons (ss_if (sb_2 (fun _ _ h1 h2 => pt_cmpR (op_eqD hr.units) h1 h2 rfl) rd_eq (se_name (i := 2) rfl (.inl (by kernel_rfl))) se_int) (ss_cons (ss_ret (se_rev hKX (se_trg1 rfl rfl G.n_tuple rfl G.n_range (se_name (i := 1) rfl (.inr (.inl (by kernel_rfl))))))) ss_nil) ss_nil) (ss_cons (ss_ret (se_B (fun _ ht => pe_callTy (cr_tupG rfl) rfl G.n_tuple (by rfl) ht) rd_tupG (sa_cons (se_lc G.hz rfl ndX (own := [("at", 3)]) (si_rng1 rfl G.n_range (sa_cons (se_name (i := 1) rfl (.inr (.inl (by kernel_rfl)))) sa_nil)) (blkOk_by (by kernel_rfl)) (fun _ _ _ _ _ => (sg_name ndX rfl (.inl (by kernel_rfl)))) (fun _ _ _ _ _ => sp_nil) (fun _ _ _ _ _ => (se_def G.d__law_draw (hr.mono (by omega)) rfl (sr_r (i := 0) rfl (.inr (.inl (by kernel_rfl))) (sr_v (se_name (i := 1) rfl (.inr (.inl (by kernel_rfl)))) sr_nil))))) sa_nil))) ss_nil)))))
theorem sc_19 : FnScope (["wishes", "taken", "found", "wish", "spot"] : List Str) (["wishes"] : List Str) (defScope s_19) := ⟨rfl, rfl, rfl, by decide +kernel, rfl, by decide +kernel, by decide +kernel⟩
theorem t_19 {P : Program} {w : World} {mg : Str → Option Value} {base : Heap} {Γ : VI.Ctx} {call : Call} {k m : Nat} {tb : Nat → Addr × Addr} (G : GG P w Γ mg base call k tb) (hm : k + 12 ≤ m) {f : Addr} {cdv : Value} {A : Around} {outer : List Env} {s : Shared} {H : Hp} {E : XK} {pins : List Nat}
    (hr : Room m (A.deeper (envOfC "_law_parked" (defScope s_19) s.heap.objs.size f cdv))) : SSs Γ pins (cxOf (L2.CX P w) P w Γ.K mg base (["wishes", "taken", "found", "wish", "spot"] : List Str) "_law_parked" (defScope s_19) f cdv A outer s H E) (defBody s_19) (b_19 call pins) := by
  have ndX : ((["wishes", "taken", "found", "wish", "spot"] : List Str) : List Str).Nodup := sc_19.nd
  have hpX := passes_of (X := cxOf (L2.CX P w) P w Γ.K mg base (["wishes", "taken", "found", "wish", "spot"] : List Str) "_law_parked" (defScope s_19) f cdv A outer s H E) rfl
  have hKX : Γ.K = Γ.K := rfl
  exact (ss_cons (ss_par (i := 1) (j := 2) rfl ndX rfl rfl (by decide) rfl rfl se_dic0 (se_lst sa_nil)) (ss_cons (ss_for hpX rfl (si_seq hKX (se_name (i := 0) rfl (.inl (by kernel_rfl)))) (sg_name ndX rfl (.inl (by kernel_rfl))) (ss_cons (ss_set ndX (i := 4) rfl (.inl (by kernel_rfl)) (se_name (i := 3) rfl (.inl (by kernel_rfl)))) (ss_cons (ss_while hpX (sb_2 (fun _ _ h1 h2 => pt_cmpR (opr_inDK (by have h1 := room1 hr; exact h1)) h1 h2 rfl) rd_inDK (se_name (i := 4) rfl (.inl (by kernel_rfl))) (se_name (i := 1) rfl (.inl (by kernel_rfl)))) (ss_cons (ss_set ndX (i := 4) rfl (.inl (by kernel_rfl)) (se_2 (fun _ _ h1 h2 => pe_op opr_add h1 h2) rd_add (se_name (i := 4) rfl (.inl (by kernel_rfl))) se_int)) ss_nil)) (ss_cons (ss_app (i := 2) rfl (.inl (by kernel_rfl)) (se_if (sb_2 (fun _ _ h1 h2 => pt_cmpR op_lt h1 h2 rfl) rd_lt (se_name (i := 4) rfl (.inl (by kernel_rfl))) (se_B (fun _ ht => pe_callB cr_len rfl G.n_len (by rfl) ht) rd_len (sa_cons (se_name (i := 0) rfl (.inl (by kernel_rfl))) sa_nil))) (se_name (i := 4) rfl (.inl (by kernel_rfl))) se_non)) (ss_cons (ss_if (sb_2 (fun _ _ h1 h2 => pt_cmpR op_lt h1 h2 rfl) rd_lt (se_name (i := 4) rfl (.inl (by kernel_rfl))) (se_B (fun _ ht => pe_callB cr_len rfl G.n_len (by rfl) ht) rd_len (sa_cons (se_name (i := 0) rfl (.inl (by kernel_rfl))) sa_nil))) (ss_cons (ss_setD (by have h1 := room1 hr; exact h1) (i := 1) rfl (.inl (by kernel_rfl)) (se_name (i := 4) rfl (.inl (by kernel_rfl))) se_bl) ss_nil) ss_nil) ss_nil))))) (ss_cons (ss_ret (se_B (fun _ ht => pe_callTy (cr_tupG rfl) rfl G.n_tuple (by rfl) ht) rd_tupG (sa_cons (se_name (i := 2) rfl (.inl (by kernel_rfl))) sa_nil))) ss_nil)))
theorem sc_20 : FnScope (["wishes", "at", "wish"] : List Str) (["wishes"] : List Str) (defScope s_20) := ⟨rfl, rfl, rfl, by decide +kernel, rfl, by decide +kernel, by decide +kernel⟩
theorem t_20 {P : Program} {w : World} {mg : Str → Option Value} {base : Heap} {Γ : VI.Ctx} {call : Call} {k m : Nat} {tb : Nat → Addr × Addr} (G : GG P w Γ mg base call k tb) (hm : k + 12 ≤ m) {f : Addr} {cdv : Value} {A : Around} {outer : List Env} {s : Shared} {H : Hp} {E : XK} {pins : List Nat}
    (hr : Room m (A.deeper (envOfC "_law_short" (defScope s_20) s.heap.objs.size f cdv))) : SSs Γ pins (cxOf (L2.CX P w) P w Γ.K mg base (["wishes", "at", "wish"] : List Str) "_law_short" (defScope s_20) f cdv A outer s H E) (defBody s_20) (b_20 call pins) := by
  have ndX : ((["wishes", "at", "wish"] : List Str) : List Str).Nodup := sc_20.nd
  have hpX := passes_of (X := cxOf (L2.CX P w) P w Γ.K mg base (["wishes", "at", "wish"] : List Str) "_law_short" (defScope s_20) f cdv A outer s H E) rfl
  have hKX : Γ.K = Γ.K := rfl
  exact (ss_cons (ss_for hpX rfl (si_rng1 rfl G.n_range (sa_cons (se_B (fun _ ht => pe_callB cr_len rfl G.n_len (by rfl) ht) rd_len (sa_cons (se_name (i := 0) rfl (.inl (by kernel_rfl))) sa_nil)) sa_nil)) (sg_name ndX rfl (.inr (by kernel_rfl))) (ss_cons (ss_if (sb_2 (fun _ _ h1 h2 => pt_cmpR op_le h1 h2 rfl) rd_le (se_B (fun _ ht => pe_callB cr_len rfl G.n_len (by rfl) ht) rd_len (sa_cons (se_lc G.hz rfl ndX (own := [("wish", 2)]) (si_seq hKX (se_name (i := 0) rfl (.inl (by kernel_rfl)))) (blkOk_by (by kernel_rfl)) (fun _ _ _ _ _ => (sg_name ndX rfl (.inl (by kernel_rfl)))) (fun _ _ _ _ _ => (sp_one (sb_2 (fun _ _ h1 h2 => pt_cmpR op_le h1 h2 rfl) rd_le (se_name (i := 2) rfl (.inl (by kernel_rfl))) (se_name (i := 1) rfl (.inr (.inl (by kernel_rfl))))))) (fun _ _ _ _ _ => (se_name (i := 2) rfl (.inl (by kernel_rfl))))) sa_nil)) (se_name (i := 1) rfl (.inr (.inl (by kernel_rfl))))) (ss_cons (ss_ret (se_name (i := 1) rfl (.inr (.inl (by kernel_rfl))))) ss_nil) ss_nil) ss_nil)) (ss_cons (ss_ret se_non) ss_nil))
theorem sc_21 : FnScope (["thing", "wish"] : List Str) (["thing"] : List Str) (defScope s_21) := ⟨rfl, rfl, rfl, by decide +kernel, rfl, by decide +kernel, by decide +kernel⟩
theorem t_21 {P : Program} {w : World} {mg : Str → Option Value} {base : Heap} {Γ : VI.Ctx} {call : Call} {k m : Nat} {tb : Nat → Addr × Addr} (G : GG P w Γ mg base call k tb) (hm : k + 12 ≤ m) {f : Addr} {cdv : Value} {A : Around} {outer : List Env} {s : Shared} {H : Hp} {E : XK} {pins : List Nat}
    (hr : Room m (A.deeper (envOfC "_law_are_wishes" (defScope s_21) s.heap.objs.size f cdv))) : SSs Γ pins (cxOf (L2.CX P w) P w Γ.K mg base (["thing", "wish"] : List Str) "_law_are_wishes" (defScope s_21) f cdv A outer s H E) (defBody s_21) (b_21 call pins) := by
  have ndX : ((["thing", "wish"] : List Str) : List Str).Nodup := sc_21.nd
  have hpX := passes_of (X := cxOf (L2.CX P w) P w Γ.K mg base (["thing", "wish"] : List Str) "_law_are_wishes" (defScope s_21) f cdv A outer s H E) rfl
  have hKX : Γ.K = Γ.K := rfl
  exact (ss_cons (ss_if (sb_w (sw_or (sb_not (sb_val (se_isi G.hier hKX (q := .b "tuple") (show "tuple" ∈ tyq by decide) rfl G.n_isinstance (se_name (i := 0) rfl (.inr (.inl (by kernel_rfl)))) (pe_bltn (v := .ty "tuple") rfl G.n_tuple (by rfl) rfl)))) (sw_or1 (sb_not (sb_ch op_le op_le rd_le rd_le se_int (se_B (fun _ ht => pe_callB cr_len rfl G.n_len (by rfl) ht) rd_len (sa_cons (se_name (i := 0) rfl (.inr (.inl (by kernel_rfl)))) sa_nil)) se_int))))) (ss_cons (ss_ret se_bl) ss_nil) ss_nil) (ss_cons (ss_if (sb_not (sb_val (se_B (fun _ ht => pe_callB (cr_all rfl) rfl G.n_all (by rfl) ht) rd_all (sa_cons (se_lc G.hz rfl ndX (own := [("wish", 1)]) (si_seq hKX (se_name (i := 0) rfl (.inr (.inl (by kernel_rfl))))) (blkOk_by (by kernel_rfl)) (fun _ _ _ _ _ => (sg_name ndX rfl (.inl (by kernel_rfl)))) (fun _ _ _ _ _ => sp_nil) (fun _ _ _ _ _ => (se_and (se_isi G.hier hKX (q := .b "int") (show "int" ∈ tyq by decide) rfl G.n_isinstance (se_name (i := 1) rfl (.inl (by kernel_rfl))) (pe_bltn (v := .ty "int") rfl G.n_int (by rfl) rfl)) (se_one (se_not (se_isi G.hier hKX (q := .b "bool") (show "bool" ∈ tyq by decide) rfl G.n_isinstance (se_name (i := 1) rfl (.inl (by kernel_rfl))) (pe_bltn (v := .ty "bool") rfl G.n_bool (by rfl) rfl))))))) sa_nil)))) (ss_cons (ss_ret se_bl) ss_nil) ss_nil) (ss_cons (ss_ret (se_B (fun _ ht => pe_callB (cr_all rfl) rfl G.n_all (by rfl) ht) rd_all (sa_cons (se_lc G.hz rfl ndX (own := [("wish", 1)]) (si_seq hKX (se_name (i := 0) rfl (.inr (.inl (by kernel_rfl))))) (blkOk_by (by kernel_rfl)) (fun _ _ _ _ _ => (sg_name ndX rfl (.inl (by kernel_rfl)))) (fun _ _ _ _ _ => sp_nil) (fun _ _ _ _ _ => (se_ch op_le op_lt rd_le rd_lt se_int (se_name (i := 1) rfl (.inl (by kernel_rfl))) (se_B (fun _ ht => pe_callB cr_len rfl G.n_len (by rfl) ht) rd_len (sa_cons (se_name (i := 0) rfl (.inr (.inl (by kernel_rfl)))) sa_nil))))) sa_nil))) ss_nil)))
theorem sc_23 : FnScope (["hand", "found", "turn"] : List Str) (["hand"] : List Str) (defScope s_23) := ⟨rfl, rfl, rfl, by decide +kernel, rfl, by decide +kernel, by decide +kernel⟩
theorem t_23 {P : Program} {w : World} {mg : Str → Option Value} {base : Heap} {Γ : VI.Ctx} {call : Call} {k m : Nat} {tb : Nat → Addr × Addr} (G : GG P w Γ mg base call k tb) (hm : k + 12 ≤ m) {f : Addr} {cdv : Value} {A : Around} {outer : List Env} {s : Shared} {H : Hp} {E : XK} {pins : List Nat}
    (hr : Room m (A.deeper (envOfC "_law_deep" (defScope s_23) s.heap.objs.size f cdv))) : SSs Γ pins (cxOf (L2.CX P w) P w Γ.K mg base (["hand", "found", "turn"] : List Str) "_law_deep" (defScope s_23) f cdv A outer s H E) (defBody s_23) (b_23 call pins) := by
  have ndX : ((["hand", "found", "turn"] : List Str) : List Str).Nodup := sc_23.nd
  have hpX := passes_of (X := cxOf (L2.CX P w) P w Γ.K mg base (["hand", "found", "turn"] : List Str) "_law_deep" (defScope s_23) f cdv A outer s H E) rfl
  have hKX : Γ.K = Γ.K := rfl
  exact (ss_cons (ss_set ndX (i := 1) rfl (.inl (by kernel_rfl)) (se_def G.d__law_any (hr.mono (by omega)) rfl (sr_r (i := 0) rfl (.inl (by kernel_rfl)) (sr_v (se_lst (sa_cons se_non (sa_cons (se_1 (fun _ h1 => pe_un un_neg h1) rd_neg se_int) (sa_cons se_str (sa_cons se_bl sa_nil))))) sr_nil)))) (ss_cons (ss_for hpX rfl (si_rng1 rfl G.n_range (sa_cons (se_2 (fun _ _ h1 h2 => pe_op opr_add h1 h2) rd_add se_int (se_def G.d__law_draw (hr.mono (by omega)) rfl (sr_r (i := 0) rfl (.inl (by kernel_rfl)) (sr_v se_int sr_nil)))) sa_nil)) (sg_name ndX rfl (.inl (by kernel_rfl))) (ss_cons (ss_set ndX (i := 1) rfl (.inl (by kernel_rfl)) (se_2 (fun _ _ h1 h2 => pe_ix ix_seq h1 h2 (fun _ _ => rfl)) rd_ix (se_lst (sa_cons (se_tup (sa_cons (se_name (i := 1) rfl (.inl (by kernel_rfl))) sa_nil)) (sa_cons (se_lst (sa_cons (se_name (i := 1) rfl (.inl (by kernel_rfl))) sa_nil)) (sa_cons (se_dicI (se_name (i := 1) rfl (.inl (by kernel_rfl)))) sa_nil)))) (se_def G.d__law_draw (hr.mono (by omega)) rfl (sr_r (i := 0) rfl (.inl (by kernel_rfl)) (sr_v se_int sr_nil))))) ss_nil)) (ss_cons (ss_ret (se_name (i := 1) rfl (.inl (by kernel_rfl)))) ss_nil)))
theorem sc_24 : FnScope (["hand", "wishes", "at", "many", "odd", "bent", "some"] : List Str) (["hand", "wishes"] : List Str) (defScope s_24) := ⟨rfl, rfl, rfl, by decide +kernel, rfl, by decide +kernel, by decide +kernel⟩
theorem t_24 {P : Program} {w : World} {mg : Str → Option Value} {base : Heap} {Γ : VI.Ctx} {call : Call} {k m : Nat} {tb : Nat → Addr × Addr} (G : GG P w Γ mg base call k tb) (hm : k + 12 ≤ m) {f : Addr} {cdv : Value} {A : Around} {outer : List Env} {s : Shared} {H : Hp} {E : XK} {pins : List Nat}
    (hr : Room m (A.deeper (envOfC "_law_bent" (defScope s_24) s.heap.objs.size f cdv))) : SSs Γ pins (cxOf (L2.CX P w) P w Γ.K mg base (["hand", "wishes", "at", "many", "odd", "bent", "some"] : List Str) "_law_bent" (defScope s_24) f cdv A outer s H E) (defBody s_24) (b_24 call pins) := by
  have ndX : ((["hand", "wishes", "at", "many", "odd", "bent", "some"] : List Str) : List Str).Nodup := sc_24.nd
  have hpX := passes_of (X := cxOf (L2.CX P w) P w Γ.K mg base (["hand", "wishes", "at", "many", "odd", "bent", "some"] : List Str) "_law_bent" (defScope s_24) f cdv A outer s H E) rfl
  have hKX : Γ.K = Γ.K := rfl
  exact (ss_cons (ss_par (i := 2) (j := 3) rfl ndX rfl rfl (by decide) rfl rfl (se_def G.d__law_draw (hr.mono (by omega)) rfl (sr_r (i := 0) rfl (.inl (by kernel_rfl)) (sr_v (se_B (fun _ ht => pe_callB cr_len rfl G.n_len (by rfl) ht) rd_len (sa_cons (se_name (i := 1) rfl (.inl (by kernel_rfl))) sa_nil)) sr_nil))) (se_B (fun _ ht => pe_callB cr_len rfl G.n_len (by rfl) ht) rd_len (sa_cons (se_name (i := 1) rfl (.inl (by kernel_rfl))) sa_nil))) (ss_cons (ss_set ndX (i := 4) rfl (.inl (by kernel_rfl)) (se_def G.d__law_any (hr.mono (by omega)) rfl (sr_r (i := 0) rfl (.inl (by kernel_rfl)) (sr_v (se_lst (sa_cons (se_name (i := 3) rfl (.inl (by kernel_rfl))) (sa_cons (se_1 (fun _ h1 => pe_un un_neg h1) rd_neg se_int) (sa_cons se_bl (sa_cons se_bl (sa_cons se_non (sa_cons se_str (sa_cons (se_tup (sa_cons se_int sa_nil)) (sa_cons (se_lst (sa_cons se_int sa_nil)) (sa_cons se_dic0 (sa_cons (se_2 (fun _ _ h1 h2 => pe_op op_pow h1 h2) rd_pow se_int se_int) (sa_cons (se_def G.d__law_draw (hr.mono (by omega)) rfl (sr_r (i := 0) rfl (.inl (by kernel_rfl)) (sr_v (se_name (i := 3) rfl (.inl (by kernel_rfl))) sr_nil))) sa_nil)))))))))))) sr_nil)))) (ss_cons (ss_set ndX (i := 5) rfl (.inl (by kernel_rfl)) (se_2 (fun _ _ h1 h2 => pe_op opr_add h1 h2) rd_add (se_2 (fun _ _ h1 h2 => pe_op opr_add h1 h2) rd_add (se_sl01 hKX (se_name (i := 1) rfl (.inl (by kernel_rfl))) (se_name (i := 2) rfl (.inl (by kernel_rfl)))) (se_tup (sa_cons (se_name (i := 4) rfl (.inl (by kernel_rfl))) sa_nil))) (se_sl10 hKX (se_name (i := 1) rfl (.inl (by kernel_rfl))) (se_2 (fun _ _ h1 h2 => pe_op opr_add h1 h2) rd_add (se_name (i := 2) rfl (.inl (by kernel_rfl))) se_int)))) (ss_cons (ss_set ndX (i := 6) rfl (.inl (by kernel_rfl)) (se_lst (sa_cons (se_name (i := 5) rfl (.inl (by kernel_rfl))) (sa_cons (se_name (i := 5) rfl (.inl (by kernel_rfl))) (sa_cons (se_name (i := 5) rfl (.inl (by kernel_rfl))) (sa_cons (se_name (i := 5) rfl (.inl (by kernel_rfl))) (sa_cons (se_B (fun _ ht => pe_callTy call_list_of rfl G.n_list (by rfl) ht) rd_list (sa_cons (se_name (i := 1) rfl (.inl (by kernel_rfl))) sa_nil)) (sa_cons (se_tup sa_nil) (sa_cons se_non (sa_cons se_int (sa_cons se_str (sa_cons se_dic0 (sa_cons (se_tup (sa_cons (se_name (i := 1) rfl (.inl (by kernel_rfl))) sa_nil)) (sa_cons (se_lst sa_nil) (sa_cons (se_2 (fun _ _ h1 h2 => pe_op opr_mulW h1 h2) rd_mulW (se_tup (sa_cons se_int sa_nil)) se_int) (sa_cons (se_2 (fun _ _ h1 h2 => pe_op opr_add h1 h2) rd_add (se_name (i := 1) rfl (.inl (by kernel_rfl))) (se_tup (sa_cons (se_2 (fun _ _ h1 h2 => pe_op opr_add h1 h2) rd_add (se_name (i := 3) rfl (.inl (by kernel_rfl))) se_int) sa_nil))) sa_nil)))))))))))))))) (ss_cons (ss_ret (se_def G.d__law_any (hr.mono (by omega)) rfl (sr_r (i := 0) rfl (.inl (by kernel_rfl)) (sr_v (se_2 (fun _ _ h1 h2 => pe_op opr_add h1 h2) rd_add (se_name (i := 6) rfl (.inl (by kernel_rfl))) (se_lst (sa_cons (se_2 (fun _ _ h1 h2 => pe_op opr_add h1 h2) rd_add (se_sl01 hKX (se_name (i := 1) rfl (.inl (by kernel_rfl))) (se_name (i := 2) rfl (.inl (by kernel_rfl)))) (se_sl10 hKX (se_name (i := 1) rfl (.inl (by kernel_rfl))) (se_2 (fun _ _ h1 h2 => pe_op opr_add h1 h2) rd_add (se_name (i := 2) rfl (.inl (by kernel_rfl))) se_int))) (sa_cons (se_def G.d__law_deep (hr.mono (by omega)) rfl (sr_r (i := 0) rfl (.inl (by kernel_rfl)) sr_nil)) (sa_cons (se_2 (fun _ _ h1 h2 => pe_op opr_mulW h1 h2) rd_mulW (se_tup (sa_cons se_int sa_nil)) se_int) sa_nil))))) sr_nil)))) ss_nil)))))
theorem sc_25 : FnScope (["hand", "wishes", "spots", "before", "all_park", "told", "other", "later", "car", "spot"] : List Str) (["hand", "wishes"] : List Str) (defScope s_25) := ⟨rfl, rfl, rfl, by decide +kernel, rfl, by decide +kernel, by decide +kernel⟩
theorem t_25 {P : Program} {w : World} {mg : Str → Option Value} {base : Heap} {Γ : VI.Ctx} {call : Call} {k m : Nat} {tb : Nat → Addr × Addr} (G : GG P w Γ mg base call k tb) (hm : k + 12 ≤ m) {f : Addr} {cdv : Value} {A : Around} {outer : List Env} {s : Shared} {H : Hp} {E : XK} {pins : List Nat} (hcode : cdv = .ref (tb 25).1) (hgd : A.guards = some [])
    (hr : Room m (A.deeper (envOfC "_law_is_right" (defScope s_25) s.heap.objs.size f cdv))) : SSs Γ pins (cxOf (L2.CX P w) P w Γ.K mg base (["hand", "wishes", "spots", "before", "all_park", "told", "other", "later", "car", "spot"] : List Str) "_law_is_right" (defScope s_25) f cdv A outer s H E) (defBody s_25) (b_25 call pins) := by
  have ndX : ((["hand", "wishes", "spots", "before", "all_park", "told", "other", "later", "car", "spot"] : List Str) : List Str).Nodup := sc_25.nd
  have hpX := passes_of (X := cxOf (L2.CX P w) P w Γ.K mg base (["hand", "wishes", "spots", "before", "all_park", "told", "other", "later", "car", "spot"] : List Str) "_law_is_right" (defScope s_25) f cdv A outer s H E) rfl
  have hKX : Γ.K = Γ.K := rfl
  exact (ss_cons (ss_par (i := 2) (j := 3) rfl ndX rfl rfl (by decide) rfl rfl (se_def G.d__law_parked (hr.mono (by omega)) rfl (sr_v (se_name (i := 1) rfl (.inr (.inl (by kernel_rfl)))) sr_nil)) (se_B (fun _ ht => pe_callB (cr_repr hr (show A.guards = some [] from hgd)) rfl G.n_repr (by rfl) ht) rd_repr (sa_cons (se_name (i := 1) rfl (.inr (.inl (by kernel_rfl)))) sa_nil))) (ss_cons (ss_set ndX (i := 4) rfl (.inl (by kernel_rfl)) (se_2 (fun _ _ h1 h2 => pe_cmpR opr_notIn h1 h2 rfl) rd_notInG se_non (se_name (i := 2) rfl (.inl (by kernel_rfl))))) (ss_cons (ss_set ndX (i := 5) rfl (.inl (by kernel_rfl)) (se_lst (sa_cons (se_def G.d_park (hr.mono (by omega)) rfl (sr_v (se_name (i := 1) rfl (.inr (.inl (by kernel_rfl)))) sr_nil)) (sa_cons (se_def G.d_is_parking (hr.mono (by omega)) rfl (sr_v (se_name (i := 1) rfl (.inr (.inl (by kernel_rfl)))) sr_nil)) (sa_cons (se_def G.d_short_place (hr.mono (by omega)) rfl (sr_v (se_name (i := 1) rfl (.inr (.inl (by kernel_rfl)))) sr_nil)) (sa_cons (se_def G.d_ascending (hr.mono (by omega)) rfl (sr_v (se_name (i := 1) rfl (.inr (.inl (by kernel_rfl)))) sr_nil)) (sa_cons (se_def G.d_is_wishes (hr.mono (by omega)) rfl (sr_v (se_name (i := 1) rfl (.inr (.inl (by kernel_rfl)))) sr_nil)) sa_nil))))))) (ss_cons (ss_if (sb_not (sb_val (se_def G.d__law_same (hr.mono (by omega)) rfl (sr_v (se_name (i := 5) rfl (.inl (by kernel_rfl))) (sr_v (se_lst (sa_cons (se_name (i := 2) rfl (.inl (by kernel_rfl))) (sa_cons (se_name (i := 4) rfl (.inl (by kernel_rfl))) (sa_cons (se_def G.d__law_short (hr.mono (by omega)) rfl (sr_v (se_name (i := 1) rfl (.inr (.inl (by kernel_rfl)))) sr_nil)) (sa_cons (se_B (fun _ ht => pe_callTy (cr_tupG rfl) rfl G.n_tuple (by rfl) ht) rd_tupG (sa_cons (se_B (fun _ ht => pe_callB cr_sortedG rfl G.n_sorted (by rfl) ht) rd_sortedG (sa_cons (se_name (i := 1) rfl (.inr (.inl (by kernel_rfl)))) sa_nil)) sa_nil)) (sa_cons se_bl sa_nil)))))) sr_nil))))) (ss_cons (ss_ret se_bl) ss_nil) ss_nil) (ss_cons (ss_if (sb_2 (fun _ _ h1 h2 => pt_cmpR (op_neD hr.units) h1 h2 rfl) rd_ne (se_2 (fun _ _ h1 h2 => pe_cmpR op_isN h1 h2 rfl) rd_is (se_def G.d_short_place (hr.mono (by omega)) rfl (sr_v (se_name (i := 1) rfl (.inr (.inl (by kernel_rfl)))) sr_nil)) se_non) (se_name (i := 4) rfl (.inl (by kernel_rfl)))) (ss_cons (ss_ret se_bl) ss_nil) ss_nil) (ss_cons (ss_if (sb_not (sb_val (se_def G.d__law_same (hr.mono (by omega)) rfl (sr_v (se_def G.d_lucky (hr.mono (by omega)) rfl (sr_v (se_name (i := 1) rfl (.inr (.inl (by kernel_rfl)))) sr_nil)) (sr_v (se_B (fun _ ht => pe_callTy (cr_tupG rfl) rfl G.n_tuple (by rfl) ht) rd_tupG (sa_cons (se_lc G.hz rfl ndX (own := [("car", 8), ("spot", 9)]) (si_enu hKX rfl G.n_enumerate (se_name (i := 2) rfl (.inl (by kernel_rfl)))) (blkOk_by (by kernel_rfl)) (fun _ _ _ _ _ => (sg_tup rfl (sgs_cons (sg_name ndX rfl (.inl (by kernel_rfl))) (sgs_cons (sg_name ndX rfl (.inl (by kernel_rfl))) sgs_nil)))) (fun _ _ _ _ _ => (sp_one (sb_2 (fun _ _ h1 h2 => pt_cmpR (op_eqD hr.units) h1 h2 rfl) rd_eq (se_name (i := 9) rfl (.inl (by kernel_rfl))) (se_2 (fun _ _ h1 h2 => pe_ix ix_seq h1 h2 (fun _ _ => rfl)) rd_ix (se_name (i := 1) rfl (.inr (.inl (by kernel_rfl)))) (se_name (i := 8) rfl (.inl (by kernel_rfl))))))) (fun _ _ _ _ _ => (se_name (i := 8) rfl (.inl (by kernel_rfl))))) sa_nil)) sr_nil))))) (ss_cons (ss_ret se_bl) ss_nil) ss_nil) (ss_cons (ss_if (sb_val (se_name (i := 4) rfl (.inl (by kernel_rfl)))) (ss_cons (ss_if (sb_not (sb_val (se_def G.d__law_same (hr.mono (by omega)) rfl (sr_v (se_def G.d_driven (hr.mono (by omega)) rfl (sr_v (se_name (i := 1) rfl (.inr (.inl (by kernel_rfl)))) sr_nil)) (sr_v (se_2 (fun _ _ h1 h2 => pe_op op_sub h1 h2) rd_sub (se_B (fun _ ht => pe_callB (cr_sumG rfl) rfl G.n_sum (by rfl) ht) rd_sumG (sa_cons (se_name (i := 2) rfl (.inl (by kernel_rfl))) sa_nil)) (se_B (fun _ ht => pe_callB (cr_sumG rfl) rfl G.n_sum (by rfl) ht) rd_sumG (sa_cons (se_name (i := 1) rfl (.inr (.inl (by kernel_rfl)))) sa_nil))) sr_nil))))) (ss_cons (ss_ret se_bl) ss_nil) ss_nil) ss_nil) (ss_cons (ss_if (sb_not (sb_val (se_lamD (k := k + 8) (Ng0 := (["call", "error"] : List Str)) (dum := dum_25) G.l__law_refused G.hz rfl (by exact sc_22_25) rfl rfl rfl (by decide +kernel) (.inl rfl) (fun _ _ _ _ _ _ _ _ hr0 hact => t_22 G (by exact sc_22_25.nd) (Nat.le_refl _) hr0 hact) (G.tab_25) hcode (G.mem_25) (G.uni_25) (hr.mono (by omega)) (lamS_by (by kernel_rfl)) rfl (fun _ _ _ _ _ => rfl) (fun A outer s H E f c' hr => (se_def G.d_driven (hr.mono (by omega)) rfl (sr_v (se_name (i := 1) rfl (.inr (.inr (by kernel_rfl)))) sr_nil)))))) (ss_cons (ss_ret se_bl) ss_nil) ss_nil) ss_nil)) (ss_cons (ss_set ndX (i := 6) rfl (.inl (by kernel_rfl)) (se_B (fun _ ht => pe_callTy (cr_tupG rfl) rfl G.n_tuple (by rfl) ht) rd_tupG (sa_cons (se_def G.d__law_mixed (hr.mono (by omega)) rfl (sr_r (i := 0) rfl (.inl (by kernel_rfl)) (sr_v (se_B (fun _ ht => pe_callTy call_list_of rfl G.n_list (by rfl) ht) rd_list (sa_cons (se_name (i := 1) rfl (.inr (.inl (by kernel_rfl)))) sa_nil)) sr_nil))) sa_nil))) (ss_cons (ss_set ndX (i := 7) rfl (.inl (by kernel_rfl)) (se_def G.d_park (hr.mono (by omega)) rfl (sr_v (se_name (i := 6) rfl (.inl (by kernel_rfl))) sr_nil))) (ss_cons (ss_if (sb_2 (fun _ _ h1 h2 => pt_cmpR (op_neD hr.units) h1 h2 rfl) rd_ne (se_B (fun _ ht => pe_callB cr_sortedG rfl G.n_sorted (by rfl) ht) rd_sortedG (sa_cons (se_lc G.hz rfl ndX (own := [("spot", 9)]) (si_seq hKX (se_name (i := 7) rfl (.inl (by kernel_rfl)))) (blkOk_by (by kernel_rfl)) (fun _ _ _ _ _ => (sg_name ndX rfl (.inl (by kernel_rfl)))) (fun _ _ _ _ _ => (sp_one (sb_2 (fun _ _ h1 h2 => pt_cmpR op_notN h1 h2 rfl) rd_isNot (se_name (i := 9) rfl (.inl (by kernel_rfl))) se_non))) (fun _ _ _ _ _ => (se_name (i := 9) rfl (.inl (by kernel_rfl))))) sa_nil)) (se_B (fun _ ht => pe_callB cr_sortedG rfl G.n_sorted (by rfl) ht) rd_sortedG (sa_cons (se_lc G.hz rfl ndX (own := [("spot", 9)]) (si_seq hKX (se_name (i := 2) rfl (.inl (by kernel_rfl)))) (blkOk_by (by kernel_rfl)) (fun _ _ _ _ _ => (sg_name ndX rfl (.inl (by kernel_rfl)))) (fun _ _ _ _ _ => (sp_one (sb_2 (fun _ _ h1 h2 => pt_cmpR op_notN h1 h2 rfl) rd_isNot (se_name (i := 9) rfl (.inl (by kernel_rfl))) se_non))) (fun _ _ _ _ _ => (se_name (i := 9) rfl (.inl (by kernel_rfl))))) sa_nil))) (ss_cons (ss_ret se_bl) ss_nil) ss_nil) (ss_cons (ss_if (sb_w (sw_or (sb_not (sb_val (se_def G.d__law_same (hr.mono (by omega)) rfl (sr_v (se_def G.d_is_parking (hr.mono (by omega)) rfl (sr_v (se_name (i := 6) rfl (.inl (by kernel_rfl))) sr_nil)) (sr_v (se_name (i := 4) rfl (.inl (by kernel_rfl))) sr_nil))))) (sw_or1 (sb_w (sw_and (sb_val (se_name (i := 4) rfl (.inl (by kernel_rfl)))) (sw_and1 (sb_2 (fun _ _ h1 h2 => pt_cmpR (op_neD hr.units) h1 h2 rfl) rd_ne (se_def G.d_driven (hr.mono (by omega)) rfl (sr_v (se_name (i := 6) rfl (.inl (by kernel_rfl))) sr_nil)) (se_def G.d_driven (hr.mono (by omega)) rfl (sr_v (se_name (i := 1) rfl (.inr (.inl (by kernel_rfl)))) sr_nil))))))))) (ss_cons (ss_ret se_bl) ss_nil) ss_nil) (ss_cons (ss_ret (se_2 (fun _ _ h1 h2 => pe_cmpR (op_eqD hr.units) h1 h2 rfl) rd_eq (se_B (fun _ ht => pe_callB (cr_repr hr (show A.guards = some [] from hgd)) rfl G.n_repr (by rfl) ht) rd_repr (sa_cons (se_name (i := 1) rfl (.inr (.inl (by kernel_rfl)))) sa_nil)) (se_name (i := 3) rfl (.inl (by kernel_rfl))))) ss_nil))))))))))))
theorem sc_26 : FnScope (["hand", "thing", "due", "before", "ask"] : List Str) (["hand", "thing"] : List Str) (defScope s_26) := ⟨rfl, rfl, rfl, by decide +kernel, rfl, by decide +kernel, by decide +kernel⟩
theorem t_26 {P : Program} {w : World} {mg : Str → Option Value} {base : Heap} {Γ : VI.Ctx} {call : Call} {k m : Nat} {tb : Nat → Addr × Addr} (G : GG P w Γ mg base call k tb) (hm : k + 12 ≤ m) {f : Addr} {cdv : Value} {A : Around} {outer : List Env} {s : Shared} {H : Hp} {E : XK} {pins : List Nat} (hcode : cdv = .ref (tb 26).1) (hgd : A.guards = some [])
    (hr : Room m (A.deeper (envOfC "_law_is_judged" (defScope s_26) s.heap.objs.size f cdv))) : SSs Γ pins (cxOf (L2.CX P w) P w Γ.K mg base (["hand", "thing", "due", "before", "ask"] : List Str) "_law_is_judged" (defScope s_26) f cdv A outer s H E) (defBody s_26) (b_26 call pins) := by
  have ndX : ((["hand", "thing", "due", "before", "ask"] : List Str) : List Str).Nodup := sc_26.nd
  have hpX := passes_of (X := cxOf (L2.CX P w) P w Γ.K mg base (["hand", "thing", "due", "before", "ask"] : List Str) "_law_is_judged" (defScope s_26) f cdv A outer s H E) rfl
  have hKX : Γ.K = Γ.K := rfl
  exact (ss_cons (ss_par (i := 2) (j := 3) rfl ndX rfl rfl (by decide) rfl rfl (se_def G.d__law_are_wishes (hr.mono (by omega)) rfl (sr_v (se_name (i := 1) rfl (.inr (.inl (by kernel_rfl)))) sr_nil)) (se_B (fun _ ht => pe_callB (cr_repr hr (show A.guards = some [] from hgd)) rfl G.n_repr (by rfl) ht) rd_repr (sa_cons (se_name (i := 1) rfl (.inr (.inl (by kernel_rfl)))) sa_nil))) (ss_cons (ss_if (sb_w (sw_or (sb_not (sb_val (se_def G.d__law_same (hr.mono (by omega)) rfl (sr_v (se_def G.d_is_wishes (hr.mono (by omega)) rfl (sr_v (se_name (i := 1) rfl (.inr (.inl (by kernel_rfl)))) sr_nil)) (sr_v (se_name (i := 2) rfl (.inl (by kernel_rfl))) sr_nil))))) (sw_or1 (sb_2 (fun _ _ h1 h2 => pt_cmpR (op_neD hr.units) h1 h2 rfl) rd_ne (se_B (fun _ ht => pe_callB (cr_repr hr (show A.guards = some [] from hgd)) rfl G.n_repr (by rfl) ht) rd_repr (sa_cons (se_name (i := 1) rfl (.inr (.inl (by kernel_rfl)))) sa_nil)) (se_name (i := 3) rfl (.inl (by kernel_rfl))))))) (ss_cons (ss_ret se_bl) ss_nil) ss_nil) (ss_cons (ss_if (sb_val (se_name (i := 2) rfl (.inl (by kernel_rfl)))) (ss_cons (ss_ret (se_defG G.d__law_is_right (show A.guards = some [] from hgd) (hr.mono (by omega)) rfl (sr_r (i := 0) rfl (.inl (by kernel_rfl)) (sr_v (se_name (i := 1) rfl (.inr (.inl (by kernel_rfl)))) sr_nil)))) ss_nil) ss_nil) (ss_cons (ss_if (sb_2 (fun _ _ h1 h2 => pt_cmpR op_isNotG h1 h2 rfl) rd_isNotG (se_def G.d_is_parking (hr.mono (by omega)) rfl (sr_v (se_name (i := 1) rfl (.inr (.inl (by kernel_rfl)))) sr_nil)) se_bl) (ss_cons (ss_ret se_bl) ss_nil) ss_nil) (ss_cons (ss_for hpX rfl (si_seq hKX (se_tup (sa_cons (se_fnV rfl G.v_park) (sa_cons (se_fnV rfl G.v_short_place) (sa_cons (se_fnV rfl G.v_lucky) (sa_cons (se_fnV rfl G.v_ascending) (sa_cons (se_fnV rfl G.v_driven) sa_nil))))))) (sg_name ndX rfl (.inr (by kernel_rfl))) (ss_cons (ss_if (sb_not (sb_val (se_lamD (k := k + 8) (Ng0 := (["call", "error"] : List Str)) (dum := dum_26) G.l__law_refused G.hz rfl (by exact sc_22_26) rfl rfl rfl (by decide +kernel) (.inl rfl) (fun _ _ _ _ _ _ _ _ hr0 hact => t_22 G (by exact sc_22_26.nd) (Nat.le_refl _) hr0 hact) (G.tab_26) hcode (G.mem_26) (G.uni_26) (hr.mono (by omega)) (lamS_by (by kernel_rfl)) rfl (fun _ _ _ _ _ => rfl) (fun A outer s H E f c' hr => (se_callF rfl (.cons (hl_of G.d_park G.v_park) (.cons (hl_of G.d_short_place G.v_short_place) (.cons (hl_of G.d_lucky G.v_lucky) (.cons (hl_of G.d_ascending G.v_ascending) (.cons (hl_of G.d_driven G.v_driven) .nil))))) (hr.mono (by omega)) (j := 4) rfl (.inr (.inr (by kernel_rfl))) (sr_v (se_name (i := 1) rfl (.inr (.inr (by kernel_rfl)))) sr_nil)))))) (ss_cons (ss_ret se_bl) ss_nil) ss_nil) ss_nil)) (ss_cons (ss_ret (se_2 (fun _ _ h1 h2 => pe_cmpR (op_eqD hr.units) h1 h2 rfl) rd_eq (se_B (fun _ ht => pe_callB (cr_repr hr (show A.guards = some [] from hgd)) rfl G.n_repr (by rfl) ht) rd_repr (sa_cons (se_name (i := 1) rfl (.inr (.inl (by kernel_rfl)))) sa_nil)) (se_name (i := 3) rfl (.inl (by kernel_rfl))))) ss_nil))))))
theorem sc_27 : FnScope (["script", "hand", "many", "wishes", "turn", "told"] : List Str) (["script"] : List Str) (defScope s_27) := ⟨rfl, rfl, rfl, by decide +kernel, rfl, by decide +kernel, by decide +kernel⟩
theorem t_27 {P : Program} {w : World} {mg : Str → Option Value} {base : Heap} {Γ : VI.Ctx} {call : Call} {k m : Nat} {tb : Nat → Addr × Addr} (G : GG P w Γ mg base call k tb) (hm : k + 12 ≤ m) {f : Addr} {cdv : Value} {A : Around} {outer : List Env} {s : Shared} {H : Hp} {E : XK} {pins : List Nat} (hgd : A.guards = some [])
    (hr : Room m (A.deeper (envOfC "law" (defScope s_27) s.heap.objs.size f cdv))) : SSs Γ pins (cxOf (L2.CX P w) P w Γ.K mg base (["script", "hand", "many", "wishes", "turn", "told"] : List Str) "law" (defScope s_27) f cdv A outer s H E) (defBody s_27) (b_27 call pins) := by
  have ndX : ((["script", "hand", "many", "wishes", "turn", "told"] : List Str) : List Str).Nodup := sc_27.nd
  have hpX := passes_of (X := cxOf (L2.CX P w) P w Γ.K mg base (["script", "hand", "many", "wishes", "turn", "told"] : List Str) "law" (defScope s_27) f cdv A outer s H E) rfl
  have hKX : Γ.K = Γ.K := rfl
  exact (ss_cons (ss_set ndX (i := 1) rfl (.inl (by kernel_rfl)) (se_def G.d__law_hand (hr.mono (by omega)) rfl (sr_v (se_name (i := 0) rfl (.inl (by kernel_rfl))) sr_nil))) (ss_cons (ss_for hpX rfl (si_seq hKX (se_lst (sa_cons se_int (sa_cons (se_2 (fun _ _ h1 h2 => pe_op opr_add h1 h2) rd_add se_int (se_def G.d__law_draw (hr.mono (by omega)) rfl (sr_r (i := 1) rfl (.inl (by kernel_rfl)) (sr_v se_int sr_nil)))) (sa_cons (se_2 (fun _ _ h1 h2 => pe_op opr_add h1 h2) rd_add se_int (se_def G.d__law_draw (hr.mono (by omega)) rfl (sr_r (i := 1) rfl (.inl (by kernel_rfl)) (sr_v se_int sr_nil)))) (sa_cons se_int sa_nil)))))) (sg_name ndX rfl (.inl (by kernel_rfl))) (ss_cons (ss_set ndX (i := 3) rfl (.inl (by kernel_rfl)) (se_def G.d__law_wishes (hr.mono (by omega)) rfl (sr_r (i := 1) rfl (.inl (by kernel_rfl)) (sr_v (se_name (i := 2) rfl (.inl (by kernel_rfl))) sr_nil)))) (ss_cons (ss_if (sb_not (sb_val (se_defG G.d__law_is_right (show A.guards = some [] from hgd) (hr.mono (by omega)) rfl (sr_r (i := 1) rfl (.inl (by kernel_rfl)) (sr_v (se_name (i := 3) rfl (.inl (by kernel_rfl))) sr_nil))))) (ss_cons (ss_ret se_bl) ss_nil) ss_nil) (ss_cons (ss_for hpX rfl (si_rng1 rfl G.n_range (sa_cons se_int sa_nil)) (sg_name ndX rfl (.inl (by kernel_rfl))) (ss_cons (ss_if (sb_not (sb_val (se_defG G.d__law_is_judged (show A.guards = some [] from hgd) (hr.mono (by omega)) rfl (sr_r (i := 1) rfl (.inl (by kernel_rfl)) (sr_v (se_def G.d__law_bent (hr.mono (by omega)) rfl (sr_r (i := 1) rfl (.inl (by kernel_rfl)) (sr_v (se_name (i := 3) rfl (.inl (by kernel_rfl))) sr_nil))) sr_nil))))) (ss_cons (ss_ret se_bl) ss_nil) ss_nil) ss_nil)) ss_nil)))) (ss_cons (ss_set ndX (i := 5) rfl (.inl (by kernel_rfl)) (se_lst (sa_cons (se_def G.d_park (hr.mono (by omega)) rfl (sr_v (se_tup (sa_cons se_int (sa_cons se_int (sa_cons se_int sa_nil)))) sr_nil)) (sa_cons (se_def G.d_park (hr.mono (by omega)) rfl (sr_v (se_tup (sa_cons se_int (sa_cons se_int (sa_cons se_int sa_nil)))) sr_nil)) (sa_cons (se_def G.d_short_place (hr.mono (by omega)) rfl (sr_v (se_tup (sa_cons se_int (sa_cons se_int (sa_cons se_int sa_nil)))) sr_nil)) (sa_cons (se_def G.d_lucky (hr.mono (by omega)) rfl (sr_v (se_tup (sa_cons se_int (sa_cons se_int (sa_cons se_int sa_nil)))) sr_nil)) (sa_cons (se_def G.d_driven (hr.mono (by omega)) rfl (sr_v (se_tup (sa_cons se_int (sa_cons se_int (sa_cons se_int sa_nil)))) sr_nil)) sa_nil))))))) (ss_cons (ss_ret (se_def G.d__law_same (hr.mono (by omega)) rfl (sr_v (se_name (i := 5) rfl (.inl (by kernel_rfl))) (sr_v (se_lst (sa_cons (se_tup (sa_cons se_int (sa_cons se_int (sa_cons se_int sa_nil)))) (sa_cons (se_tup (sa_cons se_int (sa_cons se_non (sa_cons se_int sa_nil)))) (sa_cons se_int (sa_cons (se_tup (sa_cons se_int (sa_cons se_int sa_nil))) (sa_cons se_int sa_nil)))))) sr_nil)))) ss_nil))))
end LK
set_option Elab.async false
set_option linter.all false
set_option maxRecDepth 100000
namespace LK
/-! R1: cars that look for the first free place: plain theory -/
/-- s is the first place from w on that is not in T -/
structure FF (T : List Nat) (w s : Nat) : Prop where
  le : w ≤ s
  no : s ∉ T
  yes : ∀ t, w ≤ t → t < s → t ∈ T
theorem FF.uniq {T : List Nat} {w s s' : Nat} (h : FF T w s) (g : FF T w s') : s = s' := by
  rcases Nat.lt_trichotomy s s' with e | e | e
  · exact absurd (g.yes s h.le e) h.no
  · exact e
  · exact absurd (h.yes s' g.le e) g.no
def ffA : Nat → List Nat → Nat → Nat
  | 0, _, w => w
  | f + 1, T, w => if w ∈ T then ffA f T (w + 1) else w
theorem ffA_ok {T : List Nat} {M : Nat} (hM : ∀ t ∈ T, t < M) : ∀ (f w : Nat), M ≤ f + w → FF T w (ffA f T w)
  | 0, w, h => ⟨Nat.le_refl _, fun z => by have := hM _ z; simp only [ffA] at this; omega, fun t h1 h2 => by simp only [ffA] at h2; omega⟩
  | f + 1, w, h => by
    unfold ffA
    split
    · rename_i hw
      have ih := ffA_ok hM f (w + 1) (by omega)
      refine ⟨by have := ih.le; omega, ih.no, fun t h1 h2 => ?_⟩
      by_cases e : t = w
      · subst e; exact hw
      · exact ih.yes t (by omega) h2
    · rename_i hw
      exact ⟨Nat.le_refl _, hw, fun t h1 h2 => by omega⟩
theorem le_sum {T : List Nat} {t : Nat} (h : t ∈ T) : t ≤ T.sum := by
  induction T with
  | nil => cases h
  | cons a T ih =>
    rw [List.sum_cons]
    rcases List.mem_cons.mp h with rfl | h
    · omega
    · have := ih h; omega
def ff (T : List Nat) (w : Nat) : Nat := ffA (T.sum + 1) T w
theorem ff_ok (T : List Nat) (w : Nat) : FF T w (ff T w) := ffA_ok (M := T.sum + 1) (fun t h => by have := le_sum h; omega) _ _ (by omega)
theorem ff_eq {T : List Nat} {w s : Nat} (h : FF T w s) : ff T w = s := (ff_ok T w).uniq h
def stp (T : List Nat) (w : Nat) : List Nat := T ++ [ff T w]
def run (T : List Nat) (ws : List Nat) : List Nat := ws.foldl stp T
theorem FF.perm {T T' : List Nat} {w s : Nat} (p : T.Perm T') (h : FF T w s) : FF T' w s := ⟨h.le, fun z => h.no (p.mem_iff.mpr z), fun t h1 h2 => p.mem_iff.mp (h.yes t h1 h2)⟩
theorem ff_perm {T T' : List Nat} {w : Nat} (p : T.Perm T') : ff T w = ff T' w := ((ff_ok T w).perm p).uniq (ff_ok T' w)
theorem stp_perm {T T' : List Nat} {w : Nat} (p : T.Perm T') : (stp T w).Perm (stp T' w) := by
  unfold stp
  rw [ff_perm p]
  exact p.append_right _
theorem run_cong : ∀ (ws : List Nat) {T T' : List Nat}, T.Perm T' → (run T ws).Perm (run T' ws)
  | [], _, _, p => p
  | w :: ws, _, _, p => run_cong ws (stp_perm p)
/-- one more place is taken: the first free one is the same, but where it was that one -/
theorem FF.more {T : List Nat} {w s x : Nat} (h : FF T w s) (hx : x ≠ s) : FF (T ++ [x]) w s := ⟨h.le, fun z => by
  rcases List.mem_append.mp z with z | z
  · exact h.no z
  · exact hx (List.mem_singleton.mp z).symm, fun t h1 h2 => List.mem_append_left _ (h.yes t h1 h2)⟩
theorem FF.next {T : List Nat} {a b s s' : Nat} (ha : FF T a s) (hb : FF T b s) (h : FF (T ++ [s]) a s') : FF (T ++ [s]) b s' := by
  have h1 : s < s' := by
    rcases Nat.lt_trichotomy s s' with e | e | e
    · exact e
    · subst e; exact absurd (List.mem_append_right _ List.mem_cons_self) h.no
    · exact absurd (List.mem_append_left _ (ha.yes s' h.le e)) h.no
  refine ⟨by have := hb.le; omega, h.no, fun t h2 h3 => ?_⟩
  by_cases e : t < s
  · exact List.mem_append_left _ (hb.yes t h2 e)
  · exact h.yes t (by have := ha.le; omega) h3
theorem swap_step (T : List Nat) (a b : Nat) : (stp (stp T a) b).Perm (stp (stp T b) a) := by
  have ha := ff_ok T a
  have hb := ff_ok T b
  by_cases e : ff T a = ff T b
  · have h2 := ff_ok (T ++ [ff T a]) a
    have hb' : FF T b (ff T a) := by rw [e]; exact hb
    have h3 := FF.next ha hb' h2
    show ((T ++ [ff T a]) ++ [ff (T ++ [ff T a]) b]).Perm ((T ++ [ff T b]) ++ [ff (T ++ [ff T b]) a])
    rw [← e, ff_eq h3]
  · have h1 := ff_eq (hb.more e)
    have h2 := ff_eq (ha.more fun z => e z.symm)
    show ((T ++ [ff T a]) ++ [ff (T ++ [ff T a]) b]).Perm ((T ++ [ff T b]) ++ [ff (T ++ [ff T b]) a])
    rw [h1, h2, List.append_assoc, List.append_assoc]
    exact (List.Perm.swap _ _ _).append_left T
theorem run_perm {ws ws' : List Nat} (p : ws.Perm ws') : ∀ T : List Nat, (run T ws).Perm (run T ws') := by
  induction p with
  | nil => exact fun T => .refl _
  | cons x _ ih => exact fun T => ih (stp T x)
  | swap x y l => exact fun T => run_cong l (swap_step T y x)
  | trans _ _ ih1 ih2 => exact fun T => (ih1 T).trans (ih2 T)
theorem run_nodup : ∀ (ws : List Nat) {T : List Nat}, T.Nodup → (run T ws).Nodup
  | [], _, h => h
  | w :: ws, T, h => run_nodup ws (by
    unfold stp
    rw [List.nodup_append]
    refine ⟨h, by simp, fun x hx y hy => ?_⟩
    rw [List.mem_singleton] at hy
    subst hy
    exact fun e => (ff_ok T w).no (e ▸ hx))
/-- where the cars park behind T -/
def spA : List Nat → List Nat → List Nat
  | _, [] => []
  | T, w :: ws => ff T w :: spA (stp T w) ws
theorem run_spA : ∀ (ws T : List Nat), run T ws = T ++ spA T ws
  | [], T => by simp [run, spA]
  | w :: ws, T => by
    show run (stp T w) ws = _
    rw [run_spA ws, spA]
    simp [stp]
def sp (ws : List Nat) : List Nat := spA [] ws
theorem sp_perm {ws ws' : List Nat} (p : ws.Perm ws') : (sp ws).Perm (sp ws') := by
  have := run_perm p []
  rw [run_spA, run_spA] at this
  exact this
theorem spA_len : ∀ (ws T : List Nat), (spA T ws).length = ws.length
  | [], _ => rfl
  | w :: ws, T => by simp [spA, spA_len ws]
theorem sp_nodup (ws : List Nat) : (sp ws).Nodup := by
  have := run_nodup ws (T := []) List.nodup_nil
  rw [run_spA] at this
  exact this
theorem sp_len (ws : List Nat) : (sp ws).length = ws.length := spA_len ws []
/-- each car parks from its wish on, and what it passed is taken in the end -/
theorem spA_zip : ∀ (ws T : List Nat), ∀ q ∈ ws.zip (spA T ws), q.1 ≤ q.2 ∧ ∀ t, q.1 ≤ t → t < q.2 → t ∈ T ++ spA T ws
  | [], _, q, h => by cases h
  | w :: ws, T, q, h => by
    rw [spA, List.zip_cons_cons] at h
    rcases List.mem_cons.mp h with rfl | h
    · exact ⟨(ff_ok T w).le, fun t h1 h2 => List.mem_append_left _ ((ff_ok T w).yes t h1 h2)⟩
    · obtain ⟨h1, h2⟩ := spA_zip ws (stp T w) q h
      refine ⟨h1, fun t h3 h4 => ?_⟩
      have := h2 t h3 h4
      rw [spA]
      simpa [stp] using this
def cnt (ws : List Nat) (k : Nat) : Nat := (ws.filter fun w => decide (w ≤ k)).length
theorem cnt_le : ∀ {ws ss : List Nat} {k j : Nat}, ws.length = ss.length → (∀ q ∈ ws.zip ss, q.1 ≤ k → q.2 ≤ j) → cnt ws k ≤ cnt ss j
  | [], [], _, _, _, _ => Nat.le_refl _
  | w :: ws, s :: ss, k, j, hl, h => by
    have ih := cnt_le (ws := ws) (ss := ss) (k := k) (j := j) (by simpa using hl) fun q hq => h q (by rw [List.zip_cons_cons]; exact List.mem_cons_of_mem _ hq)
    have h0 := h (w, s) (by rw [List.zip_cons_cons]; exact List.mem_cons_self)
    unfold cnt at *
    rw [List.filter_cons, List.filter_cons]
    by_cases e : w ≤ k
    · rw [if_pos (decide_eq_true e), if_pos (decide_eq_true (h0 e))]
      simp only [List.length_cons]
      omega
    · rw [if_neg (by simpa using e)]
      split
      · simp only [List.length_cons]; omega
      · exact ih
theorem nd_le : ∀ (n : Nat) (L : List Nat), L.Nodup → (∀ x ∈ L, x < n) → L.length ≤ n := by
  intro n
  induction n with
  | zero =>
    intro L _ h
    cases L with
    | nil => simp
    | cons x r => exact absurd (h x List.mem_cons_self) (by omega)
  | succ n ih =>
    intro L hn h
    have h1 := ih (L.erase n) (hn.erase n) fun x hx => by
      have := (hn.mem_erase_iff).mp hx
      have := h x this.2
      omega
    have h2 : L.length ≤ (L.erase n).length + 1 := by
      rw [List.length_erase]
      split <;> omega
    omega
theorem all_le : ∀ (n : Nat) (L : List Nat), (∀ x, x < n → x ∈ L) → n ≤ L.length := by
  intro n
  induction n with
  | zero => intro L _; omega
  | succ n ih =>
    intro L h
    have h1 := ih (L.erase n) fun x hx => (List.mem_erase_of_ne (by omega)).mpr (h x (by omega))
    have h2 : n ∈ L := h n (by omega)
    have h3 : 0 < L.length := List.length_pos_of_mem h2
    rw [List.length_erase, if_pos h2] at h1
    omega
theorem nd_all {n : Nat} {L : List Nat} (h : L.Nodup) (hx : ∀ x ∈ L, x < n) (hl : L.length = n) : L.Perm (List.range n) := by
  have h1 : ∀ x, x < n → x ∈ L := fun x hlt => by
    apply Classical.byContradiction
    intro z
    have := nd_le n (x :: L) (List.nodup_cons.mpr ⟨z, h⟩) fun y hy => by
      rcases List.mem_cons.mp hy with rfl | hy
      · exact hlt
      · exact hx y hy
    simp at this
    omega
  refine (List.perm_ext_iff_of_nodup h List.nodup_range).mpr fun a => ⟨fun m => List.mem_range.mpr (hx a m), fun m => h1 a (List.mem_range.mp m)⟩
theorem cnt_range {n k : Nat} (h : k < n) : cnt (List.range n) k = k + 1 := by
  have : ∀ n, cnt (List.range n) k = min n (k + 1) := by
    intro n
    induction n with
    | zero => simp [cnt]
    | succ n ih =>
      unfold cnt at *
      rw [List.range_succ, List.filter_append, List.length_append, ih, List.filter_cons]
      by_cases e : n ≤ k
      · rw [if_pos (decide_eq_true e)]
        simp
        omega
      · rw [if_neg (by simpa using e)]
        simp
        omega
  rw [this n]
  omega
theorem cnt_perm {a b : List Nat} {k : Nat} (p : a.Perm b) : cnt a k = cnt b k := (p.filter _).length_eq
/-- all park -/
def allP (ws : List Nat) : Bool := (sp ws).all fun s => decide (s < ws.length)
theorem allP_iff (ws : List Nat) : allP ws = true ↔ ∀ s ∈ sp ws, s < ws.length := by
  unfold allP
  rw [List.all_eq_true]
  exact ⟨fun h s hs => of_decide_eq_true (h s hs), fun h s hs => decide_eq_true (h s hs)⟩
theorem allP_range {ws : List Nat} (h : allP ws = true) : (sp ws).Perm (List.range ws.length) := nd_all (sp_nodup ws) ((allP_iff ws).mp h) (sp_len ws)
theorem allP_cnt (ws : List Nat) : allP ws = (List.range ws.length).all fun k => decide (k + 1 ≤ cnt ws k) := by
  rw [Bool.eq_iff_iff]
  have hz := spA_zip ws []
  constructor
  · intro h
    rw [List.all_eq_true]
    intro k hk
    have hk := List.mem_range.mp hk
    have p := allP_range h
    refine decide_eq_true ?_
    have h1 : cnt (sp ws) k ≤ cnt ws k := by
      refine cnt_le (by rw [sp_len]) fun q hq hle => ?_
      obtain ⟨i, hi, e⟩ := List.mem_iff_getElem.mp hq
      have : (q.2, q.1) ∈ ws.zip (spA [] ws) := by
        rw [← e, List.getElem_zip]
        rw [List.length_zip] at hi
        have hi2 : i < (ws.zip (spA [] ws)).length := by rw [List.length_zip]; show i < min ws.length (sp ws).length; omega
        have := List.getElem_mem hi2
        rw [List.getElem_zip] at this
        exact this
      have := (hz _ this).1
      simp only at this
      omega
    have h2 : cnt (sp ws) k = k + 1 := by rw [cnt_perm p]; exact cnt_range hk
    omega
  · intro h
    rw [List.all_eq_true] at h
    rw [allP_iff]
    apply Classical.byContradiction
    intro hno
    have ⟨s, hs, hlt⟩ : ∃ s ∈ sp ws, ws.length ≤ s := by
      apply Classical.byContradiction
      intro z
      exact hno fun s hs => by
        apply Classical.byContradiction
        intro y
        exact z ⟨s, hs, by omega⟩
    have ⟨p, hp, hpn⟩ : ∃ p, p < ws.length ∧ p ∉ sp ws := by
      apply Classical.byContradiction
      intro z
      have sub : ∀ x ∈ List.range ws.length, x ∈ (sp ws).erase s := fun x hx => by
        have hx := List.mem_range.mp hx
        have : x ∈ sp ws := by
          apply Classical.byContradiction
          intro y
          exact z ⟨x, hx, y⟩
        exact (List.mem_erase_of_ne (by omega)).mpr this
      have h3 : (List.range ws.length).length ≤ ((sp ws).erase s).length := by
        rw [List.length_range]
        exact all_le _ _ fun x hx => sub x (List.mem_range.mpr hx)
      rw [List.length_range, List.length_erase, if_pos hs, sp_len] at h3
      have : 0 < ws.length := by
        have := List.length_pos_of_mem hs
        rw [sp_len] at this
        exact this
      omega
    have h4 := of_decide_eq_true (h p (List.mem_range.mpr hp))
    have h5 : cnt ws p ≤ ((sp ws).filter fun s => decide (s < p)).length := by
      have : ∀ q ∈ ws.zip (sp ws), q.1 ≤ p → q.2 < p := fun q hq hle => by
        obtain ⟨h6, h7⟩ := hz q hq
        have hm : q.2 ∈ sp ws := (List.of_mem_zip hq).2
        have : q.2 ≠ p := fun e => hpn (e ▸ hm)
        apply Classical.byContradiction
        intro z
        exact hpn (by have := h7 p hle (by omega); simpa [sp] using this)
      cases p with
      | zero =>
        have h8 : cnt ws 0 = 0 := by
          unfold cnt
          rw [List.length_eq_zero_iff, List.filter_eq_nil_iff]
          intro w hw
          obtain ⟨i, hi, rfl⟩ := List.mem_iff_getElem.mp hw
          have hi2 : i < (ws.zip (sp ws)).length := by rw [List.length_zip, sp_len]; omega
          have := this _ (List.getElem_mem hi2)
          rw [List.getElem_zip] at this
          simp only at this
          simp
          intro e
          exact absurd (this (by omega)) (by omega)
        omega
      | succ p =>
        have := cnt_le (ws := ws) (ss := sp ws) (k := p + 1) (j := p) (by rw [sp_len]) fun q hq hle => by have := this q hq hle; omega
        unfold cnt at this ⊢
        refine Nat.le_trans this (Nat.le_of_eq ?_)
        congr 2
        funext x
        congr 1
        apply propext
        omega
    have h6 : ((sp ws).filter fun s => decide (s < p)).length ≤ p := nd_le p _ ((sp_nodup ws).filter _) fun x hx => of_decide_eq_true (List.mem_filter.mp hx).2
    omega
theorem allP_perm {ws ws' : List Nat} (p : ws.Perm ws') : allP ws = allP ws' := by
  rw [Bool.eq_iff_iff, allP_iff, allP_iff, p.length_eq]
  exact ⟨fun h s hs => h s ((sp_perm p).mem_iff.mpr hs), fun h s hs => h s ((sp_perm p).mem_iff.mp hs)⟩
def drv (ws : List Nat) : Int := ((sp ws).map fun s : Nat => (s : Int)).sum - (ws.map fun s : Nat => (s : Int)).sum
theorem sum_perm {a b : List Int} (p : a.Perm b) : a.sum = b.sum := by
  induction p with
  | nil => rfl
  | cons x _ ih => simp [ih]
  | swap x y l => simp [← Int.add_assoc, Int.add_comm]
  | trans _ _ h1 h2 => exact h1.trans h2
theorem drv_perm {ws ws' : List Nat} (p : ws.Perm ws') : drv ws = drv ws' := by
  unfold drv
  rw [sum_perm ((sp_perm p).map _), sum_perm (p.map _)]
theorem sum_zip : ∀ {a b : List Nat}, a.length = b.length → ((a.zip b).map fun q => (q.1 : Int) - (q.2 : Int)).sum = (a.map fun s : Nat => (s : Int)).sum - (b.map fun s : Nat => (s : Int)).sum
  | [], [], _ => by simp
  | x :: a, y :: b, h => by
    have ih := sum_zip (a := a) (b := b) (by simpa using h)
    rw [List.zip_cons_cons, List.map_cons, List.sum_cons, ih, List.map_cons, List.map_cons, List.sum_cons, List.sum_cons]
    omega
end LK
set_option Elab.async false
set_option linter.all false
set_option maxRecDepth 100000
set_option maxHeartbeats 4000000
namespace LK
open VI PySem
variable {k : Nat} {X : Val}
/-! R2: kinds, what are wishes -/
def isI : Val → Bool
  | .int _ => true
  | _ => false
def isT : Val → Bool
  | .tup _ => true
  | _ => false
theorem isi_tup {x : Val} (h : kd x = true) : isiV hier [.b "tuple"] x = some (.bl (isT x)) := by
  cases x <;> first | (cases h; done) | rfl
theorem isI_int {x : Val} (h : isI x = true) : ∃ i, x = .int i := by
  cases x <;> first | (cases h; done) | exact ⟨_, rfl⟩
theorem isT_tup {x : Val} (h : isT x = true) : ∃ xs, x = .tup xs := by
  cases x <;> first | (cases h; done) | exact ⟨_, rfl⟩
theorem isI_and {x : Val} (h : kd x = true) {e : En} {i : Nat} (hs : slot e i = some x) : VI.cAnd (c1 (isiV hier [.b "int"]) (cN i)) (c1 notV (c1 (isiV hier [.b "bool"]) (cN i))) e = .ok (.val (.bl (isI x))) e := by
  cases x <;> first
    | (cases h; done)
    | exact xAnd (exV (VI.x1 (exN hs) rfl)) (vkT (VI.x1 (exV (VI.x1 (exN hs) rfl)) rfl))
    | exact xAnd (exV (VI.x1 (exN hs) rfl)) (vkF rfl)
theorem c0 {x : Val} (h : kd x = true) : callN Pr (k + 1) 0 [x] = .ok (.bl (isI x)) [] := by
  show runDef f_0 _ _ = _
  apply runX (m := 0) rfl; simp only [show ∀ (c : Call) (e : En), f_0.body c e = sSeq (l_0 c []) e from fun _ _ => rfl, l_0, List.map_cons, List.map_nil, List.replicate, List.cons_append, List.nil_append]
  · exact sqC (xRet (isI_and h rfl)) qkR
  · exact rkR rfl
def inRg (x : Val) (lo hi : Int) : Bool := match x with
  | .int i => decide (lo ≤ i) && decide (i ≤ hi)
  | _ => false
theorem inRg_no {x : Val} {lo hi : Int} (h : isI x = false) : inRg x lo hi = false := by
  cases x <;> first | (cases h; done) | rfl
theorem c1_ {x : Val} {lo hi : Int} (h : kd x = true) (hz : fz x = x) : callN Pr (k + 2) 1 [x, .int lo, .int hi] = .ok (.bl (inRg x lo hi)) [] := by
  have h0 := c0 (k := k) h
  show runDef f_1 _ _ = _
  cases q : isI x with
  | false =>
    rw [q] at h0
    rw [inRg_no q]
    apply runX (m := 0) rfl; simp only [show ∀ (c : Call) (e : En), f_1.body c e = sSeq (l_1 c []) e from fun _ _ => rfl, l_1, List.map_cons, List.map_nil, List.replicate, List.cons_append, List.nil_append]
    · exact sqC (xRet (xAnd (exV (xCall (eaN rfl eaNil) (taN rfl hz taNil) h0 (poV poNil))) (vkF rfl))) qkR
    · exact rkR rfl
  | true =>
    rw [q] at h0
    obtain ⟨i, rfl⟩ := isI_int q
    apply runX (m := 0) rfl; simp only [show ∀ (c : Call) (e : En), f_1.body c e = sSeq (l_1 c []) e from fun _ _ => rfl, l_1, List.map_cons, List.map_nil, List.replicate, List.cons_append, List.nil_append]
    · exact sqC (xRet (xAnd (exV (xCall (eaN rfl eaNil) (taN rfl (fzi _) taNil) h0 (poV poNil))) (vkT (xCh (exN rfl) (exN rfl) rfl (exN rfl) rfl)))) qkR
    · exact rkR rfl
theorem lenT {xs : List Val} : lenV [.tup xs] = some (.int (xs.length : Int)) := rfl
theorem lenL {xs : List Val} {o : Bool} : lenV [.lst o xs] = some (.int (xs.length : Int)) := rfl
def lenB (xs : List Val) : Bool := decide (1 ≤ (xs.length : Int)) && decide ((xs.length : Int) ≤ 60)
def wishB (X : Val) : Bool := match X with
  | .tup xs => lenB xs && xs.all fun y => inRg y 0 ((xs.length : Int) - 1)
  | _ => false
theorem wish_no (h : isT X = false) : wishB X = false := by
  cases X <;> first | (cases h; done) | rfl
theorem tup_test {e : En} {xs : List Val} {bb : Bool} (h0 : slot e 0 = some (.tup xs)) (it : isiV hier [.b "tuple"] (.tup xs) = some (.bl true)) (h : lenB xs = bb) : VI.tOr (tNot (tB (c1 (isiV hier [.b "tuple"]) (cN 0)))) (tNot (tB (cCh leV leV (cV (.int (1))) (cB lenV [(cN 0)]) (cV (.int (60)))))) e = .ok (!bb) e :=
  tOrx (tNotx (tBx (exV (VI.x1 (exN h0) it))) rfl) (tkF (tNotx (tBx (exV (xCh (exV xV) (exV (xB (csN h0 csNil) (gsN h0 gsNil) lenT)) rfl (exV xV) rfl))) (by rw [← h]; rfl)))
def q2_0 (call : Call) : VI.C := (cLC (iSeq (cN 0)) (.n 1) VI.tYes (cCall call 1 [.v (cN 1), .v (cV (.int (0))), .v (c2 subV (cB lenV [(cN 0)]) (cV (.int (1))))]) [1])
theorem l2 (call : Call) : l_2 call [] = [(sIf (VI.tOr (tNot (tB (c1 (isiV hier [.b "tuple"]) (cN 0)))) (tNot (tB (cCh leV leV (cV (.int (1))) (cB lenV [(cN 0)]) (cV (.int (60))))))) (sSeq [(sRet [] (cV (.bl false)))]) (sSeq [])), (sRet [] (cB allV [(q2_0 call)]))] := rfl
theorem c_is_wishes (hX : Th1 X) : callN Pr (k + 3) 2 [X] = .ok (.bl (wishB X)) [] := by
  have it := isi_tup hX.k
  show runDef f_2 _ _ = _
  cases e1 : isT X with
  | false =>
    rw [wish_no e1]
    rw [e1] at it
    apply runX (m := 1) rfl; simp only [show ∀ (c : Call) (e : En), f_2.body c e = sSeq (l_2 c []) e from fun _ _ => rfl, l2, List.map_cons, List.map_nil, List.replicate, List.cons_append, List.nil_append]
    · exact sqC (xsIf (tOrx (tNotx (tBx (exV (VI.x1 (exN rfl) it))) rfl) (tkT rfl)) (skT (sqC (xRet xV) qkR))) qkR
    · exact rkR rfl
  | true =>
    obtain ⟨xs, rfl⟩ := isT_tup e1
    rw [e1] at it
    cases e2 : lenB xs with
    | false =>
      have hf : wishB (.tup xs) = false := by simp only [wishB, e2, Bool.false_and]
      rw [hf]
      apply runX (m := 1) rfl; simp only [show ∀ (c : Call) (e : En), f_2.body c e = sSeq (l_2 c []) e from fun _ _ => rfl, l2, List.map_cons, List.map_nil, List.replicate, List.cons_append, List.nil_append]
      · exact sqC (xsIf (tup_test rfl it e2) (skT (sqC (xRet xV) qkR))) qkR
      · exact rkR rfl
    | true =>
      have hf : wishB (.tup xs) = xs.all fun y => inRg y 0 ((xs.length : Int) - 1) := by simp only [wishB, e2, Bool.true_and]
      rw [hf]
      have q0 : q2_0 (callN Pr (k + 2)) [some (.tup xs), none] = .ok (.val (.lst true (xs.map fun x => Val.bl (inRg x 0 ((xs.length : Int) - 1))))) [some (.tup xs), none] := by
        unfold q2_0
        refine xLCs (iSeqN rfl hX.z rfl) ?_ rfl rfl
        exact lcI xs fun x hx => ⟨[some (.tup xs), some x], _, _, rfl, xCall (eaN rfl (eaV xV (eaV (x2V (xB (csN rfl csNil) (gsN rfl gsNil) lenT) (exV xV) rfl) eaNil))) (taN rfl (hX.el xs rfl x hx).2 (taV (taV taNil))) (c1_ (hX.el xs rfl x hx).1 (hX.el xs rfl x hx).2) (poV (poV (poV poNil))), rfl, rfl⟩
      apply runX (m := 1) rfl; simp only [show ∀ (c : Call) (e : En), f_2.body c e = sSeq (l_2 c []) e from fun _ _ => rfl, l2, List.map_cons, List.map_nil, List.replicate, List.cons_append, List.nil_append]
      · exact sqC (xsIf (tup_test rfl it e2) (skF sqN)) (qkN (sqC (xRet (xB (csV q0 csNil) (gsV gsNil) allM)) qkR))
      · exact rkR rfl
def q21_0 (call : Call) : VI.C := (cLC (iSeq (cN 0)) (.n 1) VI.tYes (cAnd (c1 (isiV hier [.b "int"]) (cN 1)) (c1 notV (c1 (isiV hier [.b "bool"]) (cN 1)))) [1])
def q21_1 (call : Call) : VI.C := (cLC (iSeq (cN 0)) (.n 1) VI.tYes (cCh leV ltV (cV (.int (0))) (cN 1) (cB lenV [(cN 0)])) [1])
theorem l21 (call : Call) : l_21 call [] = [(sIf (VI.tOr (tNot (tB (c1 (isiV hier [.b "tuple"]) (cN 0)))) (tNot (tB (cCh leV leV (cV (.int (1))) (cB lenV [(cN 0)]) (cV (.int (60))))))) (sSeq [(sRet [] (cV (.bl false)))]) (sSeq [])), (sIf (tNot (tB (cB allV [(q21_0 call)]))) (sSeq [(sRet [] (cV (.bl false)))]) (sSeq [])), (sRet [] (cB allV [(q21_1 call)]))] := rfl
theorem all_ints {xs : List Val} (h : xs.all isI = true) : ∃ b, xs = intsV b := by
  induction xs with
  | nil => exact ⟨[], rfl⟩
  | cons x xs ih =>
    rw [List.all_cons, Bool.and_eq_true] at h
    obtain ⟨b, hb⟩ := ih h.2
    obtain ⟨i, hi⟩ := isI_int h.1
    exact ⟨i :: b, by rw [hi, hb]; rfl⟩
theorem c_are (hX : Th1 X) : callN Pr (k + 1) 21 [X] = .ok (.bl (wishB X)) [] := by
  have it := isi_tup hX.k
  show runDef f_21 _ _ = _
  cases e1 : isT X with
  | false =>
    rw [wish_no e1]
    rw [e1] at it
    apply runX (m := 1) rfl; simp only [show ∀ (c : Call) (e : En), f_21.body c e = sSeq (l_21 c []) e from fun _ _ => rfl, l21, List.map_cons, List.map_nil, List.replicate, List.cons_append, List.nil_append]
    · exact sqC (xsIf (tOrx (tNotx (tBx (exV (VI.x1 (exN rfl) it))) rfl) (tkT rfl)) (skT (sqC (xRet xV) qkR))) qkR
    · exact rkR rfl
  | true =>
    obtain ⟨xs, rfl⟩ := isT_tup e1
    rw [e1] at it
    cases e2 : lenB xs with
    | false =>
      have hf : wishB (.tup xs) = false := by simp only [wishB, e2, Bool.false_and]
      rw [hf]
      apply runX (m := 1) rfl; simp only [show ∀ (c : Call) (e : En), f_21.body c e = sSeq (l_21 c []) e from fun _ _ => rfl, l21, List.map_cons, List.map_nil, List.replicate, List.cons_append, List.nil_append]
      · exact sqC (xsIf (tup_test rfl it e2) (skT (sqC (xRet xV) qkR))) qkR
      · exact rkR rfl
    | true =>
      have hf : wishB (.tup xs) = xs.all fun y => inRg y 0 ((xs.length : Int) - 1) := by simp only [wishB, e2, Bool.true_and]
      rw [hf]
      have q0 : q21_0 (callN Pr k) [some (.tup xs), none] = .ok (.val (.lst true (xs.map fun x => Val.bl (isI x)))) [some (.tup xs), none] := by
        unfold q21_0
        refine xLCs (iSeqN rfl hX.z rfl) ?_ rfl rfl
        exact lcI xs fun x hx => ⟨[some (.tup xs), some x], _, _, rfl, isI_and (hX.el xs rfl x hx).1 rfl, rfl, rfl⟩
      have al : allV [.lst true (xs.map fun x => Val.bl (isI x))] = some (.bl (xs.all isI)) := allM
      cases e3 : xs.all isI with
      | false =>
        rw [e3] at al
        have hg : (xs.all fun y => inRg y 0 ((xs.length : Int) - 1)) = false := by
          rw [List.all_eq_false] at e3 ⊢
          obtain ⟨x, hx, h⟩ := e3
          exact ⟨x, hx, by rw [inRg_no (by simpa using h)]; simp⟩
        rw [hg]
        apply runX (m := 1) rfl; simp only [show ∀ (c : Call) (e : En), f_21.body c e = sSeq (l_21 c []) e from fun _ _ => rfl, l21, List.map_cons, List.map_nil, List.replicate, List.cons_append, List.nil_append]
        · exact sqC (xsIf (tup_test rfl it e2) (skF sqN)) (qkN (sqC (xsIf (tNotx (tBx (exV (xB (csV q0 csNil) (gsV gsNil) al))) rfl) (skT (sqC (xRet xV) qkR))) qkR))
        · exact rkR rfl
      | true =>
        rw [e3] at al
        obtain ⟨b, rfl⟩ := all_ints e3
        have hb : (intsV b).length = b.length := intsV_len b
        have hg : ((intsV b).all fun y => inRg y 0 (((intsV b).length : Int) - 1)) = b.all fun z => decide (0 ≤ z) && decide (z < (b.length : Int)) := by
          rw [hb]
          unfold intsV
          rw [List.all_map]
          congr 1
          funext z
          simp only [Function.comp_apply, inRg]
          congr 1
          exact decide_eq_decide.mpr (by omega)
        rw [hg]
        have lt : lenV [.tup (intsV b)] = some (.int (b.length : Int)) := by rw [lenT, hb]
        have q1 : q21_1 (callN Pr k) [some (.tup (intsV b)), none] = .ok (.val (.lst true (b.map fun z => Val.bl (decide (0 ≤ z) && decide (z < (b.length : Int)))))) [some (.tup (intsV b)), none] := by
          unfold q21_1
          refine xLCs (iSeqN rfl (zti b) rfl) ?_ rfl rfl
          refine lcF (F := fun z : Int => Val.int z) (G := fun z : Int => Val.bl (decide (0 ≤ z) && decide (z < (b.length : Int)))) b [] fun z hz => ?_
          exact ⟨[some (.tup (intsV b)), some (.int z)], _, _, rfl, xCh (exV xV) (exN rfl) rfl (exV (xB (csN rfl csNil) (gsN rfl gsNil) lt)) rfl, rfl, rfl⟩
        apply runX (m := 1) rfl; simp only [show ∀ (c : Call) (e : En), f_21.body c e = sSeq (l_21 c []) e from fun _ _ => rfl, l21, List.map_cons, List.map_nil, List.replicate, List.cons_append, List.nil_append]
        · exact sqC (xsIf (tup_test rfl it e2) (skF sqN)) (qkN (sqC (xsIf (tNotx (tBx (exV (xB (csV q0 csNil) (gsV gsNil) al))) rfl) (skF sqN)) (qkN (sqC (xRet (xB (csV q1 csNil) (gsV gsNil) allM)) qkR))))
        · exact rkR rfl
theorem c_check (hX : Th1 X) (h : wishB X = true) : callN Pr (k + 4) 3 [X] = .ok .non [] := by
  have hc := c_is_wishes (k := k) hX
  rw [h] at hc
  show runDef f_3 _ _ = _
  apply runX (m := 0) rfl; simp only [show ∀ (c : Call) (e : En), f_3.body c e = sSeq (l_3 c []) e from fun _ _ => rfl, l_3, List.map_cons, List.map_nil, List.replicate, List.cons_append, List.nil_append]
  · exact sqC (xsIf (tNotx (tBx (exV (xCall (eaN rfl eaNil) (taN rfl hX.z taNil) hc (poV poNil)))) rfl) (skF sqN)) (qkN sqN)
  · exact rkN rfl
theorem x_check (hX : Th1 X) (h : wishB X = false) : callN Pr (k + 4) 3 [X] = .exc ⟨1, [], []⟩ [] := by
  have hc := c_is_wishes (k := k) hX
  rw [h] at hc
  show runDef f_3 _ _ = _
  apply runX (m := 0) rfl; simp only [show ∀ (c : Call) (e : En), f_3.body c e = sSeq (l_3 c []) e from fun _ _ => rfl, l_3, List.map_cons, List.map_nil, List.replicate, List.cons_append, List.nil_append]
  · exact sqC (xsIf (tNotx (tBx (exV (xCall (eaN rfl eaNil) (taN rfl hX.z taNil) hc (poV poNil)))) rfl) (skT (sqC xRaise0 qkX))) qkX
  · exact rkX rfl
/-- wishes: so many cars, each a place -/
structure Ws (ws : List Nat) : Prop where
  p : 1 ≤ ws.length
  l : ws.length ≤ 60
  lt : ∀ w ∈ ws, w < ws.length
def nv (L : List Nat) : List Val := L.map fun j : Nat => Val.int (j : Int)
theorem nv_ints (L : List Nat) : nv L = intsV (L.map fun j : Nat => (j : Int)) := by simp [nv, intsV]
theorem nv_len (L : List Nat) : (nv L).length = L.length := by simp [nv]
theorem nv_fz (L : List Nat) : isFzL (nv L) = true := by rw [nv_ints]; exact intsV_fz _
theorem nv_fzL (L : List Nat) : fzL (nv L) = nv L := by rw [nv_ints]; exact intsV_fzL _
theorem zT (L : List Nat) : fz (.tup (nv L)) = .tup (nv L) := by rw [fzt, nv_fzL]
theorem zL {o : Bool} (L : List Nat) : fz (.lst o (nv L)) = .lst false (nv L) := by rw [fz, nv_fzL]
theorem th_nv (L : List Nat) : Th1 (.tup (nv L)) := ⟨rfl, zT L, fun xs e y hy => by
  cases e
  obtain ⟨j, _, rfl⟩ := List.mem_map.mp hy
  exact ⟨rfl, rfl⟩⟩
theorem lenN {L : List Nat} : lenV [.tup (nv L)] = some (.int (L.length : Int)) := by rw [lenT, nv_len]
theorem wish_ws {ws : List Nat} (h : Ws ws) : wishB (.tup (nv ws)) = true := by
  have h1 := h.p
  have h2 := h.l
  simp only [wishB, lenB, nv_len, Bool.and_eq_true, decide_eq_true_eq, List.all_eq_true]
  refine ⟨⟨by omega, by omega⟩, fun y hy => ?_⟩
  obtain ⟨j, hj, rfl⟩ := List.mem_map.mp hy
  have := h.lt j hj
  simp only [inRg, Bool.and_eq_true, decide_eq_true_eq]
  omega
theorem ws_of (hX : wishB X = true) : ∃ ws, X = .tup (nv ws) ∧ Ws ws := by
  cases X <;> first | (cases hX; done) | skip
  rename_i xs
  simp only [wishB, lenB, Bool.and_eq_true, decide_eq_true_eq] at hX
  obtain ⟨⟨h1, h2⟩, h3⟩ := hX
  have h4 : xs.all isI = true := by
    rw [List.all_eq_true] at h3 ⊢
    intro x hx
    cases e : isI x with
    | true => rfl
    | false => have := h3 x hx; rw [inRg_no e] at this; cases this
  obtain ⟨b, rfl⟩ := all_ints h4
  have hm : ∀ z ∈ b, 0 ≤ z ∧ z ≤ (b.length : Int) - 1 := fun z hz => by
    rw [List.all_eq_true] at h3
    have := h3 (.int z) (List.mem_map_of_mem hz)
    rw [intsV_len] at this
    simpa [inRg] using this
  rw [intsV_len] at h1 h2
  have he : (b.map Int.toNat).map (fun j : Nat => (j : Int)) = b := by
    rw [List.map_map]
    conv => rhs; rw [← List.map_id b]
    refine List.map_congr_left fun z hz => ?_
    have := (hm z hz).1
    simp only [Function.comp_apply, id]
    omega
  refine ⟨b.map Int.toNat, by rw [nv_ints, he], ⟨by simp; omega, by simp; omega, fun w hw => ?_⟩⟩
  obtain ⟨z, hz, rfl⟩ := List.mem_map.mp hw
  have := hm z hz
  simp
  omega
end LK
set_option Elab.async false
set_option linter.all false
set_option maxRecDepth 100000
set_option maxHeartbeats 4000000
namespace LK
open VI PySem
theorem eqD_int {x y : Int} : eqD (.int x) (.int y) = some (.bl (x == y)) := by simp [eqD, isD, depthV, okV, eqV0]
theorem eqD_bl {x y : Bool} : eqD (.bl x) (.bl y) = some (.bl (x == y)) := by simp [eqD, isD, depthV, okV, eqV0]
theorem neD_bl {x y : Bool} : neD (.bl x) (.bl y) = some (.bl (!(x == y))) := by simp [neD, isD, depthV, okV, eqV0]
theorem eqG_bl {call : Call} {n c : Nat} {x y : Bool} : eqG call n c (.bl x) (.bl y) = some (.bl (x == y)) := by simp [eqG, eqD, isD, depthV, okV, eqV0]
def Hd (cs : List Int) (a b c d : Int) : Val := .lst true [.lst false (intsV cs), .int a, .int b, .int c, .int d]
theorem subs_at (o : Bool) (xs : List Val) (i : Nat) (x : Val) (h : xs[i]? = some x) (hf : isFz x = true) : subsV (.lst o xs) (.int i) = some x := subs_lst h hf
theorem subs_h (L : List Val) (a b c d : Int) (hL : isFzL L = true) :
    subsV (.lst true [.lst false L, .int a, .int b, .int c, .int d]) (.int 0) = some (.lst false L) ∧ subsV (.lst true [.lst false L, .int a, .int b, .int c, .int d]) (.int 1) = some (.int a) ∧
    subsV (.lst true [.lst false L, .int a, .int b, .int c, .int d]) (.int 2) = some (.int b) ∧ subsV (.lst true [.lst false L, .int a, .int b, .int c, .int d]) (.int 3) = some (.int c) ∧
    subsV (.lst true [.lst false L, .int a, .int b, .int c, .int d]) (.int 4) = some (.int d) :=
  ⟨subs_at _ _ 0 _ rfl (by simp [isFz, hL]), subs_at _ _ 1 _ rfl rfl, subs_at _ _ 2 _ rfl rfl, subs_at _ _ 3 _ rfl rfl, subs_at _ _ 4 _ rfl rfl⟩
theorem pow18 : powV (.int 10) (.int 18) = some (.int 1000000000000000000) := by simp [powV]
theorem mul_r (x y : Int) (h : small64 y = true) : mulW (.int x) (.int y) = some (.int (x * y)) := by simp [mulW, h]
theorem mul_l (x y : Int) (h : small64 x = true) : mulW (.int x) (.int y) = some (.int (x * y)) := by simp [mulW, h]
theorem small_mod (z : Int) (m : Int) (h1 : 0 < m) (h2 : m ≤ 4294967296) : small64 (z.fmod m) = true := by
  have := Int.fmod_nonneg_of_pos z h1
  have := Int.fmod_lt_of_pos z h1
  unfold small64 lim64
  exact decide_eq_true (by omega)
theorem mul_c1 (x : Int) : mulW (.int x) (.int 69621) = some (.int (x * 69621)) := mul_r _ _ (by decide)
theorem mul_c2 (x : Int) : mulW (.int x) (.int 40692) = some (.int (x * 40692)) := mul_r _ _ (by decide)
theorem mul_c3 (x : Int) : mulW (.int x) (.int 48271) = some (.int (x * 48271)) := mul_r _ _ (by decide)
theorem mul_c4 (x : Int) : mulW (.int 7919) (.int x) = some (.int (7919 * x)) := mul_l _ _ (by decide)
theorem mul_m1 (z w : Int) : mulW (.int (z.fmod 2147483647)) (.int w) = some (.int (z.fmod 2147483647 * w)) := mul_l _ _ (small_mod _ _ (by decide) (by decide))
theorem subs_L (L : List Int) (o : Bool) (a : Int) (h0 : 0 ≤ a) (h1 : a < L.length) : ∃ z, subsV (.lst o (intsV L)) (.int a) = some (.int z) := by
  obtain ⟨j, rfl⟩ := Int.eq_ofNat_of_zero_le h0
  have hj : j < L.length := by omega
  exact ⟨L[j], subs_li hj⟩
def num1 (c d : Int) : Int := ((c + 7919 * d) * 48271).fmod 2147483647
def num2 (n : Int) : Int := (n * (n.fdiv 1009 + 69621)).fmod 2147483647
def num3 (n : Int) : Int := (n * (n.fdiv 2003 + 40014)).fmod 2147483563
def numD (c d : Int) : Int := (num3 (num2 (num1 c d))).fdiv 16
theorem pr40 : Pr 14 = some f_14 := rfl
theorem draw {L : List Int} {a b c d m : Int} {k : Nat} (ha : 0 ≤ a) (hm : 0 < m) (hm2 : m < 1073741824) : ∃ r a' b' c' d', callN Pr (k + 1) 14 [Hd L a b c d, .int m] = .ok (.int r) [(0, Hd L a' b' c' d')] ∧ 0 ≤ r ∧ r < m ∧ 0 ≤ a' := by
  have hm0 : ¬ m = 0 := by omega
  have hma : m.natAbs < 1073741824 := by omega
  have nb : ∀ z : Int, 0 ≤ z.fmod m ∧ z.fmod m < m := fun z => ⟨Int.fmod_nonneg_of_pos z hm, Int.fmod_lt_of_pos z hm⟩
  have sh := fun a b c d => subs_h (intsV L) a b c d (intsV_fz L)
  by_cases h1 : b = 0 ∧ a < L.length
  · obtain ⟨rfl, h1⟩ := h1
    obtain ⟨z, hz⟩ := subs_L L false a ha h1
    by_cases h4 : 1000000000000000000 ≤ z
    · have h2 : 0 < z := by omega
      refine ⟨z.fmod m, a + 1, z.fdiv m, (c * 69621 + z * 40692 + 37).fmod 2147483629, d, ?_, (nb _).1, (nb _).2, by omega⟩
      simp [callN, pr40, runDef, f_14, b_14, l_14, Hd, startE, sSeq, sIf, VI.tAnd, tB, VI.c2, cN, cV, slot0, slotS, Res.bind, Res.toS, get_t, get_p, liftO, eqD_int, sh, gtV, h2, sAsg, cB, VI.cs, gets, intV, modV, hm0, OV.take, asg, fz, sSetI, OV.takeF, oL, fdivV, hma, sRet, outsOf, isFzL, isFz, intsV_fz, place, lenL, intsV_len, ltV, h1, hz, addV, mul_c1, mul_c2, geV, pow18, h4]
    · refine ⟨(numD ((c * 69621 + z * 40692 + 37).fmod 2147483629) (d + 1)).fmod m, a + 1, 0, (c * 69621 + z * 40692 + 37).fmod 2147483629, d + 1, ?_, (nb _).1, (nb _).2, by omega⟩
      · simp [callN, pr40, runDef, f_14, b_14, l_14, Hd, startE, sSeq, sIf, VI.tAnd, tB, VI.c2, cN, cV, slot0, slotS, Res.bind, Res.toS, get_t, get_p, liftO, eqD_int, sh, gtV, sAsg, cB, VI.cs, gets, intV, modV, hm0, OV.take, asg, fz, sSetI, OV.takeF, oL, fdivV, hma, sRet, outsOf, isFzL, isFz, intsV_fz, place, lenL, intsV_len, ltV, h1, hz, addV, mul_c1, mul_c2, mul_c3, mul_c4, mul_m1, geV, pow18, h4, numD, num1, num2, num3]
  · by_cases h2 : 0 < b
    · refine ⟨b.fmod m, a, b.fdiv m, c, d, ?_, (nb _).1, (nb _).2, ha⟩
      have h3 : (b == 0) = false := beq_eq_false_iff_ne.mpr (by omega)
      simp [callN, pr40, runDef, f_14, b_14, l_14, Hd, startE, sSeq, sIf, VI.tAnd, tB, VI.c2, cN, cV, slot0, slotS, Res.bind, Res.toS, get_t, get_p, liftO, eqD_int, sh, h3, gtV, h2, sAsg, cB, VI.cs, gets, intV, modV, hm0, OV.take, asg, fz, sSetI, OV.takeF, oL, fdivV, hma, sRet, outsOf, isFzL, isFz, intsV_fz, place]
    · by_cases h5 : b = 0
      · subst h5
        have h6 : ¬ a < L.length := fun z => h1 ⟨rfl, z⟩
        refine ⟨(numD c (d + 1)).fmod m, a, 0, c, d + 1, ?_, (nb _).1, (nb _).2, ha⟩
        · simp [callN, pr40, runDef, f_14, b_14, l_14, Hd, startE, sSeq, sIf, VI.tAnd, tB, VI.c2, cN, cV, slot0, slotS, Res.bind, Res.toS, get_t, get_p, liftO, eqD_int, sh, gtV, sAsg, cB, VI.cs, gets, intV, modV, hm0, OV.take, asg, fz, sSetI, OV.takeF, oL, fdivV, hma, sRet, outsOf, isFzL, isFz, intsV_fz, place, lenL, intsV_len, ltV, h6, addV, mul_c1, mul_c2, mul_c3, mul_c4, mul_m1, geV, pow18, numD, num1, num2, num3]
      · have h3 : (b == 0) = false := beq_eq_false_iff_ne.mpr h5
        refine ⟨(numD c (d + 1)).fmod m, a, b, c, d + 1, ?_, (nb _).1, (nb _).2, ha⟩
        · simp [callN, pr40, runDef, f_14, b_14, l_14, Hd, startE, sSeq, sIf, VI.tAnd, tB, VI.c2, cN, cV, slot0, slotS, Res.bind, Res.toS, get_t, get_p, liftO, eqD_int, sh, h3, gtV, h2, sAsg, cB, VI.cs, gets, intV, modV, hm0, OV.take, asg, fz, sSetI, OV.takeF, oL, fdivV, hma, sRet, outsOf, isFzL, isFz, intsV_fz, place, lenL, intsV_len, ltV, addV, mul_c1, mul_c2, mul_c3, mul_c4, mul_m1, geV, pow18, numD, num1, num2, num3]
end LK
set_option Elab.async false
set_option linter.all false
set_option maxRecDepth 100000
set_option maxHeartbeats 1600000
namespace LK
open VI PySem
local macro_rules | `(tactic| decreasing_trivial_pre_omega) => `(tactic| first
  | with_reducible assumption
  | (show (_ : Option Val) = _
     first
       | with_reducible exact eqG_int
       | with_reducible exact neD_int
       | with_reducible exact eqG_bl
       | with_reducible exact neD_bl
       | with_reducible exact lenG_lst
       | with_reducible exact lenG_any
       | exact (rfl : (_ : Option Val) = some _))
  | (show (_ : Res OV) = _
     first
       | with_reducible exact xV
       | ((with_reducible apply x1) <;> decreasing_trivial_pre_omega)
       | ((with_reducible apply x2N) <;> decreasing_trivial_pre_omega)
       | ((with_reducible apply x2V) <;> decreasing_trivial_pre_omega)
       | ((with_reducible apply xB) <;> decreasing_trivial_pre_omega)
       | ((with_reducible apply xCall) <;> decreasing_trivial_pre_omega)
       | ((with_reducible apply xTup) <;> decreasing_trivial_pre_omega)
       | ((with_reducible apply xLst) <;> decreasing_trivial_pre_omega)
       | ((with_reducible apply xIf) <;> decreasing_trivial_pre_omega)
       | ((with_reducible apply xAnd) <;> decreasing_trivial_pre_omega)
       | ((with_reducible apply xOr) <;> decreasing_trivial_pre_omega)
       | ((with_reducible apply xCh) <;> decreasing_trivial_pre_omega)
       | ((with_reducible apply xMake) <;> decreasing_trivial_pre_omega)
       | ((with_reducible apply xTupO) <;> decreasing_trivial_pre_omega)
       | ((with_reducible apply xLstO) <;> decreasing_trivial_pre_omega)
       | ((with_reducible apply xMGt) <;> decreasing_trivial_pre_omega)
       | ((with_reducible apply xPopAt) <;> decreasing_trivial_pre_omega)
       | ((with_reducible apply xPop) <;> decreasing_trivial_pre_omega)
       | ((with_reducible apply xMGl) <;> decreasing_trivial_pre_omega))
  | (show (_ : Res (List OV)) = _
     first
       | with_reducible exact csNil
       | ((with_reducible apply csN) <;> decreasing_trivial_pre_omega)
       | ((with_reducible apply csV) <;> decreasing_trivial_pre_omega))
  | (show (_ : Res (List AV)) = _
     first
       | with_reducible exact eaNil
       | ((with_reducible apply eaN) <;> decreasing_trivial_pre_omega)
       | ((with_reducible apply eaV) <;> decreasing_trivial_pre_omega)
       | ((with_reducible apply eaR) <;> decreasing_trivial_pre_omega))
  | (show (_ : Option (List Val × En)) = _
     first
       | with_reducible exact tfNil
       | with_reducible exact tkNil
       | with_reducible exact taNil
       | ((with_reducible apply tfV) <;> decreasing_trivial_pre_omega)
       | ((with_reducible apply tfN) <;> decreasing_trivial_pre_omega)
       | ((with_reducible apply tfNl) <;> decreasing_trivial_pre_omega)
       | ((with_reducible apply tkV) <;> decreasing_trivial_pre_omega)
       | ((with_reducible apply tkN) <;> decreasing_trivial_pre_omega)
       | ((with_reducible apply tkNl) <;> decreasing_trivial_pre_omega)
       | ((with_reducible apply taV) <;> decreasing_trivial_pre_omega)
       | ((with_reducible apply taN) <;> decreasing_trivial_pre_omega)
       | ((with_reducible apply taNl) <;> decreasing_trivial_pre_omega)
       | ((with_reducible apply taR) <;> decreasing_trivial_pre_omega))
  | (show (_ : Option (List Val)) = _
     first
       | with_reducible exact gsNil
       | ((with_reducible apply gsN) <;> decreasing_trivial_pre_omega)
       | ((with_reducible apply gsV) <;> decreasing_trivial_pre_omega)
       | exact (rfl : (_ : Option (List Val)) = some _))
  | (show (_ : Option En) = _
     first
       | with_reducible exact poNil
       | ((with_reducible apply poV) <;> decreasing_trivial_pre_omega)
       | ((with_reducible apply poR) <;> decreasing_trivial_pre_omega)
       | ((with_reducible apply asN) <;> decreasing_trivial_pre_omega)
       | ((with_reducible apply asT) <;> decreasing_trivial_pre_omega)
       | with_reducible exact asLn
       | ((with_reducible apply asLc) <;> decreasing_trivial_pre_omega))
  | (show (_ : En) = _
     first
       | with_reducible exact setL0
       | ((with_reducible apply setLS) <;> decreasing_trivial_pre_omega))
  | (show (_ : SRes) = _
     first
       | with_reducible exact sqN
       | ((with_reducible apply sqC) <;> decreasing_trivial_pre_omega)
       | ((with_reducible apply xAsgN) <;> decreasing_trivial_pre_omega)
       | ((with_reducible apply xAsg) <;> decreasing_trivial_pre_omega)
       | ((with_reducible apply xPar3) <;> decreasing_trivial_pre_omega)
       | ((with_reducible apply xPar) <;> decreasing_trivial_pre_omega)
       | ((with_reducible apply xRetN) <;> decreasing_trivial_pre_omega)
       | ((with_reducible apply xRet) <;> decreasing_trivial_pre_omega)
       | ((with_reducible apply xExp) <;> decreasing_trivial_pre_omega)
       | ((with_reducible apply xsIf) <;> decreasing_trivial_pre_omega)
       | ((with_reducible apply xAppN) <;> decreasing_trivial_pre_omega)
       | ((with_reducible apply xApp) <;> decreasing_trivial_pre_omega)
       | with_reducible exact xRaise0)
  | (show (_ : Res Bool) = _
     first
       | ((with_reducible apply tBx) <;> decreasing_trivial_pre_omega)
       | ((with_reducible apply tNotx) <;> decreasing_trivial_pre_omega)
       | ((with_reducible apply tAndx) <;> decreasing_trivial_pre_omega)
       | ((with_reducible apply tOrx) <;> decreasing_trivial_pre_omega))
  | (show (_ : Res (List Val)) = _
     first
       | ((with_reducible apply iSeqG) <;> decreasing_trivial_pre_omega)
       | ((with_reducible apply iEnuG) <;> decreasing_trivial_pre_omega)
       | ((with_reducible apply iZipG) <;> decreasing_trivial_pre_omega)
       | ((with_reducible apply iRngN) <;> decreasing_trivial_pre_omega))
  | (show (_ : Val) = _
     first
       | with_reducible exact fzi _
       | with_reducible exact fzb _
       | with_reducible exact fzn
       | with_reducible exact fzs _
       | with_reducible exact zti _
       | exact fz_of rfl
       | exact (rfl : Val.int _ = Val.int _)
       | exact (rfl : Val.tup _ = Val.tup _)
       | exact (rfl : Val.lst _ _ = Val.lst _ _))
  | (show (_ : Bool) = _
     first
       | exact (rfl : (_ : Bool) = true)
       | exact (rfl : (_ : Bool) = false)
       | exact decide_eq_true (by omega)
       | exact decide_eq_false (by omega)
       | exact beq_eq_false_iff_ne.mpr (by omega)
       | exact beq_iff_eq.mpr (by omega)
       | rfl)
  | ((with_reducible apply exN) <;> decreasing_trivial_pre_omega)
  | ((with_reducible apply exV) <;> decreasing_trivial_pre_omega)
  | ((with_reducible apply qkN) <;> decreasing_trivial_pre_omega)
  | with_reducible exact qkR
  | with_reducible exact qkX
  | with_reducible exact qkC
  | with_reducible exact qkB
  | ((with_reducible apply tkT) <;> decreasing_trivial_pre_omega)
  | ((with_reducible apply tkF) <;> decreasing_trivial_pre_omega)
  | ((with_reducible apply tkT') <;> decreasing_trivial_pre_omega)
  | ((with_reducible apply tkF') <;> decreasing_trivial_pre_omega)
  | ((with_reducible apply tkA) <;> decreasing_trivial_pre_omega)
  | ((with_reducible apply tkO) <;> decreasing_trivial_pre_omega)
  | ((with_reducible apply vkT) <;> decreasing_trivial_pre_omega)
  | ((with_reducible apply vkF) <;> decreasing_trivial_pre_omega)
  | ((with_reducible apply vkT') <;> decreasing_trivial_pre_omega)
  | ((with_reducible apply vkF') <;> decreasing_trivial_pre_omega)
  | ((with_reducible apply vkA) <;> decreasing_trivial_pre_omega)
  | ((with_reducible apply vkO) <;> decreasing_trivial_pre_omega)
  | ((with_reducible apply vkS) <;> decreasing_trivial_pre_omega)
  | ((with_reducible apply skT) <;> decreasing_trivial_pre_omega)
  | ((with_reducible apply skF) <;> decreasing_trivial_pre_omega)
  | ((with_reducible apply skT') <;> decreasing_trivial_pre_omega)
  | ((with_reducible apply skF') <;> decreasing_trivial_pre_omega)
  | ((with_reducible apply rkR) <;> decreasing_trivial_pre_omega)
  | ((with_reducible apply rkR') <;> decreasing_trivial_pre_omega)
  | ((with_reducible apply rkN) <;> decreasing_trivial_pre_omega)
  | ((with_reducible apply rkX) <;> decreasing_trivial_pre_omega)
  | (show (_ : Option (List (Nat × Val))) = _
     first
       | with_reducible exact oN
       | ((with_reducible apply oC) <;> decreasing_trivial_pre_omega)
       | exact (rfl : (_ : Option (List (Nat × Val))) = some _))
  | (show (_ : Nat) < _; first | assumption | omega | (simp [most]; done))
  | exact (rfl : (_ : Option _) = some _))

variable {k : Nat}
def HandV (h : Val) : Prop := ∃ L a b c d, h = Hd L a b c d ∧ 0 ≤ a
theorem drawH {h : Val} {m : Nat} (hh : HandV h) (hm : 0 < m) (hm2 : m < 1073741824) : ∃ (r : Nat) (h' : Val), callN Pr (k + 1) 14 [h, .int m] = .ok (.int r) [(0, h')] ∧ HandV h' ∧ r < m := by
  obtain ⟨L, a, b, c, d, rfl, ha⟩ := hh
  obtain ⟨r, a', b', c', d', q, r0, r1, ha'⟩ := draw (L := L) (b := b) (c := c) (d := d) (k := k) ha (m := (m : Int)) (by omega) (by omega)
  refine ⟨r.toNat, Hd L a' b' c' d', ?_, ⟨_, _, _, _, _, rfl, ha'⟩, by omega⟩
  rw [q, Int.toNat_of_nonneg r0]
theorem anyL {h : Val} {o : Bool} {xs : List Val} (hh : HandV h) (hz : isFzL xs = true) (h0 : xs ≠ []) (h1 : xs.length < 1073741824) : ∃ x h', callN Pr (k + 2) 15 [h, .lst o xs] = .ok x [(0, h')] ∧ HandV h' ∧ x ∈ xs := by
  have hl : 0 < xs.length := by cases xs with | nil => exact absurd rfl h0 | cons a b => simp
  obtain ⟨r, h', q, p, s⟩ := drawH (k := k) hh (m := xs.length) hl h1
  refine ⟨xs[r], h', ?_, p, List.getElem_mem s⟩
  have hs : subsV (.lst o xs) (.int (r : Int)) = some xs[r] := subs_lst (List.getElem?_eq_getElem s) (mem_fzL hz (List.getElem?_eq_getElem s))
  have hl := lenL (o := o) (xs := xs)
  show runDef f_15 _ _ = _
  apply runX (m := 0) rfl; simp only [show ∀ (c : Call) (e : En), f_15.body c e = sSeq (l_15 c [0]) e from fun _ _ => rfl, l_15, List.map_cons, List.map_nil, List.replicate, List.cons_append, List.nil_append]
  · decreasing_trivial_pre_omega
  · decreasing_trivial_pre_omega
theorem gtV_nat {a : Nat} : gtV (.int (a : Int)) (.int 0) = some (.bl (decide (0 < a))) := by
  show some (Val.bl (decide ((0 : Int) < (a : Int)))) = _
  congr 2
  exact decide_eq_decide.mpr (by omega)
theorem erase_map {α β : Type} (F : α → β) : ∀ (A : List α) (r : Nat), (A.map F).eraseIdx r = (A.eraseIdx r).map F
  | [], _ => rfl
  | a :: A, 0 => rfl
  | a :: A, r + 1 => by
    show F a :: (A.map F).eraseIdx r = F a :: (A.eraseIdx r).map F
    rw [erase_map F A r]
theorem erase_perm' {α : Type} : ∀ {A : List α} {r : Nat} {x : α}, A[r]? = some x → (x :: A.eraseIdx r).Perm A
  | [], _, _, h => by simp at h
  | a :: A, 0, x, h => by simp at h; subst h; exact .refl _
  | a :: A, r + 1, x, h => by
    have ih := erase_perm' (A := A) (r := r) (x := x) (by simpa using h)
    exact (List.Perm.swap a x _).trans (ih.cons a)
def w16_0 (call : Call) : VI.CB := (tB (c2 gtV (cB lenV [(cN 2)]) (cV (.int (0)))))
def y16_0 (call : Call) : VI.S := (sSeq [(sApp 3 (cPopAt 2 (cCall call 14 [.r 0, .v (cB lenV [(cN 2)])])))])
def f16_0 (call : Call) : VI.S := (sWh (w16_0 call) (y16_0 call))
theorem l16 (call : Call) : l_16 call [0] = [(sPar [0] 2 3 (cB listV [(cN 1)]) (cLst [])), (f16_0 call), (sRet [0] (cN 3))] := rfl
theorem mixed {α : Type} {F : α → Val} (hF : ∀ a, isFz (F a) = true) {h : Val} {o : Bool} {L : List α} (hh : HandV h) (hl : L.length ≤ 1000) : ∃ (L' : List α) (h' : Val), callN Pr (k + 2) 16 [h, .lst o (L.map F)] = .ok (.lst true (L'.map F)) [(0, h')] ∧ HandV h' ∧ L'.Perm L := by
  have lL : listV [.lst o (L.map F)] = some (.lst true (L.map F)) := by
    show (if isFzL (L.map F) then some (Val.lst true (L.map F)) else none) = _
    rw [mapFz fun a _ => hF a]; rfl
  have go : ∃ (L' : List α) (h' : Val), f16_0 (callN Pr (k + 1)) [some h, some (.lst o (L.map F)), some (.lst true (L.map F)), some (.lst true [])] = .nx [some h', some (.lst o (L.map F)), some (.lst true []), some (.lst true (L'.map F))] ∧ HandV h' ∧ L'.Perm L := by
    unfold f16_0
    obtain ⟨e', g1, L', h', rfl, g2, g3⟩ := whG (t := w16_0 (callN Pr (k + 1))) (body := y16_0 (callN Pr (k + 1)))
      (I := fun m e => ∃ (A B : List α) (h' : Val), e = [some h', some (.lst o (L.map F)), some (.lst true (A.map F)), some (.lst true (B.map F))] ∧ A.length = m ∧ HandV h' ∧ (A ++ B).Perm L)
      (Q := fun e => ∃ (L' : List α) (h' : Val), e = [some h', some (.lst o (L.map F)), some (.lst true []), some (.lst true (L'.map F))] ∧ HandV h' ∧ L'.Perm L) (fun m e hI => by
        obtain ⟨A, B, h', rfl, hA, hh', hp⟩ := hI
        have lA : lenV [.lst true (A.map F)] = some (.int (A.length : Nat)) := by rw [lenL, List.length_map]
        have g := gtV_nat (a := A.length)
        cases A with
        | nil =>
          have g : gtV (.int (([] : List α).length : Nat)) (.int 0) = some (.bl false) := g
          exact .inl ⟨[some h', some (.lst o (L.map F)), some (.lst true (([] : List α).map F)), some (.lst true (B.map F))], by unfold w16_0; decreasing_trivial_pre_omega, B, h', rfl, hh', by simpa using hp⟩
        | cons a A =>
          have hlen := hp.length_eq
          simp at hlen
          have g : gtV (.int ((a :: A).length : Nat)) (.int 0) = some (.bl true) := by rw [g, decide_eq_true (by simp)]
          obtain ⟨r, h2, q, p, s⟩ := drawH (k := k) hh' (m := (a :: A).length) (by simp) (by simp; omega)
          have hx : (List.map F (a :: A))[r]? = some (F ((a :: A)[r])) := by rw [List.getElem?_map, List.getElem?_eq_getElem s]; rfl
          have hz := hF ((a :: A)[r])
          have hzz := fz_of hz
          have ml : (B.map F).length < most := by rw [List.length_map]; unfold most; omega
          refine .inr ⟨[some h', some (.lst o (L.map F)), some (.lst true ((a :: A).map F)), some (.lst true (B.map F))], [some h2, some (.lst o (L.map F)), some (.lst true (((a :: A).map F).eraseIdx r)), some (.lst true (B.map F ++ [F ((a :: A)[r])]))], m - 1, by simp at hA; omega, by unfold w16_0; decreasing_trivial_pre_omega, by unfold y16_0; decreasing_trivial_pre_omega, (a :: A).eraseIdx r, B ++ [(a :: A)[r]], h2, ?_, by rw [List.length_eraseIdx_of_lt s]; omega, p, ?_⟩
          · rw [List.map_append, erase_map]; rfl
          · refine List.Perm.trans ?_ hp
            have e1 : ((a :: A).eraseIdx r ++ (B ++ [(a :: A)[r]])).Perm ((a :: A)[r] :: ((a :: A).eraseIdx r ++ B)) := by
              rw [← List.append_assoc]
              exact List.perm_append_comm
            refine e1.trans ?_
            rw [← List.cons_append]
            exact List.Perm.append_right _ (by
              exact erase_perm' (List.getElem?_eq_getElem s)))
      turns L.length [some h, some (.lst o (L.map F)), some (.lst true (L.map F)), some (.lst true [])] (by unfold turns; omega) ⟨L, [], h, rfl, rfl, hh, by simp⟩
    exact ⟨L', h', xWh g1, g2, g3⟩
  obtain ⟨L', h', q, p, r⟩ := go
  refine ⟨L', h', ?_, p, r⟩
  show runDef f_16 _ _ = _
  apply runX (m := 2) rfl; simp only [show ∀ (c : Call) (e : En), f_16.body c e = sSeq (l_16 c [0]) e from fun _ _ => rfl, l16, List.map_cons, List.map_nil, List.replicate, List.cons_append, List.nil_append]
  · decreasing_trivial_pre_omega
  · decreasing_trivial_pre_omega
end LK
set_option Elab.async false
set_option linter.all false
set_option maxRecDepth 100000
set_option maxHeartbeats 1600000
namespace LK
open VI PySem
local macro_rules | `(tactic| decreasing_trivial_pre_omega) => `(tactic| first
  | with_reducible assumption
  | (show (_ : Option Val) = _
     first
       | with_reducible exact eqG_int
       | with_reducible exact neD_int
       | with_reducible exact eqG_bl
       | with_reducible exact neD_bl
       | with_reducible exact lenG_lst
       | with_reducible exact lenG_any
       | exact (rfl : (_ : Option Val) = some _))
  | (show (_ : Res OV) = _
     first
       | with_reducible exact xV
       | ((with_reducible apply x1) <;> decreasing_trivial_pre_omega)
       | ((with_reducible apply x2N) <;> decreasing_trivial_pre_omega)
       | ((with_reducible apply x2V) <;> decreasing_trivial_pre_omega)
       | ((with_reducible apply xB) <;> decreasing_trivial_pre_omega)
       | ((with_reducible apply xCall) <;> decreasing_trivial_pre_omega)
       | ((with_reducible apply xTup) <;> decreasing_trivial_pre_omega)
       | ((with_reducible apply xLst) <;> decreasing_trivial_pre_omega)
       | ((with_reducible apply xIf) <;> decreasing_trivial_pre_omega)
       | ((with_reducible apply xAnd) <;> decreasing_trivial_pre_omega)
       | ((with_reducible apply xOr) <;> decreasing_trivial_pre_omega)
       | ((with_reducible apply xCh) <;> decreasing_trivial_pre_omega)
       | ((with_reducible apply xMake) <;> decreasing_trivial_pre_omega)
       | ((with_reducible apply xTupO) <;> decreasing_trivial_pre_omega)
       | ((with_reducible apply xLstO) <;> decreasing_trivial_pre_omega)
       | ((with_reducible apply xMGt) <;> decreasing_trivial_pre_omega)
       | ((with_reducible apply xPopAt) <;> decreasing_trivial_pre_omega)
       | ((with_reducible apply xPop) <;> decreasing_trivial_pre_omega)
       | ((with_reducible apply xMGl) <;> decreasing_trivial_pre_omega))
  | (show (_ : Res (List OV)) = _
     first
       | with_reducible exact csNil
       | ((with_reducible apply csN) <;> decreasing_trivial_pre_omega)
       | ((with_reducible apply csV) <;> decreasing_trivial_pre_omega))
  | (show (_ : Res (List AV)) = _
     first
       | with_reducible exact eaNil
       | ((with_reducible apply eaN) <;> decreasing_trivial_pre_omega)
       | ((with_reducible apply eaV) <;> decreasing_trivial_pre_omega)
       | ((with_reducible apply eaR) <;> decreasing_trivial_pre_omega))
  | (show (_ : Option (List Val × En)) = _
     first
       | with_reducible exact tfNil
       | with_reducible exact tkNil
       | with_reducible exact taNil
       | ((with_reducible apply tfV) <;> decreasing_trivial_pre_omega)
       | ((with_reducible apply tfN) <;> decreasing_trivial_pre_omega)
       | ((with_reducible apply tfNl) <;> decreasing_trivial_pre_omega)
       | ((with_reducible apply tkV) <;> decreasing_trivial_pre_omega)
       | ((with_reducible apply tkN) <;> decreasing_trivial_pre_omega)
       | ((with_reducible apply tkNl) <;> decreasing_trivial_pre_omega)
       | ((with_reducible apply taV) <;> decreasing_trivial_pre_omega)
       | ((with_reducible apply taN) <;> decreasing_trivial_pre_omega)
       | ((with_reducible apply taNl) <;> decreasing_trivial_pre_omega)
       | ((with_reducible apply taR) <;> decreasing_trivial_pre_omega))
  | (show (_ : Option (List Val)) = _
     first
       | with_reducible exact gsNil
       | ((with_reducible apply gsN) <;> decreasing_trivial_pre_omega)
       | ((with_reducible apply gsV) <;> decreasing_trivial_pre_omega)
       | exact (rfl : (_ : Option (List Val)) = some _))
  | (show (_ : Option En) = _
     first
       | with_reducible exact poNil
       | ((with_reducible apply poV) <;> decreasing_trivial_pre_omega)
       | ((with_reducible apply poR) <;> decreasing_trivial_pre_omega)
       | ((with_reducible apply asN) <;> decreasing_trivial_pre_omega)
       | ((with_reducible apply asT) <;> decreasing_trivial_pre_omega)
       | with_reducible exact asLn
       | ((with_reducible apply asLc) <;> decreasing_trivial_pre_omega))
  | (show (_ : En) = _
     first
       | with_reducible exact setL0
       | ((with_reducible apply setLS) <;> decreasing_trivial_pre_omega))
  | (show (_ : SRes) = _
     first
       | with_reducible exact sqN
       | ((with_reducible apply sqC) <;> decreasing_trivial_pre_omega)
       | ((with_reducible apply xAsgN) <;> decreasing_trivial_pre_omega)
       | ((with_reducible apply xAsg) <;> decreasing_trivial_pre_omega)
       | ((with_reducible apply xPar3) <;> decreasing_trivial_pre_omega)
       | ((with_reducible apply xPar) <;> decreasing_trivial_pre_omega)
       | ((with_reducible apply xRetN) <;> decreasing_trivial_pre_omega)
       | ((with_reducible apply xRet) <;> decreasing_trivial_pre_omega)
       | ((with_reducible apply xExp) <;> decreasing_trivial_pre_omega)
       | ((with_reducible apply xsIf) <;> decreasing_trivial_pre_omega)
       | ((with_reducible apply xAppN) <;> decreasing_trivial_pre_omega)
       | ((with_reducible apply xApp) <;> decreasing_trivial_pre_omega)
       | with_reducible exact xRaise0)
  | (show (_ : Res Bool) = _
     first
       | ((with_reducible apply tBx) <;> decreasing_trivial_pre_omega)
       | ((with_reducible apply tNotx) <;> decreasing_trivial_pre_omega)
       | ((with_reducible apply tAndx) <;> decreasing_trivial_pre_omega)
       | ((with_reducible apply tOrx) <;> decreasing_trivial_pre_omega))
  | (show (_ : Res (List Val)) = _
     first
       | ((with_reducible apply iSeqG) <;> decreasing_trivial_pre_omega)
       | ((with_reducible apply iEnuG) <;> decreasing_trivial_pre_omega)
       | ((with_reducible apply iZipG) <;> decreasing_trivial_pre_omega)
       | ((with_reducible apply iRngN) <;> decreasing_trivial_pre_omega))
  | (show (_ : Val) = _
     first
       | with_reducible exact fzi _
       | with_reducible exact fzb _
       | with_reducible exact fzn
       | with_reducible exact fzs _
       | with_reducible exact zti _
       | exact fz_of rfl
       | exact (rfl : Val.int _ = Val.int _)
       | exact (rfl : Val.tup _ = Val.tup _)
       | exact (rfl : Val.lst _ _ = Val.lst _ _))
  | (show (_ : Bool) = _
     first
       | exact (rfl : (_ : Bool) = true)
       | exact (rfl : (_ : Bool) = false)
       | exact decide_eq_true (by omega)
       | exact decide_eq_false (by omega)
       | exact beq_eq_false_iff_ne.mpr (by omega)
       | exact beq_iff_eq.mpr (by omega)
       | rfl)
  | ((with_reducible apply exN) <;> decreasing_trivial_pre_omega)
  | ((with_reducible apply exV) <;> decreasing_trivial_pre_omega)
  | ((with_reducible apply qkN) <;> decreasing_trivial_pre_omega)
  | with_reducible exact qkR
  | with_reducible exact qkX
  | with_reducible exact qkC
  | with_reducible exact qkB
  | ((with_reducible apply tkT) <;> decreasing_trivial_pre_omega)
  | ((with_reducible apply tkF) <;> decreasing_trivial_pre_omega)
  | ((with_reducible apply tkT') <;> decreasing_trivial_pre_omega)
  | ((with_reducible apply tkF') <;> decreasing_trivial_pre_omega)
  | ((with_reducible apply tkA) <;> decreasing_trivial_pre_omega)
  | ((with_reducible apply tkO) <;> decreasing_trivial_pre_omega)
  | ((with_reducible apply vkT) <;> decreasing_trivial_pre_omega)
  | ((with_reducible apply vkF) <;> decreasing_trivial_pre_omega)
  | ((with_reducible apply vkT') <;> decreasing_trivial_pre_omega)
  | ((with_reducible apply vkF') <;> decreasing_trivial_pre_omega)
  | ((with_reducible apply vkA) <;> decreasing_trivial_pre_omega)
  | ((with_reducible apply vkO) <;> decreasing_trivial_pre_omega)
  | ((with_reducible apply vkS) <;> decreasing_trivial_pre_omega)
  | ((with_reducible apply skT) <;> decreasing_trivial_pre_omega)
  | ((with_reducible apply skF) <;> decreasing_trivial_pre_omega)
  | ((with_reducible apply skT') <;> decreasing_trivial_pre_omega)
  | ((with_reducible apply skF') <;> decreasing_trivial_pre_omega)
  | ((with_reducible apply rkR) <;> decreasing_trivial_pre_omega)
  | ((with_reducible apply rkR') <;> decreasing_trivial_pre_omega)
  | ((with_reducible apply rkN) <;> decreasing_trivial_pre_omega)
  | ((with_reducible apply rkX) <;> decreasing_trivial_pre_omega)
  | (show (_ : Option (List (Nat × Val))) = _
     first
       | with_reducible exact oN
       | ((with_reducible apply oC) <;> decreasing_trivial_pre_omega)
       | exact (rfl : (_ : Option (List (Nat × Val))) = some _))
  | (show (_ : Nat) < _; first | assumption | omega | (simp [most]; done))
  | exact (rfl : (_ : Option _) = some _))

variable {k : Nat} {X : Val}
/-! R5: the same things; how cars park -/
theorem zip_self : ∀ xs : List Val, zipV xs xs = xs.map fun v => Val.tup [v, v]
  | [] => rfl
  | x :: xs => by
    show Val.tup [x, x] :: zipV xs xs = _
    rw [zip_self xs]
    rfl
theorem eqD_non : eqD .non .non = some (.bl true) := by simp [eqD, isD, depthV, okV, eqV0]
def q17_0 (call : Call) : VI.C := (cLC (iZip (cN 0) (cN 1)) (.t [(.n 2), (.n 3)]) VI.tYes (cCall call 17 [.v (cN 2), .v (cN 3)]) [2, 3])
theorem l17 (call : Call) : l_17 call [] = [(sIf (tB (c1 (isiV hier [.b "tuple", .b "list"]) (cN 1))) (sSeq [(sIf (VI.tOr (tB (c2 neD (c1 (isiV hier [.b "tuple"]) (cN 0)) (c1 (isiV hier [.b "tuple"]) (cN 1)))) (tNot (tB (c1 (isiV hier [.b "tuple", .b "list"]) (cN 0))))) (sSeq [(sRet [] (cV (.bl false)))]) (sSeq [])), (sRet [] (cAnd (c2 eqD (cB lenV [(cN 0)]) (cB lenV [(cN 1)])) (cB allV [(q17_0 call)])))]) (sSeq [])), (sIf (VI.tOr (tB (c1 (isiV hier [.b "bool"]) (cN 1))) (VI.tOr (tB (c1 (isiV hier [.b "bool"]) (cN 0))) (VI.tOr (tB (c2 isV (cN 1) (cV .non))) (tB (c2 isV (cN 0) (cV .non)))))) (sSeq [(sRet [] (cAnd (c2 eqD (c1 (isiV hier [.b "bool"]) (cN 0)) (c1 (isiV hier [.b "bool"]) (cN 1))) (cAnd (c2 eqD (c2 isV (cN 0) (cV .non)) (c2 isV (cN 1) (cV .non))) (c2 eqD (cN 0) (cN 1)))))]) (sSeq [])), (sRet [] (cAnd (c2 eqD (c1 (isiV hier [.b "str"]) (cN 0)) (c1 (isiV hier [.b "str"]) (cN 1))) (cAnd (c1 (isiV hier [.b "int", .b "str"]) (cN 0)) (c2 eqD (cN 0) (cN 1)))))] := rfl
theorem sm_flat {x : Val} (h : x = .non ∨ (∃ b, x = .bl b) ∨ ∃ i, x = .int i) : callN Pr (k + 1) 17 [x, x] = .ok (.bl true) [] := by
  have ed : eqD x x = some (.bl true) := by
    rcases h with rfl | ⟨b, rfl⟩ | ⟨i, rfl⟩
    · exact eqD_non
    · rw [eqD_bl]; simp
    · rw [eqD_int]; simp
  have bb : ∀ b : Bool, eqD (.bl b) (.bl b) = some (.bl true) := fun b => by rw [eqD_bl]; simp
  have hz : fz x = x := by rcases h with rfl | ⟨b, rfl⟩ | ⟨i, rfl⟩ <;> rfl
  have i1 : isiV hier [.b "tuple", .b "list"] x = some (.bl false) := by rcases h with rfl | ⟨b, rfl⟩ | ⟨i, rfl⟩ <;> rfl
  show runDef f_17 _ _ = _
  rcases h with rfl | ⟨b, rfl⟩ | ⟨i, rfl⟩
  · apply runX (m := 2) rfl; simp only [show ∀ (c : Call) (e : En), f_17.body c e = sSeq (l_17 c []) e from fun _ _ => rfl, l17, List.map_cons, List.map_nil, List.replicate, List.cons_append, List.nil_append]
    · exact sqC (xsIf (tBx (exV (VI.x1 (exN rfl) i1))) (skF sqN)) (qkN (sqC (xsIf (tOrx (tBx (exV (VI.x1 (exN rfl) rfl))) (tkF (tOrx (tBx (exV (VI.x1 (exN rfl) rfl))) (tkF (tOrx (tBx (exV (x2N rfl (exV xV) rfl rfl))) (tkT rfl)))))) (skT (sqC (xRet (xAnd (exV (x2V (VI.x1 (exN rfl) rfl) (exV (VI.x1 (exN rfl) rfl)) (bb false))) (vkT (xAnd (exV (x2V (x2N rfl (exV xV) rfl rfl) (exV (x2N rfl (exV xV) rfl rfl)) (bb true))) (vkT (x2N rfl (exN rfl) rfl ed)))))) qkR))) qkR))
    · exact rkR rfl
  · apply runX (m := 2) rfl; simp only [show ∀ (c : Call) (e : En), f_17.body c e = sSeq (l_17 c []) e from fun _ _ => rfl, l17, List.map_cons, List.map_nil, List.replicate, List.cons_append, List.nil_append]
    · exact sqC (xsIf (tBx (exV (VI.x1 (exN rfl) i1))) (skF sqN)) (qkN (sqC (xsIf (tOrx (tBx (exV (VI.x1 (exN rfl) rfl))) (tkT rfl)) (skT (sqC (xRet (xAnd (exV (x2V (VI.x1 (exN rfl) rfl) (exV (VI.x1 (exN rfl) rfl)) (bb true))) (vkT (xAnd (exV (x2V (x2N rfl (exV xV) rfl rfl) (exV (x2N rfl (exV xV) rfl rfl)) (bb false))) (vkT (x2N rfl (exN rfl) rfl ed)))))) qkR))) qkR))
    · exact rkR rfl
  · apply runX (m := 2) rfl; simp only [show ∀ (c : Call) (e : En), f_17.body c e = sSeq (l_17 c []) e from fun _ _ => rfl, l17, List.map_cons, List.map_nil, List.replicate, List.cons_append, List.nil_append]
    · exact sqC (xsIf (tBx (exV (VI.x1 (exN rfl) i1))) (skF sqN)) (qkN (sqC (xsIf (tOrx (tBx (exV (VI.x1 (exN rfl) rfl))) (tkF (tOrx (tBx (exV (VI.x1 (exN rfl) rfl))) (tkF (tOrx (tBx (exV (x2N rfl (exV xV) rfl rfl))) (tkF (tBx (exV (x2N rfl (exV xV) rfl rfl))))))))) (skF sqN)) (qkN (sqC (xRet (xAnd (exV (x2V (VI.x1 (exN rfl) rfl) (exV (VI.x1 (exN rfl) rfl)) (bb false))) (vkT (xAnd (exV (VI.x1 (exN rfl) rfl)) (vkT (x2N rfl (exN rfl) rfl ed)))))) qkR))))
    · exact rkR rfl
theorem sm_gen {x y : Val} {xs : List Val} {b : Bool} (hs : seqItems (fz x) = some xs) (hs2 : seqItems (fz y) = some xs) (i0 : isiV hier [.b "tuple", .b "list"] x = some (.bl true)) (i1 : isiV hier [.b "tuple", .b "list"] y = some (.bl true)) (t0 : isiV hier [.b "tuple"] x = some (.bl b)) (t1 : isiV hier [.b "tuple"] y = some (.bl b))
    (l0 : lenV [x] = some (.int (xs.length : Int))) (l1 : lenV [y] = some (.int (xs.length : Int))) (hz : ∀ v ∈ xs, fz v = v) (h : ∀ v ∈ xs, callN Pr k 17 [v, v] = .ok (.bl true) []) : callN Pr (k + 1) 17 [x, y] = .ok (.bl true) [] := by
  have nb : neD (.bl b) (.bl b) = some (.bl false) := by rw [neD_bl]; simp
  have el : eqD (.int (xs.length : Int)) (.int (xs.length : Int)) = some (.bl true) := by rw [eqD_int]; simp
  have al : allV [.lst true (xs.map fun _ => Val.bl true)] = some (.bl true) := by
    have := allM (p := fun _ : Val => true) (L := xs) (o := true)
    rwa [List.all_eq_true.mpr fun _ _ => rfl] at this
  have q0 : q17_0 (callN Pr k) [some x, some y, none, none] = .ok (.val (.lst true (xs.map fun _ => Val.bl true))) [some (fz x), some (fz y), none, none] := by
    unfold q17_0
    refine xLC (e2 := [some (fz x), some (fz y), none, none]) (e3 := [some (fz x), some (fz y), none, none]) (iZipG (csN rfl (csN rfl csNil)) (tfNl rfl rfl rfl (tfNl rfl rfl rfl tfNil)) hs hs2) rfl ?_ rfl
    rw [zip_self]
    exact lcF (F := fun v : Val => Val.tup [v, v]) (G := fun _ : Val => Val.bl true) xs [] fun v hv => ⟨[some (fz x), some (fz y), some v, some v], _, _, rfl, xCall (eaN rfl (eaN rfl eaNil)) (taN rfl (hz v hv) (taN rfl (hz v hv) taNil)) (h v hv) (poV (poV poNil)), rfl, rfl⟩
  show runDef f_17 _ _ = _
  apply runX (m := 2) rfl; simp only [show ∀ (c : Call) (e : En), f_17.body c e = sSeq (l_17 c []) e from fun _ _ => rfl, l17, List.map_cons, List.map_nil, List.replicate, List.cons_append, List.nil_append]
  · exact sqC (xsIf (tBx (exV (VI.x1 (exN rfl) i1))) (skT (sqC (xsIf (tOrx (tBx (exV (x2V (VI.x1 (exN rfl) t0) (exV (VI.x1 (exN rfl) t1)) nb))) (tkF (tNotx (tBx (exV (VI.x1 (exN rfl) i0))) rfl))) (skF sqN)) (qkN (sqC (xRet (xAnd (exV (x2V (xB (csN rfl csNil) (gsN rfl gsNil) l0) (exV (xB (csN rfl csNil) (gsN rfl gsNil) l1)) el)) (vkT (xB (csV q0 csNil) (gsV gsNil) al)))) qkR))))) qkR
  · exact rkR rfl
theorem sm_tup {xs : List Val} (hz : fzL xs = xs) (h : ∀ v ∈ xs, callN Pr k 17 [v, v] = .ok (.bl true) []) : callN Pr (k + 1) 17 [.tup xs, .tup xs] = .ok (.bl true) [] :=
  sm_gen (xs := xs) (b := true) (by rw [fzt, hz]; rfl) (by rw [fzt, hz]; rfl) rfl rfl rfl rfl rfl rfl (fzL_mem hz) h
theorem sm_lst {o p : Bool} {xs : List Val} (hz : fzL xs = xs) (h : ∀ v ∈ xs, callN Pr k 17 [v, v] = .ok (.bl true) []) : callN Pr (k + 1) 17 [.lst o xs, .lst p xs] = .ok (.bl true) [] :=
  sm_gen (xs := xs) (b := false) (by simp only [fz, hz]; rfl) (by simp only [fz, hz]; rfl) rfl rfl rfl rfl rfl rfl (fzL_mem hz) h
/-! ### steps -/
theorem xSetD {e e2 : En} {i j : Nat} {ks : List KeyT} {xs : List Val} {v : Val} {z : Int} (hs : slot e i = some (.dic true ks xs)) (hj : slot e j = some (.int z)) (hv : fz v = v) (hn : hasK ks z = false) (hl : xs.length + 1 < most) (he : e.set i (some (.dic true (ks ++ [Sum.inl z]) (xs ++ [v]))) = e2) : sSetD i (cN j) (cV v) e = .nx e2 := by
  have ho : oD e i = some (ks, xs) := by unfold oD; rw [hs]
  unfold sSetD
  show (match OV.takeF (.val v) e with
    | some (y, e2) => match oD e2 i with
      | none => SRes.bad
      | some _ => (cN j e2).toS fun w e3 => match w.get e3 with
        | some (.int k) => match oD e3 i with
          | some (ks, xs) => if !hasK ks k && decide (xs.length + 1 < most) then .nx (e3.set i (some (.dic true (ks ++ [Sum.inl k]) (xs ++ [y])))) else .bad
          | none => .bad
        | _ => .bad
    | none => .bad) = _
  simp only [OV.takeF, hv, ho, cN_ok hj, Res.toS, OV.get, hj, hn, Bool.not_false, Bool.true_and, decide_eq_true hl, if_true, he]
theorem xAppG {e e1 e2 e3 : En} {i : Nat} {c : VI.C} {u : OV} {xs ys : List Val} {y : Val} (h0 : slot e i = some (.lst true ys)) (h : c e = .ok u e1) (t : u.takeF e1 = some (y, e2)) (h1 : slot e2 i = some (.lst true xs)) (hl : xs.length < most) (he : e2.set i (some (.lst true (xs ++ [y]))) = e3) : sApp i c e = .nx e3 := by
  have o0 : oL e i = some ys := by unfold oL; rw [h0]
  have o1 : oL e2 i = some xs := by unfold oL; rw [h1]
  unfold sApp
  rw [o0]
  show (c e).toS _ = _
  rw [h]
  simp only [Res.toS, t, o1, decide_eq_true hl, if_true, he]
theorem tf_pk {e : En} {i : Nat} {x : Val} (h : slot e i = some x) (hz : fz x = x) : OV.takeF (.pk i) e = some (x, e) := by
  show (slot e i).map (fun x => (fz x, e.set i (some (fz x)))) = _
  rw [h]
  show some (fz x, e.set i (some (fz x))) = _
  rw [hz, set_slot h]
/-! ### where the cars park -/
def ov (n s : Nat) : Val := if s < n then .int (s : Int) else .non
def ovL (n : Nat) (ss : List Nat) : List Val := ss.map (ov n)
def keys (n : Nat) (ss : List Nat) : List KeyT := (ss.filter fun s => decide (s < n)).map fun s : Nat => Sum.inl (s : Int)
def trs (n : Nat) (ss : List Nat) : List Val := (ss.filter fun s => decide (s < n)).map fun _ : Nat => Val.bl true
theorem ov_flat (n s : Nat) : ov n s = .non ∨ (∃ b, ov n s = .bl b) ∨ ∃ i, ov n s = .int i := by
  unfold ov
  split
  · exact .inr (.inr ⟨_, rfl⟩)
  · exact .inl rfl
theorem ov_fz (n s : Nat) : isFz (ov n s) = true := by unfold ov; split <;> rfl
theorem ovL_fz (n : Nat) (ss : List Nat) : isFzL (ovL n ss) = true := mapFz fun a _ => ov_fz n a
theorem ovL_fzL (n : Nat) (ss : List Nat) : fzL (ovL n ss) = ovL n ss := fzL_of_is (ovL_fz n ss)
theorem hasK_keys {n h : Nat} {T : List Nat} : hasK (keys n T) (h : Int) = decide (h < n ∧ h ∈ T) := by
  unfold hasK keys
  rw [List.any_map, Bool.eq_iff_iff, List.any_eq_true, decide_eq_true_eq]
  constructor
  · rintro ⟨x, hx, h1⟩
    have h2 := List.mem_filter.mp hx
    have h3 : (Sum.inl (x : Int) : KeyT) = .inl (h : Int) := by simpa using h1
    have h4 : x = h := by have := Sum.inl.inj h3; omega
    subst h4
    exact ⟨of_decide_eq_true h2.2, h2.1⟩
  · rintro ⟨h1, h2⟩
    exact ⟨h, List.mem_filter.mpr ⟨h2, decide_eq_true h1⟩, by simp⟩
theorem spA_snoc (w : Nat) : ∀ (ws T : List Nat), spA T (ws ++ [w]) = spA T ws ++ [ff (T ++ spA T ws) w]
  | [], T => by simp [spA]
  | a :: ws, T => by
    rw [List.cons_append, spA, spA_snoc w ws, spA, List.cons_append]
    simp [stp]
theorem sp_snoc (ws : List Nat) (w : Nat) : sp (ws ++ [w]) = sp ws ++ [ff (sp ws) w] := by
  have := spA_snoc w ws []
  rwa [List.nil_append] at this
def mn (n s : Nat) : Nat := if s < n then s else n
theorem keys_snoc (n s : Nat) (T : List Nat) : (s < n → keys n (T ++ [s]) = keys n T ++ [.inl (s : Int)] ∧ trs n (T ++ [s]) = trs n T ++ [.bl true]) ∧ (¬ s < n → keys n (T ++ [s]) = keys n T ∧ trs n (T ++ [s]) = trs n T) := by
  unfold keys trs
  rw [List.filter_append]
  constructor
  · intro h
    have : List.filter (fun s => decide (s < n)) [s] = [s] := by simp [h]
    rw [this]
    simp
  · intro h
    have : List.filter (fun s => decide (s < n)) [s] = [] := by simp; omega
    rw [this]
    simp
theorem ltN {a b : Nat} : ltV (.int (a : Int)) (.int (b : Int)) = some (.bl (decide (a < b))) := by
  show some (Val.bl (decide ((a : Int) < (b : Int)))) = _
  congr 2
  exact decide_eq_decide.mpr (by omega)
theorem add1 {a : Nat} : addV (.int (a : Int)) (.int 1) = some (.int ((a + 1 : Nat) : Int)) := rfl
theorem inD {h n : Nat} {T : List Nat} {xs : List Val} : inDV (.int (h : Int)) (.dic true (keys n T) xs) = some (.bl (decide (h < n ∧ h ∈ T))) := by
  show some (Val.bl (hasK (keys n T) (h : Int))) = _
  rw [hasK_keys]
def w4_0 (call : Call) : VI.CB := (VI.tAnd (tB (c2 ltV (cN 4) (cB lenV [(cN 0)]))) (tB (c2 inDV (cN 4) (cN 1))))
def y4_0 (call : Call) : VI.S := (sSeq [(sAsg [] (.n 4) (c2 addV (cN 4) (cV (.int (1)))))])
def f4_0 (call : Call) : VI.S := (sWh (w4_0 call) (y4_0 call))
def y4_1 (call : Call) : VI.S := (sSeq [(sAsg [] (.n 4) (cN 3)), (f4_0 call), (sIf (tB (c2 ltV (cN 4) (cB lenV [(cN 0)]))) (sSeq [(sSetD 1 (cN 4) (cV (.bl true))), (sApp 2 (cN 4))]) (sSeq [(sApp 2 (cV .non))]))])
def f4_1 (call : Call) : VI.S := (sFor [] (iSeq (cN 0)) (.n 3) (y4_1 call))
theorem l4 (call : Call) : l_4 call [] = [(sPar [] 1 2 (cV (.dic true [] [])) (cLst [])), (f4_1 call), (sRet [] (cN 2))] := rfl
def w19_0 (call : Call) : VI.CB := (tB (c2 inDV (cN 4) (cN 1)))
def y19_0 (call : Call) : VI.S := (sSeq [(sAsg [] (.n 4) (c2 addV (cN 4) (cV (.int (1)))))])
def f19_0 (call : Call) : VI.S := (sWh (w19_0 call) (y19_0 call))
def y19_1 (call : Call) : VI.S := (sSeq [(sAsg [] (.n 4) (cN 3)), (f19_0 call), (sApp 2 (cIf (tB (c2 ltV (cN 4) (cB lenV [(cN 0)]))) (cN 4) (cV .non))), (sIf (tB (c2 ltV (cN 4) (cB lenV [(cN 0)]))) (sSeq [(sSetD 1 (cN 4) (cV (.bl true)))]) (sSeq []))])
def f19_1 (call : Call) : VI.S := (sFor [] (iSeq (cN 0)) (.n 3) (y19_1 call))
theorem l19 (call : Call) : l_19 call [] = [(sPar [] 1 2 (cV (.dic true [] [])) (cLst [])), (f19_1 call), (sRet [] (cB tupleG [(cN 2)]))] := rfl
section
variable {ws : List Nat} {n w s : Nat} {T : List Nat} {V0 V2 V3 : Option Val} {vals : List Val}
theorem park_wh (hw : w < n) (hf : FF T w s) (hn : n ≤ 60) (hV : V0 = some (.tup (nv ws))) (hl : ws.length = n) :
    f4_0 (callN Pr k) [V0, some (.dic true (keys n T) vals), V2, V3, some (.int (w : Int))] = .nx [V0, some (.dic true (keys n T) vals), V2, V3, some (.int (mn n s : Int))] := by
  subst hV
  have ln : lenV [.tup (nv ws)] = some (.int (n : Int)) := by rw [lenN, hl]
  unfold f4_0
  obtain ⟨e', g1, rfl⟩ := whG (t := w4_0 (callN Pr k)) (body := y4_0 (callN Pr k))
    (I := fun m e => ∃ h : Nat, e = [some (.tup (nv ws)), some (.dic true (keys n T) vals), V2, V3, some (.int (h : Int))] ∧ w ≤ h ∧ h ≤ s ∧ h ≤ n ∧ m = n - h)
    (Q := fun e => e = [some (.tup (nv ws)), some (.dic true (keys n T) vals), V2, V3, some (.int (mn n s : Int))]) (fun m e hI => by
      obtain ⟨h, rfl, h1, h2, h3, hm⟩ := hI
      by_cases c1 : h < n
      · by_cases c2 : h < s
        · have hin : decide (h < n ∧ h ∈ T) = true := decide_eq_true ⟨c1, hf.yes h h1 c2⟩
          have i := inD (h := h) (n := n) (T := T) (xs := vals)
          rw [hin] at i
          refine .inr ⟨[some (.tup (nv ws)), some (.dic true (keys n T) vals), V2, V3, some (.int (h : Int))], [some (.tup (nv ws)), some (.dic true (keys n T) vals), V2, V3, some (.int ((h + 1 : Nat) : Int))], n - (h + 1), by omega, ?_, ?_, h + 1, rfl, by omega, by omega, by omega, rfl⟩
          · unfold w4_0
            exact tAndx (tBx (exV (x2N rfl (exV (xB (csN rfl csNil) (gsN rfl gsNil) ln)) rfl ltN))) (tkT' (decide_eq_true c1) (tBx (exV (x2N rfl (exN rfl) rfl i))))
          · unfold y4_0
            exact sqC (xAsg (x2N rfl (exV xV) rfl add1) (asN rfl rfl rfl)) (qkN sqN)
        · have e : h = s := by omega
          subst e
          have hin : decide (h < n ∧ h ∈ T) = false := decide_eq_false fun z => hf.no z.2
          have i := inD (h := h) (n := n) (T := T) (xs := vals)
          rw [hin] at i
          refine .inl ⟨[some (.tup (nv ws)), some (.dic true (keys n T) vals), V2, V3, some (.int (h : Int))], ?_, by rw [mn, if_pos c1]⟩
          unfold w4_0
          exact tAndx (tBx (exV (x2N rfl (exV (xB (csN rfl csNil) (gsN rfl gsNil) ln)) rfl ltN))) (tkT' (decide_eq_true c1) (tBx (exV (x2N rfl (exN rfl) rfl i))))
      · have e : h = n := by omega
        subst e
        refine .inl ⟨[some (.tup (nv ws)), some (.dic true (keys h T) vals), V2, V3, some (.int (h : Int))], ?_, by rw [mn, if_neg (by omega)]⟩
        unfold w4_0
        exact tAndx (tBx (exV (x2N rfl (exV (xB (csN rfl csNil) (gsN rfl gsNil) ln)) rfl ltN))) (tkF' (decide_eq_false c1) rfl))
    turns (n - w) [some (.tup (nv ws)), some (.dic true (keys n T) vals), V2, V3, some (.int (w : Int))] (by unfold turns; omega) ⟨w, rfl, Nat.le_refl _, hf.le, by omega, rfl⟩
  exact xWh g1
theorem lpark_wh (hw : w < n) (hf : FF T w s) (hn : n ≤ 60) (hV : V0 = some (.tup (nv ws))) (hl : ws.length = n) :
    f19_0 (callN Pr k) [V0, some (.dic true (keys n T) vals), V2, V3, some (.int (w : Int))] = .nx [V0, some (.dic true (keys n T) vals), V2, V3, some (.int (mn n s : Int))] := by
  subst hV
  unfold f19_0
  obtain ⟨e', g1, rfl⟩ := whG (t := w19_0 (callN Pr k)) (body := y19_0 (callN Pr k))
    (I := fun m e => ∃ h : Nat, e = [some (.tup (nv ws)), some (.dic true (keys n T) vals), V2, V3, some (.int (h : Int))] ∧ w ≤ h ∧ h ≤ s ∧ h ≤ n ∧ m = n - h)
    (Q := fun e => e = [some (.tup (nv ws)), some (.dic true (keys n T) vals), V2, V3, some (.int (mn n s : Int))]) (fun m e hI => by
      obtain ⟨h, rfl, h1, h2, h3, hm⟩ := hI
      by_cases c1 : h < n
      · by_cases c2 : h < s
        · have hin : decide (h < n ∧ h ∈ T) = true := decide_eq_true ⟨c1, hf.yes h h1 c2⟩
          have i := inD (h := h) (n := n) (T := T) (xs := vals)
          rw [hin] at i
          refine .inr ⟨[some (.tup (nv ws)), some (.dic true (keys n T) vals), V2, V3, some (.int (h : Int))], [some (.tup (nv ws)), some (.dic true (keys n T) vals), V2, V3, some (.int ((h + 1 : Nat) : Int))], n - (h + 1), by omega, ?_, ?_, h + 1, rfl, by omega, by omega, by omega, rfl⟩
          · unfold w19_0
            exact tBx (exV (x2N rfl (exN rfl) rfl i))
          · unfold y19_0
            exact sqC (xAsg (x2N rfl (exV xV) rfl add1) (asN rfl rfl rfl)) (qkN sqN)
        · have e : h = s := by omega
          subst e
          have hin : decide (h < n ∧ h ∈ T) = false := decide_eq_false fun z => hf.no z.2
          have i := inD (h := h) (n := n) (T := T) (xs := vals)
          rw [hin] at i
          refine .inl ⟨[some (.tup (nv ws)), some (.dic true (keys n T) vals), V2, V3, some (.int (h : Int))], ?_, by rw [mn, if_pos c1]⟩
          unfold w19_0
          exact tBx (exV (x2N rfl (exN rfl) rfl i))
      · have e : h = n := by omega
        subst e
        refine .inl ⟨[some (.tup (nv ws)), some (.dic true (keys h T) vals), V2, V3, some (.int (h : Int))], ?_, by rw [mn, if_neg (by omega)]⟩
        unfold w19_0
        have i := inD (h := h) (n := h) (T := T) (xs := vals)
        rw [decide_eq_false fun z => Nat.lt_irrefl _ z.1] at i
        exact tBx (exV (x2N rfl (exN rfl) rfl i)))
    turns (n - w) [some (.tup (nv ws)), some (.dic true (keys n T) vals), V2, V3, some (.int (w : Int))] (by unfold turns; omega) ⟨w, rfl, Nat.le_refl _, hf.le, by omega, rfl⟩
  exact xWh g1
end
end LK
set_option Elab.async false
set_option linter.all false
set_option maxRecDepth 100000
set_option maxHeartbeats 1600000
namespace LK
open VI PySem
local macro_rules | `(tactic| decreasing_trivial_pre_omega) => `(tactic| first
  | with_reducible assumption
  | (show (_ : Option Val) = _
     first
       | with_reducible exact eqG_int
       | with_reducible exact neD_int
       | with_reducible exact eqG_bl
       | with_reducible exact neD_bl
       | with_reducible exact lenG_lst
       | with_reducible exact lenG_any
       | exact (rfl : (_ : Option Val) = some _))
  | (show (_ : Res OV) = _
     first
       | with_reducible exact xV
       | ((with_reducible apply x1) <;> decreasing_trivial_pre_omega)
       | ((with_reducible apply x2N) <;> decreasing_trivial_pre_omega)
       | ((with_reducible apply x2V) <;> decreasing_trivial_pre_omega)
       | ((with_reducible apply xB) <;> decreasing_trivial_pre_omega)
       | ((with_reducible apply xCall) <;> decreasing_trivial_pre_omega)
       | ((with_reducible apply xTup) <;> decreasing_trivial_pre_omega)
       | ((with_reducible apply xLst) <;> decreasing_trivial_pre_omega)
       | ((with_reducible apply xIf) <;> decreasing_trivial_pre_omega)
       | ((with_reducible apply xAnd) <;> decreasing_trivial_pre_omega)
       | ((with_reducible apply xOr) <;> decreasing_trivial_pre_omega)
       | ((with_reducible apply xCh) <;> decreasing_trivial_pre_omega)
       | ((with_reducible apply xMake) <;> decreasing_trivial_pre_omega)
       | ((with_reducible apply xTupO) <;> decreasing_trivial_pre_omega)
       | ((with_reducible apply xLstO) <;> decreasing_trivial_pre_omega)
       | ((with_reducible apply xMGt) <;> decreasing_trivial_pre_omega)
       | ((with_reducible apply xPopAt) <;> decreasing_trivial_pre_omega)
       | ((with_reducible apply xPop) <;> decreasing_trivial_pre_omega)
       | ((with_reducible apply xMGl) <;> decreasing_trivial_pre_omega))
  | (show (_ : Res (List OV)) = _
     first
       | with_reducible exact csNil
       | ((with_reducible apply csN) <;> decreasing_trivial_pre_omega)
       | ((with_reducible apply csV) <;> decreasing_trivial_pre_omega))
  | (show (_ : Res (List AV)) = _
     first
       | with_reducible exact eaNil
       | ((with_reducible apply eaN) <;> decreasing_trivial_pre_omega)
       | ((with_reducible apply eaV) <;> decreasing_trivial_pre_omega)
       | ((with_reducible apply eaR) <;> decreasing_trivial_pre_omega))
  | (show (_ : Option (List Val × En)) = _
     first
       | with_reducible exact tfNil
       | with_reducible exact tkNil
       | with_reducible exact taNil
       | ((with_reducible apply tfV) <;> decreasing_trivial_pre_omega)
       | ((with_reducible apply tfN) <;> decreasing_trivial_pre_omega)
       | ((with_reducible apply tfNl) <;> decreasing_trivial_pre_omega)
       | ((with_reducible apply tkV) <;> decreasing_trivial_pre_omega)
       | ((with_reducible apply tkN) <;> decreasing_trivial_pre_omega)
       | ((with_reducible apply tkNl) <;> decreasing_trivial_pre_omega)
       | ((with_reducible apply taV) <;> decreasing_trivial_pre_omega)
       | ((with_reducible apply taN) <;> decreasing_trivial_pre_omega)
       | ((with_reducible apply taNl) <;> decreasing_trivial_pre_omega)
       | ((with_reducible apply taR) <;> decreasing_trivial_pre_omega))
  | (show (_ : Option (List Val)) = _
     first
       | with_reducible exact gsNil
       | ((with_reducible apply gsN) <;> decreasing_trivial_pre_omega)
       | ((with_reducible apply gsV) <;> decreasing_trivial_pre_omega)
       | exact (rfl : (_ : Option (List Val)) = some _))
  | (show (_ : Option En) = _
     first
       | with_reducible exact poNil
       | ((with_reducible apply poV) <;> decreasing_trivial_pre_omega)
       | ((with_reducible apply poR) <;> decreasing_trivial_pre_omega)
       | ((with_reducible apply asN) <;> decreasing_trivial_pre_omega)
       | ((with_reducible apply asT) <;> decreasing_trivial_pre_omega)
       | with_reducible exact asLn
       | ((with_reducible apply asLc) <;> decreasing_trivial_pre_omega))
  | (show (_ : En) = _
     first
       | with_reducible exact setL0
       | ((with_reducible apply setLS) <;> decreasing_trivial_pre_omega))
  | (show (_ : SRes) = _
     first
       | with_reducible exact sqN
       | ((with_reducible apply sqC) <;> decreasing_trivial_pre_omega)
       | ((with_reducible apply xAsgN) <;> decreasing_trivial_pre_omega)
       | ((with_reducible apply xAsg) <;> decreasing_trivial_pre_omega)
       | ((with_reducible apply xPar3) <;> decreasing_trivial_pre_omega)
       | ((with_reducible apply xPar) <;> decreasing_trivial_pre_omega)
       | ((with_reducible apply xRetN) <;> decreasing_trivial_pre_omega)
       | ((with_reducible apply xRet) <;> decreasing_trivial_pre_omega)
       | ((with_reducible apply xExp) <;> decreasing_trivial_pre_omega)
       | ((with_reducible apply xsIf) <;> decreasing_trivial_pre_omega)
       | ((with_reducible apply xAppN) <;> decreasing_trivial_pre_omega)
       | ((with_reducible apply xApp) <;> decreasing_trivial_pre_omega)
       | with_reducible exact xRaise0)
  | (show (_ : Res Bool) = _
     first
       | ((with_reducible apply tBx) <;> decreasing_trivial_pre_omega)
       | ((with_reducible apply tNotx) <;> decreasing_trivial_pre_omega)
       | ((with_reducible apply tAndx) <;> decreasing_trivial_pre_omega)
       | ((with_reducible apply tOrx) <;> decreasing_trivial_pre_omega))
  | (show (_ : Res (List Val)) = _
     first
       | ((with_reducible apply iSeqG) <;> decreasing_trivial_pre_omega)
       | ((with_reducible apply iEnuG) <;> decreasing_trivial_pre_omega)
       | ((with_reducible apply iZipG) <;> decreasing_trivial_pre_omega)
       | ((with_reducible apply iRngN) <;> decreasing_trivial_pre_omega))
  | (show (_ : Val) = _
     first
       | with_reducible exact fzi _
       | with_reducible exact fzb _
       | with_reducible exact fzn
       | with_reducible exact fzs _
       | with_reducible exact zti _
       | exact fz_of rfl
       | exact (rfl : Val.int _ = Val.int _)
       | exact (rfl : Val.tup _ = Val.tup _)
       | exact (rfl : Val.lst _ _ = Val.lst _ _))
  | (show (_ : Bool) = _
     first
       | exact (rfl : (_ : Bool) = true)
       | exact (rfl : (_ : Bool) = false)
       | exact decide_eq_true (by omega)
       | exact decide_eq_false (by omega)
       | exact beq_eq_false_iff_ne.mpr (by omega)
       | exact beq_iff_eq.mpr (by omega)
       | rfl)
  | ((with_reducible apply exN) <;> decreasing_trivial_pre_omega)
  | ((with_reducible apply exV) <;> decreasing_trivial_pre_omega)
  | ((with_reducible apply qkN) <;> decreasing_trivial_pre_omega)
  | with_reducible exact qkR
  | with_reducible exact qkX
  | with_reducible exact qkC
  | with_reducible exact qkB
  | ((with_reducible apply tkT) <;> decreasing_trivial_pre_omega)
  | ((with_reducible apply tkF) <;> decreasing_trivial_pre_omega)
  | ((with_reducible apply tkT') <;> decreasing_trivial_pre_omega)
  | ((with_reducible apply tkF') <;> decreasing_trivial_pre_omega)
  | ((with_reducible apply tkA) <;> decreasing_trivial_pre_omega)
  | ((with_reducible apply tkO) <;> decreasing_trivial_pre_omega)
  | ((with_reducible apply vkT) <;> decreasing_trivial_pre_omega)
  | ((with_reducible apply vkF) <;> decreasing_trivial_pre_omega)
  | ((with_reducible apply vkT') <;> decreasing_trivial_pre_omega)
  | ((with_reducible apply vkF') <;> decreasing_trivial_pre_omega)
  | ((with_reducible apply vkA) <;> decreasing_trivial_pre_omega)
  | ((with_reducible apply vkO) <;> decreasing_trivial_pre_omega)
  | ((with_reducible apply vkS) <;> decreasing_trivial_pre_omega)
  | ((with_reducible apply skT) <;> decreasing_trivial_pre_omega)
  | ((with_reducible apply skF) <;> decreasing_trivial_pre_omega)
  | ((with_reducible apply skT') <;> decreasing_trivial_pre_omega)
  | ((with_reducible apply skF') <;> decreasing_trivial_pre_omega)
  | ((with_reducible apply rkR) <;> decreasing_trivial_pre_omega)
  | ((with_reducible apply rkR') <;> decreasing_trivial_pre_omega)
  | ((with_reducible apply rkN) <;> decreasing_trivial_pre_omega)
  | ((with_reducible apply rkX) <;> decreasing_trivial_pre_omega)
  | (show (_ : Option (List (Nat × Val))) = _
     first
       | with_reducible exact oN
       | ((with_reducible apply oC) <;> decreasing_trivial_pre_omega)
       | exact (rfl : (_ : Option (List (Nat × Val))) = some _))
  | (show (_ : Nat) < _; first | assumption | omega | (simp [most]; done))
  | exact (rfl : (_ : Option _) = some _))

variable {k : Nat} {X : Val} {ws : List Nat} {n w s : Nat} {T : List Nat}
/-! R6: all cars park -/
theorem mn_lt {s n : Nat} : decide (mn n s < n) = decide (s < n) := by
  unfold mn
  split
  · rfl
  · rw [decide_eq_false (by omega), decide_eq_false (by omega)]
theorem mn_ov {s n : Nat} (h : s < n) : mn n s = s := if_pos h
theorem park_body {x3 x4 : Option Val} (hw : w < n) (hn : n ≤ 60) (hl : ws.length = n) (hT : T.length ≤ 60) :
    ∃ y4 : Option Val, y4_1 (callN Pr k) [some (.tup (nv ws)), some (.dic true (keys n T) (trs n T)), some (.lst true (ovL n T)), some (.int (w : Int)), x4] = .nx [some (.tup (nv ws)), some (.dic true (keys n (stp T w)) (trs n (stp T w))), some (.lst true (ovL n (stp T w))), some (.int (w : Int)), y4] := by
  have ln : lenV [.tup (nv ws)] = some (.int (n : Int)) := by rw [lenN, hl]
  have wh := park_wh (k := k) (ws := ws) (V0 := some (.tup (nv ws))) (V2 := some (.lst true (ovL n T))) (V3 := some (.int (w : Int))) (vals := trs n T) hw (ff_ok T w) hn rfl hl
  obtain ⟨k1, k2⟩ := keys_snoc n (ff T w) T
  have tl : (trs n T).length + 1 < most := by
    have : (trs n T).length ≤ T.length := by unfold trs; rw [List.length_map]; exact List.length_filter_le _ _
    unfold most
    omega
  have ol : (ovL n T).length < most := by unfold ovL most; rw [List.length_map]; omega
  have os : ovL n (stp T w) = ovL n T ++ [ov n (ff T w)] := by simp [ovL, stp]
  have tst : ∀ b, decide (ff T w < n) = b → tB (c2 ltV (cN 4) (cB lenV [(cN 0)])) [some (.tup (nv ws)), some (.dic true (keys n T) (trs n T)), some (.lst true (ovL n T)), some (.int (w : Int)), some (.int (mn n (ff T w) : Int))] = .ok b [some (.tup (nv ws)), some (.dic true (keys n T) (trs n T)), some (.lst true (ovL n T)), some (.int (w : Int)), some (.int (mn n (ff T w) : Int))] := fun b hb => by
    have lt := ltN (a := mn n (ff T w)) (b := n)
    rw [mn_lt, hb] at lt
    exact tBx (exV (x2N rfl (exV (xB (csN rfl csNil) (gsN rfl gsNil) ln)) rfl lt))
  refine ⟨some (.int (mn n (ff T w) : Int)), ?_⟩
  rw [os]
  unfold y4_1
  by_cases c : ff T w < n
  · obtain ⟨e1, e2⟩ := k1 c
    have ko : ov n (ff T w) = .int (mn n (ff T w) : Int) := by rw [mn_ov c]; exact if_pos c
    have hk : hasK (keys n T) (mn n (ff T w) : Int) = false := by
      rw [mn_ov c, hasK_keys]
      exact decide_eq_false fun z => (ff_ok T w).no z.2
    rw [show keys n (stp T w) = keys n T ++ [Sum.inl (mn n (ff T w) : Int)] by rw [mn_ov c]; exact e1, show trs n (stp T w) = trs n T ++ [.bl true] from e2, ko]
    exact sqC (xAsgN rfl (fzi _) (asN rfl rfl rfl)) (qkN (sqC wh (qkN (sqC (xsIf (tst true (decide_eq_true c)) (skT (sqC (xSetD rfl rfl rfl hk tl rfl) (qkN (sqC (xAppN rfl (fzi _) rfl ol rfl) (qkN sqN)))))) (qkN sqN)))))
  · obtain ⟨e1, e2⟩ := k2 c
    have ko : ov n (ff T w) = .non := if_neg c
    rw [show keys n (stp T w) = keys n T from e1, show trs n (stp T w) = trs n T from e2, ko]
    exact sqC (xAsgN rfl (fzi _) (asN rfl rfl rfl)) (qkN (sqC wh (qkN (sqC (xsIf (tst false (decide_eq_false c)) (skF (sqC (xApp rfl xV rfl rfl ol rfl) (qkN sqN)))) (qkN sqN)))))
theorem lpark_body {x3 x4 : Option Val} (hw : w < n) (hn : n ≤ 60) (hl : ws.length = n) (hT : T.length ≤ 60) :
    ∃ y4 : Option Val, y19_1 (callN Pr k) [some (.tup (nv ws)), some (.dic true (keys n T) (trs n T)), some (.lst true (ovL n T)), some (.int (w : Int)), x4] = .nx [some (.tup (nv ws)), some (.dic true (keys n (stp T w)) (trs n (stp T w))), some (.lst true (ovL n (stp T w))), some (.int (w : Int)), y4] := by
  have ln : lenV [.tup (nv ws)] = some (.int (n : Int)) := by rw [lenN, hl]
  have wh := lpark_wh (k := k) (ws := ws) (V0 := some (.tup (nv ws))) (V2 := some (.lst true (ovL n T))) (V3 := some (.int (w : Int))) (vals := trs n T) hw (ff_ok T w) hn rfl hl
  obtain ⟨k1, k2⟩ := keys_snoc n (ff T w) T
  have tl : (trs n T).length + 1 < most := by
    have : (trs n T).length ≤ T.length := by unfold trs; rw [List.length_map]; exact List.length_filter_le _ _
    unfold most
    omega
  have ol : (ovL n T).length < most := by unfold ovL most; rw [List.length_map]; omega
  have os : ovL n (stp T w) = ovL n T ++ [ov n (ff T w)] := by simp [ovL, stp]
  have tst : ∀ (b : Bool) (x2 : Val), decide (ff T w < n) = b → tB (c2 ltV (cN 4) (cB lenV [(cN 0)])) [some (.tup (nv ws)), some (.dic true (keys n T) (trs n T)), some x2, some (.int (w : Int)), some (.int (mn n (ff T w) : Int))] = .ok b [some (.tup (nv ws)), some (.dic true (keys n T) (trs n T)), some x2, some (.int (w : Int)), some (.int (mn n (ff T w) : Int))] := fun b x2 hb => by
    have lt := ltN (a := mn n (ff T w)) (b := n)
    rw [mn_lt, hb] at lt
    exact tBx (exV (x2N rfl (exV (xB (csN rfl csNil) (gsN rfl gsNil) ln)) rfl lt))
  refine ⟨some (.int (mn n (ff T w) : Int)), ?_⟩
  rw [os]
  unfold y19_1
  by_cases c : ff T w < n
  · obtain ⟨e1, e2⟩ := k1 c
    have ko : ov n (ff T w) = .int (mn n (ff T w) : Int) := by rw [mn_ov c]; exact if_pos c
    have hk : hasK (keys n T) (mn n (ff T w) : Int) = false := by
      rw [mn_ov c, hasK_keys]
      exact decide_eq_false fun z => (ff_ok T w).no z.2
    rw [show keys n (stp T w) = keys n T ++ [Sum.inl (mn n (ff T w) : Int)] by rw [mn_ov c]; exact e1, show trs n (stp T w) = trs n T ++ [.bl true] from e2, ko]
    exact sqC (xAsgN rfl (fzi _) (asN rfl rfl rfl)) (qkN (sqC wh (qkN (sqC (xAppG rfl (xIf (tst true _ (decide_eq_true c)) (vkT (cN_ok rfl))) (tf_pk rfl (fzi _)) rfl ol rfl) (qkN (sqC (xsIf (tst true _ (decide_eq_true c)) (skT (sqC (xSetD rfl rfl rfl hk tl rfl) (qkN sqN)))) (qkN sqN)))))))
  · obtain ⟨e1, e2⟩ := k2 c
    have ko : ov n (ff T w) = .non := if_neg c
    rw [show keys n (stp T w) = keys n T from e1, show trs n (stp T w) = trs n T from e2, ko]
    exact sqC (xAsgN rfl (fzi _) (asN rfl rfl rfl)) (qkN (sqC wh (qkN (sqC (xApp rfl (xIf (tst false _ (decide_eq_false c)) (vkF rfl)) rfl rfl ol rfl) (qkN (sqC (xsIf (tst false _ (decide_eq_false c)) (skF sqN)) (qkN sqN)))))))
theorem c_parked (h : Ws ws) : callN Pr (k + 1) 4 [.tup (nv ws)] = .ok (.lst true (ovL ws.length (sp ws))) [] := by
  have ⟨y3, y4, g⟩ : ∃ y3 y4 : Option Val, f4_1 (callN Pr k) [some (.tup (nv ws)), some (.dic true [] []), some (.lst true []), none, none] = .nx [some (.tup (nv ws)), some (.dic true (keys ws.length (sp ws)) (trs ws.length (sp ws))), some (.lst true (ovL ws.length (sp ws))), y3, y4] := by
    obtain ⟨e', g1, y3, y4, rfl⟩ := forI (pins := []) (tg := .n 3) (body := y4_1 (callN Pr k)) (F := fun j : Nat => Val.int (j : Int))
      (I := fun dn e => ∃ y3 y4 : Option Val, e = [some (.tup (nv ws)), some (.dic true (keys ws.length (sp dn)) (trs ws.length (sp dn))), some (.lst true (ovL ws.length (sp dn))), y3, y4]) ws [] [some (.tup (nv ws)), some (.dic true [] []), some (.lst true []), none, none] ⟨none, none, rfl⟩ fun dn j rest e hq hI => by
        obtain ⟨y3, y4, rfl⟩ := hI
        have hq : ws = dn ++ j :: rest := hq
        have hj : j < ws.length := h.lt j (by rw [hq]; simp)
        have hd : (sp dn).length ≤ 60 := by rw [sp_len]; have := h.l; rw [hq] at this; simp at this; omega
        obtain ⟨z4, b⟩ := park_body (k := k) (x3 := y3) (x4 := y4) hj h.l rfl hd
        refine ⟨[some (.tup (nv ws)), some (.dic true (keys ws.length (sp dn)) (trs ws.length (sp dn))), some (.lst true (ovL ws.length (sp dn))), some (.int (j : Int)), y4], _, rfl, .inl b, some (.int (j : Int)), z4, ?_⟩
        rw [sp_snoc]
        rfl
    exact ⟨y3, y4, xFor (iSeqN rfl (zT ws) rfl) g1⟩
  show runDef f_4 _ _ = _
  apply runX (m := 4) rfl; simp only [show ∀ (c : Call) (e : En), f_4.body c e = sSeq (l_4 c []) e from fun _ _ => rfl, l4, List.map_cons, List.map_nil, List.replicate, List.cons_append, List.nil_append]
  · exact sqC (xPar (csV xV (csV (xLst csNil tfNil) csNil)) (tkV (tkV tkNil)) rfl rfl rfl rfl) (qkN (sqC g (qkN (sqC (xRetN rfl rfl rfl) qkR))))
  · exact rkR rfl
theorem tup_ov {o : Bool} : tupleG [.lst o (ovL n T)] = some (.tup (ovL n T)) := by simp [tupleG, tupleV, ovL_fz]
theorem c_law_parked (h : Ws ws) : callN Pr (k + 1) 19 [.tup (nv ws)] = .ok (.tup (ovL ws.length (sp ws))) [] := by
  have ⟨y3, y4, g⟩ : ∃ y3 y4 : Option Val, f19_1 (callN Pr k) [some (.tup (nv ws)), some (.dic true [] []), some (.lst true []), none, none] = .nx [some (.tup (nv ws)), some (.dic true (keys ws.length (sp ws)) (trs ws.length (sp ws))), some (.lst true (ovL ws.length (sp ws))), y3, y4] := by
    obtain ⟨e', g1, y3, y4, rfl⟩ := forI (pins := []) (tg := .n 3) (body := y19_1 (callN Pr k)) (F := fun j : Nat => Val.int (j : Int))
      (I := fun dn e => ∃ y3 y4 : Option Val, e = [some (.tup (nv ws)), some (.dic true (keys ws.length (sp dn)) (trs ws.length (sp dn))), some (.lst true (ovL ws.length (sp dn))), y3, y4]) ws [] [some (.tup (nv ws)), some (.dic true [] []), some (.lst true []), none, none] ⟨none, none, rfl⟩ fun dn j rest e hq hI => by
        obtain ⟨y3, y4, rfl⟩ := hI
        have hq : ws = dn ++ j :: rest := hq
        have hj : j < ws.length := h.lt j (by rw [hq]; simp)
        have hd : (sp dn).length ≤ 60 := by rw [sp_len]; have := h.l; rw [hq] at this; simp at this; omega
        obtain ⟨z4, b⟩ := lpark_body (k := k) (x3 := y3) (x4 := y4) hj h.l rfl hd
        refine ⟨[some (.tup (nv ws)), some (.dic true (keys ws.length (sp dn)) (trs ws.length (sp dn))), some (.lst true (ovL ws.length (sp dn))), some (.int (j : Int)), y4], _, rfl, .inl b, some (.int (j : Int)), z4, ?_⟩
        rw [sp_snoc]
        rfl
    exact ⟨y3, y4, xFor (iSeqN rfl (zT ws) rfl) g1⟩
  show runDef f_19 _ _ = _
  apply runX (m := 4) rfl; simp only [show ∀ (c : Call) (e : En), f_19.body c e = sSeq (l_19 c []) e from fun _ _ => rfl, l19, List.map_cons, List.map_nil, List.replicate, List.cons_append, List.nil_append]
  · exact sqC (xPar (csV xV (csV (xLst csNil tfNil) csNil)) (tkV (tkV tkNil)) rfl rfl rfl rfl) (qkN (sqC g (qkN (sqC (xRet (xB (csN rfl csNil) (gsN rfl gsNil) tup_ov)) qkR))))
  · exact rkR rfl
theorem c_park (h : Ws ws) : callN Pr (k + 5) 5 [.tup (nv ws)] = .ok (.tup (ovL ws.length (sp ws))) [] := by
  have ck := c_check (k := k) (th_nv ws) (wish_ws h)
  have pk := c_parked (k := k + 3) h
  show runDef f_5 _ _ = _
  apply runX (m := 0) rfl; simp only [show ∀ (c : Call) (e : En), f_5.body c e = sSeq (l_5 c []) e from fun _ _ => rfl, l_5, List.map_cons, List.map_nil, List.replicate, List.cons_append, List.nil_append]
  · exact sqC (xExp (xCall (eaN rfl eaNil) (taN rfl (zT ws) taNil) ck (poV poNil))) (qkN (sqC (xRet (xB (csV (xCall (eaN rfl eaNil) (taN rfl (zT ws) taNil) pk (poV poNil)) csNil) (gsV gsNil) tup_ov)) qkR))
  · exact rkR rfl
/-! ### counts -/
def q6_0 (call : Call) : VI.C := (cLC (iSeq (cN 0)) (.n 2) (tB (c2 leV (cN 2) (cN 1))) (cN 2) [2])
def q6_1 (call : Call) : VI.C := (cLC (iRng [(cB lenV [(cN 0)])]) (.n 1) VI.tYes (c2 geV (cB lenV [(q6_0 call)]) (c2 addV (cN 1) (cV (.int (1))))) [1])
theorem l6 (call : Call) : l_6 call [] = [(sRet [] (cB allV [(q6_1 call)]))] := rfl
def q9_0 (call : Call) : VI.C := (cLC (iSeq (cN 0)) (.n 2) (tB (c2 leV (cN 2) (cN 1))) (cN 2) [2])
def y9_0 (call : Call) : VI.S := (sSeq [(sIf (tB (c2 ltV (cB lenV [(q9_0 call)]) (c2 addV (cN 1) (cV (.int (1)))))) (sSeq [(sRet [] (cN 1))]) (sSeq []))])
def f9_0 (call : Call) : VI.S := (sFor [] (iRng [(cB lenV [(cN 0)])]) (.n 1) (y9_0 call))
theorem l9 (call : Call) : l_9 call [] = [(sExp (cCall call 3 [.v (cN 0)])), (f9_0 call), (sRet [] (cV .non))] := rfl
def q20_0 (call : Call) : VI.C := (cLC (iSeq (cN 0)) (.n 2) (tB (c2 leV (cN 2) (cN 1))) (cN 2) [2])
def y20_0 (call : Call) : VI.S := (sSeq [(sIf (tB (c2 leV (cB lenV [(q20_0 call)]) (cN 1))) (sSeq [(sRet [] (cN 1))]) (sSeq []))])
def f20_0 (call : Call) : VI.S := (sFor [] (iRng [(cB lenV [(cN 0)])]) (.n 1) (y20_0 call))
theorem l20 (call : Call) : l_20 call [] = [(f20_0 call), (sRet [] (cV .non))] := rfl
theorem cntV {e : En} {c : Nat} (h0 : slot e 0 = some (.tup (nv ws))) (h1 : slot e 1 = some (.int (c : Int))) (h2 : ∀ v : Val, ∃ e1, asg [] (.n 2) v e = some e1 ∧ slot e1 1 = some (.int (c : Int)) ∧ slot e1 2 = some v ∧ wipeE [2] e1 = e) (hw : wipeE [2] e = e) (hu : unwipe [2] e e = e) :
    cB lenV [(cLC (iSeq (cN 0)) (.n 2) (tB (c2 leV (cN 2) (cN 1))) (cN 2) [2])] e = .ok (.val (.int (cnt ws c : Int))) e := by
  have q : cLC (iSeq (cN 0)) (.n 2) (tB (c2 leV (cN 2) (cN 1))) (cN 2) [2] e = .ok (.val (.lst true (nv (ws.filter fun w => decide (w ≤ c))))) e := by
    refine xLCs (iSeqN h0 (zT ws) rfl) ?_ hw hu
    exact lcFN (F := fun j : Nat => Val.int (j : Int)) (G := fun j : Nat => Val.int (j : Int)) (p := fun w : Nat => decide (w ≤ c)) ws [] fun j hj => by
      obtain ⟨e1, a, s1, s2, w⟩ := h2 (.int (j : Int))
      refine ⟨e1, e1, a, tBx (exV (x2N s2 (exN s1) s2 ?_)), s2, fzi _, w⟩
      show some (Val.bl (decide ((j : Int) ≤ (c : Int)))) = _
      congr 2
      exact decide_eq_decide.mpr (by omega)
  exact xB (csV q csNil) (gsV gsNil) (by rw [lenL, nv_len]; rfl)
theorem c_parks_all (h : Ws ws) : callN Pr (k + 1) 6 [.tup (nv ws)] = .ok (.bl (allP ws)) [] := by
  have h60 := h.l
  have q0 : q6_1 (callN Pr k) [some (.tup (nv ws)), none, none] = .ok (.val (.lst true ((List.range ws.length).map fun j => Val.bl (decide (j + 1 ≤ cnt ws j))))) [some (.tup (nv ws)), none, none] := by
    unfold q6_1
    refine xLCs (iRngN (n := ws.length) (exV (xB (csN rfl csNil) (gsN rfl gsNil) lenN)) (by omega)) ?_ rfl rfl
    rw [rngM]
    refine lcF (F := fun j : Nat => Val.int (j : Int)) (G := fun j : Nat => Val.bl (decide (j + 1 ≤ cnt ws j))) _ [] fun j hj => ?_
    have cv := cntV (ws := ws) (e := [some (.tup (nv ws)), some (.int (j : Int)), none]) (c := j) rfl rfl (fun v => ⟨_, rfl, rfl, rfl, rfl⟩) rfl rfl
    refine ⟨[some (.tup (nv ws)), some (.int (j : Int)), none], .bl (decide (j + 1 ≤ cnt ws j)), [some (.tup (nv ws)), some (.int (j : Int)), none], rfl, x2V cv (exV (x2N rfl (exV xV) rfl add1)) ?_, rfl, rfl⟩
    show some (Val.bl (decide (((j + 1 : Nat) : Int) ≤ (cnt ws j : Int)))) = _
    congr 2
    exact decide_eq_decide.mpr (by omega)
  have al : allV [.lst true ((List.range ws.length).map fun j => Val.bl (decide (j + 1 ≤ cnt ws j)))] = some (.bl (allP ws)) := by
    rw [allP_cnt]
    exact allM
  show runDef f_6 (callN Pr k) [.tup (nv ws)] = _
  apply runX (m := 2) rfl; simp only [show ∀ (c : Call) (e : En), f_6.body c e = sSeq (l_6 c []) e from fun _ _ => rfl, l6, List.map_cons, List.map_nil, List.replicate, List.cons_append, List.nil_append]
  · exact sqC (xRet (xB (csV q0 csNil) (gsV gsNil) al)) qkR
  · exact rkR rfl
end LK
set_option Elab.async false
set_option linter.all false
set_option maxRecDepth 100000
set_option maxHeartbeats 1600000
namespace LK
open VI PySem
local macro_rules | `(tactic| decreasing_trivial_pre_omega) => `(tactic| first
  | with_reducible assumption
  | (show (_ : Option Val) = _
     first
       | with_reducible exact eqG_int
       | with_reducible exact neD_int
       | with_reducible exact eqG_bl
       | with_reducible exact neD_bl
       | with_reducible exact lenG_lst
       | with_reducible exact lenG_any
       | exact (rfl : (_ : Option Val) = some _))
  | (show (_ : Res OV) = _
     first
       | with_reducible exact xV
       | ((with_reducible apply x1) <;> decreasing_trivial_pre_omega)
       | ((with_reducible apply x2N) <;> decreasing_trivial_pre_omega)
       | ((with_reducible apply x2V) <;> decreasing_trivial_pre_omega)
       | ((with_reducible apply xB) <;> decreasing_trivial_pre_omega)
       | ((with_reducible apply xCall) <;> decreasing_trivial_pre_omega)
       | ((with_reducible apply xTup) <;> decreasing_trivial_pre_omega)
       | ((with_reducible apply xLst) <;> decreasing_trivial_pre_omega)
       | ((with_reducible apply xIf) <;> decreasing_trivial_pre_omega)
       | ((with_reducible apply xAnd) <;> decreasing_trivial_pre_omega)
       | ((with_reducible apply xOr) <;> decreasing_trivial_pre_omega)
       | ((with_reducible apply xCh) <;> decreasing_trivial_pre_omega)
       | ((with_reducible apply xMake) <;> decreasing_trivial_pre_omega)
       | ((with_reducible apply xTupO) <;> decreasing_trivial_pre_omega)
       | ((with_reducible apply xLstO) <;> decreasing_trivial_pre_omega)
       | ((with_reducible apply xMGt) <;> decreasing_trivial_pre_omega)
       | ((with_reducible apply xPopAt) <;> decreasing_trivial_pre_omega)
       | ((with_reducible apply xPop) <;> decreasing_trivial_pre_omega)
       | ((with_reducible apply xMGl) <;> decreasing_trivial_pre_omega))
  | (show (_ : Res (List OV)) = _
     first
       | with_reducible exact csNil
       | ((with_reducible apply csN) <;> decreasing_trivial_pre_omega)
       | ((with_reducible apply csV) <;> decreasing_trivial_pre_omega))
  | (show (_ : Res (List AV)) = _
     first
       | with_reducible exact eaNil
       | ((with_reducible apply eaN) <;> decreasing_trivial_pre_omega)
       | ((with_reducible apply eaV) <;> decreasing_trivial_pre_omega)
       | ((with_reducible apply eaR) <;> decreasing_trivial_pre_omega))
  | (show (_ : Option (List Val × En)) = _
     first
       | with_reducible exact tfNil
       | with_reducible exact tkNil
       | with_reducible exact taNil
       | ((with_reducible apply tfV) <;> decreasing_trivial_pre_omega)
       | ((with_reducible apply tfN) <;> decreasing_trivial_pre_omega)
       | ((with_reducible apply tfNl) <;> decreasing_trivial_pre_omega)
       | ((with_reducible apply tkV) <;> decreasing_trivial_pre_omega)
       | ((with_reducible apply tkN) <;> decreasing_trivial_pre_omega)
       | ((with_reducible apply tkNl) <;> decreasing_trivial_pre_omega)
       | ((with_reducible apply taV) <;> decreasing_trivial_pre_omega)
       | ((with_reducible apply taN) <;> decreasing_trivial_pre_omega)
       | ((with_reducible apply taNl) <;> decreasing_trivial_pre_omega)
       | ((with_reducible apply taR) <;> decreasing_trivial_pre_omega))
  | (show (_ : Option (List Val)) = _
     first
       | with_reducible exact gsNil
       | ((with_reducible apply gsN) <;> decreasing_trivial_pre_omega)
       | ((with_reducible apply gsV) <;> decreasing_trivial_pre_omega)
       | exact (rfl : (_ : Option (List Val)) = some _))
  | (show (_ : Option En) = _
     first
       | with_reducible exact poNil
       | ((with_reducible apply poV) <;> decreasing_trivial_pre_omega)
       | ((with_reducible apply poR) <;> decreasing_trivial_pre_omega)
       | ((with_reducible apply asN) <;> decreasing_trivial_pre_omega)
       | ((with_reducible apply asT) <;> decreasing_trivial_pre_omega)
       | with_reducible exact asLn
       | ((with_reducible apply asLc) <;> decreasing_trivial_pre_omega))
  | (show (_ : En) = _
     first
       | with_reducible exact setL0
       | ((with_reducible apply setLS) <;> decreasing_trivial_pre_omega))
  | (show (_ : SRes) = _
     first
       | with_reducible exact sqN
       | ((with_reducible apply sqC) <;> decreasing_trivial_pre_omega)
       | ((with_reducible apply xAsgN) <;> decreasing_trivial_pre_omega)
       | ((with_reducible apply xAsg) <;> decreasing_trivial_pre_omega)
       | ((with_reducible apply xPar3) <;> decreasing_trivial_pre_omega)
       | ((with_reducible apply xPar) <;> decreasing_trivial_pre_omega)
       | ((with_reducible apply xRetN) <;> decreasing_trivial_pre_omega)
       | ((with_reducible apply xRet) <;> decreasing_trivial_pre_omega)
       | ((with_reducible apply xExp) <;> decreasing_trivial_pre_omega)
       | ((with_reducible apply xsIf) <;> decreasing_trivial_pre_omega)
       | ((with_reducible apply xAppN) <;> decreasing_trivial_pre_omega)
       | ((with_reducible apply xApp) <;> decreasing_trivial_pre_omega)
       | with_reducible exact xRaise0)
  | (show (_ : Res Bool) = _
     first
       | ((with_reducible apply tBx) <;> decreasing_trivial_pre_omega)
       | ((with_reducible apply tNotx) <;> decreasing_trivial_pre_omega)
       | ((with_reducible apply tAndx) <;> decreasing_trivial_pre_omega)
       | ((with_reducible apply tOrx) <;> decreasing_trivial_pre_omega))
  | (show (_ : Res (List Val)) = _
     first
       | ((with_reducible apply iSeqG) <;> decreasing_trivial_pre_omega)
       | ((with_reducible apply iEnuG) <;> decreasing_trivial_pre_omega)
       | ((with_reducible apply iZipG) <;> decreasing_trivial_pre_omega)
       | ((with_reducible apply iRngN) <;> decreasing_trivial_pre_omega))
  | (show (_ : Val) = _
     first
       | with_reducible exact fzi _
       | with_reducible exact fzb _
       | with_reducible exact fzn
       | with_reducible exact fzs _
       | with_reducible exact zti _
       | exact fz_of rfl
       | exact (rfl : Val.int _ = Val.int _)
       | exact (rfl : Val.tup _ = Val.tup _)
       | exact (rfl : Val.lst _ _ = Val.lst _ _))
  | (show (_ : Bool) = _
     first
       | exact (rfl : (_ : Bool) = true)
       | exact (rfl : (_ : Bool) = false)
       | exact decide_eq_true (by omega)
       | exact decide_eq_false (by omega)
       | exact beq_eq_false_iff_ne.mpr (by omega)
       | exact beq_iff_eq.mpr (by omega)
       | rfl)
  | ((with_reducible apply exN) <;> decreasing_trivial_pre_omega)
  | ((with_reducible apply exV) <;> decreasing_trivial_pre_omega)
  | ((with_reducible apply qkN) <;> decreasing_trivial_pre_omega)
  | with_reducible exact qkR
  | with_reducible exact qkX
  | with_reducible exact qkC
  | with_reducible exact qkB
  | ((with_reducible apply tkT) <;> decreasing_trivial_pre_omega)
  | ((with_reducible apply tkF) <;> decreasing_trivial_pre_omega)
  | ((with_reducible apply tkT') <;> decreasing_trivial_pre_omega)
  | ((with_reducible apply tkF') <;> decreasing_trivial_pre_omega)
  | ((with_reducible apply tkA) <;> decreasing_trivial_pre_omega)
  | ((with_reducible apply tkO) <;> decreasing_trivial_pre_omega)
  | ((with_reducible apply vkT) <;> decreasing_trivial_pre_omega)
  | ((with_reducible apply vkF) <;> decreasing_trivial_pre_omega)
  | ((with_reducible apply vkT') <;> decreasing_trivial_pre_omega)
  | ((with_reducible apply vkF') <;> decreasing_trivial_pre_omega)
  | ((with_reducible apply vkA) <;> decreasing_trivial_pre_omega)
  | ((with_reducible apply vkO) <;> decreasing_trivial_pre_omega)
  | ((with_reducible apply vkS) <;> decreasing_trivial_pre_omega)
  | ((with_reducible apply skT) <;> decreasing_trivial_pre_omega)
  | ((with_reducible apply skF) <;> decreasing_trivial_pre_omega)
  | ((with_reducible apply skT') <;> decreasing_trivial_pre_omega)
  | ((with_reducible apply skF') <;> decreasing_trivial_pre_omega)
  | ((with_reducible apply rkR) <;> decreasing_trivial_pre_omega)
  | ((with_reducible apply rkR') <;> decreasing_trivial_pre_omega)
  | ((with_reducible apply rkN) <;> decreasing_trivial_pre_omega)
  | ((with_reducible apply rkX) <;> decreasing_trivial_pre_omega)
  | (show (_ : Option (List (Nat × Val))) = _
     first
       | with_reducible exact oN
       | ((with_reducible apply oC) <;> decreasing_trivial_pre_omega)
       | exact (rfl : (_ : Option (List (Nat × Val))) = some _))
  | (show (_ : Nat) < _; first | assumption | omega | (simp [most]; done))
  | exact (rfl : (_ : Option _) = some _))

variable {k : Nat} {X : Val} {ws : List Nat} {n w s : Nat} {T : List Nat} {ex : Exc}
/-! R7: what is told of wishes -/
theorem c_is_parking (h : Ws ws) : callN Pr (k + 4) 7 [.tup (nv ws)] = .ok (.bl (allP ws)) [] := by
  have h1 := c_is_wishes (k := k) (th_nv ws)
  rw [wish_ws h] at h1
  have h2 := c_parks_all (k := k + 2) h
  show runDef f_7 _ _ = _
  apply runX (m := 0) rfl; simp only [show ∀ (c : Call) (e : En), f_7.body c e = sSeq (l_7 c []) e from fun _ _ => rfl, l_7, List.map_cons, List.map_nil, List.replicate, List.cons_append, List.nil_append]
  · exact sqC (xRet (xAnd (exV (xCall (eaN rfl eaNil) (taN rfl (zT ws) taNil) h1 (poV poNil))) (vkT (xCall (eaN rfl eaNil) (taN rfl (zT ws) taNil) h2 (poV poNil))))) qkR
  · exact rkR rfl
theorem f_is_parking (hX : Th1 X) (h : wishB X = false) : callN Pr (k + 4) 7 [X] = .ok (.bl false) [] := by
  have h1 := c_is_wishes (k := k) hX
  rw [h] at h1
  show runDef f_7 _ _ = _
  apply runX (m := 0) rfl; simp only [show ∀ (c : Call) (e : En), f_7.body c e = sSeq (l_7 c []) e from fun _ _ => rfl, l_7, List.map_cons, List.map_nil, List.replicate, List.cons_append, List.nil_append]
  · exact sqC (xRet (xAnd (exV (xCall (eaN rfl eaNil) (taN rfl hX.z taNil) h1 (poV poNil))) (vkF rfl))) qkR
  · exact rkR rfl
theorem c_check_parking (h : Ws ws) (ha : allP ws = true) : callN Pr (k + 5) 8 [.tup (nv ws)] = .ok .non [] := by
  have hc := c_is_parking (k := k) h
  rw [ha] at hc
  show runDef f_8 _ _ = _
  apply runX (m := 0) rfl; simp only [show ∀ (c : Call) (e : En), f_8.body c e = sSeq (l_8 c []) e from fun _ _ => rfl, l_8, List.map_cons, List.map_nil, List.replicate, List.cons_append, List.nil_append]
  · exact sqC (xsIf (tNotx (tBx (exV (xCall (eaN rfl eaNil) (taN rfl (zT ws) taNil) hc (poV poNil)))) rfl) (skF sqN)) (qkN sqN)
  · exact rkN rfl
theorem x_check_parking (hz : fz X = X) (hc : callN Pr (k + 4) 7 [X] = .ok (.bl false) []) : callN Pr (k + 5) 8 [X] = .exc ⟨1, [], []⟩ [] := by
  show runDef f_8 _ _ = _
  apply runX (m := 0) rfl; simp only [show ∀ (c : Call) (e : En), f_8.body c e = sSeq (l_8 c []) e from fun _ _ => rfl, l_8, List.map_cons, List.map_nil, List.replicate, List.cons_append, List.nil_append]
  · exact sqC (xsIf (tNotx (tBx (exV (xCall (eaN rfl eaNil) (taN rfl hz taNil) hc (poV poNil)))) rfl) (skT (sqC xRaise0 qkX))) qkX
  · exact rkX rfl
/-! the first place up to which too few wish -/
def shO (ws : List Nat) : Option Nat := (List.range ws.length).find? fun j => decide (cnt ws j ≤ j)
def shV (ws : List Nat) : Val := match shO ws with
  | some j => .int (j : Int)
  | none => .non
theorem for_find {α : Type} {F : α → Val} {tg : Tg} {body : S} {p : α → Bool} {E : En → Prop} {G : α → Val} {pins : List Nat} : ∀ (L : List α) (e : En), E e → (∀ a ∈ L, ∀ e, E e → ∃ e1, asg pins tg (F a) e = some e1 ∧ (p a = false → ∃ e2, body e1 = .nx e2 ∧ E e2) ∧ (p a = true → ∃ e2, body e1 = .rt (G a) e2)) →
    (L.find? p = none → ∃ e', forLoop pins tg body (L.map F) e = .nx e' ∧ E e') ∧ ∀ a, L.find? p = some a → ∃ e', forLoop pins tg body (L.map F) e = .rt (G a) e'
  | [], e, h, _ => ⟨fun _ => ⟨e, rfl, h⟩, fun a z => by cases z⟩
  | b :: L, e, h, hs => by
    obtain ⟨e1, h1, h2, h3⟩ := hs b List.mem_cons_self e h
    have st : forLoop pins tg body ((b :: L).map F) e = loopStep (body e1) (forLoop pins tg body (L.map F)) := by
      simp only [List.map_cons, forLoop, h1]
    rw [st]
    cases q : p b with
    | true =>
      obtain ⟨e2, g⟩ := h3 q
      rw [g, List.find?_cons_of_pos q]
      exact ⟨fun z => (by cases z), fun a z => by cases z; exact ⟨e2, rfl⟩⟩
    | false =>
      obtain ⟨e2, g, g2⟩ := h2 q
      rw [g, List.find?_cons_of_neg (by rw [q]; simp)]
      exact for_find L e2 g2 fun a ha => hs a (List.mem_cons_of_mem _ ha)
theorem cvE {j : Nat} {x1 x2 : Option Val} : cB lenV [(cLC (iSeq (cN 0)) (.n 2) (tB (c2 leV (cN 2) (cN 1))) (cN 2) [2])] [some (.tup (nv ws)), some (.int (j : Int)), none] = .ok (.val (.int (cnt ws j : Int))) [some (.tup (nv ws)), some (.int (j : Int)), none] :=
  cntV (ws := ws) (e := [some (.tup (nv ws)), some (.int (j : Int)), none]) (c := j) rfl rfl (fun v => ⟨_, rfl, rfl, rfl, rfl⟩) rfl rfl
theorem short_loop (h : Ws ws) : (shO ws = none → ∃ e', f9_0 (callN Pr k) [some (.tup (nv ws)), none, none] = .nx e' ∧ ∃ x1, e' = [some (.tup (nv ws)), x1, none]) ∧ ∀ a, shO ws = some a → ∃ e', f9_0 (callN Pr k) [some (.tup (nv ws)), none, none] = .rt (.int (a : Int)) e' := by
  have h60 := h.l
  have fl := for_find (pins := []) (tg := .n 1) (body := y9_0 (callN Pr k)) (F := fun j : Nat => Val.int (j : Int)) (G := fun j : Nat => Val.int (j : Int)) (p := fun j => decide (cnt ws j ≤ j)) (E := fun e => ∃ x1, e = [some (.tup (nv ws)), x1, none]) (List.range ws.length) [some (.tup (nv ws)), none, none] ⟨none, rfl⟩ fun j hj e hE => by
    obtain ⟨x1, rfl⟩ := hE
    have lt := ltN (a := cnt ws j) (b := j + 1)
    have cv := cvE (ws := ws) (j := j) (x1 := none) (x2 := none)
    refine ⟨[some (.tup (nv ws)), some (.int (j : Int)), none], rfl, fun q => ⟨[some (.tup (nv ws)), some (.int (j : Int)), none], ?_, some (.int (j : Int)), rfl⟩, fun q => ⟨[some (.tup (nv ws)), none, none], ?_⟩⟩
    · rw [show decide (cnt ws j < j + 1) = false by rw [← q]; exact decide_eq_decide.mpr (by omega)] at lt
      unfold y9_0
      exact sqC (xsIf (tBx (exV (x2V cv (exV (x2N rfl (exV xV) rfl add1)) lt))) (skF sqN)) (qkN sqN)
    · rw [show decide (cnt ws j < j + 1) = true by rw [← q]; exact decide_eq_decide.mpr (by omega)] at lt
      unfold y9_0
      exact sqC (xsIf (tBx (exV (x2V cv (exV (x2N rfl (exV xV) rfl add1)) lt))) (skT (sqC (xRetN rfl rfl rfl) qkR))) qkR
  have it : ∀ R, forLoop [] (.n 1) (y9_0 (callN Pr k)) ((List.range ws.length).map fun j : Nat => Val.int (j : Int)) [some (.tup (nv ws)), none, none] = R → f9_0 (callN Pr k) [some (.tup (nv ws)), none, none] = R := fun R hR => by
    unfold f9_0
    refine xFor (iRngN (n := ws.length) (exV (xB (csN rfl csNil) (gsN rfl gsNil) lenN)) (by omega)) ?_
    rw [rngM]
    exact hR
  exact ⟨fun z => by obtain ⟨e', g, g2⟩ := fl.1 z; exact ⟨e', it _ g, g2⟩, fun a z => by obtain ⟨e', g⟩ := fl.2 a z; exact ⟨e', it _ g⟩⟩
theorem lshort_loop (h : Ws ws) : (shO ws = none → ∃ e', f20_0 (callN Pr k) [some (.tup (nv ws)), none, none] = .nx e' ∧ ∃ x1, e' = [some (.tup (nv ws)), x1, none]) ∧ ∀ a, shO ws = some a → ∃ e', f20_0 (callN Pr k) [some (.tup (nv ws)), none, none] = .rt (.int (a : Int)) e' := by
  have h60 := h.l
  have fl := for_find (pins := []) (tg := .n 1) (body := y20_0 (callN Pr k)) (F := fun j : Nat => Val.int (j : Int)) (G := fun j : Nat => Val.int (j : Int)) (p := fun j => decide (cnt ws j ≤ j)) (E := fun e => ∃ x1, e = [some (.tup (nv ws)), x1, none]) (List.range ws.length) [some (.tup (nv ws)), none, none] ⟨none, rfl⟩ fun j hj e hE => by
    obtain ⟨x1, rfl⟩ := hE
    have lt : leV (.int (cnt ws j : Int)) (.int (j : Int)) = some (.bl (decide (cnt ws j ≤ j))) := by
      show some (Val.bl (decide ((cnt ws j : Int) ≤ (j : Int)))) = _
      congr 2
      exact decide_eq_decide.mpr (by omega)
    have cv := cvE (ws := ws) (j := j) (x1 := none) (x2 := none)
    refine ⟨[some (.tup (nv ws)), some (.int (j : Int)), none], rfl, fun q => ⟨[some (.tup (nv ws)), some (.int (j : Int)), none], ?_, some (.int (j : Int)), rfl⟩, fun q => ⟨[some (.tup (nv ws)), none, none], ?_⟩⟩
    · rw [q] at lt
      unfold y20_0
      exact sqC (xsIf (tBx (exV (x2V cv (exN rfl) lt))) (skF sqN)) (qkN sqN)
    · rw [q] at lt
      unfold y20_0
      exact sqC (xsIf (tBx (exV (x2V cv (exN rfl) lt))) (skT (sqC (xRetN rfl rfl rfl) qkR))) qkR
  have it : ∀ R, forLoop [] (.n 1) (y20_0 (callN Pr k)) ((List.range ws.length).map fun j : Nat => Val.int (j : Int)) [some (.tup (nv ws)), none, none] = R → f20_0 (callN Pr k) [some (.tup (nv ws)), none, none] = R := fun R hR => by
    unfold f20_0
    refine xFor (iRngN (n := ws.length) (exV (xB (csN rfl csNil) (gsN rfl gsNil) lenN)) (by omega)) ?_
    rw [rngM]
    exact hR
  exact ⟨fun z => by obtain ⟨e', g, g2⟩ := fl.1 z; exact ⟨e', it _ g, g2⟩, fun a z => by obtain ⟨e', g⟩ := fl.2 a z; exact ⟨e', it _ g⟩⟩
theorem c_short (h : Ws ws) : callN Pr (k + 5) 9 [.tup (nv ws)] = .ok (shV ws) [] := by
  have ck := c_check (k := k) (th_nv ws) (wish_ws h)
  obtain ⟨l1, l2⟩ := short_loop (k := k + 4) h
  have a0 : sExp (cCall (callN Pr (k + 4)) 3 [.v (cN 0)]) [some (.tup (nv ws)), none, none] = .nx [some (.tup (nv ws)), none, none] := xExp (xCall (eaN rfl eaNil) (taN rfl (zT ws) taNil) ck (poV poNil))
  show runDef f_9 _ _ = _
  cases q : shO ws with
  | none =>
    obtain ⟨e', g, x1, rfl⟩ := l1 q
    rw [show shV ws = .non by simp only [shV, q]]
    apply runX (m := 2) rfl; simp only [show ∀ (c : Call) (e : En), f_9.body c e = sSeq (l_9 c []) e from fun _ _ => rfl, l9, List.map_cons, List.map_nil, List.replicate, List.cons_append, List.nil_append]
    · exact sqC a0 (qkN (sqC g (qkN (sqC (xRet xV) qkR))))
    · exact rkR rfl
  | some a =>
    obtain ⟨e', g⟩ := l2 a q
    rw [show shV ws = .int (a : Int) by simp only [shV, q]]
    apply runX (m := 2) rfl; simp only [show ∀ (c : Call) (e : En), f_9.body c e = sSeq (l_9 c []) e from fun _ _ => rfl, l9, List.map_cons, List.map_nil, List.replicate, List.cons_append, List.nil_append]
    · exact sqC a0 (qkN (sqC g qkR))
    · exact rkR rfl
theorem c_lshort (h : Ws ws) : callN Pr (k + 1) 20 [.tup (nv ws)] = .ok (shV ws) [] := by
  obtain ⟨l1, l2⟩ := lshort_loop (k := k) h
  show runDef f_20 (callN Pr k) [.tup (nv ws)] = _
  cases q : shO ws with
  | none =>
    obtain ⟨e', g, x1, rfl⟩ := l1 q
    rw [show shV ws = .non by simp only [shV, q]]
    apply runX (m := 2) rfl; simp only [show ∀ (c : Call) (e : En), f_20.body c e = sSeq (l_20 c []) e from fun _ _ => rfl, l20, List.map_cons, List.map_nil, List.replicate, List.cons_append, List.nil_append]
    · exact sqC g (qkN (sqC (xRet xV) qkR))
    · exact rkR rfl
  | some a =>
    obtain ⟨e', g⟩ := l2 a q
    rw [show shV ws = .int (a : Int) by simp only [shV, q]]
    apply runX (m := 2) rfl; simp only [show ∀ (c : Call) (e : En), f_20.body c e = sSeq (l_20 c []) e from fun _ _ => rfl, l20, List.map_cons, List.map_nil, List.replicate, List.cons_append, List.nil_append]
    · exact sqC g qkR
    · exact rkR rfl
theorem sh_all : (shO ws).isNone = allP ws := by
  rw [allP_cnt, shO, Bool.eq_iff_iff, Option.isNone_iff_eq_none, List.find?_eq_none, List.all_eq_true]
  constructor
  · intro h x hx
    have := h x hx
    exact decide_eq_true (by simp at this; omega)
  · intro h x hx
    have := of_decide_eq_true (h x hx)
    simp
    omega
/-! ### ascending -/
theorem srt (L : List Nat) : sortedG [.tup (nv L)] = some (.lst true (intsV (sortI (L.map fun j : Nat => (j : Int))))) := by
  rw [nv_ints]
  show (toInts _).map (fun ns => Val.lst true (intsV (sortI ns))) = _
  rw [toInts_ints]
  rfl
def ascV (L : List Nat) : Val := .tup (intsV (sortI (L.map fun j : Nat => (j : Int))))
theorem c_asc (h : Ws ws) : callN Pr (k + 5) 12 [.tup (nv ws)] = .ok (ascV ws) [] := by
  have ck := c_check (k := k) (th_nv ws) (wish_ws h)
  show runDef f_12 _ _ = _
  apply runX (m := 0) rfl; simp only [show ∀ (c : Call) (e : En), f_12.body c e = sSeq (l_12 c []) e from fun _ _ => rfl, l_12, List.map_cons, List.map_nil, List.replicate, List.cons_append, List.nil_append]
  · exact sqC (xExp (xCall (eaN rfl eaNil) (taN rfl (zT ws) taNil) ck (poV poNil))) (qkN (sqC (xRet (xB (csV (xB (csN rfl csNil) (gsN rfl gsNil) (srt ws)) csNil) (gsV gsNil) (tup_li true _))) qkR))
  · exact rkR rfl
/-! ### driven -/
theorem ovL_all (h : ∀ s ∈ T, s < n) : ovL n T = nv T := by
  unfold ovL nv
  refine List.map_congr_left fun s hs => ?_
  exact if_pos (h s hs)
def ni (L : List Nat) : List Int := L.map fun j : Nat => (j : Int)
theorem sumL_eq (L : List Int) : sumL L = L.sum := by
  induction L with
  | nil => rfl
  | cons x L ih => rw [sumL, ih, List.sum_cons]
def q10_0 (call : Call) : VI.C := (cLC (iZip (cCall call 4 [.v (cN 0)]) (cN 0)) (.t [(.n 1), (.n 2)]) VI.tYes (c2 subV (cN 1) (cN 2)) [1, 2])
theorem l10 (call : Call) : l_10 call [] = [(sExp (cCall call 8 [.v (cN 0)])), (sRet [] (cB sumGV [(q10_0 call)]))] := rfl
theorem c_driven (h : Ws ws) (ha : allP ws = true) : callN Pr (k + 6) 10 [.tup (nv ws)] = .ok (.int (drv ws)) [] := by
  have ck := c_check_parking (k := k) h ha
  have pk := c_parked (k := k + 4) h
  rw [ovL_all ((allP_iff ws).mp ha)] at pk
  have q0 : q10_0 (callN Pr (k + 5)) [some (.tup (nv ws)), none, none] = .ok (.val (.lst true (((ni (sp ws)).zip (ni ws)).map fun q => Val.int (q.1 - q.2)))) [some (.tup (nv ws)), none, none] := by
    unfold q10_0
    refine xLCs (iZipG (csV (xCall (eaN rfl eaNil) (taN rfl (zT ws) taNil) pk (poV poNil)) (csN rfl csNil)) (tfV (zL _) (tfN rfl (zT ws) tfNil)) rfl rfl) ?_ rfl rfl
    rw [nv_ints, nv_ints, zip_ints]
    exact lcF (F := fun q : Int × Int => Val.tup [.int q.1, .int q.2]) (G := fun q : Int × Int => Val.int (q.1 - q.2)) _ [] fun q hq => ⟨[some (.tup (intsV (ws.map fun j : Nat => (j : Int)))), some (.int q.1), some (.int q.2)], _, _, rfl, x2N rfl (exN rfl) rfl rfl, rfl, rfl⟩
  have sm : sumGV [.lst true (((ni (sp ws)).zip (ni ws)).map fun q => Val.int (q.1 - q.2))] = some (.int (drv ws)) := by
    have e : (((ni (sp ws)).zip (ni ws)).map fun q => Val.int (q.1 - q.2)) = intsV (((sp ws).zip ws).map fun q : Nat × Nat => (q.1 : Int) - (q.2 : Int)) := by
      unfold ni intsV
      rw [List.zip_map, List.map_map, List.map_map]
      rfl
    rw [e]
    show (toInts (intsV _)).map (fun ns => Val.int (sumL ns)) = _
    rw [toInts_ints, Option.map_some, sumL_eq, sum_zip (sp_len ws)]
    rfl
  show runDef f_10 _ _ = _
  apply runX (m := 2) rfl; simp only [show ∀ (c : Call) (e : En), f_10.body c e = sSeq (l_10 c []) e from fun _ _ => rfl, l10, List.map_cons, List.map_nil, List.replicate, List.cons_append, List.nil_append]
  · exact sqC (xExp (xCall (eaN rfl eaNil) (taN rfl (zT ws) taNil) ck (poV poNil))) (qkN (sqC (xRet (xB (csV q0 csNil) (gsV gsNil) sm)) qkR))
  · exact rkR rfl
end LK
set_option Elab.async false
set_option linter.all false
set_option maxRecDepth 100000
set_option maxHeartbeats 1600000
namespace LK
open VI PySem
local macro_rules | `(tactic| decreasing_trivial_pre_omega) => `(tactic| first
  | with_reducible assumption
  | (show (_ : Option Val) = _
     first
       | with_reducible exact eqG_int
       | with_reducible exact neD_int
       | with_reducible exact eqG_bl
       | with_reducible exact neD_bl
       | with_reducible exact lenG_lst
       | with_reducible exact lenG_any
       | exact (rfl : (_ : Option Val) = some _))
  | (show (_ : Res OV) = _
     first
       | with_reducible exact xV
       | ((with_reducible apply x1) <;> decreasing_trivial_pre_omega)
       | ((with_reducible apply x2N) <;> decreasing_trivial_pre_omega)
       | ((with_reducible apply x2V) <;> decreasing_trivial_pre_omega)
       | ((with_reducible apply xB) <;> decreasing_trivial_pre_omega)
       | ((with_reducible apply xCall) <;> decreasing_trivial_pre_omega)
       | ((with_reducible apply xTup) <;> decreasing_trivial_pre_omega)
       | ((with_reducible apply xLst) <;> decreasing_trivial_pre_omega)
       | ((with_reducible apply xIf) <;> decreasing_trivial_pre_omega)
       | ((with_reducible apply xAnd) <;> decreasing_trivial_pre_omega)
       | ((with_reducible apply xOr) <;> decreasing_trivial_pre_omega)
       | ((with_reducible apply xCh) <;> decreasing_trivial_pre_omega)
       | ((with_reducible apply xMake) <;> decreasing_trivial_pre_omega)
       | ((with_reducible apply xTupO) <;> decreasing_trivial_pre_omega)
       | ((with_reducible apply xLstO) <;> decreasing_trivial_pre_omega)
       | ((with_reducible apply xMGt) <;> decreasing_trivial_pre_omega)
       | ((with_reducible apply xPopAt) <;> decreasing_trivial_pre_omega)
       | ((with_reducible apply xPop) <;> decreasing_trivial_pre_omega)
       | ((with_reducible apply xMGl) <;> decreasing_trivial_pre_omega))
  | (show (_ : Res (List OV)) = _
     first
       | with_reducible exact csNil
       | ((with_reducible apply csN) <;> decreasing_trivial_pre_omega)
       | ((with_reducible apply csV) <;> decreasing_trivial_pre_omega))
  | (show (_ : Res (List AV)) = _
     first
       | with_reducible exact eaNil
       | ((with_reducible apply eaN) <;> decreasing_trivial_pre_omega)
       | ((with_reducible apply eaV) <;> decreasing_trivial_pre_omega)
       | ((with_reducible apply eaR) <;> decreasing_trivial_pre_omega))
  | (show (_ : Option (List Val × En)) = _
     first
       | with_reducible exact tfNil
       | with_reducible exact tkNil
       | with_reducible exact taNil
       | ((with_reducible apply tfV) <;> decreasing_trivial_pre_omega)
       | ((with_reducible apply tfN) <;> decreasing_trivial_pre_omega)
       | ((with_reducible apply tfNl) <;> decreasing_trivial_pre_omega)
       | ((with_reducible apply tkV) <;> decreasing_trivial_pre_omega)
       | ((with_reducible apply tkN) <;> decreasing_trivial_pre_omega)
       | ((with_reducible apply tkNl) <;> decreasing_trivial_pre_omega)
       | ((with_reducible apply taV) <;> decreasing_trivial_pre_omega)
       | ((with_reducible apply taN) <;> decreasing_trivial_pre_omega)
       | ((with_reducible apply taNl) <;> decreasing_trivial_pre_omega)
       | ((with_reducible apply taR) <;> decreasing_trivial_pre_omega))
  | (show (_ : Option (List Val)) = _
     first
       | with_reducible exact gsNil
       | ((with_reducible apply gsN) <;> decreasing_trivial_pre_omega)
       | ((with_reducible apply gsV) <;> decreasing_trivial_pre_omega)
       | exact (rfl : (_ : Option (List Val)) = some _))
  | (show (_ : Option En) = _
     first
       | with_reducible exact poNil
       | ((with_reducible apply poV) <;> decreasing_trivial_pre_omega)
       | ((with_reducible apply poR) <;> decreasing_trivial_pre_omega)
       | ((with_reducible apply asN) <;> decreasing_trivial_pre_omega)
       | ((with_reducible apply asT) <;> decreasing_trivial_pre_omega)
       | with_reducible exact asLn
       | ((with_reducible apply asLc) <;> decreasing_trivial_pre_omega))
  | (show (_ : En) = _
     first
       | with_reducible exact setL0
       | ((with_reducible apply setLS) <;> decreasing_trivial_pre_omega))
  | (show (_ : SRes) = _
     first
       | with_reducible exact sqN
       | ((with_reducible apply sqC) <;> decreasing_trivial_pre_omega)
       | ((with_reducible apply xAsgN) <;> decreasing_trivial_pre_omega)
       | ((with_reducible apply xAsg) <;> decreasing_trivial_pre_omega)
       | ((with_reducible apply xPar3) <;> decreasing_trivial_pre_omega)
       | ((with_reducible apply xPar) <;> decreasing_trivial_pre_omega)
       | ((with_reducible apply xRetN) <;> decreasing_trivial_pre_omega)
       | ((with_reducible apply xRet) <;> decreasing_trivial_pre_omega)
       | ((with_reducible apply xExp) <;> decreasing_trivial_pre_omega)
       | ((with_reducible apply xsIf) <;> decreasing_trivial_pre_omega)
       | ((with_reducible apply xAppN) <;> decreasing_trivial_pre_omega)
       | ((with_reducible apply xApp) <;> decreasing_trivial_pre_omega)
       | with_reducible exact xRaise0)
  | (show (_ : Res Bool) = _
     first
       | ((with_reducible apply tBx) <;> decreasing_trivial_pre_omega)
       | ((with_reducible apply tNotx) <;> decreasing_trivial_pre_omega)
       | ((with_reducible apply tAndx) <;> decreasing_trivial_pre_omega)
       | ((with_reducible apply tOrx) <;> decreasing_trivial_pre_omega))
  | (show (_ : Res (List Val)) = _
     first
       | ((with_reducible apply iSeqG) <;> decreasing_trivial_pre_omega)
       | ((with_reducible apply iEnuG) <;> decreasing_trivial_pre_omega)
       | ((with_reducible apply iZipG) <;> decreasing_trivial_pre_omega)
       | ((with_reducible apply iRngN) <;> decreasing_trivial_pre_omega))
  | (show (_ : Val) = _
     first
       | with_reducible exact fzi _
       | with_reducible exact fzb _
       | with_reducible exact fzn
       | with_reducible exact fzs _
       | with_reducible exact zti _
       | exact fz_of rfl
       | exact (rfl : Val.int _ = Val.int _)
       | exact (rfl : Val.tup _ = Val.tup _)
       | exact (rfl : Val.lst _ _ = Val.lst _ _))
  | (show (_ : Bool) = _
     first
       | exact (rfl : (_ : Bool) = true)
       | exact (rfl : (_ : Bool) = false)
       | exact decide_eq_true (by omega)
       | exact decide_eq_false (by omega)
       | exact beq_eq_false_iff_ne.mpr (by omega)
       | exact beq_iff_eq.mpr (by omega)
       | rfl)
  | ((with_reducible apply exN) <;> decreasing_trivial_pre_omega)
  | ((with_reducible apply exV) <;> decreasing_trivial_pre_omega)
  | ((with_reducible apply qkN) <;> decreasing_trivial_pre_omega)
  | with_reducible exact qkR
  | with_reducible exact qkX
  | with_reducible exact qkC
  | with_reducible exact qkB
  | ((with_reducible apply tkT) <;> decreasing_trivial_pre_omega)
  | ((with_reducible apply tkF) <;> decreasing_trivial_pre_omega)
  | ((with_reducible apply tkT') <;> decreasing_trivial_pre_omega)
  | ((with_reducible apply tkF') <;> decreasing_trivial_pre_omega)
  | ((with_reducible apply tkA) <;> decreasing_trivial_pre_omega)
  | ((with_reducible apply tkO) <;> decreasing_trivial_pre_omega)
  | ((with_reducible apply vkT) <;> decreasing_trivial_pre_omega)
  | ((with_reducible apply vkF) <;> decreasing_trivial_pre_omega)
  | ((with_reducible apply vkT') <;> decreasing_trivial_pre_omega)
  | ((with_reducible apply vkF') <;> decreasing_trivial_pre_omega)
  | ((with_reducible apply vkA) <;> decreasing_trivial_pre_omega)
  | ((with_reducible apply vkO) <;> decreasing_trivial_pre_omega)
  | ((with_reducible apply vkS) <;> decreasing_trivial_pre_omega)
  | ((with_reducible apply skT) <;> decreasing_trivial_pre_omega)
  | ((with_reducible apply skF) <;> decreasing_trivial_pre_omega)
  | ((with_reducible apply skT') <;> decreasing_trivial_pre_omega)
  | ((with_reducible apply skF') <;> decreasing_trivial_pre_omega)
  | ((with_reducible apply rkR) <;> decreasing_trivial_pre_omega)
  | ((with_reducible apply rkR') <;> decreasing_trivial_pre_omega)
  | ((with_reducible apply rkN) <;> decreasing_trivial_pre_omega)
  | ((with_reducible apply rkX) <;> decreasing_trivial_pre_omega)
  | (show (_ : Option (List (Nat × Val))) = _
     first
       | with_reducible exact oN
       | ((with_reducible apply oC) <;> decreasing_trivial_pre_omega)
       | exact (rfl : (_ : Option (List (Nat × Val))) = some _))
  | (show (_ : Nat) < _; first | assumption | omega | (simp [most]; done))
  | exact (rfl : (_ : Option _) = some _))

variable {k : Nat} {X : Val} {ws : List Nat} {n w s : Nat} {ex : Exc}
/-! R8: lucky; refused; what is drawn -/
def luk (ws : List Nat) : List Nat := ((sp ws).zipIdx.filter fun p => decide (ws[p.2]? = some p.1)).map (·.2)
theorem luk_q {p : Nat × Nat} (h : Ws ws) (hp : p ∈ (sp ws).zipIdx) : ∃ w : Nat, subsV (.tup (nv ws)) (.int (p.2 : Int)) = some (.int (w : Int)) ∧ eqD (ov ws.length p.1) (.int (w : Int)) = some (.bl (decide (ws[p.2]? = some p.1))) := by
  have h1 := List.mem_zipIdx_iff_getElem?.mp hp
  have h2 : p.2 < (sp ws).length := (List.getElem?_eq_some_iff.mp h1).1
  rw [sp_len] at h2
  have h3 : ws[p.2]? = some ws[p.2] := List.getElem?_eq_getElem h2
  refine ⟨ws[p.2], subsT (F := fun j : Nat => Val.int (j : Int)) h3 rfl, ?_⟩
  have h4 := h.lt _ (List.getElem_mem h2)
  rw [h3]
  unfold ov
  split
  · rw [eqD_int]
    congr 2
    rw [Bool.eq_iff_iff, beq_iff_eq, decide_eq_true_eq, Option.some.injEq]
    omega
  · rename_i hc
    rw [decide_eq_false (fun z => by rw [Option.some.injEq] at z; omega)]
    simp [eqD, isD, depthV, okV, eqV0]
def q11_0 (call : Call) : VI.C := (cLC (iEnu (cCall call 4 [.v (cN 0)])) (.t [(.n 1), (.n 2)]) (tB (c2 eqD (cN 2) (c2 subsV (cN 0) (cN 1)))) (cN 1) [1, 2])
theorem l11 (call : Call) : l_11 call [] = [(sExp (cCall call 3 [.v (cN 0)])), (sRet [] (cB tupleG [(q11_0 call)]))] := rfl
theorem luk_map : (((sp ws).zipIdx.filter fun p => decide (ws[p.2]? = some p.1)).map fun p => Val.int (p.2 : Int)) = nv (luk ws) := by
  unfold nv luk
  rw [List.map_map]
  rfl
theorem c_lucky (h : Ws ws) : callN Pr (k + 5) 11 [.tup (nv ws)] = .ok (.tup (nv (luk ws))) [] := by
  have ck := c_check (k := k) (th_nv ws) (wish_ws h)
  have pk := c_parked (k := k + 3) h
  have q0 : q11_0 (callN Pr (k + 4)) [some (.tup (nv ws)), none, none] = .ok (.val (.lst true (nv (luk ws)))) [some (.tup (nv ws)), none, none] := by
    unfold q11_0
    refine xLCs (iEnuG (csV (xCall (eaN rfl eaNil) (taN rfl (zT ws) taNil) pk (poV poNil)) csNil) (tfV (fzLst (ovL_fz ws.length (sp ws))) tfNil) rfl) ?_ rfl rfl
    have e0 : enum 0 (ovL ws.length (sp ws)) = (sp ws).zipIdx.map fun p => Val.tup [.int (p.2 : Int), ov ws.length p.1] := enumM0 (ov ws.length) (sp ws)
    rw [e0, ← luk_map]
    exact lcFN (F := fun p : Nat × Nat => Val.tup [.int (p.2 : Int), ov ws.length p.1]) (G := fun p : Nat × Nat => Val.int (p.2 : Int)) (p := fun p => decide (ws[p.2]? = some p.1)) (sp ws).zipIdx [] fun p hp => by
      obtain ⟨w, h1, h2⟩ := luk_q h hp
      exact ⟨[some (.tup (nv ws)), some (.int (p.2 : Int)), some (ov ws.length p.1)], _, rfl, (tBx (exV (x2N rfl (exV (x2N rfl (exN rfl) rfl h1)) rfl h2))), rfl, rfl, rfl⟩
  have tn : tupleG [.lst true (nv (luk ws))] = some (.tup (nv (luk ws))) := by rw [nv_ints]; exact tup_li true _
  show runDef f_11 _ _ = _
  apply runX (m := 2) rfl; simp only [show ∀ (c : Call) (e : En), f_11.body c e = sSeq (l_11 c []) e from fun _ _ => rfl, l11, List.map_cons, List.map_nil, List.replicate, List.cons_append, List.nil_append]
  · exact sqC (xExp (xCall (eaN rfl eaNil) (taN rfl (zT ws) taNil) ck (poV poNil))) (qkN (sqC (xRet (xB (csV q0 csNil) (gsV gsNil) tn)) qkR))
  · exact rkR rfl
/-! ### refused -/
theorem lam_ref {call : Call} {c : VI.C} {e e1 : En} (h : c e = .exc ⟨1, [], []⟩ e1) : cLam (h_22 call) c e = .ok (.val (.bl true)) e1 := by
  have p1 := pins_no (n := 2) (m := e.length) (j := 1) (by omega) (by omega)
  have hb : b_22 call (pinsOf 2 e.length) (cAct 2 c) (none :: none :: e) = .rt (.bl true) (none :: none :: e1) := by
    generalize pinsOf 2 e.length = P at p1 ⊢
    have act : cAct 2 c (none :: none :: e) = .exc ⟨1, [], []⟩ (none :: none :: e1) := by
      show (match c e with
        | .ok u e1 => match u.take e1 with
          | some (x, e2) => Res.ok (OV.val x) ([none, none] ++ e2)
          | none => .bad
        | .exc x e1 => .exc x ([none, none] ++ e1)
        | .bad => .bad) = _
      rw [h]
      rfl
    have hbody : sSeq [sExp (cAct 2 c)] (none :: none :: e) = .exc ⟨1, [], []⟩ (none :: none :: e1) := sqC (xExpX act) qkX
    have tr : ∀ s : Nat → S, s 1 (none :: none :: e1) = .rt (.bl true) (none :: none :: e1) → sTryAs P 1 (sSeq [sExp (cAct 2 c)]) exm_DueError s (none :: none :: e) = .rt (.bl true) (none :: none :: e1) := fun s hs => by
      unfold sTryAs
      rw [hbody]
      show (if P.contains 1 then SRes.bad else offS 1 (s 1 (none :: none :: e1))) = _
      rw [p1, hs]
      rfl
    unfold b_22
    exact sqC (tr _ (sqC (xRet (xAnd (exV xV) (vkT xV))) qkR)) qkR
  show (match b_22 call (pinsOf 2 e.length) (cAct 2 c) (none :: none :: e) with
    | .rt x e' => Res.ok (OV.val x) (e'.drop 2)
    | .nx e' => .ok (.val .non) (e'.drop 2)
    | _ => .bad) = _
  rw [hb]
  rfl
/-! ### deep -/
def y23_0 (call : Call) : VI.S := (sSeq [(sAsg [0] (.n 1) (c2 subsV (cLst [(cTup [(cN 1)]), (cLst [(cN 1)]), (cDic1 (.inl (0)) (cN 1))]) (cCall call 14 [.r 0, .v (cV (.int (3)))])))])
def f23_0 (call : Call) : VI.S := (sFor [0] (iRng [(c2 addV (cV (.int (1))) (cCall call 14 [.r 0, .v (cV (.int (28)))]))]) (.n 2) (y23_0 call))
theorem l23 (call : Call) : l_23 call [0] = [(sAsg [0] (.n 1) (cCall call 15 [.r 0, .v (cLst [(cV .non), (c1 negV (cV (.int (1)))), (cV (.str (Str.ofString "p"))), (cV (.bl true))])])), (f23_0 call), (sRet [0] (cN 1))] := rfl
theorem deep_body {h : Val} {v : Val} {t : Option Val} {n : Nat} (hh : HandV h) (g : Gd (13 + 24 * n) n v) : ∃ (h' v' : Val), y23_0 (callN Pr (k + 1)) [some h, some v, t] = .nx [some h', some v', t] ∧ HandV h' ∧ Gd (13 + 24 * (n + 1)) (n + 1) v' := by
  obtain ⟨r, ha, d1, pa, hr⟩ := drawH (k := k) (m := 3) hh (by omega) (by omega)
  have zv := fz_of g.z
  have one : GdL (13 + 24 * n) n [v] := GdL.nil.cons g
  have g1 : Gd (13 + 24 * (n + 1)) (n + 1) (.tup [v]) := Gd.tup (m := 1) one (by simp) (by omega)
  have g2 : Gd (13 + 24 * (n + 1)) (n + 1) (.lst false [v]) := Gd.lst (m := 1) one (by simp) (by omega)
  have g3 : Gd (13 + 24 * (n + 1)) (n + 1) (.dic false [.inl 0] [v]) := Gd.dic g (by omega)
  have fin : ∀ (j : Nat) (x : Val), r = j → ([.tup [v], .lst false [v], .dic false [.inl 0] [v]] : List Val)[j]? = some x → Gd (13 + 24 * (n + 1)) (n + 1) x → ∃ (h' v' : Val), y23_0 (callN Pr (k + 1)) [some h, some v, t] = .nx [some h', some v', t] ∧ HandV h' ∧ Gd (13 + 24 * (n + 1)) (n + 1) v' := fun j x e hx gx => by
    subst e
    refine ⟨ha, x, ?_, pa, gx⟩
    have sb : subsV (.lst true [.tup [v], .lst false [v], .dic false [.inl 0] [v]]) (.int (r : Int)) = some x := subs_lst hx gx.z
    unfold y23_0
    exact (sqC (xAsg (x2V (xLst (csV (xTup (csN rfl csNil) (tfN rfl zv tfNil)) (csV (xLst (csN rfl csNil) (tfN rfl zv tfNil)) (csV (xDic1 rfl zv) csNil))) (tfV (fz_tup1 zv) (tfV (fz_lst1 zv) (tfV (fz_dic1 zv) tfNil)))) (exV (xCall (eaR rfl (eaV xV eaNil)) (taR rfl rfl (taV taNil)) d1 (poR rfl rfl (poV poNil)))) sb) (asN rfl rfl rfl)) (qkN sqN))
  have : r = 0 ∨ r = 1 ∨ r = 2 := by omega
  rcases this with e | e | e
  · exact fin 0 _ e rfl g1
  · exact fin 1 _ e rfl g2
  · exact fin 2 _ e rfl g3
theorem c_deep {h : Val} (hh : HandV h) : ∃ (X h' : Val), callN Pr (k + 3) 23 [h] = .ok X [(0, h')] ∧ HandV h' ∧ Gd 900 40 X := by
  obtain ⟨v0, h0, d0, p0, hv0⟩ := anyL (k := k) (o := true) (xs := [.non, .int (-1), .str (Str.ofString "p"), .bl true]) hh rfl (by simp) (by simp)
  have gv0 : Gd (13 + 24 * 0) 0 v0 := by
    simp only [List.mem_cons, List.not_mem_nil, or_false] at hv0
    rcases hv0 with rfl | rfl | rfl | rfl <;> exact Gd.lit (by decide +kernel)
  obtain ⟨r, ha, d1, pa, hr⟩ := drawH (k := k + 1) (m := 28) p0 (by omega) (by omega)
  have ad : addV (.int 1) (.int (r : Int)) = some (.int ((1 + r : Nat) : Int)) := by simp [addV]
  obtain ⟨e', g1, hb, v, t, rfl, pb, gv⟩ := forI (pins := [0]) (tg := .n 2) (body := y23_0 (callN Pr (k + 2))) (F := fun j : Nat => Val.int (j : Int))
    (I := fun dn e => ∃ hb v t, e = [some hb, some v, t] ∧ HandV hb ∧ Gd (13 + 24 * dn.length) dn.length v) (List.range (1 + r)) [] [some ha, some v0, none] ⟨ha, v0, none, rfl, pa, gv0⟩ fun dn j rest e hq hI => by
      obtain ⟨hb, v, t, rfl, pb, gv⟩ := hI
      obtain ⟨h2, v2, g, p2, gv2⟩ := deep_body (k := k + 1) (t := some (.int (j : Int))) pb gv
      exact ⟨[some hb, some v, some (.int (j : Int))], _, rfl, .inl g, h2, v2, _, rfl, p2, by simpa using gv2⟩
  have lr : (List.range (1 + r)).length = 1 + r := List.length_range
  rw [List.nil_append, lr] at gv
  refine ⟨v, hb, ?_, pb, gv.up (by omega) (by omega)⟩
  have a1 : f23_0 (callN Pr (k + 2)) [some h0, some v0, none] = .nx [some hb, some v, t] := by
    unfold f23_0
    refine xFor (iRngN (exV (x2V xV (exV (xCall (eaR rfl (eaV xV eaNil)) (taR rfl rfl (taV taNil)) d1 (poR rfl rfl (poV poNil)))) ad)) (by omega)) ?_
    rw [rngM]
    exact g1
  show runDef f_23 _ _ = _
  apply runX (m := 2) rfl; simp only [show ∀ (c : Call) (e : En), f_23.body c e = sSeq (l_23 c [0]) e from fun _ _ => rfl, l23, List.map_cons, List.map_nil, List.replicate, List.cons_append, List.nil_append]
  · exact sqC (xAsg (xCall (eaR rfl (eaV (xLst (csV xV (csV (VI.x1 (exV xV) rfl) (csV xV (csV xV csNil)))) (tfV rfl (tfV rfl (tfV rfl (tfV rfl tfNil))))) eaNil)) (taR rfl rfl (taV taNil)) d0 (poR rfl rfl (poV poNil))) (asN rfl rfl rfl)) (qkN (sqC a1 (qkN (sqC (xRetN rfl rfl rfl) qkR))))
  · exact rkR rfl
end LK
set_option Elab.async false
set_option linter.all false
set_option maxRecDepth 100000
set_option maxHeartbeats 1600000
namespace LK
open VI PySem
local macro_rules | `(tactic| decreasing_trivial_pre_omega) => `(tactic| first
  | with_reducible assumption
  | (show (_ : Option Val) = _
     first
       | with_reducible exact eqG_int
       | with_reducible exact neD_int
       | with_reducible exact eqG_bl
       | with_reducible exact neD_bl
       | with_reducible exact lenG_lst
       | with_reducible exact lenG_any
       | exact (rfl : (_ : Option Val) = some _))
  | (show (_ : Res OV) = _
     first
       | with_reducible exact xV
       | ((with_reducible apply x1) <;> decreasing_trivial_pre_omega)
       | ((with_reducible apply x2N) <;> decreasing_trivial_pre_omega)
       | ((with_reducible apply x2V) <;> decreasing_trivial_pre_omega)
       | ((with_reducible apply xB) <;> decreasing_trivial_pre_omega)
       | ((with_reducible apply xCall) <;> decreasing_trivial_pre_omega)
       | ((with_reducible apply xTup) <;> decreasing_trivial_pre_omega)
       | ((with_reducible apply xLst) <;> decreasing_trivial_pre_omega)
       | ((with_reducible apply xIf) <;> decreasing_trivial_pre_omega)
       | ((with_reducible apply xAnd) <;> decreasing_trivial_pre_omega)
       | ((with_reducible apply xOr) <;> decreasing_trivial_pre_omega)
       | ((with_reducible apply xCh) <;> decreasing_trivial_pre_omega)
       | ((with_reducible apply xMake) <;> decreasing_trivial_pre_omega)
       | ((with_reducible apply xTupO) <;> decreasing_trivial_pre_omega)
       | ((with_reducible apply xLstO) <;> decreasing_trivial_pre_omega)
       | ((with_reducible apply xMGt) <;> decreasing_trivial_pre_omega)
       | ((with_reducible apply xPopAt) <;> decreasing_trivial_pre_omega)
       | ((with_reducible apply xPop) <;> decreasing_trivial_pre_omega)
       | ((with_reducible apply xMGl) <;> decreasing_trivial_pre_omega))
  | (show (_ : Res (List OV)) = _
     first
       | with_reducible exact csNil
       | ((with_reducible apply csN) <;> decreasing_trivial_pre_omega)
       | ((with_reducible apply csV) <;> decreasing_trivial_pre_omega))
  | (show (_ : Res (List AV)) = _
     first
       | with_reducible exact eaNil
       | ((with_reducible apply eaN) <;> decreasing_trivial_pre_omega)
       | ((with_reducible apply eaV) <;> decreasing_trivial_pre_omega)
       | ((with_reducible apply eaR) <;> decreasing_trivial_pre_omega))
  | (show (_ : Option (List Val × En)) = _
     first
       | with_reducible exact tfNil
       | with_reducible exact tkNil
       | with_reducible exact taNil
       | ((with_reducible apply tfV) <;> decreasing_trivial_pre_omega)
       | ((with_reducible apply tfN) <;> decreasing_trivial_pre_omega)
       | ((with_reducible apply tfNl) <;> decreasing_trivial_pre_omega)
       | ((with_reducible apply tkV) <;> decreasing_trivial_pre_omega)
       | ((with_reducible apply tkN) <;> decreasing_trivial_pre_omega)
       | ((with_reducible apply tkNl) <;> decreasing_trivial_pre_omega)
       | ((with_reducible apply taV) <;> decreasing_trivial_pre_omega)
       | ((with_reducible apply taN) <;> decreasing_trivial_pre_omega)
       | ((with_reducible apply taNl) <;> decreasing_trivial_pre_omega)
       | ((with_reducible apply taR) <;> decreasing_trivial_pre_omega))
  | (show (_ : Option (List Val)) = _
     first
       | with_reducible exact gsNil
       | ((with_reducible apply gsN) <;> decreasing_trivial_pre_omega)
       | ((with_reducible apply gsV) <;> decreasing_trivial_pre_omega)
       | exact (rfl : (_ : Option (List Val)) = some _))
  | (show (_ : Option En) = _
     first
       | with_reducible exact poNil
       | ((with_reducible apply poV) <;> decreasing_trivial_pre_omega)
       | ((with_reducible apply poR) <;> decreasing_trivial_pre_omega)
       | ((with_reducible apply asN) <;> decreasing_trivial_pre_omega)
       | ((with_reducible apply asT) <;> decreasing_trivial_pre_omega)
       | with_reducible exact asLn
       | ((with_reducible apply asLc) <;> decreasing_trivial_pre_omega))
  | (show (_ : En) = _
     first
       | with_reducible exact setL0
       | ((with_reducible apply setLS) <;> decreasing_trivial_pre_omega))
  | (show (_ : SRes) = _
     first
       | with_reducible exact sqN
       | ((with_reducible apply sqC) <;> decreasing_trivial_pre_omega)
       | ((with_reducible apply xAsgN) <;> decreasing_trivial_pre_omega)
       | ((with_reducible apply xAsg) <;> decreasing_trivial_pre_omega)
       | ((with_reducible apply xPar3) <;> decreasing_trivial_pre_omega)
       | ((with_reducible apply xPar) <;> decreasing_trivial_pre_omega)
       | ((with_reducible apply xRetN) <;> decreasing_trivial_pre_omega)
       | ((with_reducible apply xRet) <;> decreasing_trivial_pre_omega)
       | ((with_reducible apply xExp) <;> decreasing_trivial_pre_omega)
       | ((with_reducible apply xsIf) <;> decreasing_trivial_pre_omega)
       | ((with_reducible apply xAppN) <;> decreasing_trivial_pre_omega)
       | ((with_reducible apply xApp) <;> decreasing_trivial_pre_omega)
       | with_reducible exact xRaise0)
  | (show (_ : Res Bool) = _
     first
       | ((with_reducible apply tBx) <;> decreasing_trivial_pre_omega)
       | ((with_reducible apply tNotx) <;> decreasing_trivial_pre_omega)
       | ((with_reducible apply tAndx) <;> decreasing_trivial_pre_omega)
       | ((with_reducible apply tOrx) <;> decreasing_trivial_pre_omega))
  | (show (_ : Res (List Val)) = _
     first
       | ((with_reducible apply iSeqG) <;> decreasing_trivial_pre_omega)
       | ((with_reducible apply iEnuG) <;> decreasing_trivial_pre_omega)
       | ((with_reducible apply iZipG) <;> decreasing_trivial_pre_omega)
       | ((with_reducible apply iRngN) <;> decreasing_trivial_pre_omega))
  | (show (_ : Val) = _
     first
       | with_reducible exact fzi _
       | with_reducible exact fzb _
       | with_reducible exact fzn
       | with_reducible exact fzs _
       | with_reducible exact zti _
       | exact fz_of rfl
       | exact (rfl : Val.int _ = Val.int _)
       | exact (rfl : Val.tup _ = Val.tup _)
       | exact (rfl : Val.lst _ _ = Val.lst _ _))
  | (show (_ : Bool) = _
     first
       | exact (rfl : (_ : Bool) = true)
       | exact (rfl : (_ : Bool) = false)
       | exact decide_eq_true (by omega)
       | exact decide_eq_false (by omega)
       | exact beq_eq_false_iff_ne.mpr (by omega)
       | exact beq_iff_eq.mpr (by omega)
       | rfl)
  | ((with_reducible apply exN) <;> decreasing_trivial_pre_omega)
  | ((with_reducible apply exV) <;> decreasing_trivial_pre_omega)
  | ((with_reducible apply qkN) <;> decreasing_trivial_pre_omega)
  | with_reducible exact qkR
  | with_reducible exact qkX
  | with_reducible exact qkC
  | with_reducible exact qkB
  | ((with_reducible apply tkT) <;> decreasing_trivial_pre_omega)
  | ((with_reducible apply tkF) <;> decreasing_trivial_pre_omega)
  | ((with_reducible apply tkT') <;> decreasing_trivial_pre_omega)
  | ((with_reducible apply tkF') <;> decreasing_trivial_pre_omega)
  | ((with_reducible apply tkA) <;> decreasing_trivial_pre_omega)
  | ((with_reducible apply tkO) <;> decreasing_trivial_pre_omega)
  | ((with_reducible apply vkT) <;> decreasing_trivial_pre_omega)
  | ((with_reducible apply vkF) <;> decreasing_trivial_pre_omega)
  | ((with_reducible apply vkT') <;> decreasing_trivial_pre_omega)
  | ((with_reducible apply vkF') <;> decreasing_trivial_pre_omega)
  | ((with_reducible apply vkA) <;> decreasing_trivial_pre_omega)
  | ((with_reducible apply vkO) <;> decreasing_trivial_pre_omega)
  | ((with_reducible apply vkS) <;> decreasing_trivial_pre_omega)
  | ((with_reducible apply skT) <;> decreasing_trivial_pre_omega)
  | ((with_reducible apply skF) <;> decreasing_trivial_pre_omega)
  | ((with_reducible apply skT') <;> decreasing_trivial_pre_omega)
  | ((with_reducible apply skF') <;> decreasing_trivial_pre_omega)
  | ((with_reducible apply rkR) <;> decreasing_trivial_pre_omega)
  | ((with_reducible apply rkR') <;> decreasing_trivial_pre_omega)
  | ((with_reducible apply rkN) <;> decreasing_trivial_pre_omega)
  | ((with_reducible apply rkX) <;> decreasing_trivial_pre_omega)
  | (show (_ : Option (List (Nat × Val))) = _
     first
       | with_reducible exact oN
       | ((with_reducible apply oC) <;> decreasing_trivial_pre_omega)
       | exact (rfl : (_ : Option (List (Nat × Val))) = some _))
  | (show (_ : Nat) < _; first | assumption | omega | (simp [most]; done))
  | exact (rfl : (_ : Option _) = some _))

variable {k : Nat} {X : Val} {ws : List Nat} {n w s : Nat} {ex : Exc}
/-! R9: wishes drawn, bent -/
theorem eqN {a b : Nat} : eqD (.int (a : Int)) (.int (b : Int)) = some (.bl (decide (a = b))) := by
  rw [eqD_int]
  congr 2
  rw [Bool.eq_iff_iff, beq_iff_eq, decide_eq_true_eq]
  omega
theorem tupN {o : Bool} (L : List Nat) : tupleG [.lst o (nv L)] = some (.tup (nv L)) := by rw [nv_ints]; exact tup_li o _
theorem nv_set (L : List Nat) (j x : Nat) : (nv L).set j (.int (x : Int)) = nv (L.set j x) := by unfold nv; rw [List.map_set]
def q18_0 (call : Call) : VI.C := (cLC (iRng [(cN 1)]) (.n 3) VI.tYes (cCall call 14 [.r 0, .v (c2 addV (cN 3) (cV (.int (1))))]) [3])
def q18_1 (call : Call) : VI.C := (cLC (iRng [(cN 1)]) (.n 3) VI.tYes (cCall call 14 [.r 0, .v (cN 1)]) [3])
theorem l18 (call : Call) : l_18 call [0] = [(sAsg [0] (.n 2) (cCall call 14 [.r 0, .v (cV (.int (7)))])), (sIf (tB (c2 ltV (cN 2) (cV (.int (4))))) (sSeq [(sAsg [0] (.n 4) (cCall call 16 [.r 0, .v (q18_0 call)])), (sIf (tB (c2 eqD (cN 2) (cV (.int (3))))) (sSeq [(sAsg [0] (.n 3) (cCall call 14 [.r 0, .v (cN 1)])), (sSetI 4 (cN 3) (cB min2V [(c2 subV (cN 1) (cV (.int (1)))), (c2 addV (c2 addV (c2 subsV (cN 4) (cN 3)) (cV (.int (1)))) (cCall call 14 [.r 0, .v (cV (.int (3)))]))]))]) (sSeq [])), (sRet [0] (cB tupleG [(cN 4)]))]) (sSeq [])), (sIf (tB (c2 eqD (cN 2) (cV (.int (4))))) (sSeq [(sRet [0] (c2 mulW (cTup [(cCall call 14 [.r 0, .v (cN 1)])]) (cN 1)))]) (sSeq [])), (sIf (tB (c2 eqD (cN 2) (cV (.int (5))))) (sSeq [(sRet [0] (c1 revV (c1 (fun x => rngList false [x]) (cN 1))))]) (sSeq [])), (sRet [0] (cB tupleG [(q18_1 call)]))] := rfl
theorem c_wishes {h : Val} (hh : HandV h) (h1 : 1 ≤ n) (h2 : n ≤ 60) : ∃ (ws : List Nat) (h' : Val), callN Pr (k + 3) 18 [h, .int (n : Int)] = .ok (.tup (nv ws)) [(0, h')] ∧ HandV h' ∧ Ws ws ∧ ws.length = n := by
  obtain ⟨r, ha, d1, pa, hr⟩ := drawH (k := k + 1) (m := 7) hh (by omega) (by omega)
  have lt4 : ltV (.int (r : Int)) (.int 4) = some (.bl (decide (r < 4))) := ltN
  have e3 : eqD (.int (r : Int)) (.int 3) = some (.bl (decide (r = 3))) := eqN
  have e4 : eqD (.int (r : Int)) (.int 4) = some (.bl (decide (r = 4))) := eqN
  have e5 : eqD (.int (r : Int)) (.int 5) = some (.bl (decide (r = 5))) := eqN
  by_cases c1 : r < 4
  · obtain ⟨bs, hb, g1, pb, lb, gb⟩ := lcS (tg := .n 3) (el := cCall (callN Pr (k + 2)) 14 [.r 0, .v (c2 addV (cN 3) (cV (.int (1))))]) (vs := [3]) (F := fun j : Nat => Val.int (j : Int)) (E := fun s : Val => [some s, some (.int (n : Int)), some (.int (r : Int)), none, none]) (I := HandV) (Rr := fun j b : Nat => b ≤ j) (M := fun j : Nat => Val.int (j : Int)) (List.range n) [] ha pa fun j hj s hs => by
      have hj := List.mem_range.mp hj
      obtain ⟨b, h2, d2, p2, hb⟩ := drawH (k := k + 1) (m := j + 1) hs (by omega) (by omega)
      exact ⟨[some s, some (.int (n : Int)), some (.int (r : Int)), some (.int (j : Int)), none], _, _, b, h2, rfl, (xCall (eaR rfl (eaV (x2N rfl (exV xV) rfl add1) eaNil)) (taR rfl rfl (taV taNil)) d2 (poR rfl rfl (poV poNil))), rfl, rfl, p2, by omega⟩
    rw [List.length_range] at lb
    have q0 : q18_0 (callN Pr (k + 2)) [some ha, some (.int (n : Int)), some (.int (r : Int)), none, none] = .ok (.val (.lst true (nv bs))) [some hb, some (.int (n : Int)), some (.int (r : Int)), none, none] := by
      unfold q18_0
      refine xLC (e2 := [some ha, some (.int (n : Int)), some (.int (r : Int)), none, none]) (e3 := [some hb, some (.int (n : Int)), some (.int (r : Int)), none, none]) (iRngN (exN rfl) (by omega)) rfl ?_ rfl
      rw [rngM]
      exact g1
    have bl : ∀ b ∈ bs, b < n := fun b hb => by
      obtain ⟨i, hi, rfl⟩ := List.mem_iff_getElem.mp hb
      have := gb i i bs[i] (by rw [List.getElem?_range (by omega)]) (List.getElem?_eq_getElem hi)
      omega
    obtain ⟨L, hc, d3, pc, pL⟩ := mixed (k := k) (F := fun j : Nat => Val.int (j : Int)) (fun _ => rfl) (o := true) (L := bs) pb (by omega)
    have ll := pL.length_eq
    have lL : ∀ b ∈ L, b < n := fun b hb => bl b (pL.mem_iff.mp hb)
    by_cases c2 : r = 3
    · obtain ⟨a, hd, d4, pd, ha'⟩ := drawH (k := k + 1) (m := n) pc (by omega) (by omega)
      obtain ⟨c, he, d5, pe, hc'⟩ := drawH (k := k + 1) (m := 3) pd (by omega) (by omega)
      have sb : subsV (.lst true (nv L)) (.int (a : Int)) = some (.int (L[a] : Int)) := subsL (F := fun j : Nat => Val.int (j : Int)) (List.getElem?_eq_getElem (by omega)) rfl
      have m2 : min2V [.int ((n : Int) - 1), .int ((L[a] : Int) + 1 + (c : Int))] = some (.int ((min (n - 1) (L[a] + 1 + c) : Nat) : Int)) := by
        have e : (if (L[a] : Int) + 1 + (c : Int) < (n : Int) - 1 then (L[a] : Int) + 1 + (c : Int) else (n : Int) - 1) = ((min (n - 1) (L[a] + 1 + c) : Nat) : Int) := by split <;> omega
        exact congrArg (fun z => some (Val.int z)) e
      have tn : tupleG [.lst true ((nv L).set a (.int ((min (n - 1) (L[a] + 1 + c) : Nat) : Int)))] = some (.tup (nv (L.set a (min (n - 1) (L[a] + 1 + c))))) := by rw [nv_set]; exact tupN _
      refine ⟨L.set a (min (n - 1) (L[a] + 1 + c)), he, ?_, pe, ⟨by simp; omega, by simp; omega, fun w hw => ?_⟩, by simp; omega⟩
      · show runDef f_18 _ _ = _
        apply runX (m := 3) rfl; simp only [show ∀ (c : Call) (e : En), f_18.body c e = sSeq (l_18 c [0]) e from fun _ _ => rfl, l18, List.map_cons, List.map_nil, List.replicate, List.cons_append, List.nil_append]
        · exact sqC (xAsg (xCall (eaR rfl (eaV xV eaNil)) (taR rfl rfl (taV taNil)) d1 (poR rfl rfl (poV poNil))) (asN rfl rfl rfl)) (qkN (sqC (xsIf (tBx (exV (x2N rfl (exV xV) rfl lt4))) (skT' (decide_eq_true c1) (sqC (xAsg (xCall (eaR rfl (eaV q0 eaNil)) (taR rfl rfl (taV taNil)) d3 (poR rfl rfl (poV poNil))) (asN rfl rfl rfl)) (qkN (sqC (xsIf (tBx (exV (x2N rfl (exV xV) rfl e3))) (skT' (decide_eq_true c2) (sqC (xAsg (xCall (eaR rfl (eaN rfl eaNil)) (taR rfl rfl (taN rfl (by decreasing_trivial_pre_omega) taNil)) d4 (poR rfl rfl (poV poNil))) (asN rfl rfl rfl)) (qkN (sqC (xSetV (xB (csV (x2N rfl (exV xV) rfl rfl) (csV (x2V (x2V (x2N rfl (exN rfl) rfl sb) (exV xV) rfl) (exV (xCall (eaR rfl (eaV xV eaNil)) (taR rfl rfl (taV taNil)) d5 (poR rfl rfl (poV poNil)))) rfl) csNil)) (gsV (gsV gsNil)) m2) rfl rfl (exN rfl) (by simp; omega) (nv_fz L) rfl) (qkN sqN)))))) (qkN (sqC (xRet (xB (csN rfl csNil) (gsN rfl gsNil) tn)) qkR))))))) qkR))
        · exact rkR rfl
      · rw [List.length_set]
        rcases List.mem_or_eq_of_mem_set hw with hw | rfl
        · have := lL w hw; omega
        · omega
    · refine ⟨L, hc, ?_, pc, ⟨by omega, by omega, fun w hw => by have := lL w hw; omega⟩, by omega⟩
      show runDef f_18 _ _ = _
      apply runX (m := 3) rfl; simp only [show ∀ (c : Call) (e : En), f_18.body c e = sSeq (l_18 c [0]) e from fun _ _ => rfl, l18, List.map_cons, List.map_nil, List.replicate, List.cons_append, List.nil_append]
      · exact sqC (xAsg (xCall (eaR rfl (eaV xV eaNil)) (taR rfl rfl (taV taNil)) d1 (poR rfl rfl (poV poNil))) (asN rfl rfl rfl)) (qkN (sqC (xsIf (tBx (exV (x2N rfl (exV xV) rfl lt4))) (skT' (decide_eq_true c1) (sqC (xAsg (xCall (eaR rfl (eaV q0 eaNil)) (taR rfl rfl (taV taNil)) d3 (poR rfl rfl (poV poNil))) (asN rfl rfl rfl)) (qkN (sqC (xsIf (tBx (exV (x2N rfl (exV xV) rfl e3))) (skF' (decide_eq_false c2) sqN)) (qkN (sqC (xRet (xB (csN rfl csNil) (gsN rfl gsNil) (tupN L))) qkR))))))) qkR))
      · exact rkR rfl
  · by_cases c4 : r = 4
    · obtain ⟨a, hb, d2, pb, ha'⟩ := drawH (k := k + 1) (m := n) pa (by omega) (by omega)
      have mu : mulW (.tup [.int (a : Int)]) (.int (n : Int)) = some (.tup (nv (List.replicate n a))) := by
        have e : mulW (.tup [.int (a : Int)]) (.int (n : Int)) = (if isFzL [.int (a : Int)] && decide ((n : Int) ≤ 1000 ∧ [Val.int (a : Int)].length ≤ 1000 ∧ -1000 ≤ (n : Int)) then some (Val.tup (rep [.int (a : Int)] (n : Int).toNat)) else none) := by unfold mulW mulG; with_reducible rfl
        rw [e, show isFzL [.int (a : Int)] = true from rfl, decide_eq_true ⟨by omega, by simp, by omega⟩, Int.toNat_natCast, intsV_rep, nv_ints, List.map_replicate]
        rfl
      refine ⟨List.replicate n a, hb, ?_, pb, ⟨by simp; omega, by simp; omega, fun w hw => by rw [List.eq_of_mem_replicate hw]; simp; omega⟩, by simp⟩
      show runDef f_18 _ _ = _
      apply runX (m := 3) rfl; simp only [show ∀ (c : Call) (e : En), f_18.body c e = sSeq (l_18 c [0]) e from fun _ _ => rfl, l18, List.map_cons, List.map_nil, List.replicate, List.cons_append, List.nil_append]
      · exact sqC (xAsg (xCall (eaR rfl (eaV xV eaNil)) (taR rfl rfl (taV taNil)) d1 (poR rfl rfl (poV poNil))) (asN rfl rfl rfl)) (qkN (sqC (xsIf (tBx (exV (x2N rfl (exV xV) rfl lt4))) (skF' (decide_eq_false c1) sqN)) (qkN (sqC (xsIf (tBx (exV (x2N rfl (exV xV) rfl e4))) (skT' (decide_eq_true c4) (sqC (xRet (x2V (xTup (csV (xCall (eaR rfl (eaN rfl eaNil)) (taR rfl rfl (taN rfl (by decreasing_trivial_pre_omega) taNil)) d2 (poR rfl rfl (poV poNil))) csNil) (tfV rfl tfNil)) (exN rfl) mu)) qkR))) qkR))))
      · exact rkR rfl
    · by_cases c5 : r = 5
      · have rg : rngList false [.int (n : Int)] = some (.tup (nv (List.range n))) := by
          show (if rngOk 0 (n : Int) then some (if false = true then Val.lst true (rngV 0 (n : Int).toNat) else Val.tup (rngV 0 (n : Int).toNat)) else none) = _
          rw [rngOk_n (by omega), Int.toNat_natCast, rngM]
          rfl
        have rv : revV (.tup (nv (List.range n))) = some (.tup (nv (List.range n).reverse)) := by
          show (if isFzL _ then some (Val.tup (nv (List.range n)).reverse) else none) = _
          rw [nv_fz]
          simp [nv]
        refine ⟨(List.range n).reverse, ha, ?_, pa, ⟨by simp; omega, by simp; omega, fun w hw => by have := List.mem_range.mp (List.mem_reverse.mp hw); simp; omega⟩, by simp⟩
        show runDef f_18 _ _ = _
        apply runX (m := 3) rfl; simp only [show ∀ (c : Call) (e : En), f_18.body c e = sSeq (l_18 c [0]) e from fun _ _ => rfl, l18, List.map_cons, List.map_nil, List.replicate, List.cons_append, List.nil_append]
        · exact sqC (xAsg (xCall (eaR rfl (eaV xV eaNil)) (taR rfl rfl (taV taNil)) d1 (poR rfl rfl (poV poNil))) (asN rfl rfl rfl)) (qkN (sqC (xsIf (tBx (exV (x2N rfl (exV xV) rfl lt4))) (skF' (decide_eq_false c1) sqN)) (qkN (sqC (xsIf (tBx (exV (x2N rfl (exV xV) rfl e4))) (skF' (decide_eq_false c4) sqN)) (qkN (sqC (xsIf (tBx (exV (x2N rfl (exV xV) rfl e5))) (skT' (decide_eq_true c5) (sqC (xRet (VI.x1 (exV (VI.x1 (exN rfl) rg)) rv)) qkR))) qkR))))))
        · exact rkR rfl
      · obtain ⟨bs, hb, g1, pb, lb, gb⟩ := lcS (tg := .n 3) (el := cCall (callN Pr (k + 2)) 14 [.r 0, .v (cN 1)]) (vs := [3]) (F := fun j : Nat => Val.int (j : Int)) (E := fun s : Val => [some s, some (.int (n : Int)), some (.int (r : Int)), none, none]) (I := HandV) (Rr := fun _ b : Nat => b < n) (M := fun j : Nat => Val.int (j : Int)) (List.range n) [] ha pa fun j hj s hs => by
          have hj := List.mem_range.mp hj
          obtain ⟨b, h2, d2, p2, hb⟩ := drawH (k := k + 1) (m := n) hs (by omega) (by omega)
          exact ⟨[some s, some (.int (n : Int)), some (.int (r : Int)), some (.int (j : Int)), none], _, _, b, h2, rfl, (xCall (eaR rfl (eaN rfl eaNil)) (taR rfl rfl (taN rfl (by decreasing_trivial_pre_omega) taNil)) d2 (poR rfl rfl (poV poNil))), rfl, rfl, p2, hb⟩
        rw [List.length_range] at lb
        have q1 : q18_1 (callN Pr (k + 2)) [some ha, some (.int (n : Int)), some (.int (r : Int)), none, none] = .ok (.val (.lst true (nv bs))) [some hb, some (.int (n : Int)), some (.int (r : Int)), none, none] := by
          unfold q18_1
          refine xLC (e2 := [some ha, some (.int (n : Int)), some (.int (r : Int)), none, none]) (e3 := [some hb, some (.int (n : Int)), some (.int (r : Int)), none, none]) (iRngN (exN rfl) (by omega)) rfl ?_ rfl
          rw [rngM]
          exact g1
        have bl : ∀ b ∈ bs, b < n := fun b hb => by
          obtain ⟨i, hi, rfl⟩ := List.mem_iff_getElem.mp hb
          exact gb i i bs[i] (by rw [List.getElem?_range (by omega)]) (List.getElem?_eq_getElem hi)
        refine ⟨bs, hb, ?_, pb, ⟨by omega, by omega, fun w hw => by have := bl w hw; omega⟩, lb⟩
        show runDef f_18 _ _ = _
        apply runX (m := 3) rfl; simp only [show ∀ (c : Call) (e : En), f_18.body c e = sSeq (l_18 c [0]) e from fun _ _ => rfl, l18, List.map_cons, List.map_nil, List.replicate, List.cons_append, List.nil_append]
        · exact sqC (xAsg (xCall (eaR rfl (eaV xV eaNil)) (taR rfl rfl (taV taNil)) d1 (poR rfl rfl (poV poNil))) (asN rfl rfl rfl)) (qkN (sqC (xsIf (tBx (exV (x2N rfl (exV xV) rfl lt4))) (skF' (decide_eq_false c1) sqN)) (qkN (sqC (xsIf (tBx (exV (x2N rfl (exV xV) rfl e4))) (skF' (decide_eq_false c4) sqN)) (qkN (sqC (xsIf (tBx (exV (x2N rfl (exV xV) rfl e5))) (skF' (decide_eq_false c5) sqN)) (qkN (sqC (xRet (xB (csV q1 csNil) (gsV gsNil) (tupN bs))) qkR))))))))
        · exact rkR rfl
/-! ### bent -/
def oddL (n r : Nat) : List Val := [.int (n : Int), .int (-1), .bl true, .bl false, .non, .str (Str.ofString "0"), .tup [.int 0], .lst false [.int 0], .dic false [] [], .int 100000000000000000000, .int (r : Int)]
theorem pow20 : powV (.int 10) (.int 20) = some (.int 100000000000000000000) := by simp [powV]
theorem gnat {i : Nat} (h : i ≤ 1000) : Gd 50 1 (.int (i : Int)) := (Gd.int (by simp; omega)).up (by omega) (by omega)
theorem gdOdd {n r : Nat} (hn : n ≤ 100) (hr : r ≤ 100) : GdL 50 1 (oddL n r) := GdL.cons (gnat (by omega)) (GdL.cons (Gd.lit (by decide +kernel)) (GdL.cons (Gd.lit (by decide +kernel)) (GdL.cons (Gd.lit (by decide +kernel)) (GdL.cons (Gd.lit (by decide +kernel)) (GdL.cons (Gd.lit (by decide +kernel)) (GdL.cons (Gd.lit (by decide +kernel)) (GdL.cons (Gd.lit (by decide +kernel)) (GdL.cons (Gd.lit (by decide +kernel)) (GdL.cons (Gd.lit (by decide +kernel)) (GdL.cons (gnat (by omega)) GdL.nil))))))))))
theorem gNv {L : List Nat} (h : ∀ x ∈ L, x ≤ 1000) : GdL 50 1 (nv L) := fun y hy => by
  obtain ⟨j, hj, rfl⟩ := List.mem_map.mp hy
  exact gnat (h j hj)
theorem rowG {zs : List Val} (g : GdL 50 1 zs) (h : zs.length ≤ 62) : Gd 4000 40 (.tup zs) := (Gd.tup (N := 3227) (m := 62) g h (by omega)).up (by omega) (by omega)
theorem rowL {zs : List Val} (g : GdL 50 1 zs) (h : zs.length ≤ 62) : Gd 4000 40 (.lst false zs) := (Gd.lst (N := 3227) (m := 62) g h (by omega)).up (by omega) (by omega)
theorem tenZ {m : Nat} (hm : m ≤ 62) {c : Int} (hc : c = m) : ∃ zs, mulW (.tup [.int 0]) (.int c) = some (.tup zs) ∧ Gd 4000 40 (.tup zs) := by
  refine ⟨rep [.int 0] m, ?_, rowG ?_ ?_⟩
  · subst hc
    have e : mulW (.tup [.int 0]) (.int (m : Int)) = (if isFzL [.int 0] && decide ((m : Int) ≤ 1000 ∧ [Val.int 0].length ≤ 1000 ∧ -1000 ≤ (m : Int)) then some (Val.tup (rep [.int 0] (m : Int).toNat)) else none) := by unfold mulW mulG; with_reducible rfl
    rw [e, show isFzL [.int 0] = true from rfl, decide_eq_true ⟨by omega, by simp, by omega⟩, Int.toNat_natCast]
    rfl
  · rw [intsV_rep]
    intro y hy
    obtain ⟨z, rfl, hz⟩ := intsV_mem hy
    rw [List.eq_of_mem_replicate hz]
    exact Gd.lit (by decide +kernel)
  · rw [intsV_rep, intsV_len, List.length_replicate]
    exact hm
theorem l24 (call : Call) : l_24 call [0] = [(sPar [0] 2 3 (cCall call 14 [.r 0, .v (cB lenV [(cN 1)])]) (cB lenV [(cN 1)])), (sAsg [0] (.n 4) (cCall call 15 [.r 0, .v (cLst [(cN 3), (c1 negV (cV (.int (1)))), (cV (.bl true)), (cV (.bl false)), (cV .non), (cV (.str (Str.ofString "0"))), (cTup [(cV (.int (0)))]), (cLst [(cV (.int (0)))]), (cV (.dic true [] [])), (c2 powV (cV (.int (10))) (cV (.int (20)))), (cCall call 14 [.r 0, .v (cN 3)])])])), (sAsg [0] (.n 5) (c2 addV (c2 addV (cB (slV false true) [(cN 1), (cN 2)]) (cTup [(cN 4)])) (cB (slV true false) [(cN 1), (c2 addV (cN 2) (cV (.int (1))))]))), (sAsg [0] (.n 6) (cLst [(cN 5), (cN 5), (cN 5), (cN 5), (cB listV [(cN 1)]), (cTup []), (cV .non), (cV (.int (0))), (cV (.str (Str.ofString ""))), (cV (.dic true [] [])), (cTup [(cN 1)]), (cLst []), (c2 mulW (cTup [(cV (.int (0)))]) (cV (.int (61)))), (c2 addV (cN 1) (cTup [(c2 addV (cN 3) (cV (.int (1))))]))])), (sRet [0] (cCall call 15 [.r 0, .v (c2 addV (cN 6) (cLst [(c2 addV (cB (slV false true) [(cN 1), (cN 2)]) (cB (slV true false) [(cN 1), (c2 addV (cN 2) (cV (.int (1))))])), (cCall call 23 [.r 0]), (c2 mulW (cTup [(cV (.int (0)))]) (cV (.int (60))))]))]))] := rfl
theorem c_bent {h : Val} (hh : HandV h) (H : Ws ws) : ∃ (X h' : Val), callN Pr (k + 4) 24 [h, .tup (nv ws)] = .ok X [(0, h')] ∧ HandV h' ∧ Gd 4000 40 X := by
  have hp := H.p
  have hl := H.l
  have fx := nv_fz ws
  have gx : GdL 50 1 (nv ws) := gNv fun x hx => by have := H.lt x hx; omega
  have lx : (nv ws).length = ws.length := nv_len ws
  obtain ⟨a, h1, d1, p1, ha⟩ := drawH (k := k + 2) (m := ws.length) hh (by omega) (by omega)
  obtain ⟨r, h2, d2, p2, hr⟩ := drawH (k := k + 2) (m := ws.length) p1 (by omega) (by omega)
  have gO := gdOdd (n := ws.length) (r := r) (by omega) (by omega)
  obtain ⟨o, h3, d3, p3, ho⟩ := anyL (k := k + 1) (o := true) (xs := oddL ws.length r) p2 gO.fz (by simp [oddL]) (by simp [oddL])
  have go := gO o ho
  have zo := fz_of go.z
  have up : addV (.int (a : Int)) (.int 1) = some (.int ((a + 1 : Nat) : Int)) := add1
  have sa := slT_hi (xs := nv ws) (j := a) fx (by omega)
  have sc := slT_any (xs := nv ws) (j := a + 1) fx
  have ft : isFzL ((nv ws).take a) = true := isFzL_take a fx
  have fd : isFzL ((nv ws).drop (a + 1)) = true := isFzL_drop (a + 1) fx
  have lt : ((nv ws).take a).length = a := by simp; omega
  have ld : ((nv ws).drop (a + 1)).length = ws.length - (a + 1) := by simp [lx]
  have f1 : isFzL [o] = true := by simp [isFzL, go.z]
  have A1 := addT (xs := (nv ws).take a) (ys := [o]) ft f1 (by rw [lt]; simp; omega)
  have A2 := addT (xs := (nv ws).take a ++ [o]) (ys := (nv ws).drop (a + 1)) (isFzL_app ft f1) fd (by simp [lt]; omega)
  have A3 := addT (xs := nv ws) (ys := [.int ((ws.length : Int) + 1)]) fx rfl (by simp; omega)
  have A4 := addT (xs := (nv ws).take a) (ys := (nv ws).drop (a + 1)) ft fd (by simp [lt]; omega)
  have ls : listV [.tup (nv ws)] = some (.lst true (nv ws)) := by simp [listV, fx]
  obtain ⟨z1, m1, gz1⟩ := tenZ (m := 61) (c := 61) (by omega) (by omega)
  obtain ⟨z2, m2, gz2⟩ := tenZ (m := 60) (c := 60) (by omega) (by omega)
  have gt := mem_take (j := a) gx
  have gd := mem_drop (j := a + 1) gx
  have g1 : Gd 4000 40 (.tup ((nv ws).take a ++ [o] ++ (nv ws).drop (a + 1))) := rowG ((gt.app (GdL.nil.cons go)).app gd) (by simp [lt]; omega)
  have g3 : Gd 4000 40 (.tup (nv ws ++ [.int ((ws.length : Int) + 1)])) := rowG (gx.app (GdL.nil.cons (gnat (i := ws.length + 1) (by omega)))) (by simp [lx]; omega)
  have g4 : Gd 4000 40 (.tup ((nv ws).take a ++ (nv ws).drop (a + 1))) := rowG (gt.app gd) (by simp [lt]; omega)
  have gw : Gd 4000 40 (.tup (nv ws)) := rowG gx (by omega)
  have gww : Gd 4000 40 (.tup [.tup (nv ws)]) := (Gd.tup (n := 3227) (d := 2) (N := 3232) (m := 1) (GdL.nil.cons (Gd.tup (n := 50) (d := 1) (m := 62) gx (by omega) (by omega))) (by simp) (by omega)).up (by omega) (by omega)
  have gS : GdL 4000 40 [.tup ((nv ws).take a ++ [o] ++ (nv ws).drop (a + 1)), .tup ((nv ws).take a ++ [o] ++ (nv ws).drop (a + 1)), .tup ((nv ws).take a ++ [o] ++ (nv ws).drop (a + 1)), .tup ((nv ws).take a ++ [o] ++ (nv ws).drop (a + 1)), .lst false (nv ws), .tup [], .non, .int 0, .str (Str.ofString ""), .dic false [] [], .tup [.tup (nv ws)], .lst false [], .tup z1, .tup (nv ws ++ [.int ((ws.length : Int) + 1)])] :=
    GdL.cons g1 (GdL.cons g1 (GdL.cons g1 (GdL.cons g1 (GdL.cons (rowL gx (by omega)) (GdL.cons (Gd.lit (by decide +kernel)) (GdL.cons (Gd.lit (by decide +kernel)) (GdL.cons (Gd.lit (by decide +kernel)) (GdL.cons (Gd.lit (by decide +kernel)) (GdL.cons (Gd.lit (by decide +kernel)) (GdL.cons gww (GdL.cons (Gd.lit (by decide +kernel)) (GdL.cons gz1 (GdL.cons g3 GdL.nil)))))))))))))
  obtain ⟨D, h4, d4, p4, gD⟩ := c_deep (k := k) p3
  have gT : GdL 4000 40 [.tup ((nv ws).take a ++ (nv ws).drop (a + 1)), D, .tup z2] := GdL.cons g4 (GdL.cons (gD.up (by omega) (by omega)) (GdL.cons gz2 GdL.nil))
  have gA := gS.app gT
  obtain ⟨X, h5, d5, p5, hX⟩ := anyL (k := k + 1) (o := true) p4 gA.fz (by simp) (by simp)
  have A5 := addL gS.fz gT.fz (by simp)
  refine ⟨X, h5, ?_, p5, gA X hX⟩
  have lw : lenV [.tup (nv ws)] = some (.int (ws.length : Int)) := lenN
  show runDef f_24 _ _ = _
  apply runX (m := 5) rfl; simp only [show ∀ (c : Call) (e : En), f_24.body c e = sSeq (l_24 c [0]) e from fun _ _ => rfl, l24, List.map_cons, List.map_nil, List.replicate, List.cons_append, List.nil_append]
  · exact sqC (xPar (csV (xCall (eaR rfl (eaV (xB (csN rfl csNil) (gsN rfl gsNil) lw) eaNil)) (taR rfl rfl (taV taNil)) d1 (poR rfl rfl (poV poNil))) (csV (xB (csN rfl csNil) (gsN rfl gsNil) lw) csNil)) (tkV (tkV tkNil)) rfl rfl rfl rfl) (qkN (sqC (xAsg (xCall (eaR rfl (eaV (xLst (csN rfl (csV (VI.x1 (exV xV) rfl) (csV xV (csV xV (csV xV (csV xV (csV (xTup (csV xV csNil) (tfV rfl tfNil)) (csV (xLst (csV xV csNil) (tfV rfl tfNil)) (csV xV (csV (x2V xV (exV xV) pow20) (csV (xCall (eaR rfl (eaN rfl eaNil)) (taR rfl rfl (taN rfl (by decreasing_trivial_pre_omega) taNil)) d2 (poR rfl rfl (poV poNil))) csNil))))))))))) (tfN rfl (by decreasing_trivial_pre_omega) (tfV rfl (tfV rfl (tfV rfl (tfV rfl (tfV rfl (tfV rfl (tfV rfl (tfV rfl (tfV rfl (tfV rfl tfNil)))))))))))) eaNil)) (taR rfl rfl (taV taNil)) d3 (poR rfl rfl (poV poNil))) (asN rfl rfl rfl)) (qkN (sqC (xAsg (x2V (x2V (xB (csN rfl (csN rfl csNil)) (gsN rfl (gsN rfl gsNil)) sa) (exV (xTup (csN rfl csNil) (tfN rfl zo tfNil))) A1) (exV (xB (csN rfl (csV (x2N rfl (exV xV) rfl up) csNil)) (gsN rfl (gsV gsNil)) sc)) A2) (asN rfl rfl rfl)) (qkN (sqC (xAsg (xLst (csN rfl (csN rfl (csN rfl (csN rfl (csV (xB (csN rfl csNil) (gsN rfl gsNil) ls) (csV (xTup csNil tfNil) (csV xV (csV xV (csV xV (csV xV (csV (xTup (csN rfl csNil) (tfN rfl (zT ws) tfNil)) (csV (xLst csNil tfNil) (csV (x2V (xTup (csV xV csNil) (tfV rfl tfNil)) (exV xV) m1) (csV (x2N rfl (exV (xTup (csV (x2N rfl (exV xV) rfl rfl) csNil) (tfV rfl tfNil))) rfl A3) csNil)))))))))))))) (tfN rfl (fz_of g1.z) (tfN rfl (fz_of g1.z) (tfN rfl (fz_of g1.z) (tfN rfl (fz_of g1.z) (tfV (zL ws) (tfV rfl (tfV rfl (tfV rfl (tfV rfl (tfV rfl (tfV (fz_of gww.z) (tfV rfl (tfV (fz_of gz1.z) (tfV (fz_of g3.z) tfNil))))))))))))))) (asN rfl rfl rfl)) (qkN (sqC (xRet (xCall (eaR rfl (eaV (x2N rfl (exV (xLst (csV (x2V (xB (csN rfl (csN rfl csNil)) (gsN rfl (gsN rfl gsNil)) sa) (exV (xB (csN rfl (csV (x2N rfl (exV xV) rfl up) csNil)) (gsN rfl (gsV gsNil)) sc)) A4) (csV (xCall (eaR rfl eaNil) (taR rfl rfl taNil) d4 (poR rfl rfl poNil)) (csV (x2V (xTup (csV xV csNil) (tfV rfl tfNil)) (exV xV) m2) csNil))) (tfV (fz_of g4.z) (tfV (fz_of gD.z) (tfV (fz_of gz2.z) tfNil))))) rfl A5) eaNil)) (taR rfl rfl (taV taNil)) d5 (poR rfl rfl (poV poNil)))) qkR))))))))
  · exact rkR rfl
end LK
set_option Elab.async false
set_option linter.all false
set_option maxRecDepth 100000
set_option maxHeartbeats 1600000
namespace LK
open VI PySem
local macro_rules | `(tactic| decreasing_trivial_pre_omega) => `(tactic| first
  | with_reducible assumption
  | (show (_ : Option Val) = _
     first
       | with_reducible exact eqG_int
       | with_reducible exact neD_int
       | with_reducible exact eqG_bl
       | with_reducible exact neD_bl
       | with_reducible exact lenG_lst
       | with_reducible exact lenG_any
       | exact (rfl : (_ : Option Val) = some _))
  | (show (_ : Res OV) = _
     first
       | with_reducible exact xV
       | ((with_reducible apply x1) <;> decreasing_trivial_pre_omega)
       | ((with_reducible apply x2N) <;> decreasing_trivial_pre_omega)
       | ((with_reducible apply x2V) <;> decreasing_trivial_pre_omega)
       | ((with_reducible apply xB) <;> decreasing_trivial_pre_omega)
       | ((with_reducible apply xCall) <;> decreasing_trivial_pre_omega)
       | ((with_reducible apply xTup) <;> decreasing_trivial_pre_omega)
       | ((with_reducible apply xLst) <;> decreasing_trivial_pre_omega)
       | ((with_reducible apply xIf) <;> decreasing_trivial_pre_omega)
       | ((with_reducible apply xAnd) <;> decreasing_trivial_pre_omega)
       | ((with_reducible apply xOr) <;> decreasing_trivial_pre_omega)
       | ((with_reducible apply xCh) <;> decreasing_trivial_pre_omega)
       | ((with_reducible apply xMake) <;> decreasing_trivial_pre_omega)
       | ((with_reducible apply xTupO) <;> decreasing_trivial_pre_omega)
       | ((with_reducible apply xLstO) <;> decreasing_trivial_pre_omega)
       | ((with_reducible apply xMGt) <;> decreasing_trivial_pre_omega)
       | ((with_reducible apply xPopAt) <;> decreasing_trivial_pre_omega)
       | ((with_reducible apply xPop) <;> decreasing_trivial_pre_omega)
       | ((with_reducible apply xMGl) <;> decreasing_trivial_pre_omega))
  | (show (_ : Res (List OV)) = _
     first
       | with_reducible exact csNil
       | ((with_reducible apply csN) <;> decreasing_trivial_pre_omega)
       | ((with_reducible apply csV) <;> decreasing_trivial_pre_omega))
  | (show (_ : Res (List AV)) = _
     first
       | with_reducible exact eaNil
       | ((with_reducible apply eaN) <;> decreasing_trivial_pre_omega)
       | ((with_reducible apply eaV) <;> decreasing_trivial_pre_omega)
       | ((with_reducible apply eaR) <;> decreasing_trivial_pre_omega))
  | (show (_ : Option (List Val × En)) = _
     first
       | with_reducible exact tfNil
       | with_reducible exact tkNil
       | with_reducible exact taNil
       | ((with_reducible apply tfV) <;> decreasing_trivial_pre_omega)
       | ((with_reducible apply tfN) <;> decreasing_trivial_pre_omega)
       | ((with_reducible apply tfNl) <;> decreasing_trivial_pre_omega)
       | ((with_reducible apply tkV) <;> decreasing_trivial_pre_omega)
       | ((with_reducible apply tkN) <;> decreasing_trivial_pre_omega)
       | ((with_reducible apply tkNl) <;> decreasing_trivial_pre_omega)
       | ((with_reducible apply taV) <;> decreasing_trivial_pre_omega)
       | ((with_reducible apply taN) <;> decreasing_trivial_pre_omega)
       | ((with_reducible apply taNl) <;> decreasing_trivial_pre_omega)
       | ((with_reducible apply taR) <;> decreasing_trivial_pre_omega))
  | (show (_ : Option (List Val)) = _
     first
       | with_reducible exact gsNil
       | ((with_reducible apply gsN) <;> decreasing_trivial_pre_omega)
       | ((with_reducible apply gsV) <;> decreasing_trivial_pre_omega)
       | exact (rfl : (_ : Option (List Val)) = some _))
  | (show (_ : Option En) = _
     first
       | with_reducible exact poNil
       | ((with_reducible apply poV) <;> decreasing_trivial_pre_omega)
       | ((with_reducible apply poR) <;> decreasing_trivial_pre_omega)
       | ((with_reducible apply asN) <;> decreasing_trivial_pre_omega)
       | ((with_reducible apply asT) <;> decreasing_trivial_pre_omega)
       | with_reducible exact asLn
       | ((with_reducible apply asLc) <;> decreasing_trivial_pre_omega))
  | (show (_ : En) = _
     first
       | with_reducible exact setL0
       | ((with_reducible apply setLS) <;> decreasing_trivial_pre_omega))
  | (show (_ : SRes) = _
     first
       | with_reducible exact sqN
       | ((with_reducible apply sqC) <;> decreasing_trivial_pre_omega)
       | ((with_reducible apply xAsgN) <;> decreasing_trivial_pre_omega)
       | ((with_reducible apply xAsg) <;> decreasing_trivial_pre_omega)
       | ((with_reducible apply xPar3) <;> decreasing_trivial_pre_omega)
       | ((with_reducible apply xPar) <;> decreasing_trivial_pre_omega)
       | ((with_reducible apply xRetN) <;> decreasing_trivial_pre_omega)
       | ((with_reducible apply xRet) <;> decreasing_trivial_pre_omega)
       | ((with_reducible apply xExp) <;> decreasing_trivial_pre_omega)
       | ((with_reducible apply xsIf) <;> decreasing_trivial_pre_omega)
       | ((with_reducible apply xAppN) <;> decreasing_trivial_pre_omega)
       | ((with_reducible apply xApp) <;> decreasing_trivial_pre_omega)
       | with_reducible exact xRaise0)
  | (show (_ : Res Bool) = _
     first
       | ((with_reducible apply tBx) <;> decreasing_trivial_pre_omega)
       | ((with_reducible apply tNotx) <;> decreasing_trivial_pre_omega)
       | ((with_reducible apply tAndx) <;> decreasing_trivial_pre_omega)
       | ((with_reducible apply tOrx) <;> decreasing_trivial_pre_omega))
  | (show (_ : Res (List Val)) = _
     first
       | ((with_reducible apply iSeqG) <;> decreasing_trivial_pre_omega)
       | ((with_reducible apply iEnuG) <;> decreasing_trivial_pre_omega)
       | ((with_reducible apply iZipG) <;> decreasing_trivial_pre_omega)
       | ((with_reducible apply iRngN) <;> decreasing_trivial_pre_omega))
  | (show (_ : Val) = _
     first
       | with_reducible exact fzi _
       | with_reducible exact fzb _
       | with_reducible exact fzn
       | with_reducible exact fzs _
       | with_reducible exact zti _
       | exact fz_of rfl
       | exact (rfl : Val.int _ = Val.int _)
       | exact (rfl : Val.tup _ = Val.tup _)
       | exact (rfl : Val.lst _ _ = Val.lst _ _))
  | (show (_ : Bool) = _
     first
       | exact (rfl : (_ : Bool) = true)
       | exact (rfl : (_ : Bool) = false)
       | exact decide_eq_true (by omega)
       | exact decide_eq_false (by omega)
       | exact beq_eq_false_iff_ne.mpr (by omega)
       | exact beq_iff_eq.mpr (by omega)
       | rfl)
  | ((with_reducible apply exN) <;> decreasing_trivial_pre_omega)
  | ((with_reducible apply exV) <;> decreasing_trivial_pre_omega)
  | ((with_reducible apply qkN) <;> decreasing_trivial_pre_omega)
  | with_reducible exact qkR
  | with_reducible exact qkX
  | with_reducible exact qkC
  | with_reducible exact qkB
  | ((with_reducible apply tkT) <;> decreasing_trivial_pre_omega)
  | ((with_reducible apply tkF) <;> decreasing_trivial_pre_omega)
  | ((with_reducible apply tkT') <;> decreasing_trivial_pre_omega)
  | ((with_reducible apply tkF') <;> decreasing_trivial_pre_omega)
  | ((with_reducible apply tkA) <;> decreasing_trivial_pre_omega)
  | ((with_reducible apply tkO) <;> decreasing_trivial_pre_omega)
  | ((with_reducible apply vkT) <;> decreasing_trivial_pre_omega)
  | ((with_reducible apply vkF) <;> decreasing_trivial_pre_omega)
  | ((with_reducible apply vkT') <;> decreasing_trivial_pre_omega)
  | ((with_reducible apply vkF') <;> decreasing_trivial_pre_omega)
  | ((with_reducible apply vkA) <;> decreasing_trivial_pre_omega)
  | ((with_reducible apply vkO) <;> decreasing_trivial_pre_omega)
  | ((with_reducible apply vkS) <;> decreasing_trivial_pre_omega)
  | ((with_reducible apply skT) <;> decreasing_trivial_pre_omega)
  | ((with_reducible apply skF) <;> decreasing_trivial_pre_omega)
  | ((with_reducible apply skT') <;> decreasing_trivial_pre_omega)
  | ((with_reducible apply skF') <;> decreasing_trivial_pre_omega)
  | ((with_reducible apply rkR) <;> decreasing_trivial_pre_omega)
  | ((with_reducible apply rkR') <;> decreasing_trivial_pre_omega)
  | ((with_reducible apply rkN) <;> decreasing_trivial_pre_omega)
  | ((with_reducible apply rkX) <;> decreasing_trivial_pre_omega)
  | (show (_ : Option (List (Nat × Val))) = _
     first
       | with_reducible exact oN
       | ((with_reducible apply oC) <;> decreasing_trivial_pre_omega)
       | exact (rfl : (_ : Option (List (Nat × Val))) = some _))
  | (show (_ : Nat) < _; first | assumption | omega | (simp [most]; done))
  | exact (rfl : (_ : Option _) = some _))

variable {k : Nat} {X : Val} {ws : List Nat} {n w s : Nat} {ex : Exc}
/-! R10: all is told right; what is judged -/
theorem insI_comm (x y : Int) : ∀ l : List Int, insI x (insI y l) = insI y (insI x l)
  | [] => by
    rcases Int.lt_trichotomy x y with h | h | h
    · simp only [insI, if_pos (show x ≤ y by omega), if_neg (show ¬ y ≤ x by omega)]
    · rw [h]
    · simp only [insI, if_neg (show ¬ x ≤ y by omega), if_pos (show y ≤ x by omega)]
  | z :: l => by
    have ih := insI_comm x y l
    by_cases h1 : x ≤ z <;> by_cases h2 : y ≤ z
    · rcases Int.lt_trichotomy x y with h | h | h
      · simp only [insI, h1, h2, if_true, if_pos (show x ≤ y by omega), if_neg (show ¬ y ≤ x by omega)]
      · rw [h]
      · simp only [insI, h1, h2, if_true, if_neg (show ¬ x ≤ y by omega), if_pos (show y ≤ x by omega)]
    · simp only [insI, h1, h2, if_true, if_false, if_neg (show ¬ y ≤ x by omega)]
    · simp only [insI, h1, h2, if_true, if_false, if_neg (show ¬ x ≤ y by omega)]
    · simp only [insI, h1, h2, if_false, ih]
theorem sortI_perm {a b : List Int} (p : a.Perm b) : sortI a = sortI b := by
  induction p with
  | nil => rfl
  | cons x _ ih => simp only [sortI, ih]
  | swap x y l => simp only [sortI]; exact insI_comm _ _ _
  | trans _ _ h1 h2 => exact h1.trans h2
theorem neD_li {o p : Bool} {a b : List Int} : neD (.lst o (intsV a)) (.lst p (intsV b)) = some (.bl (!(a == b))) := by
  simp [neD, isD, depthV, okV, depthVs_ints, okVs_ints, eqV0, eqVs_ints]
theorem srtL (L : List Nat) : sortedG [.lst true (nv L)] = some (.lst true (intsV (sortI (ni L)))) := by
  rw [nv_ints]
  show (toInts _).map (fun ns => Val.lst true (intsV (sortI ns))) = _
  rw [toInts_ints]
  rfl
theorem inL_ov {n : Nat} : ∀ ss : List Nat, inL .non (ovL n ss) = ss.any fun s => !decide (s < n)
  | [] => rfl
  | s :: ss => by
    show (eqV0 (ov n s) .non || inL .non (ovL n ss)) = _
    rw [inL_ov ss, List.any_cons]
    congr 1
    unfold ov
    split
    · rename_i h; rw [decide_eq_true h]; rfl
    · rename_i h; rw [decide_eq_false h]; rfl
theorem flat_ov {n : Nat} : ∀ ss : List Nat, (ovL n ss).all flatB = true
  | [] => rfl
  | s :: ss => by
    show (flatB (ov n s) && (ovL n ss).all flatB) = true
    rw [flat_ov ss, Bool.and_true]
    unfold ov
    split <;> rfl
theorem notIn_ov : notInG .non (.tup (ovL ws.length (sp ws))) = some (.bl (allP ws)) := by
  show (if flatB .non && (ovL ws.length (sp ws)).all flatB then some (Val.bl (!inL .non (ovL ws.length (sp ws)))) else none) = _
  rw [flat_ov, inL_ov]
  show some (Val.bl (!(sp ws).any fun s => !decide (s < ws.length))) = _
  rw [List.not_any_eq_all_not]
  simp only [Bool.not_not]
  rfl
theorem zsh : fz (shV ws) = shV ws := by unfold shV; split <;> rfl
theorem sh_flat : shV ws = .non ∨ (∃ b, shV ws = .bl b) ∨ ∃ i, shV ws = .int i := by
  unfold shV
  split
  · exact .inr (.inr ⟨_, rfl⟩)
  · exact .inl rfl
theorem isV_sh : isV (shV ws) .non = some (.bl (allP ws)) := by
  rw [← sh_all]
  unfold shV
  cases shO ws <;> rfl
theorem sm_bl {b : Bool} : callN Pr (k + 1) 17 [.bl b, .bl b] = .ok (.bl true) [] := sm_flat (.inr (.inl ⟨_, rfl⟩))
theorem sm_int {b : Int} : callN Pr (k + 1) 17 [.int b, .int b] = .ok (.bl true) [] := sm_flat (.inr (.inr ⟨_, rfl⟩))
theorem sm_ints {b : List Int} : callN Pr (k + 2) 17 [.tup (intsV b), .tup (intsV b)] = .ok (.bl true) [] := sm_tup (intsV_fzL b) fun v hv => by
  obtain ⟨z, rfl, _⟩ := intsV_mem hv
  exact sm_int
theorem sm_ovL {n : Nat} {L : List Nat} : callN Pr (k + 2) 17 [.tup (ovL n L), .tup (ovL n L)] = .ok (.bl true) [] := sm_tup (ovL_fzL n L) fun v hv => by
  obtain ⟨z, _, rfl⟩ := List.mem_map.mp hv
  exact sm_flat (ov_flat n z)
def toldL (ws : List Nat) : List Val := [.tup (ovL ws.length (sp ws)), .bl (allP ws), shV ws, ascV ws, .bl true]
theorem told_fzL : fzL (toldL ws) = toldL ws := by
  simp only [toldL, fzL, fzt, ovL_fzL, fzb, zsh, ascV, intsV_fzL]
theorem told_fz : fz (.lst true (toldL ws)) = .lst false (toldL ws) := by rw [fz, told_fzL]
theorem sm_told : callN Pr (k + 3) 17 [.lst false (toldL ws), .lst true (toldL ws)] = .ok (.bl true) [] := sm_lst told_fzL fun v hv => by
  simp only [toldL, List.mem_cons, List.not_mem_nil, or_false] at hv
  rcases hv with rfl | rfl | rfl | rfl | rfl
  · exact sm_ovL
  · exact sm_bl
  · exact sm_flat sh_flat
  · exact sm_ints
  · exact sm_bl
theorem x_park (hz : fz X = X) (h : callN Pr (k + 4) 3 [X] = .exc ex []) : callN Pr (k + 5) 5 [X] = .exc ex [] := by
  show runDef f_5 _ _ = _
  apply runX (m := 0) rfl; simp only [show ∀ (c : Call) (e : En), f_5.body c e = sSeq (l_5 c []) e from fun _ _ => rfl, l_5, List.map_cons, List.map_nil, List.replicate, List.cons_append, List.nil_append]
  · exact sqC (xExpX (xCallX (eaN rfl eaNil) (taN rfl hz taNil) h (poV poNil))) qkX
  · exact rkX rfl
theorem x_short (hz : fz X = X) (h : callN Pr (k + 4) 3 [X] = .exc ex []) : callN Pr (k + 5) 9 [X] = .exc ex [] := by
  show runDef f_9 _ _ = _
  apply runX (m := 2) rfl; simp only [show ∀ (c : Call) (e : En), f_9.body c e = sSeq (l_9 c []) e from fun _ _ => rfl, l_9, List.map_cons, List.map_nil, List.replicate, List.cons_append, List.nil_append]
  · exact sqC (xExpX (xCallX (eaN rfl eaNil) (taN rfl hz taNil) h (poV poNil))) qkX
  · exact rkX rfl
theorem x_lucky (hz : fz X = X) (h : callN Pr (k + 4) 3 [X] = .exc ex []) : callN Pr (k + 5) 11 [X] = .exc ex [] := by
  show runDef f_11 _ _ = _
  apply runX (m := 2) rfl; simp only [show ∀ (c : Call) (e : En), f_11.body c e = sSeq (l_11 c []) e from fun _ _ => rfl, l11, List.map_cons, List.map_nil, List.replicate, List.cons_append, List.nil_append]
  · exact sqC (xExpX (xCallX (eaN rfl eaNil) (taN rfl hz taNil) h (poV poNil))) qkX
  · exact rkX rfl
theorem x_asc (hz : fz X = X) (h : callN Pr (k + 4) 3 [X] = .exc ex []) : callN Pr (k + 5) 12 [X] = .exc ex [] := by
  show runDef f_12 _ _ = _
  apply runX (m := 0) rfl; simp only [show ∀ (c : Call) (e : En), f_12.body c e = sSeq (l_12 c []) e from fun _ _ => rfl, l_12, List.map_cons, List.map_nil, List.replicate, List.cons_append, List.nil_append]
  · exact sqC (xExpX (xCallX (eaN rfl eaNil) (taN rfl hz taNil) h (poV poNil))) qkX
  · exact rkX rfl
theorem x_driven (hz : fz X = X) (h : callN Pr (k + 5) 8 [X] = .exc ex []) : callN Pr (k + 6) 10 [X] = .exc ex [] := by
  show runDef f_10 _ _ = _
  apply runX (m := 2) rfl; simp only [show ∀ (c : Call) (e : En), f_10.body c e = sSeq (l_10 c []) e from fun _ _ => rfl, l10, List.map_cons, List.map_nil, List.replicate, List.cons_append, List.nil_append]
  · exact sqC (xExpX (xCallX (eaN rfl eaNil) (taN rfl hz taNil) h (poV poNil))) qkX
  · exact rkX rfl
theorem ws_perm {L : List Nat} (h : Ws ws) (p : L.Perm ws) : Ws L := ⟨by rw [p.length_eq]; exact h.p, by rw [p.length_eq]; exact h.l, fun w hw => by rw [p.length_eq]; exact h.lt w (p.mem_iff.mp hw)⟩
theorem eqD_str {s : Str} (h : okS s = true) : eqD (.str s) (.str s) = some (.bl true) := by simp [eqD, isD, depthV, okV, h, eqV0]
theorem neD_str {s : Str} (h : okS s = true) : neD (.str s) (.str s) = some (.bl false) := by simp [neD, isD, depthV, okV, h, eqV0]
theorem fil_ov {n : Nat} {L : List Nat} : (L.filter fun s => decide (s < n)).map (ov n) = nv (L.filter fun s => decide (s < n)) := by
  unfold nv
  refine List.map_congr_left fun s hs => ?_
  exact if_pos (of_decide_eq_true (List.mem_filter.mp hs).2)
theorem sumT (L : List Nat) : sumGV [.tup (nv L)] = some (.int (L.map fun s : Nat => (s : Int)).sum) := by
  rw [nv_ints]
  show (toInts _).map (fun ns => Val.int (sumL ns)) = _
  rw [toInts_ints, Option.map_some, sumL_eq]
def q25_0 (call : Call) : VI.C := (cLC (iEnu (cN 2)) (.t [(.n 8), (.n 9)]) (tB (c2 eqD (cN 9) (c2 subsV (cN 1) (cN 8)))) (cN 8) [8, 9])
def q25_1 (call : Call) : VI.C := (cLC (iSeq (cN 7)) (.n 9) (tB (c2 isNotV (cN 9) (cV .non))) (cN 9) [9])
def q25_2 (call : Call) : VI.C := (cLC (iSeq (cN 2)) (.n 9) (tB (c2 isNotV (cN 9) (cV .non))) (cN 9) [9])
theorem l25 (call : Call) : l_25 call [0] = [(sPar [0] 2 3 (cCall call 19 [.v (cN 1)]) (cB reprV [(cN 1)])), (sAsg [0] (.n 4) (c2 notInG (cV .non) (cN 2))), (sAsg [0] (.n 5) (cLst [(cCall call 5 [.v (cN 1)]), (cCall call 7 [.v (cN 1)]), (cCall call 9 [.v (cN 1)]), (cCall call 12 [.v (cN 1)]), (cCall call 2 [.v (cN 1)])])), (sIf (tNot (tB (cCall call 17 [.v (cN 5), .v (cLst [(cN 2), (cN 4), (cCall call 20 [.v (cN 1)]), (cB tupleG [(cB sortedG [(cN 1)])]), (cV (.bl true))])]))) (sSeq [(sRet [0] (cV (.bl false)))]) (sSeq [])), (sIf (tB (c2 neD (c2 isV (cCall call 9 [.v (cN 1)]) (cV .non)) (cN 4))) (sSeq [(sRet [0] (cV (.bl false)))]) (sSeq [])), (sIf (tNot (tB (cCall call 17 [.v (cCall call 11 [.v (cN 1)]), .v (cB tupleG [(q25_0 call)])]))) (sSeq [(sRet [0] (cV (.bl false)))]) (sSeq [])), (sIf (tB (cN 4)) (sSeq [(sIf (tNot (tB (cCall call 17 [.v (cCall call 10 [.v (cN 1)]), .v (c2 subV (cB sumGV [(cN 2)]) (cB sumGV [(cN 1)]))]))) (sSeq [(sRet [0] (cV (.bl false)))]) (sSeq []))]) (sSeq [(sIf (tNot (tB (cLam (h_22 call) (cCall call 10 [.v (cN 1)])))) (sSeq [(sRet [0] (cV (.bl false)))]) (sSeq []))])), (sAsg [0] (.n 6) (cB tupleG [(cCall call 16 [.r 0, .v (cB listV [(cN 1)])])])), (sAsg [0] (.n 7) (cCall call 5 [.v (cN 6)])), (sIf (tB (c2 neD (cB sortedG [(q25_1 call)]) (cB sortedG [(q25_2 call)]))) (sSeq [(sRet [0] (cV (.bl false)))]) (sSeq [])), (sIf (VI.tOr (tNot (tB (cCall call 17 [.v (cCall call 7 [.v (cN 6)]), .v (cN 4)]))) (VI.tAnd (tB (cN 4)) (tB (c2 neD (cCall call 10 [.v (cN 6)]) (cCall call 10 [.v (cN 1)]))))) (sSeq [(sRet [0] (cV (.bl false)))]) (sSeq [])), (sRet [0] (c2 eqD (cB reprV [(cN 1)]) (cN 3)))] := rfl
theorem c_is_right {h : Val} (hh : HandV h) (H : Ws ws) : ∃ h', callN Pr (k + 7) 25 [h, .tup (nv ws)] = .ok (.bl true) [(0, h')] ∧ HandV h' := by
  have hl := H.l
  have gX : Gd 4000 40 (.tup (nv ws)) := rowG (gNv fun x hx => by have := H.lt x hx; omega) (by rw [nv_len]; omega)
  obtain ⟨s, rp, os⟩ := gX.repr (by omega) (by omega)
  obtain ⟨L, h1, mx, p1, pL⟩ := mixed (k := k + 4) (F := fun j : Nat => Val.int (j : Int)) (fun _ => rfl) (o := true) (L := ws) hh (by omega)
  have HL := ws_perm H pL
  have aL : allP L = allP ws := allP_perm pL
  have lp := c_law_parked (k := k + 5) H
  have pk := c_park (k := k + 1) H
  have pk2 := c_park (k := k + 1) HL
  have ip := c_is_parking (k := k + 2) H
  have ip2 := c_is_parking (k := k + 2) HL
  have sh := c_short (k := k + 1) H
  have ac := c_asc (k := k + 1) H
  have iw := c_is_wishes (k := k + 3) (th_nv ws)
  have ls := c_lshort (k := k + 5) H
  have lk := c_lucky (k := k + 1) H
  have s1 := sm_told (k := k + 3) (ws := ws)
  have s2 : callN Pr (k + 6) 17 [.tup (nv (luk ws)), .tup (nv (luk ws))] = .ok (.bl true) [] := by rw [nv_ints]; exact sm_ints (k := k + 4)
  have s4 := sm_bl (k := k + 5) (b := allP ws)
  rw [wish_ws H] at iw
  rw [aL] at ip2
  rw [pL.length_eq] at pk2
  have nb : neD (.bl (allP ws)) (.bl (allP ws)) = some (.bl false) := by rw [neD_bl]; simp
  have lw : listV [.tup (nv ws)] = some (.lst true (nv ws)) := by simp [listV, nv_fz]
  have q0 : ∀ (h : Val) (t : Bool), q25_0 (callN Pr (k + 6)) [some h, some (.tup (nv ws)), some (.tup (ovL ws.length (sp ws))), some (.str s), some (.bl t), some (.lst false (toldL ws)), none, none, none, none] = .ok (.val (.lst true (nv (luk ws)))) [some h, some (.tup (nv ws)), some (.tup (ovL ws.length (sp ws))), some (.str s), some (.bl t), some (.lst false (toldL ws)), none, none, none, none] := fun h t => by
    unfold q25_0
    refine xLCs (iEnuG (csN rfl csNil) (tfN rfl (fzTup (ovL_fz ws.length (sp ws))) tfNil) rfl) ?_ rfl rfl
    have e0 : enum 0 (ovL ws.length (sp ws)) = (sp ws).zipIdx.map fun p => Val.tup [.int (p.2 : Int), ov ws.length p.1] := enumM0 (ov ws.length) (sp ws)
    rw [e0, ← luk_map]
    exact lcFN (F := fun p : Nat × Nat => Val.tup [.int (p.2 : Int), ov ws.length p.1]) (G := fun p : Nat × Nat => Val.int (p.2 : Int)) (p := fun p => decide (ws[p.2]? = some p.1)) (sp ws).zipIdx [] fun p hp => by
      obtain ⟨w, h1, h2⟩ := luk_q H hp
      exact ⟨[some h, some (.tup (nv ws)), some (.tup (ovL ws.length (sp ws))), some (.str s), some (.bl t), some (.lst false (toldL ws)), none, none, some (.int (p.2 : Int)), some (ov ws.length p.1)], _, rfl, (tBx (exV (x2N rfl (exV (x2N rfl (exN rfl) rfl h1)) rfl h2))), rfl, rfl, rfl⟩
  have nt : ∀ z : Nat, isNotV (ov ws.length z) .non = some (.bl (decide (z < ws.length))) := fun z => by
    unfold ov
    split
    · rename_i h; rw [decide_eq_true h]; rfl
    · rename_i h; rw [decide_eq_false h]; rfl
  have q1 : ∀ (h : Val) (t : Bool), q25_1 (callN Pr (k + 6)) [some h, some (.tup (nv ws)), some (.tup (ovL ws.length (sp ws))), some (.str s), some (.bl t), some (.lst false (toldL ws)), some (.tup (nv L)), some (.tup (ovL ws.length (sp L))), none, none] = .ok (.val (.lst true (nv ((sp L).filter fun s => decide (s < ws.length))))) [some h, some (.tup (nv ws)), some (.tup (ovL ws.length (sp ws))), some (.str s), some (.bl t), some (.lst false (toldL ws)), some (.tup (nv L)), some (.tup (ovL ws.length (sp L))), none, none] := fun h t => by
    unfold q25_1
    refine xLCs (iSeqN rfl (fzTup (ovL_fz ws.length (sp L))) rfl) ?_ rfl rfl
    rw [← fil_ov]
    exact lcFN (F := ov ws.length) (G := ov ws.length) (p := fun s => decide (s < ws.length)) (sp L) [] fun z hz =>
      ⟨[some h, some (.tup (nv ws)), some (.tup (ovL ws.length (sp ws))), some (.str s), some (.bl t), some (.lst false (toldL ws)), some (.tup (nv L)), some (.tup (ovL ws.length (sp L))), none, some (ov ws.length z)], _, rfl, (tBx (exV (x2N rfl (exV xV) rfl (nt z)))), rfl, fz_of (ov_fz _ _), rfl⟩
  have q2 : ∀ (h : Val) (t : Bool), q25_2 (callN Pr (k + 6)) [some h, some (.tup (nv ws)), some (.tup (ovL ws.length (sp ws))), some (.str s), some (.bl t), some (.lst false (toldL ws)), some (.tup (nv L)), some (.tup (ovL ws.length (sp L))), none, none] = .ok (.val (.lst true (nv ((sp ws).filter fun s => decide (s < ws.length))))) [some h, some (.tup (nv ws)), some (.tup (ovL ws.length (sp ws))), some (.str s), some (.bl t), some (.lst false (toldL ws)), some (.tup (nv L)), some (.tup (ovL ws.length (sp L))), none, none] := fun h t => by
    unfold q25_2
    refine xLCs (iSeqN rfl (fzTup (ovL_fz ws.length (sp ws))) rfl) ?_ rfl rfl
    rw [← fil_ov]
    exact lcFN (F := ov ws.length) (G := ov ws.length) (p := fun s => decide (s < ws.length)) (sp ws) [] fun z hz =>
      ⟨[some h, some (.tup (nv ws)), some (.tup (ovL ws.length (sp ws))), some (.str s), some (.bl t), some (.lst false (toldL ws)), some (.tup (nv L)), some (.tup (ovL ws.length (sp L))), none, some (ov ws.length z)], _, rfl, (tBx (exV (x2N rfl (exV xV) rfl (nt z)))), rfl, fz_of (ov_fz _ _), rfl⟩
  have tn := tupN (o := true) (luk ws)
  have tm := tupN (o := true) L
  have nl : neD (.lst true (intsV (sortI (ni ((sp L).filter fun s => decide (s < ws.length)))))) (.lst true (intsV (sortI (ni ((sp ws).filter fun s => decide (s < ws.length)))))) = some (.bl false) := by
    have e : sortI (ni ((sp L).filter fun s => decide (s < ws.length))) = sortI (ni ((sp ws).filter fun s => decide (s < ws.length))) := sortI_perm (((sp_perm pL).filter _).map _)
    rw [neD_li, e]
    simp
  have es := eqD_str os
  refine ⟨h1, ?_, p1⟩
  cases hA : allP ws with
  | true =>
    have dr := c_driven (k := k) H hA
    have dr2 := c_driven (k := k) HL (by rw [aL, hA])
    rw [drv_perm pL] at dr2
    have sv := sumT (sp ws)
    rw [← ovL_all ((allP_iff ws).mp hA)] at sv
    have s3 := sm_int (k := k + 5) (b := drv ws)
    have nd : neD (.int (drv ws)) (.int (drv ws)) = some (.bl false) := by rw [neD_int]; simp
    show runDef f_25 _ _ = _
    apply runX (m := 8) rfl; simp only [show ∀ (c : Call) (e : En), f_25.body c e = sSeq (l_25 c [0]) e from fun _ _ => rfl, l25, List.map_cons, List.map_nil, List.replicate, List.cons_append, List.nil_append]
    · exact sqC (xPar (csV (xCall (eaN rfl eaNil) (taN rfl (zT ws) taNil) lp (poV poNil)) (csV (xB (csN rfl csNil) (gsN rfl gsNil) rp) csNil)) (tkV (tkV tkNil)) rfl rfl rfl rfl) (qkN (sqC (xAsg (x2V xV (exN rfl) notIn_ov) (asN rfl rfl rfl)) (qkN (sqC (xAsg (xLst (csV (xCall (eaN rfl eaNil) (taN rfl (zT ws) taNil) pk (poV poNil)) (csV (xCall (eaN rfl eaNil) (taN rfl (zT ws) taNil) ip (poV poNil)) (csV (xCall (eaN rfl eaNil) (taN rfl (zT ws) taNil) sh (poV poNil)) (csV (xCall (eaN rfl eaNil) (taN rfl (zT ws) taNil) ac (poV poNil)) (csV (xCall (eaN rfl eaNil) (taN rfl (zT ws) taNil) iw (poV poNil)) csNil))))) (tfV (fzTup (ovL_fz ws.length (sp ws))) (tfV rfl (tfV zsh (tfV (zti _) (tfV rfl tfNil)))))) (asN rfl rfl rfl)) (qkN (sqC (xsIf (tNotx (tBx (exV (xCall (eaN rfl (eaV (xLst (csN rfl (csN rfl (csV (xCall (eaN rfl eaNil) (taN rfl (zT ws) taNil) ls (poV poNil)) (csV (xB (csV (xB (csN rfl csNil) (gsN rfl gsNil) (srt ws)) csNil) (gsV gsNil) (tup_li true _)) (csV xV csNil))))) (tfN rfl (fzTup (ovL_fz ws.length (sp ws))) (tfN rfl (fzb _) (tfV zsh (tfV (zti _) (tfV rfl tfNil)))))) eaNil)) (taNl rfl told_fz rfl (taV taNil)) s1 (poV (poV poNil))))) rfl) (skF sqN)) (qkN (sqC (xsIf (tBx (exV (x2V (x2V (xCall (eaN rfl eaNil) (taN rfl (zT ws) taNil) sh (poV poNil)) (exV xV) isV_sh) (exN rfl) nb))) (skF sqN)) (qkN (sqC (xsIf (tNotx (tBx (exV (xCall (eaV (xCall (eaN rfl eaNil) (taN rfl (zT ws) taNil) lk (poV poNil)) (eaV (xB (csV (q0 _ _) csNil) (gsV gsNil) tn) eaNil)) (taV (taV taNil)) s2 (poV (poV poNil))))) rfl) (skF sqN)) (qkN (sqC (xsIf (tBx (exN rfl)) (skT' hA (sqC (xsIf (tNotx (tBx (exV (xCall (eaV (xCall (eaN rfl eaNil) (taN rfl (zT ws) taNil) dr (poV poNil)) (eaV (x2V (xB (csN rfl csNil) (gsN rfl gsNil) sv) (exV (xB (csN rfl csNil) (gsN rfl gsNil) (sumT ws))) rfl) eaNil)) (taV (taV taNil)) s3 (poV (poV poNil))))) rfl) (skF sqN)) (qkN sqN)))) (qkN (sqC (xAsg (xB (csV (xCall (eaR rfl (eaV (xB (csN rfl csNil) (gsN rfl gsNil) lw) eaNil)) (taR rfl rfl (taV taNil)) mx (poR rfl rfl (poV poNil))) csNil) (gsV gsNil) tm) (asN rfl rfl rfl)) (qkN (sqC (xAsg (xCall (eaN rfl eaNil) (taN rfl (zT L) taNil) pk2 (poV poNil)) (asN rfl rfl rfl)) (qkN (sqC (xsIf (tBx (exV (x2V (xB (csV (q1 _ _) csNil) (gsV gsNil) (srtL _)) (exV (xB (csV (q2 _ _) csNil) (gsV gsNil) (srtL _))) nl))) (skF sqN)) (qkN (sqC (xsIf (tOrx (tNotx (tBx (exV (xCall (eaV (xCall (eaN rfl eaNil) (taN rfl (zT L) taNil) ip2 (poV poNil)) (eaN rfl eaNil)) (taV (taN rfl (fzb _) taNil)) s4 (poV (poV poNil))))) rfl) (tkF (tAndx (tBx (exN rfl)) (tkT' hA (tBx (exV (x2V (xCall (eaN rfl eaNil) (taN rfl (zT L) taNil) dr2 (poV poNil)) (exV (xCall (eaN rfl eaNil) (taN rfl (zT ws) taNil) dr (poV poNil))) nd))))))) (skF sqN)) (qkN (sqC (xRet (x2V (xB (csN rfl csNil) (gsN rfl gsNil) rp) (exN rfl) es)) qkR))))))))))))))))))))))
    · exact rkR rfl
  | false =>
    have ipf := ip
    rw [hA] at ipf
    have dx := x_driven (k := k) (zT ws) (x_check_parking (k := k) (zT ws) (by have := c_is_parking (k := k) H; rwa [hA] at this))
    show runDef f_25 _ _ = _
    apply runX (m := 8) rfl; simp only [show ∀ (c : Call) (e : En), f_25.body c e = sSeq (l_25 c [0]) e from fun _ _ => rfl, l25, List.map_cons, List.map_nil, List.replicate, List.cons_append, List.nil_append]
    · exact sqC (xPar (csV (xCall (eaN rfl eaNil) (taN rfl (zT ws) taNil) lp (poV poNil)) (csV (xB (csN rfl csNil) (gsN rfl gsNil) rp) csNil)) (tkV (tkV tkNil)) rfl rfl rfl rfl) (qkN (sqC (xAsg (x2V xV (exN rfl) notIn_ov) (asN rfl rfl rfl)) (qkN (sqC (xAsg (xLst (csV (xCall (eaN rfl eaNil) (taN rfl (zT ws) taNil) pk (poV poNil)) (csV (xCall (eaN rfl eaNil) (taN rfl (zT ws) taNil) ip (poV poNil)) (csV (xCall (eaN rfl eaNil) (taN rfl (zT ws) taNil) sh (poV poNil)) (csV (xCall (eaN rfl eaNil) (taN rfl (zT ws) taNil) ac (poV poNil)) (csV (xCall (eaN rfl eaNil) (taN rfl (zT ws) taNil) iw (poV poNil)) csNil))))) (tfV (fzTup (ovL_fz ws.length (sp ws))) (tfV rfl (tfV zsh (tfV (zti _) (tfV rfl tfNil)))))) (asN rfl rfl rfl)) (qkN (sqC (xsIf (tNotx (tBx (exV (xCall (eaN rfl (eaV (xLst (csN rfl (csN rfl (csV (xCall (eaN rfl eaNil) (taN rfl (zT ws) taNil) ls (poV poNil)) (csV (xB (csV (xB (csN rfl csNil) (gsN rfl gsNil) (srt ws)) csNil) (gsV gsNil) (tup_li true _)) (csV xV csNil))))) (tfN rfl (fzTup (ovL_fz ws.length (sp ws))) (tfN rfl (fzb _) (tfV zsh (tfV (zti _) (tfV rfl tfNil)))))) eaNil)) (taNl rfl told_fz rfl (taV taNil)) s1 (poV (poV poNil))))) rfl) (skF sqN)) (qkN (sqC (xsIf (tBx (exV (x2V (x2V (xCall (eaN rfl eaNil) (taN rfl (zT ws) taNil) sh (poV poNil)) (exV xV) isV_sh) (exN rfl) nb))) (skF sqN)) (qkN (sqC (xsIf (tNotx (tBx (exV (xCall (eaV (xCall (eaN rfl eaNil) (taN rfl (zT ws) taNil) lk (poV poNil)) (eaV (xB (csV (q0 _ _) csNil) (gsV gsNil) tn) eaNil)) (taV (taV taNil)) s2 (poV (poV poNil))))) rfl) (skF sqN)) (qkN (sqC (xsIf (tBx (exN rfl)) (skF' hA (sqC (xsIf (tNotx (tBx (exV (lam_ref (xCallX (eaN rfl eaNil) (taN rfl (zT ws) taNil) dx (poV poNil))))) rfl) (skF sqN)) (qkN sqN)))) (qkN (sqC (xAsg (xB (csV (xCall (eaR rfl (eaV (xB (csN rfl csNil) (gsN rfl gsNil) lw) eaNil)) (taR rfl rfl (taV taNil)) mx (poR rfl rfl (poV poNil))) csNil) (gsV gsNil) tm) (asN rfl rfl rfl)) (qkN (sqC (xAsg (xCall (eaN rfl eaNil) (taN rfl (zT L) taNil) pk2 (poV poNil)) (asN rfl rfl rfl)) (qkN (sqC (xsIf (tBx (exV (x2V (xB (csV (q1 _ _) csNil) (gsV gsNil) (srtL _)) (exV (xB (csV (q2 _ _) csNil) (gsV gsNil) (srtL _))) nl))) (skF sqN)) (qkN (sqC (xsIf (tOrx (tNotx (tBx (exV (xCall (eaV (xCall (eaN rfl eaNil) (taN rfl (zT L) taNil) ip2 (poV poNil)) (eaN rfl eaNil)) (taV (taN rfl (fzb _) taNil)) s4 (poV (poV poNil))))) rfl) (tkF (tAndx (tBx (exN rfl)) (tkF' hA rfl)))) (skF sqN)) (qkN (sqC (xRet (x2V (xB (csN rfl csNil) (gsN rfl gsNil) rp) (exN rfl) es)) qkR))))))))))))))))))))))
    · exact rkR rfl
end LK
set_option Elab.async false
set_option linter.all false
set_option maxRecDepth 100000
set_option maxHeartbeats 1600000
namespace LK
open VI PySem
local macro_rules | `(tactic| decreasing_trivial_pre_omega) => `(tactic| first
  | with_reducible assumption
  | (show (_ : Option Val) = _
     first
       | with_reducible exact eqG_int
       | with_reducible exact neD_int
       | with_reducible exact eqG_bl
       | with_reducible exact neD_bl
       | with_reducible exact lenG_lst
       | with_reducible exact lenG_any
       | exact (rfl : (_ : Option Val) = some _))
  | (show (_ : Res OV) = _
     first
       | with_reducible exact xV
       | ((with_reducible apply x1) <;> decreasing_trivial_pre_omega)
       | ((with_reducible apply x2N) <;> decreasing_trivial_pre_omega)
       | ((with_reducible apply x2V) <;> decreasing_trivial_pre_omega)
       | ((with_reducible apply xB) <;> decreasing_trivial_pre_omega)
       | ((with_reducible apply xCall) <;> decreasing_trivial_pre_omega)
       | ((with_reducible apply xTup) <;> decreasing_trivial_pre_omega)
       | ((with_reducible apply xLst) <;> decreasing_trivial_pre_omega)
       | ((with_reducible apply xIf) <;> decreasing_trivial_pre_omega)
       | ((with_reducible apply xAnd) <;> decreasing_trivial_pre_omega)
       | ((with_reducible apply xOr) <;> decreasing_trivial_pre_omega)
       | ((with_reducible apply xCh) <;> decreasing_trivial_pre_omega)
       | ((with_reducible apply xMake) <;> decreasing_trivial_pre_omega)
       | ((with_reducible apply xTupO) <;> decreasing_trivial_pre_omega)
       | ((with_reducible apply xLstO) <;> decreasing_trivial_pre_omega)
       | ((with_reducible apply xMGt) <;> decreasing_trivial_pre_omega)
       | ((with_reducible apply xPopAt) <;> decreasing_trivial_pre_omega)
       | ((with_reducible apply xPop) <;> decreasing_trivial_pre_omega)
       | ((with_reducible apply xMGl) <;> decreasing_trivial_pre_omega))
  | (show (_ : Res (List OV)) = _
     first
       | with_reducible exact csNil
       | ((with_reducible apply csN) <;> decreasing_trivial_pre_omega)
       | ((with_reducible apply csV) <;> decreasing_trivial_pre_omega))
  | (show (_ : Res (List AV)) = _
     first
       | with_reducible exact eaNil
       | ((with_reducible apply eaN) <;> decreasing_trivial_pre_omega)
       | ((with_reducible apply eaV) <;> decreasing_trivial_pre_omega)
       | ((with_reducible apply eaR) <;> decreasing_trivial_pre_omega))
  | (show (_ : Option (List Val × En)) = _
     first
       | with_reducible exact tfNil
       | with_reducible exact tkNil
       | with_reducible exact taNil
       | ((with_reducible apply tfV) <;> decreasing_trivial_pre_omega)
       | ((with_reducible apply tfN) <;> decreasing_trivial_pre_omega)
       | ((with_reducible apply tfNl) <;> decreasing_trivial_pre_omega)
       | ((with_reducible apply tkV) <;> decreasing_trivial_pre_omega)
       | ((with_reducible apply tkN) <;> decreasing_trivial_pre_omega)
       | ((with_reducible apply tkNl) <;> decreasing_trivial_pre_omega)
       | ((with_reducible apply taV) <;> decreasing_trivial_pre_omega)
       | ((with_reducible apply taN) <;> decreasing_trivial_pre_omega)
       | ((with_reducible apply taNl) <;> decreasing_trivial_pre_omega)
       | ((with_reducible apply taR) <;> decreasing_trivial_pre_omega))
  | (show (_ : Option (List Val)) = _
     first
       | with_reducible exact gsNil
       | ((with_reducible apply gsN) <;> decreasing_trivial_pre_omega)
       | ((with_reducible apply gsV) <;> decreasing_trivial_pre_omega)
       | exact (rfl : (_ : Option (List Val)) = some _))
  | (show (_ : Option En) = _
     first
       | with_reducible exact poNil
       | ((with_reducible apply poV) <;> decreasing_trivial_pre_omega)
       | ((with_reducible apply poR) <;> decreasing_trivial_pre_omega)
       | ((with_reducible apply asN) <;> decreasing_trivial_pre_omega)
       | ((with_reducible apply asT) <;> decreasing_trivial_pre_omega)
       | with_reducible exact asLn
       | ((with_reducible apply asLc) <;> decreasing_trivial_pre_omega))
  | (show (_ : En) = _
     first
       | with_reducible exact setL0
       | ((with_reducible apply setLS) <;> decreasing_trivial_pre_omega))
  | (show (_ : SRes) = _
     first
       | with_reducible exact sqN
       | ((with_reducible apply sqC) <;> decreasing_trivial_pre_omega)
       | ((with_reducible apply xAsgN) <;> decreasing_trivial_pre_omega)
       | ((with_reducible apply xAsg) <;> decreasing_trivial_pre_omega)
       | ((with_reducible apply xPar3) <;> decreasing_trivial_pre_omega)
       | ((with_reducible apply xPar) <;> decreasing_trivial_pre_omega)
       | ((with_reducible apply xRetN) <;> decreasing_trivial_pre_omega)
       | ((with_reducible apply xRet) <;> decreasing_trivial_pre_omega)
       | ((with_reducible apply xExp) <;> decreasing_trivial_pre_omega)
       | ((with_reducible apply xsIf) <;> decreasing_trivial_pre_omega)
       | ((with_reducible apply xAppN) <;> decreasing_trivial_pre_omega)
       | ((with_reducible apply xApp) <;> decreasing_trivial_pre_omega)
       | with_reducible exact xRaise0)
  | (show (_ : Res Bool) = _
     first
       | ((with_reducible apply tBx) <;> decreasing_trivial_pre_omega)
       | ((with_reducible apply tNotx) <;> decreasing_trivial_pre_omega)
       | ((with_reducible apply tAndx) <;> decreasing_trivial_pre_omega)
       | ((with_reducible apply tOrx) <;> decreasing_trivial_pre_omega))
  | (show (_ : Res (List Val)) = _
     first
       | ((with_reducible apply iSeqG) <;> decreasing_trivial_pre_omega)
       | ((with_reducible apply iEnuG) <;> decreasing_trivial_pre_omega)
       | ((with_reducible apply iZipG) <;> decreasing_trivial_pre_omega)
       | ((with_reducible apply iRngN) <;> decreasing_trivial_pre_omega))
  | (show (_ : Val) = _
     first
       | with_reducible exact fzi _
       | with_reducible exact fzb _
       | with_reducible exact fzn
       | with_reducible exact fzs _
       | with_reducible exact zti _
       | exact fz_of rfl
       | exact (rfl : Val.int _ = Val.int _)
       | exact (rfl : Val.tup _ = Val.tup _)
       | exact (rfl : Val.lst _ _ = Val.lst _ _))
  | (show (_ : Bool) = _
     first
       | exact (rfl : (_ : Bool) = true)
       | exact (rfl : (_ : Bool) = false)
       | exact decide_eq_true (by omega)
       | exact decide_eq_false (by omega)
       | exact beq_eq_false_iff_ne.mpr (by omega)
       | exact beq_iff_eq.mpr (by omega)
       | rfl)
  | ((with_reducible apply exN) <;> decreasing_trivial_pre_omega)
  | ((with_reducible apply exV) <;> decreasing_trivial_pre_omega)
  | ((with_reducible apply qkN) <;> decreasing_trivial_pre_omega)
  | with_reducible exact qkR
  | with_reducible exact qkX
  | with_reducible exact qkC
  | with_reducible exact qkB
  | ((with_reducible apply tkT) <;> decreasing_trivial_pre_omega)
  | ((with_reducible apply tkF) <;> decreasing_trivial_pre_omega)
  | ((with_reducible apply tkT') <;> decreasing_trivial_pre_omega)
  | ((with_reducible apply tkF') <;> decreasing_trivial_pre_omega)
  | ((with_reducible apply tkA) <;> decreasing_trivial_pre_omega)
  | ((with_reducible apply tkO) <;> decreasing_trivial_pre_omega)
  | ((with_reducible apply vkT) <;> decreasing_trivial_pre_omega)
  | ((with_reducible apply vkF) <;> decreasing_trivial_pre_omega)
  | ((with_reducible apply vkT') <;> decreasing_trivial_pre_omega)
  | ((with_reducible apply vkF') <;> decreasing_trivial_pre_omega)
  | ((with_reducible apply vkA) <;> decreasing_trivial_pre_omega)
  | ((with_reducible apply vkO) <;> decreasing_trivial_pre_omega)
  | ((with_reducible apply vkS) <;> decreasing_trivial_pre_omega)
  | ((with_reducible apply skT) <;> decreasing_trivial_pre_omega)
  | ((with_reducible apply skF) <;> decreasing_trivial_pre_omega)
  | ((with_reducible apply skT') <;> decreasing_trivial_pre_omega)
  | ((with_reducible apply skF') <;> decreasing_trivial_pre_omega)
  | ((with_reducible apply rkR) <;> decreasing_trivial_pre_omega)
  | ((with_reducible apply rkR') <;> decreasing_trivial_pre_omega)
  | ((with_reducible apply rkN) <;> decreasing_trivial_pre_omega)
  | ((with_reducible apply rkX) <;> decreasing_trivial_pre_omega)
  | (show (_ : Option (List (Nat × Val))) = _
     first
       | with_reducible exact oN
       | ((with_reducible apply oC) <;> decreasing_trivial_pre_omega)
       | exact (rfl : (_ : Option (List (Nat × Val))) = some _))
  | (show (_ : Nat) < _; first | assumption | omega | (simp [most]; done))
  | exact (rfl : (_ : Option _) = some _))

variable {k : Nat} {X : Val} {ws : List Nat} {n w s : Nat} {ex : Exc}
/-! R11: things are judged; the law -/
theorem xCallF {call : Call} {L : List Nat} {j f : Nat} {l : List VI.Arg} {e : En} {R : Res OV} (hs : slot e j = some (.fn f)) (hL : L.contains f = true) (h : cCall call f l e = R) : cCallF call L j l e = R := by
  unfold cCallF
  rw [hs]
  show (if L.contains f then cCall call f l e else .bad) = _
  rw [hL]
  exact h
def fns : List Nat := [5, 9, 11, 12, 10]
theorem x_all (hX : Th1 X) (h : wishB X = false) : ∀ f ∈ fns, callN Pr (k + 7) f [X] = .exc ⟨1, [], []⟩ [] := fun f hf => by
  have c1 := x_check (k := k + 2) hX h
  have c2 := x_check_parking (k := k + 1) hX.z (f_is_parking (k := k + 1) hX h)
  simp only [fns, List.mem_cons, List.not_mem_nil, or_false] at hf
  rcases hf with rfl | rfl | rfl | rfl | rfl
  · exact x_park (k := k + 2) hX.z c1
  · exact x_short (k := k + 2) hX.z c1
  · exact x_lucky (k := k + 2) hX.z c1
  · exact x_asc (k := k + 2) hX.z c1
  · exact x_driven (k := k + 1) hX.z c2
def y26_0 (call : Call) : VI.S := (sSeq [(sIf (tNot (tB (cLam (h_22 call) (cCallF call [5, 9, 11, 12, 10] 4 [.v (cN 1)])))) (sSeq [(sRet [0] (cV (.bl false)))]) (sSeq []))])
def f26_0 (call : Call) : VI.S := (sFor [0] (iSeq (cTup [(cV (.fn 5)), (cV (.fn 9)), (cV (.fn 11)), (cV (.fn 12)), (cV (.fn 10))])) (.n 4) (y26_0 call))
theorem l26 (call : Call) : l_26 call [0] = [(sPar [0] 2 3 (cCall call 21 [.v (cN 1)]) (cB reprV [(cN 1)])), (sIf (VI.tOr (tNot (tB (cCall call 17 [.v (cCall call 2 [.v (cN 1)]), .v (cN 2)]))) (tB (c2 neD (cB reprV [(cN 1)]) (cN 3)))) (sSeq [(sRet [0] (cV (.bl false)))]) (sSeq [])), (sIf (tB (cN 2)) (sSeq [(sRet [0] (cCall call 25 [.r 0, .v (cN 1)]))]) (sSeq [])), (sIf (tB (c2 isNotG (cCall call 7 [.v (cN 1)]) (cV (.bl false)))) (sSeq [(sRet [0] (cV (.bl false)))]) (sSeq [])), (f26_0 call), (sRet [0] (c2 eqD (cB reprV [(cN 1)]) (cN 3)))] := rfl
theorem c_judged {h : Val} (hh : HandV h) (gX : Gd 4000 40 X) : ∃ h', callN Pr (k + 8) 26 [h, X] = .ok (.bl true) [(0, h')] ∧ HandV h' := by
  have hX := gX.th1
  obtain ⟨s, rp, os⟩ := gX.repr (by omega) (by omega)
  have ar := c_are (k := k + 6) hX
  have iw := c_is_wishes (k := k + 4) hX
  have s1 := sm_bl (k := k + 6) (b := wishB X)
  have ne := neD_str os
  have es := eqD_str os
  cases hB : wishB X with
  | true =>
    obtain ⟨ws, rfl, H⟩ := ws_of hB
    obtain ⟨h', g, p⟩ := c_is_right (k := k) hh H
    refine ⟨h', ?_, p⟩
    rw [hB] at ar iw s1
    show runDef f_26 _ _ = _
    apply runX (m := 3) rfl; simp only [show ∀ (c : Call) (e : En), f_26.body c e = sSeq (l_26 c [0]) e from fun _ _ => rfl, l26, List.map_cons, List.map_nil, List.replicate, List.cons_append, List.nil_append]
    · exact sqC (xPar (csV (xCall (eaN rfl eaNil) (taN rfl hX.z taNil) ar (poV poNil)) (csV (xB (csN rfl csNil) (gsN rfl gsNil) rp) csNil)) (tkV (tkV tkNil)) rfl rfl rfl rfl) (qkN (sqC (xsIf (tOrx (tNotx (tBx (exV (xCall (eaV (xCall (eaN rfl eaNil) (taN rfl hX.z taNil) iw (poV poNil)) (eaN rfl eaNil)) (taV (taN rfl (fzb _) taNil)) s1 (poV (poV poNil))))) rfl) (tkF (tBx (exV (x2V (xB (csN rfl csNil) (gsN rfl gsNil) rp) (exN rfl) ne))))) (skF sqN)) (qkN (sqC (xsIf (tBx (exN rfl)) (skT (sqC (xRet (xCall (eaR rfl (eaN rfl eaNil)) (taR rfl rfl (taN rfl hX.z taNil)) g (poR rfl rfl (poV poNil)))) qkR))) qkR))))
    · exact rkR rfl
  | false =>
    rw [hB] at ar iw s1
    have ip := f_is_parking (k := k + 3) hX hB
    obtain ⟨e', g, x4, rfl⟩ := forI (pins := [0]) (tg := .n 4) (body := y26_0 (callN Pr (k + 7))) (F := fun f : Nat => Val.fn f)
      (I := fun _ e => ∃ x4 : Option Val, e = [some h, some X, some (.bl false), some (.str s), x4]) fns [] [some h, some X, some (.bl false), some (.str s), none] ⟨none, rfl⟩ fun dn f rest e hq hI => by
        obtain ⟨x4, rfl⟩ := hI
        have hf : f ∈ fns := by
          have : fns = dn ++ f :: rest := hq
          rw [this]
          simp
        have x := x_all (k := k) hX hB f hf
        refine ⟨[some h, some X, some (.bl false), some (.str s), some (.fn f)], _, rfl, .inl ?_, some (.fn f), rfl⟩
        unfold y26_0
        exact (sqC (xsIf (tNotx (tBx (exV (lam_ref (xCallF rfl (List.elem_eq_true_of_mem hf) (xCallX (eaN rfl eaNil) (taN rfl hX.z taNil) x (poV poNil)))))) rfl) (skF sqN)) (qkN sqN))
    have f0 : f26_0 (callN Pr (k + 7)) [some h, some X, some (.bl false), some (.str s), none] = .nx [some h, some X, some (.bl false), some (.str s), x4] := by
      unfold f26_0
      exact xFor (iSeqV (xTup (csV xV (csV xV (csV xV (csV xV (csV xV csNil))))) (tfV rfl (tfV rfl (tfV rfl (tfV rfl (tfV rfl tfNil)))))) rfl rfl) g
    refine ⟨h, ?_, hh⟩
    show runDef f_26 _ _ = _
    apply runX (m := 3) rfl; simp only [show ∀ (c : Call) (e : En), f_26.body c e = sSeq (l_26 c [0]) e from fun _ _ => rfl, l26, List.map_cons, List.map_nil, List.replicate, List.cons_append, List.nil_append]
    · exact sqC (xPar (csV (xCall (eaN rfl eaNil) (taN rfl hX.z taNil) ar (poV poNil)) (csV (xB (csN rfl csNil) (gsN rfl gsNil) rp) csNil)) (tkV (tkV tkNil)) rfl rfl rfl rfl) (qkN (sqC (xsIf (tOrx (tNotx (tBx (exV (xCall (eaV (xCall (eaN rfl eaNil) (taN rfl hX.z taNil) iw (poV poNil)) (eaN rfl eaNil)) (taV (taN rfl (fzb _) taNil)) s1 (poV (poV poNil))))) rfl) (tkF (tBx (exV (x2V (xB (csN rfl csNil) (gsN rfl gsNil) rp) (exN rfl) ne))))) (skF sqN)) (qkN (sqC (xsIf (tBx (exN rfl)) (skF sqN)) (qkN (sqC (xsIf (tBx (exV (x2V (xCall (eaN rfl eaNil) (taN rfl hX.z taNil) ip (poV poNil)) (exV xV) rfl))) (skF sqN)) (qkN (sqC f0 (qkN (sqC (xRet (x2V (xB (csN rfl csNil) (gsN rfl gsNil) rp) (exN rfl) es)) qkR))))))))))
    · exact rkR rfl
/-! ### the law -/
def absI (z : Int) : Int := if z < 0 then -z else z
def q13_0 (call : Call) : VI.C := (cLC (iSeq (cB (slV false true) [(cN 0), (cV (.int (63)))])) (.n 2) VI.tYes (cB absV' [(cB intV [(cN 2)])]) [2])
theorem l13 (call : Call) : l_13 call [] = [(sAsg [] (.n 1) (q13_0 call)), (sRet [] (cLst [(cN 1), (cV (.int (0))), (cV (.int (0))), (c2 addV (cV (.int (67))) (c2 mulW (cV (.int (5))) (cB lenV [(cN 1)]))), (cV (.int (0)))]))] := rfl
theorem hand0 {ns : List Int} (h : ns.length ≤ 63) : ∃ c : Int, callN Pr (k + 1) 13 [.lst false (intsV ns)] = .ok (Hd (ns.map absI) 0 0 c 0) [] := by
  have zl : fz (.lst false (intsV ns)) = .lst false (intsV ns) := by rw [fz, intsV_fzL]
  have hs : slV false true [.lst false (intsV ns), .int 63] = some (.lst true (intsV ns)) := by
    have hl : (intsV ns).length = ns.length := intsV_len ns
    have hc : cut (intsV ns) none (some 63) = intsV ns := by
      unfold cut bnd
      simp only [Nat.sub_zero, List.drop_zero]
      exact List.take_of_length_le (by rw [hl]; simp; omega)
    simp [slV, sliceV, partI, intsV_fz, hc]
  have zL : fz (.lst true (intsV ns)) = .lst false (intsV ns) := by rw [fz, intsV_fzL]
  have q0 : q13_0 (callN Pr k) [some (.lst false (intsV ns)), none, none] = .ok (.val (.lst true (intsV (ns.map absI)))) [some (.lst false (intsV ns)), none, none] := by
    unfold q13_0
    refine xLCs (iSeqV (xB (csN rfl (csV xV csNil)) (gsN rfl (gsV gsNil)) hs) zL rfl) ?_ rfl rfl
    rw [intsV, lcF (G := fun z : Int => Val.int (absI z)) _ _ fun z _ => ?_]
    · simp [intsV, Function.comp_def]
    · exact ⟨[some (.lst false (intsV ns)), none, some (.int z)], _, _, rfl, (xB (csV (xB (csN rfl csNil) (gsN rfl gsNil) rfl) csNil) (gsV gsNil) rfl), rfl, rfl⟩
  have l0 : lenV [.lst true (intsV (ns.map absI))] = some (.int ((ns.length : Nat) : Int)) := by rw [lenL, intsV_len, List.length_map]
  have m3 : mulW (.int 5) (.int (ns.length : Int)) = some (.int (5 * (ns.length : Int))) := mul_l _ _ (by decide)
  have zz : fz (.lst true (intsV (ns.map absI))) = .lst false (intsV (ns.map absI)) := by rw [fz, intsV_fzL]
  refine ⟨67 + 5 * (ns.length : Int), ?_⟩
  show runDef f_13 _ _ = _
  apply runX (m := 2) rfl; simp only [show ∀ (c : Call) (e : En), f_13.body c e = sSeq (l_13 c []) e from fun _ _ => rfl, l13, List.map_cons, List.map_nil, List.replicate, List.cons_append, List.nil_append]
  · exact sqC (xAsg q0 (asN rfl rfl rfl)) (qkN (sqC (xRet (xLst (csN rfl (csV xV (csV xV (csV (x2V xV (exV (x2V xV (exV (xB (csN rfl csNil) (gsN rfl gsNil) l0)) m3)) rfl) (csV xV csNil))))) (tfNl rfl zz rfl (tfV (fzi _) (tfV (fzi _) (tfV (fzi _) (tfV (fzi _) tfNil))))))) qkR))
  · exact rkR rfl
def y27_0 (call : Call) : VI.S := (sSeq [(sIf (tNot (tB (cCall call 26 [.r 1, .v (cCall call 24 [.r 1, .v (cN 3)])]))) (sSeq [(sRet [] (cV (.bl false)))]) (sSeq []))])
def f27_0 (call : Call) : VI.S := (sFor [] (iRng [(cV (.int (5)))]) (.n 4) (y27_0 call))
def y27_1 (call : Call) : VI.S := (sSeq [(sAsg [] (.n 3) (cCall call 18 [.r 1, .v (cN 2)])), (sIf (tNot (tB (cCall call 25 [.r 1, .v (cN 3)]))) (sSeq [(sRet [] (cV (.bl false)))]) (sSeq [])), (f27_0 call)])
def f27_1 (call : Call) : VI.S := (sFor [] (iSeq (cLst [(cV (.int (1))), (c2 addV (cV (.int (2))) (cCall call 14 [.r 1, .v (cV (.int (5)))])), (c2 addV (cV (.int (1))) (cCall call 14 [.r 1, .v (cV (.int (60)))])), (cV (.int (60)))])) (.n 2) (y27_1 call))
theorem l27 (call : Call) : l_27 call [] = [(sAsg [] (.n 1) (cCall call 13 [.v (cN 0)])), (f27_1 call), (sAsg [] (.n 5) (cLst [(cCall call 5 [.v (cTup [(cV (.int (1))), (cV (.int (0))), (cV (.int (0)))])]), (cCall call 5 [.v (cTup [(cV (.int (2))), (cV (.int (2))), (cV (.int (0)))])]), (cCall call 9 [.v (cTup [(cV (.int (2))), (cV (.int (2))), (cV (.int (0)))])]), (cCall call 11 [.v (cTup [(cV (.int (1))), (cV (.int (1))), (cV (.int (0)))])]), (cCall call 10 [.v (cTup [(cV (.int (0))), (cV (.int (0))), (cV (.int (0)))])])])), (sRet [] (cCall call 17 [.v (cN 5), .v (cLst [(cTup [(cV (.int (1))), (cV (.int (0))), (cV (.int (2)))]), (cTup [(cV (.int (2))), (cV .non), (cV (.int (0)))]), (cV (.int (1))), (cTup [(cV (.int (0))), (cV (.int (2)))]), (cV (.int (3)))])]))] := rfl
theorem ws3 {a b c : Nat} (h : (decide (a < 3) && decide (b < 3) && decide (c < 3)) = true) : Ws [a, b, c] := by
  simp only [Bool.and_eq_true, decide_eq_true_eq] at h
  exact ⟨by simp, by simp, fun w hw => by
    simp only [List.mem_cons, List.not_mem_nil, or_false] at hw
    rcases hw with rfl | rfl | rfl <;> simp <;> omega⟩
def endL : List Val := [.tup [.int 1, .int 0, .int 2], .tup [.int 2, .non, .int 0], .int 1, .tup [.int 0, .int 2], .int 3]
theorem end_fz : fz (.lst true endL) = .lst false endL := rfl
theorem sm_end : callN Pr (k + 3) 17 [.lst false endL, .lst true endL] = .ok (.bl true) [] := sm_lst rfl fun v hv => by
  simp only [endL, List.mem_cons, List.not_mem_nil, or_false] at hv
  rcases hv with rfl | rfl | rfl | rfl | rfl
  · exact sm_ints (b := [1, 0, 2])
  · refine sm_tup rfl fun v hv => ?_
    simp only [List.mem_cons, List.not_mem_nil, or_false] at hv
    rcases hv with rfl | rfl | rfl
    · exact sm_int
    · exact sm_flat (.inl rfl)
    · exact sm_int
  · exact sm_int
  · exact sm_ints (b := [0, 2])
  · exact sm_int
theorem turn_body {L h : Val} {a c : Option Val} (hh : HandV h) (H : Ws ws) : ∃ h', y27_0 (callN Pr (k + 8)) [some L, some h, a, some (.tup (nv ws)), c, none] = .nx [some L, some h', a, some (.tup (nv ws)), c, none] ∧ HandV h' := by
  obtain ⟨X, h1, d1, p1, gX⟩ := c_bent (k := k + 4) hh H
  obtain ⟨h2, d2, p2⟩ := c_judged (k := k) p1 gX
  refine ⟨h2, ?_, p2⟩
  unfold y27_0
  exact (sqC (xsIf (tNotx (tBx (exV (xCall (eaR rfl (eaV (xCall (eaR rfl (eaN rfl eaNil)) (taR rfl rfl (taN rfl (zT ws) taNil)) d1 (poR rfl rfl (poV poNil))) eaNil)) (taR rfl rfl (taV taNil)) d2 (poR rfl rfl (poV poNil))))) rfl) (skF sqN)) (qkN sqN))
theorem many_body {L h : Val} {b c : Option Val} (hh : HandV h) (h1 : 1 ≤ n) (h2 : n ≤ 60) : ∃ (h' : Val) (b' c' : Option Val), y27_1 (callN Pr (k + 8)) [some L, some h, some (.int (n : Int)), b, c, none] = .nx [some L, some h', some (.int (n : Int)), b', c', none] ∧ HandV h' := by
  obtain ⟨ws, ha, d1, p1, H, _⟩ := c_wishes (k := k + 5) hh h1 h2
  obtain ⟨hb, d2, p2⟩ := c_is_right (k := k + 1) p1 H
  obtain ⟨e', g, hc, c', rfl, p3⟩ := forI (pins := []) (tg := .n 4) (body := y27_0 (callN Pr (k + 8))) (F := fun j : Nat => Val.int (j : Int))
    (I := fun _ e => ∃ hc c, e = [some L, some hc, some (.int (n : Int)), some (.tup (nv ws)), c, none] ∧ HandV hc) (List.range 5) [] [some L, some hb, some (.int (n : Int)), some (.tup (nv ws)), c, none] ⟨hb, c, rfl, p2⟩ fun dn j rest e hq hI => by
      obtain ⟨hc, c, rfl, p⟩ := hI
      obtain ⟨hd, g, p2⟩ := turn_body (k := k) (L := L) (a := some (.int (n : Int))) (c := some (.int (j : Int))) p H
      exact ⟨[some L, some hc, some (.int (n : Int)), some (.tup (nv ws)), some (.int (j : Int)), none], _, rfl, .inl g, hd, _, rfl, p2⟩
  have f0 : f27_0 (callN Pr (k + 8)) [some L, some hb, some (.int (n : Int)), some (.tup (nv ws)), c, none] = .nx [some L, some hc, some (.int (n : Int)), some (.tup (nv ws)), c', none] := by
    unfold f27_0
    refine xFor (iRngN (n := 5) (exV xV) (by omega)) ?_
    rw [rngM]
    exact g
  refine ⟨hc, some (.tup (nv ws)), c', ?_, p3⟩
  unfold y27_1
  exact (sqC (xAsg (xCall (eaR rfl (eaN rfl eaNil)) (taR rfl rfl (taN rfl (fzi _) taNil)) d1 (poR rfl rfl (poV poNil))) (asN rfl rfl rfl)) (qkN (sqC (xsIf (tNotx (tBx (exV (xCall (eaR rfl (eaN rfl eaNil)) (taR rfl rfl (taN rfl (zT ws) taNil)) d2 (poR rfl rfl (poV poNil))))) rfl) (skF sqN)) (qkN (sqC f0 (qkN sqN))))))
theorem pure_law : ∀ ns : List Int, ns.length ≤ 63 → callN Pr 9 27 [.lst false (intsV ns)] = .ok (.bl true) [] := by
  intro ns hns
  obtain ⟨c, q0⟩ := hand0 (k := 7) hns
  have hH : HandV (Hd (ns.map absI) 0 0 c 0) := ⟨_, _, _, _, _, rfl, Int.le_refl 0⟩
  have zl : fz (.lst false (intsV ns)) = .lst false (intsV ns) := by rw [fz, intsV_fzL]
  generalize Hd (ns.map absI) 0 0 c 0 = h0 at hH q0
  generalize (.lst false (intsV ns) : Val) = L at *
  obtain ⟨r1, h1, d1, p1, hr1⟩ := drawH (k := 7) (m := 5) hH (by omega) (by omega)
  obtain ⟨r2, h2, d2, p2, hr2⟩ := drawH (k := 7) (m := 60) p1 (by omega) (by omega)
  have a1 : addV (.int 2) (.int (r1 : Int)) = some (.int ((2 + r1 : Nat) : Int)) := by simp [addV]
  have a2 : addV (.int 1) (.int (r2 : Int)) = some (.int ((1 + r2 : Nat) : Int)) := by simp [addV]
  obtain ⟨e', g, hc, a, b, c', rfl, p3⟩ := forI (pins := []) (tg := .n 2) (body := y27_1 (callN Pr 8)) (F := fun j : Nat => Val.int (j : Int))
    (I := fun _ e => ∃ hc a b c, e = [some L, some hc, a, b, c, none] ∧ HandV hc) [1, 2 + r1, 1 + r2, 60] [] [some L, some h2, none, none, none, none] ⟨h2, none, none, none, rfl, p2⟩ fun dn j rest e hq hI => by
      obtain ⟨hc, a, b, c, rfl, p⟩ := hI
      have hj : j ∈ [1, 2 + r1, 1 + r2, 60] := by
        have : [1, 2 + r1, 1 + r2, 60] = dn ++ j :: rest := hq
        rw [this]
        simp
      have hj : 1 ≤ j ∧ j ≤ 60 := by
        simp only [List.mem_cons, List.not_mem_nil, or_false] at hj
        omega
      obtain ⟨hd, b2, c2, g, p2⟩ := many_body (k := 0) (L := L) (b := b) (c := c) p hj.1 hj.2
      exact ⟨[some L, some hc, some (.int (j : Int)), b, c, none], _, rfl, .inl g, hd, _, b2, c2, rfl, p2⟩
  have f1 : f27_1 (callN Pr 8) [some L, some h0, none, none, none, none] = .nx [some L, some hc, a, b, c', none] := by
    unfold f27_1
    exact xFor (iSeqV (xLst (csV xV (csV (x2V xV (exV (xCall (eaR rfl (eaV xV eaNil)) (taR rfl rfl (taV taNil)) d1 (poR rfl rfl (poV poNil)))) a1) (csV (x2V xV (exV (xCall (eaR rfl (eaV xV eaNil)) (taR rfl rfl (taV taNil)) d2 (poR rfl rfl (poV poNil)))) a2) (csV xV csNil)))) (tfV rfl (tfV rfl (tfV rfl (tfV rfl tfNil))))) (fzLst rfl) rfl) g
  have w1 := c_park (k := 3) (ws3 (a := 1) (b := 0) (c := 0) rfl)
  have w2 := c_park (k := 3) (ws3 (a := 2) (b := 2) (c := 0) rfl)
  have w3 := c_short (k := 3) (ws3 (a := 2) (b := 2) (c := 0) rfl)
  have w4 := c_lucky (k := 3) (ws3 (a := 1) (b := 1) (c := 0) rfl)
  have w5 := c_driven (k := 2) (ws3 (a := 0) (b := 0) (c := 0) rfl) (by decide)
  rw [show Val.tup (ovL [1, 0, 0].length (sp [1, 0, 0])) = .tup [.int 1, .int 0, .int 2] by kernel_rfl] at w1
  rw [show Val.tup (ovL [2, 2, 0].length (sp [2, 2, 0])) = .tup [.int 2, .non, .int 0] by kernel_rfl] at w2
  rw [show shV [2, 2, 0] = .int 1 by kernel_rfl] at w3
  rw [show Val.tup (nv (luk [1, 1, 0])) = .tup [.int 0, .int 2] by kernel_rfl] at w4
  rw [show drv [0, 0, 0] = 3 by kernel_rfl] at w5
  have s1 := sm_end (k := 5)
  show runDef f_27 (callN Pr 8) [L] = _
  apply runX (m := 5) rfl; simp only [show ∀ (c : Call) (e : En), f_27.body c e = sSeq (l_27 c []) e from fun _ _ => rfl, l27, List.map_cons, List.map_nil, List.replicate, List.cons_append, List.nil_append]
  · exact (sqC (xAsg (xCall (eaN rfl eaNil) (taN rfl zl taNil) q0 (poV poNil)) (asN rfl rfl rfl)) (qkN (sqC f1 (qkN (sqC (xAsg (xLst (csV (xCall (eaV (xTup (csV xV (csV xV (csV xV csNil))) (tfV rfl (tfV rfl (tfV rfl tfNil)))) eaNil) (taV taNil) w1 (poV poNil)) (csV (xCall (eaV (xTup (csV xV (csV xV (csV xV csNil))) (tfV rfl (tfV rfl (tfV rfl tfNil)))) eaNil) (taV taNil) w2 (poV poNil)) (csV (xCall (eaV (xTup (csV xV (csV xV (csV xV csNil))) (tfV rfl (tfV rfl (tfV rfl tfNil)))) eaNil) (taV taNil) w3 (poV poNil)) (csV (xCall (eaV (xTup (csV xV (csV xV (csV xV csNil))) (tfV rfl (tfV rfl (tfV rfl tfNil)))) eaNil) (taV taNil) w4 (poV poNil)) (csV (xCall (eaV (xTup (csV xV (csV xV (csV xV csNil))) (tfV rfl (tfV rfl (tfV rfl tfNil)))) eaNil) (taV taNil) w5 (poV poNil)) csNil))))) (tfV (fz_of rfl) (tfV (fz_of rfl) (tfV (fz_of rfl) (tfV (fz_of rfl) (tfV (fz_of rfl) tfNil)))))) (asN rfl rfl rfl)) (qkN (sqC (xRet (xCall (eaN rfl (eaV (xLst (csV (xTup (csV xV (csV xV (csV xV csNil))) (tfV rfl (tfV rfl (tfV rfl tfNil)))) (csV (xTup (csV xV (csV xV (csV xV csNil))) (tfV rfl (tfV rfl (tfV rfl tfNil)))) (csV xV (csV (xTup (csV xV (csV xV csNil)) (tfV rfl (tfV rfl tfNil))) (csV xV csNil))))) (tfV rfl (tfV rfl (tfV rfl (tfV rfl (tfV rfl tfNil)))))) eaNil)) (taNl rfl end_fz rfl (taV taNil)) s1 (poV (poV poNil)))) qkR)))))))
  · exact rkR rfl
end LK
set_option Elab.async false
set_option linter.all false
set_option maxRecDepth 100000
set_option maxHeartbeats 8000000
namespace LK
open PySem PySem.Spec PyProof.Rows L2 LamX VI
structure G0 (P : Program) (w : World) (Γ : VI.Ctx) (mg : Str → Option Value) (base : Heap) (tb : Nat → Addr × Addr) : Prop where
  hz : Γ.fix = []
  hier : HierOk Γ hier
  c_BadCars : mg "BadCars" = some (.ref (Γ.cls 1))
  c_DueError : mg "DueError" = some (.ref (Γ.cls 0))
  g_MOST_CARS : ∃ t, mg "MOST_CARS" = some (.int (60) t)
  h_DueError : ∀ k b, exm_DueError k = some b → PySem.W.exmOne Γ.K (.ref (Γ.cls k)) (.ref (Γ.cls 0)) = some b
  ie_DueError : ∀ k, exm_DueError k = some true → ExcC Γ.K (Γ.cls k)
  kq_DueError_BadCars : ∀ k, exm_DueError k = some true → PySem.W.kitOne Γ.K (.ref (Γ.cls k)) (.ref (Γ.cls 1)) = some (subC k 1)
  kt_DueError_ValueError : ∀ k, exm_DueError k = some true → PySem.W.kitOne Γ.K (.ref (Γ.cls k)) (.type "ValueError") = some true
  l__law_refused : HofAt Γ.K mg "_law_refused" "call" s_22
  n_ValueError : mg "ValueError" = none
  n_abs : mg "abs" = none
  n_all : mg "all" = none
  n_bool : mg "bool" = none
  n_enumerate : mg "enumerate" = none
  n_int : mg "int" = none
  n_isinstance : mg "isinstance" = none
  n_len : mg "len" = none
  n_list : mg "list" = none
  n_min : mg "min" = none
  n_range : mg "range" = none
  n_repr : mg "repr" = none
  n_sorted : mg "sorted" = none
  n_str : mg "str" = none
  n_sum : mg "sum" = none
  n_tuple : mg "tuple" = none
  n_zip : mg "zip" = none
  v_ascending : mg "ascending" = some (.ref (Γ.fn 12))
  v_driven : mg "driven" = some (.ref (Γ.fn 10))
  v_lucky : mg "lucky" = some (.ref (Γ.fn 11))
  v_park : mg "park" = some (.ref (Γ.fn 5))
  v_short_place : mg "short_place" = some (.ref (Γ.fn 9))
  x_BadCars : Exc0 Γ.K (Γ.cls 1)
  tab_25 : TabB base mg (tb 25).1 (tb 25).2
  mem_25 : ((tb 25).2, (("_law_is_right" : Str) ++ ".<locals>." ++ "<lambda>" : Str)) ∈ Γ.T
  uni_25 : ∀ q ∈ Γ.T, q.1 = (tb 25).2 → q.2 = (("_law_is_right" : Str) ++ ".<locals>." ++ "<lambda>" : Str)
  tab_26 : TabB base mg (tb 26).1 (tb 26).2
  mem_26 : ((tb 26).2, (("_law_is_judged" : Str) ++ ".<locals>." ++ "<lambda>" : Str)) ∈ Γ.T
  uni_26 : ∀ q ∈ Γ.T, q.1 = (tb 26).2 → q.2 = (("_law_is_judged" : Str) ++ ".<locals>." ++ "<lambda>" : Str)
  e_0 : DefIn Γ.K "is_integer" "is_integer" s_0 (["thing"] : List Str) (fun _ => True) (fun f => mg "is_integer" = some (.ref f) ∧ PySem.W.keepIn Γ.K (.ref f) = true)
  e_1 : DefIn Γ.K "is_within" "is_within" s_1 (["thing", "low", "high"] : List Str) (fun _ => True) (fun f => mg "is_within" = some (.ref f) ∧ PySem.W.keepIn Γ.K (.ref f) = true)
  e_2 : DefIn Γ.K "is_wishes" "is_wishes" s_2 (["thing"] : List Str) (fun _ => True) (fun f => mg "is_wishes" = some (.ref f) ∧ PySem.W.keepIn Γ.K (.ref f) = true)
  e_3 : DefIn Γ.K "check_wishes" "check_wishes" s_3 (["wishes"] : List Str) (fun _ => True) (fun f => mg "check_wishes" = some (.ref f) ∧ PySem.W.keepIn Γ.K (.ref f) = true)
  e_4 : DefIn Γ.K "parked" "parked" s_4 (["wishes"] : List Str) (fun _ => True) (fun f => mg "parked" = some (.ref f) ∧ PySem.W.keepIn Γ.K (.ref f) = true)
  e_5 : DefIn Γ.K "park" "park" s_5 (["wishes"] : List Str) (fun _ => True) (fun f => mg "park" = some (.ref f) ∧ PySem.W.keepIn Γ.K (.ref f) = true)
  e_6 : DefIn Γ.K "parks_all" "parks_all" s_6 (["wishes"] : List Str) (fun _ => True) (fun f => mg "parks_all" = some (.ref f) ∧ PySem.W.keepIn Γ.K (.ref f) = true)
  e_7 : DefIn Γ.K "is_parking" "is_parking" s_7 (["thing"] : List Str) (fun _ => True) (fun f => mg "is_parking" = some (.ref f) ∧ PySem.W.keepIn Γ.K (.ref f) = true)
  e_8 : DefIn Γ.K "check_parking" "check_parking" s_8 (["wishes"] : List Str) (fun _ => True) (fun f => mg "check_parking" = some (.ref f) ∧ PySem.W.keepIn Γ.K (.ref f) = true)
  e_9 : DefIn Γ.K "short_place" "short_place" s_9 (["wishes"] : List Str) (fun _ => True) (fun f => mg "short_place" = some (.ref f) ∧ PySem.W.keepIn Γ.K (.ref f) = true)
  e_10 : DefIn Γ.K "driven" "driven" s_10 (["wishes"] : List Str) (fun _ => True) (fun f => mg "driven" = some (.ref f) ∧ PySem.W.keepIn Γ.K (.ref f) = true)
  e_11 : DefIn Γ.K "lucky" "lucky" s_11 (["wishes"] : List Str) (fun _ => True) (fun f => mg "lucky" = some (.ref f) ∧ PySem.W.keepIn Γ.K (.ref f) = true)
  e_12 : DefIn Γ.K "ascending" "ascending" s_12 (["wishes"] : List Str) (fun _ => True) (fun f => mg "ascending" = some (.ref f) ∧ PySem.W.keepIn Γ.K (.ref f) = true)
  e_13 : DefIn Γ.K "_law_hand" "_law_hand" s_13 (["script"] : List Str) (fun _ => True) (fun f => mg "_law_hand" = some (.ref f) ∧ PySem.W.keepIn Γ.K (.ref f) = true)
  e_14 : DefIn Γ.K "_law_draw" "_law_draw" s_14 (["hand", "many"] : List Str) (fun _ => True) (fun f => mg "_law_draw" = some (.ref f) ∧ PySem.W.keepIn Γ.K (.ref f) = true)
  e_15 : DefIn Γ.K "_law_any" "_law_any" s_15 (["hand", "some"] : List Str) (fun _ => True) (fun f => mg "_law_any" = some (.ref f) ∧ PySem.W.keepIn Γ.K (.ref f) = true)
  e_16 : DefIn Γ.K "_law_mixed" "_law_mixed" s_16 (["hand", "some"] : List Str) (fun _ => True) (fun f => mg "_law_mixed" = some (.ref f) ∧ PySem.W.keepIn Γ.K (.ref f) = true)
  e_17 : DefIn Γ.K "_law_same" "_law_same" s_17 (["one", "due"] : List Str) (fun _ => True) (fun f => mg "_law_same" = some (.ref f) ∧ PySem.W.keepIn Γ.K (.ref f) = true)
  e_18 : DefIn Γ.K "_law_wishes" "_law_wishes" s_18 (["hand", "many"] : List Str) (fun _ => True) (fun f => mg "_law_wishes" = some (.ref f) ∧ PySem.W.keepIn Γ.K (.ref f) = true)
  e_19 : DefIn Γ.K "_law_parked" "_law_parked" s_19 (["wishes"] : List Str) (fun _ => True) (fun f => mg "_law_parked" = some (.ref f) ∧ PySem.W.keepIn Γ.K (.ref f) = true)
  e_20 : DefIn Γ.K "_law_short" "_law_short" s_20 (["wishes"] : List Str) (fun _ => True) (fun f => mg "_law_short" = some (.ref f) ∧ PySem.W.keepIn Γ.K (.ref f) = true)
  e_21 : DefIn Γ.K "_law_are_wishes" "_law_are_wishes" s_21 (["thing"] : List Str) (fun _ => True) (fun f => mg "_law_are_wishes" = some (.ref f) ∧ PySem.W.keepIn Γ.K (.ref f) = true)
  e_23 : DefIn Γ.K "_law_deep" "_law_deep" s_23 (["hand"] : List Str) (fun _ => True) (fun f => mg "_law_deep" = some (.ref f) ∧ PySem.W.keepIn Γ.K (.ref f) = true)
  e_24 : DefIn Γ.K "_law_bent" "_law_bent" s_24 (["hand", "wishes"] : List Str) (fun _ => True) (fun f => mg "_law_bent" = some (.ref f) ∧ PySem.W.keepIn Γ.K (.ref f) = true)
  e_25 : DefIn Γ.K "_law_is_right" "_law_is_right" s_25 (["hand", "wishes"] : List Str) (fun c => c = .ref (tb 25).1) (fun f => mg "_law_is_right" = some (.ref f) ∧ PySem.W.keepIn Γ.K (.ref f) = true)
  e_26 : DefIn Γ.K "_law_is_judged" "_law_is_judged" s_26 (["hand", "thing"] : List Str) (fun c => c = .ref (tb 26).1) (fun f => mg "_law_is_judged" = some (.ref f) ∧ PySem.W.keepIn Γ.K (.ref f) = true)
  e_27 : DefIn Γ.K "law" "law" s_27 (["script"] : List Str) (fun _ => True) (fun f => mg "law" = some (.ref f) ∧ PySem.W.keepIn Γ.K (.ref f) = true)
theorem mkGG {P : Program} {w : World} {Γ : VI.Ctx} {mg : Str → Option Value} {base : Heap} {tb : Nat → Addr × Addr} (G : G0 P w Γ mg base tb) (call : Call) (k : Nat)
    (h_0 : ∀ f fd cdv, DFn Γ.K "is_integer" "is_integer" s_0 f fd cdv → (fun _ => True) cdv → FnOk P w Γ.K mg base (L2.CX P w) k f fd (["thing"] : List Str) (spF Γ call 0))
    (h_1 : ∀ f fd cdv, DFn Γ.K "is_within" "is_within" s_1 f fd cdv → (fun _ => True) cdv → FnOk P w Γ.K mg base (L2.CX P w) k f fd (["thing", "low", "high"] : List Str) (spF Γ call 1))
    (h_2 : ∀ f fd cdv, DFn Γ.K "is_wishes" "is_wishes" s_2 f fd cdv → (fun _ => True) cdv → FnOk P w Γ.K mg base (L2.CX P w) k f fd (["thing"] : List Str) (spF Γ call 2))
    (h_3 : ∀ f fd cdv, DFn Γ.K "check_wishes" "check_wishes" s_3 f fd cdv → (fun _ => True) cdv → FnOk P w Γ.K mg base (L2.CX P w) k f fd (["wishes"] : List Str) (spF Γ call 3))
    (h_4 : ∀ f fd cdv, DFn Γ.K "parked" "parked" s_4 f fd cdv → (fun _ => True) cdv → FnOk P w Γ.K mg base (L2.CX P w) k f fd (["wishes"] : List Str) (spF Γ call 4))
    (h_5 : ∀ f fd cdv, DFn Γ.K "park" "park" s_5 f fd cdv → (fun _ => True) cdv → FnOk P w Γ.K mg base (L2.CX P w) k f fd (["wishes"] : List Str) (spF Γ call 5))
    (h_6 : ∀ f fd cdv, DFn Γ.K "parks_all" "parks_all" s_6 f fd cdv → (fun _ => True) cdv → FnOk P w Γ.K mg base (L2.CX P w) k f fd (["wishes"] : List Str) (spF Γ call 6))
    (h_7 : ∀ f fd cdv, DFn Γ.K "is_parking" "is_parking" s_7 f fd cdv → (fun _ => True) cdv → FnOk P w Γ.K mg base (L2.CX P w) k f fd (["thing"] : List Str) (spF Γ call 7))
    (h_8 : ∀ f fd cdv, DFn Γ.K "check_parking" "check_parking" s_8 f fd cdv → (fun _ => True) cdv → FnOk P w Γ.K mg base (L2.CX P w) k f fd (["wishes"] : List Str) (spF Γ call 8))
    (h_9 : ∀ f fd cdv, DFn Γ.K "short_place" "short_place" s_9 f fd cdv → (fun _ => True) cdv → FnOk P w Γ.K mg base (L2.CX P w) k f fd (["wishes"] : List Str) (spF Γ call 9))
    (h_10 : ∀ f fd cdv, DFn Γ.K "driven" "driven" s_10 f fd cdv → (fun _ => True) cdv → FnOk P w Γ.K mg base (L2.CX P w) k f fd (["wishes"] : List Str) (spF Γ call 10))
    (h_11 : ∀ f fd cdv, DFn Γ.K "lucky" "lucky" s_11 f fd cdv → (fun _ => True) cdv → FnOk P w Γ.K mg base (L2.CX P w) k f fd (["wishes"] : List Str) (spF Γ call 11))
    (h_12 : ∀ f fd cdv, DFn Γ.K "ascending" "ascending" s_12 f fd cdv → (fun _ => True) cdv → FnOk P w Γ.K mg base (L2.CX P w) k f fd (["wishes"] : List Str) (spF Γ call 12))
    (h_13 : ∀ f fd cdv, DFn Γ.K "_law_hand" "_law_hand" s_13 f fd cdv → (fun _ => True) cdv → FnOk P w Γ.K mg base (L2.CX P w) k f fd (["script"] : List Str) (spF Γ call 13))
    (h_14 : ∀ f fd cdv, DFn Γ.K "_law_draw" "_law_draw" s_14 f fd cdv → (fun _ => True) cdv → FnOk P w Γ.K mg base (L2.CX P w) k f fd (["hand", "many"] : List Str) (spF Γ call 14))
    (h_15 : ∀ f fd cdv, DFn Γ.K "_law_any" "_law_any" s_15 f fd cdv → (fun _ => True) cdv → FnOk P w Γ.K mg base (L2.CX P w) k f fd (["hand", "some"] : List Str) (spF Γ call 15))
    (h_16 : ∀ f fd cdv, DFn Γ.K "_law_mixed" "_law_mixed" s_16 f fd cdv → (fun _ => True) cdv → FnOk P w Γ.K mg base (L2.CX P w) k f fd (["hand", "some"] : List Str) (spF Γ call 16))
    (h_17 : ∀ f fd cdv, DFn Γ.K "_law_same" "_law_same" s_17 f fd cdv → (fun _ => True) cdv → FnOk P w Γ.K mg base (L2.CX P w) k f fd (["one", "due"] : List Str) (spF Γ call 17))
    (h_18 : ∀ f fd cdv, DFn Γ.K "_law_wishes" "_law_wishes" s_18 f fd cdv → (fun _ => True) cdv → FnOk P w Γ.K mg base (L2.CX P w) k f fd (["hand", "many"] : List Str) (spF Γ call 18))
    (h_19 : ∀ f fd cdv, DFn Γ.K "_law_parked" "_law_parked" s_19 f fd cdv → (fun _ => True) cdv → FnOk P w Γ.K mg base (L2.CX P w) k f fd (["wishes"] : List Str) (spF Γ call 19))
    (h_20 : ∀ f fd cdv, DFn Γ.K "_law_short" "_law_short" s_20 f fd cdv → (fun _ => True) cdv → FnOk P w Γ.K mg base (L2.CX P w) k f fd (["wishes"] : List Str) (spF Γ call 20))
    (h_21 : ∀ f fd cdv, DFn Γ.K "_law_are_wishes" "_law_are_wishes" s_21 f fd cdv → (fun _ => True) cdv → FnOk P w Γ.K mg base (L2.CX P w) k f fd (["thing"] : List Str) (spF Γ call 21))
    (h_23 : ∀ f fd cdv, DFn Γ.K "_law_deep" "_law_deep" s_23 f fd cdv → (fun _ => True) cdv → FnOk P w Γ.K mg base (L2.CX P w) k f fd (["hand"] : List Str) (spF Γ call 23))
    (h_24 : ∀ f fd cdv, DFn Γ.K "_law_bent" "_law_bent" s_24 f fd cdv → (fun _ => True) cdv → FnOk P w Γ.K mg base (L2.CX P w) k f fd (["hand", "wishes"] : List Str) (spF Γ call 24))
    (h_25 : ∀ f fd cdv, DFn Γ.K "_law_is_right" "_law_is_right" s_25 f fd cdv → (fun c => c = .ref (tb 25).1) cdv → FnOkG P w Γ.K mg base (L2.CX P w) k f fd (["hand", "wishes"] : List Str) (spF Γ call 25))
    (h_26 : ∀ f fd cdv, DFn Γ.K "_law_is_judged" "_law_is_judged" s_26 f fd cdv → (fun c => c = .ref (tb 26).1) cdv → FnOkG P w Γ.K mg base (L2.CX P w) k f fd (["hand", "thing"] : List Str) (spF Γ call 26)) : GG P w Γ mg base call k tb where
  hz := G.hz
  hier := G.hier
  c_BadCars := G.c_BadCars
  c_DueError := G.c_DueError
  g_MOST_CARS := G.g_MOST_CARS
  h_DueError := G.h_DueError
  ie_DueError := G.ie_DueError
  kq_DueError_BadCars := G.kq_DueError_BadCars
  kt_DueError_ValueError := G.kt_DueError_ValueError
  l__law_refused := G.l__law_refused
  n_ValueError := G.n_ValueError
  n_abs := G.n_abs
  n_all := G.n_all
  n_bool := G.n_bool
  n_enumerate := G.n_enumerate
  n_int := G.n_int
  n_isinstance := G.n_isinstance
  n_len := G.n_len
  n_list := G.n_list
  n_min := G.n_min
  n_range := G.n_range
  n_repr := G.n_repr
  n_sorted := G.n_sorted
  n_str := G.n_str
  n_sum := G.n_sum
  n_tuple := G.n_tuple
  n_zip := G.n_zip
  v_ascending := G.v_ascending
  v_driven := G.v_driven
  v_lucky := G.v_lucky
  v_park := G.v_park
  v_short_place := G.v_short_place
  x_BadCars := G.x_BadCars
  tab_25 := G.tab_25
  mem_25 := G.mem_25
  uni_25 := G.uni_25
  tab_26 := G.tab_26
  mem_26 := G.mem_26
  uni_26 := G.uni_26
  d__law_any := by
    obtain ⟨f, fd, cdv, F, b, c, l1, l2⟩ := G.e_15.ex
    exact ⟨⟨f, fd, _, h_15 f fd cdv F c, l1, l2, b⟩⟩
  d__law_are_wishes := by
    obtain ⟨f, fd, cdv, F, b, c, l1, l2⟩ := G.e_21.ex
    exact ⟨⟨f, fd, _, h_21 f fd cdv F c, l1, l2, b⟩⟩
  d__law_bent := by
    obtain ⟨f, fd, cdv, F, b, c, l1, l2⟩ := G.e_24.ex
    exact ⟨⟨f, fd, _, h_24 f fd cdv F c, l1, l2, b⟩⟩
  d__law_deep := by
    obtain ⟨f, fd, cdv, F, b, c, l1, l2⟩ := G.e_23.ex
    exact ⟨⟨f, fd, _, h_23 f fd cdv F c, l1, l2, b⟩⟩
  d__law_draw := by
    obtain ⟨f, fd, cdv, F, b, c, l1, l2⟩ := G.e_14.ex
    exact ⟨⟨f, fd, _, h_14 f fd cdv F c, l1, l2, b⟩⟩
  d__law_hand := by
    obtain ⟨f, fd, cdv, F, b, c, l1, l2⟩ := G.e_13.ex
    exact ⟨⟨f, fd, _, h_13 f fd cdv F c, l1, l2, b⟩⟩
  d__law_is_judged := by
    obtain ⟨f, fd, cdv, F, b, c, l1, l2⟩ := G.e_26.ex
    exact ⟨⟨f, fd, _, h_26 f fd cdv F c, l1, l2, b⟩⟩
  d__law_is_right := by
    obtain ⟨f, fd, cdv, F, b, c, l1, l2⟩ := G.e_25.ex
    exact ⟨⟨f, fd, _, h_25 f fd cdv F c, l1, l2, b⟩⟩
  d__law_mixed := by
    obtain ⟨f, fd, cdv, F, b, c, l1, l2⟩ := G.e_16.ex
    exact ⟨⟨f, fd, _, h_16 f fd cdv F c, l1, l2, b⟩⟩
  d__law_parked := by
    obtain ⟨f, fd, cdv, F, b, c, l1, l2⟩ := G.e_19.ex
    exact ⟨⟨f, fd, _, h_19 f fd cdv F c, l1, l2, b⟩⟩
  d__law_same := by
    obtain ⟨f, fd, cdv, F, b, c, l1, l2⟩ := G.e_17.ex
    exact ⟨⟨f, fd, _, h_17 f fd cdv F c, l1, l2, b⟩⟩
  d__law_short := by
    obtain ⟨f, fd, cdv, F, b, c, l1, l2⟩ := G.e_20.ex
    exact ⟨⟨f, fd, _, h_20 f fd cdv F c, l1, l2, b⟩⟩
  d__law_wishes := by
    obtain ⟨f, fd, cdv, F, b, c, l1, l2⟩ := G.e_18.ex
    exact ⟨⟨f, fd, _, h_18 f fd cdv F c, l1, l2, b⟩⟩
  d_ascending := by
    obtain ⟨f, fd, cdv, F, b, c, l1, l2⟩ := G.e_12.ex
    exact ⟨⟨f, fd, _, h_12 f fd cdv F c, l1, l2, b⟩⟩
  d_check_parking := by
    obtain ⟨f, fd, cdv, F, b, c, l1, l2⟩ := G.e_8.ex
    exact ⟨⟨f, fd, _, h_8 f fd cdv F c, l1, l2, b⟩⟩
  d_check_wishes := by
    obtain ⟨f, fd, cdv, F, b, c, l1, l2⟩ := G.e_3.ex
    exact ⟨⟨f, fd, _, h_3 f fd cdv F c, l1, l2, b⟩⟩
  d_driven := by
    obtain ⟨f, fd, cdv, F, b, c, l1, l2⟩ := G.e_10.ex
    exact ⟨⟨f, fd, _, h_10 f fd cdv F c, l1, l2, b⟩⟩
  d_is_integer := by
    obtain ⟨f, fd, cdv, F, b, c, l1, l2⟩ := G.e_0.ex
    exact ⟨⟨f, fd, _, h_0 f fd cdv F c, l1, l2, b⟩⟩
  d_is_parking := by
    obtain ⟨f, fd, cdv, F, b, c, l1, l2⟩ := G.e_7.ex
    exact ⟨⟨f, fd, _, h_7 f fd cdv F c, l1, l2, b⟩⟩
  d_is_wishes := by
    obtain ⟨f, fd, cdv, F, b, c, l1, l2⟩ := G.e_2.ex
    exact ⟨⟨f, fd, _, h_2 f fd cdv F c, l1, l2, b⟩⟩
  d_is_within := by
    obtain ⟨f, fd, cdv, F, b, c, l1, l2⟩ := G.e_1.ex
    exact ⟨⟨f, fd, _, h_1 f fd cdv F c, l1, l2, b⟩⟩
  d_lucky := by
    obtain ⟨f, fd, cdv, F, b, c, l1, l2⟩ := G.e_11.ex
    exact ⟨⟨f, fd, _, h_11 f fd cdv F c, l1, l2, b⟩⟩
  d_park := by
    obtain ⟨f, fd, cdv, F, b, c, l1, l2⟩ := G.e_5.ex
    exact ⟨⟨f, fd, _, h_5 f fd cdv F c, l1, l2, b⟩⟩
  d_parked := by
    obtain ⟨f, fd, cdv, F, b, c, l1, l2⟩ := G.e_4.ex
    exact ⟨⟨f, fd, _, h_4 f fd cdv F c, l1, l2, b⟩⟩
  d_parks_all := by
    obtain ⟨f, fd, cdv, F, b, c, l1, l2⟩ := G.e_6.ex
    exact ⟨⟨f, fd, _, h_6 f fd cdv F c, l1, l2, b⟩⟩
  d_short_place := by
    obtain ⟨f, fd, cdv, F, b, c, l1, l2⟩ := G.e_9.ex
    exact ⟨⟨f, fd, _, h_9 f fd cdv F c, l1, l2, b⟩⟩
theorem ggAll {P : Program} {w : World} {Γ : VI.Ctx} {mg : Str → Option Value} {base : Heap} {tb : Nat → Addr × Addr} (G : G0 P w Γ mg base tb) : ∀ d : Nat, GG P w Γ mg base (callN Pr d) (16 * d) tb
  | 0 => mkGG G _ _ (fun _ _ _ _ _ => def_ok0) (fun _ _ _ _ _ => def_ok0) (fun _ _ _ _ _ => def_ok0) (fun _ _ _ _ _ => def_ok0) (fun _ _ _ _ _ => def_ok0) (fun _ _ _ _ _ => def_ok0) (fun _ _ _ _ _ => def_ok0) (fun _ _ _ _ _ => def_ok0) (fun _ _ _ _ _ => def_ok0) (fun _ _ _ _ _ => def_ok0) (fun _ _ _ _ _ => def_ok0) (fun _ _ _ _ _ => def_ok0) (fun _ _ _ _ _ => def_ok0) (fun _ _ _ _ _ => def_ok0) (fun _ _ _ _ _ => def_ok0) (fun _ _ _ _ _ => def_ok0) (fun _ _ _ _ _ => def_ok0) (fun _ _ _ _ _ => def_ok0) (fun _ _ _ _ _ => def_ok0) (fun _ _ _ _ _ => def_ok0) (fun _ _ _ _ _ => def_ok0) (fun _ _ _ _ _ => def_ok0) (fun _ _ _ _ _ => def_ok0) (fun _ _ _ _ _ => def_ok0) (fun _ _ _ _ _ => def_ok0G) (fun _ _ _ _ _ => def_ok0G)
  | d + 1 => mkGG G _ _
    (fun f fd cdv F c => def_okC (m := 16 * d + 15) (d := d) (fdv := f_0) (Pr := Pr) G.hz F sc_0 rfl rfl rfl (by decide) (by omega) fun A outer s H E hr => t_0 (ggAll G d) (by omega) hr)
    (fun f fd cdv F c => def_okC (m := 16 * d + 15) (d := d) (fdv := f_1) (Pr := Pr) G.hz F sc_1 rfl rfl rfl (by decide) (by omega) fun A outer s H E hr => t_1 (ggAll G d) (by omega) hr)
    (fun f fd cdv F c => def_okC (m := 16 * d + 15) (d := d) (fdv := f_2) (Pr := Pr) G.hz F sc_2 rfl rfl rfl (by decide) (by omega) fun A outer s H E hr => t_2 (ggAll G d) (by omega) hr)
    (fun f fd cdv F c => def_okC (m := 16 * d + 15) (d := d) (fdv := f_3) (Pr := Pr) G.hz F sc_3 rfl rfl rfl (by decide) (by omega) fun A outer s H E hr => t_3 (ggAll G d) (by omega) hr)
    (fun f fd cdv F c => def_okC (m := 16 * d + 15) (d := d) (fdv := f_4) (Pr := Pr) G.hz F sc_4 rfl rfl rfl (by decide) (by omega) fun A outer s H E hr => t_4 (ggAll G d) (by omega) hr)
    (fun f fd cdv F c => def_okC (m := 16 * d + 15) (d := d) (fdv := f_5) (Pr := Pr) G.hz F sc_5 rfl rfl rfl (by decide) (by omega) fun A outer s H E hr => t_5 (ggAll G d) (by omega) hr)
    (fun f fd cdv F c => def_okC (m := 16 * d + 15) (d := d) (fdv := f_6) (Pr := Pr) G.hz F sc_6 rfl rfl rfl (by decide) (by omega) fun A outer s H E hr => t_6 (ggAll G d) (by omega) hr)
    (fun f fd cdv F c => def_okC (m := 16 * d + 15) (d := d) (fdv := f_7) (Pr := Pr) G.hz F sc_7 rfl rfl rfl (by decide) (by omega) fun A outer s H E hr => t_7 (ggAll G d) (by omega) hr)
    (fun f fd cdv F c => def_okC (m := 16 * d + 15) (d := d) (fdv := f_8) (Pr := Pr) G.hz F sc_8 rfl rfl rfl (by decide) (by omega) fun A outer s H E hr => t_8 (ggAll G d) (by omega) hr)
    (fun f fd cdv F c => def_okC (m := 16 * d + 15) (d := d) (fdv := f_9) (Pr := Pr) G.hz F sc_9 rfl rfl rfl (by decide) (by omega) fun A outer s H E hr => t_9 (ggAll G d) (by omega) hr)
    (fun f fd cdv F c => def_okC (m := 16 * d + 15) (d := d) (fdv := f_10) (Pr := Pr) G.hz F sc_10 rfl rfl rfl (by decide) (by omega) fun A outer s H E hr => t_10 (ggAll G d) (by omega) hr)
    (fun f fd cdv F c => def_okC (m := 16 * d + 15) (d := d) (fdv := f_11) (Pr := Pr) G.hz F sc_11 rfl rfl rfl (by decide) (by omega) fun A outer s H E hr => t_11 (ggAll G d) (by omega) hr)
    (fun f fd cdv F c => def_okC (m := 16 * d + 15) (d := d) (fdv := f_12) (Pr := Pr) G.hz F sc_12 rfl rfl rfl (by decide) (by omega) fun A outer s H E hr => t_12 (ggAll G d) (by omega) hr)
    (fun f fd cdv F c => def_okC (m := 16 * d + 15) (d := d) (fdv := f_13) (Pr := Pr) G.hz F sc_13 rfl rfl rfl (by decide) (by omega) fun A outer s H E hr => t_13 (ggAll G d) (by omega) hr)
    (fun f fd cdv F c => def_okC (m := 16 * d + 15) (d := d) (fdv := f_14) (Pr := Pr) G.hz F sc_14 rfl rfl rfl (by decide) (by omega) fun A outer s H E hr => t_14 (ggAll G d) (by omega) hr)
    (fun f fd cdv F c => def_okC (m := 16 * d + 15) (d := d) (fdv := f_15) (Pr := Pr) G.hz F sc_15 rfl rfl rfl (by decide) (by omega) fun A outer s H E hr => t_15 (ggAll G d) (by omega) hr)
    (fun f fd cdv F c => def_okC (m := 16 * d + 15) (d := d) (fdv := f_16) (Pr := Pr) G.hz F sc_16 rfl rfl rfl (by decide) (by omega) fun A outer s H E hr => t_16 (ggAll G d) (by omega) hr)
    (fun f fd cdv F c => def_okC (m := 16 * d + 15) (d := d) (fdv := f_17) (Pr := Pr) G.hz F sc_17 rfl rfl rfl (by decide) (by omega) fun A outer s H E hr => t_17 (ggAll G d) (by omega) hr)
    (fun f fd cdv F c => def_okC (m := 16 * d + 15) (d := d) (fdv := f_18) (Pr := Pr) G.hz F sc_18 rfl rfl rfl (by decide) (by omega) fun A outer s H E hr => t_18 (ggAll G d) (by omega) hr)
    (fun f fd cdv F c => def_okC (m := 16 * d + 15) (d := d) (fdv := f_19) (Pr := Pr) G.hz F sc_19 rfl rfl rfl (by decide) (by omega) fun A outer s H E hr => t_19 (ggAll G d) (by omega) hr)
    (fun f fd cdv F c => def_okC (m := 16 * d + 15) (d := d) (fdv := f_20) (Pr := Pr) G.hz F sc_20 rfl rfl rfl (by decide) (by omega) fun A outer s H E hr => t_20 (ggAll G d) (by omega) hr)
    (fun f fd cdv F c => def_okC (m := 16 * d + 15) (d := d) (fdv := f_21) (Pr := Pr) G.hz F sc_21 rfl rfl rfl (by decide) (by omega) fun A outer s H E hr => t_21 (ggAll G d) (by omega) hr)
    (fun f fd cdv F c => def_okC (m := 16 * d + 15) (d := d) (fdv := f_23) (Pr := Pr) G.hz F sc_23 rfl rfl rfl (by decide) (by omega) fun A outer s H E hr => t_23 (ggAll G d) (by omega) hr)
    (fun f fd cdv F c => def_okC (m := 16 * d + 15) (d := d) (fdv := f_24) (Pr := Pr) G.hz F sc_24 rfl rfl rfl (by decide) (by omega) fun A outer s H E hr => t_24 (ggAll G d) (by omega) hr)
    (fun f fd cdv F c => def_okG (m := 16 * d + 15) (d := d) (fdv := f_25) (Pr := Pr) G.hz F sc_25 rfl rfl rfl (by decide) (by omega) fun A outer s H E hgd hr => t_25 (ggAll G d) (by omega) c hgd hr)
    (fun f fd cdv F c => def_okG (m := 16 * d + 15) (d := d) (fdv := f_26) (Pr := Pr) G.hz F sc_26 rfl rfl rfl (by decide) (by omega) fun A outer s H E hgd hr => t_26 (ggAll G d) (by omega) c hgd hr)
theorem ggLaw {P : Program} {w : World} {Γ : VI.Ctx} {mg : Str → Option Value} {base : Heap} {tb : Nat → Addr × Addr} (G : G0 P w Γ mg base tb) {f : Addr} {fd : FuncData} {cdv : Value} (F : DFn Γ.K "law" "law" s_27 f fd cdv) : LawRun P w Γ.K mg base (L2.CX P w) f fd "script" (spF Γ (callN Pr 9) 27) :=
  lawRun_of (m := 143) (d := 8) (fdv := f_27) (Pr := Pr) G.hz F sc_27 rfl rfl rfl (by decide) ⟨rfl, by decide, by decide⟩ fun A outer s H E hgd hr => t_27 (ggAll G 8) (by omega) hgd hr
theorem all_mk {l : PySem.W.OpenLaw} {w : World} {K : PySem.W.Frag} {h : Heap} {mg : Str → Option Value} {fa : Addr} (X : K.In h) (G : h.Ns mainGlobals mg) (hfa : mg "law" = some (.ref fa)) (hpure : ∀ ns : List Int, ns.length ≤ 63 → callN Pr 9 27 [.lst false (intsV ns)] = .ok (.bl true) [])
    (hTab : ∀ y ∈ (["_law_is_right", "_law_is_judged"] : List Str), TabX K h y)
    {C0 C1 f0 f1 f2 f3 f4 f5 f6 f7 f8 f9 f10 f11 f12 f13 f14 f15 f16 f17 f18 f19 f20 f21 f22 f23 f24 f25 f26 f27 c_25 P25 c_26 P26 : Addr}
    {oc0 kV0 dc0 pm0 cd0 ct0 oc1 kV1 dc1 pm1 cd1 ct1 oc2 kV2 dc2 pm2 cd2 ct2 oc3 kV3 dc3 pm3 cd3 ct3 oc4 kV4 dc4 pm4 cd4 ct4 oc5 kV5 dc5 pm5 cd5 ct5 oc6 kV6 dc6 pm6 cd6 ct6 oc7 kV7 dc7 pm7 cd7 ct7 oc8 kV8 dc8 pm8 cd8 ct8 oc9 kV9 dc9 pm9 cd9 ct9 oc10 kV10 dc10 pm10 cd10 ct10 oc11 kV11 dc11 pm11 cd11 ct11 oc12 kV12 dc12 pm12 cd12 ct12 oc13 kV13 dc13 pm13 cd13 ct13 oc14 kV14 dc14 pm14 cd14 ct14 oc15 kV15 dc15 pm15 cd15 ct15 oc16 kV16 dc16 pm16 cd16 ct16 oc17 kV17 dc17 pm17 cd17 ct17 oc18 kV18 dc18 pm18 cd18 ct18 oc19 kV19 dc19 pm19 cd19 ct19 oc20 kV20 dc20 pm20 cd20 ct20 oc21 kV21 dc21 pm21 cd21 ct21 oc22 kV22 dc22 pm22 cd22 ct22 oc23 kV23 dc23 pm23 cd23 ct23 oc24 kV24 dc24 pm24 cd24 ct24 oc25 kV25 dc25 pm25 cd25 ct25 oc26 kV26 dc26 pm26 cd26 ct26 oc27 kV27 dc27 pm27 cd27 ct27 : Value} {od0 an0 od1 an1 od2 an2 od3 an3 od4 an4 od5 an5 od6 an6 od7 an7 od8 an8 od9 an9 od10 an10 od11 an11 od12 an12 od13 an13 od14 an14 od15 an15 od16 an16 od17 an17 od18 an18 od19 an19 od20 an20 od21 an21 od22 an22 od23 an23 od24 an24 od25 an25 od26 an26 od27 an27 : Option Addr} {sl0 sl1 sl2 sl3 sl4 sl5 sl6 sl7 sl8 sl9 sl10 sl11 sl12 sl13 sl14 sl15 sl16 sl17 sl18 sl19 sl20 sl21 sl22 sl23 sl24 sl25 sl26 sl27 : Array (Option Value)}
    {ec25 ec26 : Value} {dd25 dd26 : Option Addr} {vs25 vs26 : Array Value} {sc25 sc26 : Array (Option Value)}
    {t_MOST_CARS : Tok}
    (aC0 : PySem.W.nsIn K mainGlobals "DueError" = some (some (.ref C0)))
    (aC1 : PySem.W.nsIn K mainGlobals "BadCars" = some (some (.ref C1)))
    (a0 : PySem.W.nsIn K mainGlobals "is_integer" = some (some (.ref f0)))
    (k0 : PySem.W.keepIn K (.ref f0) = true)
    (l0 : K.lookup f0 = some ⟨oc0, od0, .func (PySem.W.fnOf "is_integer" "is_integer" (defArgs s_0) (defBody s_0) (defScope s_0) .none kV0 dc0 pm0 an0 cd0 ct0), sl0⟩)
    (c0 : PySem.W.codeIn K cd0 "is_integer" = true)
    (a1 : PySem.W.nsIn K mainGlobals "is_within" = some (some (.ref f1)))
    (k1 : PySem.W.keepIn K (.ref f1) = true)
    (l1 : K.lookup f1 = some ⟨oc1, od1, .func (PySem.W.fnOf "is_within" "is_within" (defArgs s_1) (defBody s_1) (defScope s_1) .none kV1 dc1 pm1 an1 cd1 ct1), sl1⟩)
    (c1 : PySem.W.codeIn K cd1 "is_within" = true)
    (a2 : PySem.W.nsIn K mainGlobals "is_wishes" = some (some (.ref f2)))
    (k2 : PySem.W.keepIn K (.ref f2) = true)
    (l2 : K.lookup f2 = some ⟨oc2, od2, .func (PySem.W.fnOf "is_wishes" "is_wishes" (defArgs s_2) (defBody s_2) (defScope s_2) .none kV2 dc2 pm2 an2 cd2 ct2), sl2⟩)
    (c2 : PySem.W.codeIn K cd2 "is_wishes" = true)
    (a3 : PySem.W.nsIn K mainGlobals "check_wishes" = some (some (.ref f3)))
    (k3 : PySem.W.keepIn K (.ref f3) = true)
    (l3 : K.lookup f3 = some ⟨oc3, od3, .func (PySem.W.fnOf "check_wishes" "check_wishes" (defArgs s_3) (defBody s_3) (defScope s_3) .none kV3 dc3 pm3 an3 cd3 ct3), sl3⟩)
    (c3 : PySem.W.codeIn K cd3 "check_wishes" = true)
    (a4 : PySem.W.nsIn K mainGlobals "parked" = some (some (.ref f4)))
    (k4 : PySem.W.keepIn K (.ref f4) = true)
    (l4 : K.lookup f4 = some ⟨oc4, od4, .func (PySem.W.fnOf "parked" "parked" (defArgs s_4) (defBody s_4) (defScope s_4) .none kV4 dc4 pm4 an4 cd4 ct4), sl4⟩)
    (c4 : PySem.W.codeIn K cd4 "parked" = true)
    (a5 : PySem.W.nsIn K mainGlobals "park" = some (some (.ref f5)))
    (k5 : PySem.W.keepIn K (.ref f5) = true)
    (l5 : K.lookup f5 = some ⟨oc5, od5, .func (PySem.W.fnOf "park" "park" (defArgs s_5) (defBody s_5) (defScope s_5) .none kV5 dc5 pm5 an5 cd5 ct5), sl5⟩)
    (c5 : PySem.W.codeIn K cd5 "park" = true)
    (a6 : PySem.W.nsIn K mainGlobals "parks_all" = some (some (.ref f6)))
    (k6 : PySem.W.keepIn K (.ref f6) = true)
    (l6 : K.lookup f6 = some ⟨oc6, od6, .func (PySem.W.fnOf "parks_all" "parks_all" (defArgs s_6) (defBody s_6) (defScope s_6) .none kV6 dc6 pm6 an6 cd6 ct6), sl6⟩)
    (c6 : PySem.W.codeIn K cd6 "parks_all" = true)
    (a7 : PySem.W.nsIn K mainGlobals "is_parking" = some (some (.ref f7)))
    (k7 : PySem.W.keepIn K (.ref f7) = true)
    (l7 : K.lookup f7 = some ⟨oc7, od7, .func (PySem.W.fnOf "is_parking" "is_parking" (defArgs s_7) (defBody s_7) (defScope s_7) .none kV7 dc7 pm7 an7 cd7 ct7), sl7⟩)
    (c7 : PySem.W.codeIn K cd7 "is_parking" = true)
    (a8 : PySem.W.nsIn K mainGlobals "check_parking" = some (some (.ref f8)))
    (k8 : PySem.W.keepIn K (.ref f8) = true)
    (l8 : K.lookup f8 = some ⟨oc8, od8, .func (PySem.W.fnOf "check_parking" "check_parking" (defArgs s_8) (defBody s_8) (defScope s_8) .none kV8 dc8 pm8 an8 cd8 ct8), sl8⟩)
    (c8 : PySem.W.codeIn K cd8 "check_parking" = true)
    (a9 : PySem.W.nsIn K mainGlobals "short_place" = some (some (.ref f9)))
    (k9 : PySem.W.keepIn K (.ref f9) = true)
    (l9 : K.lookup f9 = some ⟨oc9, od9, .func (PySem.W.fnOf "short_place" "short_place" (defArgs s_9) (defBody s_9) (defScope s_9) .none kV9 dc9 pm9 an9 cd9 ct9), sl9⟩)
    (c9 : PySem.W.codeIn K cd9 "short_place" = true)
    (a10 : PySem.W.nsIn K mainGlobals "driven" = some (some (.ref f10)))
    (k10 : PySem.W.keepIn K (.ref f10) = true)
    (l10 : K.lookup f10 = some ⟨oc10, od10, .func (PySem.W.fnOf "driven" "driven" (defArgs s_10) (defBody s_10) (defScope s_10) .none kV10 dc10 pm10 an10 cd10 ct10), sl10⟩)
    (c10 : PySem.W.codeIn K cd10 "driven" = true)
    (a11 : PySem.W.nsIn K mainGlobals "lucky" = some (some (.ref f11)))
    (k11 : PySem.W.keepIn K (.ref f11) = true)
    (l11 : K.lookup f11 = some ⟨oc11, od11, .func (PySem.W.fnOf "lucky" "lucky" (defArgs s_11) (defBody s_11) (defScope s_11) .none kV11 dc11 pm11 an11 cd11 ct11), sl11⟩)
    (c11 : PySem.W.codeIn K cd11 "lucky" = true)
    (a12 : PySem.W.nsIn K mainGlobals "ascending" = some (some (.ref f12)))
    (k12 : PySem.W.keepIn K (.ref f12) = true)
    (l12 : K.lookup f12 = some ⟨oc12, od12, .func (PySem.W.fnOf "ascending" "ascending" (defArgs s_12) (defBody s_12) (defScope s_12) .none kV12 dc12 pm12 an12 cd12 ct12), sl12⟩)
    (c12 : PySem.W.codeIn K cd12 "ascending" = true)
    (a13 : PySem.W.nsIn K mainGlobals "_law_hand" = some (some (.ref f13)))
    (k13 : PySem.W.keepIn K (.ref f13) = true)
    (l13 : K.lookup f13 = some ⟨oc13, od13, .func (PySem.W.fnOf "_law_hand" "_law_hand" (defArgs s_13) (defBody s_13) (defScope s_13) .none kV13 dc13 pm13 an13 cd13 ct13), sl13⟩)
    (c13 : PySem.W.codeIn K cd13 "_law_hand" = true)
    (a14 : PySem.W.nsIn K mainGlobals "_law_draw" = some (some (.ref f14)))
    (k14 : PySem.W.keepIn K (.ref f14) = true)
    (l14 : K.lookup f14 = some ⟨oc14, od14, .func (PySem.W.fnOf "_law_draw" "_law_draw" (defArgs s_14) (defBody s_14) (defScope s_14) .none kV14 dc14 pm14 an14 cd14 ct14), sl14⟩)
    (c14 : PySem.W.codeIn K cd14 "_law_draw" = true)
    (a15 : PySem.W.nsIn K mainGlobals "_law_any" = some (some (.ref f15)))
    (k15 : PySem.W.keepIn K (.ref f15) = true)
    (l15 : K.lookup f15 = some ⟨oc15, od15, .func (PySem.W.fnOf "_law_any" "_law_any" (defArgs s_15) (defBody s_15) (defScope s_15) .none kV15 dc15 pm15 an15 cd15 ct15), sl15⟩)
    (c15 : PySem.W.codeIn K cd15 "_law_any" = true)
    (a16 : PySem.W.nsIn K mainGlobals "_law_mixed" = some (some (.ref f16)))
    (k16 : PySem.W.keepIn K (.ref f16) = true)
    (l16 : K.lookup f16 = some ⟨oc16, od16, .func (PySem.W.fnOf "_law_mixed" "_law_mixed" (defArgs s_16) (defBody s_16) (defScope s_16) .none kV16 dc16 pm16 an16 cd16 ct16), sl16⟩)
    (c16 : PySem.W.codeIn K cd16 "_law_mixed" = true)
    (a17 : PySem.W.nsIn K mainGlobals "_law_same" = some (some (.ref f17)))
    (k17 : PySem.W.keepIn K (.ref f17) = true)
    (l17 : K.lookup f17 = some ⟨oc17, od17, .func (PySem.W.fnOf "_law_same" "_law_same" (defArgs s_17) (defBody s_17) (defScope s_17) .none kV17 dc17 pm17 an17 cd17 ct17), sl17⟩)
    (c17 : PySem.W.codeIn K cd17 "_law_same" = true)
    (a18 : PySem.W.nsIn K mainGlobals "_law_wishes" = some (some (.ref f18)))
    (k18 : PySem.W.keepIn K (.ref f18) = true)
    (l18 : K.lookup f18 = some ⟨oc18, od18, .func (PySem.W.fnOf "_law_wishes" "_law_wishes" (defArgs s_18) (defBody s_18) (defScope s_18) .none kV18 dc18 pm18 an18 cd18 ct18), sl18⟩)
    (c18 : PySem.W.codeIn K cd18 "_law_wishes" = true)
    (a19 : PySem.W.nsIn K mainGlobals "_law_parked" = some (some (.ref f19)))
    (k19 : PySem.W.keepIn K (.ref f19) = true)
    (l19 : K.lookup f19 = some ⟨oc19, od19, .func (PySem.W.fnOf "_law_parked" "_law_parked" (defArgs s_19) (defBody s_19) (defScope s_19) .none kV19 dc19 pm19 an19 cd19 ct19), sl19⟩)
    (c19 : PySem.W.codeIn K cd19 "_law_parked" = true)
    (a20 : PySem.W.nsIn K mainGlobals "_law_short" = some (some (.ref f20)))
    (k20 : PySem.W.keepIn K (.ref f20) = true)
    (l20 : K.lookup f20 = some ⟨oc20, od20, .func (PySem.W.fnOf "_law_short" "_law_short" (defArgs s_20) (defBody s_20) (defScope s_20) .none kV20 dc20 pm20 an20 cd20 ct20), sl20⟩)
    (c20 : PySem.W.codeIn K cd20 "_law_short" = true)
    (a21 : PySem.W.nsIn K mainGlobals "_law_are_wishes" = some (some (.ref f21)))
    (k21 : PySem.W.keepIn K (.ref f21) = true)
    (l21 : K.lookup f21 = some ⟨oc21, od21, .func (PySem.W.fnOf "_law_are_wishes" "_law_are_wishes" (defArgs s_21) (defBody s_21) (defScope s_21) .none kV21 dc21 pm21 an21 cd21 ct21), sl21⟩)
    (c21 : PySem.W.codeIn K cd21 "_law_are_wishes" = true)
    (a22 : PySem.W.nsIn K mainGlobals "_law_refused" = some (some (.ref f22)))
    (k22 : PySem.W.keepIn K (.ref f22) = true)
    (l22 : K.lookup f22 = some ⟨oc22, od22, .func (PySem.W.fnOf "_law_refused" "_law_refused" (defArgs s_22) (defBody s_22) (defScope s_22) .none kV22 dc22 pm22 an22 cd22 ct22), sl22⟩)
    (c22 : PySem.W.codeIn K cd22 "_law_refused" = true)
    (a23 : PySem.W.nsIn K mainGlobals "_law_deep" = some (some (.ref f23)))
    (k23 : PySem.W.keepIn K (.ref f23) = true)
    (l23 : K.lookup f23 = some ⟨oc23, od23, .func (PySem.W.fnOf "_law_deep" "_law_deep" (defArgs s_23) (defBody s_23) (defScope s_23) .none kV23 dc23 pm23 an23 cd23 ct23), sl23⟩)
    (c23 : PySem.W.codeIn K cd23 "_law_deep" = true)
    (a24 : PySem.W.nsIn K mainGlobals "_law_bent" = some (some (.ref f24)))
    (k24 : PySem.W.keepIn K (.ref f24) = true)
    (l24 : K.lookup f24 = some ⟨oc24, od24, .func (PySem.W.fnOf "_law_bent" "_law_bent" (defArgs s_24) (defBody s_24) (defScope s_24) .none kV24 dc24 pm24 an24 cd24 ct24), sl24⟩)
    (c24 : PySem.W.codeIn K cd24 "_law_bent" = true)
    (a25 : PySem.W.nsIn K mainGlobals "_law_is_right" = some (some (.ref f25)))
    (k25 : PySem.W.keepIn K (.ref f25) = true)
    (l25 : K.lookup f25 = some ⟨oc25, od25, .func (PySem.W.fnOf "_law_is_right" "_law_is_right" (defArgs s_25) (defBody s_25) (defScope s_25) .none kV25 dc25 pm25 an25 cd25 ct25), sl25⟩)
    (c25 : PySem.W.codeIn K cd25 "_law_is_right" = true)
    (a26 : PySem.W.nsIn K mainGlobals "_law_is_judged" = some (some (.ref f26)))
    (k26 : PySem.W.keepIn K (.ref f26) = true)
    (l26 : K.lookup f26 = some ⟨oc26, od26, .func (PySem.W.fnOf "_law_is_judged" "_law_is_judged" (defArgs s_26) (defBody s_26) (defScope s_26) .none kV26 dc26 pm26 an26 cd26 ct26), sl26⟩)
    (c26 : PySem.W.codeIn K cd26 "_law_is_judged" = true)
    (a27 : PySem.W.nsIn K mainGlobals "law" = some (some (.ref f27)))
    (k27 : PySem.W.keepIn K (.ref f27) = true)
    (l27 : K.lookup f27 = some ⟨oc27, od27, .func (PySem.W.fnOf "law" "law" (defArgs s_27) (defBody s_27) (defScope s_27) .none kV27 dc27 pm27 an27 cd27 ct27), sl27⟩)
    (c27 : PySem.W.codeIn K cd27 "law" = true)
    (y25 : cd25 = .ref c_25)
    (u25 : K.lookup c_25 = some ⟨ec25, dd25, .fields vs25, sc25⟩)
    (v25 : vs25[11]? = some (.ref P25))
    (nT25 : K.lookup P25 = none)
    (y26 : cd26 = .ref c_26)
    (u26 : K.lookup c_26 = some ⟨ec26, dd26, .fields vs26, sc26⟩)
    (v26 : vs26[11]? = some (.ref P26))
    (nT26 : K.lookup P26 = none)
    (nP25_26 : P25 ≠ P26)
    (g_MOST_CARS : PySem.W.nsIn K mainGlobals "MOST_CARS" = some (some (.int (60) t_MOST_CARS)))
    (n_ValueError : PySem.W.nsIn K mainGlobals "ValueError" = some none)
    (n_abs : PySem.W.nsIn K mainGlobals "abs" = some none)
    (n_all : PySem.W.nsIn K mainGlobals "all" = some none)
    (n_bool : PySem.W.nsIn K mainGlobals "bool" = some none)
    (n_enumerate : PySem.W.nsIn K mainGlobals "enumerate" = some none)
    (n_int : PySem.W.nsIn K mainGlobals "int" = some none)
    (n_isinstance : PySem.W.nsIn K mainGlobals "isinstance" = some none)
    (n_len : PySem.W.nsIn K mainGlobals "len" = some none)
    (n_list : PySem.W.nsIn K mainGlobals "list" = some none)
    (n_min : PySem.W.nsIn K mainGlobals "min" = some none)
    (n_range : PySem.W.nsIn K mainGlobals "range" = some none)
    (n_repr : PySem.W.nsIn K mainGlobals "repr" = some none)
    (n_sorted : PySem.W.nsIn K mainGlobals "sorted" = some none)
    (n_str : PySem.W.nsIn K mainGlobals "str" = some none)
    (n_sum : PySem.W.nsIn K mainGlobals "sum" = some none)
    (n_tuple : PySem.W.nsIn K mainGlobals "tuple" = some none)
    (n_zip : PySem.W.nsIn K mainGlobals "zip" = some none)
    (hn : PySem.W.specialIn K (.builtin "object.__class__") "__get__" = some (some (.builtin "getset_descriptor.__get__")))
    (htk : PySem.W.takesIn K (.builtin "object.__class__") = some true)
    (x_1 : PySem.W.excIn K C1 [.type "ValueError", .type "Exception", .type "BaseException", .type "object"] "ValueError.__new__" = true)
    (xk1 : PySem.W.keepIn K (.ref C1) = true)
    (xb1 : PySem.W.subIn K (.ref C1) (.type "BaseException") = some true)
    (xt1 : PySem.W.typeIn K (.ref C1) = some (.type "type"))
    (hx0_0 : PySem.W.exmOne K (.ref C0) (.ref C0) = some (subC 0 0))
    (hx1_0 : PySem.W.exmOne K (.ref C1) (.ref C0) = some (subC 1 0))
    (eg0 : PySem.W.findIn K (.ref C0) "__getattribute__" = some (some (.builtin "BaseException.__getattribute__")))
    (ek0 : PySem.W.findIn K (.ref C0) "__getattr__" = some none)
    (es0 : PySem.W.subIn K (.ref C0) (.type "BaseException") = some true)
    (ed0 : PySem.W.hasDictIn K C0 = true)
    (ea0 : PySem.W.findIn K (.ref C0) "__class__" = some (some (.builtin "object.__class__")))
    (em0 : PySem.W.mroIn K C0 (.type "object") = some true)
    (eg1 : PySem.W.findIn K (.ref C1) "__getattribute__" = some (some (.builtin "BaseException.__getattribute__")))
    (ek1 : PySem.W.findIn K (.ref C1) "__getattr__" = some none)
    (es1 : PySem.W.subIn K (.ref C1) (.type "BaseException") = some true)
    (ed1 : PySem.W.hasDictIn K C1 = true)
    (ea1 : PySem.W.findIn K (.ref C1) "__class__" = some (some (.builtin "object.__class__")))
    (em1 : PySem.W.mroIn K C1 (.type "object") = some true)
    (kq0_1 : PySem.W.kitOne K (.ref C0) (.ref C1) = some (subC 0 1))
    (kq1_1 : PySem.W.kitOne K (.ref C1) (.ref C1) = some (subC 1 1))
    (kt0_ValueError : PySem.W.kitOne K (.ref C0) (.type "ValueError") = some true)
    (kt1_ValueError : PySem.W.kitOne K (.ref C1) (.type "ValueError") = some true) : LawAtG l w K (L2.CX l.prog w) 63 "script" mg fa h := by
  have e0 := hfa.symm.trans (PySem.W.mg_of X G a27)
  cases e0
  subst y25
  have T25 := hTab "_law_is_right" (by decide) c_25 P25 (tabIn_mk a25 l25 rfl u25 v25)
  subst y26
  have T26 := hTab "_law_is_judged" (by decide) c_26 P26 (tabIn_mk a26 l26 rfl u26 v26)
  refine ⟨PySem.W.fnOf "law" "law" (defArgs s_27) (defBody s_27) (defScope s_27) .none kV27 dc27 pm27 an27 cd27 ct27, [(c_25, P25), (c_26, P26)], spW (⟨K, (fun i => match i with | 0 => C0 | 1 => C1 | _ => 0), (fun i => match i with | 5 => f5 | 9 => f9 | 10 => f10 | 11 => f11 | 12 => f12 | _ => 0), [(P25, (("_law_is_right" : Str) ++ ".<locals>." ++ "<lambda>" : Str)), (P26, (("_law_is_judged" : Str) ++ ".<locals>." ++ "<lambda>" : Str))], [], []⟩ : VI.Ctx) (callN Pr 9) 27, ?_, ?_, ?_, ?_, ?_, ?_⟩
  · intro p hp
    simp only [List.mem_cons, List.not_mem_nil, or_false] at hp
    rcases hp with rfl | rfl
    · exact T25.2
    · exact T26.2
  · intro p hp
    simp only [List.mem_cons, List.not_mem_nil, or_false] at hp
    rcases hp with rfl | rfl
    · exact nT25
    · exact nT26
  · intro p hp
    simp only [List.mem_cons, List.not_mem_nil, or_false] at hp
    rcases hp with rfl | rfl
    · exact T25.1
    · exact T26.1
  · exact fun s u => .of_eq rfl
  · intro H a ns hl hT hS
    refine law_sp rfl (fun p hp => ?_) hS (hpure ns hl)
    simp only [List.mem_cons, List.not_mem_nil, or_false] at hp
    rcases hp with rfl | rfl
    · exact hT (c_25, P25) (by simp)
    · exact hT (c_26, P26) (by simp)
  · intro base KB GB hTB
    have M : ∀ {n : Str} {v : Value}, PySem.W.nsIn K mainGlobals n = some (some v) → mg n = some v := fun e => PySem.W.mg_of X G e
    have N : ∀ {n : Str}, PySem.W.nsIn K mainGlobals n = some none → mg n = none := fun e => PySem.W.mg_none_of X G e
    have G : G0 l.prog w (⟨K, (fun i => match i with | 0 => C0 | 1 => C1 | _ => 0), (fun i => match i with | 5 => f5 | 9 => f9 | 10 => f10 | 11 => f11 | 12 => f12 | _ => 0), [(P25, (("_law_is_right" : Str) ++ ".<locals>." ++ "<lambda>" : Str)), (P26, (("_law_is_judged" : Str) ++ ".<locals>." ++ "<lambda>" : Str))], [], []⟩ : VI.Ctx) mg base (fun i => match i with | 25 => (c_25, P25) | 26 => (c_26, P26) | _ => (0, 0)) := {
      hz := rfl
      hier := ⟨fun c hc => absurd hc (Nat.not_lt_zero _), fun c hc => absurd hc (Nat.not_lt_zero _)⟩
      c_BadCars := M aC1
      c_DueError := M aC0
      g_MOST_CARS := ⟨_, M g_MOST_CARS⟩
      h_DueError := fun k b e => by
          unfold exm_DueError at e
          split at e
          · rename_i hc
            cases e
            simp only [List.contains_cons, List.contains_nil, Bool.or_false, Bool.or_eq_true, beq_iff_eq] at hc
            rcases hc with rfl | rfl
            · exact hx0_0
            · exact hx1_0
          · cases e
      ie_DueError := fun k e => by
          unfold exm_DueError at e
          split at e
          · rename_i hc
            simp only [List.contains_cons, List.contains_nil, Bool.or_false, Bool.or_eq_true, beq_iff_eq] at hc
            rcases hc with rfl | rfl
            · exact ⟨eg0, ek0, es0, ed0, ea0, hn, htk, em0⟩
            · exact ⟨eg1, ek1, es1, ed1, ea1, hn, htk, em1⟩
          · cases e
      kq_DueError_BadCars := fun k e => by
          unfold exm_DueError at e
          split at e
          · rename_i hc
            simp only [List.contains_cons, List.contains_nil, Bool.or_false, Bool.or_eq_true, beq_iff_eq] at hc
            rcases hc with rfl | rfl
            · exact kq0_1
            · exact kq1_1
          · cases e
      kt_DueError_ValueError := fun k e => by
          unfold exm_DueError at e
          split at e
          · rename_i hc
            simp only [List.contains_cons, List.contains_nil, Bool.or_false, Bool.or_eq_true, beq_iff_eq] at hc
            rcases hc with rfl | rfl
            · exact kt0_ValueError
            · exact kt1_ValueError
          · cases e
      l__law_refused := hofAt_mk l22 c22 (fun us hl => match us, hl with | [_], _ => rfl) (M a22) k22
      n_ValueError := N n_ValueError
      n_abs := N n_abs
      n_all := N n_all
      n_bool := N n_bool
      n_enumerate := N n_enumerate
      n_int := N n_int
      n_isinstance := N n_isinstance
      n_len := N n_len
      n_list := N n_list
      n_min := N n_min
      n_range := N n_range
      n_repr := N n_repr
      n_sorted := N n_sorted
      n_str := N n_str
      n_sum := N n_sum
      n_tuple := N n_tuple
      n_zip := N n_zip
      v_ascending := M a12
      v_driven := M a10
      v_lucky := M a11
      v_park := M a5
      v_short_place := M a9
      x_BadCars := ⟨⟨_, _, _, _, PySem.F.excBase_ValueError, x_1⟩, xk1, xb1, xt1⟩
      tab_25 := hTB (c_25, P25) (by simp)
      mem_25 := by simp
      uni_25 := fun q hq e => by
          simp only [List.mem_cons, List.not_mem_nil, or_false] at hq
          rcases hq with rfl | rfl
          · rfl
          · exact absurd e.symm nP25_26
      tab_26 := hTB (c_26, P26) (by simp)
      mem_26 := by simp
      uni_26 := fun q hq e => by
          simp only [List.mem_cons, List.not_mem_nil, or_false] at hq
          rcases hq with rfl | rfl
          · exact absurd e nP25_26
          · rfl
      e_0 := defIn_mk l0 c0 (fun us hl => match us, hl with | [_], _ => rfl) trivial ⟨M a0, k0⟩
      e_1 := defIn_mk l1 c1 (fun us hl => match us, hl with | [_, _, _], _ => rfl) trivial ⟨M a1, k1⟩
      e_2 := defIn_mk l2 c2 (fun us hl => match us, hl with | [_], _ => rfl) trivial ⟨M a2, k2⟩
      e_3 := defIn_mk l3 c3 (fun us hl => match us, hl with | [_], _ => rfl) trivial ⟨M a3, k3⟩
      e_4 := defIn_mk l4 c4 (fun us hl => match us, hl with | [_], _ => rfl) trivial ⟨M a4, k4⟩
      e_5 := defIn_mk l5 c5 (fun us hl => match us, hl with | [_], _ => rfl) trivial ⟨M a5, k5⟩
      e_6 := defIn_mk l6 c6 (fun us hl => match us, hl with | [_], _ => rfl) trivial ⟨M a6, k6⟩
      e_7 := defIn_mk l7 c7 (fun us hl => match us, hl with | [_], _ => rfl) trivial ⟨M a7, k7⟩
      e_8 := defIn_mk l8 c8 (fun us hl => match us, hl with | [_], _ => rfl) trivial ⟨M a8, k8⟩
      e_9 := defIn_mk l9 c9 (fun us hl => match us, hl with | [_], _ => rfl) trivial ⟨M a9, k9⟩
      e_10 := defIn_mk l10 c10 (fun us hl => match us, hl with | [_], _ => rfl) trivial ⟨M a10, k10⟩
      e_11 := defIn_mk l11 c11 (fun us hl => match us, hl with | [_], _ => rfl) trivial ⟨M a11, k11⟩
      e_12 := defIn_mk l12 c12 (fun us hl => match us, hl with | [_], _ => rfl) trivial ⟨M a12, k12⟩
      e_13 := defIn_mk l13 c13 (fun us hl => match us, hl with | [_], _ => rfl) trivial ⟨M a13, k13⟩
      e_14 := defIn_mk l14 c14 (fun us hl => match us, hl with | [_, _], _ => rfl) trivial ⟨M a14, k14⟩
      e_15 := defIn_mk l15 c15 (fun us hl => match us, hl with | [_, _], _ => rfl) trivial ⟨M a15, k15⟩
      e_16 := defIn_mk l16 c16 (fun us hl => match us, hl with | [_, _], _ => rfl) trivial ⟨M a16, k16⟩
      e_17 := defIn_mk l17 c17 (fun us hl => match us, hl with | [_, _], _ => rfl) trivial ⟨M a17, k17⟩
      e_18 := defIn_mk l18 c18 (fun us hl => match us, hl with | [_, _], _ => rfl) trivial ⟨M a18, k18⟩
      e_19 := defIn_mk l19 c19 (fun us hl => match us, hl with | [_], _ => rfl) trivial ⟨M a19, k19⟩
      e_20 := defIn_mk l20 c20 (fun us hl => match us, hl with | [_], _ => rfl) trivial ⟨M a20, k20⟩
      e_21 := defIn_mk l21 c21 (fun us hl => match us, hl with | [_], _ => rfl) trivial ⟨M a21, k21⟩
      e_23 := defIn_mk l23 c23 (fun us hl => match us, hl with | [_], _ => rfl) trivial ⟨M a23, k23⟩
      e_24 := defIn_mk l24 c24 (fun us hl => match us, hl with | [_, _], _ => rfl) trivial ⟨M a24, k24⟩
      e_25 := defIn_mk l25 c25 (fun us hl => match us, hl with | [_, _], _ => rfl) rfl ⟨M a25, k25⟩
      e_26 := defIn_mk l26 c26 (fun us hl => match us, hl with | [_, _], _ => rfl) rfl ⟨M a26, k26⟩
      e_27 := defIn_mk l27 c27 (fun us hl => match us, hl with | [_], _ => rfl) trivial ⟨M a27, k27⟩ }
    obtain ⟨f, fd, cdv, F, _, _, l1, _⟩ := G.e_27.ex
    exact lawRun_sp (ggLaw G (cdv := cd27) ⟨oc27, od27, kV27, dc27, pm27, an27, ct27, sl27, rfl, l27, c27⟩)
theorem walkL {l : PySem.W.OpenLaw} {q : Program} {loose : List Str} {XP : (Str → Option Value) → Heap → Prop} {YP : World → Heap → Prop} {d : DefRec} {K : Params → PySem.W.Frag} (hn : l.most = some 63) (hdf : d.params.defaults = []) (hrec : (((["_law_is_right", "_law_is_judged"] : List Str)).all fun y => (recsOf q).any fun e => e.name == y) = true)
    (hY : ∀ (w : World) (h : Heap), YP w h → (K w.params).In h)
    (F : ∀ (w : World) (mg : Str → Option Value) (fa : Addr) (h : Heap), YP w h → (K w.params).In h → h.Ns mainGlobals mg → mg d.name = some (.ref fa) → (∀ y ∈ (["_law_is_right", "_law_is_judged"] : List Str), TabX (K w.params) h y) → LawAtG l w (K w.params) (L2.CX l.prog w) 63 "script" mg fa h) :
    PySem.W.WalkO q loose XP YP l.row.toRowW d [] (fun f vs => PySem.call f vs) :=
  walk_ofTabsG hn (by decide) hdf hrec hY F fun w H s e s' h => by
    obtain ⟨_, _, _, _, _, _, _, _, _, _, _, _, h⟩ := h
    exact h
end LK
open PySem PySem.W PyProof.Rows
set_option maxRecDepth 100000 in
set_option maxHeartbeats 0 in
theorem PySem.Challenge.cw_lendalong_k55_whole_cars_park_holds : PySem.Challenge.rw_lendalong_k55_whole_cars_park.Holds := by
  w_on; o_law; k_head; (case hw => w_witness2)
  k_fill
  refine LK.walkL (l := PySem.Challenge.rw_lendalong_k55_whole_cars_park) rfl rfl ?R (fun w h Y => by first | exact PySem.W.kIn_of Y | exact PySem.W.km_in_of Y) ?F
  case R => first | decide +kernel | rfl
  case F =>
    intro w mg fa h Y KX G hmg hTab
    refine' LK.all_mk KX G hmg LK.pure_law hTab ?aC0 ?aC1 ?a0 ?k0 ?l0 ?c0 ?a1 ?k1 ?l1 ?c1 ?a2 ?k2 ?l2 ?c2 ?a3 ?k3 ?l3 ?c3 ?a4 ?k4 ?l4 ?c4 ?a5 ?k5 ?l5 ?c5 ?a6 ?k6 ?l6 ?c6 ?a7 ?k7 ?l7 ?c7 ?a8 ?k8 ?l8 ?c8 ?a9 ?k9 ?l9 ?c9 ?a10 ?k10 ?l10 ?c10 ?a11 ?k11 ?l11 ?c11 ?a12 ?k12 ?l12 ?c12 ?a13 ?k13 ?l13 ?c13 ?a14 ?k14 ?l14 ?c14 ?a15 ?k15 ?l15 ?c15 ?a16 ?k16 ?l16 ?c16 ?a17 ?k17 ?l17 ?c17 ?a18 ?k18 ?l18 ?c18 ?a19 ?k19 ?l19 ?c19 ?a20 ?k20 ?l20 ?c20 ?a21 ?k21 ?l21 ?c21 ?a22 ?k22 ?l22 ?c22 ?a23 ?k23 ?l23 ?c23 ?a24 ?k24 ?l24 ?c24 ?a25 ?k25 ?l25 ?c25 ?a26 ?k26 ?l26 ?c26 ?a27 ?k27 ?l27 ?c27 ?y25 ?u25 ?v25 ?nT25 ?y26 ?u26 ?v26 ?nT26 ?nP25_26 ?g_MOST_CARS ?n_ValueError ?n_abs ?n_all ?n_bool ?n_enumerate ?n_int ?n_isinstance ?n_len ?n_list ?n_min ?n_range ?n_repr ?n_sorted ?n_str ?n_sum ?n_tuple ?n_zip ?hn ?htk ?x_1 ?xk1 ?xb1 ?xt1 ?hx0_0 ?hx1_0 ?eg0 ?ek0 ?es0 ?ed0 ?ea0 ?em0 ?eg1 ?ek1 ?es1 ?ed1 ?ea1 ?em1 ?kq0_1 ?kq1_1 ?kt0_ValueError ?kt1_ValueError
    (case aC0 => k_is)
    (case aC1 => k_is)
    (case a0 => k_is)
    (case k0 => k_is)
    (case l0 => k_is)
    (case c0 => k_is)
    (case a1 => k_is)
    (case k1 => k_is)
    (case l1 => k_is)
    (case c1 => k_is)
    (case a2 => k_is)
    (case k2 => k_is)
    (case l2 => k_is)
    (case c2 => k_is)
    (case a3 => k_is)
    (case k3 => k_is)
    (case l3 => k_is)
    (case c3 => k_is)
    (case a4 => k_is)
    (case k4 => k_is)
    (case l4 => k_is)
    (case c4 => k_is)
    (case a5 => k_is)
    (case k5 => k_is)
    (case l5 => k_is)
    (case c5 => k_is)
    (case a6 => k_is)
    (case k6 => k_is)
    (case l6 => k_is)
    (case c6 => k_is)
    (case a7 => k_is)
    (case k7 => k_is)
    (case l7 => k_is)
    (case c7 => k_is)
    (case a8 => k_is)
    (case k8 => k_is)
    (case l8 => k_is)
    (case c8 => k_is)
    (case a9 => k_is)
    (case k9 => k_is)
    (case l9 => k_is)
    (case c9 => k_is)
    (case a10 => k_is)
    (case k10 => k_is)
    (case l10 => k_is)
    (case c10 => k_is)
    (case a11 => k_is)
    (case k11 => k_is)
    (case l11 => k_is)
    (case c11 => k_is)
    (case a12 => k_is)
    (case k12 => k_is)
    (case l12 => k_is)
    (case c12 => k_is)
    (case a13 => k_is)
    (case k13 => k_is)
    (case l13 => k_is)
    (case c13 => k_is)
    (case a14 => k_is)
    (case k14 => k_is)
    (case l14 => k_is)
    (case c14 => k_is)
    (case a15 => k_is)
    (case k15 => k_is)
    (case l15 => k_is)
    (case c15 => k_is)
    (case a16 => k_is)
    (case k16 => k_is)
    (case l16 => k_is)
    (case c16 => k_is)
    (case a17 => k_is)
    (case k17 => k_is)
    (case l17 => k_is)
    (case c17 => k_is)
    (case a18 => k_is)
    (case k18 => k_is)
    (case l18 => k_is)
    (case c18 => k_is)
    (case a19 => k_is)
    (case k19 => k_is)
    (case l19 => k_is)
    (case c19 => k_is)
    (case a20 => k_is)
    (case k20 => k_is)
    (case l20 => k_is)
    (case c20 => k_is)
    (case a21 => k_is)
    (case k21 => k_is)
    (case l21 => k_is)
    (case c21 => k_is)
    (case a22 => k_is)
    (case k22 => k_is)
    (case l22 => k_is)
    (case c22 => k_is)
    (case a23 => k_is)
    (case k23 => k_is)
    (case l23 => k_is)
    (case c23 => k_is)
    (case a24 => k_is)
    (case k24 => k_is)
    (case l24 => k_is)
    (case c24 => k_is)
    (case a25 => k_is)
    (case k25 => k_is)
    (case l25 => k_is)
    (case c25 => k_is)
    (case a26 => k_is)
    (case k26 => k_is)
    (case l26 => k_is)
    (case c26 => k_is)
    (case a27 => k_is)
    (case k27 => k_is)
    (case l27 => k_is)
    (case c27 => k_is)
    (case y25 => exact rfl)
    (case u25 => k_is)
    (case v25 => exact rfl)
    (case nT25 => first | exact rfl | kernel_rfl)
    (case y26 => exact rfl)
    (case u26 => k_is)
    (case v26 => exact rfl)
    (case nT26 => first | exact rfl | kernel_rfl)
    (case nP25_26 => decide)
    (case g_MOST_CARS => first | k_is | kernel_rfl)
    (case n_ValueError => k_is)
    (case n_abs => k_is)
    (case n_all => k_is)
    (case n_bool => k_is)
    (case n_enumerate => k_is)
    (case n_int => k_is)
    (case n_isinstance => k_is)
    (case n_len => k_is)
    (case n_list => k_is)
    (case n_min => k_is)
    (case n_range => k_is)
    (case n_repr => k_is)
    (case n_sorted => k_is)
    (case n_str => k_is)
    (case n_sum => k_is)
    (case n_tuple => k_is)
    (case n_zip => k_is)
    (case hn => k_is)
    (case htk => k_is)
    (case x_1 => k_exc)
    (case xk1 => k_is)
    (case xb1 => k_is)
    (case xt1 => k_is)
    (case hx0_0 => kernel_rfl)
    (case hx1_0 => kernel_rfl)
    (case eg0 => k_is)
    (case ek0 => k_is)
    (case es0 => k_is)
    (case ed0 => k_is)
    (case ea0 => k_is)
    (case em0 => k_is)
    (case eg1 => k_is)
    (case ek1 => k_is)
    (case es1 => k_is)
    (case ed1 => k_is)
    (case ea1 => k_is)
    (case em1 => k_is)
    (case kq0_1 => kernel_rfl)
    (case kq1_1 => kernel_rfl)
    (case kt0_ValueError => kernel_rfl)
    (case kt1_ValueError => kernel_rfl)
#print axioms PySem.Challenge.cw_lendalong_k55_whole_cars_park_holds
