import PyProof.Rows.All
import HandS.ForMost
import HandS.Walk
import HandS.TupAny
import HandS.TupMul
import HandS.Style
import KE.KDictKeyed
import KE.GoesDict
import HandS.IsInst
import HandS.Star
import KE.GoesEnum
import KE.GoesZip
import KE.GoesMore
import KE.KRevSl
import HandS.Iter
import HandS.SetFor
import HandS.Strs
import HandS.Conv
import HandS.Text
import HandS.Property
import HandS.ClsMeth
import HandS.OwnEq
import HandS.Codes
import PyProof.StrLawsFirst
import PySem.Challenge.RW_seatgaps_k17_equal_halls
section
set_option Elab.async false
set_option linter.all false
/-! DLa: data, states, denotations: plain Lean functions, no program in sight. -/
namespace DL
open PySem L2

inductive D where
  | non | bl (b : Bool) | int (i : Int) | str (x : Str) | tup (xs : List D) | lst (xs : List D) | dic (ks vs : List D) | obj (k : Nat) | cls (c : Str) | scr (ns : List Int)
  deriving Inhabited
mutual
def D.py : D → PyData
  | .non => .none
  | .bl b => .bool b
  | .int i => .int i
  | .str x => .str x
  | .tup xs => .tuple (D.pys xs)
  | .lst xs => .list (D.pys xs)
  | .dic _ _ => .dict []
  | .obj _ => .dict []
  | .cls _ => .dict []
  | .scr _ => .dict []
def D.pys : List D → List PyData
  | [] => []
  | x :: xs => x.py :: D.pys xs
end
/-- what a slot holds, what an expression hands back: un no value, im shared data, ow a list of one's own, od a dict of one's own -/
inductive Rv where
  | un | im (d : D) | ow (xs : List D) | od (ks vs : List D)
  deriving Inhabited
structure Rec where
  c : Str
  fs : List (Str × D)
structure W where
  ρ : List Rv
  O : List Rec
inductive Out (S α : Type) where
  | val (a : α) (s : S) | exc (c : Str) (s : S) | bad
abbrev M (α : Type) := W → Out W α
inductive Fl where
  | nxt | ret (r : Rv) | brk | cnt
/-- what a function's call gives -/
abbrev Fn := List D → List Rec → Out (List Rec) Rv

def M.bnd {α β : Type} (m : M α) (k : α → M β) : M β := fun w => match m w with
  | .val a w' => k a w'
  | .exc c w' => .exc c w'
  | .bad => .bad
def M.ret {α : Type} (a : α) : M α := fun w => .val a w
def M.opt {α : Type} (o : Option α) : M α := fun w => match o with
  | some a => .val a w
  | none => .bad
def Rv.fz : Rv → D
  | .un => .non
  | .im d => d
  | .ow xs => .lst xs
  | .od ks vs => .dic ks vs
/-- a full value, shared from now on -/
def fz (f : M Rv) : M D := M.bnd f fun r => M.ret r.fz

/-! ### names and constants -/
def eVar (i : Nat) : M Rv := fun w => match w.ρ[i]? with
  | some (.im d) => .val (.im d) w
  | some (.ow xs) => .val (.im (.lst xs)) { w with ρ := w.ρ.set i (.im (.lst xs)) }
  | some (.od ks vs) => .val (.im (.dic ks vs)) { w with ρ := w.ρ.set i (.im (.dic ks vs)) }
  | _ => .bad
def pVar (i : Nat) : M D := fun w => match w.ρ[i]? with
  | some (.im d) => .val d w
  | some (.ow xs) => .val (.lst xs) w
  | some (.od ks vs) => .val (.dic ks vs) w
  | _ => .bad
def eC (d : D) : M Rv := M.ret (.im d)

/-! ### operators by values -/
def okLen (n : Nat) : Bool := decide (n ≤ 16777216)
def addD : D → D → Option Rv
  | .int i, .int j => some (.im (.int (i + j)))
  | .str x, .str y => if okLen (x.length + y.length) then some (.im (.str (x ++ y))) else none
  | .tup xs, .tup ys => if okLen (xs.length + ys.length) then some (.im (.tup (xs ++ ys))) else none
  | .lst xs, .lst ys => if okLen (xs.length + ys.length) then some (.ow (xs ++ ys)) else none
  | _, _ => none
def subD : D → D → Option Rv
  | .int i, .int j => some (.im (.int (i - j)))
  | _, _ => none
def okMul (i j : Int) : Bool := (decide (-(2 ^ 64) < i) && decide (i < 2 ^ 64)) || (decide (-(2 ^ 64) < j) && decide (j < 2 ^ 64))
def repS (x : Str) (k : Int) : Str := ⟨(List.replicate k.toNat x.cps.toList).flatten.toArray⟩
def mulD : D → D → Option Rv
  | .int i, .int j => if okMul i j then some (.im (.int (i * j))) else none
  | .str x, .int k => if decide (k ≤ 1000) && decide (x.length ≤ 1000) && decide (0 ≤ k) then some (.im (.str (repS x k))) else none
  | .lst xs, .int k => if decide (0 ≤ k) && decide (k ≤ 1000) && decide (xs.length ≤ 1000) then some (.ow (List.replicate k.toNat xs).flatten) else none
  | .tup xs, .int k => if decide (1 ≤ k) && decide (k ≤ 1000) && decide (xs.length ≤ 1000) then some (.im (.tup (List.replicate k.toNat xs).flatten)) else none
  | _, _ => none
def modD : D → D → Option Rv
  | .int i, .int j => if decide (j ≠ 0) then some (.im (.int (i.fmod j))) else none
  | _, _ => none
def fdvD : D → D → Option Rv
  | .int i, .int j => if decide (j ≠ 0) && decide (j.natAbs < 1073741824) then some (.im (.int (i.fdiv j))) else none
  | _, _ => none
def powD : D → D → Option Rv
  | .int i, .int j => if decide (0 ≤ j) && decide (j ≤ 1000) && decide (i.natAbs < 1000) then some (.im (.int (i ^ j.toNat))) else none
  | _, _ => none
def bopD : Operator → D → D → Option Rv
  | .Add => addD
  | .Sub => subD
  | .Mult => mulD
  | .Mod => modD
  | .FloorDiv => fdvD
  | .Pow => powD
  | _ => fun _ _ => none
def eqOk (d : D) : Bool := SeqAt.shaped d.py
def eqD (a b : D) : Bool := PyData.eqv a.py b.py
def inD (a : D) (xs : List D) : Bool := xs.any fun y => eqD y a
def subS (x y : Str) : Bool := !(Builtin.Str.occurrences y x 0 y.length 1).isEmpty
def isD (a b : D) : Option Bool := match b with
  | .non => some (match a with | .non => true | _ => false)
  | .bl b => match a with
    | .bl a => some (decide (a = b))
    | _ => none
  | _ => none
def memD (a b : D) : Option Bool := match b with
  | .str y => match a with
    | .str x => some (subS x y)
    | _ => none
  | .lst xs => if eqOk a && PyData.canLayAll0 (D.pys xs) then some (inD a xs) else none
  | .tup xs => if eqOk a && PyData.canLayAll0 (D.pys xs) then some (inD a xs) else none
  | _ => none
def cmpI (f : Int → Int → Bool) (a b : D) : Option Bool := match a, b with
  | .int i, .int j => some (f i j)
  | _, _ => none
def cmpD : CmpOp → D → D → Option Bool
  | .Eq => fun a b => if eqOk a && eqOk b then some (eqD a b) else none
  | .NotEq => fun a b => if eqOk a && eqOk b then some (!eqD a b) else none
  | .Lt => cmpI fun i j => decide (i < j)
  | .LtE => cmpI fun i j => decide (i ≤ j)
  | .Gt => cmpI fun i j => decide (j < i)
  | .GtE => cmpI fun i j => decide (j ≤ i)
  | .Is => isD
  | .IsNot => fun a b => (isD a b).map (!·)
  | .In => memD
  | .NotIn => fun a b => (memD a b).map (!·)
def ixD : D → D → Option D
  | .scr ns, .int i => (atI ns i).map .int
  | .lst xs, .int i => atI xs i
  | .tup xs, .int i => atI xs i
  | .str z, .int i => if okLen z.length then (atI z.cps.toList i).map fun c => .str ⟨#[c]⟩ else none
  | _, _ => none
def cutL {α : Type} (xs : List α) (lo hi : Option Int) : List α := (xs.drop (HT.sIx xs.length 0 lo)).take (HT.sIx xs.length xs.length hi - HT.sIx xs.length 0 lo)
def slD (a : D) (lo hi : Option Int) : Option Rv := match a with
  | .lst xs => some (.ow (cutL xs lo hi))
  | .tup xs => some (.im (.tup (cutL xs lo hi)))
  | .str z => if okLen z.length then some (.im (.str ⟨(cutL z.cps.toList lo hi).toArray⟩)) else none
  | _ => none
def revD : D → Option Rv
  | .lst xs => some (.ow xs.reverse)
  | .tup xs => some (.im (.tup xs.reverse))
  | .str z => if okLen z.length then some (.im (.str ⟨z.cps.toList.reverse.toArray⟩)) else none
  | _ => none

/-! ### expressions -/
def eBin (op : Operator) (a b : M D) : M Rv := M.bnd a fun x => M.bnd b fun y => M.opt (bopD op x y)
def eNeg (a : M D) : M Rv := M.bnd a fun x => M.opt (match x with | .int i => some (.im (.int (-i))) | _ => none)
def eCmp (op : CmpOp) (a b : M D) : M Rv := M.bnd a fun x => M.bnd b fun y => M.opt ((cmpD op x y).map fun k => .im (.bl k))
def eChain (op op' : CmpOp) (a b c : M D) : M Rv := M.bnd a fun x => M.bnd b fun y => M.bnd (M.opt (cmpD op x y)) fun k =>
  if k = true then M.bnd c fun z => M.opt ((cmpD op' y z).map fun k => .im (.bl k)) else M.ret (.im (.bl false))
def eIx (a b : M D) : M Rv := M.bnd a fun x => M.bnd b fun y => M.opt ((ixD x y).map .im)
/-- a part of a slice -/
def oNo : M (Option Int) := M.ret none
def oSo (a : M D) : M (Option Int) := M.bnd a fun x => M.opt (match x with | .int i => some (some i) | _ => none)
def eSl (a : M D) (lo hi : M (Option Int)) : M Rv := M.bnd a fun x => M.bnd lo fun l => M.bnd hi fun h => M.opt (slD x l h)
def eRev (a : M D) : M Rv := M.bnd a fun x => M.opt (revD x)
/-- arguments, items -/
def aNil : M (List D) := M.ret []
def aCons (a : M D) (r : M (List D)) : M (List D) := M.bnd a fun x => M.bnd r fun xs => M.ret (x :: xs)
/-- a starred argument -/
def aStar (a : M D) (r : M (List D)) : M (List D) := M.bnd a fun x => M.bnd (M.opt (match x with | .tup xs => some xs | .lst xs => some xs | _ => none)) fun ys => M.bnd r fun xs => M.ret (ys ++ xs)
def eTup (a : M (List D)) : M Rv := M.bnd a fun xs => if okLen xs.length then M.ret (.im (.tup xs)) else M.opt none
def eLst (a : M (List D)) : M Rv := M.bnd a fun xs => if okLen xs.length then M.ret (.ow xs) else M.opt none
/-- tests -/
def tV (a : M D) : M Bool := M.bnd a fun x => M.opt (match x with | .bl b => some b | _ => none)
def tAndM (a b : M Bool) : M Bool := M.bnd a fun k => if k = true then b else M.ret false
def tOrM (a b : M Bool) : M Bool := M.bnd a fun k => if k = true then M.ret true else b
def tNotM (a : M Bool) : M Bool := M.bnd a fun k => M.ret (!k)
def eIf (c : M Bool) (a b : M Rv) : M Rv := M.bnd c fun k => if k = true then a else b
/-- and, or, not as values: all but the last a truth value -/
def eAnd (a b : M Rv) : M Rv := M.bnd (tV (fz a)) fun k => if k = true then b else M.ret (.im (.bl false))
def eOr (a b : M Rv) : M Rv := M.bnd (tV (fz a)) fun k => if k = true then M.ret (.im (.bl true)) else b
def eNot (a : M Rv) : M Rv := M.bnd (tV (fz a)) fun k => M.ret (.im (.bl (!k)))
/-- a call -/
def liftF (F : Fn) (xs : List D) : M Rv := fun w => match F xs w.O with
  | .val r O => .val r { w with O := O }
  | .exc c O => .exc c { w with O := O }
  | .bad => .bad
def eCall (F : Fn) (a : M (List D)) : M Rv := M.bnd a fun xs => liftF F xs
/-- .. of a function that raises nothing -/
def liftF0 (F : Fn) (xs : List D) : M Rv := fun w => match F xs w.O with
  | .val r O => .val r { w with O := O }
  | _ => .bad
def eCall0 (F : Fn) (a : M (List D)) : M Rv := M.bnd a fun xs => liftF0 F xs
/-- a built-in of data alone -/
def eFn (F : List D → Option Rv) (a : M (List D)) : M Rv := M.bnd a fun xs => M.opt (F xs)
/-- a function of data that changes no object -/
def pureF (F : List D → Option Rv) : Fn := fun xs O => match F xs with
  | some r => .val r O
  | none => .bad

/-! ### built-ins -/
def intsD : List D → Option (List Int)
  | [] => some []
  | .int i :: xs => (intsD xs).map (i :: ·)
  | _ :: _ => none
def blsD : List D → Option (List Bool)
  | [] => some []
  | .bl i :: xs => (blsD xs).map (i :: ·)
  | _ :: _ => none
def seqD : D → Option (List D)
  | .lst xs => some xs
  | .tup xs => some xs
  | _ => none
def fLen : List D → Option Rv
  | [.scr ns] => some (.im (.int ns.length))
  | [.lst xs] => some (.im (.int xs.length))
  | [.tup xs] => some (.im (.int xs.length))
  | [.str z] => if okLen z.length then some (.im (.int z.length)) else none
  | _ => none
def fAll : List D → Option Rv
  | [.lst xs] => (blsD xs).map fun bs => .im (.bl (bs.all id))
  | _ => none
def fSum : List D → Option Rv
  | [.lst xs] => (intsD xs).map fun ns => .im (.int ns.sum)
  | _ => none
def fTuple : List D → Option Rv
  | [.lst xs] => some (.im (.tup xs))
  | [.tup xs] => some (.im (.tup xs))
  | _ => none
def fList : List D → Option Rv
  | [.lst xs] => some (.ow xs)
  | [.tup xs] => some (.ow xs)
  | _ => none
def fMin2 : List D → Option Rv
  | [.int i, .int j] => some (.im (.int (if j < i then j else i)))
  | _ => none
def fMax2 : List D → Option Rv
  | [.int i, .int j] => some (.im (.int (if j > i then j else i)))
  | _ => none
inductive Ty where
  | int | bool | str | list | tuple
def isTy : Ty → D → Bool
  | .int, .int _ => true
  | .int, .bl _ => true
  | .bool, .bl _ => true
  | .str, .str _ => true
  | .list, .lst _ => true
  | .tuple, .tup _ => true
  | _, _ => false
def fIs (t : Ty) : List D → Option Rv
  | [.dic _ _] => none
  | [.obj _] => none
  | [.cls _] => none
  | [.scr _] => none
  | [d] => some (.im (.bl (isTy t d)))
  | _ => none

/-! ### what is walked -/
def iSeq (a : M D) : M (List D) := M.bnd a fun x => M.opt (seqD x)
def iStr (a : M D) : M (List D) := M.bnd a fun x => M.opt (match x with | .str z => some (z.cps.toList.map fun c => .str ⟨#[c]⟩) | _ => none)
def okR (i : Int) : Bool := decide (-(2 ^ 62) ≤ i) && decide (i < 2 ^ 62)
def rangeD (i j : Int) : List D := (List.range (j - i).toNat).map fun (k : Nat) => D.int (i + (k : Int))
def iRg1 (a : M (List D)) : M (List D) := M.bnd a fun xs => M.opt (match xs with | [.int j] => if okR j then some (rangeD 0 j) else none | _ => none)
def iRg2 (a : M (List D)) : M (List D) := M.bnd a fun xs => M.opt (match xs with | [.int i, .int j] => if okR i && okR j then some (rangeD i j) else none | _ => none)
def enumD (k : Nat) : List D → List D
  | [] => []
  | x :: xs => .tup [.int k, x] :: enumD (k + 1) xs
/-- what enumerate and zip draw from -/
def drawn : D → Option (List D)
  | .lst xs => some xs
  | .tup xs => some xs
  | .str z => some (z.cps.toList.map fun c => .str ⟨#[c]⟩)
  | _ => none
def iEn (a : M (List D)) : M (List D) := M.bnd a fun xs => M.opt (match xs with | [x] => (drawn x).map (enumD 0) | _ => none)
def iZip (a : M (List D)) : M (List D) := M.bnd a fun xs => M.opt (match xs with | [x, y] => (drawn x).bind fun as => (drawn y).map fun bs => (as.zip bs).map fun p => .tup [p.1, p.2] | _ => none)

/-! ### targets -/
def gN (i : Nat) (r : Rv) : M Unit := fun w => .val () { w with ρ := w.ρ.set i r }
/-- names of a tuple -/
def gNs : List Nat → List D → M Unit
  | [], [] => M.ret ()
  | i :: is, d :: ds => M.bnd (gN i (.im d)) fun _ => gNs is ds
  | _, _ => M.opt none
def gT (is : List Nat) (r : Rv) : M Unit := match r with
  | .im (.tup ds) => gNs is ds
  | _ => M.opt none

/-! ### comprehensions -/
def wipeR (ρ : List Rv) : List Nat → List Rv
  | [] => ρ
  | v :: vs => (wipeR ρ vs).set v .un
/-- the turns: from each item the target, the tests, the element; the names outside stand -/
def lcL (g : Rv → M Unit) (t : M Bool) (e : M D) (ρ : List Rv) : List D → List D → List Rec → Out (List Rec) (List D)
  | [], acc, O => .val acc O
  | x :: xs, acc, O => match g (.im x) ⟨ρ, O⟩ with
    | .val _ w => match t w with
      | .val k w1 => if k = true then (match e w1 with
          | .val d w2 => if decide (acc.length < 16777216) then lcL g t e ρ xs (acc ++ [d]) w2.O else .bad
          | _ => .bad) else lcL g t e ρ xs acc w1.O
      | _ => .bad
    | _ => .bad
def frzR (ρ : List Rv) : List Nat → List Rv
  | [] => ρ
  | i :: is => frzR (match ρ[i]? with
    | some (.ow xs) => ρ.set i (.im (.lst xs))
    | some (.od ks vs) => ρ.set i (.im (.dic ks vs))
    | _ => ρ) is
def frz (is : List Nat) : M Unit := fun w => .val () { w with ρ := frzR w.ρ is }
/-- what a comprehension's block sees: shared data alone -/
def blkR (ρ : List Rv) (vs : List Nat) : List Rv := (wipeR ρ vs).map fun r => match r with
  | .im d => .im d
  | _ => .un
/-- [e for g in it if t]: vs the block's own names, is the names that the block may hand on -/
def eLc (vs is : List Nat) (it : M (List D)) (g : Rv → M Unit) (t : M Bool) (e : M D) : M Rv := M.bnd it fun xs => M.bnd (frz is) fun _ => fun w =>
  match lcL g t e (blkR w.ρ vs) xs [] w.O with
  | .val acc O => .val (.ow acc) { w with O := O }
  | _ => .bad
def tYesM : M Bool := M.ret true

/-! ### statements -/
abbrev MS := M Fl
def sNx : MS := M.ret .nxt
def sSeq (a b : MS) : MS := M.bnd a fun f => match f with
  | .nxt => b
  | f => M.ret f
def sAsg (g : Rv → M Unit) (e : M Rv) : MS := M.bnd e fun r => M.bnd (g r) fun _ => sNx
/-- values side by side: what is one's own stays one's own -/
def aNilR : M (List Rv) := M.ret []
def aConsR (a : M Rv) (r : M (List Rv)) : M (List Rv) := M.bnd a fun x => M.bnd r fun xs => M.ret (x :: xs)
def gNR : List Nat → List Rv → M Unit
  | [], [] => M.ret ()
  | i :: is, d :: ds => M.bnd (gN i d) fun _ => gNR is ds
  | _, _ => M.opt none
/-- plain names, both sides written -/
def sPar (is : List Nat) (a : M (List Rv)) : MS := M.bnd a fun xs => M.bnd (gNR is xs) fun _ => sNx
def augD : Operator → D → D → Option Rv
  | .Add, .int i, .int j => some (.im (.int (i + j)))
  | .Sub, .int i, .int j => some (.im (.int (i - j)))
  | .Mult, .int i, .int j => if okMul i j then some (.im (.int (i * j))) else none
  | _, _, _ => none
def sAug (i : Nat) (op : Operator) (e : M D) : MS := M.bnd (pVar i) fun x => M.bnd e fun y => M.bnd (M.opt (augD op x y)) fun r => M.bnd (gN i r) fun _ => sNx
def sDrop (e : M Rv) : MS := M.bnd e fun _ => sNx
/-- x.append(e), x a list of one's own -/
def sApp (i : Nat) (e : M D) : MS := fun w => match w.ρ[i]? with
  | some (.ow _) => M.bnd e (fun d => fun w => match w.ρ[i]? with
    | some (.ow xs) => if decide (xs.length < 16777216) then .val .nxt { w with ρ := w.ρ.set i (.ow (xs ++ [d])) } else .bad
    | _ => .bad) w
  | _ => .bad
def sRet (e : M Rv) : MS := M.bnd e fun r => M.ret (.ret r)
/-- return x: what was one's own is handed on as one's own -/
def sRetV (i : Nat) : MS := fun w => match w.ρ[i]? with
  | some .un => .bad
  | some r => .val (.ret r) { w with ρ := w.ρ.set i .un }
  | none => .bad
def sRetN : MS := M.ret (.ret (.im .non))
def sIf (c : M Bool) (a b : MS) : MS := M.bnd c fun k => if k = true then a else b
def sBrk : MS := M.ret .brk
def sCnt : MS := M.ret .cnt
def forL (g : Rv → M Unit) (b : MS) : List D → MS
  | [] => sNx
  | x :: xs => M.bnd (g (.im x)) fun _ => M.bnd b fun f => match f with
    | .nxt => forL g b xs
    | .cnt => forL g b xs
    | .brk => sNx
    | .ret r => M.ret (.ret r)
def sFor (it : M (List D)) (g : Rv → M Unit) (b : MS) : MS := M.bnd it fun xs => forL g b xs
def whileN (c : M Bool) (b : MS) : Nat → MS
  | 0 => M.opt none
  | n + 1 => M.bnd c fun k => if k = true then M.bnd b fun f => (match f with
    | .nxt => whileN c b n
    | .cnt => whileN c b n
    | .brk => sNx
    | .ret r => M.ret (.ret r)) else sNx
def okOut : Out W Fl → Prop
  | .bad => False
  | _ => True
open Classical in
noncomputable def sWhile (c : M Bool) (b : MS) : MS := fun w => if h : ∃ n, okOut (whileN c b n w) then whileN c b (Classical.choose h) w else .bad
/-- a def's body over its arguments: n slots -/
def runB (n : Nat) (b : MS) : Fn := fun ds O => match b ⟨ds.map Rv.im ++ List.replicate (n - ds.length) .un, O⟩ with
  | .val .nxt w => .val (.im .non) w.O
  | .val (.ret r) w => .val r w.O
  | .val _ _ => .bad
  | .exc c w => .exc c w.O
  | .bad => .bad
/-- a def of p parameters -/
def defF (p n : Nat) (b : MS) : Fn := fun ds O => if ds.length = p then runB n b ds O else .bad
/-- .. of p parameters and a star's -/
def defS (p n : Nat) (b : MS) : Fn := fun ds O => if p ≤ ds.length ∧ ds.length ≤ 1000000 then runB n b (ds.take p ++ [.tup (ds.drop p)]) O else .bad
end DL
end
section
set_option Elab.async false
set_option linter.all false
set_option maxRecDepth 100000
/-! DLb: what stands behind the data: how a state of DLa lies in the abstract heap, and the readings. -/
namespace DL
open PySem PySem.Spec PyProof.Rows L2

structure Kp where
  P : Program
  w : World
  K : PySem.W.Frag
abbrev kp (X : Cx) : Kp := ⟨X.prog, X.w, X.K⟩
/-- where the program's class of that name stands -/
def clsA (K : PySem.W.Frag) (c : Str) : Addr := match PySem.W.nsIn K mainGlobals c with
  | some (some (.ref a)) => a
  | _ => 0

/-! ### data in the heap -/
def dicO (a : Addr) (o : Obj) : HO := .ext fun h => h.get? a = some o
mutual
def D.nk : D → NestedKey
  | .bl b => .num (if b then 1 else 0)
  | .int i => .num i
  | .str x => .text x
  | .tup xs => .tup (D.nks xs)
  | _ => .none
def D.nks : List D → List NestedKey
  | [] => []
  | x :: xs => x.nk :: D.nks xs
end
inductive Ents (w : World) : List D → List V → List V → List DictEntry → Prop
  | nil : Ents w [] [] [] []
  | cons {d k v e ds ks vs es} : RelV k e.key → RelV v e.val → e.hash = d.nk.hash w → Ents w ds ks vs es → Ents w (d :: ds) (k :: ks) (v :: vs) (e :: es)
structure DicObj (w : World) (o : Obj) (ks : List D) (vks vvs : List V) : Prop where
  ex : o.ExactDict
  da : ∃ es ep, o.data = .dict es ep ∧ Ents w ks vks vvs es.toList
  nd : (ks.map D.nk).Nodup
mutual
inductive DV (Γ : Kp) (μ : List Addr) (G : Hp) : D → V → Prop
  | non : DV Γ μ G .non .non
  | bl (b : Bool) : DV Γ μ G (.bl b) (.bl b)
  | int (i : Int) : DV Γ μ G (.int i) (.int i)
  | str (x : Str) : DV Γ μ G (.str x) (.str x)
  | tup {a : Addr} {ds : List D} {vs : List V} : SqT Γ.K G a vs → DVs Γ μ G ds vs → DV Γ μ G (.tup ds) (.ref a)
  | lst {a : Addr} {ds : List D} {vs : List V} : G a = some (.lst vs) → DVs Γ μ G ds vs → DV Γ μ G (.lst ds) (.ref a)
  | scr {a : Addr} {ns : List Int} : SqL Γ.K G a (ns.map V.int) → DV Γ μ G (.scr ns) (.ref a)
  | dic {a : Addr} {o : Obj} {ks vs : List D} {vks vvs : List V} : G a = some (dicO a o) → (a == sysModules) = false → DicObj Γ.w o ks vks vvs → DVs Γ μ G ks vks → DVs Γ μ G vs vvs → DV Γ μ G (.dic ks vs) (.ref a)
  | obj {k : Nat} {a : Addr} : μ[k]? = some a → DV Γ μ G (.obj k) (.ref a)
  | cls {c : Str} : DV Γ μ G (.cls c) (.ref (clsA Γ.K c))
inductive DVs (Γ : Kp) (μ : List Addr) (G : Hp) : List D → List V → Prop
  | nil : DVs Γ μ G [] []
  | cons {d : D} {v : V} {ds : List D} {vs : List V} : DV Γ μ G d v → DVs Γ μ G ds vs → DVs Γ μ G (d :: ds) (v :: vs)
end

def Ext (μ μ' : List Addr) : Prop := ∃ t, μ' = μ ++ t
theorem Ext.refl (μ : List Addr) : Ext μ μ := ⟨[], by simp⟩
theorem Ext.trans {a b c : List Addr} : Ext a b → Ext b c → Ext a c
  | ⟨s, h⟩, ⟨t, k⟩ => ⟨s ++ t, by rw [k, h, List.append_assoc]⟩
theorem Ext.get {a b : List Addr} {k : Nat} {x : Addr} (e : Ext a b) (h : a[k]? = some x) : b[k]? = some x := by
  obtain ⟨t, rfl⟩ := e
  rw [List.getElem?_append_left (List.getElem?_eq_some_iff.mp h).1]
  exact h
theorem Same.sqt {K : PySem.W.Frag} {H H' : Hp} {a : Addr} {xs : List V} (e : Same H H') (h : SqT K H a xs) : SqT K H' a xs := by
  rcases h with (h | ⟨o, h⟩) | h
  · exact .inl (.inl (e _ _ h))
  · exact .inl (.inr ⟨o, e _ _ h⟩)
  · exact .inr h
mutual
theorem DV.mono {Γ : Kp} {μ μ' : List Addr} {G G' : Hp} (g : Same G G') (m : Ext μ μ') : ∀ {d : D} {v : V}, DV Γ μ G d v → DV Γ μ' G' d v
  | _, _, .non => .non
  | _, _, .bl b => .bl b
  | _, _, .int i => .int i
  | _, _, .str x => .str x
  | _, _, .tup h r => .tup (Same.sqt g h) (DVs.mono g m r)
  | _, _, .lst h r => .lst (g _ _ h) (DVs.mono g m r)
  | _, _, .scr h => .scr (L2.Same.seq g h)
  | _, _, .dic h s o r q => .dic (g _ _ h) s o (DVs.mono g m r) (DVs.mono g m q)
  | _, _, .obj h => .obj (m.get h)
  | _, _, .cls => .cls
theorem DVs.mono {Γ : Kp} {μ μ' : List Addr} {G G' : Hp} (g : Same G G') (m : Ext μ μ') : ∀ {ds : List D} {vs : List V}, DVs Γ μ G ds vs → DVs Γ μ' G' ds vs
  | _, _, .nil => .nil
  | _, _, .cons h r => .cons (DV.mono g m h) (DVs.mono g m r)
end
section
variable {Γ : Kp} {μ : List Addr} {G : Hp}
theorem DVs.length {ds : List D} {vs : List V} (h : DVs Γ μ G ds vs) : ds.length = vs.length := by
  induction ds generalizing vs with
  | nil => cases h; rfl
  | cons d ds ih => cases h with | cons a b => simp [ih b]
theorem DVs.get : ∀ {ds : List D} {vs : List V} {i : Nat} {d : D}, DVs Γ μ G ds vs → ds[i]? = some d → ∃ v, vs[i]? = some v ∧ DV Γ μ G d v
  | _, _, _, _, .nil, e => by simp at e
  | _, _, 0, _, .cons r _, e => by simp at e; subst e; exact ⟨_, rfl, r⟩
  | _, _, i + 1, d, .cons _ t, e => by
    obtain ⟨u, h1, h2⟩ := DVs.get (i := i) (d := d) t (by simpa using e)
    exact ⟨u, by simpa using h1, h2⟩
theorem DVs.getV : ∀ {ds : List D} {vs : List V} {i : Nat} {v : V}, DVs Γ μ G ds vs → vs[i]? = some v → ∃ d, ds[i]? = some d ∧ DV Γ μ G d v
  | _, _, _, _, .nil, e => by simp at e
  | _, _, 0, _, .cons r _, e => by simp at e; subst e; exact ⟨_, rfl, r⟩
  | _, _, i + 1, d, .cons _ t, e => by
    obtain ⟨u, h1, h2⟩ := DVs.getV (i := i) (v := d) t (by simpa using e)
    exact ⟨u, by simpa using h1, h2⟩
theorem DVs.append : ∀ {ds es : List D} {vs us : List V}, DVs Γ μ G ds vs → DVs Γ μ G es us → DVs Γ μ G (ds ++ es) (vs ++ us)
  | _, _, _, _, .nil, s => s
  | _, _, _, _, .cons r t, s => .cons r (DVs.append t s)
theorem DVs.take : ∀ {ds : List D} {vs : List V} (n : Nat), DVs Γ μ G ds vs → DVs Γ μ G (ds.take n) (vs.take n)
  | _, _, 0, _ => .nil
  | _, _, _ + 1, .nil => .nil
  | _, _, n + 1, .cons r t => .cons r (DVs.take n t)
theorem DVs.drop : ∀ {ds : List D} {vs : List V} (n : Nat), DVs Γ μ G ds vs → DVs Γ μ G (ds.drop n) (vs.drop n)
  | _, _, 0, r => r
  | _, _, _ + 1, .nil => .nil
  | _, _, n + 1, .cons _ t => DVs.drop n t
theorem DVs.rev {ds : List D} {vs : List V} (h : DVs Γ μ G ds vs) : DVs Γ μ G ds.reverse vs.reverse := by
  induction ds generalizing vs with
  | nil => cases h; exact .nil
  | cons d ds ih => cases h with
    | cons a b => rw [List.reverse_cons, List.reverse_cons]; exact (ih b).append (.cons a .nil)
theorem DVs.rep {ds : List D} {vs : List V} (h : DVs Γ μ G ds vs) : ∀ k : Nat, DVs Γ μ G (List.replicate k ds).flatten (List.replicate k vs).flatten
  | 0 => .nil
  | k + 1 => by rw [List.replicate_succ, List.replicate_succ, List.flatten_cons, List.flatten_cons]; exact h.append (DVs.rep h k)
theorem DVs.cut {ds : List D} {vs : List V} (h : DVs Γ μ G ds vs) (lo hi : Option Int) : DVs Γ μ G (cutL ds lo hi) (cutV vs lo hi) := by
  unfold cutL cutV
  rw [h.length]
  exact (h.drop _).take _
theorem DVs.set : ∀ {ds : List D} {vs : List V} {d : D} {v : V} (i : Nat), DVs Γ μ G ds vs → DV Γ μ G d v → DVs Γ μ G (ds.set i d) (vs.set i v)
  | _, _, _, _, _, .nil, _ => .nil
  | _, _, _, _, 0, .cons _ t, r => .cons r t
  | _, _, _, _, i + 1, .cons q t, r => .cons q (DVs.set i t r)
theorem DVs.ints {ds : List D} {vs : List V} {ns : List Int} (h : DVs Γ μ G ds vs) (e : intsD ds = some ns) : vs = ns.map V.int := by
  induction ds generalizing vs ns with
  | nil => cases h; simp [intsD] at e; subst e; rfl
  | cons d ds ih => cases h with
    | cons a b =>
      cases d with
      | int i =>
        simp only [intsD, Option.map_eq_some_iff] at e
        obtain ⟨m, e1, rfl⟩ := e
        cases a
        rw [ih b e1]; rfl
      | _ => simp [intsD] at e
theorem DVs.bls {ds : List D} {vs : List V} {ns : List Bool} (h : DVs Γ μ G ds vs) (e : blsD ds = some ns) : vs = ns.map V.bl := by
  induction ds generalizing vs ns with
  | nil => cases h; simp [blsD] at e; subst e; rfl
  | cons d ds ih => cases h with
    | cons a b =>
      cases d with
      | bl i =>
        simp only [blsD, Option.map_eq_some_iff] at e
        obtain ⟨m, e1, rfl⟩ := e
        cases a
        rw [ih b e1]; rfl
      | _ => simp [blsD] at e
end

/-! ### states -/
/-- what was tracked is there; objects of the program's classes may have other fields -/
def LeH (H H' : Hp) : Prop := ∀ b o, H b = some o → H' b = some o ∨ ∃ C dx fs fs', o = .ins C dx fs ∧ H' b = some (.ins C dx fs')
theorem LeH.refl (H : Hp) : LeH H H := fun _ _ h => .inl h
theorem LeH.of {H H' : Hp} (h : Same H H') : LeH H H' := fun b o e => .inl (h b o e)
theorem LeH.trans {H H1 H2 : Hp} (a : LeH H H1) (b : LeH H1 H2) : LeH H H2 := fun c o h => by
  rcases a c o h with h1 | ⟨C, dx, fs, fs', rfl, h1⟩
  · exact b c o h1
  · rcases b c _ h1 with h2 | ⟨C', dx', fs1, fs2, e, h2⟩
    · exact .inr ⟨C, dx, fs, fs', rfl, h2⟩
    · cases e; exact .inr ⟨C, dx, fs, fs2, rfl, h2⟩
theorem LeH.none {H H' : Hp} (a : LeH H H') {b : Addr} (h : H' b = Option.none) : H b = Option.none := by
  cases q : H b with
  | none => rfl
  | some o =>
    rcases a b o q with z | ⟨_, _, _, _, _, z⟩ <;> (rw [h] at z; cases z)
theorem LeH.same {G H H' : Hp} (g : Same G H) (gi : ∀ b C dx fs, G b ≠ some (.ins C dx fs)) (l : LeH H H') : Same G H' := fun b o e => by
  rcases l b o (g b o e) with z | ⟨C, dx, fs, _, rfl, _⟩
  · exact z
  · exact absurd e (gi b C dx fs)
theorem Same.upd_new {H : Hp} {p : Addr} {o : HO} (h : H p = none) : Same H (upd H p o) := fun b x e => by
  rw [upd_ne (ne_of_none e h)]; exact e

structure Bs where
  H0 : Hp
  G0 : Hp
  μ0 : List Addr

def Rv.own : Rv → Bool
  | .ow _ => true
  | .od _ _ => true
  | _ => false
/-- a value of a slot or an expression -/
def RvOk (Γ : Kp) (B : Bs) (μ : List Addr) (G H : Hp) : Rv → V → Prop
  | .un, _ => False
  | .im d, v => DV Γ μ G d v
  | .ow xs, v => ∃ a vs, v = .ref a ∧ H a = some (.lst vs) ∧ G a = none ∧ B.H0 a = none ∧ DVs Γ μ G xs vs
  | .od ks vs, v => ∃ a o vks vvs, v = .ref a ∧ H a = some (dicO a o) ∧ G a = none ∧ B.H0 a = none ∧ (a == sysModules) = false ∧ DicObj Γ.w o ks vks vvs ∧ DVs Γ μ G ks vks ∧ DVs Γ μ G vs vvs
def Own (ρ : List Rv) (σ : L2.St) (i : Nat) (a : Addr) : Prop := σ[i]? = some (some (.ref a)) ∧ ∃ r, ρ[i]? = some r ∧ r.own = true
inductive FsOk (Γ : Kp) (μ : List Addr) (G : Hp) : List (Str × D) → List (Str × V) → Prop
  | nil : FsOk Γ μ G [] []
  | cons {f d v ds vs} : DV Γ μ G d v → FsOk Γ μ G ds vs → FsOk Γ μ G ((f, d) :: ds) ((f, v) :: vs)
structure ObOk (Γ : Kp) (μ : List Addr) (G H : Hp) (O : List Rec) : Prop where
  len : μ.length = O.length
  nd : μ.Nodup
  at_ : ∀ (k : Nat) (r : Rec), O[k]? = some r → ∃ x dx fs, μ[k]? = some x ∧ H x = some (.ins (clsA Γ.K r.c) dx fs) ∧ FsOk Γ μ G r.fs fs
structure Core (Γ : Kp) (B : Bs) (w : W) (σ : L2.St) (H G : Hp) (μ : List Addr) : Prop where
  g0 : Same B.G0 G
  gH : Same G H
  gi : ∀ b C dx fs, G b ≠ some (.ins C dx fs)
  fr : ∀ b o, G b = some o → B.G0 b = none → B.H0 b = none
  h0 : LeH B.H0 H
  len : w.ρ.length = σ.length
  sl : ∀ (i : Nat) (r : Rv), w.ρ[i]? = some r → r ≠ .un → ∃ v, σ[i]? = some (some v) ∧ RvOk Γ B μ G H r v
  sep : ∀ (i j : Nat) (a : Addr), Own w.ρ σ i a → Own w.ρ σ j a → i = j
  m0 : Ext B.μ0 μ
  ob : ObOk Γ μ G H w.O
structure Top (Γ : Kp) (B : Bs) (w : W) (σ : L2.St) (H G : Hp) (μ : List Addr) (r : Rv) (v : V) : Prop where
  ok : RvOk Γ B μ G H r v
  sep : r.own = true → ∀ (i : Nat) (a : Addr), v = .ref a → ¬ Own w.ρ σ i a
/-- data that may be read: shared, or one's own list or dict as it stands -/
inductive PV (Γ : Kp) (μ : List Addr) (G H : Hp) : D → V → Prop
  | sh {d v} : DV Γ μ G d v → PV Γ μ G H d v
  | lst {a xs vs} : H a = some (.lst vs) → DVs Γ μ G xs vs → PV Γ μ G H (.lst xs) (.ref a)
  | dic {a o ks vs vks vvs} : H a = some (dicO a o) → (a == sysModules) = false → DicObj Γ.w o ks vks vvs → DVs Γ μ G ks vks → DVs Γ μ G vs vvs → PV Γ μ G H (.dic ks vs) (.ref a)
/-- what is kept while code runs -/
structure SH where
  p : Hp → List Addr → Hp → Prop
  st : ∀ {G G' μ μ' H H'}, Same G G' → Ext μ μ' → LeH H H' → p G μ H → p G' μ' H'
structure SG where
  p : Hp → List Addr → Prop
  st : ∀ {G G' μ μ'}, Same G G' → Ext μ μ' → p G μ → p G' μ'
def SG.sh (P : SG) : SH := ⟨fun G μ _ => P.p G μ, fun g m _ h => P.st g m h⟩
def SH.and (P Q : SH) : SH := ⟨fun G μ H => P.p G μ H ∧ Q.p G μ H, fun g m l h => ⟨P.st g m l h.1, Q.st g m l h.2⟩⟩
def SG.and (P Q : SG) : SG := ⟨fun G μ => P.p G μ ∧ Q.p G μ, fun g m h => ⟨P.st g m h.1, Q.st g m h.2⟩⟩
def SG.tt : SG := ⟨fun _ _ => True, fun _ _ h => h⟩
theorem PV.mono {Γ : Kp} {μ μ' : List Addr} {G G' H H' : Hp} {d : D} {v : V} (g : Same G G') (m : Ext μ μ') (l : LeH H H') (h : PV Γ μ G H d v) : PV Γ μ' G' H' d v := by
  cases h with
  | sh h => exact .sh (h.mono g m)
  | lst h r =>
    rcases l _ _ h with z | ⟨_, _, _, _, e, _⟩
    · exact .lst z (r.mono g m)
    · cases e
  | dic h s o r q =>
    rcases l _ _ h with z | ⟨_, _, _, _, e, _⟩
    · exact .dic z s o (r.mono g m) (q.mono g m)
    · cases e
def sPV (Γ : Kp) (d : D) (v : V) : SH := ⟨fun G μ H => PV Γ μ G H d v, fun g m l h => h.mono g m l⟩
def sDV (Γ : Kp) (d : D) (v : V) : SH := ⟨fun G μ _ => DV Γ μ G d v, fun g m _ h => h.mono g m⟩
def sDVs (Γ : Kp) (d : List D) (v : List V) : SH := ⟨fun G μ _ => DVs Γ μ G d v, fun g m _ h => h.mono g m⟩

section
variable (Γ : Kp) (B : Bs) (w : W) (σ : L2.St) (H : Hp) (P : SH)
def Rep : Prop := ∃ G μ, Core Γ B w σ H G μ ∧ P.p G μ H
def RepR (r : Rv) (v : V) : Prop := ∃ G μ, Core Γ B w σ H G μ ∧ P.p G μ H ∧ Top Γ B w σ H G μ r v
def RepD (d : D) (v : V) : Prop := ∃ G μ, Core Γ B w σ H G μ ∧ P.p G μ H ∧ DV Γ μ G d v
def RepP (d : D) (v : V) : Prop := ∃ G μ, Core Γ B w σ H G μ ∧ P.p G μ H ∧ PV Γ μ G H d v
def RepA (ds : List D) (vs : List V) : Prop := ∃ G μ, Core Γ B w σ H G μ ∧ P.p G μ H ∧ DVs Γ μ G ds vs
end
def Aft {S α : Type} (o : Out S α) (R : α → S → Prop) (E : Str → S → Prop) : Prop := match o with
  | .val a w => R a w
  | .exc c w => E c w
  | .bad => False
theorem aft_bnd {α β : Type} {m : M α} {k : α → M β} {w : W} {R : β → W → Prop} {E : Str → W → Prop} (h : Aft (M.bnd m k w) R E) : Aft (m w) (fun a w' => Aft (k a w') R E) E := by
  unfold M.bnd at h
  cases e : m w with
  | val a w' => rw [e] at h; exact h
  | exc c w' => rw [e] at h; exact h
  | bad => rw [e] at h; exact h
theorem Aft.mono {S α : Type} {o : Out S α} {R R' : α → S → Prop} {E E' : Str → S → Prop} (h : Aft o R E) (hr : ∀ a w, R a w → R' a w) (he : ∀ c w, E c w → E' c w) : Aft o R' E' := by
  cases o with
  | val a w => exact hr a w h
  | exc c w => exact he c w h
  | bad => exact h
abbrev Wish := Str → L2.St → Hp → Prop
abbrev W0 : Wish := fun _ _ _ => False
section
variable (Γ : Kp) (Wx : Wish)
abbrev ExOk (B : Bs) (σ : L2.St) (P : SH) : Str → W → Prop := fun c w' => ∀ H', Rep Γ B w' σ H' P → Wx c σ H'
/-- an expression's reading -/
def rd (f : M Rv) : TE := fun σ H Q => ∃ B w P, Rep Γ B w σ H P ∧ Aft (f w) (fun r w' => ∀ v H', RepR Γ B w' σ H' P r v → Q v H') (ExOk Γ Wx B σ P)
def rdd (f : M D) : TE := fun σ H Q => ∃ B w P, Rep Γ B w σ H P ∧ Aft (f w) (fun r w' => ∀ v H', RepD Γ B w' σ H' P r v → Q v H') (ExOk Γ Wx B σ P)
def rdp (f : M D) : TE := fun σ H Q => ∃ B w P, Rep Γ B w σ H P ∧ Aft (f w) (fun r w' => ∀ v H', RepP Γ B w' σ H' P r v → Q v H') (ExOk Γ Wx B σ P)
def rda (f : M (List D)) : TA := fun σ H Q => ∃ B w P, Rep Γ B w σ H P ∧ Aft (f w) (fun r w' => ∀ v H', RepA Γ B w' σ H' P r v → Q v H') (ExOk Γ Wx B σ P)
def rdt (f : M Bool) : TT := fun σ H Q => ∃ B w P, Rep Γ B w σ H P ∧ Aft (f w) (fun b w' => ∀ H', Rep Γ B w' σ H' P → Q b H') (ExOk Γ Wx B σ P)
def rdo (f : M (Option Int)) : TO := fun σ H Q => ∃ B w P, Rep Γ B w σ H P ∧ Aft (f w) (fun b w' => ∀ H', Rep Γ B w' σ H' P → Q b H') (ExOk Γ Wx B σ P)
/-- a target's: vs the slots that it stores -/
def rdg (vs : List Nat) (g : Rv → M Unit) : TG := fun v σ H Q => ∃ B w P r, RepR Γ B w σ H P r v ∧ Aft (g r w) (fun _ w' => ∀ σ' H', wipe σ' vs = wipe σ vs → Rep Γ B w' σ' H' P → Q σ' H') (fun c w' => ∀ σ' H', Rep Γ B w' σ' H' P → Wx c σ' H')
def EndOk (B : Bs) (P : SG) (D : Ends) (f : Fl) (w' : W) : Prop := match f with
  | .nxt => ∀ σ' H', Rep Γ B w' σ' H' P.sh → D.nx σ' H'
  | .ret r => ∀ v σ' H', RepR Γ B w' σ' H' P.sh r v → D.rt v H'
  | .brk => ∀ σ' H', Rep Γ B w' σ' H' P.sh → D.bk σ' H'
  | .cnt => ∀ σ' H', Rep Γ B w' σ' H' P.sh → D.ct σ' H'
/-- a statement's -/
def rdS (g : MS) : TS := fun D σ H => ∃ B w P, Rep Γ B w σ H (SG.sh P) ∧ Aft (g w) (EndOk Γ B P D) (fun c w' => ∀ σ' H', Rep Γ B w' σ' H' P.sh → Wx c σ' H')
/-- what a turn gives -/
def YOk (μ : List Addr) (G H : Hp) (d : D) (x : V) (H' : Hp) : Prop :=
  (H' = H ∧ DV Γ μ G d x) ∨ ∃ T d1 d2 x1 x2, x = .ref T ∧ H T = none ∧ H' = upd H T (.tup [x1, x2]) ∧ d = .tup [d1, d2] ∧ DV Γ μ G d1 x1 ∧ DV Γ μ G d2 x2
structure ItOk (S : SH) (J : It) (items : List D) : Prop where
  wk : ∃ n Gd Y, n = items.length ∧ Walk J n Gd Y ∧ (∀ G μ H, Same G H → S.p G μ H → Gd H) ∧
    ∀ i H x H' G μ, i < n → Same G H → S.p G μ H → Y i H x H' → ∃ d, items[i]? = some d ∧ YOk Γ μ G H d x H'
/-- what is walked by a for: shared data -/
def rdi (h : M (List D)) : TI := fun σ H R => ∃ B w P, Rep Γ B w σ H P ∧ Aft (h w) (fun items w' => ∀ (S : SG) (J : It) H', Rep Γ B w' σ H' (P.and S.sh) → ItOk Γ S.sh J items → R J H') (ExOk Γ Wx B σ P)
/-- .. by a comprehension -/
def rdc (h : M (List D)) : TI := fun σ H R => ∃ B w P, Rep Γ B w σ H P ∧ Aft (h w) (fun items w' => ∀ (S : SH) (J : It) H', Rep Γ B w' σ H' (P.and S) → ItOk Γ S J items → R J H') (ExOk Γ Wx B σ P)
end
end DL
end
section
set_option Elab.async false
set_option linter.all false
set_option maxRecDepth 100000
set_option maxHeartbeats 1000000
/-! DLc: states change; names, operators, displays, tests, calls: each denotation of DLa is kept by the program's code. -/
namespace DL
open PySem PySem.Spec PyProof.Rows L2

section
variable {Γ : Kp} {B : Bs} {w : W} {σ : L2.St} {H H' G G' : Hp} {μ μ' : List Addr} {p a : Addr} {o : HO} {r : Rv} {v : V} {P : SH} {i : Nat}
abbrev NI (o : HO) : Prop := ∀ C dx fs, o ≠ .ins C dx fs
theorem FsOk.mono (g : Same G G') (m : Ext μ μ') {ds : List (Str × D)} {vs : List (Str × V)} (h : FsOk Γ μ G ds vs) : FsOk Γ μ' G' ds vs := by
  induction h with
  | nil => exact .nil
  | cons a _ ih => exact .cons (a.mono g m) ih
theorem RvOk.mono (g : Same G G') (m : Ext μ μ') (l : LeH H H') (hf : ∀ b o, H b = some o → G b = none → G' b = none) (h : RvOk Γ B μ G H r v) : RvOk Γ B μ' G' H' r v := by
  cases r with
  | un => exact h
  | im d => exact DV.mono g m h
  | ow xs =>
    obtain ⟨a, vs, e, h1, h2, h3, h4⟩ := h
    rcases l _ _ h1 with z | ⟨_, _, _, _, e, _⟩
    · exact ⟨a, vs, e, z, hf a _ h1 h2, h3, h4.mono g m⟩
    · cases e
  | od ks vs =>
    obtain ⟨a, o, vks, vvs, e, h1, h2, h3, h4, h5, h6, h7⟩ := h
    rcases l _ _ h1 with z | ⟨_, _, _, _, e, _⟩
    · exact ⟨a, o, vks, vvs, e, z, hf a _ h1 h2, h3, h4, h5, h6.mono g m, h7.mono g m⟩
    · cases e
theorem ObOk.same (h : Same H H') (g : Same G G') {O : List Rec} (x : ObOk Γ μ G H O) : ObOk Γ μ G' H' O :=
  ⟨x.len, x.nd, fun k r e => let ⟨x', dx, fs, h1, h2, h3⟩ := x.at_ k r e; ⟨x', dx, fs, h1, h _ _ h2, h3.mono g (Ext.refl _)⟩⟩
/-- one's own: where it stands, and what it is once it is shared -/
theorem RvOk.owner (h : RvOk Γ B μ G H r v) (ho : r.own = true) : ∃ a o, v = .ref a ∧ H a = some o ∧ NI o ∧ G a = none ∧ B.H0 a = none ∧ ∀ G', Same G G' → G' a = some o → DV Γ μ G' r.fz v := by
  cases r with
  | un => cases ho
  | im d => cases ho
  | ow xs =>
    obtain ⟨a, vs, e, h1, h2, h3, h4⟩ := h
    exact ⟨a, _, e, h1, fun _ _ _ z => (nomatch z), h2, h3, fun G' g q => by subst e; exact .lst q (h4.mono g (Ext.refl _))⟩
  | od ks vs =>
    obtain ⟨a, o, vks, vvs, e, h1, h2, h3, h4, h5, h6, h7⟩ := h
    exact ⟨a, _, e, h1, fun _ _ _ z => (nomatch z), h2, h3, fun G' g q => by subst e; exact .dic q h4 h5 (h6.mono g (Ext.refl _)) (h7.mono g (Ext.refl _))⟩
theorem RvOk.pv (h : RvOk Γ B μ G H r v) (hu : r ≠ .un) : PV Γ μ G H r.fz v := by
  cases r with
  | un => exact absurd rfl hu
  | im d => exact .sh h
  | ow xs =>
    obtain ⟨a, vs, rfl, h1, h2, h3, h4⟩ := h
    exact .lst h1 h4
  | od ks vs =>
    obtain ⟨a, o, vks, vvs, rfl, h1, h2, h3, h4, h5, h6, h7⟩ := h
    exact .dic h1 h4 h5 h6 h7
theorem Core.there (c : Core Γ B w σ H G μ) (h : Own w.ρ σ i a) : ∃ o, H a = some o := by
  obtain ⟨h1, r, h2, h3⟩ := h
  obtain ⟨v, e, ok⟩ := c.sl i r h2 (by rintro rfl; cases h3)
  rw [h1] at e; cases e
  obtain ⟨a', o, e, h4, _⟩ := ok.owner h3
  cases e
  exact ⟨o, h4⟩
/-- a new thing that is shared -/
theorem Core.new (c : Core Γ B w σ H G μ) (h : H p = none) (ni : NI o) : Core Γ B w σ (upd H p o) (upd G p o) μ := by
  have gn : G p = none := by
    cases q : G p with
    | none => rfl
    | some x => have := c.gH _ _ q; rw [h] at this; cases this
  have sH := Same.upd_new (o := o) h
  have sG := Same.upd_new (o := o) gn
  refine ⟨fun b x e => sG _ _ (c.g0 _ _ e), fun b x e => ?_, fun b C dx fs e => ?_, fun b x e n => ?_, c.h0.trans (.of sH), c.len, fun i r e hu => ?_, c.sep, c.m0, c.ob.same sH sG⟩
  · by_cases hb : b = p
    · subst hb; rw [upd_same] at e ⊢; exact e
    · rw [upd_ne hb] at e ⊢; exact c.gH _ _ e
  · by_cases hb : b = p
    · subst hb; rw [upd_same] at e; exact ni C dx fs (Option.some.inj e)
    · rw [upd_ne hb] at e; exact c.gi _ _ _ _ e
  · by_cases hb : b = p
    · subst hb; exact c.h0.none h
    · rw [upd_ne hb] at e; exact c.fr _ _ e n
  · obtain ⟨v, h1, h2⟩ := c.sl i r e hu
    exact ⟨v, h1, h2.mono sG (Ext.refl _) (.of sH) fun b x q n => by rw [upd_ne (ne_of_none q h)]; exact n⟩
/-- a new thing that is not -/
theorem Core.newOwn (c : Core Γ B w σ H G μ) (h : H p = none) : Core Γ B w σ (upd H p o) G μ := by
  have sH := Same.upd_new (o := o) h
  exact ⟨c.g0, fun b x e => sH _ _ (c.gH _ _ e), c.gi, c.fr, c.h0.trans (.of sH), c.len, fun i r e hu =>
    let ⟨v, h1, h2⟩ := c.sl i r e hu
    ⟨v, h1, h2.mono (Same.refl _) (Ext.refl _) (.of sH) fun b x q n => n⟩, c.sep, c.m0, c.ob.same sH (Same.refl _)⟩
theorem Core.gnone (c : Core Γ B w σ H G μ) (h : H p = none) : G p = none := by
  cases q : G p with
  | none => rfl
  | some x => have := c.gH _ _ q; rw [h] at this; cases this
/-- what nobody owns is shared from now on -/
theorem Core.share (c : Core Γ B w σ H G μ) (h : H a = some o) (ni : NI o) (n0 : B.H0 a = none) (hg : G a = none) (no : ∀ i, ¬ Own w.ρ σ i a) : Core Γ B w σ H (upd G a o) μ := by
  have sG := Same.upd_new (o := o) hg
  refine ⟨fun b x e => sG _ _ (c.g0 _ _ e), fun b x e => ?_, fun b C dx fs e => ?_, fun b x e n => ?_, c.h0, c.len, fun i r e hu => ?_, c.sep, c.m0, c.ob.same (Same.refl _) sG⟩
  · by_cases hb : b = a
    · subst hb; rw [upd_same] at e; cases e; exact h
    · rw [upd_ne hb] at e; exact c.gH _ _ e
  · by_cases hb : b = a
    · subst hb; rw [upd_same] at e; exact ni C dx fs (Option.some.inj e)
    · rw [upd_ne hb] at e; exact c.gi _ _ _ _ e
  · by_cases hb : b = a
    · subst hb; exact n0
    · rw [upd_ne hb] at e; exact c.fr _ _ e n
  · obtain ⟨v, h1, h2⟩ := c.sl i r e hu
    refine ⟨v, h1, ?_⟩
    cases ho : r.own with
    | false =>
      cases r with
      | im d => exact DV.mono sG (Ext.refl _) h2
      | un => exact absurd rfl hu
      | ow _ => cases ho
      | od _ _ => cases ho
    | true =>
      obtain ⟨a', o', rfl, q, _⟩ := h2.owner ho
      have ne : a' ≠ a := fun z => no i ⟨by rw [← z]; exact h1, r, e, ho⟩
      cases r with
      | im d => cases ho
      | un => cases ho
      | ow xs =>
        obtain ⟨a1, vs, e1, h1', h2', h3', h4'⟩ := h2
        cases e1
        exact ⟨_, vs, rfl, h1', by rw [upd_ne ne]; exact h2', h3', h4'.mono sG (Ext.refl _)⟩
      | od ks vs =>
        obtain ⟨a1, o, vks, vvs, e1, h1', h2', h3', h4', h5', h6', h7'⟩ := h2
        cases e1
        exact ⟨_, o, vks, vvs, rfl, h1', by rw [upd_ne ne]; exact h2', h3', h4', h5', h6'.mono sG (Ext.refl _), h7'.mono sG (Ext.refl _)⟩
theorem get_set {α : Type} {l : List α} {i j : Nat} {x y : α} (h : (l.set i x)[j]? = some y) : (j = i ∧ y = x) ∨ (j ≠ i ∧ l[j]? = some y) := by
  by_cases hj : j = i
  · subst hj
    by_cases hl : j < l.length
    · rw [List.getElem?_set_self hl] at h; exact .inl ⟨rfl, (Option.some.inj h).symm⟩
    · rw [List.getElem?_eq_none (by simpa using hl)] at h; cases h
  · rw [List.getElem?_set_ne (Ne.symm hj)] at h; exact .inr ⟨hj, h⟩
/-- a slot is given up -/
theorem Core.unset (c : Core Γ B w σ H G μ) (i : Nat) : Core Γ B { w with ρ := w.ρ.set i .un } σ H G μ :=
  ⟨c.g0, c.gH, c.gi, c.fr, c.h0, by simpa using c.len, fun j r e hu => by
    rcases get_set e with ⟨_, rfl⟩ | ⟨_, e⟩
    · exact absurd rfl hu
    · exact c.sl j r e hu, fun j k a h1 h2 => by
    obtain ⟨e1, r1, q1, o1⟩ := h1
    obtain ⟨e2, r2, q2, o2⟩ := h2
    rcases get_set q1 with ⟨_, rfl⟩ | ⟨_, q1⟩
    · cases o1
    · rcases get_set q2 with ⟨_, rfl⟩ | ⟨_, q2⟩
      · cases o2
      · exact c.sep j k a ⟨e1, r1, q1, o1⟩ ⟨e2, r2, q2, o2⟩, c.m0, c.ob⟩
theorem not_own_unset {ρ : List Rv} (h : Own (ρ.set i .un) σ i a) : False := by
  obtain ⟨_, r, q, o⟩ := h
  rcases get_set q with ⟨_, rfl⟩ | ⟨z, _⟩
  · cases o
  · exact z rfl
/-- a slot holds what it holds, now told as shared -/
theorem Core.setim (c : Core Γ B w σ H G μ) {d : D} (hv : σ[i]? = some (some v)) (h : DV Γ μ G d v) : Core Γ B { w with ρ := w.ρ.set i (.im d) } σ H G μ :=
  ⟨c.g0, c.gH, c.gi, c.fr, c.h0, by simpa using c.len, fun j r e hu => by
    rcases get_set e with ⟨rfl, rfl⟩ | ⟨_, e⟩
    · exact ⟨v, hv, h⟩
    · exact c.sl j r e hu, fun j k a h1 h2 => by
    obtain ⟨e1, r1, q1, o1⟩ := h1
    obtain ⟨e2, r2, q2, o2⟩ := h2
    rcases get_set q1 with ⟨_, rfl⟩ | ⟨_, q1⟩
    · cases o1
    · rcases get_set q2 with ⟨_, rfl⟩ | ⟨_, q2⟩
      · cases o2
      · exact c.sep j k a ⟨e1, r1, q1, o1⟩ ⟨e2, r2, q2, o2⟩, c.m0, c.ob⟩
/-- a slot is stored: what is on top goes there -/
theorem Core.store (c : Core Γ B w σ H G μ) (t : Top Γ B w σ H G μ r v) (hr : r ≠ .un) : Core Γ B { w with ρ := w.ρ.set i r } (σ.set i (some v)) H G μ := by
  have nz : ∀ j (k : Nat) (a : Addr), j ≠ i → Own (w.ρ.set i r) (σ.set i (some v)) j a → Own w.ρ σ j a := fun j _ a hj h => by
    obtain ⟨e, r', q, o⟩ := h
    rw [List.getElem?_set_ne (Ne.symm hj)] at e
    rw [List.getElem?_set_ne (Ne.symm hj)] at q
    exact ⟨e, r', q, o⟩
  have at_i : ∀ a, Own (w.ρ.set i r) (σ.set i (some v)) i a → v = .ref a ∧ r.own = true := fun a h => by
    obtain ⟨e, r', q, o⟩ := h
    rcases get_set e with ⟨_, e⟩ | ⟨z, _⟩
    · rcases get_set q with ⟨_, rfl⟩ | ⟨z, _⟩
      · exact ⟨(Option.some.inj e).symm, o⟩
      · exact absurd rfl z
    · exact absurd rfl z
  refine ⟨c.g0, c.gH, c.gi, c.fr, c.h0, by simpa using c.len, fun j r' e hu => ?_, fun j k a h1 h2 => ?_, c.m0, c.ob⟩
  · rcases get_set e with ⟨rfl, rfl⟩ | ⟨hj, e⟩
    · have hl : j < σ.length := by
        rw [← c.len]
        by_cases q : j < w.ρ.length
        · exact q
        · rw [List.getElem?_eq_none (by simpa using q)] at e; cases e
      exact ⟨v, List.getElem?_set_self hl, t.ok⟩
    · rw [List.getElem?_set_ne (Ne.symm hj)]
      exact c.sl j r' e hu
  · by_cases hj : j = i
    · by_cases hk : k = i
      · rw [hj, hk]
      · subst hj
        obtain ⟨e, ho⟩ := at_i a h1
        exact absurd (nz k 0 a hk h2) (t.sep ho k a e)
    · by_cases hk : k = i
      · subst hk
        obtain ⟨e, ho⟩ := at_i a h2
        exact absurd (nz j 0 a hj h1) (t.sep ho j a e)
      · exact c.sep j k a (nz j 0 a hj h1) (nz k 0 a hk h2)
/-- what is on top is shared -/
theorem RepR.fz (h : RepR Γ B w σ H P r v) (hr : r ≠ .un) : RepD Γ B w σ H P r.fz v := by
  obtain ⟨G, μ, c, hp, t⟩ := h
  cases ho : r.own with
  | false =>
    cases r with
    | un => exact absurd rfl hr
    | im d => exact ⟨G, μ, c, hp, t.ok⟩
    | ow _ => cases ho
    | od _ _ => cases ho
  | true =>
    obtain ⟨a, o, rfl, h1, h2, h3, h4, h5⟩ := t.ok.owner ho
    have sG := Same.upd_new (o := o) h3
    exact ⟨_, μ, c.share h1 h2 h4 h3 fun i z => t.sep ho i a rfl z, P.st sG (Ext.refl _) (LeH.refl _) hp, h5 _ sG upd_same⟩
theorem RepD.pv {d : D} (h : RepD Γ B w σ H P d v) : RepP Γ B w σ H P d v := let ⟨G, μ, c, hp, t⟩ := h; ⟨G, μ, c, hp, .sh t⟩
theorem RepD.im {d : D} (h : RepD Γ B w σ H P d v) : RepR Γ B w σ H P (.im d) v := let ⟨G, μ, c, hp, t⟩ := h; ⟨G, μ, c, hp, t, fun z => nomatch z⟩
theorem ret_im {d : D} (c : Core Γ B w σ H G μ) (hp : P.p G μ H) (h : DV Γ μ G d v) : RepR Γ B w σ H P (.im d) v := ⟨G, μ, c, hp, h, fun z => nomatch z⟩
theorem ret_tup {ds : List D} {vs : List V} (c : Core Γ B w σ H G μ) (hp : P.p G μ H) (h : DVs Γ μ G ds vs) (hn : H p = none) : RepR Γ B w σ (upd H p (.tup vs)) P (.im (.tup ds)) (.ref p) := by
  have sG := Same.upd_new (o := .tup vs) (c.gnone hn)
  exact ret_im (c.new hn fun _ _ _ z => nomatch z) (P.st sG (Ext.refl _) (.of (Same.upd_new hn)) hp) (.tup (.inl (.inl upd_same)) (h.mono sG (Ext.refl _)))
theorem Core.own_ne (c : Core Γ B w σ H G μ) (hn : H p = none) (z : Own w.ρ σ i p) : False := by
  obtain ⟨o, e⟩ := c.there z
  rw [hn] at e; cases e
theorem ret_lst {ds : List D} {vs : List V} (c : Core Γ B w σ H G μ) (hp : P.p G μ H) (h : DVs Γ μ G ds vs) (hn : H p = none) : RepR Γ B w σ (upd H p (.lst vs)) P (.ow ds) (.ref p) := by
  refine ⟨G, μ, c.newOwn hn, P.st (Same.refl _) (Ext.refl _) (.of (Same.upd_new hn)) hp, ⟨p, vs, rfl, upd_same, c.gnone hn, c.h0.none hn, h⟩, fun _ i a e z => ?_⟩
  cases e
  exact c.own_ne hn z
end

/-! ### names -/
theorem PE.imp {X : Cx} {e : Expr} {t t' : TE} (h : PE X e t) (i : ∀ σ H Q, t' σ H Q → t σ H Q) : PE X e t' := ⟨fun pins s σ H Q I q => h.run pins s σ H Q I (i σ H Q q)⟩
theorem PT.imp {X : Cx} {e : Expr} {t t' : TT} (h : PT X e t) (i : ∀ σ H Q, t' σ H Q → t σ H Q) : PT X e t' := ⟨fun pins s σ H Q I q => h.run pins s σ H Q I (i σ H Q q)⟩
theorem PA.imp {X : Cx} {e : List Expr} {t t' : TA} (h : PA X e t) (i : ∀ σ H Q, t' σ H Q → t σ H Q) : PA X e t' := ⟨fun pos pins s σ H Q I q => h.run pos pins s σ H Q I (i σ H Q q)⟩
theorem PI.imp {X : Cx} {g e : Expr} {t t' : TI} (h : PI X g e t) (i : ∀ σ H Q, t' σ H Q → t σ H Q) : PI X g e t' := ⟨fun pins s σ H Q I q => h.run pins s σ H Q I (i σ H Q q)⟩
theorem PG.imp {X : Cx} {e : Expr} {t t' : TG} (h : PG X e t) (i : ∀ v σ H Q, t' v σ H Q → t v σ H Q) : PG X e t' := ⟨fun pins s σ H v u Q I r q => h.run pins s σ H v u Q I r (i v σ H Q q)⟩
theorem PS.imp {X : Cx} {e : Stmt} {t t' : TS} (h : PS X e t) (i : ∀ D σ H, t' D σ H → t D σ H) : PS X e t' := ⟨fun pins s σ H D I q => h.run pins s σ H D I (i D σ H q)⟩
theorem PSs.imp {X : Cx} {e : List Stmt} {t t' : TS} (h : PSs X e t) (i : ∀ D σ H, t' D σ H → t D σ H) : PSs X e t' := ⟨fun pins s σ H D I q => h.run pins s σ H D I (i D σ H q)⟩
theorem PO.imp {X : Cx} {e : Option Expr} {t t' : TO} (h : PO X e t) (i : ∀ σ H Q, t' σ H Q → t σ H Q) : PO X e t' := ⟨fun pins s σ H Q I q => h.run pins s σ H Q I (i σ H Q q)⟩

section
variable {X : Cx} {Wx : Wish} {e e1 e2 : Expr} {pos : Pos} {i : Nat} {x : Str}
theorem rd_var (i : Nat) (hN : X.N[i]? = some x := by rfl) (hv : Vis X.env.scope x := by first | exact Or.inl rfl | exact Or.inr (Or.inl rfl) | exact Or.inr (Or.inr rfl)) (hd : (x == ("__debug__" : Str)) = false := by decide)
    (hcd : (x == ("__classdict__" : Str)) = false := by decide) : PE X (.Name x pos) (rd (kp X) Wx (eVar i)) := by
  refine PE.imp (pe_var (i := i) hN hv hd hcd) fun σ H Q h => ?_
  obtain ⟨B, w, P, ⟨G, μ, c, hp⟩, h⟩ := h
  unfold eVar at h
  cases q : w.ρ[i]? with
  | none => rw [q] at h; exact h.elim
  | some r =>
    rw [q] at h
    cases r with
    | un => exact h.elim
    | im d =>
      obtain ⟨v, h1, h2⟩ := c.sl i _ q (fun z => nomatch z)
      exact ⟨v, h1, h v H (ret_im c hp h2)⟩
    | ow xs =>
      obtain ⟨v, h1, h2⟩ := c.sl i _ q (fun z => nomatch z)
      obtain ⟨a, o, rfl, h3, h4, h5, h6, h7⟩ := h2.owner rfl
      have sG := Same.upd_new (o := o) h5
      have ne : ∀ j, ¬ Own (w.ρ.set i .un) σ j a := fun j z => by
        by_cases hj : j = i
        · subst hj; exact not_own_unset z
        · obtain ⟨e1, r1, q1, o1⟩ := z
          rw [List.getElem?_set_ne (Ne.symm hj)] at q1
          exact hj (c.sep j i a ⟨e1, r1, q1, o1⟩ ⟨h1, _, q, rfl⟩)
      have c1 := ((c.unset i).share h3 h4 h6 h5 ne).setim h1 (h7 _ sG upd_same)
      rw [List.set_set] at c1
      exact ⟨_, h1, h _ H (ret_im c1 (P.st sG (Ext.refl _) (LeH.refl _) hp) (h7 _ sG upd_same))⟩
    | od ks vs =>
      obtain ⟨v, h1, h2⟩ := c.sl i _ q (fun z => nomatch z)
      obtain ⟨a, o, rfl, h3, h4, h5, h6, h7⟩ := h2.owner rfl
      have sG := Same.upd_new (o := o) h5
      have ne : ∀ j, ¬ Own (w.ρ.set i .un) σ j a := fun j z => by
        by_cases hj : j = i
        · subst hj; exact not_own_unset z
        · obtain ⟨e1, r1, q1, o1⟩ := z
          rw [List.getElem?_set_ne (Ne.symm hj)] at q1
          exact hj (c.sep j i a ⟨e1, r1, q1, o1⟩ ⟨h1, _, q, rfl⟩)
      have c1 := ((c.unset i).share h3 h4 h6 h5 ne).setim h1 (h7 _ sG upd_same)
      rw [List.set_set] at c1
      exact ⟨_, h1, h _ H (ret_im c1 (P.st sG (Ext.refl _) (LeH.refl _) hp) (h7 _ sG upd_same))⟩
theorem rdp_var (i : Nat) (hN : X.N[i]? = some x := by rfl) (hv : Vis X.env.scope x := by first | exact Or.inl rfl | exact Or.inr (Or.inl rfl) | exact Or.inr (Or.inr rfl)) (hd : (x == ("__debug__" : Str)) = false := by decide)
    (hcd : (x == ("__classdict__" : Str)) = false := by decide) : PE X (.Name x pos) (rdp (kp X) Wx (pVar i)) := by
  refine PE.imp (pe_var (i := i) hN hv hd hcd) fun σ H Q h => ?_
  obtain ⟨B, w, P, ⟨G, μ, c, hp⟩, h⟩ := h
  unfold pVar at h
  cases q : w.ρ[i]? with
  | none => rw [q] at h; exact h.elim
  | some r =>
    rw [q] at h
    by_cases hu : r = .un
    · subst hu; exact h.elim
    · obtain ⟨v, h1, h2⟩ := c.sl i _ q hu
      have h3 := h2.pv hu
      cases r with
      | un => exact absurd rfl hu
      | im d => exact ⟨v, h1, h v H ⟨G, μ, c, hp, h3⟩⟩
      | ow d => exact ⟨v, h1, h v H ⟨G, μ, c, hp, h3⟩⟩
      | od ks vs => exact ⟨v, h1, h v H ⟨G, μ, c, hp, h3⟩⟩
/-- a full value, shared -/
theorem rd_fz {f : M Rv} (h : PE X e (rd (kp X) Wx f)) : PE X e (rdd (kp X) Wx (fz f)) := by
  refine PE.imp h fun σ H Q h => ?_
  obtain ⟨B, w, P, rp, h⟩ := h
  refine ⟨B, w, P, rp, (aft_bnd h).mono (fun r w' h v H' rr => ?_) fun _ _ h => h⟩
  by_cases hr : r = .un
  · subst hr
    obtain ⟨_, _, _, _, t⟩ := rr
    exact t.ok.elim
  · exact h v H' (rr.fz hr)
theorem rd_pv {f : M D} (h : PE X e (rdd (kp X) Wx f)) : PE X e (rdp (kp X) Wx f) :=
  PE.imp h fun σ H Q ⟨B, w, P, rp, h⟩ => ⟨B, w, P, rp, h.mono (fun r w' h v H' rr => h v H' rr.pv) fun _ _ h => h⟩
theorem rd_int {j k pos} : PE X (.Constant (.int j) k pos) (rd (kp X) Wx (eC (.int j))) :=
  PE.imp pe_int fun σ H Q ⟨B, w, P, ⟨G, μ, c, hp⟩, h⟩ => h _ H (ret_im c hp (.int _))
theorem rd_str {j k pos} : PE X (.Constant (.str j) k pos) (rd (kp X) Wx (eC (.str j))) :=
  PE.imp pe_str fun σ H Q ⟨B, w, P, ⟨G, μ, c, hp⟩, h⟩ => h _ H (ret_im c hp (.str _))
theorem rd_bl {j k pos} : PE X (.Constant (.bool j) k pos) (rd (kp X) Wx (eC (.bl j))) :=
  PE.imp pe_bl fun σ H Q ⟨B, w, P, ⟨G, μ, c, hp⟩, h⟩ => h _ H (ret_im c hp (.bl _))
theorem rd_non {k pos} : PE X (.Constant .none k pos) (rd (kp X) Wx (eC .non)) :=
  PE.imp pe_non fun σ H Q ⟨B, w, P, ⟨G, μ, c, hp⟩, h⟩ => h _ H (ret_im c hp .non)
end
end DL
end
section
set_option Elab.async false
set_option linter.all false
set_option maxRecDepth 100000
set_option maxHeartbeats 1000000
/-! DLd: operators by values. -/
namespace DL
open PySem PySem.Spec PyProof.Rows L2

theorem okLen_le {n : Nat} (h : okLen n = true) : n ≤ sizeLine := by
  rw [sizeLine_eq]; exact of_decide_eq_true h
theorem foldl_app (its : List Nat) : ∀ (k : Nat) (acc : List Nat), (List.replicate k its.toArray).foldl (· ++ ·) acc.toArray = (acc ++ (List.replicate k its).flatten).toArray
  | 0, acc => by simp
  | k + 1, acc => by
    rw [List.replicate_succ, List.replicate_succ, List.foldl_cons, List.flatten_cons, ← List.append_assoc]
    have e : acc.toArray ++ its.toArray = (acc ++ its).toArray := by simp
    rw [e]
    exact foldl_app its k (acc ++ its)
theorem _root_.Int.ediv_le_ediv_right_of {a k m : Int} (h : ¬ k < 1) (h1 : k ≤ m) (ha : 0 ≤ a := by decide) : a / k ≥ a / m := by
  have hk : 0 < k := by omega
  have hm : 0 < m := by omega
  show a / m ≤ a / k
  refine (Int.le_ediv_iff_mul_le hk).mpr ?_
  have h2 : a / m * m ≤ a := Int.ediv_mul_le a (by omega)
  have h3 : 0 ≤ a / m := Int.ediv_nonneg ha (by omega)
  have h4 : a / m * k ≤ a / m * m := Int.mul_le_mul_of_nonneg_left h1 h3
  omega
section
variable {Γ : Kp} {B : Bs} {w : W} {σ : L2.St} {H G : Hp} {μ : List Addr} {x : V} {P : SH}
/-- a list that may be read -/
theorem PV.list {ds : List D} (h : PV Γ μ G H (.lst ds) x) (g : Same G H) : ∃ a vs, x = .ref a ∧ H a = some (.lst vs) ∧ DVs Γ μ G ds vs := by
  cases h with
  | sh h => cases h with | lst h r => exact ⟨_, _, rfl, g _ _ h, r⟩
  | lst h r => exact ⟨_, _, rfl, h, r⟩
theorem PV.tupl {ds : List D} (h : PV Γ μ G H (.tup ds) x) (g : Same G H) : ∃ a vs, x = .ref a ∧ SqT Γ.K H a vs ∧ SqT Γ.K G a vs ∧ DVs Γ μ G ds vs := by
  cases h with
  | sh h => cases h with | tup h r => exact ⟨_, _, rfl, Same.sqt g h, h, r⟩
theorem PV.int {i : Int} (h : PV Γ μ G H (.int i) x) : x = .int i := by
  cases h with | sh h => cases h; rfl
theorem PV.str {i : Str} (h : PV Γ μ G H (.str i) x) : x = .str i := by
  cases h with | sh h => cases h; rfl
theorem PV.bl {i : Bool} (h : PV Γ μ G H (.bl i) x) : x = .bl i := by
  cases h with | sh h => cases h; rfl
theorem PV.non (h : PV Γ μ G H .non x) : x = .non := by
  cases h with | sh h => cases h; rfl
/-- a two-place operation on data -/
def rop (Γ : Kp) (op : D → D → Option Rv) : R2 := fun x y H Q => ∃ B w σ G μ P a b r, Core Γ B w σ H G μ ∧ SH.p P G μ H ∧ PV Γ μ G H a x ∧ PV Γ μ G H b y ∧ op a b = some r ∧ ∀ v H', RepR Γ B w σ H' P r v → Q v H'
end
theorem opr_imp {X : Cx} {f : Value → Value → Sem Value} {r r' : R2} (h : OpR X f r) (i : ∀ x y H Q, r' x y H Q → r x y H Q) : OpR X f r' := fun pins s σ H x y v u Q I rx ry q => h pins s σ H x y v u Q I rx ry (i x y H Q q)
section
variable {X : Cx}
theorem or_add : OpR X (binaryOp .Add) (rop (kp X) addD) := by
  intro pins s σ H x y v u Q I rx ry h
  obtain ⟨B, w, σ', G, μ, P, a, b, r, c, hp, pa, pb, e, q⟩ := h
  unfold addD at e
  split at e
  · cases pa.int; cases pb.int; cases e
    exact op_add pins s σ H _ _ v u Q I rx ry ⟨_, _, rfl, rfl, q _ _ (ret_im c hp (.int _))⟩
  · split at e
    · rename_i hl
      cases pa.str; cases pb.str; cases e
      exact op_add_str pins s σ H _ _ v u Q I rx ry ⟨_, _, rfl, rfl, okLen_le hl, q _ _ (ret_im c hp (.str _))⟩
    · cases e
  · split at e
    · rename_i xs ys hl
      cases e
      obtain ⟨p1, v1, rfl, s1, g1, d1⟩ := pa.tupl c.gH
      obtain ⟨p2, v2, rfl, s2, g2, d2⟩ := pb.tupl c.gH
      refine op_catA pins s σ H _ _ v u Q I rx ry ⟨_, _, _, _, rfl, rfl, s1, s2, by rw [← d1.length, ← d2.length]; exact okLen_le hl, fun z => ?_, fun _ z => ?_, fun _ _ p hn => q _ _ (ret_tup c hp (d1.append d2) hn)⟩
      · subst z; cases d1
        exact q _ _ (ret_im c hp (.tup g2 d2))
      · subst z; cases d2
        rw [List.append_nil] at q
        exact q _ _ (ret_im c hp (.tup g1 d1))
    · cases e
  · split at e
    · rename_i xs ys hl
      cases e
      obtain ⟨p1, v1, rfl, s1, d1⟩ := pa.list c.gH
      obtain ⟨p2, v2, rfl, s2, d2⟩ := pb.list c.gH
      exact op_cat pins s σ H _ _ v u Q I rx ry ⟨_, _, _, _, rfl, rfl, s1, s2, by rw [← d1.length, ← d2.length]; exact okLen_le hl, fun p hn => q _ _ (ret_lst c hp (d1.append d2) hn)⟩
    · cases e
  · cases e
theorem or_sub : OpR X (binaryOp .Sub) (rop (kp X) subD) := by
  refine opr_imp op_sub fun x y H Q h => ?_
  obtain ⟨B, w, σ', G, μ, P, a, b, r, c, hp, pa, pb, e, q⟩ := h
  unfold subD at e
  split at e
  · cases pa.int; cases pb.int; cases e
    exact ⟨_, _, rfl, rfl, q _ _ (ret_im c hp (.int _))⟩
  · cases e
theorem mul_str_ok : OpR X (binaryOp .Mult) (fun x y H Q => ∃ z k, x = .str z ∧ y = .int k ∧ 0 ≤ k ∧ k ≤ 1000 ∧ z.length ≤ 1000 ∧ Q (.str (repS z k)) H) := by
  intro pins s σ H x y v u Q I rx ry h
  obtain ⟨z, k, rfl, rfl, h0, h1, hz, q⟩ := h
  obtain ⟨t, rfl⟩ := rx
  obtain ⟨t', rfl⟩ := ry
  have hr : (decide (k < -(2 ^ 63 : Int)) || decide (k ≥ 2 ^ 63)) = false := by
    rw [decide_eq_false (by omega), decide_eq_false (by omega)]; rfl
  have hm : z.length * k.toNat ≤ 1000 * 1000 := Nat.mul_le_mul hz (by omega)
  have fl : ∀ m : Nat, (List.replicate m z.cps).foldl (· ++ ·) #[] = (List.replicate m z.cps.toList).flatten.toArray := fun m => by
    have := foldl_app z.cps.toList m []
    simpa using this
  refine P.mul_str hr (fun h2 _ => ?_) (fun _ _ => decide_eq_false (by rw [sizeLine_eq]; omega)) ?_
  · intro h3
    have : (2 ^ 63 - 1) / k ≥ (2 ^ 63 - 1) / 1000 := Int.ediv_le_ediv_right_of h2 h1
    omega
  · by_cases h2 : k < 1
    · have e : repS z k = Str.empty := by
        have : k.toNat = 0 := by omega
        unfold repS; rw [this]; rfl
      rw [e] at q
      rw [if_pos h2]
      exact ⟨Nat.zero_le _, .str _, H, I.tok _, ⟨_, rfl⟩, q⟩
    · rw [if_neg h2]
      by_cases h3 : (k == 1 || z.length == 0) = true
      · rw [if_pos h3]
        have e : repS z k = z := by
          unfold repS
          rcases Bool.or_eq_true_iff.mp h3 with h4 | h4
          · have : k.toNat = 1 := by rw [beq_iff_eq.mp h4]; rfl
            rw [this]
            obtain ⟨c⟩ := z
            simp [List.replicate]
          · have : z.cps = #[] := Array.eq_empty_of_size_eq_zero (beq_iff_eq.mp h4)
            obtain ⟨c⟩ := z
            simp only at this
            subst this
            simp
        rw [e] at q
        exact ⟨.str z, H, I, ⟨_, rfl⟩, q⟩
      · rw [if_neg h3]
        refine ⟨?_, .str (repS z k), H, I.tok _, ⟨s.toks, by rw [fl]; rfl⟩, q⟩
        show ((List.replicate k.toNat z.cps).foldl (· ++ ·) #[]).size ≤ sizeLine
        rw [fl, List.size_toArray, PyProof.Rows.lm_len_rep_flat, sizeLine_eq]
        have : k.toNat * z.cps.toList.length = z.length * k.toNat := by rw [Array.length_toList, Nat.mul_comm]; rfl
        omega
/-- t * k, t empty or k one: t itself -/
theorem tuple_mulE (l : Addr) (items : Array Value) (n : Nat) (dd : Option Addr) (sl : Array (Option Value)) (x : Int) (u : Tok) (c0 : (decide (x < -(2 ^ 63)) || decide (x ≥ 2 ^ 63)) = false) (c1 : (items.isEmpty || x == 1) = true) :
    Meets (Builtin.«tuple.__mul__» ⟨[.ref l, .int x u], []⟩) (fun _ R s => s.heap.get? l = some { cls := .type "tuple", dict := dd, data := .seq items n, slots := sl } ∧
      R (.ok (.ret (Value.ref l))) s) :=
  .of_wp fun prog w A R s h => by
    obtain ⟨hp, g, d, tk, os⟩ := s
    obtain ⟨hl, h⟩ := h
    have f1 := AutoSeq1.idx_int
    wp_walk using wpAny_loadPart' hl
    repeat (first
      | (refine wpAny_ite_false (decide_eq_false (by rw [c0]; exact Bool.false_ne_true)) ?_; wp_walk using wpAny_loadPart' hl)
      | (refine wpAny_ite_true (decide_eq_true c1) ?_; wp_walk using wpAny_loadPart' hl))
    exact ⟨_, rfl, h⟩
theorem op_repE : OpR X (binaryOp .Mult) (fun x y H Q => ∃ l k xs, x = .ref l ∧ y = .int k ∧ SqT X.K H l xs ∧ (xs = [] ∨ k = 1) ∧ 1 ≤ k ∧ k ≤ 1000 ∧ Q (.ref l) H) := by
  intro pins s σ H x y v u Q I rx ry h
  obtain ⟨l, k, xs, rfl, rfl, hT, hne, h1, h2, q⟩ := h
  cases rx
  obtain ⟨t, rfl⟩ := ry
  obtain ⟨its, r, ⟨⟨cls, dd, data, sl⟩, ho, hc, n, hd⟩, hs⟩ := I.tuple hT
  simp only at hc hd
  subst hc hd
  have c0 : (decide (k < -(2 ^ 63)) || decide (k ≥ 2 ^ 63)) = false := by
    rw [decide_eq_false (by omega), decide_eq_false (by omega)] <;> rfl
  have c1 : (its.toArray.isEmpty || k == 1) = true := by
    rcases hne with e | e
    · subst e; cases r; rfl
    · subst e; rw [show ((1 : Int) == 1) = true by decide, Bool.or_true]
  exact wpAny_binaryOp_repeat_ref (T := "tuple") (U := "int") (by decide) ⟨_, ho, rfl⟩ (fun s' => typeIs_int s' k t) noFill_tuple_mul F.fills_int_mul F.slot_int_rmul repeat_tuple F.slot_int_index.lookup
    (call_meets F.slot_int_rmul (typeIs_int s k t) F.entry_int_rmul (F.args_int_rmul_2 _ _) (int_rmul_tuple k t l its.toArray n dd sl)
      ⟨ho, rfl, ⟨_, ho, rfl⟩, call_meets F.slot_tuple_mul ⟨_, ho, rfl⟩ F.entry_tuple_mul (F.args_tuple_mul_2 _ _) (tuple_mulE l its.toArray n dd sl k t c0 c1) ⟨ho, ⟨.ref l, H, I, rfl, q⟩⟩⟩)
theorem or_mul : OpR X (binaryOp .Mult) (rop (kp X) mulD) := by
  intro pins s σ H x y v u Q I rx ry h
  obtain ⟨B, w, σ', G, μ, P, a, b, r, c, hp, pa, pb, e, q⟩ := h
  unfold mulD at e
  split at e
  · split at e
    · rename_i i j hm
      cases pa.int; cases pb.int; cases e
      refine op_mul pins s σ H _ _ v u Q I rx ry ⟨_, _, rfl, rfl, ?_, q _ _ (ret_im c hp (.int _))⟩
      unfold okMul at hm
      simp only [Bool.or_eq_true, Bool.and_eq_true, decide_eq_true_eq] at hm
      exact hm
    · cases e
  · split at e
    · rename_i hm
      simp only [Bool.and_eq_true, decide_eq_true_eq] at hm
      cases pa.str; cases pb.int; cases e
      exact mul_str_ok pins s σ H _ _ v u Q I rx ry ⟨_, _, rfl, rfl, hm.2, hm.1.1, hm.1.2, q _ _ (ret_im c hp (.str _))⟩
    · cases e
  · split at e
    · rename_i xs k hm
      simp only [Bool.and_eq_true, decide_eq_true_eq] at hm
      obtain ⟨p1, v1, rfl, s1, d1⟩ := pa.list c.gH
      cases pb.int; cases e
      have : v1.length * k.toNat ≤ 1000 * 1000 := Nat.mul_le_mul (by rw [← d1.length]; exact hm.2) (by omega)
      exact op_rep pins s σ H _ _ v u Q I rx ry ⟨_, _, _, rfl, rfl, s1, by omega, by omega, by rw [sizeLine_eq]; omega, fun p hn => q _ _ (ret_lst c hp (d1.rep _) hn)⟩
    · cases e
  · split at e
    · rename_i xs k hm
      simp only [Bool.and_eq_true, decide_eq_true_eq] at hm
      obtain ⟨p1, v1, rfl, s1, g1, d1⟩ := pa.tupl c.gH
      cases pb.int; cases e
      by_cases z : xs = [] ∨ k = 1
      · refine op_repE pins s σ H _ _ v u Q I rx ry ⟨_, _, _, rfl, rfl, s1, ?_, hm.1.1, hm.1.2, ?_⟩
        · rcases z with z | z
          · subst z; cases d1; exact .inl rfl
          · exact .inr z
        · have e : (List.replicate k.toNat xs).flatten = xs := by
            rcases z with z | z
            · subst z; simp
            · subst z; simp
          rw [e] at q
          exact q _ _ (ret_im c hp (.tup g1 d1))
      · refine op_repT pins s σ H _ _ v u Q I rx ry ⟨_, _, _, rfl, rfl, s1, fun z2 => ?_, by omega, hm.1.2, by rw [← d1.length]; exact hm.2, fun p hn => q _ _ (ret_tup c hp (d1.rep _) hn)⟩
        subst z2; cases d1; exact z (.inl rfl)
    · cases e
  · cases e
theorem or_mod : OpR X (binaryOp .Mod) (rop (kp X) modD) := by
  refine opr_imp op_modN fun x y H Q h => ?_
  obtain ⟨B, w, σ', G, μ, P, a, b, r, c, hp, pa, pb, e, q⟩ := h
  unfold modD at e
  split at e
  · split at e
    · rename_i hm
      cases pa.int; cases pb.int; cases e
      exact ⟨_, _, rfl, rfl, of_decide_eq_true hm, q _ _ (ret_im c hp (.int _))⟩
    · cases e
  · cases e
theorem or_fdv : OpR X (binaryOp .FloorDiv) (rop (kp X) fdvD) := by
  refine opr_imp op_fdivN fun x y H Q h => ?_
  obtain ⟨B, w, σ', G, μ, P, a, b, r, c, hp, pa, pb, e, q⟩ := h
  unfold fdvD at e
  split at e
  · split at e
    · rename_i hm
      simp only [Bool.and_eq_true, decide_eq_true_eq] at hm
      cases pa.int; cases pb.int; cases e
      exact ⟨_, _, rfl, rfl, hm, q _ _ (ret_im c hp (.int _))⟩
    · cases e
  · cases e
theorem or_pow : OpR X (binaryOp .Pow) (rop (kp X) powD) := by
  refine opr_imp op_pow fun x y H Q h => ?_
  obtain ⟨B, w, σ', G, μ, P, a, b, r, c, hp, pa, pb, e, q⟩ := h
  unfold powD at e
  split at e
  · split at e
    · rename_i hm
      simp only [Bool.and_eq_true, decide_eq_true_eq] at hm
      cases pa.int; cases pb.int; cases e
      exact ⟨_, _, rfl, rfl, ⟨hm.1.1, by omega, by omega⟩, q _ _ (ret_im c hp (.int _))⟩
    · cases e
  · cases e
theorem or_bop (op : Operator) : OpR X (binaryOp op) (rop (kp X) (bopD op)) := by
  have no : ∀ f, OpR X f (rop (kp X) fun _ _ => none) := fun f pins s σ H x y v u Q I rx ry h => by
    obtain ⟨B, w, σ', G, μ, P, a, b, r, c, hp, pa, pb, e, q⟩ := h
    cases e
  cases op with
  | Add => exact or_add
  | Sub => exact or_sub
  | Mult => exact or_mul
  | Mod => exact or_mod
  | FloorDiv => exact or_fdv
  | Pow => exact or_pow
  | _ => exact no _
/-! ### comparisons -/
mutual
theorem DV.dp {Γ : Kp} {μ : List Addr} {G H : Hp} (g : Same G H) : ∀ {d : D} {v : V}, DV Γ μ G d v → d.py.canLay0 = true → Dp Γ.K H v d.py
  | _, _, .non, _ => .non
  | _, _, .bl b, _ => .bl b
  | _, _, .int i, _ => .int i
  | _, _, .str x, _ => .str x
  | _, _, .tup h r, c => by
    rw [D.py, PyData.canLay0] at c
    rw [D.py]
    exact .tup (Same.sqt g h) (DVs.dp g r c)
  | _, _, .lst h r, c => by
    rw [D.py, PyData.canLay0] at c
    rw [D.py]
    exact .lst (.inl (.inl (g _ _ h))) (DVs.dp g r c)
  | _, _, .scr h, c => by rw [D.py] at c; simp [PyData.canLay0] at c
  | _, _, .dic h s o r q, c => by rw [D.py] at c; simp [PyData.canLay0] at c
  | _, _, .obj h, c => by rw [D.py] at c; simp [PyData.canLay0] at c
  | _, _, .cls, c => by rw [D.py] at c; simp [PyData.canLay0] at c
theorem DVs.dp {Γ : Kp} {μ : List Addr} {G H : Hp} (g : Same G H) : ∀ {ds : List D} {vs : List V}, DVs Γ μ G ds vs → PyData.canLayAll0 (D.pys ds) = true → DpAll Γ.K H vs (D.pys ds)
  | _, _, .nil, _ => by rw [D.pys]; exact .nil
  | _, _, .cons h r, c => by
    rw [D.pys, PyData.canLayAll0, Bool.and_eq_true] at c
    rw [D.pys]
    exact .cons (DV.dp g h c.1) (DVs.dp g r c.2)
end
theorem PV.dp {Γ : Kp} {μ : List Addr} {G H : Hp} (g : Same G H) {d : D} {v : V} (h : PV Γ μ G H d v) (c : d.py.canLay0 = true) : Dp Γ.K H v d.py := by
  cases h with
  | sh h => exact h.dp g c
  | lst h r =>
    rw [D.py, PyData.canLay0] at c
    rw [D.py]
    exact .lst (.inl (.inl h)) (DVs.dp g r c)
  | dic h s o r q => rw [D.py] at c; simp [PyData.canLay0] at c
def rcp (Γ : Kp) (op : D → D → Option Bool) : R2 := rop Γ fun a b => (op a b).map fun k => .im (.bl k)
section
variable {X : Cx}
theorem any_py (a : D) : ∀ xs : List D, (D.pys xs).any (fun y => PyData.eqv y a.py) = inD a xs
  | [] => by rw [D.pys]; rfl
  | x :: xs => by
    rw [D.pys, List.any_cons, any_py a xs]; rfl
theorem or_cmp (hu : X.A.units + 70 < cLine) (op : CmpOp) : OpR X (compareOp op) (rcp (kp X) (cmpD op)) := by
  intro pins s σ H x y v u Q I rx ry h
  obtain ⟨B, w, σ', G, μ, P, a, b, r, c, hp, pa, pb, e, q⟩ := h
  obtain ⟨k, e0, rfl⟩ := Option.map_eq_some_iff.mp e
  clear e
  have e := e0
  clear e0
  have fin : ∀ k', k = k' → EP X pins σ Q (.bool k') s := fun k' e => ⟨.bl k, H, I, by subst e; rfl, q _ _ (ret_im c hp (.bl _))⟩
  have fin2 : Q (.bl k) H := q _ _ (ret_im c hp (.bl _))
  have iOp : ∀ (f : Int → Int → Bool) (o : OpR X (compareOp op) (rI0 fun i j => .bl (f i j))), cmpI f a b = some k → wpAny (model X.prog X.w) X.A (compareOp op v u) (EP X pins σ Q) X.xe s := fun f o e => by
    have hij : ∃ i j, a = .int i ∧ b = .int j ∧ k = f i j := by
      clear pa pb fin fin2 q
      unfold cmpI at e
      cases a with
      | int i => cases b with
        | int j => cases e; exact ⟨_, _, rfl, rfl, rfl⟩
        | _ => cases e
      | _ => cases e
    obtain ⟨i, j, rfl, rfl, e1⟩ := hij
    cases pa.int; cases pb.int
    exact o pins s σ H _ _ v u Q I rx ry ⟨_, _, rfl, rfl, by rw [e1] at fin2; exact fin2⟩
  have isd : ∀ k0, isD a b = some k0 → (b = .non ∧ k0 = decide (x = .non)) ∨ ∃ a' b', a = .bl a' ∧ b = .bl b' ∧ k0 = decide (a' = b') := fun k0 e => by
    unfold isD at e
    split at e
    · cases e
      refine .inl ⟨rfl, ?_⟩
      cases pa with
      | sh h => cases h <;> rfl
      | lst h r => rfl
      | dic => rfl
    · split at e
      · cases e; exact .inr ⟨_, _, rfl, rfl, rfl⟩
      · cases e
    · cases e
  have mem : ∀ k0, memD a b = some k0 → (∃ x y, a = .str x ∧ b = .str y ∧ k0 = subS x y) ∨ (eqOk a = true ∧ ∃ xs, PyData.canLayAll0 (D.pys xs) = true ∧ k0 = inD a xs ∧ (b = .lst xs ∨ b = .tup xs)) := fun k0 e => by
    unfold memD at e
    split at e
    · split at e
      · cases e; exact .inl ⟨_, _, rfl, rfl, rfl⟩
      · cases e
    · split at e
      · rename_i hh
        rw [Bool.and_eq_true] at hh
        cases e; exact .inr ⟨hh.1, _, hh.2, rfl, .inl rfl⟩
      · cases e
    · split at e
      · rename_i hh
        rw [Bool.and_eq_true] at hh
        cases e; exact .inr ⟨hh.1, _, hh.2, rfl, .inr rfl⟩
      · cases e
    · cases e
  have rds : ∀ {d : D} {z : V} {zv : Value}, PV (kp X) μ G H d z → RelV z zv → d.py.canLay0 = true → ∃ as, Reads s.heap zv d.py as := fun p r c' => Dp.reads I _ _ _ (p.dp c.gH c') r
  cases op with
  | Eq =>
    simp only [cmpD] at e
    split at e
    · rename_i hh
      rw [Bool.and_eq_true] at hh
      cases e
      exact op_eqD (by omega) pins s σ H _ _ v u Q I rx ry ⟨_, _, pa.dp c.gH (SeqAt.canLay_of_shaped hh.1), pb.dp c.gH (SeqAt.canLay_of_shaped hh.2), hh.1, hh.2, fin2⟩
    · cases e
  | NotEq =>
    simp only [cmpD] at e
    split at e
    · rename_i hh
      rw [Bool.and_eq_true] at hh
      cases e
      exact op_neD (by omega) pins s σ H _ _ v u Q I rx ry ⟨_, _, pa.dp c.gH (SeqAt.canLay_of_shaped hh.1), pb.dp c.gH (SeqAt.canLay_of_shaped hh.2), hh.1, hh.2, fin2⟩
    · cases e
  | Lt => exact iOp _ op_lt e
  | LtE => exact iOp _ op_le e
  | Gt => exact iOp _ op_gt e
  | GtE => exact iOp _ op_ge e
  | Is =>
    rcases isd k e with ⟨rfl, e2⟩ | ⟨a', b', rfl, rfl, e2⟩
    · cases pb.non
      subst e2
      exact op_isN pins s σ H _ _ v u Q I rx ry ⟨rfl, fin2⟩
    · cases pa.bl; cases pb.bl
      subst e2
      exact op_isBl pins s σ H _ _ v u Q I rx ry ⟨_, _, rfl, rfl, fin2⟩
  | IsNot =>
    obtain ⟨k1, e1, rfl⟩ := Option.map_eq_some_iff.mp e
    rcases isd k1 e1 with ⟨rfl, e2⟩ | ⟨a', b', rfl, rfl, e2⟩
    · cases pb.non
      subst e2
      exact op_notN pins s σ H _ _ v u Q I rx ry ⟨rfl, fin2⟩
    · cases pa.bl; cases pb.bl
      subst e2
      exact op_notBl pins s σ H _ _ v u Q I rx ry ⟨_, _, rfl, rfl, fin2⟩
  | In =>
    rcases mem k e with ⟨x', y', rfl, rfl, e2⟩ | ⟨ea, xs, ex, e2, e3⟩
    · cases pa.str; cases pb.str
      subst e2
      exact op_in_str pins s σ H _ _ v u Q I rx ry ⟨_, _, rfl, rfl, fin2⟩
    · obtain ⟨as, r1⟩ := rds pa rx (SeqAt.canLay_of_shaped ea)
      have hd := SeqAt.depth_of_shaped ea
      rcases e3 with rfl | rfl
      · obtain ⟨bs, r2⟩ := rds pb ry (by rw [D.py, PyData.canLay0]; exact ex)
        rw [D.py] at r2
        refine SeqAt.in_list_reads r2 r1 ex (SeqAt.canLay_of_shaped ea) ?_ (fin _ (by rw [any_py]; exact e2))
        have := Nat.min_le_right (PyData.depthAll (D.pys xs)) a.py.depth
        omega
      · obtain ⟨bs, r2⟩ := rds pb ry (by rw [D.py, PyData.canLay0]; exact ex)
        rw [D.py] at r2
        refine SeqAt.in_tuple_reads r2 r1 ex (SeqAt.canLay_of_shaped ea) ?_ (fin _ (by rw [any_py]; exact e2))
        have := Nat.min_le_right (PyData.depthAll (D.pys xs)) a.py.depth
        omega
  | NotIn =>
    obtain ⟨k1, e1, rfl⟩ := Option.map_eq_some_iff.mp e
    rcases mem k1 e1 with ⟨x', y', rfl, rfl, e2⟩ | ⟨ea, xs, ex, e2, e3⟩
    · cases pa.str; cases pb.str
      subst e2
      exact op_notin_str pins s σ H _ _ v u Q I rx ry ⟨_, _, rfl, rfl, fin2⟩
    · obtain ⟨as, r1⟩ := rds pa rx (SeqAt.canLay_of_shaped ea)
      have hd := SeqAt.depth_of_shaped ea
      rcases e3 with rfl | rfl
      · obtain ⟨bs, r2⟩ := rds pb ry (by rw [D.py, PyData.canLay0]; exact ex)
        rw [D.py] at r2
        refine SeqAt.notIn_list_reads r2 r1 ex (SeqAt.canLay_of_shaped ea) ?_ (fin _ (by rw [any_py, e2]))
        have := Nat.min_le_right (PyData.depthAll (D.pys xs)) a.py.depth
        omega
      · obtain ⟨bs, r2⟩ := rds pb ry (by rw [D.py, PyData.canLay0]; exact ex)
        rw [D.py] at r2
        refine SeqAt.notIn_tuple_reads r2 r1 ex (SeqAt.canLay_of_shaped ea) ?_ (fin _ (by rw [any_py, e2]))
        have := Nat.min_le_right (PyData.depthAll (D.pys xs)) a.py.depth
        omega
end
end
end DL
end
section
set_option Elab.async false
set_option linter.all false
set_option maxRecDepth 100000
set_option maxHeartbeats 1000000
/-! DLe: expressions. -/
namespace DL
open PySem PySem.Spec PyProof.Rows L2

theorem aft_opt {α : Type} {o : Option α} {w : W} {R : α → W → Prop} {E : Str → W → Prop} (h : Aft (M.opt o w) R E) : ∃ a, o = some a ∧ R a w := by
  cases o with
  | none => exact h.elim
  | some a => exact ⟨a, rfl, h⟩
section
variable {Γ : Kp} {B : Bs} {w : W} {σ : L2.St} {H : Hp} {P S : SH}
theorem Rep.left (h : Rep Γ B w σ H (P.and S)) : Rep Γ B w σ H P := let ⟨G, μ, c, hp⟩ := h; ⟨G, μ, c, hp.1⟩
theorem RepR.left {r : Rv} {v : V} (h : RepR Γ B w σ H (P.and S) r v) : RepR Γ B w σ H P r v := let ⟨G, μ, c, hp, t⟩ := h; ⟨G, μ, c, hp.1, t⟩
theorem RepR.rep {r : Rv} {v : V} (h : RepR Γ B w σ H P r v) : Rep Γ B w σ H P := let ⟨G, μ, c, hp, _⟩ := h; ⟨G, μ, c, hp⟩
end
inductive PVs (Γ : Kp) (μ : List Addr) (G H : Hp) : List D → List V → Prop
  | nil : PVs Γ μ G H [] []
  | cons {d v ds vs} : PV Γ μ G H d v → PVs Γ μ G H ds vs → PVs Γ μ G H (d :: ds) (v :: vs)
theorem PVs.mono {Γ : Kp} {μ μ' : List Addr} {G G' H H' : Hp} {ds : List D} {vs : List V} (g : Same G G') (m : Ext μ μ') (l : LeH H H') (h : PVs Γ μ G H ds vs) : PVs Γ μ' G' H' ds vs := by
  induction h with
  | nil => exact .nil
  | cons a _ ih => exact .cons (a.mono g m l) ih
theorem DVs.pvs {Γ : Kp} {μ : List Addr} {G H : Hp} : ∀ {ds : List D} {vs : List V}, DVs Γ μ G ds vs → PVs Γ μ G H ds vs
  | _, _, .nil => .nil
  | _, _, .cons a b => .cons (.sh a) (DVs.pvs b)
def RepQ (Γ : Kp) (B : Bs) (w : W) (σ : L2.St) (H : Hp) (P : SH) (ds : List D) (vs : List V) : Prop := ∃ G μ, Core Γ B w σ H G μ ∧ P.p G μ H ∧ PVs Γ μ G H ds vs
/-- arguments that are only looked at -/
def rdq (Γ : Kp) (Wx : Wish) (f : M (List D)) : TA := fun σ H Q => ∃ B w P, Rep Γ B w σ H P ∧ Aft (f w) (fun r w' => ∀ v H', RepQ Γ B w' σ H' P r v → Q v H') (ExOk Γ Wx B σ P)
section
variable {X : Cx} {Wx : Wish} {a b c e : Expr} {es : List Expr} {pos : Pos} {fa fb fc : M D} {fe : M Rv} {fs : M (List D)}
theorem rd_bin {op : Operator} (ha : PE X a (rdp (kp X) Wx fa)) (hb : PE X b (rdp (kp X) Wx fb)) : PE X (.BinOp a op b pos) (rd (kp X) Wx (eBin op fa fb)) := by
  refine PE.imp (pe_op (or_bop op) ha hb) fun σ H Q h => ?_
  obtain ⟨B, w, P, rp, h⟩ := h
  refine ⟨B, w, P, rp, (aft_bnd h).mono (fun x w1 h v H1 r1 => ?_) fun _ _ h => h⟩
  obtain ⟨G, μ, c, hp, pv⟩ := r1
  refine ⟨B, w1, P.and (sPV _ x v), ⟨G, μ, c, hp, pv⟩, (aft_bnd h).mono (fun y w2 h u H2 r2 => ?_) fun c' w' h H' rp' => h H' rp'.left⟩
  obtain ⟨G, μ, c, ⟨hp, pv⟩, pu⟩ := r2
  obtain ⟨r, e, h⟩ := aft_opt h
  exact ⟨B, w2, σ, G, μ, P, x, y, r, c, hp, pv, pu, e, h⟩
theorem rd_neg (ha : PE X a (rdp (kp X) Wx fa)) : PE X (.UnaryOp .USub a pos) (rd (kp X) Wx (eNeg fa)) := by
  refine PE.imp (pe_un un_neg ha) fun σ H Q h => ?_
  obtain ⟨B, w, P, rp, h⟩ := h
  refine ⟨B, w, P, rp, (aft_bnd h).mono (fun x w1 h v H1 r1 => ?_) fun _ _ h => h⟩
  obtain ⟨G, μ, c, hp, pv⟩ := r1
  obtain ⟨r, e, h⟩ := aft_opt h
  cases x with
  | int i => cases e; cases pv.int; exact ⟨i, rfl, h _ _ (ret_im c hp (.int _))⟩
  | _ => cases e
theorem rd_cmp {op : CmpOp} (hu : X.A.units + 70 < cLine) (ha : PE X a (rdp (kp X) Wx fa)) (hb : PE X b (rdp (kp X) Wx fb)) (hm : behindInMarks op b = false) : PE X (.Compare a [op] [b] pos) (rd (kp X) Wx (eCmp op fa fb)) := by
  refine PE.imp (pe_cmpR (or_cmp hu op) ha hb hm) fun σ H Q h => ?_
  obtain ⟨B, w, P, rp, h⟩ := h
  refine ⟨B, w, P, rp, (aft_bnd h).mono (fun x w1 h v H1 r1 => ?_) fun _ _ h => h⟩
  obtain ⟨G, μ, c, hp, pv⟩ := r1
  refine ⟨B, w1, P.and (sPV _ x v), ⟨G, μ, c, hp, pv⟩, (aft_bnd h).mono (fun y w2 h u H2 r2 => ?_) fun c' w' h H' rp' => h H' rp'.left⟩
  obtain ⟨G, μ, c, ⟨hp, pv⟩, pu⟩ := r2
  obtain ⟨r, e, h⟩ := aft_opt h
  exact ⟨B, w2, σ, G, μ, P, x, y, r, c, hp, pv, pu, e, h⟩
/-- the two comparisons of a chain -/
theorem chain_rd {op op' : CmpOp} {σ : L2.St} {H : Hp} {Q : VK} (h : rd (kp X) Wx (eChain op op' fa fb fc) σ H Q) :
    tChain (rcp (kp X) (cmpD op)) (rcp (kp X) (cmpD op')) (rdp (kp X) Wx fa) (rdp (kp X) Wx fb) (rdp (kp X) Wx fc) σ H Q := by
  obtain ⟨B, w, P, rp, h⟩ := h
  refine ⟨B, w, P, rp, (aft_bnd h).mono (fun x w1 h v H1 r1 => ?_) fun _ _ h => h⟩
  obtain ⟨G, μ, c, hp, pv⟩ := r1
  refine ⟨B, w1, P.and (sPV _ x v), ⟨G, μ, c, hp, pv⟩, (aft_bnd h).mono (fun y w2 h u H2 r2 => ?_) fun c' w' h H' rp' => h H' rp'.left⟩
  obtain ⟨G, μ, c, ⟨hp, pv⟩, pu⟩ := r2
  obtain ⟨k, e, h⟩ := aft_opt (aft_bnd h)
  refine ⟨B, w2, σ, G, μ, P.and (sPV _ y u), x, y, .im (.bl k), c, ⟨hp, pu⟩, pv, pu, by show (cmpD op x y).map _ = _; rw [e]; rfl, fun z H3 r3 => ?_⟩
  obtain ⟨G, μ, c, ⟨hp, pu⟩, t⟩ := r3
  have hz : DV (kp X) μ G (.bl k) z := t.ok
  cases hz
  refine ⟨k, rfl, ?_⟩
  cases k with
  | true =>
    refine ⟨B, w2, P.and (sPV _ y u), ⟨G, μ, c, hp, pu⟩, (aft_bnd h).mono (fun y' w4 h u4 H4 r4 => ?_) fun c' w' h H' rp' => h H' rp'.left⟩
    obtain ⟨G, μ, c, ⟨hp, pu⟩, p4⟩ := r4
    obtain ⟨r, e, h⟩ := aft_opt h
    exact ⟨B, w4, σ, G, μ, P, y, y', r, c, hp, pu, p4, e, h⟩
  | false => exact h _ _ (ret_im c hp (.bl _))
theorem rd_chain {op op' : CmpOp} (hu : X.A.units + 70 < cLine) (ha : PE X a (rdp (kp X) Wx fa)) (hb : PE X b (rdp (kp X) Wx fb)) (hc : PE X c (rdp (kp X) Wx fc)) (hm : lastMarks [op, op'] [b, c] = false := by with_unfolding_all rfl) : PE X (.Compare a [op, op'] [b, c] pos) (rd (kp X) Wx (eChain op op' fa fb fc)) :=
  PE.imp (pe_chain (or_cmp hu op) (or_cmp hu op') ha hb hc hm) fun σ H Q h => chain_rd h
/-! ### arguments and displays -/
theorem rd_a0 : PA X [] (rda (kp X) Wx aNil) := PA.imp pa_nil fun σ H Q ⟨B, w, P, ⟨G, μ, c, hp⟩, h⟩ => h [] H ⟨G, μ, c, hp, .nil⟩
theorem rd_a1 (ha : PE X e (rdd (kp X) Wx fa)) (hr : PA X es (rda (kp X) Wx fs)) (hs : starEach (e :: es) X.env = (false, eval e X.env) :: starEach es X.env := by rfl) : PA X (e :: es) (rda (kp X) Wx (aCons fa fs)) := by
  refine PA.imp (pa_cons ha hr hs) fun σ H Q h => ?_
  obtain ⟨B, w, P, rp, h⟩ := h
  refine ⟨B, w, P, rp, (aft_bnd h).mono (fun x w1 h v H1 r1 => ?_) fun _ _ h => h⟩
  obtain ⟨G, μ, c, hp, pv⟩ := r1
  refine ⟨B, w1, P.and (sDV _ x v), ⟨G, μ, c, hp, pv⟩, (aft_bnd h).mono (fun y w2 h u H2 r2 => ?_) fun c' w' h H' rp' => h H' rp'.left⟩
  obtain ⟨G, μ, c, ⟨hp, pv⟩, pu⟩ := r2
  exact h _ _ ⟨G, μ, c, hp, .cons pv pu⟩
theorem rd_q0 : PA X [] (rdq (kp X) Wx aNil) := PA.imp pa_nil fun σ H Q ⟨B, w, P, ⟨G, μ, c, hp⟩, h⟩ => h [] H ⟨G, μ, c, hp, .nil⟩
def sPVs (Γ : Kp) (d : List D) (v : List V) : SH := ⟨fun G μ H => PVs Γ μ G H d v, fun g m l h => h.mono g m l⟩
theorem rd_q1 (ha : PE X e (rdp (kp X) Wx fa)) (hr : PA X es (rdq (kp X) Wx fs)) (hs : starEach (e :: es) X.env = (false, eval e X.env) :: starEach es X.env := by rfl) : PA X (e :: es) (rdq (kp X) Wx (aCons fa fs)) := by
  refine PA.imp (pa_cons ha hr hs) fun σ H Q h => ?_
  obtain ⟨B, w, P, rp, h⟩ := h
  refine ⟨B, w, P, rp, (aft_bnd h).mono (fun x w1 h v H1 r1 => ?_) fun _ _ h => h⟩
  obtain ⟨G, μ, c, hp, pv⟩ := r1
  refine ⟨B, w1, P.and (sPV _ x v), ⟨G, μ, c, hp, pv⟩, (aft_bnd h).mono (fun y w2 h u H2 r2 => ?_) fun c' w' h H' rp' => h H' rp'.left⟩
  obtain ⟨G, μ, c, ⟨hp, pv⟩, pu⟩ := r2
  exact h _ _ ⟨G, μ, c, hp, .cons pv pu⟩
theorem rd_tup {x1 : Nat} (ha : PA X es (rda (kp X) Wx fs)) : PE X (.Tuple es x1 pos) (rd (kp X) Wx (eTup fs)) := by
  refine PE.imp (pe_tup ha) fun σ H Q h => ?_
  obtain ⟨B, w, P, rp, h⟩ := h
  refine ⟨B, w, P, rp, (aft_bnd h).mono (fun x w1 h v H1 r1 => ?_) fun _ _ h => h⟩
  obtain ⟨G, μ, c, hp, pv⟩ := r1
  by_cases hl : okLen x.length = true
  · rw [if_pos hl] at h
    exact ⟨by rw [← pv.length]; exact okLen_le hl, fun p hn => h _ _ (ret_tup c hp pv hn)⟩
  · rw [if_neg hl] at h; exact h.elim
theorem rd_lst (ha : PA X es (rda (kp X) Wx fs)) : PE X (.List es pos) (rd (kp X) Wx (eLst fs)) := by
  refine PE.imp (pe_lst ha) fun σ H Q h => ?_
  obtain ⟨B, w, P, rp, h⟩ := h
  refine ⟨B, w, P, rp, (aft_bnd h).mono (fun x w1 h v H1 r1 => ?_) fun _ _ h => h⟩
  obtain ⟨G, μ, c, hp, pv⟩ := r1
  by_cases hl : okLen x.length = true
  · rw [if_pos hl] at h
    exact ⟨by rw [← pv.length]; exact okLen_le hl, fun p hn => h _ _ (ret_lst c hp pv hn)⟩
  · rw [if_neg hl] at h; exact h.elim
/-! ### subscripts, slices -/
theorem atI_map {α β : Type} {f : α → β} {xs : List α} {i : Int} {y : β} (h : atI (xs.map f) i = some y) : ∃ x, atI xs i = some x ∧ y = f x := by
  unfold atI at h ⊢
  rw [List.length_map] at h
  cases q : ixN xs.length i with
  | none => rw [q] at h; cases h
  | some j =>
    rw [q] at h
    simp only [Option.bind_some, List.getElem?_map, Option.map_eq_some_iff] at h ⊢
    obtain ⟨x, h1, h2⟩ := h
    exact ⟨x, h1, h2.symm⟩
theorem DVs.at {Γ : Kp} {μ : List Addr} {G : Hp} {ds : List D} {vs : List V} {i : Int} {d : D} (h : DVs Γ μ G ds vs) (e : atI ds i = some d) : ∃ v, atI vs i = some v ∧ DV Γ μ G d v := by
  unfold atI at e ⊢
  rw [h.length] at e
  cases q : ixN vs.length i with
  | none => rw [q] at e; cases e
  | some j => rw [q] at e; exact h.get (by simpa using e)
theorem ix_all : IxR X (rop (kp X) fun a b => (ixD a b).map .im) := by
  intro value slice pins s σ H x y v u Q I rx ry h hs
  obtain ⟨B, w, σ', G, μ, P, a, b, r, c, hp, pa, pb, e, q⟩ := h
  obtain ⟨d, e0, rfl⟩ := Option.map_eq_some_iff.mp e
  clear e
  have e := e0
  clear e0
  unfold ixD at e
  split at e
  · obtain ⟨n, e1, rfl⟩ := Option.map_eq_some_iff.mp e
    clear e
    cases pb.int
    cases pa with
    | sh pa => cases pa with
      | scr hq =>
        refine ix_list value slice pins s σ H _ _ v u Q I rx ry ⟨_, _, _, .int n, rfl, rfl, L2.Same.seq c.gH hq, ?_, q _ _ (ret_im c hp (.int _))⟩ hs
        unfold atI at e1 ⊢
        rw [List.length_map]
        cases z : ixN _ _ with
        | none => rw [z] at e1; cases e1
        | some j =>
          rw [z] at e1
          simp only [Option.bind_some, List.getElem?_map] at e1 ⊢
          rw [e1]; rfl
  · obtain ⟨p1, v1, rfl, s1, d1⟩ := pa.list c.gH
    cases pb.int
    obtain ⟨z, h1, h2⟩ := d1.at e
    exact ix_list value slice pins s σ H _ _ v u Q I rx ry ⟨_, _, _, z, rfl, rfl, .inl (.inl s1), h1, q _ _ (ret_im c hp h2)⟩ hs
  · obtain ⟨p1, v1, rfl, s1, _, d1⟩ := pa.tupl c.gH
    cases pb.int
    obtain ⟨z, h1, h2⟩ := d1.at e
    exact ix_tup value slice pins s σ H _ _ v u Q I rx ry ⟨_, _, _, z, rfl, rfl, s1, h1, q _ _ (ret_im c hp h2)⟩ hs
  · split at e
    · rename_i hl
      obtain ⟨k, e1, rfl⟩ := Option.map_eq_some_iff.mp e
      cases pa.str; cases pb.int
      exact ix_str value slice pins s σ H _ _ v u Q I rx ry ⟨_, _, k, rfl, rfl, okLen_le hl, e1, q _ _ (ret_im c hp (.str _))⟩ hs
    · cases e
  · cases e
theorem rd_ix (ha : PE X a (rdp (kp X) Wx fa)) (hb : PE X b (rdp (kp X) Wx fb)) (hs : PlainIx b := by exact fun _ _ => rfl) : PE X (.Subscript a b pos) (rd (kp X) Wx (eIx fa fb)) := by
  refine PE.imp (pe_ix ix_all ha hb hs) fun σ H Q h => ?_
  obtain ⟨B, w, P, rp, h⟩ := h
  refine ⟨B, w, P, rp, (aft_bnd h).mono (fun x w1 h v H1 r1 => ?_) fun _ _ h => h⟩
  obtain ⟨G, μ, c, hp, pv⟩ := r1
  refine ⟨B, w1, P.and (sPV _ x v), ⟨G, μ, c, hp, pv⟩, (aft_bnd h).mono (fun y w2 h u H2 r2 => ?_) fun c' w' h H' rp' => h H' rp'.left⟩
  obtain ⟨G, μ, c, ⟨hp, pv⟩, pu⟩ := r2
  obtain ⟨r, e, h⟩ := aft_opt h
  exact ⟨B, w2, σ, G, μ, P, x, y, r, c, hp, pv, pu, e, h⟩
theorem rd_o0 : PO X none (rdo (kp X) Wx oNo) := PO.imp po_none fun σ H Q ⟨B, w, P, rp, h⟩ => h H rp
theorem rd_o1 (ha : PE X a (rdp (kp X) Wx fa)) : PO X (some a) (rdo (kp X) Wx (oSo fa)) := by
  refine PO.imp (po_some ha) fun σ H Q h => ?_
  obtain ⟨B, w, P, rp, h⟩ := h
  refine ⟨B, w, P, rp, (aft_bnd h).mono (fun x w1 h v H1 r1 => ?_) fun _ _ h => h⟩
  obtain ⟨G, μ, c, hp, pv⟩ := r1
  obtain ⟨o, e, h⟩ := aft_opt h
  cases x with
  | int i => cases e; cases pv.int; exact ⟨i, rfl, h _ ⟨G, μ, c, hp⟩⟩
  | _ => cases e
def rsl (Γ : Kp) : V → Option Int → Option Int → Hp → VK → Prop := fun x lo hi H Q => ∃ B w σ G μ P a r, Core Γ B w σ H G μ ∧ SH.p P G μ H ∧ PV Γ μ G H a x ∧ slD a lo hi = some r ∧ ∀ v H', RepR Γ B w σ H' P r v → Q v H'
theorem sl_all : SlR X (rsl (kp X)) := by
  intro pins s σ H x v vl vu lo hi sl Q I rx hs pl pu h
  obtain ⟨B, w, σ', G, μ, P, a, r, c, hp, pa, e, q⟩ := h
  unfold slD at e
  split at e
  · cases e
    obtain ⟨p1, v1, rfl, s1, d1⟩ := pa.list c.gH
    exact sl_list pins s σ H _ v vl vu lo hi sl Q I rx hs pl pu ⟨_, _, rfl, .inl (.inl s1), fun p hn => q _ _ (ret_lst c hp (d1.cut _ _) hn)⟩
  · cases e
    obtain ⟨p1, v1, rfl, s1, g1, d1⟩ := pa.tupl c.gH
    refine sl_tupA pins s σ H _ v vl vu lo hi sl Q I rx hs pl pu ⟨_, _, rfl, s1, fun z => ?_, fun _ p hn => q _ _ (ret_tup c hp (d1.cut _ _) hn)⟩
    obtain ⟨z1, z2⟩ := z
    rename_i xs
    have e : cutL xs lo hi = xs := by
      unfold cutL
      rw [d1.length, z1, z2, ← d1.length]
      simp
    rw [e] at q
    exact q _ _ (ret_im c hp (.tup g1 d1))
  · split at e
    · rename_i hl
      cases pa.str; cases e
      exact sl_str pins s σ H _ v vl vu lo hi sl Q I rx hs pl pu ⟨_, rfl, okLen_le hl, q _ _ (ret_im c hp (.str _))⟩
    · cases e
  · cases e
theorem rd_sl {lo hi : Option Expr} {p2 : Pos} {fl fh : M (Option Int)} (ha : PE X a (rdp (kp X) Wx fa)) (hl : PO X lo (rdo (kp X) Wx fl)) (hh : PO X hi (rdo (kp X) Wx fh)) : PE X (.Subscript a (.Slice lo hi none p2) pos) (rd (kp X) Wx (eSl fa fl fh)) := by
  refine PE.imp (pe_slice sl_all ha hl hh) fun σ H Q h => ?_
  obtain ⟨B, w, P, rp, h⟩ := h
  refine ⟨B, w, P, rp, (aft_bnd h).mono (fun x w1 h v H1 r1 => ?_) fun _ _ h => h⟩
  obtain ⟨G, μ, c, hp, pv⟩ := r1
  refine ⟨B, w1, P.and (sPV _ x v), ⟨G, μ, c, hp, pv⟩, (aft_bnd h).mono (fun y w2 h H2 r2 => ?_) fun c' w' h H' rp' => h H' rp'.left⟩
  refine ⟨B, w2, P.and (sPV _ x v), r2, (aft_bnd h).mono (fun y w2 h H2 r2 => ?_) fun c' w' h H' rp' => h H' rp'.left⟩
  obtain ⟨G, μ, c, ⟨hp, pv⟩⟩ := r2
  obtain ⟨r, e, h⟩ := aft_opt h
  exact ⟨B, _, σ, G, μ, P, x, r, c, hp, pv, e, h⟩
/-! ### tests -/
theorem rd_tv (ha : PE X a (rdp (kp X) Wx fa)) (he : ∀ whole, isTrue a X.env whole = (do let v ← whole; standAt a.pos; holding [v] (truthy v)) := by intro _; rfl) : PT X a (rdt (kp X) Wx (tV fa)) := by
  refine PT.imp (pt_val ha he) fun σ H Q h => ?_
  obtain ⟨B, w, P, rp, h⟩ := h
  refine ⟨B, w, P, rp, (aft_bnd h).mono (fun x w1 h v H1 r1 => ?_) fun _ _ h => h⟩
  obtain ⟨G, μ, c, hp, pv⟩ := r1
  obtain ⟨o, e, h⟩ := aft_opt h
  cases x with
  | bl k => cases e; cases pv.bl; exact ⟨_, rfl, h _ ⟨G, μ, c, hp⟩⟩
  | _ => cases e
theorem rd_tchain {op op' : CmpOp} (hu : X.A.units + 70 < cLine) (ha : PE X a (rdp (kp X) Wx fa)) (hb : PE X b (rdp (kp X) Wx fb)) (hc : PE X c (rdp (kp X) Wx fc)) (hm : lastMarks [op, op'] [b, c] = false := by with_unfolding_all rfl) : PT X (.Compare a [op, op'] [b, c] pos) (rdt (kp X) Wx (tV (fz (eChain op op' fa fb fc)))) := by
  refine PT.imp (pt_chain (or_cmp hu op) (or_cmp hu op') ha hb hc hm) fun σ H Q h => ?_
  show tChain _ _ _ _ _ σ H _
  refine chain_rd (Wx := Wx) ?_
  obtain ⟨B, w, P, rp, h⟩ := h
  refine ⟨B, w, P, rp, (aft_bnd (aft_bnd h)).mono (fun x w1 h v H1 r1 => ?_) fun _ _ h => h⟩
  obtain ⟨G, μ, c, hp, t⟩ := r1
  obtain ⟨o, e, h⟩ := aft_opt h
  cases x with
  | im d => cases d with
    | bl k => cases e; have z : DV (kp X) μ G (.bl o) v := t.ok; cases z; exact ⟨_, rfl, h _ ⟨G, μ, c, hp⟩⟩
    | _ => cases e
  | _ => cases e
theorem rd_tnot {ta : M Bool} (ha : PT X a (rdt (kp X) Wx ta)) : PT X (.UnaryOp .Not a pos) (rdt (kp X) Wx (tNotM ta)) := by
  refine PT.imp (pt_not ha) fun σ H Q h => ?_
  obtain ⟨B, w, P, rp, h⟩ := h
  exact ⟨B, w, P, rp, (aft_bnd h).mono (fun x w1 h H1 r1 => h H1 r1) fun _ _ h => h⟩
theorem PW.imp {e : Expr} {t t' : TT} (h : PW X e t) (i : ∀ σ H Q, t' σ H Q → t σ H Q) : PW X e t' := ⟨fun whole pins s σ H Q I q => h.run whole pins s σ H Q I (i σ H Q q)⟩
theorem rd_wand1 {ta : M Bool} (ha : PT X a (rdt (kp X) Wx ta)) : PW X (.BoolOp .And [a] pos) (rdt (kp X) Wx ta) := pw_and1 ha
theorem rd_wor1 {ta : M Bool} (ha : PT X a (rdt (kp X) Wx ta)) : PW X (.BoolOp .Or [a] pos) (rdt (kp X) Wx ta) := pw_or1 ha
theorem rd_wand {ta tb : M Bool} {rest : List Expr} (ha : PT X a (rdt (kp X) Wx ta)) (hb : PW X (.BoolOp .And (b :: rest) pos) (rdt (kp X) Wx tb)) : PW X (.BoolOp .And (a :: b :: rest) pos) (rdt (kp X) Wx (tAndM ta tb)) := by
  refine PW.imp (pw_and ha hb) fun σ H Q h => ?_
  obtain ⟨B, w, P, rp, h⟩ := h
  refine ⟨B, w, P, rp, (aft_bnd h).mono (fun x w1 h H1 r1 => ?_) fun _ _ h => h⟩
  cases x with
  | true => exact ⟨B, w1, P, r1, h⟩
  | false => exact h H1 r1
theorem rd_wor {ta tb : M Bool} {rest : List Expr} (ha : PT X a (rdt (kp X) Wx ta)) (hb : PW X (.BoolOp .Or (b :: rest) pos) (rdt (kp X) Wx tb)) : PW X (.BoolOp .Or (a :: b :: rest) pos) (rdt (kp X) Wx (tOrM ta tb)) := by
  refine PW.imp (pw_or ha hb) fun σ H Q h => ?_
  obtain ⟨B, w, P, rp, h⟩ := h
  refine ⟨B, w, P, rp, (aft_bnd h).mono (fun x w1 h H1 r1 => ?_) fun _ _ h => h⟩
  cases x with
  | false => exact ⟨B, w1, P, r1, h⟩
  | true => exact h H1 r1
theorem rd_if {ta : M Bool} {ga gb : M Rv} (hc : PT X c (rdt (kp X) Wx ta)) (ha : PE X a (rd (kp X) Wx ga)) (hb : PE X b (rd (kp X) Wx gb)) : PE X (.IfExp c a b pos) (rd (kp X) Wx (eIf ta ga gb)) := by
  refine PE.imp (pe_ifExp hc ha hb) fun σ H Q h => ?_
  obtain ⟨B, w, P, rp, h⟩ := h
  refine ⟨B, w, P, rp, (aft_bnd h).mono (fun x w1 h H1 r1 => ?_) fun _ _ h => h⟩
  cases x with
  | true => exact ⟨B, w1, P, r1, h⟩
  | false => exact ⟨B, w1, P, r1, h⟩
/-- a full truth value -/
theorem bool_rd {f : M Rv} {σ : L2.St} {H : Hp} {B : Bs} {w : W} {P : SH} {R : Bool → W → Prop} {Q : VK} (rp : Rep (kp X) B w σ H P) (h : Aft (tV (fz f) w) R (ExOk (kp X) Wx B σ P)) (q : ∀ k w1 H1, R k w1 → Rep (kp X) B w1 σ H1 P → Q (.bl k) H1) :
    rd (kp X) Wx f σ H Q := by
  refine ⟨B, w, P, rp, (aft_bnd (aft_bnd h)).mono (fun x w1 h v H1 r1 => ?_) fun _ _ h => h⟩
  obtain ⟨G, μ, c, hp, t⟩ := r1
  obtain ⟨o, e, h⟩ := aft_opt h
  cases x with
  | im d => cases d with
    | bl k => cases e; have z : DV (kp X) μ G (.bl o) v := t.ok; cases z; exact q _ _ _ h ⟨G, μ, c, hp⟩
    | _ => cases e
  | _ => cases e
theorem rd_and {ga gb : M Rv} {rest : List Expr} (ha : PE X a (rd (kp X) Wx ga)) (hb : PE X (.BoolOp .And (b :: rest) pos) (rd (kp X) Wx gb)) : PE X (.BoolOp .And (a :: b :: rest) pos) (rd (kp X) Wx (eAnd ga gb)) := by
  refine PE.imp (pe_and ha hb) fun σ H Q h => ?_
  obtain ⟨B, w, P, rp, h⟩ := h
  refine bool_rd rp (aft_bnd h) fun k w1 H1 h r1 => ⟨k, rfl, ?_⟩
  cases k with
  | true => exact ⟨B, w1, P, r1, h⟩
  | false => obtain ⟨G, μ, c, hp⟩ := r1; exact h _ H1 (ret_im c hp (.bl _))
theorem rd_or {ga gb : M Rv} {rest : List Expr} (ha : PE X a (rd (kp X) Wx ga)) (hb : PE X (.BoolOp .Or (b :: rest) pos) (rd (kp X) Wx gb)) : PE X (.BoolOp .Or (a :: b :: rest) pos) (rd (kp X) Wx (eOr ga gb)) := by
  refine PE.imp (pe_or ha hb) fun σ H Q h => ?_
  obtain ⟨B, w, P, rp, h⟩ := h
  refine bool_rd rp (aft_bnd h) fun k w1 H1 h r1 => ⟨k, rfl, ?_⟩
  cases k with
  | false => exact ⟨B, w1, P, r1, h⟩
  | true => obtain ⟨G, μ, c, hp⟩ := r1; exact h _ H1 (ret_im c hp (.bl _))
theorem rd_not {ga : M Rv} (ha : PE X a (rd (kp X) Wx ga)) : PE X (.UnaryOp .Not a pos) (rd (kp X) Wx (eNot ga)) := by
  refine PE.imp (pe_not ha) fun σ H Q h => ?_
  obtain ⟨B, w, P, rp, h⟩ := h
  refine bool_rd rp (aft_bnd h) fun k w1 H1 h r1 => ⟨k, rfl, ?_⟩
  obtain ⟨G, μ, c, hp⟩ := r1; exact h _ H1 (ret_im c hp (.bl _))
theorem rd_last {ga : M Rv} {op : BoolOp} (ha : PE X a (rd (kp X) Wx ga)) : PE X (.BoolOp op [a] pos) (rd (kp X) Wx ga) := pe_one ha
end
end DL
end
section
set_option Elab.async false
set_option linter.all false
set_option maxRecDepth 100000
set_option maxHeartbeats 1000000
/-! DLf: built-ins, calls, targets, comprehensions, statements, defs. -/
namespace DL
open PySem PySem.Spec PyProof.Rows L2

/-! ### built-ins -/
def rfn (Γ : Kp) (F : List D → Option Rv) : List V → Hp → VK → Prop := fun vs H Q => ∃ B w σ G μ P ds r, Core Γ B w σ H G μ ∧ SH.p P G μ H ∧ PVs Γ μ G H ds vs ∧ F ds = some r ∧ ∀ v H', RepR Γ B w σ H' P r v → Q v H'
theorem callr_imp {X : Cx} {f : Value} {r r' : List V → Hp → VK → Prop} (h : CallR X f r) (i : ∀ x H Q, r' x H Q → r x H Q) : CallR X f r' := fun pins s σ H xs us Q I rs q => h pins s σ H xs us Q I rs (i xs H Q q)
section
variable {Γ : Kp} {μ : List Addr} {G H : Hp}
theorem PVs.one {d : D} {vs : List V} (h : PVs Γ μ G H [d] vs) : ∃ v, vs = [v] ∧ PV Γ μ G H d v := by
  cases h with | cons a b => cases b; exact ⟨_, rfl, a⟩
theorem PVs.two {d e : D} {vs : List V} (h : PVs Γ μ G H [d, e] vs) : ∃ v u, vs = [v, u] ∧ PV Γ μ G H d v ∧ PV Γ μ G H e u := by
  cases h with | cons a b => cases b with | cons c d => cases d; exact ⟨_, _, rfl, a, c⟩
end
section
variable {X : Cx} {Wx : Wish} {a b c e : Expr} {es : List Expr} {pos p : Pos} {x : Str} {fa fb fc : M D} {fe : M Rv} {fs : M (List D)} {F : List D → Option Rv}
theorem fn_rd {σ : L2.St} {H : Hp} {Q : VK} (h : rd (kp X) Wx (eFn F fs) σ H Q) : rdq (kp X) Wx fs σ H fun vs H1 => rfn (kp X) F vs H1 Q := by
  obtain ⟨B, w, P, rp, h⟩ := h
  refine ⟨B, w, P, rp, (aft_bnd h).mono (fun x w1 h v H1 r1 => ?_) fun _ _ h => h⟩
  obtain ⟨G, μ, c, hp, pv⟩ := r1
  obtain ⟨r, e, h⟩ := aft_opt h
  exact ⟨B, w1, σ, G, μ, P, x, r, c, hp, pv, e, h⟩
theorem rd_fnB {id : String} (hc : CallR X (.builtin id) (rfn (kp X) F)) (hg : Gl X x) (hm : X.mg x = none) (hv : bootBuiltins x = some (.builtin id)) (ha : PA X (e :: es) (rdq (kp X) Wx fs)) (hn : x ≠ "__name__" := by decide) (hdb : (x == ("__debug__" : Str)) = false := by decide)
    (he : starEach (e :: es) X.env = (false, eval e X.env) :: starEach es X.env := by rfl) (hpl : (backTo pos (starEach es X.env)).any (·.1) = false := by rfl) : PE X (.Call (.Name x p) (e :: es) [] pos) (rd (kp X) Wx (eFn F fs)) :=
  PE.imp (pe_callB hc hg hm hv ha hn hdb he hpl) fun σ H Q h => fn_rd h
theorem rd_fnT {T : String} (hc : CallR X (.type T) (rfn (kp X) F)) (hg : Gl X x) (hm : X.mg x = none) (hv : bootBuiltins x = some (.type T)) (ha : PA X (e :: es) (rdq (kp X) Wx fs)) (hn : x ≠ "__name__" := by decide) (hdb : (x == ("__debug__" : Str)) = false := by decide)
    (he : starEach (e :: es) X.env = (false, eval e X.env) :: starEach es X.env := by rfl) (hpl : (backTo pos (starEach es X.env)).any (·.1) = false := by rfl) : PE X (.Call (.Name x p) (e :: es) [] pos) (rd (kp X) Wx (eFn F fs)) :=
  PE.imp (pe_callTy hc hg hm hv ha hn hdb he hpl) fun σ H Q h => fn_rd h
theorem cr_len : CallR X (.builtin "len") (rfn (kp X) fLen) := by
  refine callr_imp (call_len_seq.or call_len_str) fun vs H Q h => ?_
  obtain ⟨B, w, σ, G, μ, P, ds, r, c, hp, pv, e, q⟩ := h
  unfold fLen at e
  split at e
  · obtain ⟨v, rfl, qv⟩ := pv.one
    cases e
    cases qv with
    | sh qv => cases qv with
      | scr hq => exact .inl ⟨_, _, rfl, .inl (L2.Same.seq c.gH hq), q _ _ (ret_im c hp (by rw [List.length_map]; exact .int _))⟩
  · obtain ⟨v, rfl, qv⟩ := pv.one
    cases e
    obtain ⟨p1, v1, rfl, s1, d1⟩ := qv.list c.gH
    exact .inl ⟨_, _, rfl, .inl (.inl (.inl s1)), by rw [← d1.length]; exact q _ _ (ret_im c hp (.int _))⟩
  · obtain ⟨v, rfl, qv⟩ := pv.one
    cases e
    obtain ⟨p1, v1, rfl, s1, _, d1⟩ := qv.tupl c.gH
    exact .inl ⟨_, _, rfl, .inr s1, by rw [← d1.length]; exact q _ _ (ret_im c hp (.int _))⟩
  · split at e
    · rename_i hl
      obtain ⟨v, rfl, qv⟩ := pv.one
      cases e
      cases qv.str
      exact .inr ⟨_, rfl, okLen_le hl, q _ _ (ret_im c hp (.int _))⟩
    · cases e
  · cases e
theorem cr_all' (hc : X.calm = true) : CallR X (.builtin "all") (rfn (kp X) fAll) := by
  refine callr_imp (cr_all hc) fun vs H Q h => ?_
  obtain ⟨B, w, σ, G, μ, P, ds, r, c, hp, pv, e, q⟩ := h
  unfold fAll at e
  split at e
  · obtain ⟨v, rfl, qv⟩ := pv.one
    obtain ⟨bs, e1, rfl⟩ := Option.map_eq_some_iff.mp e
    obtain ⟨p1, v1, rfl, s1, d1⟩ := qv.list c.gH
    exact ⟨_, bs, rfl, .inl (.inl (by rw [← d1.bls e1]; exact s1)), q _ _ (ret_im c hp (.bl _))⟩
  · cases e
theorem cr_sum' (hc : X.calm = true) : CallR X (.builtin "sum") (rfn (kp X) fSum) := by
  refine callr_imp (cr_sum hc) fun vs H Q h => ?_
  obtain ⟨B, w, σ, G, μ, P, ds, r, c, hp, pv, e, q⟩ := h
  unfold fSum at e
  split at e
  · obtain ⟨v, rfl, qv⟩ := pv.one
    obtain ⟨bs, e1, rfl⟩ := Option.map_eq_some_iff.mp e
    obtain ⟨p1, v1, rfl, s1, d1⟩ := qv.list c.gH
    exact ⟨_, bs, rfl, .inl (.inl (by rw [← d1.ints e1]; exact s1)), q _ _ (ret_im c hp (.int _))⟩
  · cases e
theorem cr_tuple : CallR X (.type "tuple") (rfn (kp X) fTuple) := by
  refine callr_imp call_tuple_of fun vs H Q h => ?_
  obtain ⟨B, w, σ, G, μ, P, ds, r, c, hp, pv, e, q⟩ := h
  unfold fTuple at e
  split at e
  · obtain ⟨v, rfl, qv⟩ := pv.one
    cases e
    obtain ⟨p1, v1, rfl, s1, d1⟩ := qv.list c.gH
    exact ⟨_, _, rfl, .inl ⟨.inl (.inl s1), fun l hn => q _ _ (ret_tup c hp d1 hn)⟩⟩
  · obtain ⟨v, rfl, qv⟩ := pv.one
    cases e
    obtain ⟨p1, v1, rfl, s1, g1, d1⟩ := qv.tupl c.gH
    exact ⟨_, _, rfl, .inr ⟨s1, q _ _ (ret_im c hp (.tup g1 d1))⟩⟩
  · cases e
theorem cr_list : CallR X (.type "list") (rfn (kp X) fList) := by
  refine callr_imp call_list_of fun vs H Q h => ?_
  obtain ⟨B, w, σ, G, μ, P, ds, r, c, hp, pv, e, q⟩ := h
  unfold fList at e
  split at e
  · obtain ⟨v, rfl, qv⟩ := pv.one
    cases e
    obtain ⟨p1, v1, rfl, s1, d1⟩ := qv.list c.gH
    exact ⟨_, _, rfl, .inl (.inl (.inl s1)), fun l hn => q _ _ (ret_lst c hp d1 hn)⟩
  · obtain ⟨v, rfl, qv⟩ := pv.one
    cases e
    obtain ⟨p1, v1, rfl, s1, g1, d1⟩ := qv.tupl c.gH
    exact ⟨_, _, rfl, .inr s1, fun l hn => q _ _ (ret_lst c hp d1 hn)⟩
  · cases e
theorem cr_min (hc : X.calm = true) : CallR X (.builtin "min") (rfn (kp X) fMin2) := by
  refine callr_imp (call_min2 hc) fun vs H Q h => ?_
  obtain ⟨B, w, σ, G, μ, P, ds, r, c, hp, pv, e, q⟩ := h
  unfold fMin2 at e
  split at e
  · obtain ⟨v, u, rfl, qv, qu⟩ := pv.two
    cases e
    cases qv.int; cases qu.int
    exact ⟨_, _, rfl, q _ _ (ret_im c hp (.int _))⟩
  · cases e
theorem cr_max2 (hc : X.calm = true) : CallR X (.builtin "max") (rfn (kp X) fMax2) := by
  refine callr_imp (call_max2 hc) fun vs H Q h => ?_
  obtain ⟨B, w, σ, G, μ, P, ds, r, c, hp, pv, e, q⟩ := h
  unfold fMax2 at e
  split at e
  · obtain ⟨v, u, rfl, qv, qu⟩ := pv.two
    cases e
    cases qv.int; cases qu.int
    exact ⟨_, _, rfl, q _ _ (ret_im c hp (.int _))⟩
  · cases e
def Ty.nm : Ty → String
  | .int => "int" | .bool => "bool" | .str => "str" | .list => "list" | .tuple => "tuple"
/-- isinstance(e, T) -/
theorem rd_is (t : Ty) {p2 : Pos} {nm : Str} (hg : Gl X "isinstance") (hm : X.mg "isinstance" = none) (hg2 : Gl X nm) (hm2 : X.mg nm = none) (hv : bootBuiltins nm = some (.type t.nm)) (ha : PE X a (rdp (kp X) Wx fa))
    (hb : bootBuiltins "isinstance" = some (.builtin "isinstance")) (hs : starEach [a, .Name nm p2] X.env = (false, eval a X.env) :: starEach [.Name nm p2] X.env := by rfl) (hs2 : starEach [.Name nm p2] X.env = (false, eval (.Name nm p2) X.env) :: starEach [] X.env := by rfl) (hpl : (backTo pos (starEach [.Name nm p2] X.env)).any (·.1) = false := by rfl)
    (hn : nm ≠ "__name__" := by decide) (hdb : (nm == ("__debug__" : Str)) = false := by decide) :
    PE X (.Call (.Name "isinstance" p) [a, .Name nm p2] [] pos) (rd (kp X) Wx (eFn (fIs t) (aCons fa aNil))) := by
  refine PE.imp (pe_callB call_isi hg hm hb (pa_cons ha (pa_cons (pe_bltn (v := .ty t.nm) hg2 hm2 hv rfl hn hdb) pa_nil hs2) hs) (he := hs) (hpl := hpl)) fun σ H Q h => ?_
  obtain ⟨B, w, P, rp, h⟩ := h
  refine ⟨B, w, P, rp, (aft_bnd (aft_bnd h)).mono (fun x w1 h v H1 r1 => ?_) fun _ _ h => h⟩
  obtain ⟨G, μ, c, hp, pv⟩ := r1
  obtain ⟨r, e, h⟩ := aft_opt h
  have go : ∀ (tn : String) (k : Bool), fIs t [x] = some (.im (.bl k)) → TyX X.K H1 v (.type tn) → kitB tn t.nm = some k → L2.rIsi X.K [v, .ty t.nm] H1 Q := fun tn k e1 ty kk => by
    rw [e] at e1; cases e1
    exact ⟨v, _, _, _, k, rfl, .ty _, ty, kit_ty kk, h _ _ (ret_im c hp (.bl _))⟩
  show L2.rIsi X.K [v, .ty t.nm] H1 Q
  cases x with
  | non => cases pv.non; exact go "NoneType" false (by cases t <;> rfl) (.base .non) (by cases t <;> decide +kernel)
  | bl b => cases pv.bl; exact go "bool" (isTy t (.bl false)) (by cases t <;> rfl) (.base (.bl _)) (by cases t <;> decide +kernel)
  | int b => cases pv.int; exact go "int" (isTy t (.int 0)) (by cases t <;> rfl) (.base (.int _)) (by cases t <;> decide +kernel)
  | str b => cases pv.str; exact go "str" (isTy t (.str ⟨#[]⟩)) (by cases t <;> rfl) (.base (.str _)) (by cases t <;> decide +kernel)
  | tup ds =>
    obtain ⟨p1, v1, rfl, s1, g1, d1⟩ := pv.tupl c.gH
    refine go "tuple" (isTy t (.tup [])) (by cases t <;> rfl) ?_ (by cases t <;> decide +kernel)
    rcases s1 with (s1 | ⟨o, s1⟩) | ⟨o, its, n, s1, hc, _⟩
    · exact .base (.tup s1)
    · exact .fTuple s1
    · exact .kTuple s1 hc
  | lst ds =>
    obtain ⟨p1, v1, rfl, s1, d1⟩ := pv.list c.gH
    exact go "list" (isTy t (.lst [])) (by cases t <;> rfl) (.base (.lst s1)) (by cases t <;> decide +kernel)
  | dic _ _ => cases t <;> cases e
  | obj _ => cases t <;> cases e
  | cls _ => cases t <;> cases e
  | scr _ => cases t <;> cases e
end

/-! ### calls of defs -/
section
variable {Γ : Kp} {B : Bs} {w : W} {σ : L2.St} {H H' G G' : Hp} {μ μ' : List Addr} {P : SH} {r : Rv} {v : V} {O : List Rec}
/-- other code ran from here -/
structure Went (Γ : Kp) (G H : Hp) (μ : List Addr) (G' H' : Hp) (μ' : List Addr) (O : List Rec) : Prop where
  gg : Same G G'
  gH : Same G' H'
  gi : ∀ b C dx fs, G' b ≠ some (.ins C dx fs)
  fr : ∀ b o, G' b = some o → G b = none → H b = none
  le : LeH H H'
  mm : Ext μ μ'
  ob : ObOk Γ μ' G' H' O
theorem Went.stay (k : Went Γ G H μ G' H' μ' O) {b : Addr} {o : HO} (h : H b = some o) (g : G b = none) : G' b = none := by
  cases q : G' b with
  | none => rfl
  | some x => have := k.fr b x q g; rw [h] at this; cases this
theorem Core.went (c : Core Γ B w σ H G μ) (k : Went Γ G H μ G' H' μ' O) : Core Γ B { w with O := O } σ H' G' μ' :=
  ⟨fun b o e => k.gg _ _ (c.g0 _ _ e), k.gH, k.gi, fun b o e n => by
    cases q : G b with
    | none => exact c.h0.none (k.fr b o e q)
    | some x => exact c.fr b x q n, c.h0.trans k.le, c.len, fun i r e hu =>
    let ⟨v, h1, h2⟩ := c.sl i r e hu
    ⟨v, h1, h2.mono k.gg k.mm k.le fun b x q n => k.stay q n⟩, c.sep, c.m0.trans k.mm, k.ob⟩
theorem Core.wents (c : Core Γ B w σ H G μ) (hg : B.G0 = G') (hh : B.H0 = H') (hm : B.μ0 = μ') : Went Γ G' H' μ' G H μ w.O := by
  subst hg hh hm
  exact ⟨c.g0, c.gH, c.gi, c.fr, c.h0, c.m0, c.ob⟩
end
/-- the promise of a def that raises nothing: F of its arguments -/
def spP (Γ : Kp) (F : Fn) : Sp := fun vs H Q _ => ∃ ds G μ O r O', Same G H ∧ (∀ b C dx fs, G b ≠ some (.ins C dx fs)) ∧ DVs Γ μ G ds vs ∧ ObOk Γ μ G H O ∧ F ds O = .val r O' ∧
  ∀ v H' G' μ', Went Γ G H μ G' H' μ' O' → RvOk Γ ⟨H, G, μ⟩ μ' G' H' r v → Q v H'
section
variable {X : Cx} {Wx : Wish} {e : Expr} {es : List Expr} {pos p : Pos} {x : Str} {fs : M (List D)} {F : Fn} {k n : Nat} {f : Addr} {fd : FuncData} {ps : List Str}
theorem call_rd {σ : L2.St} {H : Hp} {Q : VK} {E : XK} (h : rd (kp X) Wx (eCall0 F fs) σ H Q) : rda (kp X) Wx fs σ H fun vs H1 => spP (kp X) F vs H1 Q E := by
  obtain ⟨B, w, P, rp, h⟩ := h
  refine ⟨B, w, P, rp, ?_⟩
  have h' := aft_bnd h
  cases q : fs w with
  | bad => rw [q] at h'; exact h'
  | exc c w' => rw [q] at h'; exact h'
  | val ds w1 =>
    rw [q] at h'
    show ∀ v H1, RepA (kp X) B w1 σ H1 P ds v → _
    intro v H1 ⟨G, μ, c, hp, pv⟩
    have h2 : Aft (liftF0 F ds w1) _ _ := h'
    unfold liftF0 at h2
    cases qF : F ds w1.O with
    | bad => rw [qF] at h2; exact h2.elim
    | exc c w' => rw [qF] at h2; exact h2.elim
    | val r O' =>
      rw [qF] at h2
      refine ⟨ds, G, μ, w1.O, r, O', c.gH, c.gi, pv, c.ob, qF, fun v H' G' μ' k ok => h2 v H' ⟨G', μ', c.went k, P.st k.gg k.mm k.le hp, ?_, ?_⟩⟩
      · cases r with
        | un => exact ok
        | im d => exact ok
        | ow xs =>
          obtain ⟨a, vs, e, h1, h2, h3, h4⟩ := ok
          exact ⟨a, vs, e, h1, h2, c.h0.none h3, h4⟩
        | od ks vs =>
          obtain ⟨a, o, vks, vvs, e, h1, h2, h3, h4⟩ := ok
          exact ⟨a, o, vks, vvs, e, h1, h2, c.h0.none h3, h4⟩
      · intro ho i a ev z
        obtain ⟨a', o, e, h1, _, h2, h3, _⟩ := ok.owner ho
        rw [ev] at e; cases e
        exact c.own_ne h3 z
/-- x(e, ..) by a promise of positional values -/
theorem pe_callR {CX : CXT} {sp : Sp} {E : XK} {t : TA} (F : FnR X.prog X.w X.K X.mg X.base CX k f sp) (hr : Room k X.A) (hg : Gl X x) (hm : X.mg x = some (.ref f)) (hk : PySem.W.keepIn X.K (.ref f) = true) (hx : Passes CX X E)
    (ha : PA X (e :: es) t) (hd : (x == ("__debug__" : Str)) = false) (he : starEach (e :: es) X.env = (false, eval e X.env) :: starEach es X.env := by rfl) (hpl : (backTo pos (starEach es X.env)).any (·.1) = false := by rfl) :
    PE X (.Call (.Name x p) (e :: es) [] pos) (fun σ H Q => t σ H fun vs H1 => sp vs H1 Q E) := ⟨fun pins s σ H Q I h =>
  wpAny_Call_Name_kw (ld_glob I hg hm (PySem.W.callWith_K (h₀ := X.base) I.ok.mod.kin hk (thn (ha.run pos pins s σ H _ I h) fun us s1 ⟨vs, H1, I1, r, q⟩ => ⟨I1.kIn, wpAny_call (run_fnR F hr hx I1 r q)⟩) he hpl) hd)⟩
theorem rd_call (Fk : FnR X.prog X.w X.K X.mg X.base CX0 k f (spP (kp X) F)) (hr : Room k X.A) (hm : X.mg x = some (.ref f)) (hk : PySem.W.keepIn X.K (.ref f) = true) (ha : PA X (e :: es) (rda (kp X) Wx fs))
    (hg : Gl X x) (hd : (x == ("__debug__" : Str)) = false) (he : starEach (e :: es) X.env = (false, eval e X.env) :: starEach es X.env := by rfl) (hpl : (backTo pos (starEach es X.env)).any (·.1) = false := by rfl) :
    PE X (.Call (.Name x p) (e :: es) [] pos) (rd (kp X) Wx (eCall0 F fs)) :=
  PE.imp (pe_callR (E := fun _ _ _ => False) Fk hr hg hm hk pass0 ha hd he hpl) fun σ H Q h => call_rd h
/-- x(e, .., *y) -/
theorem rd_callS (Fk : FnR X.prog X.w X.K X.mg X.base CX0 k f (spP (kp X) F)) (hr : Room k X.A) (hm : X.mg x = some (.ref f)) (hk : PySem.W.keepIn X.K (.ref f) = true) (ha : PA X (e :: es) (rda (kp X) Wx fs))
    (hg : Gl X x) (hd : (x == ("__debug__" : Str)) = false) (he : starEach (e :: es) X.env = (false, eval e X.env) :: starEach es X.env := by rfl) (hst : (backTo pos (starEach es X.env)).any (·.1) = true := by rfl) :
    PE X (.Call (.Name x p) (e :: es) [] pos) (rd (kp X) Wx (eCall0 F fs)) :=
  PE.imp (StX.pe_callS2 (E := fun _ _ _ => False) Fk hr hk hg hm pass0 ha hd he hst) fun σ H Q h => call_rd h
end
end DL
end
section
set_option Elab.async false
set_option linter.all false
set_option maxRecDepth 100000
set_option maxHeartbeats 1000000
/-! DLg: targets, statements, defs. -/
namespace DL
open PySem PySem.Spec PyProof.Rows L2

theorem wipe_set {σ : L2.St} {i : Nat} {x : Option V} : ∀ (vs : List Nat), wipe (σ.set i x) vs = if i ∈ vs then wipe σ vs else (wipe σ vs).set i x
  | [] => by simp [wipe]
  | v :: r => by
    unfold wipe
    rw [wipe_set r]
    by_cases h : i ∈ r
    · rw [if_pos h, if_pos (List.mem_cons_of_mem _ h)]
    · rw [if_neg h]
      by_cases e : i = v
      · subst e
        rw [if_pos List.mem_cons_self, List.set_set]
      · rw [if_neg (by simp [e, h]), List.set_comm _ _ e]
theorem wipe_in {σ : L2.St} {i : Nat} {x : Option V} {vs : List Nat} (h : i ∈ vs) : wipe (σ.set i x) vs = wipe σ vs := by rw [wipe_set, if_pos h]
theorem aft_ret {α : Type} {a : α} {w : W} {R : α → W → Prop} {E : Str → W → Prop} (h : Aft (M.ret a w) R E) : R a w := h
section
variable {X : Cx} {Wx : Wish} {e tg : Expr} {es : List Expr} {pos : Pos} {x : Str} {i : Nat} {vs is : List Nat}
theorem rg_name (i : Nat) (hv : i ∈ vs) (hN : X.N.Nodup) (hi : X.N[i]? = some x) (hx : Loc X.env.scope x) (hf : X.fn x = true ∨ X.env.scope.names.lookup x = some .local := by first | exact .inl rfl | exact .inr rfl | assumption) : PG X (.Name x pos) (rdg (kp X) Wx vs (gN i)) := by
  refine PG.imp (pg_name hN hi hx hf) fun v σ H Q h => ?_
  obtain ⟨B, w, P, r, ⟨G, μ, c, hp, t⟩, h⟩ := h
  have hu : r ≠ .un := by
    rintro rfl
    exact t.ok
  exact h _ H (wipe_in hv) ⟨G, μ, c.store t hu, hp⟩
def rdgs (Γ : Kp) (Wx : Wish) (vs is : List Nat) : TGs := fun us σ H Q => ∃ B w P ds, RepA Γ B w σ H P ds us ∧ Aft (gNs is ds w) (fun _ w' => ∀ σ' H', wipe σ' vs = wipe σ vs → Rep Γ B w' σ' H' P → Q σ' H') (fun c w' => ∀ σ' H', Rep Γ B w' σ' H' P → Wx c σ' H')
theorem PGs.imp {X : Cx} {e : List Expr} {t t' : TGs} (h : PGs X e t) (i : ∀ v σ H Q, t' v σ H Q → t v σ H Q) : PGs X e t' := ⟨fun pins s σ H v u Q I r q => h.run pins s σ H v u Q I r (i v σ H Q q)⟩
theorem rg_nil : PGs X [] (rdgs (kp X) Wx vs []) := by
  refine PGs.imp pgs_nil fun us σ H Q h => ?_
  obtain ⟨B, w, P, ds, ⟨G, μ, c, hp, d⟩, h⟩ := h
  cases d with
  | nil => exact ⟨rfl, h σ H rfl ⟨G, μ, c, hp⟩⟩
  | cons => exact h.elim
theorem rg_cons (i : Nat) (hv : i ∈ vs) (hN : X.N.Nodup) (hi : X.N[i]? = some x) (hx : Loc X.env.scope x) (hr : PGs X es (rdgs (kp X) Wx vs is)) (hf : X.fn x = true ∨ X.env.scope.names.lookup x = some .local := by first | exact .inl rfl | exact .inr rfl | assumption)
    (hs : (assignEach (.Name x pos :: es) X.env).map (·.2) = assign (.Name x pos) X.env :: (assignEach es X.env).map (·.2) := by rfl) : PGs X (.Name x pos :: es) (rdgs (kp X) Wx vs (i :: is)) := by
  refine PGs.imp (pgs_cons (rg_name (Wx := Wx) i hv hN hi hx hf) hr hs) fun us σ H Q h => ?_
  obtain ⟨B, w, P, ds, ⟨G, μ, c, hp, d⟩, h⟩ := h
  cases d with
  | nil => exact h.elim
  | cons d1 d2 =>
    rename_i d v ds us
    refine ⟨_, _, rfl, B, w, P.and (sDVs _ ds us), .im d, ⟨G, μ, c, ⟨hp, d2⟩, d1, fun z => nomatch z⟩, ?_⟩
    show ∀ σ' H', _ → _ → _
    intro σ' H' hw ⟨G', μ', c', hp', d'⟩
    have h' : Aft (gNs is ds { w with ρ := w.ρ.set i (.im d) }) _ _ := h
    exact ⟨B, _, P, ds, ⟨G', μ', c', hp', d'⟩, h'.mono (fun _ w2 h σ2 H2 hw2 => h σ2 H2 (hw2.trans hw)) fun _ _ h => h⟩
theorem rg_tup {kk : Nat} (hc : X.calm = true) (h : PGs X es (rdgs (kp X) Wx vs is)) (hn : (assignEach es X.env).length = is.length := by rfl) (hst : (assignEach es X.env).findIdx? (·.1) = none := by rfl) : PG X (.Tuple es kk pos) (rdg (kp X) Wx vs (gT is)) := by
  refine PG.imp (pg_tup hc h hn hst) fun v σ H Q h => ?_
  obtain ⟨B, w, P, r, ⟨G, μ, c, hp, t⟩, h⟩ := h
  unfold gT at h
  split at h
  · rename_i ds
    have t' : DV (kp X) μ G (.tup ds) v := t.ok
    cases t' with
    | tup s d =>
      refine ⟨_, _, rfl, Same.sqt c.gH s, ?_, B, w, P, ds, ⟨G, μ, c, hp, d⟩, h⟩
      rw [← d.length]
      have ln : ∀ (is : List Nat) (ds : List D) (w : W) R E, Aft (gNs is ds w) R E → ds.length = is.length := by
        intro is
        induction is with
        | nil => intro ds w R E h; cases ds with
          | nil => rfl
          | cons => exact h.elim
        | cons i is ih => intro ds w R E h; cases ds with
          | nil => exact h.elim
          | cons d ds =>
            have h' : Aft (gNs is ds { w with ρ := w.ρ.set i (.im d) }) _ _ := h
            simp [ih ds _ _ _ h']
      exact ln is ds w _ _ h
  · exact h.elim
/-! ### statements -/
variable {st : Stmt} {rest : List Stmt} {g : Rv → M Unit} {fe : M Rv} {fd : M D} {a b : MS}
theorem rs_nil : PSs X [] (rdS (kp X) Wx sNx) := PSs.imp pss_nil fun D σ H ⟨B, w, P, rp, h⟩ => h σ H rp
theorem rs_cons (h1 : PS X st (rdS (kp X) Wx a)) (h2 : PSs X rest (rdS (kp X) Wx b)) : PSs X (st :: rest) (rdS (kp X) Wx (sSeq a b)) := by
  refine PSs.imp (pss_cons h1 h2) fun D σ H h => ?_
  obtain ⟨B, w, P, rp, h⟩ := h
  refine ⟨B, w, P, rp, (aft_bnd h).mono (fun f w1 h => ?_) fun _ _ h => h⟩
  cases f with
  | nxt => exact fun σ' H' r => ⟨B, w1, P, r, h⟩
  | ret r => exact h
  | brk => exact h
  | cnt => exact h
theorem rs_one (h1 : PS X st (rdS (kp X) Wx a)) : PSs X [st] (rdS (kp X) Wx a) := pss_one h1
theorem asg_rd {te : TE} {D : Ends} {σ : L2.St} {H : Hp} (h : rdS (kp X) Wx (sAsg g fe) D σ H) : tAsg (rd (kp X) Wx fe) (rdg (kp X) Wx vs g) D σ H := by
  obtain ⟨B, w, P, rp, h⟩ := h
  refine ⟨B, w, P.sh, rp, (aft_bnd h).mono (fun r w1 h v H1 r1 => ⟨B, w1, P.sh, r, r1, (aft_bnd h).mono (fun _ w2 h σ2 H2 _ r2 => h σ2 H2 r2) fun c w2 h => h⟩) fun c w2 h H' r => h σ H' r⟩
theorem rs_asg (vs : List Nat) (he : PE X e (rd (kp X) Wx fe)) (hg : PG X tg (rdg (kp X) Wx vs g)) (hs : swapsWithSole [tg] e pos.line X.env = pure false := by rfl) (hw : swappedStores [tg] e X.env = pure none := by rfl)
    (h1 : (assignEach [tg] X.env).map (·.2) = [assign tg X.env] := by rfl) : PS X (.Assign [tg] e pos) (rdS (kp X) Wx (sAsg g fe)) :=
  PS.imp (ps_asg he hg hs hw h1) fun D σ H h => asg_rd (te := rd (kp X) Wx fe) h
theorem rs_set {pos' : Pos} (i : Nat) (he : PE X e (rd (kp X) Wx fe)) (hN : X.N.Nodup) (hi : X.N[i]? = some x) (hx : Loc X.env.scope x) (hs : swapsWith e (some (.Name x pos')) pos.line X.env = pure false := by rfl) (hf : X.fn x = true ∨ X.env.scope.names.lookup x = some .local := by first | exact .inl rfl | exact .inr rfl | assumption) :
    PS X (.Assign [.Name x pos'] e pos) (rdS (kp X) Wx (sAsg (gN i) fe)) := by
  refine PS.imp (ps_set hN hi hx he hs hf) fun D σ H h => ?_
  obtain ⟨B, w, P, rp, h⟩ := h
  refine ⟨B, w, P.sh, rp, (aft_bnd h).mono (fun r w1 h v H1 r1 => ?_) fun c w2 h H' r => h σ H' r⟩
  obtain ⟨G, μ, c, hp, t⟩ := r1
  have hu : r ≠ .un := by
    rintro rfl
    exact t.ok
  exact h _ H1 ⟨G, μ, c.store t hu, hp⟩
/-- values side by side -/
inductive RvsOk (Γ : Kp) (B : Bs) (w : W) (σ : L2.St) (μ : List Addr) (G H : Hp) : List Rv → List V → Prop
  | nil : RvsOk Γ B w σ μ G H [] []
  | cons {r v rs vs} : r ≠ .un → Top Γ B w σ H G μ r v → (r.own = true → ∀ a, v = .ref a → ∀ (k : Nat) (r' : Rv), rs[k]? = some r' → vs[k]? = some (.ref a) → r'.own = false) → RvsOk Γ B w σ μ G H rs vs → RvsOk Γ B w σ μ G H (r :: rs) (v :: vs)
def RepRs (Γ : Kp) (B : Bs) (w : W) (σ : L2.St) (H : Hp) (P : SH) (rs : List Rv) (vs : List V) : Prop := ∃ G μ, Core Γ B w σ H G μ ∧ P.p G μ H ∧ RvsOk Γ B w σ μ G H rs vs
def rdr (Γ : Kp) (Wx : Wish) (f : M (List Rv)) : TA := fun σ H Q => ∃ B w P, Rep Γ B w σ H P ∧ Aft (f w) (fun rs w' => ∀ vs H', RepRs Γ B w' σ H' P rs vs → Q vs H') (ExOk Γ Wx B σ P)
/-- something of one's own is held aside -/
def Bs.hold (B : Bs) (a : Addr) (o : HO) : Bs := { B with H0 := upd B.H0 a o }
theorem hold_le {B : Bs} {a : Addr} {o : HO} (h : B.H0 a = none) : LeH B.H0 (B.hold a o).H0 := LeH.of (Same.upd_new h)
theorem RvOk.base {Γ : Kp} {B B' : Bs} {μ : List Addr} {G H : Hp} {r : Rv} {v : V} (hb : ∀ a, r.own = true → v = .ref a → B.H0 a = none → B'.H0 a = none) (h : RvOk Γ B μ G H r v) : RvOk Γ B' μ G H r v := by
  cases r with
  | un => exact h
  | im d => exact h
  | ow xs =>
    obtain ⟨a, vs, rfl, h1, h2, h3, h4⟩ := h
    exact ⟨a, vs, rfl, h1, h2, hb a rfl rfl h3, h4⟩
  | od ks vs =>
    obtain ⟨a, o, vks, vvs, rfl, h1, h2, h3, h4⟩ := h
    exact ⟨a, o, vks, vvs, rfl, h1, h2, hb a rfl rfl h3, h4⟩
theorem Core.into {Γ : Kp} {B : Bs} {w : W} {σ : L2.St} {H G : Hp} {μ : List Addr} {a : Addr} {o : HO} (c : Core Γ B w σ H G μ) (ha : H a = some o) (hg : G a = none) (hn : ∀ i, ¬ Own w.ρ σ i a) : Core Γ (B.hold a o) w σ H G μ := by
  refine ⟨c.g0, c.gH, c.gi, fun b x e z => ?_, fun b x e => ?_, c.len, fun i r e hu => ?_, c.sep, c.m0, c.ob⟩
  · show upd B.H0 a o b = none
    rw [upd_ne (ne_of_none e hg)]
    exact c.fr b x e z
  · by_cases q : b = a
    · subst q
      have e' : upd B.H0 b o b = some x := e
      rw [upd_same] at e'
      cases e'
      exact .inl ha
    · have e' : upd B.H0 a o b = some x := e
      rw [upd_ne q] at e'
      exact c.h0 b x e'
  · obtain ⟨v, h1, h2⟩ := c.sl i r e hu
    refine ⟨v, h1, h2.base fun b ho hv h0 => ?_⟩
    show upd B.H0 a o b = none
    subst hv
    rw [upd_ne (fun z => hn i (by rw [← z]; exact ⟨h1, r, e, ho⟩))]
    exact h0
theorem Core.back {Γ : Kp} {B : Bs} {w : W} {σ : L2.St} {H G : Hp} {μ : List Addr} {a : Addr} {o : HO} (c : Core Γ (B.hold a o) w σ H G μ) (h0 : B.H0 a = none) (hg : B.G0 a = none) (ho : ∀ C dx fs, o ≠ .ins C dx fs) : Core Γ B w σ H G μ ∧ H a = some o ∧ G a = none ∧ (∀ i, ¬ Own w.ρ σ i a) := by
  have bk : ∀ b, (B.hold a o).H0 b = none → B.H0 b = none := fun b e => (hold_le h0).none e
  have at_a : (B.hold a o).H0 a = some o := upd_same
  have hH : H a = some o := by
    rcases c.h0 a o at_a with z | ⟨C, dx, fs, _, e, _⟩
    · exact z
    · exact absurd e (ho C dx fs)
  refine ⟨⟨c.g0, c.gH, c.gi, fun b x e z => bk b (c.fr b x e z), (hold_le h0).trans c.h0, c.len, fun i r e hu => ?_, c.sep, c.m0, c.ob⟩, hH, ?_, fun i z => ?_⟩
  · obtain ⟨v, h1, h2⟩ := c.sl i r e hu
    exact ⟨v, h1, h2.base fun b _ _ => bk b⟩
  · cases q : G a with
    | none => rfl
    | some x =>
      have := c.fr a x q hg
      rw [at_a] at this; cases this
  · obtain ⟨e1, r, e2, ho⟩ := z
    obtain ⟨v, h1, h2⟩ := c.sl i r e2 (by rintro rfl; cases ho)
    rw [e1] at h1; cases h1
    cases r with
    | un => cases ho
    | im d => cases ho
    | ow xs =>
      obtain ⟨b, vs, q, _, _, q3, _⟩ := h2
      cases q
      rw [at_a] at q3; cases q3
    | od ks vs =>
      obtain ⟨b, o, vks, vvs, q, _, _, q3, _⟩ := h2
      cases q
      rw [at_a] at q3; cases q3
theorem rd_r0 : PA X [] (rdr (kp X) Wx aNilR) := PA.imp pa_nil fun σ H Q ⟨B, w, P, ⟨G, μ, c, hp⟩, h⟩ => h [] H ⟨G, μ, c, hp, .nil⟩
theorem own_at {Γ : Kp} {B : Bs} {μ : List Addr} {G H : Hp} {r : Rv} {v : V} (h : RvOk Γ B μ G H r v) (ho : r.own = true) : ∃ a o, v = .ref a ∧ H a = some o ∧ G a = none ∧ B.H0 a = none ∧ (∀ C dx fs, o ≠ .ins C dx fs) ∧ (∀ {B' : Bs} {μ' : List Addr} {G' H' : Hp}, Same G G' → Ext μ μ' → H' a = some o → G' a = none → B'.H0 a = none → RvOk Γ B' μ' G' H' r v) := by
  cases r with
  | un => cases ho
  | im d => cases ho
  | ow xs =>
    obtain ⟨a, vs, rfl, h1, h2, h3, h4⟩ := h
    exact ⟨a, _, rfl, h1, h2, h3, (by intro C dx fs z; cases z), fun {B' μ' G' H'} g m e1 e2 e3 => ⟨a, vs, rfl, e1, e2, e3, h4.mono g m⟩⟩
  | od ks vs =>
    obtain ⟨a, o, vks, vvs, rfl, h1, h2, h3, h4, h5, h6, h7⟩ := h
    exact ⟨a, _, rfl, h1, h2, h3, (by intro C dx fs z; cases z), fun {B' μ' G' H'} g m e1 e2 e3 => ⟨a, o, vks, vvs, rfl, e1, e2, e3, h4, h5, h6.mono g m, h7.mono g m⟩⟩
def sExt (G0 : Hp) (μ0 : List Addr) : SH := ⟨fun G μ _ => Same G0 G ∧ Ext μ0 μ, fun g m _ h => ⟨h.1.trans g, h.2.trans m⟩⟩
theorem RvsOk.at_ {Γ : Kp} {B : Bs} {w : W} {σ : L2.St} {μ : List Addr} {G H : Hp} : ∀ {rs : List Rv} {vs : List V} {k : Nat} {r : Rv}, RvsOk Γ B w σ μ G H rs vs → rs[k]? = some r → ∃ v, vs[k]? = some v ∧ RvOk Γ B μ G H r v
  | _, _, _, _, .nil, e => by simp at e
  | _, _, 0, _, .cons _ t _ _, e => by simp at e; subst e; exact ⟨_, rfl, t.ok⟩
  | _, _, k + 1, r, .cons _ _ _ q, e => by
    obtain ⟨v, h1, h2⟩ := RvsOk.at_ (k := k) (r := r) q (by simpa using e)
    exact ⟨v, by simpa using h1, h2⟩
theorem RvsOk.back {Γ : Kp} {B : Bs} {w : W} {σ : L2.St} {μ : List Addr} {G H : Hp} {a : Addr} {o : HO} (h0 : B.H0 a = none) {rs : List Rv} {vs : List V} (h : RvsOk Γ (B.hold a o) w σ μ G H rs vs) : RvsOk Γ B w σ μ G H rs vs := by
  induction h with
  | nil => exact .nil
  | cons hu t s _ ih => exact .cons hu ⟨t.ok.base fun b _ _ e => (hold_le h0).none e, t.sep⟩ s ih
theorem rd_r1 {fr : M (List Rv)} (ha : PE X e (rd (kp X) Wx fe)) (hr : PA X es (rdr (kp X) Wx fr)) (hs : starEach (e :: es) X.env = (false, eval e X.env) :: starEach es X.env := by rfl) : PA X (e :: es) (rdr (kp X) Wx (aConsR fe fr)) := by
  refine PA.imp (pa_cons ha hr hs) fun σ H Q h => ?_
  obtain ⟨B, w, P, rp, h⟩ := h
  refine ⟨B, w, P, rp, (aft_bnd h).mono (fun r w1 h v H1 r1 => ?_) fun _ _ h => h⟩
  obtain ⟨G, μ, c, hp, t⟩ := r1
  have hu : r ≠ .un := by
    rintro rfl
    exact t.ok
  cases ho : r.own with
  | false =>
    have hd : ∃ d, r = .im d := by
      cases r with
      | un => exact absurd rfl hu
      | im d => exact ⟨d, rfl⟩
      | ow _ => cases ho
      | od _ _ => cases ho
    obtain ⟨d, rfl⟩ := hd
    have d1 : DV (kp X) μ G d v := t.ok
    refine ⟨B, w1, P.and (sDV _ d v), ⟨G, μ, c, hp, d1⟩, (aft_bnd h).mono (fun y w2 h u H2 r2 => ?_) fun c' w' h H' rp' => h H' rp'.left⟩
    obtain ⟨G, μ, c, ⟨hp, pv⟩, pu⟩ := r2
    exact h _ _ ⟨G, μ, c, hp, .cons hu ⟨pv, fun z => nomatch z⟩ (fun z => nomatch z) pu⟩
  | true =>
    obtain ⟨a, o, rfl, e1, e2, e3, e4, e5⟩ := own_at t.ok ho
    have hg0 : B.G0 a = none := by
      cases q : B.G0 a with
      | none => rfl
      | some x => have := c.g0 a x q; rw [e2] at this; cases this
    refine ⟨B.hold a o, w1, P.and (sExt G μ), ⟨G, μ, c.into e1 e2 (fun i => t.sep ho i a rfl), hp, Same.refl _, Ext.refl _⟩, (aft_bnd h).mono (fun y w2 h u H2 r2 => ?_) fun c' w' h H' rp' => ?_⟩
    · obtain ⟨G', μ', c', ⟨hp', x1, x2⟩, pu⟩ := r2
      obtain ⟨c2, f1, f2, f3⟩ := c'.back e3 hg0 e4
      refine h _ _ ⟨G', μ', c2, hp', .cons hu ⟨e5 x1 x2 f1 f2 e3, fun _ i b q => ?_⟩ (fun _ b q k r' k1 k2 => ?_) (pu.back e3)⟩
      · cases q; exact f3 i
      · cases q
        obtain ⟨v', k3, k4⟩ := pu.at_ k1
        rw [k2] at k3; cases k3
        cases ho' : r'.own with
        | false => rfl
        | true =>
          obtain ⟨a', o', q, _, _, q3, _⟩ := own_at k4 ho'
          cases q
          have z : (B.hold a o).H0 a = some o := upd_same
          rw [z] at q3; cases q3
    · obtain ⟨G', μ', c', ⟨hp', _⟩⟩ := rp'
      exact h H' ⟨G', μ', (c'.back e3 hg0 e4).1, hp'⟩
/-- one store: the rest as before -/
theorem RvsOk.store {Γ : Kp} {B : Bs} {w : W} {σ : L2.St} {μ : List Addr} {G H : Hp} {r : Rv} {v : V} {i : Nat} {rs : List Rv} {vs : List V} (hs : r.own = true → ∀ a, v = .ref a → ∀ (k : Nat) (r' : Rv), rs[k]? = some r' → vs[k]? = some (.ref a) → r'.own = false) (h : RvsOk Γ B w σ μ G H rs vs) : RvsOk Γ B { w with ρ := w.ρ.set i r } (σ.set i (some v)) μ G H rs vs := by
  induction h with
  | nil => exact .nil
  | cons hu t s _ ih =>
    refine .cons hu ⟨t.ok, fun ho j b q z => ?_⟩ s (ih fun ho a e k r' k1 k2 => hs ho a e (k + 1) r' (by simpa using k1) (by simpa using k2))
    obtain ⟨z1, r', z2, z3⟩ := z
    rcases get_set z2 with ⟨rfl, rfl⟩ | ⟨hj, z2⟩
    · rcases get_set z1 with ⟨_, z1⟩ | ⟨z, _⟩
      · have := hs z3 b (Option.some.inj z1).symm 0 _ rfl (by simp [q])
        rw [ho] at this; cases this
      · exact absurd rfl z
    · rw [List.getElem?_set_ne (Ne.symm hj)] at z1
      exact t.sep ho j b q ⟨z1, r', z2, z3⟩
theorem rs_par {y : Str} {ea eb : Expr} {px py pt : Pos} {kt k2 pt2} {fr : M (List Rv)} (i j : Nat) (ha : PA X [ea, eb] (rdr (kp X) Wx fr)) (hc : X.calm = true) (hN : X.N.Nodup) (hi : X.N[i]? = some x) (hj : X.N[j]? = some y) (hij : i ≠ j)
    (hx : X.env.scope.names.lookup x = some .local) (hy : X.env.scope.names.lookup y = some .local)
    (hw : swappedStores [.Tuple [.Name x px, .Name y py] kt pt] (.Tuple [ea, eb] k2 pt2) X.env = pure (some [x, y]) := by rfl)
    (hs : swapsWithSole [.Tuple [.Name x px, .Name y py] kt pt] (.Tuple [ea, eb] k2 pt2) pos.line X.env = pure false := by rfl) :
    PS X (.Assign [.Tuple [.Name x px, .Name y py] kt pt] (.Tuple [ea, eb] k2 pt2) pos) (rdS (kp X) Wx (sPar [i, j] fr)) := by
  refine PS.imp (ps_par hc hN hi hj hij hx hy ha hw hs) fun D σ H h => ?_
  obtain ⟨B, w, P, rp, h⟩ := h
  refine ⟨B, w, P.sh, rp, (aft_bnd h).mono (fun ds w1 h us H1 r1 => ?_) fun c w2 h H' r => h σ H' r⟩
  obtain ⟨G, μ, c, hp, d⟩ := r1
  have h2 := aft_bnd h
  cases d with
  | nil => exact h2.elim
  | cons u1 t1 s1 d => cases d with
    | nil => exact h2.elim
    | cons u2 t2 s2 d => cases d with
      | cons _ _ _ _ => exact h2.elim
      | nil =>
        refine ⟨_, _, rfl, ?_⟩
        have c1 := c.store (i := i) t1 u1
        have t2' := RvsOk.store (i := i) s1 (.cons u2 t2 s2 .nil)
        cases t2' with
        | cons _ t2 _ _ => exact h _ H1 ⟨G, μ, c1.store (i := j) t2 u2, hp⟩
theorem iop_all (op : Operator) : PIp X op (rop (kp X) (augD op)) := by
  have no : ∀ f, OpR X f (rop (kp X) fun _ _ => none) := fun f pins s σ H x y v u Q I rx ry h => by
    obtain ⟨B, w, σ', G, μ, P, a, b, r, c, hp, pa, pb, e, q⟩ := h
    cases e
  have two : ∀ {f : Int → Int → Option Rv} {r : Rv} {a b : D}, (match a, b with | .int i, .int j => f i j | _, _ => none) = some r → ∃ i j, a = .int i ∧ b = .int j ∧ f i j = some r := fun {f r a b} e => by
    cases a with
    | int i => cases b with
      | int j => exact ⟨_, _, rfl, rfl, e⟩
      | _ => cases e
    | _ => cases e
  intro pins s σ H x y v u Q I rx ry h
  obtain ⟨B, w, σ', G, μ, P, a, b, r, c, hp, pa, pb, e, q⟩ := h
  unfold augD at e
  split at e
  · cases pa.int; cases pb.int; cases e
    exact iop_add pins s σ H _ _ v u Q I rx ry ⟨_, _, rfl, rfl, q _ _ (ret_im c hp (.int _))⟩
  · cases pa.int; cases pb.int; cases e
    exact iop_sub pins s σ H _ _ v u Q I rx ry ⟨_, _, rfl, rfl, q _ _ (ret_im c hp (.int _))⟩
  · split at e
    · rename_i hm
      cases pa.int; cases pb.int; cases e
      refine iop_mul pins s σ H _ _ v u Q I rx ry ⟨_, _, rfl, rfl, ?_, q _ _ (ret_im c hp (.int _))⟩
      unfold okMul at hm
      simp only [Bool.or_eq_true, Bool.and_eq_true, decide_eq_true_eq] at hm
      exact hm
    · cases e
  · cases e
theorem rs_aug {pos' : Pos} {op : Operator} (i : Nat) (he : PE X e (rdp (kp X) Wx fd)) (hN : X.N.Nodup) (hi : X.N[i]? = some x) (hx : Loc X.env.scope x) (hf : X.fn x = true ∨ X.env.scope.names.lookup x = some .local := by first | exact .inl rfl | exact .inr rfl | assumption) :
    PS X (.AugAssign (.Name x pos') op e pos) (rdS (kp X) Wx (sAug i op fd)) := by
  refine PS.imp (ps_aug hN hi hx he (iop_all op) hf) fun D σ H h => ?_
  obtain ⟨B, w, P, ⟨G, μ, c, hp⟩, h⟩ := h
  have h2 := aft_bnd h
  unfold pVar at h2
  cases q : w.ρ[i]? with
  | none => rw [q] at h2; exact h2.elim
  | some r =>
    rw [q] at h2
    by_cases hu : r = .un
    · subst hu; exact h2.elim
    · obtain ⟨v, h3, h4⟩ := c.sl i _ q hu
      have h5 := h4.pv hu
      have key : ∀ d, d = r.fz → Aft (M.bnd fd (fun y => M.bnd (M.opt (augD op d y)) fun r => M.bnd (gN i r) fun _ => sNx) w) (EndOk (kp X) B P D) (fun c w' => ∀ σ' H', Rep (kp X) B w' σ' H' P.sh → Wx c σ' H') → tAug i (rdp (kp X) Wx fd) (rop (kp X) (augD op)) D σ H := by
        rintro d rfl h
        refine ⟨v, h3, B, w, P.sh.and (sPV _ r.fz v), ⟨G, μ, c, hp, h5⟩, (aft_bnd h).mono (fun y w1 h u H1 r1 => ?_) fun c w2 h H' r => h σ H' r.left⟩
        obtain ⟨G, μ, c, ⟨hp, pv⟩, pu⟩ := r1
        obtain ⟨r', e, h⟩ := aft_opt (aft_bnd h)
        refine ⟨B, w1, σ, G, μ, P.sh, _, _, r', c, hp, pv, pu, e, fun z H2 r2 => ?_⟩
        obtain ⟨G, μ, c, hp, t⟩ := r2
        have hu : r' ≠ .un := by
          rintro rfl
          exact t.ok
        exact h _ H2 ⟨G, μ, c.store t hu, hp⟩
      cases r with
      | un => exact absurd rfl hu
      | im d => exact key _ rfl h2
      | ow d => exact key _ rfl h2
      | od ks vs => exact key _ rfl h2
theorem rs_drop (he : PE X e (rd (kp X) Wx fe)) (hs : swapsWith e none pos.line X.env = pure false := by rfl) : PS X (.Expr e pos) (rdS (kp X) Wx (sDrop fe)) := by
  refine PS.imp (ps_expr he hs) fun D σ H h => ?_
  obtain ⟨B, w, P, rp, h⟩ := h
  exact ⟨B, w, P.sh, rp, (aft_bnd h).mono (fun r w1 h v H1 r1 => h σ H1 r1.rep) fun c w2 h H' r => h σ H' r⟩
/-- a list of one's own changes -/
theorem Core.lset {Γ : Kp} {B : Bs} {w : W} {σ : L2.St} {H G : Hp} {μ : List Addr} {i : Nat} {xs ys : List D} {a : Addr} {vs us : List V} (c : Core Γ B w σ H G μ) (e : w.ρ[i]? = some (.ow xs)) (hσ : σ[i]? = some (some (.ref a))) (h : H a = some (.lst vs)) (hg : G a = none) (h0 : B.H0 a = none) (d : DVs Γ μ G ys us) :
    Core Γ B { w with ρ := w.ρ.set i (.ow ys) } σ (upd H a (.lst us)) G μ := by
  have hl : i < w.ρ.length := (List.getElem?_eq_some_iff.mp e).1
  refine ⟨c.g0, fun b x q => ?_, c.gi, c.fr, fun b x q => ?_, by simpa using c.len, fun j r q hu => ?_, fun j k b h1 h2 => ?_, c.m0, ⟨c.ob.len, c.ob.nd, fun k r q => ?_⟩⟩
  · rw [upd_ne (ne_of_none q hg)]; exact c.gH _ _ q
  · rw [upd_ne (ne_of_none q h0)]; exact c.h0 _ _ q
  · rcases get_set q with ⟨rfl, rfl⟩ | ⟨hj, q⟩
    · exact ⟨_, hσ, a, us, rfl, upd_same, hg, h0, d⟩
    · obtain ⟨v, h1, h2⟩ := c.sl j r q hu
      refine ⟨v, h1, ?_⟩
      cases ho : r.own with
      | false =>
        cases r with
        | im d => exact h2
        | un => exact absurd rfl hu
        | ow _ => cases ho
        | od _ _ => cases ho
      | true =>
        have ne : ∀ a', v = .ref a' → a' ≠ a := fun a' z1 z => by
          subst z1 z
          exact hj (c.sep j i _ ⟨h1, r, q, ho⟩ ⟨hσ, _, e, rfl⟩)
        cases r with
        | im d => cases ho
        | un => cases ho
        | ow zs =>
          obtain ⟨a1, vs1, rfl, q1, q2⟩ := h2
          exact ⟨a1, vs1, rfl, by rw [upd_ne (ne _ rfl)]; exact q1, q2⟩
        | od ks vs =>
          obtain ⟨a1, o, vks, vvs, rfl, q1, q2⟩ := h2
          exact ⟨a1, o, vks, vvs, rfl, by rw [upd_ne (ne _ rfl)]; exact q1, q2⟩
  · have old : ∀ j, Own (w.ρ.set i (.ow ys)) σ j b → Own w.ρ σ j b := fun j z => by
      obtain ⟨e1, r1, q1, o1⟩ := z
      rcases get_set q1 with ⟨rfl, rfl⟩ | ⟨_, q1⟩
      · exact ⟨e1, _, e, rfl⟩
      · exact ⟨e1, r1, q1, o1⟩
    exact c.sep j k b (old j h1) (old k h2)
  · obtain ⟨x, dx, fs, q1, q2, q3⟩ := c.ob.at_ k r q
    exact ⟨x, dx, fs, q1, by rw [upd_ne (ne_of q2 h (fun z => nomatch z))]; exact q2, q3⟩
theorem pv_own {Γ : Kp} {B : Bs} {w : W} {σ : L2.St} {H G : Hp} {μ : List Addr} {i : Nat} {xs : List D} (c : Core Γ B w σ H G μ) (e : w.ρ[i]? = some (.ow xs)) : ∃ a vs, σ[i]? = some (some (.ref a)) ∧ H a = some (.lst vs) ∧ G a = none ∧ B.H0 a = none ∧ DVs Γ μ G xs vs := by
  obtain ⟨v, h1, a, vs, rfl, h2, h3, h4, h5⟩ := c.sl i _ e (fun z => nomatch z)
  exact ⟨a, vs, h1, h2, h3, h4, h5⟩
theorem rs_app {p1 p2 p3 : Pos} (i : Nat) (he : PE X (.Call (.Attribute (.Name x p1) "append" p2) [e] [] p3) (tBM X.K "list" rAppend (tVar i) (tCons (rdd (kp X) Wx fd) tNil)))
    (hs : swapsWith (.Call (.Attribute (.Name x p1) "append" p2) [e] [] p3) none pos.line X.env = pure false := by rfl) : PS X (.Expr (.Call (.Attribute (.Name x p1) "append" p2) [e] [] p3) pos) (rdS (kp X) Wx (sApp i fd)) := by
  refine PS.imp (ps_expr he hs) fun D σ H h => ?_
  obtain ⟨B, w, P, ⟨G, μ, c, hp⟩, h⟩ := h
  unfold sApp at h
  cases q : w.ρ[i]? with
  | none => rw [q] at h; exact h.elim
  | some r =>
    rw [q] at h
    cases r with
    | ow xs =>
      obtain ⟨a, vs, e1, e2, e3, e4, e5⟩ := pv_own c q
      refine ⟨_, e1, .inl ⟨rfl, _, .inl (.inl e2)⟩, ?_⟩
      refine ⟨B, w, P.sh, ⟨G, μ, c, hp⟩, (aft_bnd h).mono (fun d w1 h v H1 r1 => ?_) fun c w2 h H' r => h σ H' r⟩
      obtain ⟨G, μ, c, hp, d1⟩ := r1
      cases q1 : w1.ρ[i]? with
      | none => rw [q1] at h; exact h.elim
      | some r1 =>
        rw [q1] at h
        cases r1 with
        | ow ys =>
          obtain ⟨a1, us, f1, f2, f3, f4, f5⟩ := pv_own c q1
          rw [e1] at f1; cases f1
          dsimp only at h
          by_cases hl : decide (ys.length < 16777216) = true
          · rw [if_pos hl] at h
            refine ⟨a, us, v, rfl, rfl, f2, by rw [← f5.length, sizeLine_eq]; exact of_decide_eq_true hl, ?_⟩
            exact h σ _ ⟨G, μ, c.lset q1 e1 f2 f3 f4 (f5.append (.cons d1 .nil)), hp⟩
          · rw [if_neg hl] at h; exact h.elim
        | _ => exact h.elim
    | _ => exact h.elim
theorem rs_ret (he : PE X e (rd (kp X) Wx fe)) : PS X (.Return (some e) pos) (rdS (kp X) Wx (sRet fe)) := by
  refine PS.imp (ps_ret he) fun D σ H h => ?_
  obtain ⟨B, w, P, rp, h⟩ := h
  exact ⟨B, w, P.sh, rp, (aft_bnd h).mono (fun r w1 h v H1 r1 => h v σ H1 r1) fun c w2 h H' r => h σ H' r⟩
theorem rs_retN : PS X (.Return none pos) (rdS (kp X) Wx sRetN) := by
  refine PS.imp ps_retN fun D σ H h => ?_
  obtain ⟨B, w, P, ⟨G, μ, c, hp⟩, h⟩ := h
  exact h _ σ H (ret_im c hp .non)
/-- return x -/
theorem rs_retV {p1 : Pos} (i : Nat) (hN : X.N[i]? = some x := by rfl) (hv : Vis X.env.scope x := by first | exact Or.inl rfl | exact Or.inr (Or.inl rfl) | exact Or.inr (Or.inr rfl)) (hd : (x == ("__debug__" : Str)) = false := by decide)
    (hcd : (x == ("__classdict__" : Str)) = false := by decide) : PS X (.Return (some (.Name x p1)) pos) (rdS (kp X) Wx (sRetV i)) := by
  refine PS.imp (ps_ret (pe_var (i := i) hN hv hd hcd)) fun D σ H h => ?_
  obtain ⟨B, w, P, ⟨G, μ, c, hp⟩, h⟩ := h
  unfold sRetV at h
  cases q : w.ρ[i]? with
  | none => rw [q] at h; exact h.elim
  | some r =>
    rw [q] at h
    have key : r ≠ .un → (∀ v σ' H', RepR (kp X) B { w with ρ := w.ρ.set i .un } σ' H' P.sh r v → D.rt v H') → tRet (tVar i) D σ H := fun hu h => by
      obtain ⟨v, h1, h2⟩ := c.sl i r q hu
      refine ⟨v, h1, h v σ H ⟨G, μ, c.unset i, hp, h2, fun ho j a e z => ?_⟩⟩
      subst e
      by_cases hj : j = i
      · subst hj; exact not_own_unset z
      · obtain ⟨e1, r1, q1, o1⟩ := z
        rw [List.getElem?_set_ne (Ne.symm hj)] at q1
        exact hj (c.sep j i a ⟨e1, r1, q1, o1⟩ ⟨h1, r, q, ho⟩)
    cases r with
    | un => exact h.elim
    | im d => exact key (fun z => nomatch z) h
    | ow d => exact key (fun z => nomatch z) h
    | od k d => exact key (fun z => nomatch z) h
theorem rs_if {c : Expr} {tc : M Bool} {sa sb : List Stmt} (hc : PT X c (rdt (kp X) Wx tc)) (ha : PSs X sa (rdS (kp X) Wx a)) (hb : PSs X sb (rdS (kp X) Wx b)) : PS X (.If c sa sb pos) (rdS (kp X) Wx (sIf tc a b)) := by
  refine PS.imp (ps_if hc ha hb) fun D σ H h => ?_
  obtain ⟨B, w, P, rp, h⟩ := h
  refine ⟨B, w, P.sh, rp, (aft_bnd h).mono (fun k w1 h H1 r1 => ?_) fun c w2 h H' r => h σ H' r⟩
  cases k with
  | true => exact ⟨B, w1, P, r1, h⟩
  | false => exact ⟨B, w1, P, r1, h⟩
theorem rs_brk : PS X (.Break pos) (rdS (kp X) Wx sBrk) := PS.imp ps_break fun D σ H ⟨B, w, P, rp, h⟩ => h σ H rp
theorem rs_cnt : PS X (.Continue pos) (rdS (kp X) Wx sCnt) := PS.imp ps_continue fun D σ H ⟨B, w, P, rp, h⟩ => h σ H rp
theorem rs_pass : PS X (.Pass pos) (rdS (kp X) Wx sNx) := PS.imp ps_pass fun D σ H ⟨B, w, P, rp, h⟩ => h σ H rp
/-! ### loops -/
theorem rs_for {iter : Expr} {body : List Stmt} {it : M (List D)} (vs : List Nat) (hp : PassesOwn (model X.prog X.w) X.A X.env X.xe) (hc : X.calm = true) (hi : PI X tg iter (rdi (kp X) Wx it)) (hg : PG X tg (rdg (kp X) Wx vs g)) (hb : PSs X body (rdS (kp X) Wx b))
    (hs : ∀ x, foldedSetIterable iter X.env x = pure x := by intro _; rfl) : PS X (.For tg iter body [] pos) (rdS (kp X) Wx (sFor it g b)) := by
  refine PS.imp (ps_for hp hc hi hg hb hs) fun D σ H h => ?_
  obtain ⟨B, w, P, rp, h⟩ := h
  refine ⟨B, w, P.sh, rp, (aft_bnd h).mono (fun items w1 h => ?_) fun c w2 h H' r => h σ H' r⟩
  intro S J H1 r1 ok
  obtain ⟨n, Gd, Y, hn, wk, hG, hY⟩ := ok.wk
  subst hn
  refine for_it wk (fun i σ H => ∃ w, Rep (kp X) B w σ H (P.and S).sh ∧ Aft (forL g b (items.drop i) w) (EndOk (kp X) B P D) (fun c w' => ∀ σ' H', Rep (kp X) B w' σ' H' P.sh → Wx c σ' H')) ⟨w1, r1, h⟩ ?_ ?_ ?_
  · rintro i σ H _ ⟨w, ⟨G, μ, c, hp⟩, _⟩
    exact hG G μ H c.gH hp.2
  · rintro i x σ H H' hi ⟨w, ⟨G, μ, c, hp⟩, h⟩ y
    obtain ⟨d, hd, y⟩ := hY i H x H' G μ hi c.gH hp.2 y
    have hdrop : items.drop i = d :: items.drop (i + 1) := by
      obtain ⟨h1, h2⟩ := List.getElem?_eq_some_iff.mp hd
      rw [List.drop_eq_getElem_cons h1, h2]
    rw [hdrop] at h
    have r2 : RepR (kp X) B w σ H' (P.and S).sh (.im d) x := by
      rcases y with ⟨rfl, dv⟩ | ⟨T, d1, d2, x1, x2, rfl, hT, rfl, rfl, v1, v2⟩
      · exact ret_im c hp dv
      · exact ret_tup c hp (.cons v1 (.cons v2 .nil)) hT
    refine ⟨B, w, (P.and S).sh, .im d, r2, (aft_bnd h).mono (fun _ w2 h σ2 H2 _ r3 => ?_) fun c w2 h σ' H' r => h σ' H' (Rep.left (S := S.sh) r)⟩
    refine ⟨B, w2, P.and S, r3, (aft_bnd h).mono (fun f w3 h => ?_) fun c w2 h σ' H' r => h σ' H' (Rep.left (S := S.sh) r)⟩
    cases f with
    | nxt => exact fun σ' H' r => ⟨w3, r, h⟩
    | cnt => exact fun σ' H' r => ⟨w3, r, h⟩
    | brk => exact fun σ' H' r => h σ' H' (Rep.left (S := S.sh) r)
    | ret r => exact fun v σ' H' r => h v σ' H' (RepR.left (S := S.sh) r)
  · rintro σ H ⟨w, r, h⟩
    rw [List.drop_length] at h
    exact h σ H (Rep.left (S := S.sh) r)
theorem rs_while {c : Expr} {body : List Stmt} {tc : M Bool} (hp : PassesOwn (model X.prog X.w) X.A X.env X.xe) (hc : PT X c (rdt (kp X) Wx tc)) (hb : PSs X body (rdS (kp X) Wx b)) : PS X (.While c body [] pos) (rdS (kp X) Wx (sWhile tc b)) := by
  refine PS.imp (ps_while hp hc hb) fun D σ H h => ?_
  obtain ⟨B, w, P, rp, h⟩ := h
  have h1 : ∃ n, Aft (whileN tc b n w) (EndOk (kp X) B P D) (fun c w' => ∀ σ' H', Rep (kp X) B w' σ' H' P.sh → Wx c σ' H') := by
    unfold sWhile at h
    split at h
    · exact ⟨_, h⟩
    · exact h.elim
  obtain ⟨n, h1⟩ := h1
  refine ⟨fun m σ H => ∃ w, Rep (kp X) B w σ H P.sh ∧ Aft (whileN tc b m w) (EndOk (kp X) B P D) (fun c w' => ∀ σ' H', Rep (kp X) B w' σ' H' P.sh → Wx c σ' H'), ⟨n, w, rp, h1⟩, ?_⟩
  rintro m σ H ⟨w, rp, h⟩
  cases m with
  | zero => exact h.elim
  | succ m =>
    refine ⟨B, w, P.sh, rp, (aft_bnd h).mono (fun k w1 h H1 r1 => ?_) fun c w2 h H' r => h σ H' r⟩
    cases k with
    | false => exact h σ H1 r1
    | true =>
      refine ⟨fun σ' H' => ∃ w, Rep (kp X) B w σ' H' P.sh ∧ Aft (whileN tc b m w) (EndOk (kp X) B P D) (fun c w' => ∀ σ' H', Rep (kp X) B w' σ' H' P.sh → Wx c σ' H'), fun σ' H' q => ⟨m, Nat.lt_succ_self m, q⟩, ?_⟩
      refine ⟨B, w1, P, r1, (aft_bnd h).mono (fun f w3 h => ?_) fun _ _ h => h⟩
      cases f with
      | nxt => exact fun σ' H' r => ⟨w3, r, h⟩
      | cnt => exact fun σ' H' r => ⟨w3, r, h⟩
      | brk => exact fun σ' H' r => h σ' H' r
      | ret r => exact fun v σ' H' r => h v σ' H' r
end
/-! ### defs -/
section
variable {P : Program} {w : World} {K : PySem.W.Frag} {mg : Str → Option Value} {base : Heap}
/-- a body over its arguments -/
theorem body_rd {N : List Str} {b : MS} {ds : List D} {vs : List V} {H G : Hp} {μ : List Addr} {O O' : List Rec} {r : Rv} {Q : VK} (gH : Same G H) (gi : ∀ b C dx fs, G b ≠ some (.ins C dx fs)) (dv : DVs ⟨P, w, K⟩ μ G ds vs) (ob : ObOk ⟨P, w, K⟩ μ G H O) (hF : runB N.length b ds O = .val r O')
    (q : ∀ v H' G' μ', Went ⟨P, w, K⟩ G H μ G' H' μ' O' → RvOk ⟨P, w, K⟩ ⟨H, G, μ⟩ μ' G' H' r v → Q v H') : rdS ⟨P, w, K⟩ W0 b { nx := fun _ H' => Q .non H', rt := Q } (L2.start N vs) H := by
  have hlen := dv.length
  have c : Core ⟨P, w, K⟩ ⟨H, G, μ⟩ ⟨ds.map Rv.im ++ List.replicate (N.length - ds.length) .un, O⟩ (L2.start N vs) H G μ := by
    refine ⟨Same.refl _, gH, gi, fun b o e n => absurd (e.symm.trans n) (fun z => nomatch z), LeH.refl _, ?_, fun i r e hu => ?_, fun i j a h => ?_, Ext.refl _, ob⟩
    · unfold L2.start
      simp only [List.length_append, List.length_map, List.length_replicate, hlen]
    · by_cases hi : i < ds.length
      · rw [List.getElem?_append_left (by simpa using hi), List.getElem?_map] at e
        obtain ⟨d, e1, rfl⟩ := Option.map_eq_some_iff.mp e
        obtain ⟨v, e2, e3⟩ := dv.get e1
        refine ⟨v, ?_, e3⟩
        unfold L2.start
        rw [List.getElem?_append_left (by simpa using hlen ▸ hi), List.getElem?_map, e2]; rfl
      · rw [List.getElem?_append_right (by simpa using hi)] at e
        have := List.mem_of_getElem? e
        rw [List.mem_replicate] at this
        exact absurd this.2 hu
    · obtain ⟨_, r, e, ho⟩ := h
      have := List.mem_of_getElem? e
      rcases List.mem_append.mp this with m | m
      · obtain ⟨d, _, rfl⟩ := List.mem_map.mp m
        cases ho
      · rw [List.mem_replicate] at m
        rw [m.2] at ho; cases ho
  refine ⟨⟨H, G, μ⟩, _, SG.tt, ⟨G, μ, c, trivial⟩, ?_⟩
  unfold runB at hF
  have fin : ∀ {w' : W} {σ' : L2.St} {H' G' : Hp} {μ' : List Addr} {r : Rv} {v : V}, Core ⟨P, w, K⟩ ⟨H, G, μ⟩ w' σ' H' G' μ' → RvOk ⟨P, w, K⟩ ⟨H, G, μ⟩ μ' G' H' r v → (∀ v H' G' μ', Went ⟨P, w, K⟩ G H μ G' H' μ' w'.O → RvOk ⟨P, w, K⟩ ⟨H, G, μ⟩ μ' G' H' r v → Q v H') → Q v H' :=
    fun c ok q => q _ _ _ _ (c.wents rfl rfl rfl) ok
  cases hb : b ⟨ds.map Rv.im ++ List.replicate (N.length - ds.length) .un, O⟩ with
  | bad => rw [hb] at hF; cases hF
  | exc c w' => rw [hb] at hF; cases hF
  | val fl w' =>
    rw [hb] at hF
    cases fl with
    | nxt =>
      cases hF
      intro σ' H' ⟨G', μ', c', _⟩
      exact fin c' (show RvOk _ _ μ' G' H' (.im .non) .non from .non) q
    | ret r' =>
      cases hF
      intro v σ' H' ⟨G', μ', c', _, t⟩
      exact fin c' t.ok q
    | brk => cases hF
    | cnt => cases hF
theorem fn_ok {x qual : Str} {st : Stmt} {f : Addr} {fd : FuncData} {N ps : List Str} {k : Nat} {b : MS} (F : Fun K x qual st f fd) (S : FnScope N ps (defScope st))
    (hbody : ∀ (cdv : Value) (A : Around) (outer : List Env) (s : Shared) (H : Hp) (E : XK), Room k (A.deeper (envOfC qual (defScope st) s.heap.objs.size f cdv)) →
      PSs (cxOf CX0 P w K mg base N qual (defScope st) f cdv A outer s H E).nox (defBody st) (rdS ⟨P, w, K⟩ W0 b)) : FnOk P w K mg base CX0 (k + 1) f fd ps (spP ⟨P, w, K⟩ (defF ps.length N.length b)) := by
  refine F.ok S (fun vs H Q E h => ?_) (fun cdv A outer s H vs Q E hr h => ⟨_, hbody cdv A outer s H E hr, ?_⟩)
  · obtain ⟨ds, G, μ, O, r, O', _, _, h2, _, hF, _⟩ := h
    unfold defF at hF
    split at hF
    · rename_i h1
      rw [← h2.length]; exact h1
    · cases hF
  · obtain ⟨ds, G, μ, O, r, O', gH, gi, dv, ob, hF, q⟩ := h
    unfold defF at hF
    split at hF
    · exact body_rd gH gi dv ob hF q
    · cases hF
/-- def f(a, .., *v) -/
theorem fn_okS {x qual pv : Str} {st : Stmt} {f : Addr} {fd : FuncData} {N ps : List Str} {k : Nat} {b : MS} (F : Fun K x qual st f fd) (S : FnScope N (ps ++ [pv]) (defScope st))
    (hbi : ∀ (kV doc pm : Value) (an : Option Addr) (cdv ct : Value) (us rest : List Value), us.length = ps.length → bindArgs (PySem.W.fnOf x qual (defArgs st) (defBody st) (defScope st) .none kV doc pm an cdv ct) ⟨us ++ rest, []⟩ = (newTuple rest >>= fun t => pure (ps.zip us ++ [(pv, t)])))
    (hbody : ∀ (cdv : Value) (A : Around) (outer : List Env) (s : Shared) (H : Hp) (E : XK), Room k (A.deeper (envOfC qual (defScope st) s.heap.objs.size f cdv)) →
      PSs (cxOf CX0 P w K mg base N qual (defScope st) f cdv A outer s H E).nox (defBody st) (rdS ⟨P, w, K⟩ W0 b)) : FnR P w K mg base CX0 (k + 1) f (spP ⟨P, w, K⟩ (defS ps.length N.length b)) := by
  obtain ⟨oc, od, kV, doc, pm, an, cdv, ct, osl, rfl, lk, hcd⟩ := F.ex
  refine FnR.imp (StX.fn_star (ps := ps) (pv := pv) (N := N) (sp := spP ⟨P, w, K⟩ (runB N.length b)) lk hcd S StX.cxUp_none (hbi kV doc pm an cdv ct) fun A outer s H vs Q E hr h => ⟨_, (hbody cdv A outer s H E hr).nox, ?_⟩) fun vs H Q E h => ?_
  · obtain ⟨ds, G, μ, O, r, O', gH, gi, dv, ob, hF, q⟩ := h
    exact body_rd gH gi dv ob hF q
  · obtain ⟨ds, G, μ, O, r, O', gH, gi, dv, ob, hF, q⟩ := h
    unfold defS at hF
    split at hF
    · rename_i hl
      have hlen := dv.length
      refine ⟨vs.take ps.length, vs.drop ps.length, (List.take_append_drop _ _).symm, ?_, ?_, fun p hp => ?_⟩
      · rw [List.length_take]; omega
      · rw [List.length_drop]
        have : 1000000 ≤ sizeLine := by decide
        omega
      · have hg : G p = none := by
          cases e : G p with
          | none => rfl
          | some o => rw [gH p o e] at hp; cases hp
        have sg : Same G (upd G p (.tup (vs.drop ps.length))) := Same.upd_new hg
        refine ⟨ds.take ps.length ++ [.tup (ds.drop ps.length)], upd G p (.tup (vs.drop ps.length)), μ, O, r, O', fun b o e => ?_, fun b C dx fs e => ?_, ((dv.take _).mono sg (Ext.refl _)).append (.cons (.tup (.inl (.inl upd_same)) ((dv.drop _).mono sg (Ext.refl _))) .nil), ?_, hF, fun v H' G' μ' wn ok => ?_⟩
        · by_cases z : b = p
          · subst z
            rw [upd_same] at e ⊢
            exact e
          · rw [upd_ne z] at e ⊢
            exact gH b o e
        · by_cases z : b = p
          · subst z
            rw [upd_same] at e
            cases e
          · rw [upd_ne z] at e
            exact gi _ _ _ _ e
        · refine ⟨ob.len, ob.nd, fun j r e => ?_⟩
          obtain ⟨x, dx, fs, q1, q2, q3⟩ := ob.at_ j r e
          exact ⟨x, dx, fs, q1, by rw [upd_ne (ne_of_none q2 hp)]; exact q2, q3.mono sg (Ext.refl _)⟩
        · have bk : ∀ b, upd H p (.tup (vs.drop ps.length)) b = none → H b = none := fun b e => (LeH.of (Same.upd_new hp)).none e
          refine q v H' G' μ' ⟨sg.trans wn.gg, wn.gH, wn.gi, fun b o e n => ?_, (LeH.of (Same.upd_new hp)).trans wn.le, wn.mm, wn.ob⟩ (ok.base fun a _ _ e => bk a e)
          by_cases z : b = p
          · subst z; exact hp
          · exact bk b (wn.fr b o e (by rw [upd_ne z]; exact n))
    · cases hF
end
end DL
end
section
set_option Elab.async false
set_option linter.all false
set_option maxRecDepth 100000
set_option maxHeartbeats 1000000
/-! DLh: what is walked; comprehensions. -/
namespace DL
open PySem PySem.Spec PyProof.Rows L2

section
variable {X : Cx} {Wx : Wish} {e tg iter : Expr} {pos p : Pos} {fa : M D} {fs : M (List D)} {it : M (List D)}
theorem PI.or {t t' : TI} (h : PI X tg e t) (h' : PI X tg e t') : PI X tg e (fun σ H R => t σ H R ∨ t' σ H R) := ⟨fun pins s σ H R I q => by
  rcases q with q | q
  · exact h.run pins s σ H R I q
  · exact h'.run pins s σ H R I q⟩
theorem ri_c (h : PI X tg e (rdi (kp X) Wx it)) : PI X tg e (rdc (kp X) Wx it) :=
  PI.imp h fun σ H R ⟨B, w, P, rp, h⟩ => ⟨B, w, P, rp, h.mono (fun items w1 h S J H' r ok => h S.sh J H' r ok) fun _ _ h => h⟩
def sLst (Γ : Kp) (a : Addr) (ds : List D) (vs : List V) : SG := ⟨fun G μ => G a = some (.lst vs) ∧ DVs Γ μ G ds vs, fun g m h => ⟨g _ _ h.1, h.2.mono g m⟩⟩
def sTup (Γ : Kp) (a : Addr) (ds : List D) (vs : List V) : SG := ⟨fun G μ => SqT Γ.K G a vs ∧ DVs Γ μ G ds vs, fun g m h => ⟨Same.sqt g h.1, h.2.mono g m⟩⟩
def sLstP (Γ : Kp) (a : Addr) (ds : List D) (vs : List V) : SH := ⟨fun G μ H => H a = some (.lst vs) ∧ DVs Γ μ G ds vs, fun g m l h => ⟨(l _ _ h.1).elim id (fun ⟨_, _, _, _, e, _⟩ => nomatch e), h.2.mono g m⟩⟩
theorem it_lst {Γ : Kp} {S : SH} {a : Addr} {ds : List D} {vs : List V} (hl : ds.length = vs.length) (h : ∀ G μ H, Same G H → S.p G μ H → H a = some (.lst vs) ∧ DVs Γ μ G ds vs) : ItOk Γ S (Itl Γ.K a) ds :=
  ⟨vs.length, _, _, hl.symm, walk_list (xs := vs), fun G μ H g s => .inl (.inl (h G μ H g s).1), fun i H x H' G μ hi g s y => by
    obtain ⟨d, h1, h2⟩ := (h G μ H g s).2.getV y.2
    exact ⟨d, h1, .inl ⟨y.1, h2⟩⟩⟩
theorem it_tup {Γ : Kp} {S : SH} {a : Addr} {ds : List D} {vs : List V} (hl : ds.length = vs.length) (h : ∀ G μ H, Same G H → S.p G μ H → SqT Γ.K H a vs ∧ DVs Γ μ G ds vs) : ItOk Γ S (Itt Γ.K a) ds :=
  ⟨vs.length, _, _, hl.symm, walk_tup (xs := vs), fun G μ H g s => (h G μ H g s).1, fun i H x H' G μ hi g s y => by
    obtain ⟨d, h1, h2⟩ := (h G μ H g s).2.getV y.2
    exact ⟨d, h1, .inl ⟨y.1, h2⟩⟩⟩
theorem ri_seq (h : PE X e (rdd (kp X) Wx fa)) : PI X tg e (rdi (kp X) Wx (iSeq fa)) := by
  refine PI.imp (PI.or (pi_list h) (pi_tup h)) fun σ H R h => ?_
  obtain ⟨B, w, P, rp, h⟩ := h
  have h1 := aft_bnd h
  cases q : fa w with
  | bad => rw [q] at h1; exact h1.elim
  | exc c w' => rw [q] at h1; exact .inl ⟨B, w, P, rp, by rw [q]; exact h1⟩
  | val d w1 =>
    rw [q] at h1
    obtain ⟨items, e1, h2⟩ := aft_opt (show Aft (M.opt (seqD d) w1) _ _ from h1)
    cases d with
    | lst xs =>
      cases e1
      refine .inl ⟨B, w, P, rp, ?_⟩
      rw [q]
      rintro v H' ⟨G, μ, c, hp, dv⟩
      cases dv with
      | lst h3 h4 =>
        refine ⟨_, rfl, ⟨_, .inl (.inl (c.gH _ _ h3))⟩, h2 (sLst _ _ _ _) _ _ ⟨G, μ, c, hp, h3, h4⟩ (it_lst h4.length fun G μ H g s => ⟨g _ _ s.1, s.2⟩)⟩
    | tup xs =>
      cases e1
      refine .inr ⟨B, w, P, rp, ?_⟩
      rw [q]
      rintro v H' ⟨G, μ, c, hp, dv⟩
      cases dv with
      | tup h3 h4 =>
        refine ⟨_, rfl, ⟨_, Same.sqt c.gH h3⟩, h2 (sTup _ _ _ _) _ _ ⟨G, μ, c, hp, h3, h4⟩ (it_tup h4.length fun G μ H g s => ⟨Same.sqt g s.1, s.2⟩)⟩
    | _ => cases e1
theorem rc_seq (h : PE X e (rdp (kp X) Wx fa)) : PI X tg e (rdc (kp X) Wx (iSeq fa)) := by
  refine PI.imp (PI.or (pi_list h) (pi_tup h)) fun σ H R h => ?_
  obtain ⟨B, w, P, rp, h⟩ := h
  have h1 := aft_bnd h
  cases q : fa w with
  | bad => rw [q] at h1; exact h1.elim
  | exc c w' => rw [q] at h1; exact .inl ⟨B, w, P, rp, by rw [q]; exact h1⟩
  | val d w1 =>
    rw [q] at h1
    obtain ⟨items, e1, h2⟩ := aft_opt (show Aft (M.opt (seqD d) w1) _ _ from h1)
    cases d with
    | lst xs =>
      cases e1
      refine .inl ⟨B, w, P, rp, ?_⟩
      rw [q]
      rintro v H' ⟨G, μ, c, hp, dv⟩
      obtain ⟨a, vs, rfl, h3, h4⟩ := dv.list c.gH
      exact ⟨_, rfl, ⟨_, .inl (.inl h3)⟩, h2 (sLstP _ _ _ _) _ _ ⟨G, μ, c, hp, h3, h4⟩ (it_lst h4.length fun G μ H g s => s)⟩
    | tup xs =>
      cases e1
      refine .inr ⟨B, w, P, rp, ?_⟩
      rw [q]
      rintro v H' ⟨G, μ, c, hp, dv⟩
      obtain ⟨a, vs, rfl, h3, h3', h4⟩ := dv.tupl c.gH
      exact ⟨_, rfl, ⟨_, h3⟩, h2 (sTup _ _ _ _).sh _ _ ⟨G, μ, c, hp, h3', h4⟩ (it_tup h4.length fun G μ H g s => ⟨Same.sqt g s.1, s.2⟩)⟩
    | _ => cases e1
theorem ri_str (h : PE X e (rdp (kp X) Wx fa)) : PI X tg e (rdi (kp X) Wx (DL.iStr fa)) := by
  refine PI.imp (pi_str h) fun σ H R h => ?_
  obtain ⟨B, w, P, rp, h⟩ := h
  refine ⟨B, w, P, rp, (aft_bnd h).mono (fun d w1 h v H1 r1 => ?_) fun _ _ h => h⟩
  obtain ⟨G, μ, c, hp, dv⟩ := r1
  obtain ⟨items, e1, h2⟩ := aft_opt h
  cases d with
  | str z =>
    cases e1
    cases dv.str
    refine ⟨z, rfl, h2 SG.tt _ _ ⟨G, μ, c, hp, trivial⟩ ⟨_, _, _, by simp, walk_str, fun _ _ _ _ _ => trivial, fun i H x H' G μ hi g s y => ?_⟩⟩
    obtain ⟨e2, c, e3, rfl⟩ := y
    refine ⟨.str ⟨#[c]⟩, ?_, .inl ⟨e2, .str _⟩⟩
    rw [List.getElem?_map, Array.getElem?_toList, e3]; rfl
  | _ => cases e1
theorem it_rng {Γ : Kp} {i j : Int} : ItOk Γ SG.tt.sh (Itr i (j - i).toNat) (rangeD i j) :=
  ⟨_, _, _, by simp [rangeD], walk_range, fun _ _ _ _ _ => trivial, fun k H x H' G μ hk g s y => ⟨.int (i + (k : Int)), by
    unfold rangeD
    rw [List.getElem?_map, List.getElem?_range hk]; rfl, .inl ⟨y.1, by rw [y.2]; exact .int _⟩⟩⟩
theorem ri_rg1 {a : Expr} (hg : Gl X "range") (hm : X.mg "range" = none) (ha : PA X [a] (rdq (kp X) Wx fs)) (hs : starEach [a] X.env = [(false, eval a X.env)] := by rfl) : PI X tg (.Call (.Name "range" p) [a] [] pos) (rdi (kp X) Wx (iRg1 fs)) := by
  refine PI.imp (pi_range1 hg hm ha hs) fun σ H R h => ?_
  obtain ⟨B, w, P, rp, h⟩ := h
  refine ⟨B, w, P, rp, (aft_bnd h).mono (fun d w1 h v H1 r1 => ?_) fun _ _ h => h⟩
  obtain ⟨G, μ, c, hp, dv⟩ := r1
  obtain ⟨items, e1, h2⟩ := aft_opt h
  split at e1
  · rename_i j
    obtain ⟨v, rfl, qv⟩ := dv.one
    cases qv.int
    split at e1
    · rename_i ho
      cases e1
      unfold okR at ho
      simp only [Bool.and_eq_true, decide_eq_true_eq] at ho
      refine ⟨j, rfl, ho.1, ho.2, ?_⟩
      have := h2 SG.tt (Itr 0 (j - 0).toNat) H1 ⟨G, μ, c, hp, trivial⟩ it_rng
      rw [Int.sub_zero] at this
      exact this
    · cases e1
  · cases e1
theorem ri_rg2 {a b : Expr} (hg : Gl X "range") (hm : X.mg "range" = none) (ha : PA X [a, b] (rdq (kp X) Wx fs)) (hs : starEach [a, b] X.env = [(false, eval a X.env), (false, eval b X.env)] := by rfl) (hs2 : starEach [b] X.env = [(false, eval b X.env)] := by rfl) : PI X tg (.Call (.Name "range" p) [a, b] [] pos) (rdi (kp X) Wx (iRg2 fs)) := by
  refine PI.imp (pi_range2 hg hm ha hs hs2) fun σ H R h => ?_
  obtain ⟨B, w, P, rp, h⟩ := h
  refine ⟨B, w, P, rp, (aft_bnd h).mono (fun d w1 h v H1 r1 => ?_) fun _ _ h => h⟩
  obtain ⟨G, μ, c, hp, dv⟩ := r1
  obtain ⟨items, e1, h2⟩ := aft_opt h
  split at e1
  · rename_i i j
    obtain ⟨v, u, rfl, qv, qu⟩ := dv.two
    cases qv.int; cases qu.int
    split at e1
    · rename_i ho
      cases e1
      unfold okR at ho
      simp only [Bool.and_eq_true, decide_eq_true_eq] at ho
      exact ⟨i, j, rfl, ⟨ho.1.1, ho.1.2, ho.2.1, ho.2.2⟩, h2 SG.tt _ H1 ⟨G, μ, c, hp, trivial⟩ it_rng⟩
    · cases e1
  · cases e1
end
/-! ### comprehensions -/
theorem wipe_get {σ : L2.St} {i : Nat} : ∀ {vs : List Nat}, i ∉ vs → (wipe σ vs)[i]? = σ[i]?
  | [], _ => rfl
  | v :: r, h => by
    unfold wipe
    rw [List.getElem?_set_ne (fun e => h (by rw [e]; exact List.mem_cons_self)), wipe_get (fun e => h (List.mem_cons_of_mem _ e))]
theorem wipe_at {σ : L2.St} {i : Nat} : ∀ {vs : List Nat}, i ∈ vs → (wipe σ vs)[i]? = (σ[i]?).map fun _ => none
  | v :: r, h => by
    unfold wipe
    by_cases e : v = i
    · subst e
      by_cases hl : v < σ.length
      · rw [List.getElem?_set_self (by rw [wipe_length]; exact hl), List.getElem?_eq_getElem hl]; rfl
      · rw [List.getElem?_eq_none (by rw [List.length_set, wipe_length]; omega), List.getElem?_eq_none (by omega)]; rfl
    · rw [List.getElem?_set_ne e]
      rcases List.mem_cons.mp h with z | z
      · exact absurd z.symm e
      · exact wipe_at z
theorem wipe_wipe (σ : L2.St) (vs : List Nat) : wipe (wipe σ vs) vs = wipe σ vs := by
  apply List.ext_getElem?
  intro i
  by_cases h : i ∈ vs
  · rw [wipe_at h, wipe_at h, Option.map_map]; rfl
  · rw [wipe_get h]
theorem wipeR_get {ρ : List Rv} {i : Nat} {r : Rv} : ∀ {vs : List Nat}, (wipeR ρ vs)[i]? = some r → r = .un ∨ (i ∉ vs ∧ ρ[i]? = some r)
  | [], h => .inr ⟨fun z => (nomatch z), h⟩
  | v :: vs, h => by
    unfold wipeR at h
    rcases get_set h with ⟨_, e⟩ | ⟨hi, h⟩
    · exact .inl e
    · rcases wipeR_get h with e | ⟨h1, h2⟩
      · exact .inl e
      · exact .inr ⟨fun z => (List.mem_cons.mp z).elim hi h1, h2⟩
theorem wipeR_length (ρ : List Rv) : ∀ vs : List Nat, (wipeR ρ vs).length = ρ.length
  | [] => rfl
  | v :: vs => by unfold wipeR; rw [List.length_set, wipeR_length ρ vs]
section
variable {Γ : Kp} {B : Bs} {w : W} {σ : L2.St} {H G : Hp} {μ : List Addr} {P : SH}
theorem Core.block (c : Core Γ B w σ H G μ) (vs : List Nat) : Core Γ ⟨H, G, μ⟩ ⟨blkR w.ρ vs, w.O⟩ (wipe σ vs) H G μ := by
  have at_ : ∀ (i : Nat) r, (blkR w.ρ vs)[i]? = some r → r ≠ .un → ∃ d, r = .im d ∧ i ∉ vs ∧ w.ρ[i]? = some (.im d) := fun i r e hu => by
    unfold blkR at e
    rw [List.getElem?_map] at e
    obtain ⟨r', e1, e2⟩ := Option.map_eq_some_iff.mp e
    cases r' with
    | im d =>
      rcases wipeR_get e1 with z | ⟨h1, h2⟩
      · cases z
      · exact ⟨d, e2.symm, h1, h2⟩
    | un => exact absurd e2.symm hu
    | ow _ => exact absurd e2.symm hu
    | od _ _ => exact absurd e2.symm hu
  refine ⟨Same.refl _, c.gH, c.gi, fun b o e n => absurd (e.symm.trans n) (fun z => nomatch z), LeH.refl _, ?_, fun i r e hu => ?_, fun i j a h => ?_, Ext.refl _, c.ob⟩
  · show (blkR w.ρ vs).length = _
    unfold blkR
    rw [List.length_map, wipeR_length, wipe_length, c.len]
  · obtain ⟨d, rfl, h1, h2⟩ := at_ i r e hu
    obtain ⟨v, h3, h4⟩ := c.sl i _ h2 (fun z => nomatch z)
    exact ⟨v, by rw [wipe_get h1]; exact h3, h4⟩
  · obtain ⟨_, r, e, ho⟩ := h
    obtain ⟨d, rfl, _⟩ := at_ i r e (by rintro rfl; cases ho)
    cases ho
/-- a list at D that no slot owns -/
structure Side (B : Bs) (w : W) (σ : L2.St) (H G : Hp) (D : Addr) (vs : List V) : Prop where
  h : H D = some (.lst vs)
  g : G D = none
  h0 : B.H0 D = none
  no : ∀ i, ¬ Own w.ρ σ i D
theorem Core.side {D : Addr} {vs us : List V} (c : Core Γ B w σ H G μ) (s : Side B w σ H G D vs) : Core Γ B w σ (upd H D (.lst us)) G μ := by
  refine ⟨c.g0, fun b x q => ?_, c.gi, c.fr, fun b x q => ?_, c.len, fun j r q hu => ?_, c.sep, c.m0, ⟨c.ob.len, c.ob.nd, fun k r q => ?_⟩⟩
  · rw [upd_ne (ne_of_none q s.g)]; exact c.gH _ _ q
  · rw [upd_ne (ne_of_none q s.h0)]; exact c.h0 _ _ q
  · obtain ⟨v, h1, h2⟩ := c.sl j r q hu
    refine ⟨v, h1, ?_⟩
    cases ho : r.own with
    | false =>
      cases r with
      | im d => exact h2
      | un => exact absurd rfl hu
      | ow _ => cases ho
      | od _ _ => cases ho
    | true =>
      have ne : ∀ a', v = .ref a' → a' ≠ D := fun a' z1 z => by
        subst z1 z
        exact s.no j ⟨h1, r, q, ho⟩
      cases r with
      | im d => cases ho
      | un => cases ho
      | ow zs =>
        obtain ⟨a1, vs1, rfl, q1, q2⟩ := h2
        exact ⟨a1, vs1, rfl, by rw [upd_ne (ne _ rfl)]; exact q1, q2⟩
      | od ks vs =>
        obtain ⟨a1, o, vks, vvs, rfl, q1, q2⟩ := h2
        exact ⟨a1, o, vks, vvs, rfl, by rw [upd_ne (ne _ rfl)]; exact q1, q2⟩
  · obtain ⟨x, dx, fs, q1, q2, q3⟩ := c.ob.at_ k r q
    exact ⟨x, dx, fs, q1, by rw [upd_ne (ne_of q2 s.h (fun z => nomatch z))]; exact q2, q3⟩
end
theorem frz_ok {Γ : Kp} {B : Bs} {σ : L2.St} {H : Hp} {P : SH} : ∀ (is : List Nat) {w : W}, Rep Γ B w σ H P → Rep Γ B { w with ρ := frzR w.ρ is } σ H P
  | [], w, h => h
  | i :: is, w, h => by
    obtain ⟨G, μ, c, hp⟩ := h
    have step : ∀ r, w.ρ[i]? = some r → r.own = true → Rep Γ B { w with ρ := w.ρ.set i (.im r.fz) } σ H P := fun r q ho => by
      have hu : r ≠ .un := by rintro rfl; cases ho
      obtain ⟨v, h1, h2⟩ := c.sl i _ q hu
      obtain ⟨a, o, rfl, h3, h4, h5, h6, h7⟩ := h2.owner ho
      have sG := Same.upd_new (o := o) h5
      have ne : ∀ j, ¬ Own (w.ρ.set i .un) σ j a := fun j z => by
        by_cases hj : j = i
        · subst hj; exact not_own_unset z
        · obtain ⟨e1, r1, q1, o1⟩ := z
          rw [List.getElem?_set_ne (Ne.symm hj)] at q1
          exact hj (c.sep j i a ⟨e1, r1, q1, o1⟩ ⟨h1, _, q, ho⟩)
      have c1 := ((c.unset i).share h3 h4 h6 h5 ne).setim h1 (h7 _ sG upd_same)
      rw [List.set_set] at c1
      exact ⟨_, _, c1, P.st sG (Ext.refl _) (LeH.refl _) hp⟩
    unfold frzR
    cases q : w.ρ[i]? with
    | none => exact frz_ok is ⟨G, μ, c, hp⟩
    | some r =>
      cases r with
      | un => exact frz_ok is ⟨G, μ, c, hp⟩
      | im d => exact frz_ok is ⟨G, μ, c, hp⟩
      | ow xs => exact frz_ok is (step _ q rfl)
      | od ks vs => exact frz_ok is (step _ q rfl)
section
variable {X : Cx} {Wx : Wish} {elt tg iter : Expr} {ifs : List Expr} {scope : Scope} {own : List (Str × Nat)} {pos : Pos} {it : M (List D)} {g : Rv → M Unit} {tt : M Bool} {fe : M D}
theorem lc_rd {σ : L2.St} {H : Hp} {Q : VK} (is : List Nat) {vs : List Nat} (h : rd (kp X) Wx (eLc vs is it g tt fe) σ H Q) : tLc (rdc (kp X) Wx it) (rdg (kp X) W0 vs g) (rdt (kp X) W0 tt) (rdd (kp X) W0 fe) vs σ H Q := by
  obtain ⟨B, w, P, rp, h⟩ := h
  refine ⟨B, w, P, rp, (aft_bnd h).mono (fun items w1 h => ?_) fun _ _ h => h⟩
  intro S J H1 r1 ok D hD
  have r1 := frz_ok is r1
  have h := aft_bnd h
  have h : Aft (match lcL g tt fe (blkR (frzR w1.ρ is) vs) items [] w1.O with
    | .val acc O => .val (Rv.ow acc) { (⟨frzR w1.ρ is, w1.O⟩ : W) with O := O }
    | _ => .bad) (fun r w' => ∀ v H', RepR (kp X) B w' σ H' P r v → Q v H') (ExOk (kp X) Wx B σ P) := h
  generalize hρ : frzR w1.ρ is = ρ at *
  obtain ⟨G0, μ0, c0, hp0, hs0⟩ := r1
  obtain ⟨n, Gd, Y, hn, wk, hG, hY⟩ := ok.wk
  subst hn
  cases hL : lcL g tt fe (blkR ρ vs) items [] w1.O with
  | bad => rw [hL] at h; exact h.elim
  | exc c s => rw [hL] at h; exact h.elim
  | val accF OF =>
    rw [hL] at h
    refine lc_it wk (fun i H => ∃ G μ O acc accV, Core (kp X) B ⟨ρ, O⟩ σ H G μ ∧ Same G0 G ∧ Ext μ0 μ ∧ LeH H1 H ∧ Side B ⟨ρ, O⟩ σ H G D accV ∧ DVs (kp X) μ G acc accV ∧ lcL g tt fe (blkR ρ vs) (items.drop i) acc O = .val accF OF)
      ⟨G0, μ0, w1.O, [], [], c0.newOwn hD, Same.refl _, Ext.refl _, .of (Same.upd_new hD), ⟨upd_same, c0.gnone hD, c0.h0.none hD, fun i z => c0.own_ne hD z⟩, .nil, hL⟩ ?_ ?_ ?_
    · rintro i H _ ⟨G, μ, O, acc, accV, c, sg, em, lh, sd, dv, hl⟩
      exact hG G μ H c.gH (S.st sg em lh hs0)
    · rintro i x H H' hi ⟨G, μ, O, acc, accV, c, sg, em, lh, sd, dv, hl⟩ y
      obtain ⟨d, hd, y⟩ := hY i H x H' G μ hi c.gH (S.st sg em lh hs0) y
      have hdrop : items.drop i = d :: items.drop (i + 1) := by
        obtain ⟨h1, h2⟩ := List.getElem?_eq_some_iff.mp hd
        rw [List.drop_eq_getElem_cons h1, h2]
      rw [hdrop] at hl
      -- the item
      have r2 : ∃ G', Core (kp X) B ⟨ρ, O⟩ σ H' G' μ ∧ Same G G' ∧ LeH H H' ∧ DV (kp X) μ G' d x ∧ G' D = none := by
        rcases y with ⟨rfl, dv⟩ | ⟨T, d1, d2, x1, x2, rfl, hT, rfl, rfl, v1, v2⟩
        · exact ⟨G, c, Same.refl _, LeH.refl _, dv, sd.g⟩
        · have sG := Same.upd_new (o := .tup [x1, x2]) (c.gnone hT)
          exact ⟨_, c.new hT (fun _ _ _ z => nomatch z), sG, .of (Same.upd_new hT), .tup (.inl (.inl upd_same)) (.cons (v1.mono sG (Ext.refl _)) (.cons (v2.mono sG (Ext.refl _)) .nil)), by rw [upd_ne (ne_of_none sd.h hT)]; exact sd.g⟩
      obtain ⟨G1, c1, sg1, lh1, dx, gD1⟩ := r2
      have hD1 : H' D = some (.lst accV) := by
        rcases lh1 _ _ sd.h with z | ⟨_, _, _, _, e, _⟩
        · exact z
        · cases e
      -- back from the block
      have back : ∀ {σ2 : L2.St} {H2 G2 : Hp} {μ2 : List Addr} {w2 : W}, Core (kp X) ⟨H', G1, μ⟩ w2 σ2 H2 G2 μ2 → ∀ acc', DVs (kp X) μ2 G2 acc' accV → lcL g tt fe (blkR ρ vs) (items.drop (i + 1)) acc' w2.O = .val accF OF →
          ∃ G μ O acc accV, Core (kp X) B ⟨ρ, O⟩ σ H2 G μ ∧ Same G0 G ∧ Ext μ0 μ ∧ LeH H1 H2 ∧ Side B ⟨ρ, O⟩ σ H2 G D accV ∧ DVs (kp X) μ G acc accV ∧ lcL g tt fe (blkR ρ vs) (items.drop (i + 1)) acc O = .val accF OF := fun {σ2 H2 G2 μ2 w2} c2 acc' dv2 hl2 => by
        have wt := c2.wents rfl rfl rfl
        refine ⟨G2, μ2, w2.O, acc', accV, c1.went wt, sg.trans (sg1.trans wt.gg), em.trans wt.mm, lh.trans (lh1.trans wt.le), ⟨?_, wt.stay hD1 gD1, sd.h0, sd.no⟩, dv2, hl2⟩
        rcases wt.le _ _ hD1 with z | ⟨_, _, _, _, e, _⟩
        · exact z
        · cases e
      refine ⟨⟨H', G1, μ⟩, ⟨blkR ρ vs, O⟩, SG.tt.sh, .im d, ⟨G1, μ, c1.block vs, trivial, dx, fun z => nomatch z⟩, ?_⟩
      unfold lcL at hl
      cases qg : g (.im d) ⟨blkR ρ vs, O⟩ with
      | bad => rw [qg] at hl; cases hl
      | exc c w' => rw [qg] at hl; cases hl
      | val u w2 =>
        rw [qg] at hl
        dsimp only at hl
        intro σ2 H2 hw2 r2
        rw [wipe_wipe] at hw2
        refine ⟨hw2, ⟨H', G1, μ⟩, w2, SG.tt.sh, r2, ?_⟩
        cases qt : tt w2 with
        | bad => rw [qt] at hl; cases hl
        | exc c w' => rw [qt] at hl; cases hl
        | val k w3 =>
          rw [qt] at hl
          dsimp only at hl
          intro H3 r3
          cases k with
          | false =>
            rw [if_neg Bool.false_ne_true] at hl ⊢
            obtain ⟨G3, μ3, c3, _⟩ := r3
            exact back c3 acc (dv.mono (sg1.trans c3.g0) c3.m0) hl
          | true =>
            rw [if_pos rfl] at hl ⊢
            refine ⟨⟨H', G1, μ⟩, w3, SG.tt.sh, r3, ?_⟩
            cases qe : fe w3 with
            | bad => rw [qe] at hl; cases hl
            | exc c w' => rw [qe] at hl; cases hl
            | val dy w4 =>
              rw [qe] at hl
              dsimp only at hl
              intro yv H4 r4
              obtain ⟨G4, μ4, c4, _, d4⟩ := r4
              by_cases hlen : decide (acc.length < 16777216) = true
              · rw [if_pos hlen] at hl
                have wt := c4.wents rfl rfl rfl
                have hD4 : H4 D = some (.lst accV) := (wt.le _ _ hD1).elim id (fun ⟨_, _, _, _, e, _⟩ => nomatch e)
                have sd4 : Side B ⟨ρ, w4.O⟩ σ H4 G4 D accV := ⟨hD4, wt.stay hD1 gD1, sd.h0, sd.no⟩
                have dv4 := dv.mono (sg1.trans c4.g0) c4.m0
                refine ⟨accV, hD4, by rw [← dv.length, sizeLine_eq]; exact of_decide_eq_true hlen, G4, μ4, w4.O, acc ++ [dy], accV ++ [yv], (c1.went wt).side sd4, sg.trans (sg1.trans wt.gg), em.trans wt.mm, fun b o e => ?_, ⟨upd_same, sd4.g, sd4.h0, sd4.no⟩, dv4.append (.cons d4 .nil), hl⟩
                rw [upd_ne (ne_of_none e hD)]
                exact (lh.trans (lh1.trans wt.le)) b o e
              · rw [if_neg hlen] at hl; cases hl
    · rintro H2 ⟨G, μ, O, acc, accV, c, sg, em, lh, sd, dv, hl⟩
      rw [List.drop_length] at hl
      cases hl
      exact h _ H2 ⟨G, μ, c, P.st sg em lh hp0, ⟨D, accV, rfl, sd.h, sd.g, sd.h0, dv⟩, fun _ i a e z => by cases e; exact sd.no i z⟩
theorem PTs.imp {X : Cx} {e : List Expr} {t t' : TT} (h : PTs X e t) (i : ∀ σ H Q, t' σ H Q → t σ H Q) : PTs X e t' := ⟨fun pins s σ H Q I q => h.run pins s σ H Q I (i σ H Q q)⟩
theorem rt_nil : PTs X [] (rdt (kp X) Wx tYesM) := PTs.imp pts_nil fun σ H Q ⟨B, w, P, rp, h⟩ => h H rp
theorem rt_one {c : Expr} (h : PT X c (rdt (kp X) Wx tt)) : PTs X [c] (rdt (kp X) Wx tt) := pts_one h
theorem rd_lc (is : List Nat) (hc : X.calm = true) (hN : X.N.Nodup) (hi : PI X tg iter (rdc (kp X) Wx it)) (ok : BlkOk X.N X.env.scope scope own)
    (hg : ∀ (s : Shared) (H : Hp) (C : Addr) (cl : List (Str × Addr)) (fp : List Addr), PG (X.blk s H scope (compEnvC scope cl C X.env) fp) tg (rdg (kp X) W0 (own.map (·.2)) g)) (ht : ∀ (s : Shared) (H : Hp) (C : Addr) (cl : List (Str × Addr)) (fp : List Addr), PTs (X.blk s H scope (compEnvC scope cl C X.env) fp) ifs (rdt (kp X) W0 tt))
    (he : ∀ (s : Shared) (H : Hp) (C : Addr) (cl : List (Str × Addr)) (fp : List Addr), PE (X.blk s H scope (compEnvC scope cl C X.env) fp) elt (rdd (kp X) W0 fe)) (hs : ∀ x, foldedSetIterable iter X.env x = pure x := by intro _; rfl) :
    PE X (.ListComp elt [⟨tg, iter, ifs, 0⟩] scope pos) (rd (kp X) Wx (eLc (own.map (·.2)) is it g tt fe)) :=
  PE.imp (pe_lc hc hN hi ok hg ht he hs) fun σ H Q h => lc_rd is h
/-- x = [.. for ..] on one line, x a local -/
theorem rs_setLc {i : Nat} {y : Str} {py spos : Pos} (is : List Nat) (hc : X.calm = true) (hN : X.N.Nodup) (hy : X.N[i]? = some y) (hyl : X.env.scope.names.lookup y = some .local)
    (hsw : swapsWith (.ListComp elt [⟨tg, iter, ifs, 0⟩] scope pos) (some (.Name y py)) spos.line X.env = pure true) (hi : PI X tg iter (rdc (kp X) Wx it)) (ok : BlkOk X.N X.env.scope scope own)
    (hg : ∀ (s : Shared) (H : Hp) (C : Addr) (cl : List (Str × Addr)) (fp : List Addr), PG (X.blk s H scope (compEnvC scope cl C X.env) fp) tg (rdg (kp X) W0 (own.map (·.2)) g)) (ht : ∀ (s : Shared) (H : Hp) (C : Addr) (cl : List (Str × Addr)) (fp : List Addr), PTs (X.blk s H scope (compEnvC scope cl C X.env) fp) ifs (rdt (kp X) W0 tt))
    (he : ∀ (s : Shared) (H : Hp) (C : Addr) (cl : List (Str × Addr)) (fp : List Addr), PE (X.blk s H scope (compEnvC scope cl C X.env) fp) elt (rdd (kp X) W0 fe)) (hs : ∀ x, foldedSetIterable iter X.env x = pure x := by intro _; rfl) :
    PS X (.Assign [.Name y py] (.ListComp elt [⟨tg, iter, ifs, 0⟩] scope pos) spos) (rdS (kp X) Wx (sAsg (gN i) (eLc (own.map (·.2)) is it g tt fe))) := by
  refine PS.imp (ps_setLc hc hN hy hyl hsw hi ok hg ht he hs) fun D σ H h => ?_
  obtain ⟨B, w, P, rp, h⟩ := h
  refine lc_rd is ⟨B, w, P.sh, rp, (aft_bnd h).mono (fun r w1 h v H1 r1 => ?_) fun c w2 h H' r => h σ H' r⟩
  obtain ⟨G, μ, c, hp, t⟩ := r1
  have hu : r ≠ .un := by
    rintro rfl
    exact t.ok
  exact h _ H1 ⟨G, μ, c.store t hu, hp⟩
end
end DL
end
section
set_option Elab.async false
set_option linter.all false
set_option maxRecDepth 100000
set_option maxHeartbeats 1000000
/-! DLi: enumerate and zip over lists, tuples and texts. -/
namespace DL
open PySem PySem.Spec PyProof.Rows L2

theorem Draws.more {prog : Program} {w : World} {A : Around} {it : Addr} {fp fp' : List Addr} {n : Nat} {P : Nat → Value → Prop} {St : Nat → Heap → Prop} (D : Draws prog w A it fp n P St) (h : ∀ b ∈ fp, b ∈ fp') : Draws prog w A it fp' n P St :=
  ⟨D.live, fun i h1 h2 s k => D.frame i h1 h2 s fun b hb => k b (h b hb), D.item, D.done⟩
theorem vals_getU : ∀ {xs : List V} {us : List Value} {i : Nat} {u : Value}, Vals xs us → us[i]? = some u → ∃ x, xs[i]? = some x ∧ RelV x u
  | _, _, _, _, .nil, e => by simp at e
  | _, _, 0, _, .cons r _, e => by simp at e; subst e; exact ⟨_, rfl, r⟩
  | _, _, i + 1, x, .cons _ t, e => by
    obtain ⟨u, h1, h2⟩ := vals_getU (i := i) (u := x) t (by simpa using e)
    exact ⟨u, by simpa using h1, h2⟩
/-- what an iterator at it, over something that stands while Gd does, draws: n things, told by Pi -/
structure SrcD (Γ : Kp) (Gd : Hp → Prop) (it l : Addr) (n : Nat) (Pi : Nat → V → Prop) (si : Nat → Heap → Prop) : Prop where
  obj : ∀ i h, si i h → ∃ o, h.get? it = some o ∧ ∀ v, o.data ≠ .cell v
  keep : ∀ i h h', si i h → (∀ o, h.get? it = some o → h'.get? it = some o) → si i h'
  dr : ∀ (X : Cx), X.prog = Γ.P → X.w = Γ.w → X.K = Γ.K → X.calm = true → ∀ (pins : List (Addr × Obj)) (s : Shared) (σ : L2.St) (H : Hp), Inv X pins σ H s → Gd H →
    ∃ (Pv : Nat → Value → Prop) (St : Nat → Heap → Prop), Draws Γ.P Γ.w X.A.in1 it [it, l] n Pv St ∧ (∀ i, si i s.heap → St i s.heap) ∧ (∀ i h, St i h → si i h) ∧ ∀ i u, Pv i u → ∃ x, Pi i x ∧ RelV x u
structure Src (Γ : Kp) (Gd : Hp → Prop) (v : V) (n : Nat) (Pi : Nat → V → Prop) : Prop where
  go : ∀ (X : Cx), X.prog = Γ.P → X.w = Γ.w → X.K = Γ.K → X.calm = true → ∀ (pins : List (Addr × Obj)) (s : Shared) (σ : L2.St) (H : Hp) (u : Value), Inv X pins σ H s → Gd H → RelV v u →
    ∃ (o : Obj) (Hc : Heap → Prop) (si : Addr → Nat → Heap → Prop) (l : Addr), Begins u o Hc ∧ Hc s.heap ∧ (∀ h it, h.get? it = some o → si it 0 h) ∧ l < s.heap.objs.size ∧ ∀ it, l ≠ it → SrcD Γ Gd it l n Pi (si it)
theorem src_lst {Γ : Kp} {a : Addr} {vs : List V} : Src Γ (fun H => H a = some (.lst vs)) (.ref a) vs.length (fun i x => vs[i]? = some x) := ⟨by
  intro X hP hw hK hc pins s σ H u I g r
  cases r
  obtain ⟨its, rv, p, _⟩ := I.list (a := a) (xs := vs) (.inl (.inl g))
  refine ⟨_, _, fun it i h => h.IsListIter it a i, a, begins_list a its.toArray, p.isList, fun h it e => ⟨_, e, rfl, rfl⟩, p.lt, fun it hne => ⟨fun i h x => ?_, fun i h h' x k => x.at k, ?_⟩⟩
  · obtain ⟨o, e, c, d⟩ := x
    exact ⟨o, e, fun v q => by rw [d] at q; cases q⟩
  · intro X hP hw hK hc pins s σ H I g
    obtain ⟨its, rv, p, _⟩ := I.list (a := a) (xs := vs) (.inl (.inl g))
    have hl : its.toArray.size = vs.length := by rw [List.size_toArray, rv.length]
    have hh : X.A.in1.handled = none := I.ok.hd hc
    refine ⟨fun i v => its.toArray[i]? = some v, fun i h => h.IsListIter it a i ∧ h.IsList a its.toArray, by rw [← hl]; exact Draws.list hh it a hne its.toArray, fun i h => ⟨h, p.isList⟩, fun i h x => x.1, fun i u e => ?_⟩
    obtain ⟨x, e2, e3⟩ := vals_getU rv (by simpa using e)
    exact ⟨x, e2, e3⟩⟩
theorem src_tup {Γ : Kp} {a : Addr} {vs : List V} : Src Γ (fun H => SqT Γ.K H a vs) (.ref a) vs.length (fun i x => vs[i]? = some x) := ⟨by
  intro X hP hw hK hc pins s σ H u I g r
  cases r
  rw [← hK] at g
  obtain ⟨its, rv, p, _⟩ := I.tuple (a := a) (xs := vs) g
  refine ⟨_, _, fun it i h => h.IsTupleIter it a i, a, begins_tuple a its.toArray, p, fun h it e => ⟨_, e, rfl, rfl⟩, p.lt, fun it hne => ⟨fun i h x => ?_, fun i h h' x k => x.at k, ?_⟩⟩
  · obtain ⟨o, e, c, d⟩ := x
    exact ⟨o, e, fun v q => by rw [d] at q; cases q⟩
  · intro X hP hw hK hc pins s σ H I g
    rw [← hK] at g
    obtain ⟨its, rv, p, _⟩ := I.tuple (a := a) (xs := vs) g
    have hl : its.toArray.size = vs.length := by rw [List.size_toArray, rv.length]
    have hh : X.A.in1.handled = none := I.ok.hd hc
    refine ⟨fun i v => its.toArray[i]? = some v, fun i h => h.IsTupleIter it a i ∧ h.IsTuple a its.toArray, by rw [← hl]; exact Draws.tuple hh it a hne its.toArray, fun i h => ⟨h, p⟩, fun i h x => x.1, fun i u e => ?_⟩
    obtain ⟨x, e2, e3⟩ := vals_getU rv (by simpa using e)
    exact ⟨x, e2, e3⟩⟩
theorem src_str {Γ : Kp} {z : Str} : Src Γ (fun _ => True) (.str z) z.cps.size (fun i x => ∃ c, z.cps[i]? = some c ∧ x = .str ⟨#[c]⟩) := ⟨by
  intro X hP hw hK hc pins s σ H u I g r
  obtain ⟨t, rfl⟩ := r
  refine ⟨_, _, fun it i h => h.IsStrIter it (strIterType z) z t i, X.env.locals, begins_text z t, trivial, fun h it e => ⟨_, e, rfl, rfl⟩, I.lt, fun it hne => ⟨fun i h x => ?_, fun i h h' x k => let ⟨o, ho, r⟩ := x; ⟨o, k o ho, r⟩, ?_⟩⟩
  · obtain ⟨o, e, c, d⟩ := x
    exact ⟨o, e, fun v q => by rw [d] at q; cases q⟩
  · intro X hP hw hK hc pins s σ H I g
    have hh : X.A.in1.handled = none := I.ok.hd hc
    refine ⟨_, _, Draws.more (Draws.text hh it z t) (fun b hb => by simp at hb ⊢; exact .inl hb), fun i h => h, fun i h x => x, fun i u e => ?_⟩
    obtain ⟨c, t', e1, rfl⟩ := e
    exact ⟨.str ⟨#[c]⟩, ⟨c, e1, rfl⟩, ⟨t', rfl⟩⟩⟩
def JEn (Gd : Hp → Prop) (n : Nat) (Pi : Nat → V → Prop) : It :=
  ⟨fun i H => i < n ∧ Gd H, fun i H v H' => ∃ T x, v = .ref T ∧ H T = none ∧ H' = upd H T (.tup [.int (i : Nat), x]) ∧ Pi i x, fun i H => i = n ∧ Gd H⟩
theorem turn_enumS {Γ : Kp} {elts : List Expr} {kk : Nat} {tpos : Pos} {Gd : Hp → Prop} {e it l : Addr} {n : Nat} {Pi : Nat → V → Prop} {si : Nat → Heap → Prop} (S : SrcD Γ Gd it l n Pi si) (hne : e ≠ it) (hel : e ≠ l) :
    Turn Γ.P Γ.w Γ.K (.Tuple elts kk tpos) (JEn Gd n Pi) [e, it] e (fun i h => (∃ old, IsEnum h e it ((i : Nat) : Int) old) ∧ si i h) where
  mem := by simp
  obj := fun i h st b hb => by
    obtain ⟨⟨old, he⟩, hs⟩ := st
    have e' : b = e ∨ b = it := by simpa using hb
    rcases e' with z | z
    · rw [z]; exact ⟨_, he, fun v q => nomatch q⟩
    · rw [z]; exact S.obj i h hs
  keep := fun i h h' st k => let ⟨⟨old, he⟩, hi⟩ := st; ⟨⟨old, k e (by simp) _ he⟩, S.keep i h h' hi fun o q => k it (by simp) o q⟩
  item := by
    intro X hP hw hK hc i pins s σ H E I hf st hg
    obtain ⟨⟨old, he⟩, hs⟩ := st
    obtain ⟨hlt, hG⟩ := hg
    obtain ⟨Pv, St, D, h1, h2, h3⟩ := S.dr X hP hw hK hc pins s σ H I hG
    rw [← hP, ← hw] at D
    have hee : e < s.heap.objs.size := Heap.lt_size he
    have hil : it < s.heap.objs.size := by obtain ⟨o, q, _⟩ := S.obj i _ hs; exact Heap.lt_size q
    rw [← hP, ← hw]
    refine wpAny_pyNext_enum_itemD D he (h1 i hs) hlt hne (by simp [hne, hel]) fun u h' tk hu ho hit' hT hsz hk => ?_
    obtain ⟨x, hx, ru⟩ := h3 i u hu
    refine ⟨_, rfl, wpAny_letOwnedTupleGo_enum (s := { s with heap := h', toks := tk + 1 }) ho fun h'' he' sb => ?_⟩
    have hT2 : h''.get? s.heap.objs.size = some { cls := .type "tuple", data := .seq #[.int i tk, u] } := (sb.2 _ (Nat.ne_of_gt hee)).trans hT
    have new : ObjOk X.prog X.w (upd H s.heap.objs.size (.tup [.int (i : Nat), x])) h'' s.heap.objs.size (.tup [.int (i : Nat), x]) :=
      ⟨by show 2 ≤ sizeLine; decide, [.int i tk, u], .cons ⟨_, rfl⟩ (.cons ru .nil), ⟨_, hT2, rfl, _, rfl⟩⟩
    have I1 : Inv X pins σ (upd H s.heap.objs.size (.tup [.int (i : Nat), x])) { s with heap := h'', toks := tk + 1 } :=
      I.turnedNew (ch := [e, it]) (fun b ob hb q => (sb.2 b (fun z => hb (by simp [z]))).trans (hk b ob (fun z => hb (by simp [z])) (fun z => hb (by simp [z])) q)) hf (Nat.le_refl _) new
    refine ⟨.ref s.heap.objs.size, _, I1, rfl, ⟨_, x, rfl, I.hok.fresh (Nat.le_refl _), rfl, hx⟩, ⟨⟨u, ?_⟩, S.keep _ _ _ (h2 _ _ hit') fun o q => (sb.2 it (Ne.symm hne)).trans q⟩, fun b hb => ?_⟩
    · have e1 : ((i + 1 : Nat) : Int) = (i : Int) + 1 := by omega
      rw [e1]; exact he'
    · have hb' : b < s.heap.objs.size := by
        have e' : b = e ∨ b = it := by simpa using hb
        rcases e' with z | z
        · rw [z]; exact hee
        · rw [z]; exact hil
      rw [upd_ne (Nat.ne_of_lt hb')]
      exact (hf b hb).1
  done := by
    intro X hP hw hK hc i pins s σ H E I hf st hg
    obtain ⟨⟨old, he⟩, hs⟩ := st
    obtain ⟨rfl, hG⟩ := hg
    obtain ⟨Pv, St, D, h1, h2, h3⟩ := S.dr X hP hw hK hc pins s σ H I hG
    rw [← hP, ← hw] at D ⊢
    obtain ⟨f0, f1, f2, f3, f4, f5⟩ := hf it (by simp)
    exact wpAny_pyNext_enum_endD D he (h1 _ hs) fun h' eb => ⟨rfl, I.turned (t' := s.toks) (fun b o hb q => eb b o hb q) f0 f1 f3 f4 f5⟩
  self := fun A i s Q E st h => let ⟨⟨_, he⟩, _⟩ := st; wpAny_pyIter_enum he h
/-! enumerate(v) -/
theorem meets_enumerate_new1 {v : Value} {o : Obj} {H : Heap → Prop} (B : Begins v o H) :
    Meets (Builtin.«enumerate.__new__» ⟨[.type "enumerate", v], []⟩) (fun _ R s => H s.heap ∧
      R (.ok (.ret (.ref (s.heap.push o).objs.size))) { s with heap := (s.heap.push o).push { cls := .type "enumerate", data := .fields #[.none, .bool false, .ref s.heap.objs.size, rawInt 0, .none, .none] } }) :=
  .of_wp fun prog w A R s h => by
    obtain ⟨hp, g, d, tk, os⟩ := s; obtain ⟨h1, h⟩ := h
    have hsub := sub_enumerate
    have q1 : ∀ {A' : Around} {E : Value → Shared → Prop} {Q : Value → Shared → Prop}, Q (.ref hp.objs.size) ⟨hp.push o, g, d, tk, os⟩ → wpAny (model prog w) A' (pyIter v) Q E ⟨hp, g, d, tk, os⟩ :=
      fun q => B.iter prog w _ _ ⟨hp, g, d, tk, os⟩ _ h1 q
    wp_walk using q1
    refine wpAny_stack_any fun st => wpAny_pure ?_
    split
    · rename_i c _ _ _ _ _
      cases (c == Value.type "enumerate")
      · wp_walk using q1
        exact ⟨_, rfl, h⟩
      · wp_walk using q1
        exact ⟨_, rfl, h⟩
    · wp_walk using q1
      exact ⟨_, rfl, h⟩
theorem enum_begins1 {prog : Program} {w : World} {A : Around} {E : Value → Shared → Prop} {s : Shared} {v : Value} {o : Obj} {H : Heap → Prop} {Q : Value → Shared → Prop} (B : Begins v o H) (h1 : H s.heap)
    (h : ∀ h', IsEnum h' (s.heap.objs.size + 1) s.heap.objs.size 0 .none → h'.get? s.heap.objs.size = some o → h'.objs.size = s.heap.objs.size + 2 →
      (∀ b o, s.heap.get? b = some o → h'.get? b = some o) → Q (.ref (s.heap.objs.size + 1)) { s with heap := h' }) :
    wpAny (model prog w) A (call (.type "enumerate") [v]) Q E s := by
  refine callType_new F.called_enumerate (by decide) (F.typeCall_enumerate_1 _) (F.newCall_enumerate_1 _) (fun obj => F.args_object_init_2 obj _) F.entry_enumerate_new
    (meets_enumerate_new1 B) ⟨h1, ?_⟩
  have hz : (s.heap.push o).objs.size = s.heap.objs.size + 1 := Heap.size_push ..
  show _ ∧ _
  rw [hz]
  have he : IsEnum ((s.heap.push o).push { cls := .type "enumerate", data := .fields #[.none, .bool false, .ref s.heap.objs.size, rawInt 0, .none, .none] }) (s.heap.objs.size + 1) s.heap.objs.size 0 .none := by
    have := Heap.get?_push_size (s.heap.push o) (o := { cls := .type "enumerate", data := .fields #[.none, .bool false, .ref s.heap.objs.size, rawInt 0, .none, .none] }) rfl
    rw [hz] at this; exact this
  refine ⟨⟨_, he, rfl⟩, h _ he (Heap.get?_push_of_some _ (Heap.get?_push_size _ B.free)) (by rw [Heap.size_push, hz]) fun b o x => Heap.get?_push_of_some _ (Heap.get?_push_of_some _ x)⟩
def iEnS (Γ : Kp) (ta : TA) : TI := fun σ H R => ta σ H fun vs H1 => ∃ v Gd n Pi, vs = [v] ∧ Src Γ Gd v n Pi ∧ Gd H1 ∧ R (JEn Gd n Pi) H1
theorem pi_enumS {X : Cx} {e : Expr} {ta : TA} {p pos tpos : Pos} {elts : List Expr} {kk : Nat} (hcalm : X.calm = true) (hg : Gl X "enumerate") (hm : X.mg "enumerate" = none) (ha : PA X [e] ta) (hs : starEach [e] X.env = [(false, eval e X.env)] := by rfl) :
    PI X (.Tuple elts kk tpos) (.Call (.Name "enumerate" p) [e] [] pos) (iEnS (kp X) ta) := by
  refine ⟨fun pins s σ H R I h => ?_⟩
  refine Call_ (ld_blt I hg hm PyProof.Rows.boot_enumerate (PyProof.Rows.callWith_type1 (thn (ha.run pos pins s σ H _ I h) fun us s1 ⟨vs, H1, I1, r1, q1⟩ => ?_) hs rfl))
  obtain ⟨v, Gd, n, Pi, ex, S, hG, q⟩ := q1
  subst ex
  cases r1 with
  | cons r rr =>
    cases rr
    obtain ⟨o, Hc, si, l, B, hc, h0, hl, hS⟩ := S.go X rfl rfl rfl hcalm pins s1 σ H1 _ I1 hG r
    refine enum_begins1 B hc fun h' he hit hsz hk => wpAny_pyIter_enum he ?_
    have I2 : Inv X pins σ H1 { s1 with heap := h' } := I1.kept (t' := s1.toks) hk
    refine ⟨s1.heap.objs.size + 1, [s1.heap.objs.size + 1, s1.heap.objs.size], _, _, H1, rfl, I2, turn_enumS (hS s1.heap.objs.size (Nat.ne_of_lt hl)) (Nat.succ_ne_self _) (Nat.ne_of_gt (Nat.lt_succ_of_lt hl)), ⟨⟨.none, he⟩, h0 _ _ hit⟩, fun b hb => ?_, q⟩
    have e' : b = s1.heap.objs.size + 1 ∨ b = s1.heap.objs.size := by simpa using hb
    have hle : s1.heap.objs.size ≤ b := by
      rcases e' with z | z
      · rw [z]; exact Nat.le_add_right _ _
      · rw [z]; exact Nat.le_refl _
    exact I1.fpOk hle (I1.hok.fresh hle)
theorem walk_en {Gd : Hp → Prop} {n : Nat} {Pi : Nat → V → Prop} : Walk (JEn Gd n Pi) n Gd (fun i H v H' => ∃ T x, v = .ref T ∧ H T = none ∧ H' = upd H T (.tup [.int (i : Nat), x]) ∧ Pi i x) :=
  ⟨fun i H h g => ⟨h, g⟩, fun H g => ⟨rfl, g⟩, fun i H x H' _ _ y => y⟩
/-- something to draw from, told by data -/
theorem src_of {Γ : Kp} {μ : List Addr} {G H : Hp} {d : D} {v : V} {ds : List D} (pv : PV Γ μ G H d v) (g : Same G H) (e : drawn d = some ds) :
    ∃ (S : SH) (Gd : Hp → Prop) (n : Nat) (Pi : Nat → V → Prop), Src Γ Gd v n Pi ∧ n = ds.length ∧ S.p G μ H ∧ (∀ G μ H, Same G H → S.p G μ H → Gd H) ∧ ∀ i x G μ H, Same G H → S.p G μ H → Pi i x → ∃ d, ds[i]? = some d ∧ DV Γ μ G d x := by
  unfold drawn at e
  split at e
  · cases e
    obtain ⟨a, vs, rfl, h1, h2⟩ := pv.list g
    exact ⟨sLstP Γ a _ vs, _, _, _, src_lst, h2.length.symm, ⟨h1, h2⟩, fun G μ H g s => s.1, fun i x G μ H g s e => s.2.getV e⟩
  · cases e
    obtain ⟨a, vs, rfl, h1, h1', h2⟩ := pv.tupl g
    exact ⟨(sTup Γ a _ vs).sh, _, _, _, src_tup, h2.length.symm, ⟨h1', h2⟩, fun G μ H g s => Same.sqt g s.1, fun i x G μ H g s e => s.2.getV e⟩
  · cases e
    cases pv.str
    refine ⟨SG.tt.sh, _, _, _, src_str, by simp, trivial, fun _ _ _ _ _ => trivial, fun i x G μ H g s e => ?_⟩
    obtain ⟨c, e1, rfl⟩ := e
    refine ⟨.str ⟨#[c]⟩, ?_, .str _⟩
    rw [List.getElem?_map, Array.getElem?_toList, e1]; rfl
  · cases e
/-- .. from shared data -/
theorem src_ofG {Γ : Kp} {μ : List Addr} {G : Hp} {d : D} {v : V} {ds : List D} (dv : DV Γ μ G d v) (e : drawn d = some ds) :
    ∃ (S : SG) (Gd : Hp → Prop) (n : Nat) (Pi : Nat → V → Prop), Src Γ Gd v n Pi ∧ n = ds.length ∧ S.p G μ ∧ (∀ G μ H, Same G H → S.p G μ → Gd H) ∧ ∀ i x G μ H, Same G H → S.p G μ → Pi i x → ∃ d, ds[i]? = some d ∧ DV Γ μ G d x := by
  unfold drawn at e
  split at e
  · cases e
    cases dv with
    | lst h1 h2 => exact ⟨sLst Γ _ _ _, _, _, _, src_lst, h2.length.symm, ⟨h1, h2⟩, fun G μ H g s => g _ _ s.1, fun i x G μ H g s e => s.2.getV e⟩
  · cases e
    cases dv with
    | tup h1 h2 => exact ⟨sTup Γ _ _ _, _, _, _, src_tup, h2.length.symm, ⟨h1, h2⟩, fun G μ H g s => Same.sqt g s.1, fun i x G μ H g s e => s.2.getV e⟩
  · cases e
    cases dv
    refine ⟨SG.tt, _, _, _, src_str, by simp, trivial, fun _ _ _ _ _ => trivial, fun i x G μ H g s e => ?_⟩
    obtain ⟨c, e1, rfl⟩ := e
    refine ⟨.str ⟨#[c]⟩, ?_, .str _⟩
    rw [List.getElem?_map, Array.getElem?_toList, e1]; rfl
  · cases e
theorem enumD_get : ∀ (ds : List D) (k i : Nat) (d : D), ds[i]? = some d → (enumD k ds)[i]? = some (.tup [.int (k + i : Nat), d])
  | [], _, _, _, h => by simp at h
  | x :: xs, k, 0, d, h => by simp at h; subst h; rfl
  | x :: xs, k, i + 1, d, h => by
    have := enumD_get xs (k + 1) i d (by simpa using h)
    rw [show k + 1 + i = k + (i + 1) by omega] at this
    simpa [enumD] using this
theorem enumD_len : ∀ (ds : List D) (k : Nat), (enumD k ds).length = ds.length
  | [], _ => rfl
  | x :: xs, k => by simp [enumD, enumD_len xs]
theorem it_en {Γ : Kp} {S : SH} {Gd : Hp → Prop} {n : Nat} {Pi : Nat → V → Prop} {ds : List D} (hn : n = ds.length) (hG : ∀ G μ H, Same G H → S.p G μ H → Gd H) (hy : ∀ i x G μ H, Same G H → S.p G μ H → Pi i x → ∃ d, ds[i]? = some d ∧ DV Γ μ G d x) : ItOk Γ S (JEn Gd n Pi) (enumD 0 ds) :=
  ⟨n, Gd, _, by rw [enumD_len]; exact hn, walk_en, hG, fun i H x H' G μ hi g s y => by
    obtain ⟨T, x1, rfl, hT, rfl, hx⟩ := y
    obtain ⟨d, h1, h2⟩ := hy i x1 G μ H g s hx
    exact ⟨_, by rw [enumD_get _ _ _ _ h1, Nat.zero_add], .inr ⟨T, _, d, _, x1, rfl, hT, rfl, rfl, .int _, h2⟩⟩⟩
section
variable {X : Cx} {Wx : Wish} {e e2 tg iter : Expr} {p pos tpos : Pos} {elts : List Expr} {kk : Nat} {fs : M (List D)}
theorem rc_en (hcalm : X.calm = true) (hg : Gl X "enumerate") (hm : X.mg "enumerate" = none) (ha : PA X [e] (rdq (kp X) Wx fs)) (hs : starEach [e] X.env = [(false, eval e X.env)] := by rfl) :
    PI X (.Tuple elts kk tpos) (.Call (.Name "enumerate" p) [e] [] pos) (rdc (kp X) Wx (iEn fs)) := by
  refine PI.imp (pi_enumS hcalm hg hm ha hs) fun σ H R h => ?_
  obtain ⟨B, w, P, rp, h⟩ := h
  refine ⟨B, w, P, rp, (aft_bnd h).mono (fun ds w1 h v H1 r1 => ?_) fun _ _ h => h⟩
  obtain ⟨G, μ, c, hp, dv⟩ := r1
  obtain ⟨items, e1, h2⟩ := aft_opt h
  split at e1
  · obtain ⟨v, rfl, qv⟩ := dv.one
    obtain ⟨as, e2, rfl⟩ := Option.map_eq_some_iff.mp e1
    obtain ⟨S, Gd, n, Pi, hS, hn, hs, hG, hy⟩ := src_of qv c.gH e2
    exact ⟨v, Gd, n, Pi, rfl, hS, hG _ _ _ c.gH hs, h2 S _ _ ⟨G, μ, c, hp, hs⟩ (it_en hn hG hy)⟩
  · cases e1
theorem ri_en (hcalm : X.calm = true) (hg : Gl X "enumerate") (hm : X.mg "enumerate" = none) (ha : PA X [e] (rda (kp X) Wx fs)) (hs : starEach [e] X.env = [(false, eval e X.env)] := by rfl) :
    PI X (.Tuple elts kk tpos) (.Call (.Name "enumerate" p) [e] [] pos) (rdi (kp X) Wx (iEn fs)) := by
  refine PI.imp (pi_enumS hcalm hg hm ha hs) fun σ H R h => ?_
  obtain ⟨B, w, P, rp, h⟩ := h
  refine ⟨B, w, P, rp, (aft_bnd h).mono (fun ds w1 h v H1 r1 => ?_) fun _ _ h => h⟩
  obtain ⟨G, μ, c, hp, dv⟩ := r1
  obtain ⟨items, e1, h2⟩ := aft_opt h
  split at e1
  · cases dv with
    | cons dv z =>
      cases z
      obtain ⟨as, e2, rfl⟩ := Option.map_eq_some_iff.mp e1
      obtain ⟨S, Gd, n, Pi, hS, hn, hs, hG, hy⟩ := src_ofG dv e2
      exact ⟨_, Gd, n, Pi, rfl, hS, hG _ _ _ c.gH hs, h2 S _ _ ⟨G, μ, c, hp, hs⟩ (it_en (S := S.sh) hn hG hy)⟩
  · cases e1
end
end DL
end
section
set_option Elab.async false
set_option linter.all false
set_option maxRecDepth 100000
set_option maxHeartbeats 1000000
/-! DLj: what a def's derivation leans on, in short words. -/
namespace DL
open PySem PySem.Spec PyProof.Rows L2

/-- a def that raises nothing may be called here -/
structure Cal (X : Cx) (x : Str) (F : Fn) : Prop where
  ex : ∃ k f, FnR X.prog X.w X.K X.mg X.base CX0 k f (spP (kp X) F) ∧ Room k X.A ∧ X.mg x = some (.ref f) ∧ PySem.W.keepIn X.K (.ref f) = true
theorem Cal.of {X : Cx} {x : Str} {F : Fn} {k : Nat} {f : Addr} {fd : FuncData} {ps : List Str} (G : FnOk X.prog X.w X.K X.mg X.base CX0 k f fd ps (spP (kp X) F)) (hr : Room k X.A) (hm : X.mg x = some (.ref f)) (hk : PySem.W.keepIn X.K (.ref f) = true) (hb : Binds X.K fd ps []) : Cal X x F :=
  ⟨k, f, FnR.imp (G.raw hb .nil) fun vs H Q E h => by rw [List.append_nil]; exact h, hr, hm, hk⟩
/-- the stores of a, b = .. are swapped -/
theorem sst2 {env : Env} {x y : Str} {px py pt : Pos} {kt : Nat} {a b : Expr} {k2 : Nat} {pt2 : Pos} (hk : env.scope.kind = .function) (hx : env.scope.names.lookup x = some .local) (hy : env.scope.names.lookup y = some .local)
    (h1 : ([a, b].any fun | .Starred .. => true | _ => false) = false) (h2 : [a, b].all (foldedForSure 8) = false) (h3 : [a, b].all (constantsAlone 8) = false) (hl : (py.line == px.line) = true) (hxy : x ≠ y) :
    swappedStores [.Tuple [.Name x px, .Name y py] kt pt] (.Tuple [a, b] k2 pt2) env = pure (some [x, y]) := by
  have kx : env.kindOf x = some .local := hx
  have ky : env.kindOf y = some .local := hy
  have hb : env.blockKind = .function := by unfold Env.blockKind; rw [hk]; rfl
  have e1 : (y == x) = false := beq_eq_false_iff_ne.mpr (Ne.symm hxy)
  have e2 : (x == y) = false := beq_eq_false_iff_ne.mpr hxy
  have hl' : (px.line == px.line) = true := beq_self_eq_true _
  unfold swappedStores
  simp only [List.length_cons, List.length_nil, hb, h1, h2, h3, List.filterMap_cons, List.filterMap_nil, kx, ky, List.head?_cons, Option.map_some, Option.getD_some, Expr.pos, hl, hl', List.eraseDups_cons, List.filter_cons, e1, e2, bne, Bool.not_false, Bool.not_true, List.filter_nil, List.eraseDups_nil, beq_self_eq_true, Bool.and_true, Bool.true_and, if_true, if_false]
  rw [if_neg (by decide)]
  refine (if_neg (fun q => Bool.noConfusion (h1.symm.trans q))).trans rfl
theorem sst3 {env : Env} {x y z : Str} {px py pz pt : Pos} {kt : Nat} {a b c : Expr} {k2 : Nat} {pt2 : Pos} (hk : env.scope.kind = .function) (hx : env.scope.names.lookup x = some .local) (hy : env.scope.names.lookup y = some .local) (hz : env.scope.names.lookup z = some .local)
    (h1 : ([a, b, c].any fun | .Starred .. => true | _ => false) = false) (h2 : [a, b, c].all (foldedForSure 8) = false) (h3 : [a, b, c].all (constantsAlone 8) = false) (hl : (py.line == px.line) = true) (hl2 : (pz.line == px.line) = true) (hxy : x ≠ y) (hxz : x ≠ z) (hyz : y ≠ z) :
    swappedStores [.Tuple [.Name x px, .Name y py, .Name z pz] kt pt] (.Tuple [a, b, c] k2 pt2) env = pure (some [x, y, z]) := by
  have kx : env.kindOf x = some .local := hx
  have ky : env.kindOf y = some .local := hy
  have kz : env.kindOf z = some .local := hz
  have hb : env.blockKind = .function := by unfold Env.blockKind; rw [hk]; rfl
  have e1 : (y == x) = false := beq_eq_false_iff_ne.mpr (Ne.symm hxy)
  have e2 : (z == x) = false := beq_eq_false_iff_ne.mpr (Ne.symm hxz)
  have e3 : (z == y) = false := beq_eq_false_iff_ne.mpr (Ne.symm hyz)
  have hl' : (px.line == px.line) = true := beq_self_eq_true _
  unfold swappedStores
  simp only [List.length_cons, List.length_nil, hb, h1, h2, h3, List.filterMap_cons, List.filterMap_nil, kx, ky, kz, List.head?_cons, Option.map_some, Option.getD_some, Expr.pos, hl, hl', hl2, List.eraseDups_cons, List.filter_cons, e1, e2, e3, bne, Bool.not_false, Bool.not_true, List.filter_nil, List.eraseDups_nil, beq_self_eq_true, Bool.and_true, Bool.true_and, if_true, if_false]
  rw [if_neg (by decide)]
  refine (if_neg (fun q => Bool.noConfusion (h1.symm.trans q))).trans rfl
theorem rs_par3 {X : Cx} {Wx : Wish} {pos : Pos} {x y z : Str} {ea eb ec : Expr} {px py pz pt : Pos} {kt k2 pt2} {fs : M (List Rv)} (i j l : Nat) (ha : PA X [ea, eb, ec] (rdr (kp X) Wx fs)) (hc : X.calm = true) (hN : X.N.Nodup) (hi : X.N[i]? = some x) (hj : X.N[j]? = some y) (hl : X.N[l]? = some z) (hij : i ≠ j) (hil : i ≠ l) (hjl : j ≠ l)
    (hx : X.env.scope.names.lookup x = some .local) (hy : X.env.scope.names.lookup y = some .local) (hz : X.env.scope.names.lookup z = some .local)
    (hw : swappedStores [.Tuple [.Name x px, .Name y py, .Name z pz] kt pt] (.Tuple [ea, eb, ec] k2 pt2) X.env = pure (some [x, y, z]))
    (hs : swapsWithSole [.Tuple [.Name x px, .Name y py, .Name z pz] kt pt] (.Tuple [ea, eb, ec] k2 pt2) pos.line X.env = pure false := by rfl) :
    PS X (.Assign [.Tuple [.Name x px, .Name y py, .Name z pz] kt pt] (.Tuple [ea, eb, ec] k2 pt2) pos) (rdS (kp X) Wx (sPar [i, j, l] fs)) := by
  refine PS.imp (ps_par3 hc hN hi hj hl hij hil hjl hx hy hz ha hw hs) fun D σ H h => ?_
  obtain ⟨B, w, P, rp, h⟩ := h
  refine ⟨B, w, P.sh, rp, (aft_bnd h).mono (fun ds w1 h us H1 r1 => ?_) fun c w2 h H' r => h σ H' r⟩
  obtain ⟨G, μ, c, hp, d⟩ := r1
  have h2 := aft_bnd h
  cases d with
  | nil => exact h2.elim
  | cons u1 t1 s1 d => cases d with
    | nil => exact h2.elim
    | cons u2 t2 s2 d => cases d with
      | nil => exact h2.elim
      | cons u3 t3 s3 d => cases d with
        | cons _ _ _ _ => exact h2.elim
        | nil =>
          refine ⟨_, _, _, rfl, ?_⟩
          have c1 := c.store (i := i) t1 u1
          have q2 := RvsOk.store (i := i) s1 (.cons u2 t2 s2 (.cons u3 t3 s3 .nil))
          cases q2 with
          | cons _ t2 s2 q3 =>
            have c2 := c1.store (i := j) t2 u2
            have q4 := RvsOk.store (i := j) s2 q3
            cases q4 with
            | cons _ t3 _ _ => exact h _ H1 ⟨G, μ, c2.store (i := l) t3 u3, hp⟩
theorem rd_tcmp {X : Cx} {Wx : Wish} {a b : Expr} {pos : Pos} {fa fb : M D} {op : CmpOp} (hu : X.A.units + 70 < cLine) (ha : PE X a (rdp (kp X) Wx fa)) (hb : PE X b (rdp (kp X) Wx fb)) (hm : behindInMarks op b = false) : PT X (.Compare a [op] [b] pos) (rdt (kp X) Wx (tV (fz (eCmp op fa fb)))) := by
  refine PT.imp (pt_cmpR (or_cmp hu op) ha hb hm) fun σ H Q h => ?_
  obtain ⟨B, w, P, rp, h⟩ := h
  refine ⟨B, w, P, rp, (aft_bnd (aft_bnd (aft_bnd h))).mono (fun x w1 h v H1 r1 => ?_) fun _ _ h => h⟩
  obtain ⟨G, μ, c, hp, pv⟩ := r1
  refine ⟨B, w1, P.and (sPV _ x v), ⟨G, μ, c, hp, pv⟩, (aft_bnd h).mono (fun y w2 h u H2 r2 => ?_) fun c' w' h H' rp' => h H' rp'.left⟩
  obtain ⟨G, μ, c, ⟨hp, pv⟩, pu⟩ := r2
  obtain ⟨r, e, h⟩ := aft_opt h
  obtain ⟨k, e1, rfl⟩ := Option.map_eq_some_iff.mp e
  refine ⟨B, w2, σ, G, μ, P, x, y, _, c, hp, pv, pu, e, fun z H3 r3 => ?_⟩
  obtain ⟨G, μ, c, hp, t⟩ := r3
  have hz : DV (kp X) μ G (.bl k) z := t.ok
  cases hz
  exact ⟨k, rfl, h _ ⟨G, μ, c, hp⟩⟩
section
variable {X : Cx} {Wx : Wish} {e : Expr} {es : List Expr} {pos p : Pos} {x : Str} {fs : M (List D)} {F : Fn} {n : Nat}
theorem FnOk.toR {P : Program} {w : World} {K : PySem.W.Frag} {mg : Str → Option Value} {base : Heap} {k : Nat} {f : Addr} {fd : FuncData} {ps : List Str} {sp : Sp} (G : FnOk P w K mg base CX0 k f fd ps sp) (hb : Binds K fd ps []) : FnR P w K mg base CX0 k f sp :=
  FnR.imp (G.raw hb .nil) fun vs H Q E h => by rw [List.append_nil]; exact h
/-- *e among the arguments -/
theorem rd_aS {fa : M D} {sp : Pos} (ha : PE X e (rdd (kp X) Wx fa)) (hr : PA X es (rda (kp X) Wx fs)) (hs : starEach (.Starred e sp :: es) X.env = (true, eval e X.env) :: starEach es X.env := by rfl) : PA X (.Starred e sp :: es) (rda (kp X) Wx (aStar fa fs)) := by
  refine PA.imp (StX.pa_star ha hr hs) fun σ H Q h => ?_
  obtain ⟨B, w, P, rp, h⟩ := h
  refine ⟨B, w, P, rp, (aft_bnd h).mono (fun x w1 h v H1 r1 => ?_) fun _ _ h => h⟩
  obtain ⟨G, μ, c, hp, pv⟩ := r1
  obtain ⟨ys, e1, h⟩ := aft_opt (aft_bnd h)
  have key : ∃ p xs, v = V.ref p ∧ (SqT X.K H1 p xs ∨ SqL X.K H1 p xs) ∧ DVs (kp X) μ G ys xs := by
    cases x with
    | tup zs =>
      cases e1
      cases pv with
      | tup s d => exact ⟨_, _, rfl, .inl (Same.sqt c.gH s), d⟩
    | lst zs =>
      cases e1
      cases pv with
      | lst s d => exact ⟨_, _, rfl, .inr (.inl (.inl (c.gH _ _ s))), d⟩
    | _ => cases e1
  obtain ⟨p, xs, e2, e3, e4⟩ := key
  refine ⟨p, xs, e2, e3, B, w1, P.and (sDVs _ ys xs), ⟨G, μ, c, hp, e4⟩, (aft_bnd h).mono (fun zs w2 h u H2 r2 => ?_) fun c' w' h H' rp' => h H' rp'.left⟩
  obtain ⟨G, μ, c, ⟨hp, pv⟩, pu⟩ := r2
  exact h _ _ ⟨G, μ, c, hp, pv.append pu⟩
theorem rd_cal (C : Cal X x F) (hg : Gl X x) (hd : (x == ("__debug__" : Str)) = false) (ha : PA X (e :: es) (rda (kp X) Wx fs)) (he : starEach (e :: es) X.env = (false, eval e X.env) :: starEach es X.env := by rfl) (hpl : (backTo pos (starEach es X.env)).any (·.1) = false := by rfl) :
    PE X (.Call (.Name x p) (e :: es) [] pos) (rd (kp X) Wx (eCall0 F fs)) := by
  obtain ⟨k, f, h1, h2, h3, h4⟩ := C.ex
  exact rd_call h1 h2 h3 h4 ha hg hd he hpl
theorem rd_calS (C : Cal X x F) (hg : Gl X x) (hd : (x == ("__debug__" : Str)) = false) (ha : PA X (e :: es) (rda (kp X) Wx fs)) (he : starEach (e :: es) X.env = (false, eval e X.env) :: starEach es X.env := by rfl) (hst : (backTo pos (starEach es X.env)).any (·.1) = true := by rfl) :
    PE X (.Call (.Name x p) (e :: es) [] pos) (rd (kp X) Wx (eCall0 F fs)) := by
  obtain ⟨k, f, h1, h2, h3, h4⟩ := C.ex
  exact rd_callS h1 h2 h3 h4 ha hg hd he hst
theorem Cal.blk {s : Shared} {H : Hp} {scope : Scope} {cenv : Env} {fp : List Addr} (C : Cal X x F) : Cal (X.blk s H scope cenv fp) x F := ⟨C.ex⟩
theorem blk_of {N : List Str} {sc scope : Scope} (own : List (Str × Nat)) (hN : X.N = N) (hS : X.env.scope = sc) (h : blkC N sc scope own = true) : BlkOk X.N X.env.scope scope own := by
  rw [hN, hS]; exact blkOk_by h
theorem gl_of {sc : Scope} (hS : X.env.scope = sc) (h : sc.names.lookup x = some .globalImplicit) : Gl X x := by
  show X.env.scope.names.lookup x = _
  rw [hS]; exact h
theorem vis_of {sc : Scope} (hS : X.env.scope = sc) (h : Vis sc x) : Vis X.env.scope x := by rw [hS]; exact h
theorem loc_of {sc : Scope} (hS : X.env.scope = sc) (h : Loc sc x) : Loc X.env.scope x := by rw [hS]; exact h
theorem lk_blk {sc scope : Scope} {s : Shared} {H : Hp} {cl : List (Str × Addr)} {C : Addr} {fp : List Addr} {k : NameKind} (hS : X.env.scope = sc) (h : (relS scope sc).names.lookup x = some k) : (X.blk s H scope (compEnvC scope cl C X.env) fp).env.scope.names.lookup x = some k := by
  subst hS; exact h
theorem vis_blk {sc scope : Scope} {s : Shared} {H : Hp} {cl : List (Str × Addr)} {C : Addr} {fp : List Addr} (hS : X.env.scope = sc) (h : Vis (relS scope sc) x) : Vis (X.blk s H scope (compEnvC scope cl C X.env) fp).env.scope x := by
  subst hS; exact h
theorem gl_blk {sc scope : Scope} {s : Shared} {H : Hp} {cl : List (Str × Addr)} {C : Addr} {fp : List Addr} (hS : X.env.scope = sc) (h : (relS scope sc).names.lookup x = some .globalImplicit) : Gl (X.blk s H scope (compEnvC scope cl C X.env) fp) x := by
  subst hS; exact h
theorem nm_of {N : List Str} {i : Nat} (hN : X.N = N) (h : N[i]? = some x) : X.N[i]? = some x := by rw [hN]; exact h
theorem lk_of {sc : Scope} {k : NameKind} (hS : X.env.scope = sc) (h : sc.names.lookup x = some k) : X.env.scope.names.lookup x = some k := by rw [hS]; exact h
end
end DL
namespace DL
open PySem PySem.Spec PyProof.Rows L2
/-! ### the row's end -/
theorem room_hu {k : Nat} {A : Around} (hr : Room k A) : A.units + 70 < cLine := by have := hr.un; omega
def spLaw (K : PySem.W.Frag) : Sp := fun vs H Q _ => ∃ (a : Addr) (ns : List Int), vs = [.ref a] ∧ SqL K H a (ns.map V.int) ∧ ns.length ≤ 63 ∧ ∀ H', Q (.bl true) H'
def noIns (H : Hp) : Hp := fun b => match H b with
  | some (.ins _ _ _) => none
  | o => o
theorem noIns_same (H : Hp) : Same (noIns H) H := fun b o e => by
  unfold noIns at e
  split at e
  · cases e
  · exact e
theorem noIns_ni (H : Hp) (b C dx : Addr) (fs : List (Str × V)) : noIns H b ≠ some (.ins C dx fs) := fun e => by
  unfold noIns at e
  split at e
  · cases e
  · rename_i h
    exact h C dx fs e
theorem noIns_of {H : Hp} {b : Addr} {o : HO} (e : H b = some o) (h : NI o) : noIns H b = some o := by
  unfold noIns
  split
  · rename_i C dx fs q
    rw [e] at q
    exact absurd (Option.some.inj q) (h _ _ _)
  · exact e
theorem law_fn {P : Program} {w : World} {K : PySem.W.Frag} {mg : Str → Option Value} {base : Heap} {k : Nat} {f : Addr} {fd : FuncData} {ps : List Str} {F : Fn} (G : FnOk P w K mg base CX0 k f fd ps (spP ⟨P, w, K⟩ F))
    (h : ∀ ns : List Int, ns.length ≤ 63 → ∃ O', F [.scr ns] [] = .val (.im (.bl true)) O') : FnOk P w K mg base CX0 k f fd ps (spLaw K) := by
  refine G.imp fun vs H Q E q => ?_
  obtain ⟨a, ns, rfl, hS, hl, q⟩ := q
  obtain ⟨O', e⟩ := h ns hl
  have hS' : SqL K (noIns H) a (ns.map V.int) := by
    rcases hS with (h | ⟨o, h⟩) | h
    · exact .inl (.inl (noIns_of h fun _ _ _ z => nomatch z))
    · exact .inl (.inr ⟨o, noIns_of h fun _ _ _ z => nomatch z⟩)
    · exact .inr h
  refine ⟨[.scr ns], noIns H, [], [], .im (.bl true), O', noIns_same H, noIns_ni H, .cons (.scr hS') .nil, ⟨rfl, List.nodup_nil, fun k r e => by simp at e⟩, e, fun v H' G' μ' _ ok => ?_⟩
  have z : DV ⟨P, w, K⟩ μ' G' (.bl true) v := ok
  cases z
  exact q H'
end DL
end
section
set_option Elab.async false
set_option linter.all false
set_option maxRecDepth 100000
set_option maxHeartbeats 1000000
/-! DLk: x[::-1]. -/
namespace DL
open PySem PySem.Spec PyProof.Rows L2

/-- what x[::-1] gives, by values: the slice object stands at sl -/
def RvR (X : Cx) (r : V → Hp → VK → Prop) : Prop :=
  ∀ (pins : List (Addr × Obj)) (s : Shared) (σ : L2.St) (H : Hp) (x : V) (v vs : Value) (sl : Addr) (Q : VK), Inv X pins σ H s → RelV x v → s.heap.IsSliceOf sl .none .none vs → IsPart vs (some (-1)) → r x H Q →
    ∃ T id, typeLookup (.type T) "__getitem__" = pure (some (.builtin id)) ∧ s.TypeIs v T ∧ wpAny (model X.prog X.w) X.A (getItem v (.ref sl)) (EP X pins σ Q) X.xe s
section
variable {X : Cx} {e : Expr} {te : TE} {k : Nat} {p1 p2 p3 pos : Pos}
theorem pe_revA {r : V → Hp → VK → Prop} (hr : RvR X r) (he : PE X e te) : PE X (.Subscript e (.Slice none none (some (.UnaryOp .USub (.Constant (.int 1) k p1) p2)) p3) pos) (fun σ H Q => te σ H fun x H1 => r x H1 Q) := by
  refine ⟨fun pins s σ H Q I h => ?_⟩
  refine Subscript_ (thn (he.run pins s σ H _ I h) fun v s1 ⟨x, H1, I1, r1, q⟩ => ?_)
  have hst : PO X (some (.UnaryOp .USub (.Constant (.int 1) k p1) p2)) (tPart (tUn (rU fun i => .int (-i)) (tC (.int 1)))) := po_some (pe_un un_neg pe_int)
  refine wpAny_Slice (thn (po_none.run pins s1 σ H1 (fun o H2 => o = none ∧ H2 = H1) I1 ⟨rfl, rfl⟩) fun vl s2 ⟨l, H2, I2, pl, el, e2⟩ => ?_)
  cases el; cases e2; cases pl
  refine thn (po_none.run pins s2 σ H1 (fun o H3 => o = none ∧ H3 = H1) I2 ⟨rfl, rfl⟩) fun vu s3 ⟨u, H3, I3, pu, eu, e3⟩ => ?_
  cases eu; cases e3; cases pu
  refine thn (hst.run pins s3 σ H1 (fun o H4 => o = some (-1) ∧ H4 = H1) I3 ⟨1, rfl, -1, rfl, rfl, rfl⟩) fun vs s4 ⟨o, H4, I4, ps, eo, e4⟩ => ?_
  cases eo; cases e4
  have I5 : Inv X pins σ H1 { s4 with heap := s4.heap.push { cls := .type "slice", data := .fields #[.none, .none, vs] } } := I4.kept (t' := s4.toks) fun b ob q => Heap.get?_push_of_some _ q
  obtain ⟨T, id, hT, ht, hg⟩ := hr pins _ σ H1 x v vs s4.heap.objs.size Q I5 r1 (Heap.IsSliceOf.new ..) ps q
  show wpAny (model X.prog X.w) X.A (subscriptTail e (.Slice none none (some (.UnaryOp .USub (.Constant (.int 1) k p1) p2)) p3) v (.ref s4.heap.objs.size)) (EP X pins σ Q) X.xe { s4 with heap := s4.heap.push { cls := .type "slice", data := .fields #[.none, .none, vs] } }
  exact tail_any (ops := [v, .ref s4.heap.objs.size]) ht hT hg (by with_unfolding_all rfl)
end
section
variable {prog : Program} {w : World} {A : Around} {E : Value → Shared → Prop} {s : Shared}
theorem sliceApplied_rev {sl : Addr} {vs : Value} {n : Nat} {Q : Int × Int × Nat → Shared → Prop} (hs : s.heap.IsSliceOf sl .none .none vs) (ps : IsPart vs (some (-1)))
    (h : Q ((n : Int) - 1, -1, n) s) : wpAny (model prog w) A (Builtin.Slice.sliceApplied (.ref sl) (pure (n : Int))) Q E s := by
  obtain ⟨os, hos, hcs, hds⟩ := id hs
  unfold Builtin.Slice.sliceApplied Builtin.Slice.sliceFields
  refine wpAny_bind (wpAny_bind (wpAny_field hos hds (x := .none) rfl (wpAny_bind (wpAny_field hos hds (x := .none) rfl (wpAny_bind (wpAny_field hos hds (x := vs) rfl (wpAny_pure ?_)))))))
  refine wpAny_bind (HT.slicePart_ ps ?_)
  show wpAny _ _ (if ((-1 : Int) == 0) = true then _ else _) _ _ s
  rw [if_neg (by decide)]
  refine wpAny_bind (slicePart_none (wpAny_bind (slicePart_none (wpAny_bind (wpAny_pure ?_)))))
  show wpAny _ _ (match Builtin.Slice.sliceAdjust none none (-1) (n : Int) with | (lo, hi) => pure (lo, (-1 : Int), Builtin.Slice.slicePlaces lo hi (-1))) _ _ s
  have e : Builtin.Slice.slicePlaces ((n : Int) - 1) (-1) (-1) = n := by
    unfold Builtin.Slice.slicePlaces
    have h1 : ¬ ((-1 : Int) > 0) := by decide
    simp only [h1, if_false]
    rw [show (- -1 : Int) = 1 by decide, Int.ediv_one]
    split <;> omega
  show wpAny _ _ (pure ((n : Int) - 1, (-1 : Int), Builtin.Slice.slicePlaces ((n : Int) - 1) (-1) (-1))) _ _ s
  rw [e]
  exact wpAny_pure h
theorem fm_congr {α β : Type} {f g : α → Option β} : ∀ {l : List α}, (∀ x ∈ l, f x = g x) → l.filterMap f = l.filterMap g
  | [], _ => rfl
  | x :: l, h => by rw [List.filterMap_cons, List.filterMap_cons, h x List.mem_cons_self, fm_congr fun y hy => h y (List.mem_cons_of_mem _ hy)]
theorem pick_rev (xs : Array Value) : ((List.range xs.size).filterMap fun (m : Nat) => xs[((xs.size : Int) - 1 + (m : Int) * (-1)).toNat]?).toArray = xs.toList.reverse.toArray := by
  have e : ((List.range xs.size).filterMap fun (m : Nat) => xs[((xs.size : Int) - 1 + (m : Int) * (-1)).toNat]?) = ((List.range xs.size).map fun k => xs.size - 1 - k).filterMap (xs[·]?) := by
    rw [List.filterMap_map]
    refine fm_congr fun m hm => ?_
    rw [List.mem_range] at hm
    have : ((xs.size : Int) - 1 + (m : Int) * (-1)).toNat = xs.size - 1 - m := by omega
    rw [this]; rfl
  rw [e, PySem.W.krv_range, List.filterMap_reverse, PySem.W.krv_all]
theorem getItem_tuple_rev {t sl : Addr} {items : Array Value} {vs : Value} {Q : Value → Shared → Prop} (ht : IsTup s.heap t items) (hs : s.heap.IsSliceOf sl .none .none vs) (ps : IsPart vs (some (-1)))
    (h : Q (.ref s.heap.objs.size) { s with heap := s.heap.push { cls := .type "tuple", data := .seq items.toList.reverse.toArray } })
    (hsz : items.size ≤ sizeLine) : wpAny (model prog w) A (getItem (.ref t) (.ref sl)) Q E s := by
  have htake : sizeOk (.seq items.toList.reverse.toArray) := by
    show items.toList.reverse.toArray.size ≤ sizeLine
    rw [List.size_toArray, List.length_reverse, Array.length_toList]
    exact hsz
  obtain ⟨os, hos, hcs, hds⟩ := id hs
  have hTs : s.TypeIs (.ref sl) "slice" := ⟨os, hos, hcs⟩
  unfold getItem
  try with_reducible refine wpAny_holding ?_
  first | refine wpAny_bind (wpAny_pure ?_) | skip
  refine wpAny_bind (wpAny_sequenceKey ht.typeIs (by decide) ?_)
  refine wpAny_bind (wpAny_callSpecial?_slot (name := Str.ofString "__getitem__") ht.typeIs PyProof.Rows.slot_tuple_getitem
    (wpAny_call_entry PyProof.Rows.slot_tuple_getitem ht.typeIs entry_tuple_getitem ?_ (args_tuple_getitem _ _)))
  show wpAny _ _ (Builtin.Tuple.tupleItemsOf (.ref t) >>= _) _ _ s
  refine wpAny_bind (tupleItemsOf_ ht ?_)
  refine wpAny_bind (wpAny_typeOf hTs ?_)
  rw [if_pos (by decide)]
  refine wpAny_bind (sliceApplied_rev hs ps ?_)
  have hno : ¬ ((((items.size : Int) - 1) == 0 && (-1 : Int) == 1 && items.size == items.size) = true) := by
    intro q
    rw [Bool.and_eq_true, Bool.and_eq_true] at q
    exact absurd q.1.2 (by decide)
  show wpAny _ _ (if (((items.size : Int) - 1) == 0 && (-1 : Int) == 1 && items.size == items.size) = true then _ else _) _ _ s
  rw [if_neg hno, pick_rev]
  first
    | exact wpAny_bind (m := Builtin.Tuple.tupleExact _) (wpAny_newObj_type (wpAny_pure ⟨_, rfl, wpAny_pure h⟩) htake)
    | exact wpAny_bind (m := Builtin.Tuple.tupleExact _) (wpAny_newObj_type (wpAny_bind (wpAny_pure (wpAny_pure ⟨_, rfl, wpAny_pure h⟩))) htake)
    | exact wpAny_bind (wpAny_bind (m := Builtin.Tuple.tupleExact _) (wpAny_newObj_type (wpAny_pure (wpAny_pure ⟨_, rfl, wpAny_pure h⟩)) htake))
    | exact wpAny_bind (wpAny_bind (m := Builtin.Tuple.tupleExact _) (wpAny_newObj_type (wpAny_pure ⟨_, rfl, wpAny_pure h⟩) htake))
end
section
variable {X : Cx}
theorem rv_lst : RvR X (fun x H Q => ∃ a xs, x = .ref a ∧ SqL X.K H a xs ∧ ∀ p, H p = none → Q (.ref p) (upd H p (.lst xs.reverse))) := by
  intro pins s σ H x v vs sl Q I rx hs ps h
  obtain ⟨a, xs, rfl, hx, q⟩ := h
  cases rx
  obtain ⟨its, r, ht, hz⟩ := I.list hx
  have hlen := r.length
  refine ⟨"list", _, PySem.slot_list_getitem.lookup, ht.isList.typeIs, ?_⟩
  refine wpAny_getItem_list_slice ht.isList hs .none .none ps (by decide) ?_ (by rw [List.size_toArray]; omega)
  rw [PySem.W.krv_pick]
  refine ⟨.ref _, _, I.laid (t' := s.toks) (o := .lst xs.reverse) (fun b ob q => Heap.get?_push_of_some _ q) (Nat.le_refl _) ?_, rfl, q _ (I.hok.fresh (Nat.le_refl _))⟩
  exact ⟨by rw [List.length_reverse]; exact hz, _, 0, r.reverse, Heap.get?_push_size _ rfl⟩
theorem rv_tup : RvR X (fun x H Q => ∃ a xs, x = .ref a ∧ SqT X.K H a xs ∧ ∀ p, H p = none → Q (.ref p) (upd H p (.tup xs.reverse))) := by
  intro pins s σ H x v vs sl Q I rx hs ps h
  obtain ⟨a, xs, rfl, hx, q⟩ := h
  cases rx
  obtain ⟨its, r, ht, hz⟩ := I.tuple hx
  have hlen := r.length
  refine ⟨"tuple", _, PyProof.Rows.slot_tuple_getitem.lookup, ht.typeIs, ?_⟩
  refine getItem_tuple_rev ht hs ps ?_ (by rw [List.size_toArray]; omega)
  refine ⟨.ref _, _, I.laid (t' := s.toks) (o := .tup xs.reverse) (fun b ob q => Heap.get?_push_of_some _ q) (Nat.le_refl _) ?_, rfl, q _ (I.hok.fresh (Nat.le_refl _))⟩
  exact ⟨by rw [List.length_reverse]; exact hz, _, r.reverse, ⟨_, Heap.get?_push_size _ rfl, rfl, _, rfl⟩⟩
theorem strRev (z : Str) : (Builtin.Str.strSliceIndices none none (-1) z.length).filterMap (z.cps[·]?) = z.cps.toList.reverse := by
  have h1 : ¬ ((-1 : Int) > 0) := by decide
  have e : Builtin.Str.strSliceIndices none none (-1) z.length = sliceRange ((z.length : Int) - 1) (-1) (-1) := by
    unfold Builtin.Str.strSliceIndices
    simp only [h1, if_false]
  rw [e, PySem.W.krv_sliceRange, PySem.W.krv_range, List.filterMap_reverse]
  have := PySem.W.krv_all z.cps
  show (List.filterMap (fun x => z.cps[x]?) (List.range z.cps.size)).reverse = _
  rw [this]
theorem rv_str : RvR X (fun x H Q => ∃ z, x = .str z ∧ z.length ≤ sizeLine ∧ Q (.str ⟨z.cps.toList.reverse.toArray⟩) H) := by
  intro pins s σ H x v vs sl Q I rx hs ps h
  obtain ⟨z, rfl, hz, q⟩ := h
  obtain ⟨t, rfl⟩ := rx
  obtain ⟨os, hos, hcs, hds⟩ := hs
  obtain ⟨u, rfl, hu⟩ := IsPart.raw ps
  refine ⟨"str", _, F.slot_str_getitem.lookup, typeIs_str _ _ _, ?_⟩
  have hu' : u.map (·.1) = some (-1) := by first | exact hu | exact hu.symm
  refine wpAny_getItem_str_slice (l := none) (u := none) (st := u) ⟨os, hos, hcs, hds⟩ (by rw [hu']; rfl) ?_
  unfold sliceMade slicePicked
  rw [hu']
  show Made.post (if ((-1 : Int) == 1 && (Builtin.Str.strSliceIndices none none (-1) z.length).length == z.length) = true then Made.val (.str z t)
    else Made.str ⟨((Builtin.Str.strSliceIndices none none (-1) z.length).filterMap (z.cps[·]?)).toArray⟩) (EP X pins σ Q) s
  rw [if_neg (by rw [show ((-1 : Int) == 1) = false by decide]; exact Bool.false_ne_true), strRev]
  refine ⟨?_, .str _, H, I.tok _, ⟨_, rfl⟩, q⟩
  show (z.cps.toList.reverse.toArray).size ≤ sizeLine
  rw [List.size_toArray, List.length_reverse, Array.length_toList]
  exact hz
def rrv (Γ : Kp) : V → Hp → VK → Prop := fun x H Q => ∃ B w σ G μ P a r, Core Γ B w σ H G μ ∧ SH.p P G μ H ∧ PV Γ μ G H a x ∧ revD a = some r ∧ ∀ v H', RepR Γ B w σ H' P r v → Q v H'
theorem rv_all : RvR X (rrv (kp X)) := by
  intro pins s σ H x v vs sl Q I rx hs ps h
  obtain ⟨B, w, σ', G, μ, P, a, r, c, hp, pa, e, q⟩ := h
  unfold revD at e
  split at e
  · cases e
    obtain ⟨p1, v1, rfl, s1, d1⟩ := pa.list c.gH
    exact rv_lst pins s σ H _ v vs sl Q I rx hs ps ⟨_, _, rfl, .inl (.inl s1), fun p hn => q _ _ (ret_lst c hp d1.rev hn)⟩
  · cases e
    obtain ⟨p1, v1, rfl, s1, g1, d1⟩ := pa.tupl c.gH
    exact rv_tup pins s σ H _ v vs sl Q I rx hs ps ⟨_, _, rfl, s1, fun p hn => q _ _ (ret_tup c hp d1.rev hn)⟩
  · split at e
    · rename_i hl
      cases pa.str; cases e
      exact rv_str pins s σ H _ v vs sl Q I rx hs ps ⟨_, rfl, okLen_le hl, q _ _ (ret_im c hp (.str _))⟩
    · cases e
  · cases e
theorem rd_rev {Wx : Wish} {a : Expr} {fa : M D} {k : Nat} {p1 p2 p3 pos : Pos} (ha : PE X a (rdp (kp X) Wx fa)) : PE X (.Subscript a (.Slice none none (some (.UnaryOp .USub (.Constant (.int 1) k p1) p2)) p3) pos) (rd (kp X) Wx (eRev fa)) := by
  refine PE.imp (pe_revA rv_all ha) fun σ H Q h => ?_
  obtain ⟨B, w, P, rp, h⟩ := h
  refine ⟨B, w, P, rp, (aft_bnd h).mono (fun x w1 h v H1 r1 => ?_) fun _ _ h => h⟩
  obtain ⟨G, μ, c, hp, pv⟩ := r1
  obtain ⟨r, e, h⟩ := aft_opt h
  exact ⟨B, _, σ, G, μ, P, x, r, c, hp, pv, e, h⟩
end
end DL
end
section
set_option Elab.async false
set_option linter.all false
set_option maxRecDepth 100000
set_option maxHeartbeats 1000000
/-! DLl: dicts whose keys are whole numbers: {}, {k: v}, d[k] = v, k in d, for k in d. -/
namespace DL
open PySem PySem.Spec PyProof.Rows L2

/-! ### denotations -/
def kInt : D → Bool
  | .int _ => true
  | _ => false
def keq (a b : D) : Bool := decide (a.nk = b.nk)
def setK (k : D) : List D → List D
  | [] => [k]
  | d :: ds => if keq d k = true then d :: ds else d :: setK k ds
def setV {α : Type} (k : D) (v : α) : List D → List α → List α
  | d :: ds, x :: xs => if keq d k = true then v :: xs else x :: setV k v ds xs
  | _, _ => [v]
def hasK (k : D) (ks : List D) : Bool := ks.any fun d => keq d k
def kOk (k : D) (ks : List D) : Bool := ks.all kInt && kInt k
def eDic0 : M Rv := M.ret (.od [] [])
def eDic1 (k v : M D) : M Rv := M.bnd k fun kd => M.bnd v fun vd => if kInt kd = true then M.ret (.od [kd] [vd]) else M.opt none
/-- x[k] = v, x a dict of one's own -/
def sSetD (i : Nat) (k v : M D) : MS := M.bnd v fun vd => fun w => match w.ρ[i]? with
  | some (.od _ _) => M.bnd k (fun kd => fun w => match w.ρ[i]? with
    | some (.od ks vs) => if kOk kd ks && decide (ks.length < 1000000) then .val .nxt { w with ρ := w.ρ.set i (.od (setK kd ks) (setV kd vd ks vs)) } else .bad
    | _ => .bad) w
  | _ => .bad
def inDic (k d : D) : Option Bool := match d with
  | .dic ks _ => if kOk k ks then some (hasK k ks) else none
  | _ => none
def eInD (neg : Bool) (a b : M D) : M Rv := M.bnd a fun x => M.bnd b fun y => M.opt ((inDic x y).map fun k => .im (.bl (if neg then !k else k)))
def iDic (a : M D) : M (List D) := M.bnd a fun x => M.opt (match x with | .dic ks _ => some ks | _ => none)

/-! ### keys that are whole numbers -/
def setI (k : Int) : List Int → List Int
  | [] => [k]
  | i :: is => if i = k then i :: is else i :: setI k is
theorem keq_int {i j : Int} : keq (.int i) (.int j) = decide (i = j) := by
  unfold keq
  have : ((D.int i).nk = (D.int j).nk) ↔ i = j := ⟨fun h => by simpa [D.nk] using h, fun h => by rw [h]⟩
  exact decide_eq_decide.mpr this
theorem setK_int (k : Int) : ∀ is : List Int, setK (.int k) (is.map .int) = (setI k is).map .int
  | [] => rfl
  | i :: is => by
    rw [List.map_cons, setK, setI, keq_int]
    by_cases h : i = k
    · simp [h]
    · simp [h, setK_int k is]
theorem hasK_int (k : Int) (is : List Int) : hasK (.int k) (is.map .int) = decide (k ∈ is) := by
  induction is with
  | nil => rfl
  | cons i is ih =>
    have : hasK (.int k) ((i :: is).map .int) = (decide (i = k) || hasK (.int k) (is.map .int)) := by
      unfold hasK; rw [List.map_cons, List.any_cons, keq_int]
    rw [this, ih]
    by_cases h : i = k
    · simp [h]
    · have : k ≠ i := fun e => h e.symm
      simp [h, this]
theorem mem_setI {k x : Int} : ∀ {is : List Int}, x ∈ setI k is ↔ x = k ∨ x ∈ is
  | [] => by simp [setI]
  | i :: is => by
    rw [setI]
    split
    · rename_i h; subst h; simp
    · rw [List.mem_cons, mem_setI, List.mem_cons]
      constructor
      · rintro (h | h | h)
        · exact .inr (.inl h)
        · exact .inl h
        · exact .inr (.inr h)
      · rintro (h | h | h)
        · exact .inr (.inl h)
        · exact .inl h
        · exact .inr (.inr h)
theorem setI_nodup {k : Int} : ∀ {is : List Int}, is.Nodup → (setI k is).Nodup
  | [], _ => by simp [setI]
  | i :: is, h => by
    rw [setI]
    rw [List.nodup_cons] at h
    split
    · exact List.nodup_cons.mpr h
    · rename_i hne
      rw [List.nodup_cons, mem_setI]
      exact ⟨fun z => z.elim hne h.1, setI_nodup h.2⟩
theorem setI_length (k : Int) : ∀ is : List Int, (setI k is).length ≤ is.length + 1
  | [] => by simp [setI]
  | i :: is => by
    rw [setI]
    split
    · simp
    · have := setI_length k is
      simp only [List.length_cons]; omega
theorem ints_of : ∀ {ks : List D}, ks.all kInt = true → ∃ is : List Int, ks = is.map .int
  | [], _ => ⟨[], rfl⟩
  | d :: ds, h => by
    rw [List.all_cons, Bool.and_eq_true] at h
    obtain ⟨is, rfl⟩ := ints_of h.2
    cases d with
    | int i => exact ⟨i :: is, rfl⟩
    | _ => cases h.1
theorem DVs.intD {Γ : Kp} {μ : List Addr} {G : Hp} : ∀ {is : List Int} {vs : List V}, DVs Γ μ G (is.map .int) vs → vs = is.map V.int
  | [], _, h => by cases h; rfl
  | i :: is, _, h => by
    cases h with
    | cons a b => cases a; rw [DVs.intD b]; rfl
theorem dvs_int {Γ : Kp} {μ : List Addr} {G : Hp} : ∀ is : List Int, DVs Γ μ G (is.map .int) (is.map V.int)
  | [] => .nil
  | i :: is => .cons (.int i) (dvs_int is)
theorem DVs.setV {Γ : Kp} {μ : List Addr} {G : Hp} (k : D) {d : D} {v : V} (hd : DV Γ μ G d v) : ∀ (ks : List D) {ds : List D} {vs : List V}, DVs Γ μ G ds vs → DVs Γ μ G (DL.setV k d ks ds) (DL.setV k v ks vs)
  | [], _, _, _ => by unfold DL.setV; exact .cons hd .nil
  | x :: ks, _, _, .nil => by unfold DL.setV; exact .cons hd .nil
  | x :: ks, _, _, .cons a b => by
    unfold DL.setV
    split
    · exact .cons hd b
    · exact .cons a (DVs.setV k hd ks b)
section
variable {P : Program} {w : World}
theorem ents_int : ∀ {is : List Int} {vvs : List V} {es : List DictEntry}, Ents w (is.map .int) (is.map V.int) vvs es →
    Pairs (intKind P w) es (is.zip (es.map (·.val))) ∧ (∀ e ∈ es, ∃ k, (intKind P w).is k e.key = true ∧ e.hash = (intKind P w).hash k) ∧ Vals vvs (es.map (·.val)) ∧ is.length = es.length
  | [], _, _, h => by cases h; exact ⟨.nil, fun e z => (nomatch z), .nil, rfl⟩
  | i :: is, _, _, h => by
    rw [List.map_cons, List.map_cons] at h
    cases h with
    | cons h1 h2 h3 h4 =>
      rename_i v e vs es
      obtain ⟨p1, p2, p3, p4⟩ := ents_int h4
      obtain ⟨t, ht⟩ := h1
      have hk : (intKind P w).is i e.key = true := by rw [ht]; exact intKind_is _ _ _ _
      refine ⟨.cons hk rfl p1, fun e z => ?_, .cons h2 p3, by simp [p4]⟩
      rcases List.mem_cons.mp z with rfl | z
      · exact ⟨i, hk, h3⟩
      · exact p2 e z
theorem pairs_ents {kvs : List (Int × Value)} {es : List DictEntry} (p : Pairs (intKind P w) es kvs) : (∀ e ∈ es, ∃ k, (intKind P w).is k e.key = true ∧ e.hash = (intKind P w).hash k) → ∀ {vvs : List V}, Vals vvs (kvs.map (·.2)) →
    Ents w (kvs.map fun kv => D.int kv.1) (kvs.map fun kv => V.int kv.1) vvs es := by
  induction p with
  | nil => intro _ vvs hv; rw [List.map_nil] at hv; cases hv; exact .nil
  | @cons e kv es kvs h1 h2 _ ih =>
    intro hk vvs hv
    rw [List.map_cons] at hv
    cases hv with
    | cons a b =>
      obtain ⟨k, q1, q2⟩ := hk e List.mem_cons_self
      have ek : kv.1 = k := (intKind P w).inj _ _ _ h1 q1
      obtain ⟨t, ht⟩ := Value.isInt_shape (show Value.isInt kv.1 e.key = true from h1)
      refine .cons ⟨t, ht⟩ (by rw [h2]; exact a) (by rw [q2, ← ek]; rfl) (ih (fun e' z => hk e' (List.mem_cons_of_mem _ z)) b)
def stoI (k : Int) (v : Value) : List (Int × Value) → List (Int × Value)
  | [] => [(k, v)]
  | kv :: r => if kv.1 = k then (kv.1, v) :: r else kv :: stoI k v r
theorem stored_sto (k : Int) (v : Value) : ∀ {kvs : List (Int × Value)}, (kvs.map (·.1)).Nodup → stored kvs k v = stoI k v kvs
  | [], _ => rfl
  | kv :: r, h => by
    rw [List.map_cons, List.nodup_cons] at h
    have ih := stored_sto k v h.2
    unfold stored at ih ⊢
    rw [List.any_cons, List.map_cons, stoI]
    by_cases hk : kv.1 = k
    · rw [if_pos hk, if_pos hk]
      simp only [decide_eq_true hk, Bool.true_or, if_true]
      congr 1
      exact map_store_of_not_mem r k v (by rw [← hk]; exact h.1)
    · rw [if_neg hk, if_neg hk]
      simp only [decide_eq_false hk, Bool.false_or]
      by_cases ha : (r.any fun kv => decide (kv.1 = k)) = true
      · rw [if_pos ha] at ih ⊢; rw [ih]
      · rw [if_neg ha] at ih ⊢; rw [List.cons_append, ih]
theorem stoI_keys (k : Int) (v : Value) : ∀ kvs : List (Int × Value), (stoI k v kvs).map (·.1) = setI k (kvs.map (·.1))
  | [] => rfl
  | kv :: r => by
    rw [stoI, List.map_cons, setI]
    split
    · rfl
    · rw [List.map_cons, stoI_keys k v r]
theorem stoI_vals {k : Int} {v : Value} {y : V} (hy : RelV y v) : ∀ {kvs : List (Int × Value)} {vvs : List V}, Vals vvs (kvs.map (·.2)) → Vals (setV (.int k) y ((kvs.map (·.1)).map D.int) vvs) ((stoI k v kvs).map (·.2))
  | [], _, h => by rw [List.map_nil] at h; cases h; exact .cons hy .nil
  | kv :: r, _, h => by
    rw [List.map_cons] at h
    cases h with
    | cons a b =>
      rw [List.map_cons, List.map_cons, setV, stoI, keq_int]
      by_cases hk : kv.1 = k
      · rw [if_pos (by simpa using hk), if_pos hk]; exact .cons hy b
      · rw [if_neg (by simpa using hk), if_neg hk]; exact .cons a (stoI_vals hy b)
theorem zip_keys {is : List Int} {vs : List Value} (h : is.length = vs.length) : (is.zip vs).map (·.1) = is := by
  rw [List.map_fst_zip (by omega)]
theorem zip_vals {is : List Int} {vs : List Value} (h : is.length = vs.length) : (is.zip vs).map (·.2) = vs := by
  rw [List.map_snd_zip (by omega)]
theorem valueAt_some (i : Int) : ∀ kvs : List (Int × Value), (valueAt kvs i).isSome = decide (i ∈ kvs.map (·.1))
  | [] => rfl
  | kv :: r => by
    have ih := valueAt_some i r
    unfold valueAt at ih ⊢
    rw [List.find?_cons, List.map_cons]
    by_cases hk : kv.1 = i
    · simp [hk]
    · have : ¬ i = kv.1 := fun e => hk e.symm
      simp only [decide_eq_false hk, List.mem_cons, this, false_or]
      exact ih
/-- as the library tells it -/
theorem DicObj.kvs {o : Obj} {is : List Int} {vvs : List V} {h : Heap} {a : Addr} (d : DicObj w o (is.map .int) (is.map V.int) vvs) (ho : h.get? a = some o) :
    ∃ kvs : List (Int × Value), h.DictOf (intKind P w) a kvs ∧ kvs.map (·.1) = is ∧ Vals vvs (kvs.map (·.2)) := by
  obtain ⟨es, ep, hd, he⟩ := d.da
  obtain ⟨p1, p2, p3, p4⟩ := ents_int (P := P) he
  have hl : is.length = (es.toList.map (·.val)).length := by rw [List.length_map]; exact p4
  have hn : is.Nodup := by
    have := d.nd
    rw [List.map_map] at this
    exact List.Pairwise.of_map _ (fun a b hab e => hab (by rw [e])) this
  refine ⟨is.zip (es.toList.map (·.val)), ⟨o, es, ep, ho, d.ex, hd, fun e z => p2 e (by simpa using z), p1, by rw [zip_keys hl]; exact hn⟩, zip_keys hl, by rw [zip_vals hl]; exact p3⟩
theorem DicObj.of {h : Heap} {a : Addr} {kvs : List (Int × Value)} {vvs : List V} (d : h.DictOf (intKind P w) a kvs) (hv : Vals vvs (kvs.map (·.2))) :
    ∃ o, h.get? a = some o ∧ DicObj w o ((kvs.map (·.1)).map .int) ((kvs.map (·.1)).map V.int) vvs := by
  obtain ⟨o, es, ep, ho, hx, hd, hk, hp, hn⟩ := d
  refine ⟨o, ho, hx, ⟨es, ep, hd, ?_⟩, ?_⟩
  · have := pairs_ents hp (fun e z => hk e (by simpa using z)) hv
    rw [List.map_map, List.map_map]
    exact this
  · rw [List.map_map]
    exact List.Pairwise.map _ (fun a b hab e => hab (by simpa [D.nk] using e)) hn
end
section
variable {X : Cx} {pins : List (Addr × Obj)} {σ : L2.St} {H : Hp} {s : Shared} {a : Addr} {o : Obj} {is : List Int} {vvs : List V} {k : Int} {A : Around} {E : Value → Shared → Prop}
theorem inv_dico (I : Inv X pins σ H s) (h : H a = some (dicO a o)) : s.heap.get? a = some o := (I.hok a _ h).1
theorem dic_ext {P : Program} {w : World} {H : Hp} {h : Heap} (e : h.get? a = some o) : ObjOk P w H h a (dicO a o) := ⟨e, ⟨_, e⟩, fun _ _ h1 h2 => h2 _ h1⟩
theorem dic_setI {y : V} {u r : Value} {Q : Unit → Shared → Prop} (I : Inv X pins σ H s) (hH : H a = some (dicO a o)) (ob : DicObj X.w o (is.map .int) (is.map V.int) vvs) (hl : is.length < 1000000) (rk : RelV (.int k) u) (rv : RelV y r)
    (h : ∀ o' s', Inv X pins σ (upd H a (dicO a o')) s' → DicObj X.w o' ((setI k is).map .int) ((setI k is).map V.int) (setV (.int k) y (is.map .int) vvs) → Q () s') : wpAny (model X.prog X.w) A (setItem (.ref a) u r) Q E s := by
  obtain ⟨kvs, dd, ek, hv⟩ := ob.kvs (P := X.prog) (inv_dico I hH)
  obtain ⟨t, rfl⟩ := rk
  have hz : kvs.length ≤ sizeLine := by
    have : kvs.length = is.length := by rw [← ek, List.length_map]
    have : 1000000 ≤ sizeLine := by decide
    omega
  have hn : (kvs.map (·.1)).Nodup := by obtain ⟨_, _, _, _, _, _, _, _, hn⟩ := dd; exact hn
  refine wpAny_setItem_pairs (knd := intKind X.prog X.w) (k := k) (hsz := hz) (intKind_is _ _ _ _) dd fun h' dd' hs => ?_
  rw [stored_sto k r hn] at dd'
  obtain ⟨o', ho', ob'⟩ := DicObj.of dd' (stoI_vals (k := k) rv hv)
  rw [stoI_keys, ek] at ob'
  exact h o' _ (I.write (x := a) (e := a) (by rw [hH]; exact True.intro) (.inl rfl) (fun b q hb z => (hs.2 b hb).trans z) ⟨o', ho'⟩ (dic_ext ho')) ob'
end
section
variable {Γ : Kp} {B : Bs} {w : W} {σ : L2.St} {H G : Hp} {μ : List Addr} {p a : Addr} {P : SH} {i : Nat}
theorem ret_od {o : Obj} {ks vs : List D} {vks vvs : List V} (c : Core Γ B w σ H G μ) (hp : P.p G μ H) (hn : H p = none) (hs : (p == sysModules) = false) (ob : DicObj Γ.w o ks vks vvs) (dk : DVs Γ μ G ks vks) (dv : DVs Γ μ G vs vvs) :
    RepR Γ B w σ (upd H p (dicO p o)) P (.od ks vs) (.ref p) := by
  refine ⟨G, μ, c.newOwn hn, P.st (Same.refl _) (Ext.refl _) (.of (Same.upd_new hn)) hp, ⟨p, o, vks, vvs, rfl, upd_same, c.gnone hn, c.h0.none hn, hs, ob, dk, dv⟩, fun _ i a e z => ?_⟩
  cases e
  exact c.own_ne hn z
theorem pv_od {ks vs : List D} (c : Core Γ B w σ H G μ) (e : w.ρ[i]? = some (.od ks vs)) : ∃ a o vks vvs, σ[i]? = some (some (.ref a)) ∧ H a = some (dicO a o) ∧ G a = none ∧ B.H0 a = none ∧ (a == sysModules) = false ∧ DicObj Γ.w o ks vks vvs ∧ DVs Γ μ G ks vks ∧ DVs Γ μ G vs vvs := by
  obtain ⟨v, h1, a, o, vks, vvs, rfl, h2, h3, h4, h5, h6, h7, h8⟩ := c.sl i _ e (fun z => nomatch z)
  exact ⟨a, o, vks, vvs, h1, h2, h3, h4, h5, h6, h7, h8⟩
/-- a dict of one's own changes -/
theorem Core.dset {ks vs ks' vs' : List D} {o o' : Obj} {vks vvs : List V} (c : Core Γ B w σ H G μ) (e : w.ρ[i]? = some (.od ks vs)) (hσ : σ[i]? = some (some (.ref a))) (h : H a = some (dicO a o)) (hg : G a = none) (h0 : B.H0 a = none)
    (hs : (a == sysModules) = false) (ob : DicObj Γ.w o' ks' vks vvs) (dk : DVs Γ μ G ks' vks) (dv : DVs Γ μ G vs' vvs) : Core Γ B { w with ρ := w.ρ.set i (.od ks' vs') } σ (upd H a (dicO a o')) G μ := by
  have hl : i < w.ρ.length := (List.getElem?_eq_some_iff.mp e).1
  refine ⟨c.g0, fun b x q => ?_, c.gi, c.fr, fun b x q => ?_, by simpa using c.len, fun j r q hu => ?_, fun j k b h1 h2 => ?_, c.m0, ⟨c.ob.len, c.ob.nd, fun k r q => ?_⟩⟩
  · rw [upd_ne (ne_of_none q hg)]; exact c.gH _ _ q
  · rw [upd_ne (ne_of_none q h0)]; exact c.h0 _ _ q
  · rcases get_set q with ⟨rfl, rfl⟩ | ⟨hj, q⟩
    · exact ⟨_, hσ, a, o', _, _, rfl, upd_same, hg, h0, hs, ob, dk, dv⟩
    · obtain ⟨v, h1, h2⟩ := c.sl j r q hu
      refine ⟨v, h1, ?_⟩
      cases ho : r.own with
      | false =>
        cases r with
        | im d => exact h2
        | un => exact absurd rfl hu
        | ow _ => cases ho
        | od _ _ => cases ho
      | true =>
        have ne : ∀ a', v = .ref a' → a' ≠ a := fun a' z1 z => by
          subst z1 z
          exact hj (c.sep j i _ ⟨h1, r, q, ho⟩ ⟨hσ, _, e, rfl⟩)
        cases r with
        | im d => cases ho
        | un => cases ho
        | ow zs =>
          obtain ⟨a1, vs1, rfl, q1, q2⟩ := h2
          exact ⟨a1, vs1, rfl, by rw [upd_ne (ne _ rfl)]; exact q1, q2⟩
        | od ks vs =>
          obtain ⟨a1, o, vks, vvs, rfl, q1, q2⟩ := h2
          exact ⟨a1, o, vks, vvs, rfl, by rw [upd_ne (ne _ rfl)]; exact q1, q2⟩
  · have old : ∀ j, Own (w.ρ.set i (.od ks' vs')) σ j b → Own w.ρ σ j b := fun j z => by
      obtain ⟨e1, r1, q1, o1⟩ := z
      rcases get_set q1 with ⟨rfl, rfl⟩ | ⟨_, q1⟩
      · exact ⟨e1, _, e, rfl⟩
      · exact ⟨e1, r1, q1, o1⟩
    exact c.sep j k b (old j h1) (old k h2)
  · obtain ⟨x, dx, fs, q1, q2, q3⟩ := c.ob.at_ k r q
    exact ⟨x, dx, fs, q1, by rw [upd_ne (ne_of q2 h (fun z => nomatch z))]; exact q2, q3⟩
end
theorem PV.dict {Γ : Kp} {μ : List Addr} {G H : Hp} {ks vs : List D} {v : V} (h : PV Γ μ G H (.dic ks vs) v) (g : Same G H) : ∃ a o vks vvs, v = .ref a ∧ H a = some (dicO a o) ∧ (a == sysModules) = false ∧ DicObj Γ.w o ks vks vvs ∧ DVs Γ μ G ks vks ∧ DVs Γ μ G vs vvs := by
  cases h with
  | sh h => cases h with
    | dic h1 h2 h3 h4 h5 => exact ⟨_, _, _, _, rfl, g _ _ h1, h2, h3, h4, h5⟩
  | dic h1 h2 h3 h4 h5 => exact ⟨_, _, _, _, rfl, h1, h2, h3, h4, h5⟩
theorem empty_obj (w : World) : DicObj w { cls := .type "dict", data := .dict #[] } [] [] [] := ⟨⟨rfl, rfl, rfl⟩, ⟨#[], 0, rfl, .nil⟩, List.nodup_nil⟩
theorem not_sys {X : Cx} {pins : List (Addr × Obj)} {σ : L2.St} {H : Hp} {s : Shared} (I : Inv X pins σ H s) : (s.heap.objs.size == sysModules) = false := beq_eq_false_iff_ne.mpr (Ne.symm (Nat.ne_of_lt I.big))
section
variable {X : Cx} {Wx : Wish} {e ek a b tg : Expr} {x : Str} {pos p1 p2 : Pos} {fk fv fa fb : M D}
theorem rd_dic0 : PE X (.Dict [] [] pos) (rd (kp X) Wx eDic0) := ⟨fun pins s σ H Q I h => by
  obtain ⟨B, w, P, ⟨G, μ, c, hp⟩, h⟩ := h
  have hn := I.hok.fresh (Nat.le_refl s.heap.objs.size)
  exact wpAny_Dict_empty ⟨.ref s.heap.objs.size, _, I.laid (a := s.heap.objs.size) (o := dicO s.heap.objs.size { cls := .type "dict", data := .dict #[] }) (t' := s.toks) (fun _ _ q => Heap.get?_push_of_some _ q) (Nat.le_refl _) (dic_ext (Heap.get?_push_size _ rfl)), rfl,
    h _ _ (ret_od c hp hn (not_sys I) (empty_obj _) .nil .nil)⟩⟩
/-- .. without the thing at p -/
def sBut (P : SH) (p : Addr) : SH := ⟨fun G μ H => ∃ H', P.p G μ H' ∧ LeH H' H ∧ H' p = none, fun g m l ⟨H', h1, h2, h3⟩ => ⟨H', P.st g m (LeH.refl _) h1, h2.trans l, h3⟩⟩
theorem sBut.get {P : SH} {p : Addr} {G H : Hp} {μ : List Addr} (h : (sBut P p).p G μ H) : P.p G μ H := let ⟨_, h1, h2, _⟩ := h; P.st (Same.refl _) (Ext.refl _) h2 h1
theorem sBut.upd {P : SH} {p : Addr} {o : HO} {G H : Hp} {μ : List Addr} (h : (sBut P p).p G μ H) : P.p G μ (upd H p o) := by
  obtain ⟨H', h1, h2, h3⟩ := h
  refine P.st (Same.refl _) (Ext.refl _) (fun b x e => ?_) h1
  rw [upd_ne (ne_of_none e h3)]
  exact h2 b x e
theorem Core.doff {Γ : Kp} {B : Bs} {w : W} {σ : L2.St} {H G : Hp} {μ : List Addr} {p : Addr} {o o' : Obj} (c : Core Γ B w σ H G μ) (h : H p = some (dicO p o)) (hg : G p = none) (hn : ∀ i, ¬ Own w.ρ σ i p) (h0 : B.H0 p = none) : Core Γ B w σ (upd H p (dicO p o')) G μ := by
  refine ⟨c.g0, fun b x q => ?_, c.gi, c.fr, fun b x q => ?_, c.len, fun j r q hu => ?_, c.sep, c.m0, ⟨c.ob.len, c.ob.nd, fun k r q => ?_⟩⟩
  · rw [upd_ne (ne_of_none q hg)]; exact c.gH _ _ q
  · rw [upd_ne (ne_of_none q h0)]; exact c.h0 _ _ q
  · obtain ⟨v, h1, h2⟩ := c.sl j r q hu
    refine ⟨v, h1, ?_⟩
    cases ho : r.own with
    | false =>
      cases r with
      | im d => exact h2
      | un => exact absurd rfl hu
      | ow _ => cases ho
      | od _ _ => cases ho
    | true =>
      have ne : ∀ a', v = .ref a' → a' ≠ p := fun a' z1 z => by
        subst z1 z
        exact hn j ⟨h1, r, q, ho⟩
      cases r with
      | im d => cases ho
      | un => cases ho
      | ow zs =>
        obtain ⟨a1, vs1, rfl, q1, q2⟩ := h2
        exact ⟨a1, vs1, rfl, by rw [upd_ne (ne _ rfl)]; exact q1, q2⟩
      | od ks vs =>
        obtain ⟨a1, o, vks, vvs, rfl, q1, q2⟩ := h2
        exact ⟨a1, o, vks, vvs, rfl, by rw [upd_ne (ne _ rfl)]; exact q1, q2⟩
  · obtain ⟨x, dx, fs, q1, q2, q3⟩ := c.ob.at_ k r q
    exact ⟨x, dx, fs, q1, by rw [upd_ne (ne_of q2 h (fun z => nomatch z))]; exact q2, q3⟩
theorem dicO_ni {a : Addr} {o : Obj} : NI (dicO a o) := fun _ _ _ z => nomatch z
theorem rd_dic1 (hk : PE X ek (rdd (kp X) Wx fk)) (hv : PE X e (rdd (kp X) Wx fv)) : PE X (.Dict [some ek] [e] pos) (rd (kp X) Wx (eDic1 fk fv)) := by
  refine ⟨fun pins s σ H Q I h => ?_⟩
  obtain ⟨B, w, P, ⟨G, μ, c, hp⟩, h⟩ := h
  have hn := I.hok.fresh (Nat.le_refl s.heap.objs.size)
  generalize hp0 : s.heap.objs.size = p at *
  have I1 := I.laid (a := p) (o := dicO p { cls := .type "dict", data := .dict #[] }) (h' := s.heap.push { cls := .type "dict", data := .dict #[] }) (t' := s.toks) (fun _ _ q => Heap.get?_push_of_some _ q) (by rw [hp0]; exact Nat.le_refl _) (dic_ext (by rw [← hp0]; exact Heap.get?_push_size _ rfl))
  have h0 : B.H0 p = none := c.h0.none hn
  have g0 : B.G0 p = none := by
    cases q : B.G0 p with
    | none => rfl
    | some x => have := c.gH _ _ (c.g0 _ _ q); rw [hn] at this; cases this
  have c1 := (c.newOwn (o := dicO p { cls := .type "dict", data := .dict #[] }) hn).into upd_same (c.gnone hn) (fun i z => c.own_ne hn z)
  have hp1 : (sBut P p).p G μ (upd H p (dicO p { cls := .type "dict", data := .dict #[] })) := ⟨H, hp, .of (Same.upd_new hn), hn⟩
  have run := (pps_cons hk hv (pps_nil (X := X) (pos := pos))).run pins _ σ _ (fun ps H2 => ∃ x y kd vd w2 G2 μ2, ps = [(x, y)] ∧ Core (kp X) (B.hold p (dicO p { cls := .type "dict", data := .dict #[] })) w2 σ H2 G2 μ2 ∧ (sBut P p).p G2 μ2 H2 ∧ DV (kp X) μ2 G2 kd x ∧ DV (kp X) μ2 G2 vd y ∧
    Aft ((if kInt kd = true then M.ret (.od [kd] [vd]) else M.opt none : M Rv) w2) (fun r w' => ∀ v H', RepR (kp X) B w' σ H' P r v → Q v H') (ExOk (kp X) Wx B σ P)) I1
    ⟨_, w, sBut P p, ⟨G, μ, c1, hp1⟩, (aft_bnd h).mono (fun kd w1 h x H1 r1 => ?_) fun c w' h H' r => ?_⟩
  · refine wpAny_Dict_walk (knd := intKind X.prog X.w) rfl rfl (by simp) (by simp) (thn run fun ws s2 ⟨ps, H2, I2, rel, q2⟩ => ?_)
    obtain ⟨x, y, kd, vd, w2, G2, μ2, rfl, c2, hp2, dk, dv, h⟩ := q2
    obtain ⟨c3, f1, f2, f3⟩ := c2.back h0 g0 dicO_ni
    cases kd with
    | int k =>
      cases dk
      obtain ⟨⟨wk, wv⟩, rfl, ⟨t, q1⟩, rv⟩ : ∃ pr : Value × Value, ws = [pr] ∧ RelV (.int k) pr.1 ∧ RelV y pr.2 := by
        cases rel with
        | cons r1 rel => cases rel; exact ⟨_, rfl, r1⟩
      have q1 : wk = Value.int k t := q1
      subst q1
      refine ⟨[(k, wv)], ⟨intKind_is _ _ _ _, rfl, True.intro⟩, ?_, fun h' dd hs => ?_⟩
      · rw [hp0]
        exact ⟨_, #[], 0, inv_dico I2 f1, ⟨rfl, rfl, rfl⟩, rfl, (fun e z => by simp at z), .nil, List.nodup_nil⟩
      · have em : merged ([] : List (Int × Value)) [(k, wv)] = [(k, wv)] := rfl
        rw [em] at dd
        rw [hp0] at dd hs ⊢
        obtain ⟨o', ho', ob'⟩ := DicObj.of (vvs := [y]) dd (.cons rv .nil)
        refine ⟨.ref p, _, I2.write (x := p) (e := p) (by rw [f1]; exact True.intro) (.inl rfl) (fun b q hb z => (hs.2 b hb).trans z) ⟨o', ho'⟩ (dic_ext ho'), rfl, ?_⟩
        have hsy : (p == sysModules) = false := by rw [← hp0]; exact not_sys I
        have c4 := c3.doff f1 f2 f3 h0 (o' := o')
        exact h _ _ ⟨G2, μ2, c4, sBut.upd hp2, ⟨p, o', _, _, rfl, upd_same, f2, h0, hsy, ob', dvs_int [k], .cons dv .nil⟩, fun _ i a z => by cases z; exact f3 i⟩
    | _ => exact h.elim
  · obtain ⟨G1, μ1, c1, hp1, d1⟩ := r1
    refine ⟨_, w1, (sBut P p).and (sDV _ kd x), ⟨G1, μ1, c1, hp1, d1⟩, (aft_bnd h).mono (fun vd w2 h y H2 r2 => ?_) fun c w' h H' r => ?_⟩
    · obtain ⟨G2, μ2, c2, ⟨hp2, d1⟩, d2⟩ := r2
      exact ⟨x, y, kd, vd, w2, G2, μ2, rfl, c2, hp2, d1, d2, h⟩
    · obtain ⟨G2, μ2, c2, ⟨hp2, _⟩⟩ := r
      exact h H' ⟨G2, μ2, (c2.back h0 g0 dicO_ni).1, sBut.get hp2⟩
  · obtain ⟨G2, μ2, c2, hp2⟩ := r
    exact h H' ⟨G2, μ2, (c2.back h0 g0 dicO_ni).1, sBut.get hp2⟩
/-- d[k] = v -/
theorem rs_setD (i : Nat) (hk : PE X ek (rdd (kp X) Wx fk)) (hv : PE X e (rdd (kp X) Wx fv)) (hN : X.N[i]? = some x := by rfl) (hvis : Vis X.env.scope x := by first | exact Or.inl rfl | exact Or.inr (Or.inl rfl) | exact Or.inr (Or.inr rfl))
    (hs : swapsWith e (some (.Subscript (.Name x p1) ek p2)) pos.line X.env = pure false := by rfl) (hd : (x == ("__debug__" : Str)) = false := by decide) (hcd : (x == ("__classdict__" : Str)) = false := by decide) :
    PS X (.Assign [.Subscript (.Name x p1) ek p2] e pos) (rdS (kp X) Wx (sSetD i fk fv)) := by
  refine ⟨fun pins s σ H D I h => ?_⟩
  obtain ⟨B, w, P, rp, h⟩ := h
  refine wpAny_Assign_Subscript (thn (hv.run pins s σ H (fun v H1 => ∃ vd w1, RepD (kp X) B w1 σ H1 P.sh vd v ∧ Aft ((fun w => match w.ρ[i]? with
    | some (.od _ _) => M.bnd fk (fun kd => fun w => match w.ρ[i]? with
      | some (.od ks vs) => if kOk kd ks && decide (ks.length < 1000000) then .val .nxt { w with ρ := w.ρ.set i (.od (setK kd ks) (setV kd vd ks vs)) } else .bad
      | _ => .bad) w
    | _ => .bad : MS) w1) (EndOk (kp X) B P D) (fun c w' => ∀ σ' H', Rep (kp X) B w' σ' H' P.sh → Wx c σ' H')) I ⟨B, w, P.sh, rp, (aft_bnd h).mono (fun vd w1 h v H1 r1 => ⟨vd, w1, r1, h⟩) fun c w2 h H' r => h σ H' r⟩) fun r s1 ⟨v, H1, I1, rv, vd, w1, ⟨G, μ, c, hp, dv⟩, h⟩ => ?_) hs
  dsimp only at h
  cases q : w1.ρ[i]? with
  | none => rw [q] at h; exact h.elim
  | some rr =>
    rw [q] at h
    cases rr with
    | od ks vs =>
      obtain ⟨a, o, vks, vvs, e1, e2, e3, e4, e5, e6, e7, e8⟩ := pv_od c q
      refine thn ((pe_var (i := i) hN hvis hd hcd).run pins s1 σ H1 (fun x H2 => x = .ref a ∧ H2 = H1) I1 ⟨_, e1, rfl, rfl⟩) fun u s2 ⟨x, H2, I2, rx, ex, eH⟩ => ?_
      subst ex eH
      obtain rfl : u = Value.ref a := rx
      refine thn (hk.run pins s2 σ H2 (fun kv H3 => ∃ kd w2 G μ, Core (kp X) B w2 σ H3 G μ ∧ P.p G μ ∧ DV (kp X) μ G vd v ∧ DV (kp X) μ G kd kv ∧ Aft ((fun w => match w.ρ[i]? with
        | some (.od ks vs) => if kOk kd ks && decide (ks.length < 1000000) then .val .nxt { w with ρ := w.ρ.set i (.od (setK kd ks) (setV kd vd ks vs)) } else .bad
        | _ => .bad : MS) w2) (EndOk (kp X) B P D) (fun c w' => ∀ σ' H', Rep (kp X) B w' σ' H' P.sh → Wx c σ' H')) I2
        ⟨B, w1, P.sh.and (sDV _ vd v), ⟨G, μ, c, hp, dv⟩, (aft_bnd h).mono (fun kd w2 h kv H3 r3 => ?_) fun c w2 h H' r => h σ H' r.left⟩) fun iv s3 ⟨y, H3, I3, ry, kd, w2, G, μ, c, hp, dv, dk, h⟩ => ?_
      · obtain ⟨G, μ, c, ⟨hp, dv⟩, dk⟩ := r3
        exact ⟨kd, w2, G, μ, c, hp, dv, dk, h⟩
      dsimp only at h
      cases q2 : w2.ρ[i]? with
      | none => rw [q2] at h; exact h.elim
      | some rr =>
        rw [q2] at h
        cases rr with
        | od ks vs =>
          obtain ⟨a', o, vks, vvs, f1, f2, f3, f4, f5, f6, f7, f8⟩ := pv_od c q2
          rw [e1] at f1; cases f1
          dsimp only at h
          by_cases hok : (kOk kd ks && decide (ks.length < 1000000)) = true
          · rw [if_pos hok] at h
            rw [Bool.and_eq_true, decide_eq_true_eq] at hok
            obtain ⟨ok1, ok2⟩ := hok
            unfold kOk at ok1
            rw [Bool.and_eq_true] at ok1
            obtain ⟨is, rfl⟩ := ints_of ok1.1
            cases kd with
            | int k =>
              cases dk
              obtain rfl := f7.intD
              refine dic_setI I3 f2 f6 (by simpa using ok2) ry rv fun o' s4 I4 ob => ?_
              refine ⟨σ, _, I4, h σ _ ⟨G, μ, ?_, hp⟩⟩
              have cc := c.dset q2 e1 f2 f3 f4 f5 ob (dvs_int _) (DVs.setV (.int k) dv (is.map .int) f8)
              rw [setK_int]
              exact cc
            | _ => cases ok1.2
          · rw [if_neg hok] at h; exact h.elim
        | _ => exact h.elim
    | _ => exact h.elim
theorem or_ind (neg : Bool) : OpR X (compareOp (if neg then .NotIn else .In)) (rop (kp X) fun x y => (inDic x y).map fun k => .im (.bl (if neg then !k else k))) := by
  intro pins s σ H x y v u Q I rx ry h
  obtain ⟨B, w, σ', G, μ, P, a, b, r, c, hp, pa, pb, e, q⟩ := h
  obtain ⟨k, e0, rfl⟩ := Option.map_eq_some_iff.mp e
  clear e
  unfold inDic at e0
  split at e0
  · rename_i ks vs
    split at e0
    · rename_i ok
      unfold kOk at ok
      rw [Bool.and_eq_true] at ok
      obtain ⟨is, rfl⟩ := ints_of ok.1
      cases a with
      | int i =>
        cases e0
        cases pa.int
        obtain ⟨d, o, vks, vvs, rfl, h1, h2, h3, h4, h5⟩ := pb.dict c.gH
        obtain rfl := h4.intD
        obtain ⟨kvs, dd, ek, hv⟩ := h3.kvs (P := X.prog) (inv_dico I h1)
        obtain ⟨t, rfl⟩ := rx
        obtain rfl : u = Value.ref d := ry
        have hm : (valueAt kvs i).isSome = hasK (.int i) (is.map .int) := by rw [hasK_int, ← ek, valueAt_some]
        cases neg with
        | false =>
          refine wpAny_in_of (knd := intKind X.prog X.w) (k := i) (intKind_is _ _ _ _) h2 dd.mapOf ?_
          rw [hm]
          exact ⟨.bl _, H, I.tok _, rfl, q _ _ (ret_im c hp (.bl _))⟩
        | true =>
          refine wpAny_notIn_of (knd := intKind X.prog X.w) (k := i) (intKind_is _ _ _ _) h2 dd.mapOf ?_
          rw [hm]
          exact ⟨.bl _, H, I.tok _, rfl, q _ _ (ret_im c hp (.bl _))⟩
      | _ => cases ok.2
    · cases e0
  · cases e0
theorem ind_rd {op : CmpOp} (neg : Bool) (ho : OpR X (compareOp op) (rop (kp X) fun x y => (inDic x y).map fun k => .im (.bl (if neg then !k else k)))) (ha : PE X a (rdp (kp X) Wx fa)) (hb : PE X b (rdp (kp X) Wx fb)) (hm : behindInMarks op b = false) : PE X (.Compare a [op] [b] pos) (rd (kp X) Wx (eInD neg fa fb)) := by
  refine PE.imp (pe_cmpR ho ha hb hm) fun σ H Q h => ?_
  obtain ⟨B, w, P, rp, h⟩ := h
  refine ⟨B, w, P, rp, (aft_bnd h).mono (fun x w1 h v H1 r1 => ?_) fun _ _ h => h⟩
  obtain ⟨G, μ, c, hp, pv⟩ := r1
  refine ⟨B, w1, P.and (sPV _ x v), ⟨G, μ, c, hp, pv⟩, (aft_bnd h).mono (fun y w2 h u H2 r2 => ?_) fun c' w' h H' rp' => h H' rp'.left⟩
  obtain ⟨G, μ, c, ⟨hp, pv⟩, pu⟩ := r2
  obtain ⟨r, e, h⟩ := aft_opt h
  exact ⟨B, w2, σ, G, μ, P, x, y, r, c, hp, pv, pu, e, h⟩
theorem rd_ind (ha : PE X a (rdp (kp X) Wx fa)) (hb : PE X b (rdp (kp X) Wx fb)) (hm : behindInMarks .In b = false) : PE X (.Compare a [.In] [b] pos) (rd (kp X) Wx (eInD false fa fb)) := ind_rd false (or_ind false) ha hb hm
theorem rd_nind (ha : PE X a (rdp (kp X) Wx fa)) (hb : PE X b (rdp (kp X) Wx fb)) (hm : behindInMarks .NotIn b = false) : PE X (.Compare a [.NotIn] [b] pos) (rd (kp X) Wx (eInD true fa fb)) := ind_rd true (or_ind true) ha hb hm
end

/-! ### walks -/
def Itq (d : Addr) (o : Obj) (vks : List V) : It :=
  ⟨fun i H => H d = some (dicO d o) ∧ i < vks.length, fun i H x H' => H' = H ∧ vks[i]? = some x, fun i H => H d = some (dicO d o) ∧ vks.length ≤ i⟩
theorem Ents.get {w : World} : ∀ {ds : List D} {ks vs : List V} {es : List DictEntry} {i : Nat} {k : V}, Ents w ds ks vs es → ks[i]? = some k → ∃ e, es[i]? = some e ∧ RelV k e.key
  | _, _, _, _, _, _, .nil, h => by simp at h
  | _, _, _, _, 0, _, .cons a _ _ _, h => by simp at h; subst h; exact ⟨_, rfl, a⟩
  | _, _, _, _, i + 1, _, .cons _ _ _ t, h => by
    obtain ⟨e, h1, h2⟩ := Ents.get (i := i) t (by simpa using h)
    exact ⟨e, by simpa using h1, h2⟩
theorem Ents.len {w : World} : ∀ {ds : List D} {ks vs : List V} {es : List DictEntry}, Ents w ds ks vs es → es.length = ks.length
  | _, _, _, _, .nil => rfl
  | _, _, _, _, .cons _ _ _ t => by rw [List.length_cons, List.length_cons, Ents.len t]
section
variable {P : Program} {w : World} {K : PySem.W.Frag} {tg : Expr} {d : Addr} {o : Obj} {es : Array DictEntry} {ep : Nat}
theorem turn_dk {ds : List D} {vks vvs : List V} (it : Addr) (hod : o.data = .dict es ep) (he : Ents w ds vks vvs es.toList) : Turn P w K tg (Itq d o vks) [it] it (fun i h => h.IsKeyIter it d i vks.length ep) where
  mem := by simp
  obj := fun i h st b hb => by
    have e : b = it := by simpa using hb
    subst e
    obtain ⟨oi, e, c, dd⟩ := st
    exact ⟨oi, e, fun v z => by rw [dd] at z; cases z⟩
  keep := fun i h h' st k => st.at fun oi e => k it (by simp) oi e
  item := by
    intro X hP hw hK hc i pins s σ H E I hf st hg
    subst hP hw hK
    obtain ⟨hd, hi⟩ := hg
    obtain ⟨f0, f1, f2, f3, f4, f5⟩ := hf it (by simp)
    have hsz : es.size = vks.length := by rw [← he.len, Array.length_toList]
    obtain ⟨en, hen, rk⟩ := he.get (List.getElem?_eq_getElem hi)
    refine next_key_item st (inv_dico I hd) hod hsz (by simpa using hen) fun h' st' sb => ?_
    have I1 : Inv X pins σ H { s with heap := h' } := I.turned (t' := s.toks) (fun b ob hb e => (sb.2 b hb).trans e) f0 f1 f3 f4 f5
    obtain ⟨oi, e, c, dd⟩ := id st'
    exact ⟨en.key, rfl, go_of (s := { s with heap := h' }) e c dd (by decide) ⟨vks[i], H, I1, rk, ⟨rfl, List.getElem?_eq_getElem hi⟩, st', fun b hb => (hf b hb).1⟩⟩
  done := by
    intro X hP hw hK hc i pins s σ H E I hf st hg
    subst hP hw hK
    obtain ⟨hd, hi⟩ := hg
    obtain ⟨f0, f1, f2, f3, f4, f5⟩ := hf it (by simp)
    have hsz : es.size = vks.length := by rw [← he.len, Array.length_toList]
    exact next_key_end (I.ok.hd hc) st (inv_dico I hd) hod hsz hi fun h' eb => ⟨rfl, I.turned (t' := s.toks) (fun b ob hb e => eb b ob hb e) f0 f1 f3 f4 f5⟩
  self := fun A i s Q E st h => by
    refine wpAny_pyIter_slot st.typeIs F.slot_dict_keyiterator_iter (wpAny_call_entry F.slot_dict_keyiterator_iter st.typeIs F.entry_dict_keyiterator_iter ?_ (F.args_dict_keyiterator_iter_1 _))
    show wpAny _ _ (ret (.ref it)) _ _ s
    exact wpAny_pure ⟨_, rfl, "dict_keyiterator", _, st.typeIs, F.slot_dict_keyiterator_next.lookup, h⟩
end
theorem walk_dk {d : Addr} {o : Obj} {vks : List V} : Walk (Itq d o vks) vks.length (fun H => H d = some (dicO d o)) (YAt vks) :=
  ⟨fun _ _ hi q => ⟨q, hi⟩, fun _ q => ⟨q, Nat.le_refl _⟩, fun _ _ _ _ _ _ y => y⟩
section
variable {X : Cx} {Wx : Wish} {e tg : Expr} {fa : M D}
def iDk (Γ : Kp) (td : TE) : TI := fun σ H R => td σ H fun x H1 => ∃ d o ks vks vvs, x = .ref d ∧ H1 d = some (dicO d o) ∧ (d == sysModules) = false ∧ DicObj Γ.w o ks vks vvs ∧ R (Itq d o vks) H1
theorem pi_dk {td : TE} (he : PE X e td) : PI X tg e (iDk (kp X) td) := by
  refine ⟨fun pins s σ H R I h => ?_⟩
  refine thn (he.run pins s σ H _ I h) fun u s1 ⟨x, H1, I1, rx, d, o, ks, vks, vvs, ex, h1, h2, h3, q⟩ => ?_
  subst ex
  obtain rfl : u = Value.ref d := rx
  obtain ⟨es, ep, hdt, hen⟩ := h3.da
  have hsz : es.size = vks.length := by rw [← hen.len, Array.length_toList]
  refine iter_keys h2 (inv_dico I1 h1) h3.ex hdt (pi_one (tk := s1.toks) I1 _ (turn_dk _ hdt hen) ⟨_, Heap.get?_push_size _ rfl, rfl, ?_⟩ q)
  rw [hsz] <;> rfl
def sDk (Γ : Kp) (d : Addr) (o : Obj) (ks : List D) (vks : List V) : SG := ⟨fun G μ => G d = some (dicO d o) ∧ DVs Γ μ G ks vks, fun g m h => ⟨g _ _ h.1, h.2.mono g m⟩⟩
theorem ri_dic (h : PE X e (rdd (kp X) Wx fa)) : PI X tg e (rdi (kp X) Wx (iDic fa)) := by
  refine PI.imp (pi_dk h) fun σ H R h => ?_
  obtain ⟨B, w, P, rp, h⟩ := h
  refine ⟨B, w, P, rp, (aft_bnd h).mono (fun d w1 h v H1 r1 => ?_) fun _ _ h => h⟩
  obtain ⟨G, μ, c, hp, dv⟩ := r1
  obtain ⟨items, e1, h2⟩ := aft_opt h
  cases d with
  | dic ks vs =>
    cases e1
    cases dv with
    | @dic a o _ _ vks vvs q1 q2 q3 q4 q5 =>
      refine ⟨a, o, _, vks, vvs, rfl, c.gH _ _ q1, q2, q3, h2 (sDk _ _ _ _ _) _ _ ⟨G, μ, c, hp, q1, q4⟩ ?_⟩
      refine ⟨vks.length, _, _, q4.length.symm, walk_dk, fun G μ H g s => g _ _ s.1, fun i H x H' G μ hi g s y => ?_⟩
      obtain ⟨d, h1, h2⟩ := s.2.getV y.2
      exact ⟨d, h1, .inl ⟨y.1, h2⟩⟩
  | _ => cases e1
end
end DL
end
section
set_option Elab.async false
set_option linter.all false
set_option maxRecDepth 100000
set_option maxHeartbeats 3200000
/-! DLm: set(xs) of whole numbers, sorted(set(xs)), list(range(i, j)). -/
namespace DL
open PySem PySem.Spec PyProof.Rows L2

/-! ### set(xs) -/
abbrev fso (w : World) : Obj := { cls := .type "set", dict := none, data := .set #[] 0 (.fresh 0 0 (!w.params.followText "set-order")) }
section
variable {P : Program} {w : World} {A : Around} {E : Value → Shared → Prop} {s : Shared}
/-- what set(xs) leaves -/
def SetMade (w : World) (s : Shared) (ns : List Int) (h' : Heap) (c : Nat) : Prop :=
  SetR w h' s.heap.objs.size (fun j => decide (j ∈ ns)) c ∧ c ≤ ns.length ∧ ∀ b o, s.heap.get? b = some o → h'.get? b = some o
theorem call_set_listI {l : Addr} {items : Array Value} (ns : List Int) {Q : Value → Shared → Prop} (hh : A.handled = none) (hl : s.heap.IsList l items) (hit : IntsAre items.toList ns) (hb : ns.length + 1 < scanBound)
    (h : ∀ (h' : Heap) (tk c : Nat), SetMade w s ns h' c → Q (.ref s.heap.objs.size) { s with heap := h', toks := tk }) : wpAny (model P w) A (call (.type "set") [.ref l]) Q E s := by
  have hisz : items.size = ns.length := by
    have q := IntsAre.length hit
    simpa using q
  obtain ⟨c, tl, hmro⟩ := F.called_set.mro
  have hmade := F.called_set.made
  have hsub := F.called_set.sub
  refine wpAny_call (codeAny_of_tree ?_)
  show wpAny _ _ (callAny (.type "set") _) _ _ _
  refine wpAny_pure ⟨Code.quiet_builtin _ (by decide +kernel), codeAny_builtin F.entry_type_call ?_⟩
  rw [Around.under_plain (weight_type_call_type "set" [.ref l] []) rfl]
  have h1 := F.called_set.notType
  have h2 := F.called_set.canCreate
  have hct := F.typeCall_set_1 (.ref l)
  repeat (any_goals (first | assumption | wp_step))
  refine codeAny_mono (code_set_led1 (w := w) (.ref l) (E := E) (Q₁ := fun u t => u = .ref s.heap.objs.size ∧ t = { s with heap := s.heap.push (fso w) }) ⟨rfl, rfl⟩) fun r t hr => ?_
  cases r with
  | error e => exact hr
  | ok fl => cases fl with
    | ret u =>
      obtain ⟨rfl, rfl⟩ := hr
      have hS : (s.heap.push (fso w)).get? s.heap.objs.size = some (fso w) := Heap.get?_push_size _ rfl
      have hT : Shared.TypeIs { s with heap := s.heap.push (fso w) } (.ref s.heap.objs.size) "set" := ⟨_, hS, rfl⟩
      have hli := F.called_set.init.lookup
      have hbi := F.called_set.init.bind (.ref s.heap.objs.size)
      repeat (any_goals (first | assumption | wp_step))
      refine codeAny_mono (codeAny_call_builtin (R := wants (fun r t => r = .none ∧ ∃ h' tk c, t = { s with heap := h', toks := tk } ∧ SetMade w s ns h' c) E) F.called_set.init.plain F.entry_set_init (check_set_init_1 hT ?_)) fun r₂ t₂ hr₂ => ?_
      · obtain ⟨⟨ocls, odict, odata, oslots⟩, hol, hcl, nl, hdl⟩ := hl
        simp only at hcl hdl
        subst hcl hdl
        have hol' := Heap.get?_push_of_some (fso w) hol
        have hsls := F.sub_list_set
        have hslf := F.sub_list_frozenset
        have hne : (Value.type "list" == Value.type "dict") = false := by decide
        have hl1 : (s.heap.push (fso w)).IsList l items := ⟨_, hol', rfl, nl, rfl⟩
        unfold Builtin.«set.__init__» noKeywords Builtin.Frozenset.updateFrom
        generalize hPI : pyIter = PI
        wp_walk
        subst hPI
        refine wpAny_pyIter_list hl1 ?_
        refine wpAny_bind (wpAny_runValue ?_)
        have hlS : l < s.heap.objs.size := Heap.lt_size hol
        have hh3 : A.in1.in1.in1.handled = none := by simp [hh]
        have hz1 : (s.heap.push (fso w)).objs.size = s.heap.objs.size + 1 := Heap.size_push ..
        have hneI : l ≠ (s.heap.push (fso w)).objs.size := by rw [hz1]; exact Nat.ne_of_lt (Nat.lt_succ_of_lt hlS)
        have hSf : s.heap.objs.size ∉ [(s.heap.push (fso w)).objs.size, l] := by
          intro z
          rcases List.mem_cons.mp z with e | e
          · rw [hz1] at e; exact absurd e (Nat.ne_of_lt (Nat.lt_succ_self _))
          · exact absurd (List.mem_singleton.mp e) (Nat.ne_of_gt hlS)
        have hval : ∀ (i : Nat) (v : Value), items[i]? = some v → ∃ k t, ns[i]? = some k ∧ v = .int k t := fun i v hv => by
          have hi : i < ns.length := hisz ▸ (Array.getElem?_eq_some_iff.mp hv).1
          obtain ⟨t, e⟩ := PyProof.Rows.IntsAre.int_at hit i v ((Array.getElem?_toList).trans hv)
          exact ⟨ns[i], t, List.getElem?_eq_getElem hi, by rw [e, List.getD_eq_getElem?_getD, List.getElem?_eq_getElem hi] <;> rfl⟩
        refine set_update_ints (w := w) (P := P) (Walks.list hh3 _ l hneI items).toS s.heap.objs.size hSf ns hisz hb hval (items.size - 0) 0 _ (by omega) (Nat.zero_le _) ⟨⟨_, Heap.get?_push_size _ rfl, rfl, rfl⟩, hl1.push _⟩ ?hS0 ?hR
        case hS0 => exact ⟨0, Nat.le_refl 0, setR_new_at (Heap.get?_push_of_some _ hS)⟩
        case hR =>
          intro s' c' hm hc' hS'
          obtain ⟨h', g2, d', tk', os'⟩ := s'
          cases (show g2 = s.gens from hm.gens); cases (show d' = s.drawn from hm.drawn); cases (show os' = s.os from hm.os)
          show wpAny _ _ _ _ _ _
          refine wpAny_pure ?_
          show wpAny _ _ (ret Value.none) _ _ _
          refine wpAny_pure ⟨rfl, h', tk', c', rfl, hS', hisz ▸ hc', fun b o e => ?_⟩
          have hb0 : b < s.heap.objs.size := Heap.lt_size e
          refine hm.heap b o (fun z => ?_) (Heap.get?_push_of_some _ (Heap.get?_push_of_some _ e))
          rcases List.mem_cons.mp z with e | e
          · exact absurd e (Nat.ne_of_lt hb0)
          · have e := List.mem_singleton.mp e
            rw [hz1] at e; exact absurd e (Nat.ne_of_lt (Nat.lt_succ_of_lt hb0))
      · cases r₂ with
        | error e => exact hr₂
        | ok fl₂ => cases fl₂ with
          | ret r =>
            obtain ⟨rfl, h', tk, c, rfl, hm⟩ := hr₂
            repeat (any_goals (first | assumption | wp_step))
            exact h _ _ _ hm
          | _ => exact hr₂.elim
    | _ => exact hr.elim
end
end DL
end
section
set_option Elab.async false
set_option linter.all false
set_option maxRecDepth 100000
set_option maxHeartbeats 1000000
/-! DLn: sorted(set(xs)), list(range(i, j)). -/
namespace DL
open PySem PySem.Spec PyProof.Rows L2

def insU (x : Int) : List Int → List Int
  | [] => [x]
  | y :: l => if x < y then x :: y :: l else if x = y then y :: l else y :: insU x l
/-- the members, each once, ascending -/
def sortU : List Int → List Int
  | [] => []
  | x :: l => insU x (sortU l)
theorem mem_insU {x z : Int} : ∀ {l : List Int}, z ∈ insU x l ↔ z = x ∨ z ∈ l
  | [] => by simp [insU]
  | y :: l => by
    rw [insU]
    split
    · simp
    · split
      · rename_i h; subst h; simp
      · rw [List.mem_cons, mem_insU, List.mem_cons]
        constructor
        · rintro (h | h | h)
          · exact .inr (.inl h)
          · exact .inl h
          · exact .inr (.inr h)
        · rintro (h | h | h)
          · exact .inr (.inl h)
          · exact .inl h
          · exact .inr (.inr h)
theorem mem_sortU {z : Int} : ∀ {l : List Int}, z ∈ sortU l ↔ z ∈ l
  | [] => by simp [sortU]
  | x :: l => by rw [sortU, mem_insU, mem_sortU, List.mem_cons]
theorem insU_lt {x : Int} : ∀ {l : List Int}, l.Pairwise (· < ·) → (insU x l).Pairwise (· < ·)
  | [], _ => by simp [insU]
  | y :: l, h => by
    rw [List.pairwise_cons] at h
    rw [insU]
    split
    · rename_i hx
      refine List.pairwise_cons.mpr ⟨fun z hz => ?_, List.pairwise_cons.mpr h⟩
      rcases List.mem_cons.mp hz with rfl | hz
      · exact hx
      · exact Int.lt_trans hx (h.1 z hz)
    · split
      · exact List.pairwise_cons.mpr h
      · rename_i h1 h2
        refine List.pairwise_cons.mpr ⟨fun z hz => ?_, insU_lt h.2⟩
        rcases mem_insU.mp hz with rfl | hz
        · omega
        · exact h.1 z hz
theorem sortU_lt : ∀ l : List Int, (sortU l).Pairwise (· < ·)
  | [] => .nil
  | x :: l => insU_lt (sortU_lt l)
theorem lt_unique : ∀ {l m : List Int}, l.Pairwise (· < ·) → m.Pairwise (· < ·) → (∀ z, z ∈ l ↔ z ∈ m) → l = m
  | [], [], _, _, _ => rfl
  | [], y :: m, _, _, h => by have := (h y).mpr List.mem_cons_self; cases this
  | x :: l, [], _, _, h => by have := (h x).mp List.mem_cons_self; cases this
  | x :: l, y :: m, h1, h2, h => by
    rw [List.pairwise_cons] at h1 h2
    have e : x = y := by
      rcases List.mem_cons.mp ((h x).mp List.mem_cons_self) with e | e
      · exact e
      · rcases List.mem_cons.mp ((h y).mpr List.mem_cons_self) with e2 | e2
        · exact e2.symm
        · have := h1.1 _ e2; have := h2.1 _ e; omega
    subst e
    congr 1
    refine lt_unique h1.2 h2.2 fun z => ⟨fun hz => ?_, fun hz => ?_⟩
    · rcases List.mem_cons.mp ((h z).mp (List.mem_cons_of_mem _ hz)) with e | e
      · have := h1.1 z hz; omega
      · exact e
    · rcases List.mem_cons.mp ((h z).mpr (List.mem_cons_of_mem _ hz)) with e | e
      · have := h2.1 z hz; omega
      · exact e
def sortSet (x : D) : Option Rv := match x with
  | .lst xs => (intsD xs).bind fun ns => if decide (ns.length < 4000) && decide ((sortU ns).length < 64) then some (.ow ((sortU ns).map .int)) else none
  | _ => none
def eSortSet (a : M D) : M Rv := M.bnd a fun x => M.opt (sortSet x)
def lrgD (x y : D) : Option Rv := match x, y with
  | .int i, .int j => if okR i && okR j && decide ((j - i).toNat ≤ 2 ^ 24) then some (.ow (rangeD i j)) else none
  | _, _ => none
theorem lrgD_int (i j : Int) : lrgD (.int i) (.int j) = if okR i && okR j && decide ((j - i).toNat ≤ 2 ^ 24) then some (.ow (rangeD i j)) else none := rfl
def eLRg (a b : M D) : M Rv := M.bnd a fun x => M.bnd b fun y => M.opt (lrgD x y)
section
variable {X : Cx} {Wx : Wish} {e a b : Expr} {p p2 pos pos2 : Pos} {fa fb : M D}
def rSetI (K : PySem.W.Frag) (w : World) : List V → Hp → VK → Prop := fun vs H Q => ∃ (l : Addr) (ns : List Int), vs = [.ref l] ∧ SqL K H l (ns.map V.int) ∧ ns.length < 4000 ∧ ∀ (p : Addr), H p = none → Q (.ref p) (upd H p (SetO w p (fun j => decide (j ∈ ns)) (sortU ns).length))
theorem nodup_len : ∀ {l m : List Int}, l.Nodup → m.Nodup → (∀ z, z ∈ l ↔ z ∈ m) → l.length = m.length := fun h1 h2 h => ((List.perm_ext_iff_of_nodup h1 h2).mpr h).length_eq
theorem cr_setI (hc : X.calm = true) : CallR X (.type "set") (rSetI X.K X.w) := by
  intro pins s σ H vs us Q I r h
  obtain ⟨l, ns, rfl, hl, h4, q⟩ := h
  rw [Vals.ref1 r]
  obtain ⟨its, rv, pl, hz⟩ := I.list hl
  refine call_set_listI (w := X.w) ns (I.ok.hd hc) pl.isList (ints_of_vals rv) (by unfold scanBound; omega) fun h' tk c m => ?_
  obtain ⟨R, hcn, k⟩ := m
  have ec : c = (sortU ns).length := by
    obtain ⟨o, es, ep, t, _, _, _, _, nd, hm, _, _, hn, _⟩ := R
    have : (es.toList.map keyOf).length = (sortU ns).length := nodup_len nd ((sortU_lt ns).imp fun h => Int.ne_of_lt h) fun z => by
      rw [← hm z, mem_sortU, decide_eq_true_eq]
    rw [← this, List.length_map, ← hn, Array.length_toList]
  subst ec
  exact ⟨.ref s.heap.objs.size, _, I.laid (t' := tk) k (Nat.le_refl _) (setO_new R), rfl, q _ (I.hok.fresh (Nat.le_refl _))⟩
theorem rd_sortSet (hc : X.calm = true) (hg : Gl X "sorted") (hm : X.mg "sorted" = none) (hg2 : Gl X "set") (hm2 : X.mg "set" = none) (hv : bootBuiltins "sorted" = some (.builtin "sorted")) (hv2 : bootBuiltins "set" = some (.type "set")) (ha : PE X a (rdp (kp X) Wx fa))
    (hs : starEach [a] X.env = (false, eval a X.env) :: starEach [] X.env := by rfl)
    (hs2 : starEach [.Call (.Name "set" p2) [a] [] pos2] X.env = (false, eval (.Call (.Name "set" p2) [a] [] pos2) X.env) :: starEach [] X.env := by rfl) :
    PE X (.Call (.Name "sorted" p) [.Call (.Name "set" p2) [a] [] pos2] [] pos) (rd (kp X) Wx (eSortSet fa)) := by
  refine PE.imp (pe_callB (cr_sortedSet hc) hg hm hv (pa_cons (pe_callTy (cr_setI hc) hg2 hm2 hv2 (pa_cons ha pa_nil hs) (he := hs) (hpl := rfl)) pa_nil hs2) (he := hs2) (hpl := rfl)) fun σ H Q h => ?_
  obtain ⟨B, w, P, rp, h⟩ := h
  refine ⟨B, w, P, rp, (aft_bnd h).mono (fun x w1 h v H1 r1 => ?_) fun _ _ h => h⟩
  obtain ⟨G, μ, c, hp, pv⟩ := r1
  obtain ⟨r, e, h⟩ := aft_opt h
  unfold sortSet at e
  split at e
  · rename_i xs
    obtain ⟨ns, e1, e2⟩ := Option.bind_eq_some_iff.mp e
    split at e2
    · rename_i ok
      cases e2
      rw [Bool.and_eq_true, decide_eq_true_eq, decide_eq_true_eq] at ok
      obtain ⟨l, vs, rfl, s1, d1⟩ := pv.list c.gH
      obtain rfl := d1.ints e1
      refine ⟨l, ns, rfl, .inl (.inl s1), ok.1, fun p hn => ?_⟩
      refine ⟨p, _, _, rfl, upd_same, ok.2, fun ms p2 h1 h2 h3 h4 => ?_⟩
      have em : ms = sortU ns := lt_unique h1 (sortU_lt ns) fun z => by rw [h2, mem_sortU, decide_eq_true_eq]
      subst em
      exact h _ _ (ret_lst (c.newOwn hn) (P.st (Same.refl _) (Ext.refl _) (.of (Same.upd_new hn)) hp) (dvs_int _) h4)
    · cases e2
  · cases e
theorem rgV_rangeD {Γ : Kp} {μ : List Addr} {G : Hp} (i j : Int) : DVs Γ μ G (rangeD i j) (rgV i j) := by
  unfold rangeD rgV
  have : ∀ l : List Nat, DVs Γ μ G (l.map fun (k : Nat) => D.int (i + (k : Int))) (l.map fun (k : Nat) => V.int (i + (k : Nat))) := fun l => by
    induction l with
    | nil => exact .nil
    | cons k l ih => exact .cons (.int _) ih
  exact this _
theorem rd_lrg {q1 q2 : Pos} (hc : X.calm = true) (hg : Gl X "list") (hm : X.mg "list" = none) (hg2 : Gl X "range") (hm2 : X.mg "range" = none) (ha : PE X a (rdp (kp X) Wx fa)) (hb : PE X b (rdp (kp X) Wx fb))
    (na : starEach [a, b] X.env = (false, eval a X.env) :: starEach [b] X.env := by rfl) (nb : starEach [b] X.env = (false, eval b X.env) :: starEach [] X.env := by rfl) (hp : (backTo q1 (starEach [b] X.env)).any (·.1) = false := by rfl)
    (nc : starEach [.Call (.Name "range" q2) [a, b] [] q1] X.env = (false, eval (.Call (.Name "range" q2) [a, b] [] q1) X.env) :: starEach [] X.env := by rfl) :
    PE X (.Call (.Name "list" p) [.Call (.Name "range" q2) [a, b] [] q1] [] pos) (rd (kp X) Wx (eLRg fa fb)) := by
  refine PE.imp (pe_listRg hc hg hm (prg_2 hg2 hm2 ha hb na nb hp) nc) fun σ H Q h => ?_
  obtain ⟨B, w, P, rp, h⟩ := h
  refine ⟨B, w, P, rp, (aft_bnd h).mono (fun x w1 h v H1 r1 => ?_) fun _ _ h => h⟩
  obtain ⟨G, μ, c, hp, pv⟩ := r1
  refine ⟨B, w1, P.and (sPV _ x v), ⟨G, μ, c, hp, pv⟩, (aft_bnd h).mono (fun y w2 h u H2 r2 => ?_) fun c' w' h H' rp' => h H' rp'.left⟩
  obtain ⟨G, μ, c, ⟨hp, pv⟩, pu⟩ := r2
  obtain ⟨r, e, h⟩ := aft_opt h
  cases x with
  | int i => cases y with
    | int j =>
      cases pv.int; cases pu.int
      have e : (if okR i && okR j && decide ((j - i).toNat ≤ 2 ^ 24) then some (Rv.ow (rangeD i j)) else none) = some r := e
      split at e
      · rename_i ok
        cases e
        unfold okR at ok
        simp only [Bool.and_eq_true, decide_eq_true_eq] at ok
        exact ⟨i, j, rfl, rfl, ⟨ok.1.1.1, ok.1.1.2, ok.1.2.1, ok.1.2.2, ok.2⟩, fun q hn => h _ _ (ret_lst c hp (rgV_rangeD i j) hn)⟩
      · cases e
    | _ => cases e
  | _ => cases e
end
/-! ### k in d as a test -/
section
variable {X : Cx} {Wx : Wish} {a b : Expr} {pos : Pos} {fa fb : M D}
theorem tind_rd {op : CmpOp} (neg : Bool) (ho : OpR X (compareOp op) (rop (kp X) fun x y => (inDic x y).map fun k => .im (.bl (if neg then !k else k)))) (ha : PE X a (rdp (kp X) Wx fa)) (hb : PE X b (rdp (kp X) Wx fb)) (hm : behindInMarks op b = false) : PT X (.Compare a [op] [b] pos) (rdt (kp X) Wx (tV (fz (eInD neg fa fb)))) := by
  refine PT.imp (pt_cmpR ho ha hb hm) fun σ H Q h => ?_
  obtain ⟨B, w, P, rp, h⟩ := h
  refine ⟨B, w, P, rp, (aft_bnd (aft_bnd (aft_bnd h))).mono (fun x w1 h v H1 r1 => ?_) fun _ _ h => h⟩
  obtain ⟨G, μ, c, hp, pv⟩ := r1
  refine ⟨B, w1, P.and (sPV _ x v), ⟨G, μ, c, hp, pv⟩, (aft_bnd h).mono (fun y w2 h u H2 r2 => ?_) fun c' w' h H' rp' => h H' rp'.left⟩
  obtain ⟨G, μ, c, ⟨hp, pv⟩, pu⟩ := r2
  obtain ⟨r, e, h⟩ := aft_opt h
  obtain ⟨k, e1, rfl⟩ := Option.map_eq_some_iff.mp e
  refine ⟨B, w2, σ, G, μ, P, x, y, _, c, hp, pv, pu, e, fun z H3 r3 => ?_⟩
  obtain ⟨G, μ, c, hp, t⟩ := r3
  have hz : DV (kp X) μ G (.bl (if neg then !k else k)) z := t.ok
  cases hz
  exact ⟨_, rfl, h _ ⟨G, μ, c, hp⟩⟩
theorem rd_tind (ha : PE X a (rdp (kp X) Wx fa)) (hb : PE X b (rdp (kp X) Wx fb)) (hm : behindInMarks .In b = false) : PT X (.Compare a [.In] [b] pos) (rdt (kp X) Wx (tV (fz (eInD false fa fb)))) := tind_rd false (or_ind false) ha hb hm
theorem rd_tnind (ha : PE X a (rdp (kp X) Wx fa)) (hb : PE X b (rdp (kp X) Wx fb)) (hm : behindInMarks .NotIn b = false) : PT X (.Compare a [.NotIn] [b] pos) (rdt (kp X) Wx (tV (fz (eInD true fa fb)))) := tind_rd true (or_ind true) ha hb hm
end
end DL
end
section
set_option Elab.async false
set_option linter.all false
set_option maxRecDepth 100000
set_option maxHeartbeats 1000000
/-! DLo: isinstance(x, (T, ..)), bool(x), xs[i] = v, x.find(y), x.count(y). -/
namespace DL
open PySem PySem.Spec PyProof.Rows L2

/-! ### denotations -/
def fIsT (ts : List Ty) : List D → Option Rv
  | [.dic _ _] => none
  | [.obj _] => none
  | [.cls _] => none
  | [.scr _] => none
  | [d] => some (.im (.bl (ts.any fun t => isTy t d)))
  | _ => none
def fBool : List D → Option Rv
  | [.int i] => some (.im (.bl (i != 0)))
  | [.bl b] => some (.im (.bl b))
  | _ => none
/-- x[k] = v, x a list of one's own -/
def sSetL (i : Nat) (k v : M D) : MS := M.bnd v fun vd => fun w => match w.ρ[i]? with
  | some (.ow _) => M.bnd k (fun kd => fun w => match w.ρ[i]?, kd with
    | some (.ow xs), .int j => match ixN xs.length j with
      | some n => .val .nxt { w with ρ := w.ρ.set i (.ow (xs.set n vd)) }
      | none => .bad
    | _, _ => .bad) w
  | _ => .bad
def strD : D → Option Str
  | .str z => some z
  | _ => none
def findD (x : Str) (y : D) : Option Rv := (strD y).map fun z => .im (.int (Txt.find x z))
def countD (x : Str) (y : D) : Option Rv := (strD y).map fun z => .im (.int (Txt.count x z))
/-- x.m(y), x a text -/
def eMt (F : Str → D → Option Rv) (a b : M D) : M Rv := M.bnd a fun x => M.bnd (M.opt (strD x)) fun z => M.bnd b fun y => M.opt (F z y)
section
variable {X : Cx} {Wx : Wish} {a e ek : Expr} {pos p p1 p2 p3 p4 : Pos} {x : Str} {fa fb fk fv : M D}
theorem cr_bool : CallR X (.type "bool") (rfn (kp X) fBool) := by
  refine callr_imp call_bool1 fun vs H Q h => ?_
  obtain ⟨B, w, σ, G, μ, P, ds, r, c, hp, pv, e, q⟩ := h
  unfold fBool at e
  split at e
  · obtain ⟨v, rfl, qv⟩ := pv.one
    cases e
    cases qv.int
    exact .inl ⟨_, rfl, q _ _ (ret_im c hp (.bl _))⟩
  · obtain ⟨v, rfl, qv⟩ := pv.one
    cases e
    cases qv.bl
    exact .inr ⟨_, rfl, q _ _ (ret_im c hp (.bl _))⟩
  · cases e
/-- isinstance(e, (list, tuple)) -/
theorem rd_isLT {k : Nat} (hg : Gl X "isinstance") (hm : X.mg "isinstance" = none) (hg2 : Gl X "list") (hm2 : X.mg "list" = none) (hg3 : Gl X "tuple") (hm3 : X.mg "tuple" = none) (ha : PE X a (rdp (kp X) Wx fa))
    (hb : bootBuiltins "isinstance" = some (.builtin "isinstance")) (hv2 : bootBuiltins "list" = some (.type "list")) (hv3 : bootBuiltins "tuple" = some (.type "tuple"))
    (hs : starEach [a, .Tuple [.Name "list" p2, .Name "tuple" p3] k p4] X.env = (false, eval a X.env) :: starEach [.Tuple [.Name "list" p2, .Name "tuple" p3] k p4] X.env := by rfl)
    (hs2 : starEach [.Tuple [.Name "list" p2, .Name "tuple" p3] k p4] X.env = (false, eval (.Tuple [.Name "list" p2, .Name "tuple" p3] k p4) X.env) :: starEach [] X.env := by rfl)
    (hs3 : starEach [.Name "list" p2, .Name "tuple" p3] X.env = (false, eval (.Name "list" p2) X.env) :: starEach [.Name "tuple" p3] X.env := by rfl) (hs4 : starEach [.Name "tuple" p3] X.env = (false, eval (.Name "tuple" p3) X.env) :: starEach [] X.env := by rfl)
    (hpl : (backTo pos (starEach [.Tuple [.Name "list" p2, .Name "tuple" p3] k p4] X.env)).any (·.1) = false := by rfl) :
    PE X (.Call (.Name "isinstance" p) [a, .Tuple [.Name "list" p2, .Name "tuple" p3] k p4] [] pos) (rd (kp X) Wx (eFn (fIsT [.list, .tuple]) (aCons fa aNil))) := by
  refine PE.imp (pe_callB call_isiT hg hm hb (pa_cons ha (pa_cons (pe_tup (pa_cons (pe_bltn (v := .ty "list") hg2 hm2 hv2 rfl (by decide) (by decide)) (pa_cons (pe_bltn (v := .ty "tuple") hg3 hm3 hv3 rfl (by decide) (by decide)) pa_nil hs4) hs3)) pa_nil hs2) hs) (he := hs) (hpl := hpl)) fun σ H Q h => ?_
  obtain ⟨B, w, P, rp, h⟩ := h
  refine ⟨B, w, P, rp, (aft_bnd (aft_bnd h)).mono (fun x w1 h v H1 r1 => ?_) fun _ _ h => h⟩
  obtain ⟨G, μ, c, hp, pv⟩ := r1
  obtain ⟨r, e, h⟩ := aft_opt h
  refine ⟨by decide, fun tp hn => ?_⟩
  have c2 := c.newOwn (o := .tup [.ty "list", .ty "tuple"]) hn
  have hp2 := P.st (Same.refl _) (Ext.refl _) (.of (Same.upd_new (o := .tup [.ty "list", .ty "tuple"]) hn)) hp
  have pv2 := pv.mono (Same.refl _) (Ext.refl _) (.of (Same.upd_new (o := .tup [.ty "list", .ty "tuple"]) hn))
  have go : ∀ (tn : String) (k1 k2 : Bool), fIsT [.list, .tuple] [x] = some (.im (.bl (k1 || k2))) → TyX X.K (upd H1 tp (.tup [.ty "list", .ty "tuple"])) v (.type tn) → kitB tn "list" = some k1 → kitB tn "tuple" = some k2 → L2.rIsiT X.K [v, .ref tp] (upd H1 tp (.tup [.ty "list", .ty "tuple"])) Q := fun tn k1 k2 e1 ty kk1 kk2 => by
    rw [e] at e1; cases e1
    refine ⟨v, tp, _, _, [.type "list", .type "tuple"], k1 || k2, rfl, upd_same, .cons (.ty _) (.cons (.ty _) .nil), ty, ?_, h _ _ (ret_im c2 hp2 (.bl _))⟩
    refine kitAny_cons (kit_ty kk1) (fun h1 => ?_) fun h1 => by rw [h1]; rfl
    refine kitAny_cons (kit_ty kk2) (fun h2 => ?_) fun h2 => by rw [h2, Bool.or_true]
    rw [h1, h2]; exact kitAny_nil
  show L2.rIsiT X.K [v, .ref tp] _ Q
  cases x with
  | non => cases pv.non; exact go "NoneType" false false rfl (.base .non) (by decide +kernel) (by decide +kernel)
  | bl b => cases pv.bl; exact go "bool" false false rfl (.base (.bl _)) (by decide +kernel) (by decide +kernel)
  | int b => cases pv.int; exact go "int" false false rfl (.base (.int _)) (by decide +kernel) (by decide +kernel)
  | str b => cases pv.str; exact go "str" false false rfl (.base (.str _)) (by decide +kernel) (by decide +kernel)
  | tup ds =>
    obtain ⟨q1, v1, rfl, s1, g1, d1⟩ := pv2.tupl c2.gH
    refine go "tuple" false true rfl ?_ (by decide +kernel) (by decide +kernel)
    rcases s1 with (s1 | ⟨o, s1⟩) | ⟨o, its, n, s1, hc, _⟩
    · exact .base (.tup s1)
    · exact .fTuple s1
    · exact .kTuple s1 hc
  | lst ds =>
    obtain ⟨q1, v1, rfl, s1, d1⟩ := pv2.list c2.gH
    exact go "list" true false rfl (.base (.lst s1)) (by decide +kernel) (by decide +kernel)
  | dic _ _ => cases e
  | obj _ => cases e
  | cls _ => cases e
  | scr _ => cases e
theorem mt_rd {σ : L2.St} {H : Hp} {Q : VK} {F : Str → D → Option Rv} (g : Str → Str → Int) (hF : ∀ z y, F z y = (strD y).map fun u => .im (.int (g z u))) (h : rd (kp X) Wx (eMt F fa fb) σ H Q) :
    tBM X.K "str" (fun x xs H Q => ∃ a b, x = .str a ∧ xs = [.str b] ∧ Q (.int (g a b)) H) (rdp (kp X) Wx fa) (tCons (rdp (kp X) Wx fb) tNil) σ H Q := by
  obtain ⟨B, w, P, rp, h⟩ := h
  refine ⟨B, w, P, rp, (aft_bnd h).mono (fun x w1 h v H1 r1 => ?_) fun _ _ h => h⟩
  obtain ⟨G, μ, c, hp, pv⟩ := r1
  obtain ⟨z, e, h2⟩ := aft_opt (aft_bnd h)
  clear h
  cases x with
  | str z' =>
    cases e
    cases pv.str
    refine ⟨rfl, B, w1, P, ⟨G, μ, c, hp⟩, (aft_bnd (show Aft (M.bnd fb (fun y => M.opt (F z y)) w1) _ _ from h2)).mono (fun y w2 h u H2 r2 => ?_) fun _ _ h => h⟩
    obtain ⟨G, μ, c, hp, pu⟩ := r2
    obtain ⟨r, e, h⟩ := aft_opt h
    rw [hF] at e
    cases y with
    | str u' =>
      cases e
      cases pu.str
      exact ⟨_, _, rfl, rfl, h _ _ (ret_im c hp (.int _))⟩
    | _ => cases e
  | _ => cases e
theorem rd_find {apos cpos : Pos} (he : PE X (.Call (.Attribute a "find" apos) [e] [] cpos) (tBM X.K "str" (fun x xs H Q => ∃ a b, x = .str a ∧ xs = [.str b] ∧ Q (.int (Txt.find a b)) H) (rdp (kp X) Wx fa) (tCons (rdp (kp X) Wx fb) tNil))) :
    PE X (.Call (.Attribute a "find" apos) [e] [] cpos) (rd (kp X) Wx (eMt findD fa fb)) :=
  PE.imp he fun σ H Q h => mt_rd Txt.find (fun _ _ => rfl) h
theorem rd_count {apos cpos : Pos} (he : PE X (.Call (.Attribute a "count" apos) [e] [] cpos) (tBM X.K "str" (fun x xs H Q => ∃ a b, x = .str a ∧ xs = [.str b] ∧ Q (.int (Txt.count a b)) H) (rdp (kp X) Wx fa) (tCons (rdp (kp X) Wx fb) tNil))) :
    PE X (.Call (.Attribute a "count" apos) [e] [] cpos) (rd (kp X) Wx (eMt countD fa fb)) :=
  PE.imp he fun σ H Q h => mt_rd Txt.count (fun _ _ => rfl) h
/-- xs[k] = v -/
theorem rs_setL (i : Nat) (hk : PE X ek (rdd (kp X) Wx fk)) (hv : PE X e (rdd (kp X) Wx fv)) (hN : X.N[i]? = some x := by rfl) (hvis : Vis X.env.scope x := by first | exact Or.inl rfl | exact Or.inr (Or.inl rfl) | exact Or.inr (Or.inr rfl))
    (hs : swapsWith e (some (.Subscript (.Name x p1) ek p2)) pos.line X.env = pure false := by rfl) (hd : (x == ("__debug__" : Str)) = false := by decide) (hcd : (x == ("__classdict__" : Str)) = false := by decide) :
    PS X (.Assign [.Subscript (.Name x p1) ek p2] e pos) (rdS (kp X) Wx (sSetL i fk fv)) := by
  refine ⟨fun pins s σ H D I h => ?_⟩
  obtain ⟨B, w, P, rp, h⟩ := h
  refine wpAny_Assign_Subscript (thn (hv.run pins s σ H (fun v H1 => ∃ vd w1, RepD (kp X) B w1 σ H1 P.sh vd v ∧ Aft ((fun w => match w.ρ[i]? with
    | some (.ow _) => M.bnd fk (fun kd => fun w => match w.ρ[i]?, kd with
      | some (.ow xs), .int j => match ixN xs.length j with
        | some n => .val .nxt { w with ρ := w.ρ.set i (.ow (xs.set n vd)) }
        | none => .bad
      | _, _ => .bad) w
    | _ => .bad : MS) w1) (EndOk (kp X) B P D) (fun c w' => ∀ σ' H', Rep (kp X) B w' σ' H' P.sh → Wx c σ' H')) I ⟨B, w, P.sh, rp, (aft_bnd h).mono (fun vd w1 h v H1 r1 => ⟨vd, w1, r1, h⟩) fun c w2 h H' r => h σ H' r⟩) fun r s1 ⟨v, H1, I1, rv, vd, w1, ⟨G, μ, c, hp, dv⟩, h⟩ => ?_) hs
  dsimp only at h
  cases q : w1.ρ[i]? with
  | none => rw [q] at h; exact h.elim
  | some rr =>
    rw [q] at h
    cases rr with
    | ow xs =>
      obtain ⟨a, vs, e1, e2, e3, e4, e5⟩ := pv_own c q
      refine thn ((pe_var (i := i) hN hvis hd hcd).run pins s1 σ H1 (fun x H2 => x = .ref a ∧ H2 = H1) I1 ⟨_, e1, rfl, rfl⟩) fun u s2 ⟨x, H2, I2, rx, ex, eH⟩ => ?_
      subst ex eH
      obtain rfl : u = Value.ref a := rx
      refine thn (hk.run pins s2 σ H2 (fun kv H3 => ∃ kd w2 G μ, Core (kp X) B w2 σ H3 G μ ∧ P.p G μ ∧ DV (kp X) μ G vd v ∧ DV (kp X) μ G kd kv ∧ Aft ((fun w => match w.ρ[i]?, kd with
        | some (.ow xs), .int j => match ixN xs.length j with
          | some n => .val .nxt { w with ρ := w.ρ.set i (.ow (xs.set n vd)) }
          | none => .bad
        | _, _ => .bad : MS) w2) (EndOk (kp X) B P D) (fun c w' => ∀ σ' H', Rep (kp X) B w' σ' H' P.sh → Wx c σ' H')) I2
        ⟨B, w1, P.sh.and (sDV _ vd v), ⟨G, μ, c, hp, dv⟩, (aft_bnd h).mono (fun kd w2 h kv H3 r3 => ?_) fun c w2 h H' r => h σ H' r.left⟩) fun iv s3 ⟨y, H3, I3, ry, kd, w2, G, μ, c, hp, dv, dk, h⟩ => ?_
      · obtain ⟨G, μ, c, ⟨hp, dv⟩, dk⟩ := r3
        exact ⟨kd, w2, G, μ, c, hp, dv, dk, h⟩
      dsimp only at h
      cases q2 : w2.ρ[i]? with
      | none => rw [q2] at h; exact h.elim
      | some rr =>
        rw [q2] at h
        cases rr with
        | ow ys =>
          obtain ⟨a', us, f1, f2, f3, f4, f5⟩ := pv_own c q2
          rw [e1] at f1; cases f1
          cases kd with
          | int j =>
            cases dk
            dsimp only at h
            cases hn : ixN ys.length j with
            | none => rw [hn] at h; exact h.elim
            | some n =>
              rw [hn] at h
              refine thn (set_list pins s3 σ H3 (.ref a) (.int j) v (.ref a) iv r (fun H4 => H4 = upd H3 a (.lst (us.set n v))) I3 rfl ry rv ⟨a, us, j, n, rfl, rfl, f2, by rw [← f5.length]; exact hn, rfl⟩) fun _ s4 ⟨H4, I4, eH⟩ => ?_
              subst eH
              exact ⟨σ, _, I4, h σ _ ⟨G, μ, c.lset q2 e1 f2 f3 f4 (f5.set n dv), hp⟩⟩
          | _ => exact h.elim
        | _ => exact h.elim
    | _ => exact h.elim
end
/-! ### defs that call themselves -/
section
variable {P : Program} {w : World} {K : PySem.W.Frag} {mg : Str → Option Value} {base : Heap}
theorem fn_bad {x qual : Str} {st : Stmt} {f : Addr} {fd : FuncData} {N ps : List Str} {k : Nat} (F : Fun K x qual st f fd) (S : FnScope N ps (defScope st)) : FnOk P w K mg base CX0 (k + 1) f fd ps (spP ⟨P, w, K⟩ fun _ _ => .bad) := by
  refine F.ok S (fun vs H Q E h => ?_) (fun cdv A outer s H vs Q E hr h => ?_)
  · obtain ⟨ds, G, μ, O, r, O', _, _, _, _, hF, _⟩ := h
    cases hF
  · exfalso
    obtain ⟨ds, G, μ, O, r, O', _, _, _, _, hF, _⟩ := h
    cases hF
end
end DL
end
section
set_option Elab.async false
set_option linter.all false
set_option maxRecDepth 100000
set_option maxHeartbeats 1000000
/-! DLp: objects of the program's classes: fields, making, methods, properties. -/
namespace DL
open PySem PySem.Spec PyProof.Rows L2

/-! ### denotations -/
def putD (f : Str) (d : D) : List (Str × D) → List (Str × D)
  | [] => [(f, d)]
  | (g, x) :: r => if g = f then (g, d) :: r else (g, x) :: putD f d r
def recO (O : List Rec) (d : D) : Option (Nat × Rec) := match d with
  | .obj k => (O[k]?).map fun r => (k, r)
  | _ => none
/-- a.f, a field: the classes that have been looked at are those of cs -/
def getO (cs : List Str) (f : Str) (x : D) : M D := fun w => match recO w.O x with
  | some (_, r) => if cs.contains r.c then (match r.fs.lookup f with
    | some d => .val d w
    | none => .bad) else .bad
  | none => .bad
def eFld (cs : List Str) (f : Str) (a : M D) : M Rv := M.bnd a fun x => M.bnd (getO cs f x) fun d => M.ret (.im d)
def putO (cs : List Str) (f : Str) (x d : D) : M Unit := fun w => match recO w.O x with
  | some (k, r) => if cs.contains r.c && decide (r.fs.length < 1000) then .val () { w with O := w.O.set k ⟨r.c, putD f d r.fs⟩ } else .bad
  | none => .bad
/-- a.f = v -/
def sFldD (cs : List Str) (f : Str) (v a : M D) : MS := M.bnd v fun d => M.bnd a fun x => M.bnd (putO cs f x d) fun _ => sNx
/-- a.f as a target -/
def gFld (cs : List Str) (f : Str) (a : M D) (r : Rv) : M Unit := match r with
  | .im d => M.bnd a fun x => putO cs f x d
  | _ => M.opt none
/-- a.f += v -/
def sFldAug (cs : List Str) (f : Str) (op : Operator) (a v : M D) : MS := M.bnd a fun x => M.bnd (getO cs f x) fun y => M.bnd v fun z => M.bnd (M.opt ((augD op y z).bind fun r => match r with | .im d => some d | _ => none)) fun d => M.bnd (putO cs f x d) fun _ => sNx
def gEach : List (Rv → M Unit) → List D → M Unit
  | [], [] => M.ret ()
  | g :: gs, d :: ds => M.bnd (g (.im d)) fun _ => gEach gs ds
  | _, _ => M.opt none
def gTup (gs : List (Rv → M Unit)) (r : Rv) : M Unit := match r with
  | .im (.tup ds) => if ds.length = gs.length then gEach gs ds else M.opt none
  | _ => M.opt none
/-- C(a, ..): F its __init__ -/
def makeO (c : Str) (F : Fn) (xs : List D) : M Rv := fun w => match F (.obj w.O.length :: xs) (w.O ++ [⟨c, []⟩]) with
  | .val (.im .non) O => .val (.im (.obj w.O.length)) { w with O := O }
  | _ => .bad
def eMake (c : Str) (F : Fn) (a : M (List D)) : M Rv := M.bnd a fun xs => makeO c F xs
/-- the method of x -/
def pick (L : List (Str × Fn)) (m : Str) (x : D) : M Fn := fun w => match recO w.O x with
  | some (_, r) => if (r.fs.lookup m).isNone then (match L.lookup r.c with
    | some F => .val F w
    | none => .bad) else .bad
  | none => .bad
def eMth (L : List (Str × Fn)) (m : Str) (o : M D) (a : M (List D)) : M Rv := M.bnd o fun x => M.bnd (pick L m x) fun F => M.bnd a fun xs => liftF0 F (x :: xs)
/-- a property -/
def eProp (L : List (Str × Fn)) (o : M D) : M Rv := M.bnd o fun x => fun w => match recO w.O x with
  | some (_, r) => (match L.lookup r.c with
    | some F => liftF0 F [x] w
    | none => .bad)
  | none => .bad

/-! ### what stands behind -/
section
variable {Γ : Kp} {B : Bs} {w : W} {σ : L2.St} {H H' G G' : Hp} {μ μ' : List Addr} {P : SH} {k : Nat} {r : Rec} {x : D} {v : V}
theorem FsOk.get {ds : List (Str × D)} {fs : List (Str × V)} (h : FsOk Γ μ G ds fs) {f : Str} {d : D} (e : ds.lookup f = some d) : ∃ v, fs.lookup f = some v ∧ DV Γ μ G d v := by
  induction h with
  | nil => cases e
  | cons a _ ih =>
    simp only [List.lookup] at e ⊢
    split at e
    · cases e; exact ⟨_, rfl, a⟩
    · exact ih e
theorem FsOk.none {ds : List (Str × D)} {fs : List (Str × V)} (h : FsOk Γ μ G ds fs) {f : Str} (e : ds.lookup f = none) : fs.lookup f = none := by
  induction h with
  | nil => rfl
  | cons a _ ih =>
    simp only [List.lookup] at e ⊢
    split at e
    · cases e
    · exact ih e
theorem FsOk.len {ds : List (Str × D)} {fs : List (Str × V)} (h : FsOk Γ μ G ds fs) : ds.length = fs.length := by
  induction h with
  | nil => rfl
  | cons _ _ ih => simp [ih]
theorem FsOk.put {ds : List (Str × D)} {fs : List (Str × V)} (h : FsOk Γ μ G ds fs) {f : Str} {d : D} {v : V} (e : DV Γ μ G d v) : FsOk Γ μ G (putD f d ds) (putF f v fs) := by
  induction h with
  | nil => exact .cons e .nil
  | cons a b ih =>
    simp only [putD, putF]
    split
    · exact .cons e b
    · exact .cons a ih
/-- the object behind x -/
theorem Core.recAt (c : Core Γ B w σ H G μ) (e : recO w.O x = some (k, r)) (h : PV Γ μ G H x v) : ∃ a dx fs, x = .obj k ∧ v = .ref a ∧ μ[k]? = some a ∧ w.O[k]? = some r ∧ H a = some (.ins (clsA Γ.K r.c) dx fs) ∧ FsOk Γ μ G r.fs fs := by
  unfold recO at e
  split at e
  · obtain ⟨r', e1, e2⟩ := Option.map_eq_some_iff.mp e
    cases e2
    obtain ⟨a, dx, fs, h1, h2, h3⟩ := c.ob.at_ _ _ e1
    cases h with
    | sh h => cases h with
      | obj q =>
        rw [h1] at q; cases q
        exact ⟨a, dx, fs, rfl, rfl, h1, e1, h2, h3⟩
  · cases e
/-- a field is stored -/
theorem Core.fput (c : Core Γ B w σ H G μ) {a dx : Addr} {fs : List (Str × V)} {f : Str} {d : D} {y : V} (hm : μ[k]? = some a) (ho : w.O[k]? = some r) (hi : H a = some (.ins (clsA Γ.K r.c) dx fs)) (hf : FsOk Γ μ G r.fs fs) (hd : DV Γ μ G d y) :
    Core Γ B { w with O := w.O.set k ⟨r.c, putD f d r.fs⟩ } σ (upd H a (.ins (clsA Γ.K r.c) dx (putF f y fs))) G μ ∧ LeH H (upd H a (.ins (clsA Γ.K r.c) dx (putF f y fs))) := by
  have le : LeH H (upd H a (.ins (clsA Γ.K r.c) dx (putF f y fs))) := fun b o e => by
    by_cases hb : b = a
    · subst hb
      rw [hi] at e; cases e
      exact .inr ⟨_, _, _, _, rfl, upd_same⟩
    · rw [upd_ne hb]; exact .inl e
  have gs : Same G (upd H a (.ins (clsA Γ.K r.c) dx (putF f y fs))) := fun b o e => by
    by_cases hb : b = a
    · subst hb
      have := c.gH _ _ e
      rw [hi] at this; cases this
      exact absurd e (c.gi _ _ _ _)
    · rw [upd_ne hb]; exact c.gH _ _ e
  refine ⟨⟨c.g0, gs, c.gi, c.fr, c.h0.trans le, c.len, fun i r e hu => ?_, c.sep, c.m0, ?_⟩, le⟩
  · obtain ⟨v, h1, h2⟩ := c.sl i r e hu
    exact ⟨v, h1, h2.mono (Same.refl _) (Ext.refl _) le fun b o q n => n⟩
  · refine ⟨by simpa using c.ob.len, c.ob.nd, fun j r' e => ?_⟩
    by_cases hj : j = k
    · subst hj
      have hl := (List.getElem?_eq_some_iff.mp ho).1
      have e' : (w.O.set j ⟨r.c, putD f d r.fs⟩)[j]? = some r' := e
      rw [List.getElem?_set_self hl] at e'
      cases e'
      exact ⟨a, dx, _, hm, upd_same, hf.put hd⟩
    · have e' : (w.O.set k ⟨r.c, putD f d r.fs⟩)[j]? = some r' := e
      rw [List.getElem?_set_ne (Ne.symm hj)] at e'
      obtain ⟨a', dx', fs', q1, q2, q3⟩ := c.ob.at_ _ _ e'
      have ne : a' ≠ a := fun z => by
        subst z
        exact hj ((List.getElem?_inj (List.getElem?_eq_some_iff.mp q1).1 c.ob.nd).mp (q1.trans hm.symm))
      exact ⟨a', dx', fs', q1, by rw [upd_ne ne]; exact q2, q3⟩
end
section
variable {X : Cx} {Wx : Wish} {e o : Expr} {es : List Expr} {pos p : Pos} {x f m : Str} {fa fv : M D} {fs : M (List D)} {cs : List Str}
def sIns (a C : Addr) : SH := ⟨fun _ _ H => ∃ dx fs, H a = some (.ins C dx fs), fun _ _ l h => by
  obtain ⟨dx, fs, h⟩ := h
  rcases l _ _ h with z | ⟨_, _, _, fs', e, z⟩
  · exact ⟨dx, fs, z⟩
  · cases e; exact ⟨dx, fs', z⟩⟩
theorem get_rd {B : Bs} {σ : L2.St} {H : Hp} {w : W} {G : Hp} {μ : List Addr} {x : D} {v : V} {R : D → W → Prop} {E : Str → W → Prop} {T : Prop} (c : Core (kp X) B w σ H G μ) (pv : PV (kp X) μ G H x v)
    (hc : ∀ c, cs.contains c = true → Cls X.K (clsA X.K c) ∧ NoAttr X.K (clsA X.K c) f) (h : Aft (getO cs f x w) R E) (q : ∀ a C dx fs d y, v = .ref a → H a = some (.ins C dx fs) → Cls X.K C → NoAttr X.K C f → fs.lookup f = some y → DV (kp X) μ G d y → R d w → T) : T := by
  unfold getO at h
  cases z : recO w.O x with
  | none => rw [z] at h; exact h.elim
  | some kr =>
    obtain ⟨k, r⟩ := kr
    rw [z] at h
    obtain ⟨a, dx, fs, rfl, rfl, h1, h2, h3, h4⟩ := c.recAt z pv
    simp only at h
    split at h
    · rename_i hcs
      split at h
      · rename_i d hd
        obtain ⟨v, e1, e2⟩ := h4.get hd
        exact q a _ dx fs d v rfl h3 (hc _ hcs).1 (hc _ hcs).2 e1 e2 h
      · exact h.elim
    · exact h.elim
theorem rd_fld (hc : ∀ c, cs.contains c = true → Cls X.K (clsA X.K c) ∧ NoAttr X.K (clsA X.K c) f) (ha : PE X e (rdp (kp X) Wx fa)) (hb : attributeBase e f X.env (eval e X.env) = eval e X.env := by rfl) :
    PE X (.Attribute e f pos) (rd (kp X) Wx (eFld cs f fa)) := by
  refine PE.imp (pe_fld ha hb) fun σ H Q h => ?_
  obtain ⟨B, w, P, rp, h⟩ := h
  refine ⟨B, w, P, rp, (aft_bnd h).mono (fun x w1 h v H1 r1 => ?_) fun _ _ h => h⟩
  obtain ⟨G, μ, c, hp, pv⟩ := r1
  refine get_rd c pv hc (aft_bnd h) fun a C dx fs d y e1 e2 e3 e4 e5 e6 h => ⟨a, C, dx, fs, y, e1, e2, e3, e4, e5, ?_⟩
  exact h _ _ (ret_im c hp e6)
theorem put_rd {B : Bs} {σ : L2.St} {H : Hp} {w : W} {P : SH} {k : Nat} {G : Hp} {μ : List Addr} {x d : D} {v y : V} {R : Unit → W → Prop} {E : Str → W → Prop} {T : Prop} (c : Core (kp X) B w σ H G μ) (hp : P.p G μ H) (pv : PV (kp X) μ G H x v) (dv : DV (kp X) μ G d y)
    (hc : ∀ c, cs.contains c = true → Cls X.K (clsA X.K c) ∧ NoAttr X.K (clsA X.K c) f) (h : Aft (putO cs f x d w) R E) (q : ∀ a C dx fs w', v = .ref a → H a = some (.ins C dx fs) → Cls X.K C → NoAttr X.K C f → fs.length < 1000 → R () w' →
      Rep (kp X) B w' σ (upd H a (.ins C dx (putF f y fs))) P → T) : T := by
  unfold putO at h
  cases z : recO w.O x with
  | none => rw [z] at h; exact h.elim
  | some kr =>
    obtain ⟨k, r⟩ := kr
    rw [z] at h
    obtain ⟨a, dx, fs, rfl, rfl, h1, h2, h3, h4⟩ := c.recAt z pv
    simp only [Bool.and_eq_true, decide_eq_true_eq] at h
    split at h
    · rename_i hcs
      obtain ⟨c', le⟩ := c.fput (f := f) h1 h2 h3 h4 dv
      refine q a _ dx fs _ rfl h3 (hc _ hcs.1).1 (hc _ hcs.1).2 (by rw [← h4.len]; exact hcs.2) h ⟨G, μ, c', P.st (Same.refl _) (Ext.refl _) le hp⟩
    · exact h.elim
theorem rs_fld {pos' : Pos} (hc : ∀ c, cs.contains c = true → Cls X.K (clsA X.K c) ∧ NoAttr X.K (clsA X.K c) f) (hv : PE X e (rdd (kp X) Wx fv)) (ha : PE X o (rdp (kp X) Wx fa)) (hs : swapsWith e (some (.Attribute o f pos')) pos.line X.env = pure false := by rfl) :
    PS X (.Assign [.Attribute o f pos'] e pos) (rdS (kp X) Wx (sFldD cs f fv fa)) := by
  refine PS.imp (ps_fld ha hv hs) fun D σ H h => ?_
  obtain ⟨B, w, P, rp, h⟩ := h
  refine ⟨B, w, P.sh, rp, (aft_bnd h).mono (fun d w1 h y H1 r1 => ?_) fun c' w' h H' rp' => h σ H' rp'⟩
  obtain ⟨G, μ, c, hp, dv⟩ := r1
  refine ⟨B, w1, P.sh.and (sDV _ d y), ⟨G, μ, c, hp, dv⟩, (aft_bnd h).mono (fun x w2 h v H2 r2 => ?_) fun c' w' h H' rp' => h σ H' (let ⟨G, μ, c, hp⟩ := rp'; ⟨G, μ, c, hp.1⟩)⟩
  obtain ⟨G, μ, c, ⟨hp, dv⟩, pv⟩ := r2
  refine put_rd (k := 0) c hp pv dv hc (aft_bnd h) fun a C dx fs w' e1 e2 e3 e4 e5 h rp => ⟨a, C, dx, fs, e1, e2, e3, e4, e5, ?_⟩
  exact h _ _ rp
/-! ### fields as targets -/
theorem pg_fldT {ta : TE} (ho : PE X o ta) : PG X (.Attribute o f pos) (fun v σ H Q => ta σ H fun x H1 => ∃ a C dx fs, x = .ref a ∧ H1 a = some (.ins C dx fs) ∧ Cls X.K C ∧ NoAttr X.K C f ∧ fs.length < 1000 ∧ Q σ (upd H1 a (.ins C dx (putF f v fs)))) := by
  refine ⟨fun pins s σ H v u Q I r h => ?_⟩
  rw [PySem.assign_Attribute]
  refine wpAny_bind (wpAny_holding (thn (ho.run pins s σ H _ I h) fun ov s1 ⟨x, H1, I1, r1, a, C, dx, fs, ex, ea, c, n, l, q⟩ => ?_))
  subst ex
  obtain rfl : ov = Value.ref a := r1
  refine wpAny_bind (wpAny_standAt (wpAny_bind (wpAny_holding ?_)))
  exact setattr_ok I1 ea c n l r fun s3 I3 => wpAny_release ⟨σ, _, I3, q⟩
theorem rg_fld {vs : List Nat} (hc : ∀ c, cs.contains c = true → Cls X.K (clsA X.K c) ∧ NoAttr X.K (clsA X.K c) f) (ha : PE X o (rdp (kp X) Wx fa)) : PG X (.Attribute o f pos) (rdg (kp X) Wx vs (gFld cs f fa)) := by
  refine PG.imp (pg_fldT ha) fun v σ H Q h => ?_
  obtain ⟨B, w, P, r, ⟨G, μ, c, hp, t⟩, h⟩ := h
  cases r with
  | im d =>
    refine ⟨B, w, P.and (sDV _ d v), ⟨G, μ, c, hp, t.ok⟩, (aft_bnd (m := fa) h).mono (fun x w1 h' v' H1 r1 => ?_) fun c w' h H' r => h _ H' r.left⟩
    obtain ⟨G, μ, c, ⟨hp, dv⟩, pv⟩ := r1
    refine put_rd (k := 0) (P := P) c hp pv dv hc h' fun a C dx fs w' e1 e2 e3 e4 e5 h rp => ⟨a, C, dx, fs, e1, e2, e3, e4, e5, ?_⟩
    exact h _ _ rfl rp
  | _ => exact h.elim
def rdge (Γ : Kp) (Wx : Wish) (vs : List Nat) (gs : List (Rv → M Unit)) : TGs := fun us σ H Q => ∃ B w P ds, RepA Γ B w σ H P ds us ∧ Aft (gEach gs ds w) (fun _ w' => ∀ σ' H', wipe σ' vs = wipe σ vs → Rep Γ B w' σ' H' P → Q σ' H') (fun c w' => ∀ σ' H', Rep Γ B w' σ' H' P → Wx c σ' H')
theorem rge_nil {vs : List Nat} : PGs X [] (rdge (kp X) Wx vs []) := by
  refine PGs.imp pgs_nil fun us σ H Q h => ?_
  obtain ⟨B, w, P, ds, ⟨G, μ, c, hp, d⟩, h⟩ := h
  cases d with
  | nil => exact ⟨rfl, h σ H rfl ⟨G, μ, c, hp⟩⟩
  | cons => exact h.elim
theorem rge_cons {vs : List Nat} {g : Rv → M Unit} {gs : List (Rv → M Unit)} (h1 : PG X e (rdg (kp X) Wx vs g)) (h2 : PGs X es (rdge (kp X) Wx vs gs)) (hs : (assignEach (e :: es) X.env).map (·.2) = assign e X.env :: (assignEach es X.env).map (·.2) := by rfl) :
    PGs X (e :: es) (rdge (kp X) Wx vs (g :: gs)) := by
  refine PGs.imp (pgs_cons h1 h2 hs) fun us σ H Q h => ?_
  obtain ⟨B, w, P, ds, ⟨G, μ, c, hp, d⟩, h⟩ := h
  cases d with
  | nil => exact h.elim
  | cons d1 d2 =>
    rename_i d v ds us
    refine ⟨_, _, rfl, B, w, P.and (sDVs _ ds us), .im d, ⟨G, μ, c, ⟨hp, d2⟩, d1, fun z => nomatch z⟩, (aft_bnd h).mono (fun _ w1 h σ' H' hw r => ?_) fun c w' h σ' H' r => h σ' H' r.left⟩
    obtain ⟨G', μ', c', hp', d'⟩ := r
    exact ⟨B, _, P, ds, ⟨G', μ', c', hp', d'⟩, h.mono (fun _ w2 h σ2 H2 hw2 => h σ2 H2 (hw2.trans hw)) fun _ _ h => h⟩
theorem rge_tup {vs : List Nat} {kk : Nat} {gs : List (Rv → M Unit)} (hc : X.calm = true) (h : PGs X es (rdge (kp X) Wx vs gs)) (hn : (assignEach es X.env).length = gs.length := by rfl) (hst : (assignEach es X.env).findIdx? (·.1) = none := by rfl) : PG X (.Tuple es kk pos) (rdg (kp X) Wx vs (DL.gTup gs)) := by
  refine PG.imp (pg_tup hc h hn hst) fun v σ H Q h => ?_
  obtain ⟨B, w, P, r, ⟨G, μ, c, hp, t⟩, h⟩ := h
  unfold DL.gTup at h
  split at h
  · rename_i ds
    split at h
    · rename_i hl
      have t' : DV (kp X) μ G (.tup ds) v := t.ok
      cases t' with
      | tup s d => exact ⟨_, _, rfl, Same.sqt c.gH s, by rw [← d.length]; exact hl, B, w, P, ds, ⟨G, μ, c, hp, d⟩, h⟩
    · exact h.elim
  · exact h.elim
/-- a.f op= v -/
theorem rs_fldaug {op : Operator} {pos' : Pos} (hc : ∀ c, cs.contains c = true → Cls X.K (clsA X.K c) ∧ NoAttr X.K (clsA X.K c) f) (ha : PE X o (rdp (kp X) Wx fa)) (hv : PE X e (rdp (kp X) Wx fv)) :
    PS X (.AugAssign (.Attribute o f pos') op e pos) (rdS (kp X) Wx (DL.sFldAug cs f op fa fv)) := by
  refine PS.imp (ps_fldaug ha hv (rd := rop (kp X) (augD op)) fun pins s σ H x y u v Q I => iop_all op pins s σ H x y u v Q I) fun D σ H h => ?_
  obtain ⟨B, w, P, rp, h⟩ := h
  refine ⟨B, w, P.sh, rp, (aft_bnd h).mono (fun x w1 h v H1 r1 => ?_) fun c' w' h H' rp' => h σ H' rp'⟩
  obtain ⟨G, μ, c, hp, pv⟩ := r1
  refine get_rd c pv hc (aft_bnd h) fun a C dx fs d y e1 e2 e3 e4 e5 e6 h => ⟨a, C, dx, fs, y, e1, e2, e3, e4, e5, ?_⟩
  refine ⟨B, w1, P.sh.and ((sPV _ x v).and ((sDV _ d y).and (sIns a C))), ⟨G, μ, c, hp, pv, e6, dx, fs, e2⟩, (aft_bnd h).mono (fun z w2 h u H2 r2 => ?_) fun c' w' h H' rp' => h σ H' rp'.left⟩
  obtain ⟨G, μ, c, ⟨hp, pv, dv, hi⟩, pu⟩ := r2
  have h := aft_bnd h
  cases q : augD op d z with
  | none => rw [q] at h; exact h.elim
  | some r =>
    rw [q] at h
    cases r with
    | im d1 =>
      have h : Aft (putO cs f x d1 w2) _ _ := aft_bnd h
      refine ⟨B, w2, σ, G, μ, P.sh.and ((sPV _ x v).and (sIns a C)), d, z, .im d1, c, ⟨hp, pv, hi⟩, .sh dv, pu, q, fun v' H3 r3 => ?_⟩
      obtain ⟨G, μ, c, ⟨hp, pv, dx', fs', hi⟩, t⟩ := r3
      refine put_rd (k := 0) (P := P.sh) c hp pv t.ok hc h fun a' C' dx1 fs1 w' e1' e2' e3' e4' e5' h rp => ?_
      rw [e1] at e1'; cases e1'
      rw [hi] at e2'; cases e2'
      exact ⟨dx', fs', hi, e5', h _ _ rp⟩
    | _ => exact h.elim
/-! ### making -/
theorem Core.newObj {Γ : Kp} {B : Bs} {w : W} {σ : L2.St} {H G : Hp} {μ : List Addr} {a dx : Addr} (c : Core Γ B w σ H G μ) (cn : Str) (h1 : H a = none) (h2 : H dx = none) (ne : dx ≠ a) :
    Core Γ B { w with O := w.O ++ [⟨cn, []⟩] } σ (upd (upd H dx (.own a)) a (.ins (clsA Γ.K cn) dx [])) G (μ ++ [a]) ∧ Same H (upd (upd H dx (.own a)) a (.ins (clsA Γ.K cn) dx [])) := by
  have sH : Same H (upd (upd H dx (.own a)) a (.ins (clsA Γ.K cn) dx [])) := (Same.upd_new h2).trans (Same.upd_new (by rw [upd_ne ne.symm]; exact h1))
  have mm : Ext μ (μ ++ [a]) := ⟨[a], rfl⟩
  refine ⟨⟨c.g0, fun b x e => sH _ _ (c.gH _ _ e), c.gi, c.fr, c.h0.trans (.of sH), c.len, fun i r e hu => ?_, c.sep, c.m0.trans mm, ?_⟩, sH⟩
  · obtain ⟨v, h1, h2⟩ := c.sl i r e hu
    exact ⟨v, h1, h2.mono (Same.refl _) mm (.of sH) fun b x q n => n⟩
  · refine ⟨by simp [c.ob.len], ?_, fun j r e => ?_⟩
    · rw [List.nodup_append]
      refine ⟨c.ob.nd, by simp, fun x hx y hy => ?_⟩
      rw [List.mem_singleton] at hy
      subst hy
      rintro rfl
      obtain ⟨j, hj⟩ := List.getElem?_of_mem hx
      have hl : j < w.O.length := by rw [← c.ob.len]; exact (List.getElem?_eq_some_iff.mp hj).1
      obtain ⟨x', dx', fs', q1, q2, _⟩ := c.ob.at_ j _ (List.getElem?_eq_getElem hl)
      rw [hj] at q1; cases q1
      rw [h1] at q2; cases q2
    · have e' : (w.O ++ [⟨cn, []⟩])[j]? = some r := e
      by_cases hj : j < w.O.length
      · rw [List.getElem?_append_left hj] at e'
        obtain ⟨x', dx', fs', q1, q2, q3⟩ := c.ob.at_ j r e'
        exact ⟨x', dx', fs', mm.get q1, sH _ _ q2, q3.mono (Same.refl _) mm⟩
      · rw [List.getElem?_append_right (by omega)] at e'
        have hj' : j = w.O.length := by
          have := (List.getElem?_eq_some_iff.mp e').1
          simp at this; omega
        subst hj'
        simp at e'
        subst e'
        exact ⟨a, dx, [], by rw [← c.ob.len]; simp, upd_same, .nil⟩
theorem Core.went' {Γ : Kp} {B : Bs} {w : W} {σ : L2.St} {H G H' G' : Hp} {μ μ' : List Addr} {O : List Rec} (c : Core Γ B w σ H G μ) (k : Went Γ G H μ G' H' μ' O) : Core Γ B { w with O := O } σ H' G' μ' := c.went k
/-- what a class must have -/
structure MakOk (X : Cx) (c : Str) (F : Fn) : Prop where
  ex : ∃ (k : Nat) (f : Addr), Mk X.K (clsA X.K c) f ∧ FnR X.prog X.w X.K X.mg X.base CX0 k f (spP (kp X) F) ∧ Room (k + 1) X.A ∧ X.mg c = some (.ref (clsA X.K c))
theorem make_rd {c : Str} {F : Fn} {σ : L2.St} {H : Hp} {Q : VK} {E : XK} (h : rd (kp X) Wx (eMake c F fs) σ H Q) : StX.tMakeR (clsA X.K c) (spP (kp X) F) E (rda (kp X) Wx fs) σ H Q := by
  obtain ⟨B, w, P, rp, h⟩ := h
  refine ⟨B, w, P, rp, (aft_bnd h).mono (fun ds w1 h vs H1 r1 a dx n1 n2 ne => ?_) fun _ _ h => h⟩
  obtain ⟨G, μ, c', hp, pv⟩ := r1
  obtain ⟨c1, sH⟩ := c'.newObj c n1 n2 ne
  have mm : Ext μ (μ ++ [a]) := ⟨[a], rfl⟩
  unfold makeO at h
  cases q : F (.obj w1.O.length :: ds) (w1.O ++ [⟨c, []⟩]) with
  | bad => rw [q] at h; exact h.elim
  | exc c w' => rw [q] at h; exact h.elim
  | val r O' =>
    rw [q] at h
    cases r with
    | im d =>
      cases d with
      | non =>
        have ho : (μ ++ [a])[w1.O.length]? = some a := by rw [← c'.ob.len]; simp
        refine ⟨.obj w1.O.length :: ds, G, μ ++ [a], _, _, O', c1.gH, c1.gi, .cons (.obj ho) (pv.mono (Same.refl _) mm), c1.ob, q, fun v H' G' μ' k ok => ?_⟩
        have ok' : DV (kp X) μ' G' .non v := ok
        cases ok'
        refine ⟨rfl, h _ _ (ret_im (c1.went k) (P.st k.gg (mm.trans k.mm) ((LeH.of sH).trans k.le) hp) (.obj (k.mm.get ho)))⟩
      | _ => exact h.elim
    | _ => exact h.elim
theorem rd_make {c : Str} {F : Fn} (M : MakOk X c F) (hg : Gl X c) (hd : (c == ("__debug__" : Str)) = false) (ha : PA X (e :: es) (rda (kp X) Wx fs))
    (he : starEach (e :: es) X.env = (false, eval e X.env) :: starEach es X.env := by rfl) (hpl : (backTo pos (starEach es X.env)).any (·.1) = false := by rfl) :
    PE X (.Call (.Name c p) (e :: es) [] pos) (rd (kp X) Wx (eMake c F fs)) := by
  obtain ⟨k, f, m, Fk, hr, hm⟩ := M.ex
  exact PE.imp (StX.pe_makeR (E := fun _ _ _ => False) m Fk hr hg hm pass0 ha hd he hpl) fun σ H Q h => make_rd h
/-! ### methods -/
/-- a table of the classes' methods -/
structure MetOk (X : Cx) (L : List (Str × Fn)) (m : Str) : Prop where
  ex : ∀ c F, L.lookup c = some F → ∃ (k : Nat) (f : Addr), Cls X.K (clsA X.K c) ∧ Meth X.K (clsA X.K c) m f ∧ FnR X.prog X.w X.K X.mg X.base CX0 k f (spP (kp X) F) ∧ Room k X.A
/-- o.m(..): what is asked of the receiver, and how its method is run -/
def tMethL (X : Cx) (m : Str) (ta : TE) (t : TA) : TE := fun σ H Q => ta σ H fun x H1 => ∃ a C dx fs k f sp, x = .ref a ∧ H1 a = some (.ins C dx fs) ∧ fs.lookup m = none ∧ Cls X.K C ∧ Meth X.K C m f ∧ FnR X.prog X.w X.K X.mg X.base CX0 k f sp ∧ Room k X.A ∧
  t σ H1 fun vs H2 => sp (x :: vs) H2 Q (fun _ _ _ => False)
theorem pe_methL {ta : TE} {t : TA} {apos : Pos} {pl : Sem Bool} (he : PE X o ta) (ha : PA X (e :: es) t)
    (hst : starEach (e :: es) X.env = (false, eval e X.env) :: starEach es X.env := by rfl) (hpl : (backTo pos (starEach es X.env)).any (·.1) = false := by rfl)
    (ht : eval (.Call (.Attribute o m apos) (e :: es) [] pos) X.env = (do
      let ov ← eval o X.env
      standAt apos.atName
      let (f, first) ← holding [ov] (getMethod ov m pl)
      callWith pos f first (backTo pos (starEach (e :: es) X.env)) (backToKw pos (keywordEach [] X.env))) := by rfl) :
    PE X (.Call (.Attribute o m apos) (e :: es) [] pos) (tMethL X m ta t) := by
  refine ⟨fun pins s σ H Q I h => ?_⟩
  refine PySem.W.methodCall_KW (pl := pl) (thn (he.run pins s σ H _ I h) fun u s1 ⟨x, H1, I1, rx, a, C, dx, fs, k, f, sp, ex, ea, l, c, hm, F, hr, q⟩ => ?_) ht
  subst ex
  obtain rfl : u = Value.ref a := rx
  refine getmeth_ok I1 ea c hm l ?_
  refine PySem.W.callWith_K (first := [.ref a]) (h₀ := X.base) I.ok.mod.kin hm.kp (thn (ha.run pos pins s1 σ H1 _ I1 q) fun us s2 ⟨vs, H2, I2, r, q2⟩ => ⟨I2.kIn, ?_⟩) hst hpl
  exact wpAny_call (run_fnR (us := .ref a :: us) (vs := .ref a :: vs) F hr pass0 I2 (.cons rfl r) q2)
theorem pe_methL0 {ta : TE} {apos : Pos} {pl : Sem Bool} (he : PE X o ta)
    (ht : eval (.Call (.Attribute o m apos) [] [] pos) X.env = (do
      let ov ← eval o X.env
      standAt apos.atName
      let (f, first) ← holding [ov] (getMethod ov m pl)
      callWith pos f first (backTo pos (starEach [] X.env)) (backToKw pos (keywordEach [] X.env))) := by rfl) :
    PE X (.Call (.Attribute o m apos) [] [] pos) (tMethL X m ta tNil) := by
  refine ⟨fun pins s σ H Q I h => ?_⟩
  refine PySem.W.methodCall_KW (pl := pl) (thn (he.run pins s σ H _ I h) fun u s1 ⟨x, H1, I1, rx, a, C, dx, fs, k, f, sp, ex, ea, l, c, hm, F, hr, q⟩ => ?_) ht
  subst ex
  obtain rfl : u = Value.ref a := rx
  refine getmeth_ok I1 ea c hm l ?_
  exact PySem.W.callWith_K0 (first := [.ref a]) I1.kIn hm.kp (wpAny_call (run_fnR (us := [.ref a]) (vs := [.ref a]) F hr pass0 I1 (.cons rfl .nil) q))
theorem lift_rd {B : Bs} {w : W} {σ : L2.St} {H G : Hp} {μ : List Addr} {P : SH} {Q : VK} {E : XK} {F : Fn} {ds : List D} {vs : List V} {E' : Str → W → Prop} (c : Core (kp X) B w σ H G μ) (hp : P.p G μ H) (pv : DVs (kp X) μ G ds vs)
    (h : Aft (liftF0 F ds w) (fun r w' => ∀ v H', RepR (kp X) B w' σ H' P r v → Q v H') E') : spP (kp X) F vs H Q E := by
  unfold liftF0 at h
  cases qF : F ds w.O with
  | bad => rw [qF] at h; exact h.elim
  | exc c w' => rw [qF] at h; exact h.elim
  | val r O' =>
    rw [qF] at h
    refine ⟨ds, G, μ, w.O, r, O', c.gH, c.gi, pv, c.ob, qF, fun v H' G' μ' k ok => h v H' ⟨G', μ', c.went k, P.st k.gg k.mm k.le hp, ?_, ?_⟩⟩
    · cases r with
      | un => exact ok
      | im d => exact ok
      | ow xs =>
        obtain ⟨a, vs, e, h1, h2, h3, h4⟩ := ok
        exact ⟨a, vs, e, h1, h2, c.h0.none h3, h4⟩
      | od ks vs =>
        obtain ⟨a, o, vks, vvs, e, h1, h2, h3, h4⟩ := ok
        exact ⟨a, o, vks, vvs, e, h1, h2, c.h0.none h3, h4⟩
    · intro ho i a ev z
      obtain ⟨a', o, e, h1, _, h2, h3, _⟩ := ok.owner ho
      rw [ev] at e; cases e
      exact c.own_ne h3 z
theorem meth_rd {L : List (Str × Fn)} (M : MetOk X L m) {σ : L2.St} {H : Hp} {Q : VK} (h : rd (kp X) Wx (eMth L m fa fs) σ H Q) : tMethL X m (rdp (kp X) Wx fa) (rda (kp X) Wx fs) σ H Q := by
  obtain ⟨B, w, P, rp, h⟩ := h
  refine ⟨B, w, P, rp, (aft_bnd h).mono (fun x w1 h v H1 r1 => ?_) fun _ _ h => h⟩
  obtain ⟨G, μ, c, hp, pv⟩ := r1
  have h := aft_bnd h
  unfold pick at h
  cases q : recO w1.O x with
  | none => rw [q] at h; exact h.elim
  | some kr =>
    obtain ⟨k, r⟩ := kr
    rw [q] at h
    obtain ⟨a, dx, fs', rfl, rfl, h1, h2, h3, h4⟩ := c.recAt q pv
    simp only at h
    split at h
    · rename_i hn
      split at h
      · rename_i F hF
        obtain ⟨kk, f, m1, m2, m3, m4⟩ := M.ex _ _ hF
        refine ⟨a, _, dx, fs', kk, f, _, rfl, h3, h4.none (by simpa using hn), m1, m2, m3, m4, ?_⟩
        refine ⟨B, w1, P.and (sDV (kp X) (.obj k) (.ref a)), ⟨G, μ, c, hp, .obj h1⟩, (aft_bnd h).mono (fun ds w2 h vs H2 r2 => ?_) fun c' w' h H' rp' => h H' rp'.left⟩
        obtain ⟨G, μ, c, ⟨hp, po⟩, dvs⟩ := r2
        exact lift_rd c hp (.cons po dvs) h
      · exact h.elim
    · exact h.elim
theorem rd_meth {L : List (Str × Fn)} {apos : Pos} {pl : Sem Bool} (M : MetOk X L m) (ho : PE X o (rdp (kp X) Wx fa)) (ha : PA X (e :: es) (rda (kp X) Wx fs))
    (hst : starEach (e :: es) X.env = (false, eval e X.env) :: starEach es X.env := by rfl) (hpl : (backTo pos (starEach es X.env)).any (·.1) = false := by rfl)
    (ht : eval (.Call (.Attribute o m apos) (e :: es) [] pos) X.env = (do
      let ov ← eval o X.env
      standAt apos.atName
      let (f, first) ← holding [ov] (getMethod ov m pl)
      callWith pos f first (backTo pos (starEach (e :: es) X.env)) (backToKw pos (keywordEach [] X.env))) := by rfl) :
    PE X (.Call (.Attribute o m apos) (e :: es) [] pos) (rd (kp X) Wx (eMth L m fa fs)) :=
  PE.imp (pe_methL ho ha hst hpl ht) fun σ H Q h => meth_rd M h
theorem rd_meth0 {L : List (Str × Fn)} {apos : Pos} {pl : Sem Bool} (M : MetOk X L m) (ho : PE X o (rdp (kp X) Wx fa))
    (ht : eval (.Call (.Attribute o m apos) [] [] pos) X.env = (do
      let ov ← eval o X.env
      standAt apos.atName
      let (f, first) ← holding [ov] (getMethod ov m pl)
      callWith pos f first (backTo pos (starEach [] X.env)) (backToKw pos (keywordEach [] X.env))) := by rfl) :
    PE X (.Call (.Attribute o m apos) [] [] pos) (rd (kp X) Wx (eMth L m fa aNil)) :=
  PE.imp (pe_methL0 ho ht) fun σ H Q h => by
    obtain ⟨B, w, P, rp, h⟩ := meth_rd M h
    refine ⟨B, w, P, rp, h.mono (fun x w1 h v H1 r1 => ?_) fun _ _ h => h⟩
    obtain ⟨a, C, dx, fs, k, f, sp, h1, h2, h3, h4, h5, h6, h7, B, w, P, ⟨G, μ, c, hp⟩, q⟩ := h v H1 r1
    exact ⟨a, C, dx, fs, k, f, sp, h1, h2, h3, h4, h5, h6, h7, q [] H1 ⟨G, μ, c, hp, .nil⟩⟩
/-! ### properties -/
structure PropOk (X : Cx) (L : List (Str × Fn)) (f : Str) : Prop where
  ex : ∀ c F, L.lookup c = some F → ∃ (k : Nat) (p g : Addr), Cls X.K (clsA X.K c) ∧ PropOf X.K (clsA X.K c) f p g ∧ FnR X.prog X.w X.K X.mg X.base CX0 k g (spP (kp X) F) ∧ Room (k + 1) X.A
theorem getpropR_ok {pins : List (Addr × Obj)} {σ : L2.St} {H : Hp} {s : Shared} {Q : VK} {b : Bool} {E' : Value → Shared → Prop} {a C dx pr g : Addr} {fl : List (Str × V)} {k : Nat} {sp : Sp} (I : Inv X pins σ H s) (ea : H a = some (.ins C dx fl)) (c : Cls X.K C) (hp : PropOf X.K C f pr g)
    (F : FnR X.prog X.w X.K X.mg X.base CX0 k g sp) (hr : Room (k + 1) X.A) (h : sp [.ref a] H Q (fun _ _ _ => False)) :
    wpAny (model X.prog X.w) X.A (getAttr (.ref a) f b) (EP X pins σ Q) E' s := by
  obtain ⟨mA, O, _, _, _, _⟩ := ins_get I.hok ea
  obtain ⟨od, J, _⟩ := O.look
  obtain ⟨rest, hrec⟩ := hp.rec_
  have I1 := I.tok (s.toks + 1)
  have hc : (PySem.W.clsIn X.K C).isSome = true := by
    obtain ⟨cd, hc, _⟩ := PySem.W.any_some c.hd
    rw [hc]
    rfl
  refine PySem.W.get_bind I.kIn J (PySem.W.plainGet_of (c.get f)).1 (PySem.W.findObj_data hc hp.at_ hp.get hp.tak) (PySem.W.plainGet_of (c.get f)).2 (wpAny_call (PySem.W.prop_get (s := { s with toks := s.toks + 1 }) I.kIn hrec ?_))
  refine codeAny_mono (F X.A.in1 X.stack { s with toks := s.toks + 1 } H [.ref a] [.ref a] Q (fun _ _ _ => False) hr.in1 I1.env0.in1 (.cons rfl .nil) h) fun r s' hq => ?_
  cases r with
  | error er => exact False.elim (pass0 (X := X.nox) pins σ H { s with toks := s.toks + 1 } er s' (I1.wish _) hq)
  | ok fl =>
    cases fl with
    | ret u =>
      obtain ⟨v, H', I3, rv, q3⟩ := I1.after hq
      show wpAny _ _ (handedOut u) _ _ _
      rw [PySem.W.handedOut_of (handed_of rv)]
      exact wpAny_pure ⟨v, H', I3, rv, q3⟩
    | next => exact False.elim hq
    | brk => exact False.elim hq
    | cont => exact False.elim hq
theorem rd_prop {L : List (Str × Fn)} (M : PropOk X L f) (ho : PE X o (rdp (kp X) Wx fa)) (hab : attributeBase o f X.env (eval o X.env) = eval o X.env := by rfl) : PE X (.Attribute o f pos) (rd (kp X) Wx (eProp L fa)) := by
  refine ⟨fun pins s σ H Q I h => ?_⟩
  have hh : rdp (kp X) Wx fa σ H fun x H1 => ∃ a C dx fs k p g sp, x = .ref a ∧ H1 a = some (.ins C dx fs) ∧ Cls X.K C ∧ PropOf X.K C f p g ∧ FnR X.prog X.w X.K X.mg X.base CX0 k g sp ∧ Room (k + 1) X.A ∧ sp [.ref a] H1 Q (fun _ _ _ => False) := by
    obtain ⟨B, w, P, rp, h⟩ := h
    refine ⟨B, w, P, rp, (aft_bnd h).mono (fun x w1 h v H1 r1 => ?_) fun _ _ h => h⟩
    obtain ⟨G, μ, c, hp, pv⟩ := r1
    cases q : recO w1.O x with
    | none => rw [q] at h; exact h.elim
    | some kr =>
      obtain ⟨k, r⟩ := kr
      rw [q] at h
      obtain ⟨a, dx, fs', rfl, rfl, h1, h2, h3, h4⟩ := c.recAt q pv
      simp only at h
      split at h
      · rename_i F hF
        obtain ⟨kk, p, g, m1, m2, m3, m4⟩ := M.ex _ _ hF
        exact ⟨a, _, dx, fs', kk, p, g, _, rfl, h3, m1, m2, m3, m4, lift_rd c hp (.cons (.obj h1) .nil) h⟩
      · exact h.elim
  refine attr_of hab (thn (ho.run pins s σ H _ I hh) fun u s1 ⟨x, H1, I1, rx, a, C, dx, fs, k, p, g, sp, ex, ea, m1, m2, m3, m4, q⟩ => ?_)
  subst ex
  obtain rfl : u = Value.ref a := rx
  exact getpropR_ok I1 ea m1 m2 m3 m4 q
end
end DL
end
section
set_option Elab.async false
set_option linter.all false
set_option maxRecDepth 100000
set_option maxHeartbeats 1000000
/-! DLq: classes as values: isinstance, own ==, classmethods, constants of a class. -/
namespace DL
open PySem PySem.Spec PyProof.Rows L2

/-! ### denotations -/
/-- isinstance(a, C): L tells of the program's classes -/
def isC (L : List (Str × Bool)) (O : List Rec) (x : D) : Option Bool := match recO O x with
  | some (_, r) => L.lookup r.c
  | none => (match x with
    | .non => some false
    | .bl _ => some false
    | .int _ => some false
    | .str _ => some false
    | .tup _ => some false
    | .lst _ => some false
    | _ => none)
def eIsC (L : List (Str × Bool)) (a : M D) : M Rv := M.bnd a fun x => fun w => match isC L w.O x with
  | some b => .val (.im (.bl b)) w
  | none => .bad
/-- what stands right of an own == -/
def rightO (O : List Rec) (y : D) : Option (Option Str) := match recO O y with
  | some (_, r) => some (some r.c)
  | none => (match y with
    | .non => some none
    | .bl _ => some none
    | .int _ => some none
    | .str _ => some none
    | .tup _ => some none
    | .lst _ => some none
    | _ => none)
/-- a == b, a an object; S: pairs of a class and one above it -/
def eqO (L : List (Str × Fn)) (S : List (Str × Str)) (x y : D) : M Rv := fun w => match recO w.O x with
  | some (_, r) => (match rightO w.O y with
    | some none => (match L.lookup r.c with
      | some F => liftF0 F [x, y] w
      | none => .bad)
    | some (some c) => if c = r.c then (match L.lookup r.c with
        | some F => liftF0 F [x, y] w
        | none => .bad)
      else if S.contains (c, r.c) then (match L.lookup c with
        | some F => liftF0 F [y, x] w
        | none => .bad)
      else if S.contains (r.c, c) then (match L.lookup r.c with
        | some F => liftF0 F [x, y] w
        | none => .bad) else .bad
    | none => .bad)
  | none => .bad
def eEqO (L : List (Str × Fn)) (S : List (Str × Str)) (a b : M D) : M Rv := M.bnd a fun x => M.bnd b fun y => eqO L S x y
/-- C.m(..) -/
def eCMth (c : Str) (F : Fn) (a : M (List D)) : M Rv := M.bnd a fun xs => liftF0 F (.cls c :: xs)
/-- x( *a), x a name that holds a class -/
def pickC (L : List (Str × Fn)) (x : D) : M (Str × Fn) := M.opt (match x with | .cls c => (L.lookup c).map fun F => (c, F) | _ => none)
def eMakeV (L : List (Str × Fn)) (c a : M D) : M Rv := M.bnd c fun x => M.bnd (pickC L x) fun cF => M.bnd a fun y => M.bnd (M.opt (seqD y)) fun xs => makeO cF.1 cF.2 xs

/-! ### facts of the text -/
structure IsCOk (X : Cx) (C : Str) (L : List (Str × Bool)) : Prop where
  gl : X.mg C = some (.ref (clsA X.K C))
  dat : ∀ tn, tn ∈ ["NoneType", "bool", "int", "str", "tuple", "list"] → PySem.W.kitOne X.K (.type tn) (.ref (clsA X.K C)) = some false
  obs : ∀ c b, L.lookup c = some b → C8.InsC X.K (clsA X.K c) ∧ PySem.W.kitOne X.K (.ref (clsA X.K c)) (.ref (clsA X.K C)) = some b
structure EqOk (X : Cx) (L : List (Str × Fn)) (S : List (Str × Str)) : Prop where
  ex : ∀ c F, L.lookup c = some F → ∃ (k : Nat) (f : Addr), PySem.W.findIn X.K (.ref (clsA X.K c)) "__eq__" = some (some (.ref f)) ∧ PySem.W.isFn X.K (.ref f) = true ∧ FnR X.prog X.w X.K X.mg X.base CX0 k f (spP (kp X) F) ∧ Room k X.A ∧
    ∀ tn, tn ∈ ["NoneType", "bool", "int", "str", "tuple", "list"] → PySem.W.notFirst X.K (clsA X.K c) (.type tn) = true
  sub : ∀ c d, S.contains (c, d) = true → PySem.W.subIn X.K (.ref (clsA X.K c)) (.ref (clsA X.K d)) = some true ∧ clsA X.K c ≠ clsA X.K d ∧ PySem.W.subIn X.K (.ref (clsA X.K d)) (.ref (clsA X.K c)) = some false
  u : X.A.units < cLine

/-! ### types -/
theorem looks_at {M : Model} {h : Heap} {a : Addr} {o : Obj} (e : h.get? a = some o) : PySem.W.Looks M h (typeOf (.ref a)) o.cls := (PySem.W.Looks.ld e).andThen .now
section
variable {X : Cx} {pins : List (Addr × Obj)} {σ : L2.St} {H G : Hp} {s : Shared} {μ : List Addr}
/-- the type of data that is no object -/
theorem dat_ty {O : List Rec} {d : D} {v : V} {u : Value} (I : Inv X pins σ H s) (hr : recO O d = none) (ho : rightO O d = some none) (gH : Same G H) (pv : PV (kp X) μ G H d v) (ru : RelV v u) :
    ∃ tn : String, tn ∈ ["NoneType", "bool", "int", "str", "tuple", "list"] ∧ (∀ M, PySem.W.Looks M s.heap (typeOf u) (.type tn)) ∧ TyX X.K H v (.type tn) := by
  unfold rightO at ho
  rw [hr] at ho
  cases d with
  | non => cases pv.non; cases (show u = Value.none from ru); exact ⟨"NoneType", by simp, fun M => .now, .base .non⟩
  | bl b => cases pv.bl; cases (show u = Value.bool b from ru); exact ⟨"bool", by simp, fun M => .now, .base (.bl _)⟩
  | int b => cases pv.int; obtain ⟨t, q⟩ := (show ∃ t, u = Value.int b t from ru); cases q; exact ⟨"int", by simp, fun M => .now, .base (.int _)⟩
  | str b => cases pv.str; obtain ⟨t, q⟩ := (show ∃ t, u = Value.str b t from ru); cases q; exact ⟨"str", by simp, fun M => .now, .base (.str _)⟩
  | tup ds =>
    obtain ⟨p1, v1, rfl, s1, g1, d1⟩ := pv.tupl gH
    cases (show u = Value.ref p1 from ru)
    rcases s1 with (s1 | ⟨o, s1⟩) | ⟨o, its, n, s1, hc, z⟩
    · obtain ⟨_, _, _, o, h1, h2, _⟩ := (show ObjOk X.prog X.w H s.heap p1 (.tup v1) from I.hok p1 _ s1)
      exact ⟨"tuple", by simp, fun M => h2 ▸ looks_at h1, .base (.tup s1)⟩
    · obtain ⟨_, _, _, _, o', h1, h2, _⟩ := (show ObjOk X.prog X.w H s.heap p1 (.frz o (.tup v1)) from I.hok p1 _ s1)
      exact ⟨"tuple", by simp, fun M => h2 ▸ looks_at h1, .fTuple s1⟩
    · exact ⟨"tuple", by simp, fun M => hc ▸ looks_at (I.kIn _ o s1), .kTuple s1 hc⟩
  | lst ds =>
    obtain ⟨p1, v1, rfl, s1, d1⟩ := pv.list gH
    cases (show u = Value.ref p1 from ru)
    obtain ⟨_, _, n, _, h1⟩ := (show ObjOk X.prog X.w H s.heap p1 (.lst v1) from I.hok p1 _ s1)
    exact ⟨"list", by simp, fun M => looks_at h1, .base (.lst s1)⟩
  | _ => cases ho
end

section
variable {X : Cx} {Wx : Wish} {e o a b : Expr} {es : List Expr} {pos p : Pos} {x f m : Str} {fa fb fv : M D} {fs : M (List D)}
/-- isinstance(e, C) -/
theorem rd_isC {C : Str} {L : List (Str × Bool)} {p2 : Pos} (M : IsCOk X C L) (hg : Gl X "isinstance") (hm : X.mg "isinstance" = none) (hg2 : Gl X C) (hdb : (C == ("__debug__" : Str)) = false) (ha : PE X a (rdp (kp X) Wx fa))
    (hb : bootBuiltins "isinstance" = some (.builtin "isinstance")) (hs : starEach [a, .Name C p2] X.env = (false, eval a X.env) :: starEach [.Name C p2] X.env := by rfl) (hs2 : starEach [.Name C p2] X.env = (false, eval (.Name C p2) X.env) :: starEach [] X.env := by rfl) (hpl : (backTo pos (starEach [.Name C p2] X.env)).any (·.1) = false := by rfl) :
    PE X (.Call (.Name "isinstance" p) [a, .Name C p2] [] pos) (rd (kp X) Wx (eIsC L fa)) := by
  refine PE.imp (pe_callB call_isi hg hm hb (pa_cons ha (pa_cons (pe_glob (v := .ref (clsA X.K C)) hg2 M.gl rfl hdb) pa_nil hs2) hs) (he := hs) (hpl := hpl)) fun σ H Q h => ?_
  obtain ⟨B, w, P, rp, h⟩ := h
  refine ⟨B, w, P, rp, (aft_bnd h).mono (fun x w1 h v H1 r1 => ?_) fun _ _ h => h⟩
  obtain ⟨G, μ, c, hp, pv⟩ := r1
  show L2.rIsi X.K [v, .ref (clsA X.K C)] H1 Q
  cases q : recO w1.O x with
  | some kr =>
    obtain ⟨k, r⟩ := kr
    obtain ⟨a, dx, fs', rfl, rfl, h1, h2, h3, h4⟩ := c.recAt q pv
    unfold isC at h
    rw [q] at h
    simp only at h
    split at h
    · rename_i b hb'
      obtain ⟨ins, k1⟩ := M.obs _ _ hb'
      exact ⟨_, _, _, _, b, rfl, .own _, .base (.ins h3 ins.cl ins.ha ins.hn ins.htk ins.hm), k1, h _ _ (ret_im c hp (.bl _))⟩
    · exact h.elim
  | none =>
    unfold isC at h
    rw [q] at h
    have go : ∀ (tn : String), TyX X.K H1 v (.type tn) → tn ∈ ["NoneType", "bool", "int", "str", "tuple", "list"] → (∀ v H', RepR (kp X) B w1 σ H' P (.im (.bl false)) v → Q v H') → L2.rIsi X.K [v, .ref (clsA X.K C)] H1 Q := fun tn ty mem h =>
      ⟨v, _, _, _, false, rfl, .own _, ty, M.dat tn mem, h _ _ (ret_im c hp (.bl _))⟩
    cases x with
    | non => cases pv.non; exact go "NoneType" (.base .non) (by simp) h
    | bl b => cases pv.bl; exact go "bool" (.base (.bl _)) (by simp) h
    | int b => cases pv.int; exact go "int" (.base (.int _)) (by simp) h
    | str b => cases pv.str; exact go "str" (.base (.str _)) (by simp) h
    | tup ds =>
      obtain ⟨p1, v1, rfl, s1, g1, d1⟩ := pv.tupl c.gH
      refine go "tuple" ?_ (by simp) h
      rcases s1 with (s1 | ⟨o, s1⟩) | ⟨o, its, n, s1, hc, _⟩
      · exact .base (.tup s1)
      · exact .fTuple s1
      · exact .kTuple s1 hc
    | lst ds =>
      obtain ⟨p1, v1, rfl, s1, d1⟩ := pv.list c.gH
      exact go "list" (.base (.lst s1)) (by simp) h
    | _ => exact h.elim
/-! ### an own == -/
theorem rc_own {pins : List (Addr × Obj)} {σ : L2.St} {H : Hp} {s : Shared} {Q : VK} {a C dx f : Addr} {fl : List (Str × V)} {k : Nat} {sp : Sp} {y : V} {u tb : Value} (I : Inv X pins σ H s) (hu : X.A.units < cLine) (ea : H a = some (.ins C dx fl)) (ru : RelV y u)
    (hb : PySem.W.Looks (model X.prog X.w) s.heap (typeOf u) tb) (hn : PySem.W.notFirst X.K C tb = true) (hs : PySem.W.findIn X.K (.ref C) "__eq__" = some (some (.ref f))) (hf : PySem.W.isFn X.K (.ref f) = true)
    (F : FnR X.prog X.w X.K X.mg X.base CX0 k f sp) (hr : Room k X.A) (h : sp [.ref a, y] H Q (fun _ _ _ => False)) : wpAny (model X.prog X.w) X.A (richCompare .Eq (.ref a) u) (EP X pins σ Q) X.xe s := by
  obtain ⟨mA, J, _⟩ := ins_get I.hok ea
  obtain ⟨od, J, _⟩ := J.look
  obtain ⟨m, hF⟩ := I.fr
  refine PySem.W.cmp_K (op := .Eq) (tb := tb) hu hF I.ok.mod.kin J hb hn hs hf ?_
  refine wpAny_mono (wpAny_call (run_fnR (us := [.ref a, u]) (vs := [.ref a, y]) F hr pass0 I (.cons rfl (.cons ru .nil)) h)) (fun v s' q => ?_) fun _ _ x => x
  obtain ⟨z, H', I', rz, q⟩ := q
  cases v with
  | notImplemented => exact (by cases z <;> first | cases (show _ = _ from rz) | (obtain ⟨_, e⟩ := (show ∃ _, _ = _ from rz); cases e))
  | _ => exact ⟨z, H', I', rz, q⟩
theorem rc_sub {pins : List (Addr × Obj)} {σ : L2.St} {H : Hp} {s : Shared} {Q : VK} {a C dx b E dy f : Addr} {fl gl : List (Str × V)} {k : Nat} {sp : Sp} (I : Inv X pins σ H s) (hu : X.A.units < cLine) (ea : H a = some (.ins C dx fl)) (eb : H b = some (.ins E dy gl))
    (hsub : PySem.W.subIn X.K (.ref E) (.ref C) = some true) (hne : E ≠ C) (hs : PySem.W.findIn X.K (.ref E) "__eq__" = some (some (.ref f))) (hf : PySem.W.isFn X.K (.ref f) = true)
    (F : FnR X.prog X.w X.K X.mg X.base CX0 k f sp) (hr : Room k X.A) (h : sp [.ref b, .ref a] H Q (fun _ _ _ => False)) : wpAny (model X.prog X.w) X.A (richCompare .Eq (.ref a) (.ref b)) (EP X pins σ Q) X.xe s := by
  obtain ⟨mA, J, _⟩ := ins_get I.hok ea
  obtain ⟨od, J, _⟩ := J.look
  obtain ⟨mB, J', _⟩ := ins_get I.hok eb
  obtain ⟨od', J', _⟩ := J'.look
  have one : wpAny (model X.prog X.w) X.A (tryCompare (.ref b) "__eq__" (.ref a)) (fun r s' => ∃ v, r = some v ∧ EP X pins σ Q v s') X.xe s := by
    unfold tryCompare
    refine wpAny_bind (PySem.W.ifBound_K I.kIn J' hs hf (wpAny_mono (wpAny_call (run_fnR (us := [.ref b, .ref a]) (vs := [.ref b, .ref a]) F hr pass0 I (.cons rfl (.cons rfl .nil)) h)) (fun v s' q => ?_) fun _ _ e => e))
    obtain ⟨z, H', I', rz, q⟩ := q
    cases v with
    | notImplemented => exact (by cases z <;> first | cases (show _ = _ from rz) | (obtain ⟨_, e⟩ := (show ∃ _, _ = _ from rz); cases e))
    | _ => exact wpAny_pure ⟨_, rfl, z, H', I', rz, q⟩
  unfold richCompare
  simp only [oneThing_ref]
  refine wpAny_holding (wpAny_bind (wpAny_cRoomFor hu ?_))
  refine wpAny_bind (J.type.here (wpAny_bind (J'.type.here ?_)))
  have hq : ((Value.ref C != Value.ref E) = true) := by
    simp only [bne_iff_ne, ne_eq, Value.ref.injEq]
    exact fun z => hne z.symm
  rw [if_pos hq]
  refine wpAny_bind ((PySem.W.looks_subIn I.kIn hsub).here ?_)
  simp only [if_true]
  refine wpAny_bind (wpAny_mono one (fun r s' z => ?_) fun _ _ e => e)
  obtain ⟨v, rfl, hq⟩ := z
  exact wpAny_bind (wpAny_rule (wpAny_pure hq))
/-- a == b, a an object -/
def rEqO (X : Cx) (L : List (Str × Fn)) (S : List (Str × Str)) : R2 := fun x y H Q => ∃ B w σ G μ P d d', Core (kp X) B w σ H G μ ∧ SH.p P G μ H ∧ DV (kp X) μ G d x ∧ DV (kp X) μ G d' y ∧ ∃ E : Str → W → Prop, Aft (eqO L S d d' w) (fun r w' => ∀ v H', RepR (kp X) B w' σ H' P r v → Q v H') E
theorem or_eqO {L : List (Str × Fn)} {S : List (Str × Str)} (M : EqOk X L S) : OpR X (compareOp .Eq) (rEqO X L S) := by
  intro pins s σ H x y v u Q I rx ry h
  obtain ⟨B, w, σ', G, μ, P, d, d', c, hp, pv, pu, E, h⟩ := h
  unfold eqO at h
  show wpAny (model X.prog X.w) X.A (richCompare .Eq v u) (EP X pins σ Q) X.xe s
  cases q : recO w.O d with
  | none => rw [q] at h; exact h.elim
  | some kr =>
    obtain ⟨k, r⟩ := kr
    obtain ⟨a, dx, fs', rfl, rfl, h1, h2, h3, h4⟩ := c.recAt q (.sh pv)
    cases (show v = Value.ref a from rx)
    rw [q] at h
    simp only at h
    cases q2 : rightO w.O d' with
    | none => rw [q2] at h; exact h.elim
    | some oc =>
      rw [q2] at h
      cases oc with
      | none =>
        simp only at h
        split at h
        · rename_i F hF
          have q3 : recO w.O d' = none := by
            unfold rightO at q2
            cases z : recO w.O d' with
            | none => rfl
            | some _ => rw [z] at q2; cases q2
          obtain ⟨tn, t1, t2, t3⟩ := dat_ty I q3 q2 c.gH (.sh pu) ry
          obtain ⟨k', f, e1, e2, e3, e4, e5⟩ := M.ex _ _ hF
          exact rc_own I M.u h3 ry (t2 _) (e5 tn t1) e1 e2 e3 e4 (lift_rd c hp (.cons (.obj h1) (.cons pu .nil)) h)
        · exact h.elim
      | some c' =>
        cases q3 : recO w.O d' with
        | none =>
          unfold rightO at q2
          rw [q3] at q2
          simp only at q2
          split at q2 <;> exact nomatch q2
        | some kr =>
          obtain ⟨k', r'⟩ := kr
          have hc' : r'.c = c' := by
            unfold rightO at q2
            rw [q3] at q2
            cases q2; rfl
          subst hc'
          obtain ⟨b, dy, gs', rfl, rfl, g1, g2, g3, g4⟩ := c.recAt q3 (.sh pu)
          cases (show u = Value.ref b from ry)
          obtain ⟨mB, J', _⟩ := ins_get I.hok g3
          obtain ⟨od', J', _⟩ := J'.look
          simp only at h
          split at h
          · rename_i hcc
            split at h
            · rename_i F hF
              obtain ⟨k', f, e1, e2, e3, e4, e5⟩ := M.ex _ _ hF
              exact rc_own I M.u h3 ry J'.type (by rw [hcc]; simp [PySem.W.notFirst]) e1 e2 e3 e4 (lift_rd c hp (.cons (.obj h1) (.cons pu .nil)) h)
            · exact h.elim
          · split at h
            · rename_i hS
              split at h
              · rename_i F hF
                obtain ⟨k', f, e1, e2, e3, e4, e5⟩ := M.ex _ _ hF
                obtain ⟨s1, s2, s3⟩ := M.sub _ _ hS
                exact rc_sub I M.u h3 g3 s1 s2 e1 e2 e3 e4 (lift_rd c hp (.cons pu (.cons (.obj h1) .nil)) h)
              · exact h.elim
            · split at h
              · rename_i hS
                split at h
                · rename_i F hF
                  obtain ⟨k', f, e1, e2, e3, e4, e5⟩ := M.ex _ _ hF
                  obtain ⟨s1, s2, s3⟩ := M.sub _ _ hS
                  exact rc_own I M.u h3 ry J'.type (by simp [PySem.W.notFirst, show (kp X).K = X.K from rfl, s3]) e1 e2 e3 e4 (lift_rd c hp (.cons (.obj h1) (.cons pu .nil)) h)
                · exact h.elim
              · exact h.elim
theorem rd_eqO {L : List (Str × Fn)} {S : List (Str × Str)} (M : EqOk X L S) (ha : PE X a (rdd (kp X) Wx fa)) (hb : PE X b (rdd (kp X) Wx fb)) (hm : behindInMarks .Eq b = false) : PE X (.Compare a [.Eq] [b] pos) (rd (kp X) Wx (eEqO L S fa fb)) := by
  refine PE.imp (pe_cmpR (or_eqO M) ha hb hm) fun σ H Q h => ?_
  obtain ⟨B, w, P, rp, h⟩ := h
  refine ⟨B, w, P, rp, (aft_bnd h).mono (fun x w1 h v H1 r1 => ?_) fun _ _ h => h⟩
  obtain ⟨G, μ, c, hp, pv⟩ := r1
  refine ⟨B, w1, P.and (sDV _ x v), ⟨G, μ, c, hp, pv⟩, (aft_bnd h).mono (fun y w2 h u H2 r2 => ?_) fun c' w' h H' rp' => h H' rp'.left⟩
  obtain ⟨G, μ, c, ⟨hp, pv⟩, pu⟩ := r2
  exact ⟨B, w2, σ, G, μ, P, x, y, c, hp, pv, pu, _, h⟩
/-! ### classmethods -/
structure CMOk (X : Cx) (C m : Str) (F : Fn) : Prop where
  ex : ∃ (k : Nat) (mc : Value) (p g : Addr), ClX.CRead X.K (clsA X.K C) mc ∧ ClX.CMet X.K (clsA X.K C) mc m p g ∧ FnR X.prog X.w X.K X.mg X.base CX0 k g (spP (kp X) F) ∧ Room k X.A
  gl : X.mg C = some (.ref (clsA X.K C))
theorem rd_cmeth {C : Str} {F : Fn} {apos p2 : Pos} {pl : Sem Bool} (M : CMOk X C m F) (hg : Gl X C) (hdb : (C == ("__debug__" : Str)) = false) (ha : PA X (e :: es) (rda (kp X) Wx fs))
    (hst : starEach (e :: es) X.env = (false, eval e X.env) :: starEach es X.env := by rfl) (hpl : (backTo pos (starEach es X.env)).any (·.1) = false := by rfl)
    (ht : eval (.Call (.Attribute (.Name C p2) m apos) (e :: es) [] pos) X.env = (do
      let ov ← eval (.Name C p2) X.env
      standAt apos.atName
      let (f, first) ← holding [ov] (getMethod ov m pl)
      callWith pos f first (backTo pos (starEach (e :: es) X.env)) (backToKw pos (keywordEach [] X.env))) := by rfl) :
    PE X (.Call (.Attribute (.Name C p2) m apos) (e :: es) [] pos) (rd (kp X) Wx (eCMth C F fs)) := by
  obtain ⟨k, mc, p, g, m1, m2, m3, m4⟩ := M.ex
  refine PE.imp (ClX.pe_cmeth (E := fun _ _ _ => False) (pe_glob (v := .ref (clsA X.K C)) hg M.gl rfl hdb) m1 m2 m3 m4 pass0 ha hst hpl ht) fun σ H Q h => ?_
  refine ⟨rfl, ?_⟩
  obtain ⟨B, w, P, rp, h⟩ := h
  refine ⟨B, w, P, rp, (aft_bnd h).mono (fun ds w1 h vs H1 r1 => ?_) fun _ _ h => h⟩
  obtain ⟨G, μ, c, hp, dvs⟩ := r1
  exact lift_rd c hp (.cons .cls dvs) h
/-- x( *a), x a slot that holds a class -/
structure MakLOk (X : Cx) (L : List (Str × Fn)) : Prop where
  ex : ∀ c F, L.lookup c = some F → ∃ (k : Nat) (f : Addr), Mk X.K (clsA X.K c) f ∧ FnR X.prog X.w X.K X.mg X.base CX0 k f (spP (kp X) F) ∧ Room (k + 1) X.A
theorem mk_rd {c : Str} {F : Fn} {B : Bs} {w : W} {σ : L2.St} {H G : Hp} {μ : List Addr} {P : SH} {Q : VK} {E : XK} {ds : List D} {vs : List V} {E' : Str → W → Prop} (c' : Core (kp X) B w σ H G μ) (hp : P.p G μ H) (pv : DVs (kp X) μ G ds vs)
    (h : Aft (makeO c F ds w) (fun r w' => ∀ v H', RepR (kp X) B w' σ H' P r v → Q v H') E') : ∀ x dx, H x = none → H dx = none → dx ≠ x →
      spP (kp X) F (V.ref x :: vs) (upd (upd H dx (.own x)) x (.ins (clsA X.K c) dx [])) (fun v H2 => v = .non ∧ Q (.ref x) H2) E := by
  intro a dx n1 n2 ne
  obtain ⟨c1, sH⟩ := c'.newObj c n1 n2 ne
  have mm : Ext μ (μ ++ [a]) := ⟨[a], rfl⟩
  unfold makeO at h
  cases q : F (.obj w.O.length :: ds) (w.O ++ [⟨c, []⟩]) with
  | bad => rw [q] at h; exact h.elim
  | exc c w' => rw [q] at h; exact h.elim
  | val r O' =>
    rw [q] at h
    cases r with
    | im d =>
      cases d with
      | non =>
        have ho : (μ ++ [a])[w.O.length]? = some a := by rw [← c'.ob.len]; simp
        refine ⟨.obj w.O.length :: ds, G, μ ++ [a], _, _, O', c1.gH, c1.gi, .cons (.obj ho) (pv.mono (Same.refl _) mm), c1.ob, q, fun v H' G' μ' k ok => ?_⟩
        have ok' : DV (kp X) μ' G' .non v := ok
        cases ok'
        exact ⟨rfl, h _ _ (ret_im (c1.went k) (P.st k.gg (mm.trans k.mm) ((LeH.of sH).trans k.le) hp) (.obj (k.mm.get ho)))⟩
      | _ => exact h.elim
    | _ => exact h.elim
theorem rd_makeV {L : List (Str × Fn)} {p1 sp_ : Pos} {fc : M D} (M : MakLOk X L) (hkeep : True) (hc : PE X (.Name x p1) (rdp (kp X) Wx fc)) (ha : PE X a (rdp (kp X) Wx fa))
    (hst : starEach [.Starred a sp_] X.env = [(true, eval a X.env)] := by rfl) : PE X (.Call (.Name x p1) [.Starred a sp_] [] pos) (rd (kp X) Wx (eMakeV L fc fa)) := by
  refine ⟨fun pins s σ H Q I h => ?_⟩
  have hh : rdp (kp X) Wx fc σ H fun y H1 => ∃ C, y = .ref C ∧ ∃ k f sp, Mk X.K C f ∧ FnR X.prog X.w X.K X.mg X.base CX0 k f sp ∧ Room (k + 1) X.A ∧ rdp (kp X) Wx fa σ H1 fun z H2 => ∃ l xs, z = V.ref l ∧ (SqT X.K H2 l xs ∨ SqL X.K H2 l xs) ∧
      ∀ x dx, H2 x = none → H2 dx = none → dx ≠ x → sp (V.ref x :: xs) (upd (upd H2 dx (.own x)) x (.ins C dx [])) (fun v H2 => v = .non ∧ Q (.ref x) H2) (fun _ _ _ => False) := by
    obtain ⟨B, w, P, rp, h⟩ := h
    refine ⟨B, w, P, rp, (aft_bnd h).mono (fun x w1 h v H1 r1 => ?_) fun _ _ h => h⟩
    obtain ⟨G, μ, c, hp, pv⟩ := r1
    obtain ⟨cF, e, h⟩ := aft_opt (aft_bnd h)
    cases x with
    | cls cn =>
      have hv : v = .ref (clsA X.K cn) := by
        cases pv with
        | sh pv => cases pv; rfl
      subst hv
      obtain ⟨F, hL, rfl⟩ := Option.map_eq_some_iff.mp e
      obtain ⟨k, f, m1, m2, m3⟩ := M.ex _ _ hL
      refine ⟨_, rfl, k, f, _, m1, m2, m3, B, w1, P, ⟨G, μ, c, hp⟩, (aft_bnd h).mono (fun y w2 h z H2 r2 => ?_) fun _ _ h => h⟩
      obtain ⟨G, μ, c, hp, pz⟩ := r2
      obtain ⟨xs, e2, h⟩ := aft_opt (aft_bnd h)
      cases y with
      | lst ys =>
        cases e2
        obtain ⟨l, vs, rfl, s1, d1⟩ := pz.list c.gH
        exact ⟨l, vs, rfl, .inr (.inl (.inl s1)), mk_rd c hp d1 h⟩
      | tup ys =>
        cases e2
        obtain ⟨l, vs, rfl, s1, g1, d1⟩ := pz.tupl c.gH
        exact ⟨l, vs, rfl, .inl s1, mk_rd c hp d1 h⟩
      | _ => cases e2
    | _ => cases e
  refine wpAny_Call_Name_kw (thn (hc.run pins s σ H _ I hh) fun u s1 ⟨y, H1, I1, r1, C, ey, k, f, sp, m1, m2, m3, q⟩ => ?_)
  subst ey
  obtain rfl : u = Value.ref C := r1
  refine PySem.W.callWith_S (h₀ := X.base) I.ok.mod.kin m1.kp (thn (ha.run pins s1 σ H1 _ I1 q) fun v s2 ⟨z, H2, I2, rz, l, xs, ez, hxs, q2⟩ => ?_) hst
  subst ez
  obtain rfl : v = Value.ref l := rz
  exact StX.star_any I2 hxs fun us s3 I3 rv => ⟨I3.kIn, StX.run_makeR m1 m2 m3 pass0 I3 rv q2⟩
/-- C.f, a constant of the class -/
theorem rd_con {C : Str} {d : D} {v : V} {u mc : Value} {p2 : Pos} (gl : X.mg C = some (.ref (clsA X.K C))) (r : ClX.CRead X.K (clsA X.K C) mc) (k : ClX.CVal X.K (clsA X.K C) mc f v u) (hd : ∀ μ G, DV (kp X) μ G d v) (hg : Gl X C) (hdb : (C == ("__debug__" : Str)) = false)
    (hb : attributeBase (.Name C p2) f X.env (eval (.Name C p2) X.env) = eval (.Name C p2) X.env := by rfl) : PE X (.Attribute (.Name C p2) f pos) (rd (kp X) Wx (eC d)) := by
  refine PE.imp (ClX.pe_cval (pe_glob (v := .ref (clsA X.K C)) hg gl rfl hdb) hb) fun σ H Q h => ?_
  obtain ⟨B, w, P, ⟨G, μ, c, hp⟩, h⟩ := h
  exact ⟨_, mc, v, u, rfl, r, k, h v H (ret_im c hp (hd μ G))⟩
/-- try: whose body raises nothing -/
theorem rs_try0 {body : List Stmt} {h₀ : ExceptHandler} {hs : List ExceptHandler} {b : MS} (hb : PSs X.nox body (rdS (kp X) W0 b)) : PS X (.Try body (h₀ :: hs) [] [] pos) (rdS (kp X) W0 b) := ps_try_thru0 hb
def sBad : MS := M.opt none
theorem rs_bad {st : Stmt} : PS X st (rdS (kp X) Wx sBad) := ⟨fun _ _ _ _ _ _ ⟨_, _, _, _, h⟩ => h.elim⟩
end
end DL
end
section
set_option Elab.async false
set_option linter.all false
set_option maxRecDepth 100000
set_option maxHeartbeats 1000000
/-! DLr: an own == as a test; the classes' tables as the row has them. -/
namespace DL
open PySem PySem.Spec PyProof.Rows L2
section
variable {X : Cx} {Wx : Wish} {a b : Expr} {pos : Pos} {fa fb : M D}
theorem rd_teqO {L : List (Str × Fn)} {S : List (Str × Str)} (M : EqOk X L S) (ha : PE X a (rdd (kp X) Wx fa)) (hb : PE X b (rdd (kp X) Wx fb)) (hm : behindInMarks .Eq b = false) : PT X (.Compare a [.Eq] [b] pos) (rdt (kp X) Wx (tV (fz (eEqO L S fa fb)))) := by
  refine PT.imp (pt_cmpR (or_eqO M) ha hb hm) fun σ H Q h => ?_
  obtain ⟨B, w, P, rp, h⟩ := h
  refine ⟨B, w, P, rp, (aft_bnd (aft_bnd (aft_bnd h))).mono (fun x w1 h v H1 r1 => ?_) fun _ _ h => h⟩
  obtain ⟨G, μ, c, hp, pv⟩ := r1
  refine ⟨B, w1, P.and (sDV _ x v), ⟨G, μ, c, hp, pv⟩, (aft_bnd h).mono (fun y w2 h u H2 r2 => ?_) fun c' w' h H' rp' => h H' rp'.left⟩
  obtain ⟨G, μ, c, ⟨hp, pv⟩, pu⟩ := r2
  refine ⟨B, w2, σ, G, μ, P, x, y, c, hp, pv, pu, _, h.mono (fun r w3 h z H3 r3 => ?_) fun _ _ h => h⟩
  obtain ⟨G, μ, c, hp, t⟩ := r3
  cases r with
  | im d => cases d with
    | bl k => have hz : DV (kp X) μ G (.bl k) z := t.ok; cases hz; exact ⟨k, rfl, h _ ⟨G, μ, c, hp⟩⟩
    | _ => exact h.elim
  | _ => exact h.elim
end
theorem Cal.nox {X : Cx} {x : Str} {F : Fn} (C : Cal X x F) : Cal X.nox x F := ⟨C.ex⟩
theorem MetOk.nox {X : Cx} {L : List (Str × Fn)} {m : Str} (C : MetOk X L m) : MetOk X.nox L m := ⟨C.ex⟩
theorem MetOk.blk {X : Cx} {L : List (Str × Fn)} {m : Str} {s : Shared} {H : Hp} {scope : Scope} {cenv : Env} {fp : List Addr} (C : MetOk X L m) : MetOk (X.blk s H scope cenv fp) L m := ⟨C.ex⟩
theorem PropOk.nox {X : Cx} {L : List (Str × Fn)} {m : Str} (C : PropOk X L m) : PropOk X.nox L m := ⟨C.ex⟩
theorem PropOk.blk {X : Cx} {L : List (Str × Fn)} {m : Str} {s : Shared} {H : Hp} {scope : Scope} {cenv : Env} {fp : List Addr} (C : PropOk X L m) : PropOk (X.blk s H scope cenv fp) L m := ⟨C.ex⟩
theorem MakOk.nox {X : Cx} {c : Str} {F : Fn} (C : MakOk X c F) : MakOk X.nox c F := ⟨C.ex⟩
theorem MakOk.blk {X : Cx} {c : Str} {F : Fn} {s : Shared} {H : Hp} {scope : Scope} {cenv : Env} {fp : List Addr} (C : MakOk X c F) : MakOk (X.blk s H scope cenv fp) c F := ⟨C.ex⟩
theorem kit_one {K : PySem.W.Frag} {t : Value} {C : Addr} {v : Bool} (h1 : PySem.W.isClsIn K C = true) (h2 : PySem.W.typeIn K (.ref C) = some (.type "type")) (h3 : PySem.W.subIn K t (.ref C) = some v) (h4 : t = .ref C → v = true) : PySem.W.kitOne K t (.ref C) = some v := by
  unfold PySem.W.kitOne
  split
  · rename_i h
    rw [h4 (beq_iff_eq.mp h)]
  · unfold PySem.W.kitCls
    have : ((PySem.W.clsIn K C).isSome && PySem.W.typeIn K (.ref C) == some (.type "type")) = true := by
      rw [h2, show (PySem.W.clsIn K C).isSome = true from h1]
      simp
    simp only [this, if_true]
    exact h3
theorem kit_self {K : PySem.W.Frag} {C : Addr} : PySem.W.kitOne K (.ref C) (.ref C) = some true := by
  unfold PySem.W.kitOne
  rw [if_pos (beq_iff_eq.mpr rfl)]
theorem sub_cons {K : PySem.W.Frag} {a b : Str} {S : List (Str × Str)} (h1 : PySem.W.subIn K (.ref (clsA K a)) (.ref (clsA K b)) = some true) (h2 : PySem.W.subIn K (.ref (clsA K b)) (.ref (clsA K a)) = some false)
    (r : ∀ c d, S.contains (c, d) = true → PySem.W.subIn K (.ref (clsA K c)) (.ref (clsA K d)) = some true ∧ clsA K c ≠ clsA K d ∧ PySem.W.subIn K (.ref (clsA K d)) (.ref (clsA K c)) = some false) :
    ∀ c d, ((a, b) :: S).contains (c, d) = true → PySem.W.subIn K (.ref (clsA K c)) (.ref (clsA K d)) = some true ∧ clsA K c ≠ clsA K d ∧ PySem.W.subIn K (.ref (clsA K d)) (.ref (clsA K c)) = some false := fun c d hd => by
  rw [List.contains_cons, Bool.or_eq_true, beq_iff_eq] at hd
  rcases hd with e | hd
  · cases e
    refine ⟨h1, fun z => ?_, h2⟩
    rw [z] at h1 h2
    rw [h1] at h2; cases h2
  · exact r c d hd
section
variable {P : Program} {w : World} {K : PySem.W.Frag} {mg : Str → Option Value} {base : Heap} {n k : Nat} {m c : Str} {F : Fn} {f : Addr} {L : List (Str × Fn)}
/-- a field: no class of the table has its name -/
def FldR (K : PySem.W.Frag) (cs : List Str) (f : Str) : Prop := ∀ c, cs.contains c = true → Cls K (clsA K c) ∧ NoAttr K (clsA K c) f
theorem FldR.nil {f : Str} : FldR K [] f := fun c h => nomatch h
theorem FldR.cons {cs : List Str} {f : Str} (h : Cls K (clsA K c)) (n : NoAttr K (clsA K c) f) (r : FldR K cs f) : FldR K (c :: cs) f := fun d hd => by
  rw [List.contains_cons, Bool.or_eq_true, beq_iff_eq] at hd
  rcases hd with rfl | hd
  · exact ⟨h, n⟩
  · exact r d hd
theorem look_cons {α : Type} {Q : Str → α → Prop} {c : Str} {x : α} {L : List (Str × α)} (h : Q c x) (r : ∀ d y, L.lookup d = some y → Q d y) : ∀ d y, ((c, x) :: L).lookup d = some y → Q d y := fun d y e => by
  simp only [List.lookup] at e
  split at e
  · rename_i z
    rw [beq_iff_eq] at z
    subst z; cases e; exact h
  · exact r d y e
theorem look_nil {α : Type} {Q : Str → α → Prop} : ∀ d y, ([] : List (Str × α)).lookup d = some y → Q d y := fun d y e => nomatch e
structure MetR (P : Program) (w : World) (K : PySem.W.Frag) (mg : Str → Option Value) (base : Heap) (n : Nat) (L : List (Str × Fn)) (m : Str) : Prop where
  ex : ∀ c F, L.lookup c = some F → ∃ (k : Nat) (f : Addr), Cls K (clsA K c) ∧ Meth K (clsA K c) m f ∧ FnR P w K mg base CX0 k f (spP ⟨P, w, K⟩ F) ∧ k ≤ n
theorem MetR.nil : MetR P w K mg base n [] m := ⟨look_nil⟩
theorem MetR.cons (cl : Cls K (clsA K c)) (me : Meth K (clsA K c) m f) (G : FnR P w K mg base CX0 k f (spP ⟨P, w, K⟩ F)) (r : MetR P w K mg base n L m) (hk : k ≤ n := by decide) : MetR P w K mg base n ((c, F) :: L) m :=
  ⟨look_cons (Q := fun c F => ∃ (k : Nat) (f : Addr), Cls K (clsA K c) ∧ Meth K (clsA K c) m f ∧ FnR P w K mg base CX0 k f (spP ⟨P, w, K⟩ F) ∧ k ≤ n) ⟨k, f, cl, me, G, hk⟩ r.ex⟩
theorem MetR.ok {X : Cx} (h : MetR X.prog X.w X.K X.mg X.base n L m) (hr : Room n X.A) : MetOk X L m := ⟨fun c F e => let ⟨k, f, a, b, d, g⟩ := h.ex c F e; ⟨k, f, a, b, d, hr.mono g⟩⟩
structure PropR (P : Program) (w : World) (K : PySem.W.Frag) (mg : Str → Option Value) (base : Heap) (n : Nat) (L : List (Str × Fn)) (m : Str) : Prop where
  ex : ∀ c F, L.lookup c = some F → ∃ (k : Nat) (p g : Addr), Cls K (clsA K c) ∧ PropOf K (clsA K c) m p g ∧ FnR P w K mg base CX0 k g (spP ⟨P, w, K⟩ F) ∧ k + 1 ≤ n
theorem PropR.nil : PropR P w K mg base n [] m := ⟨look_nil⟩
theorem PropR.cons {p : Addr} (cl : Cls K (clsA K c)) (me : PropOf K (clsA K c) m p f) (G : FnR P w K mg base CX0 k f (spP ⟨P, w, K⟩ F)) (r : PropR P w K mg base n L m) (hk : k + 1 ≤ n := by decide) : PropR P w K mg base n ((c, F) :: L) m :=
  ⟨look_cons (Q := fun c F => ∃ (k : Nat) (p g : Addr), Cls K (clsA K c) ∧ PropOf K (clsA K c) m p g ∧ FnR P w K mg base CX0 k g (spP ⟨P, w, K⟩ F) ∧ k + 1 ≤ n) ⟨k, p, f, cl, me, G, hk⟩ r.ex⟩
theorem PropR.ok {X : Cx} (h : PropR X.prog X.w X.K X.mg X.base n L m) (hr : Room n X.A) : PropOk X L m := ⟨fun c F e => let ⟨k, p, f, a, b, d, g⟩ := h.ex c F e; ⟨k, p, f, a, b, d, hr.mono g⟩⟩
structure MakR (P : Program) (w : World) (K : PySem.W.Frag) (mg : Str → Option Value) (base : Heap) (n : Nat) (c : Str) (F : Fn) : Prop where
  ex : ∃ (k : Nat) (f : Addr), Mk K (clsA K c) f ∧ FnR P w K mg base CX0 k f (spP ⟨P, w, K⟩ F) ∧ k + 1 ≤ n ∧ mg c = some (.ref (clsA K c))
theorem MakR.ok {X : Cx} {n : Nat} {c : Str} {F : Fn} (h : MakR X.prog X.w X.K X.mg X.base n c F) (hr : Room n X.A) : MakOk X c F := let ⟨k, f, a, b, d, g⟩ := h.ex; ⟨k, f, a, b, hr.mono d, g⟩
structure MakLR (P : Program) (w : World) (K : PySem.W.Frag) (mg : Str → Option Value) (base : Heap) (n : Nat) (L : List (Str × Fn)) : Prop where
  ex : ∀ c F, L.lookup c = some F → MakR P w K mg base n c F
theorem MakLR.nil : MakLR P w K mg base n [] := ⟨look_nil⟩
theorem MakLR.cons (h : MakR P w K mg base n c F) (r : MakLR P w K mg base n L) : MakLR P w K mg base n ((c, F) :: L) := ⟨look_cons (Q := MakR P w K mg base n) h r.ex⟩
theorem MakLR.ok {X : Cx} {n : Nat} {L : List (Str × Fn)} (h : MakLR X.prog X.w X.K X.mg X.base n L) (hr : Room n X.A) : MakLOk X L := ⟨fun c F e => let ⟨k, f, a, b, d, g⟩ := (h.ex c F e).ex; ⟨k, f, a, b, hr.mono d⟩⟩
def tns : List String := ["NoneType", "bool", "int", "str", "tuple", "list"]
structure IsCR (K : PySem.W.Frag) (mg : Str → Option Value) (C : Str) (L : List (Str × Bool)) : Prop where
  gl : mg C = some (.ref (clsA K C))
  dat : tns.all (fun tn => PySem.W.kitOne K (.type tn) (.ref (clsA K C)) == some false) = true
  obs : ∀ c b, L.lookup c = some b → C8.InsC K (clsA K c) ∧ PySem.W.kitOne K (.ref (clsA K c)) (.ref (clsA K C)) = some b
theorem IsCR.ok {X : Cx} {C : Str} {L : List (Str × Bool)} (h : IsCR X.K X.mg C L) : IsCOk X C L := ⟨h.gl, fun tn ht => by
  have := List.all_eq_true.mp h.dat tn ht
  exact beq_iff_eq.mp this, h.obs⟩
structure EqR (P : Program) (w : World) (K : PySem.W.Frag) (mg : Str → Option Value) (base : Heap) (n : Nat) (L : List (Str × Fn)) (S : List (Str × Str)) : Prop where
  ex : ∀ c F, L.lookup c = some F → ∃ (k : Nat) (f : Addr), PySem.W.findIn K (.ref (clsA K c)) "__eq__" = some (some (.ref f)) ∧ PySem.W.isFn K (.ref f) = true ∧ FnR P w K mg base CX0 k f (spP ⟨P, w, K⟩ F) ∧ k ≤ n ∧ tns.all (fun tn => PySem.W.notFirst K (clsA K c) (.type tn)) = true
  sub : ∀ c d, S.contains (c, d) = true → PySem.W.subIn K (.ref (clsA K c)) (.ref (clsA K d)) = some true ∧ clsA K c ≠ clsA K d ∧ PySem.W.subIn K (.ref (clsA K d)) (.ref (clsA K c)) = some false
theorem EqR.ok {X : Cx} {n : Nat} {L : List (Str × Fn)} {S : List (Str × Str)} (h : EqR X.prog X.w X.K X.mg X.base n L S) (hr : Room n X.A) : EqOk X L S := ⟨fun c F e => let ⟨k, f, a, b, d, g, i⟩ := h.ex c F e; ⟨k, f, a, b, d, hr.mono g, fun tn ht => List.all_eq_true.mp i tn ht⟩, h.sub, hr.units0⟩
structure CMR (P : Program) (w : World) (K : PySem.W.Frag) (mg : Str → Option Value) (base : Heap) (n : Nat) (C m : Str) (F : Fn) : Prop where
  ex : ∃ (k : Nat) (mc : Value) (p g : Addr), ClX.CRead K (clsA K C) mc ∧ ClX.CMet K (clsA K C) mc m p g ∧ FnR P w K mg base CX0 k g (spP ⟨P, w, K⟩ F) ∧ k ≤ n
  gl : mg C = some (.ref (clsA K C))
theorem CMR.ok {X : Cx} {n : Nat} {C m : Str} {F : Fn} (h : CMR X.prog X.w X.K X.mg X.base n C m F) (hr : Room n X.A) : CMOk X C m F := ⟨let ⟨k, mc, p, g, a, b, d, e⟩ := h.ex; ⟨k, mc, p, g, a, b, d, hr.mono e⟩, h.gl⟩
/-- an int constant of a class -/
structure ConR (K : PySem.W.Frag) (mg : Str → Option Value) (C f : Str) (i : Int) : Prop where
  gl : mg C = some (.ref (clsA K C))
  ex : ∃ (mc : Value) (t : Tok), ClX.CRead K (clsA K C) mc ∧ PySem.W.findCls K (.ref (clsA K C)) mc f = some (.val (.int i t))
theorem rd_conI {X : Cx} {Wx : Wish} {C f : Str} {i : Int} {p2 pos : Pos} (h : ConR X.K X.mg C f i) (hg : Gl X C) (hdb : (C == ("__debug__" : Str)) = false)
    (hb : attributeBase (.Name C p2) f X.env (eval (.Name C p2) X.env) = eval (.Name C p2) X.env := by rfl) : PE X (.Attribute (.Name C p2) f pos) (rd (kp X) Wx (eC (.int i))) :=
  let ⟨mc, t, a, b⟩ := h.ex
  rd_con (v := .int i) h.gl a ⟨b, ⟨t, rfl⟩⟩ (fun _ _ => .int i) hg hdb hb
end
end DL
end
section
set_option Elab.async false
set_option linter.all false
/-! the defs' denotations, printed by genall.py -/
namespace DL
open PySem L2
noncomputable section
def B_is_integer : MS := sRet (eAnd (eFn (fIs .int) (aCons (pVar 0) aNil)) (eAnd (eNot (eFn (fIs .bool) (aCons (pVar 0) aNil))) (eChain .LtE .LtE (pVar 1) (pVar 0) (pVar 2))))
def F_is_integer : Fn := defF 3 3 B_is_integer
def B_is_row : MS := sRet (eAnd (eFn (fIs .str) (aCons (pVar 0) aNil)) (eAnd (eChain .LtE .LtE (fz (eC (.int 1))) (fz (eFn fLen (aCons (pVar 0) (aNil)))) (fz (eC (.int 40)))) (eFn fAll (aCons (fz (eLc [1] [] (DL.iStr (pVar 0)) (gN 1) (tYesM) (fz (eCmp .In (pVar 1) (fz (eC (.str ".x"))))))) (aNil)))))
def F_is_row : Fn := defF 1 2 B_is_row
def B_is_booking : MS := sSeq (sIf (tOrM (tNotM (tV (fz (eFn (fIs .tuple) (aCons (pVar 1) aNil))))) (tOrM (tV (fz (eCmp .NotEq (fz (eFn fLen (aCons (pVar 1) (aNil)))) (fz (eC (.int 2)))))) (tNotM (tV (fz (eCall0 F_is_integer (aCons (fz (eIx (pVar 1) (fz (eC (.int 0))))) (aCons (fz (eC (.int 0))) (aCons (fz (eBin .Sub (fz (eFn fLen (aCons (pVar 0) (aNil)))) (fz (eC (.int 1))))) (aNil)))))))))) (sRet (eC (.bl false))) (sNx)) (sRet (eCall0 F_is_integer (aCons (fz (eIx (pVar 1) (fz (eC (.int 1))))) (aCons (fz (eC (.int 1))) (aCons (fz (eBin .Sub (fz (eFn fLen (aCons (pVar 0) (aNil)))) (fz (eIx (pVar 1) (fz (eC (.int 0))))))) (aNil))))))
def F_is_booking : Fn := defF 2 2 B_is_booking
def B_gaps_1 : MS := sSeq (sIf (tAndM (tV (fz (eCmp .Eq (pVar 4) (fz (eC (.str ".")))))) (tV (fz (eCmp .Is (pVar 2) (fz (eC .non)))))) (sAsg (gN 2) (eVar 3)) (sNx)) (sIf (tAndM (tV (fz (eCmp .Eq (pVar 4) (fz (eC (.str "x")))))) (tV (fz (eCmp .IsNot (pVar 2) (fz (eC .non)))))) (sSeq (sApp 1 (fz (eTup (aCons (fz (eVar 2)) (aCons (fz (eBin .Sub (pVar 3) (pVar 2))) (aNil)))))) (sAsg (gN 2) (eC .non))) (sNx))
def B_gaps : MS := sSeq (sPar [1, 2] (aConsR (eLst (aNil)) (aConsR (eC .non) (aNilR)))) (sSeq (sFor (iEn (aCons (fz (eBin .Add (pVar 0) (fz (eC (.str "x"))))) (aNil))) (gT [3, 4]) (B_gaps_1)) (sRetV 1))
def F_gaps : Fn := defF 1 5 B_gaps
def B_law_cell : MS := sSeq (sIf (tV (fz (eCmp .Lt (pVar 1) (fz (eFn fLen (aCons (pVar 0) (aNil))))))) (sRet (eIx (pVar 0) (pVar 1))) (sNx)) (sSeq (sIf (tV (fz (eCmp .Eq (fz (eFn fLen (aCons (pVar 0) (aNil)))) (fz (eC (.int 0)))))) (sRet (eBin .Add (fz (eBin .Mult (fz (eC (.int 7919))) (pVar 1))) (fz (eC (.int 101))))) (sNx)) (sRet (eBin .Add (fz (eBin .Mod (fz (eIx (pVar 0) (fz (eBin .Mod (pVar 1) (fz (eFn fLen (aCons (pVar 0) (aNil)))))))) (fz (eC (.int 1000003))))) (fz (eBin .Mult (fz (eC (.int 7919))) (pVar 1))))))
def F_law_cell : Fn := defF 2 2 B_law_cell
def B_law_digits_1 : MS := sSeq (sAsg (gN 9) (eBin .Mult (fz (eBin .Mod (pVar 5) (fz (eIx (pVar 4) (fz (eBin .Mod (pVar 8) (fz (eC (.int 8))))))))) (fz (eBin .Add (fz (eC (.int 48271))) (fz (eBin .Mult (fz (eBin .Mult (fz (eC (.int 2))) (pVar 8))) (pVar 8))))))) (sSeq (sAsg (gN 9) (eBin .Add (fz (eBin .Add (pVar 9) (fz (eBin .Mult (fz (eBin .Mult (fz (eC (.int 7919))) (fz (eBin .Add (pVar 8) (fz (eC (.int 1))))))) (fz (eBin .Add (pVar 8) (fz (eC (.int 1))))))))) (fz (eBin .Mult (fz (eC (.int 104729))) (pVar 1))))) (sSeq (sAsg (gN 9) (eBin .Mod (pVar 9) (fz (eIx (pVar 4) (fz (eBin .Mod (fz (eBin .Add (fz (eBin .Mult (fz (eC (.int 3))) (pVar 8))) (pVar 1))) (fz (eC (.int 8))))))))) (sSeq (sAsg (gN 9) (eBin .Mod (fz (eBin .Mult (fz (eBin .Mult (pVar 9) (pVar 9))) (pVar 9))) (fz (eIx (pVar 4) (fz (eBin .Mod (fz (eBin .Add (pVar 8) (fz (eC (.int 5))))) (fz (eC (.int 8))))))))) (sSeq (sIf (tV (fz (eCmp .Gt (pVar 6) (fz (eC (.int 0)))))) (sAsg (gN 9) (eVar 6)) (sNx)) (sSeq (sApp 7 (fz (eBin .Mod (pVar 9) (pVar 3)))) (sAsg (gN 6) (eBin .FloorDiv (pVar 6) (pVar 3))))))))
def B_law_digits : MS := sSeq (sAsg (gN 4) (eTup (aCons (fz (eC (.int 2147483647))) (aCons (fz (eC (.int 2147483629))) (aCons (fz (eC (.int 2147483587))) (aCons (fz (eC (.int 2147483579))) (aCons (fz (eC (.int 2147483563))) (aCons (fz (eC (.int 2147483549))) (aCons (fz (eC (.int 2147483543))) (aCons (fz (eC (.int 2147483497))) (aNil))))))))))) (sSeq (sAsg (gN 5) (eCall0 F_law_cell (aCons (fz (eVar 0)) (aCons (fz (eVar 1)) (aNil))))) (sSeq (sAsg (gN 6) (eIf (tV (fz (eCmp .GtE (pVar 5) (fz (eBin .Pow (fz (eC (.int 10))) (fz (eC (.int 18)))))))) (eVar 5) (eC (.int 0)))) (sSeq (sAsg (gN 7) (eLst (aNil))) (sSeq (sFor (iRg1 (aCons (pVar 2) (aNil))) (gN 8) (B_law_digits_1)) (sRetV 7)))))
def F_law_digits : Fn := defF 4 10 B_law_digits
def B_law_is_integer : MS := sRet (eAnd (eFn (fIs .int) (aCons (pVar 0) aNil)) (eAnd (eNot (eFn (fIs .bool) (aCons (pVar 0) aNil))) (eChain .LtE .LtE (pVar 1) (pVar 0) (pVar 2))))
def F_law_is_integer : Fn := defF 3 3 B_law_is_integer
def B_law_same_bool : MS := sRet (eAnd (eFn (fIs .bool) (aCons (pVar 0) aNil)) (eCmp .Eq (pVar 0) (pVar 1)))
def F_law_same_bool : Fn := defF 2 2 B_law_same_bool
def B_law_paths_1 (Fr : Fn) : MS := sAsg (gN 1) (eBin .Add (pVar 1) (fz (eLc [4] [2] (iSeq (fz (eCall0 Fr (aCons (fz (eVar 3)) (aNil))))) (gN 4) (tYesM) (fz (eBin .Add (fz (eTup (aCons (fz (eVar 2)) (aNil)))) (pVar 4))))))
def B_law_paths (Fr : Fn) : MS := sSeq (sAsg (gN 1) (eLst (aCons (fz (eTup (aNil))) (aNil)))) (sSeq (sIf (tV (fz (eFn (fIsT [.list, .tuple]) (aCons (pVar 0) aNil)))) (sFor (iEn (aCons (fz (eVar 0)) (aNil))) (gT [2, 3]) (B_law_paths_1 Fr)) (sNx)) (sRetV 1))
def FN_law_paths : Nat → Fn
  | 0 => fun _ _ => .bad
  | n + 1 => defF 1 5 (B_law_paths (FN_law_paths n))
def F_law_paths : Fn := FN_law_paths 8
def B_law_other_value : MS := sSeq (sAsg (gN 2) (eLst (aCons (fz (eC .non)) (aCons (fz (eC (.bl true))) (aCons (fz (eC (.bl false))) (aCons (fz (eC (.int 7))) (aCons (fz (eBin .Sub (fz (eC (.int 0))) (fz (eC (.int 1))))) (aCons (fz (eBin .Pow (fz (eC (.int 10))) (fz (eC (.int 39))))) (aCons (fz (eC (.str "0"))) (aCons (fz (eC (.str ""))) (aCons (fz (eTup (aNil))) (aCons (fz (eLst (aNil))) (aCons (fz (eTup (aCons (fz (eVar 0)) (aNil)))) (aCons (fz (eLst (aCons (fz (eVar 0)) (aNil)))) (aCons (fz (eTup (aCons (fz (eC (.int 0))) (aNil)))) (aCons (fz (eTup (aCons (fz (eC (.int 1))) (aCons (fz (eC (.int 0))) (aNil))))) (aCons (fz (eC (.int 1))) (aCons (fz (eC (.int 0))) (aNil))))))))))))))))))) (sSeq (sIf (tAndM (tV (fz (eFn (fIs .int) (aCons (pVar 0) aNil)))) (tNotM (tV (fz (eFn (fIs .bool) (aCons (pVar 0) aNil)))))) (sAsg (gN 2) (eBin .Add (fz (eLst (aCons (fz (eBin .Add (pVar 0) (fz (eC (.int 1))))) (aCons (fz (eBin .Sub (pVar 0) (fz (eC (.int 1))))) (aCons (fz (eFn fBool (aCons (pVar 0) (aNil)))) (aCons (fz (eBin .Add (pVar 0) (fz (eC (.int 1))))) (aCons (fz (eBin .Sub (pVar 0) (fz (eC (.int 1))))) (aCons (fz (eFn fBool (aCons (pVar 0) (aNil)))) (aNil))))))))) (pVar 2))) (sNx)) (sSeq (sIf (tV (fz (eFn (fIsT [.list, .tuple]) (aCons (pVar 0) aNil)))) (sAsg (gN 2) (eBin .Add (fz (eLst (aCons (fz (eFn fList (aCons (pVar 0) (aNil)))) (aCons (fz (eFn fTuple (aCons (pVar 0) (aNil)))) (aCons (fz (eFn fTuple (aCons (fz (eRev (pVar 0))) (aNil)))) (aCons (fz (eFn fList (aCons (pVar 0) (aNil)))) (aNil))))))) (pVar 2))) (sNx)) (sRet (eIx (pVar 2) (fz (eBin .Mod (fz (eIx (pVar 1) (fz (eC (.int 1))))) (fz (eFn fLen (aCons (pVar 2) (aNil))))))))))
def F_law_other_value : Fn := defF 2 3 B_law_other_value
def B_law_moved_item : MS := sSeq (sAsg (gN 3) (eBin .Mod (fz (eIx (pVar 2) (fz (eC (.int 2))))) (fz (eFn fLen (aCons (pVar 0) (aNil)))))) (sSeq (sIf (tV (fz (eCmp .Eq (fz (eBin .Mod (fz (eIx (pVar 2) (fz (eC (.int 0))))) (fz (eC (.int 3))))) (fz (eC (.int 0)))))) (sRet (eBin .Add (fz (eSl (pVar 0) (oNo) (oSo (pVar 1)))) (fz (eSl (pVar 0) (oSo (fz (eBin .Add (pVar 1) (fz (eC (.int 1)))))) (oNo))))) (sNx)) (sSeq (sIf (tV (fz (eCmp .Eq (fz (eBin .Mod (fz (eIx (pVar 2) (fz (eC (.int 0))))) (fz (eC (.int 3))))) (fz (eC (.int 1)))))) (sRet (eBin .Add (fz (eBin .Add (fz (eSl (pVar 0) (oNo) (oSo (pVar 3)))) (fz (eLst (aCons (fz (eIx (pVar 0) (pVar 1))) (aNil)))))) (fz (eSl (pVar 0) (oSo (pVar 3)) (oNo))))) (sNx)) (sSeq (sAsg (gN 4) (eBin .Add (fz (eSl (pVar 0) (oNo) (oSo (pVar 1)))) (fz (eSl (pVar 0) (oSo (fz (eBin .Add (pVar 1) (fz (eC (.int 1)))))) (oNo))))) (sRet (eBin .Add (fz (eBin .Add (fz (eSl (pVar 4) (oNo) (oSo (pVar 3)))) (fz (eLst (aCons (fz (eIx (pVar 0) (pVar 1))) (aNil)))))) (fz (eSl (pVar 4) (oSo (pVar 3)) (oNo))))))))
def F_law_moved_item : Fn := defF 3 5 B_law_moved_item
def B_law_change_at (Fr : Fn) : MS := sSeq (sIf (tV (fz (eCmp .Eq (pVar 1) (fz (eTup (aNil)))))) (sRet (eCall0 F_law_other_value (aCons (fz (eVar 0)) (aCons (fz (eVar 2)) (aNil))))) (sNx)) (sSeq (sAsg (gN 3) (eFn fList (aCons (pVar 0) (aNil)))) (sSeq (sIf (tAndM (tV (fz (eCmp .Eq (fz (eFn fLen (aCons (pVar 1) (aNil)))) (fz (eC (.int 1)))))) (tV (fz (eCmp .Eq (fz (eBin .Mod (fz (eIx (pVar 2) (fz (eC (.int 3))))) (fz (eC (.int 2))))) (fz (eC (.int 0))))))) (sAsg (gN 3) (eCall0 F_law_moved_item (aCons (fz (eVar 3)) (aCons (fz (eIx (pVar 1) (fz (eC (.int 0))))) (aCons (fz (eVar 2)) (aNil)))))) (sSetL 3 (fz (eIx (pVar 1) (fz (eC (.int 0))))) (fz (eCall0 Fr (aCons (fz (eIx (pVar 3) (fz (eIx (pVar 1) (fz (eC (.int 0))))))) (aCons (fz (eSl (pVar 1) (oSo (fz (eC (.int 1)))) (oNo))) (aCons (fz (eVar 2)) (aNil)))))))) (sRet (eIf (tV (fz (eFn (fIs .list) (aCons (pVar 0) aNil)))) (eVar 3) (eFn fTuple (aCons (pVar 3) (aNil)))))))
def FN_law_change_at : Nat → Fn
  | 0 => fun _ _ => .bad
  | n + 1 => defF 3 4 (B_law_change_at (FN_law_change_at n))
def F_law_change_at : Fn := FN_law_change_at 8
def B_law_mutated : MS := sSeq (sAsg (gN 2) (eCall0 F_law_paths (aCons (fz (eVar 0)) (aNil)))) (sRet (eCall0 F_law_change_at (aCons (fz (eVar 0)) (aCons (fz (eIx (pVar 2) (fz (eBin .Mod (fz (eIx (pVar 1) (fz (eC (.int 4))))) (fz (eFn fLen (aCons (pVar 2) (aNil)))))))) (aCons (fz (eVar 1)) (aNil))))))
def F_law_mutated : Fn := defF 2 3 B_law_mutated
def B_law_any_value (Fr : Fn) : MS := sSeq (sAsg (gN 2) (eBin .Mod (fz (eIx (pVar 0) (pVar 1))) (fz (eC (.int 12))))) (sSeq (sAsg (gN 3) (eIx (fz (eLst (aCons (fz (eBin .Sub (fz (eBin .Mod (fz (eIx (pVar 0) (fz (eBin .Add (pVar 1) (fz (eC (.int 1))))))) (fz (eC (.int 12))))) (fz (eC (.int 2))))) (aCons (fz (eBin .Sub (fz (eC (.int 0))) (fz (eBin .Pow (fz (eC (.int 10))) (fz (eC (.int 39))))))) (aCons (fz (eBin .Pow (fz (eC (.int 10))) (fz (eC (.int 39))))) (aNil)))))) (fz (eBin .Mod (fz (eIx (pVar 0) (fz (eBin .Add (pVar 1) (fz (eC (.int 2))))))) (fz (eC (.int 3))))))) (sSeq (sIf (tOrM (tV (fz (eCmp .Lt (pVar 2) (fz (eC (.int 4)))))) (tV (fz (eCmp .Gt (pVar 1) (fz (eC (.int 3))))))) (sRetV 3) (sNx)) (sSeq (sIf (tV (fz (eCmp .Lt (pVar 2) (fz (eC (.int 7)))))) (sRet (eIx (fz (eLst (aCons (fz (eC (.bl true))) (aCons (fz (eC (.bl false))) (aCons (fz (eC .non)) (aNil)))))) (fz (eBin .Sub (pVar 2) (fz (eC (.int 4))))))) (sNx)) (sSeq (sIf (tV (fz (eCmp .Lt (pVar 2) (fz (eC (.int 9)))))) (sRet (eIx (fz (eLst (aCons (fz (eC (.str ""))) (aCons (fz (eC (.str "0"))) (aCons (fz (eC (.str "a"))) (aCons (fz (eC (.str "ax"))) (aCons (fz (eC (.str "3"))) (aCons (fz (eC (.str "none"))) (aCons (fz (eC (.str "A"))) (aCons (fz (eC (.str "~"))) (aNil))))))))))) (fz (eBin .Mod (fz (eIx (pVar 0) (fz (eBin .Add (pVar 1) (fz (eC (.int 3))))))) (fz (eC (.int 8))))))) (sNx)) (sSeq (sAsg (gN 4) (eLc [5] [0, 1] (iRg1 (aCons (fz (eBin .Mod (fz (eIx (pVar 0) (fz (eBin .Add (pVar 1) (fz (eC (.int 4))))))) (fz (eC (.int 4))))) (aNil))) (gN 5) (tYesM) (fz (eCall0 Fr (aCons (fz (eBin .Add (fz (eSl (pVar 0) (oSo (pVar 5)) (oNo))) (fz (eSl (pVar 0) (oNo) (oSo (pVar 5)))))) (aCons (fz (eBin .Add (pVar 1) (fz (eC (.int 1))))) (aNil))))))) (sRet (eIf (tV (fz (eCmp .Eq (pVar 2) (fz (eC (.int 9)))))) (eVar 4) (eFn fTuple (aCons (pVar 4) (aNil))))))))))
def FN_law_any_value : Nat → Fn
  | 0 => fun _ _ => .bad
  | n + 1 => defF 2 6 (B_law_any_value (FN_law_any_value n))
def F_law_any_value : Fn := FN_law_any_value 8
def B_law_row_1 : MS := sAsg (gN 2) (eBin .Add (pVar 2) (fz (eIf (tV (fz (eCmp .Eq (fz (eBin .Mod (pVar 3) (fz (eIx (fz (eLst (aCons (fz (eC (.int 4))) (aCons (fz (eC (.int 9))) (aCons (fz (eC (.int 1000))) (aNil)))))) (fz (eBin .Mod (fz (eBin .FloorDiv (fz (eIx (pVar 0) (fz (eC (.int 0))))) (fz (eC (.int 100))))) (fz (eC (.int 3))))))))) (fz (eC (.int 0)))))) (eC (.str "x")) (eC (.str ".")))))
def B_law_row : MS := sSeq (sAsg (gN 2) (eC (.str ""))) (sSeq (sFor (iSeq (fz (eSl (pVar 0) (oSo (fz (eC (.int 1)))) (oSo (fz (eBin .Add (fz (eC (.int 2))) (fz (eBin .Mod (fz (eIx (pVar 0) (fz (eC (.int 0))))) (pVar 1))))))))) (gN 3) (B_law_row_1)) (sRetV 2))
def F_law_row : Fn := defF 2 4 B_law_row
def B_law_gaps_1 : MS := sIf (tAndM (tV (fz (eCmp .Eq (fz (eIx (pVar 0) (pVar 2))) (fz (eC (.str ".")))))) (tOrM (tV (fz (eCmp .Eq (pVar 2) (fz (eC (.int 0)))))) (tV (fz (eCmp .Eq (fz (eIx (pVar 0) (fz (eBin .Sub (pVar 2) (fz (eC (.int 1))))))) (fz (eC (.str "x")))))))) (sApp 1 (fz (eTup (aCons (fz (eVar 2)) (aCons (fz (eMt findD (fz (eBin .Add (fz (eSl (pVar 0) (oSo (pVar 2)) (oNo))) (fz (eC (.str "x"))))) (fz (eC (.str "x"))))) (aNil)))))) (sNx)
def B_law_gaps : MS := sSeq (sAsg (gN 1) (eLst (aNil))) (sSeq (sFor (iRg1 (aCons (fz (eFn fLen (aCons (pVar 0) (aNil)))) (aNil))) (gN 2) (B_law_gaps_1)) (sRetV 1))
def F_law_gaps : Fn := defF 1 3 B_law_gaps
def B_law_is_row : MS := sSeq (sIf (tOrM (tNotM (tV (fz (eFn (fIs .str) (aCons (pVar 0) aNil))))) (tNotM (tV (fz (eChain .LtE .LtE (fz (eC (.int 1))) (fz (eFn fLen (aCons (pVar 0) (aNil)))) (fz (eC (.int 40)))))))) (sRet (eC (.bl false))) (sNx)) (sRet (eCmp .Eq (fz (eLc [1] [] (DL.iStr (pVar 0)) (gN 1) (tV (fz (eCmp .NotIn (pVar 1) (fz (eTup (aCons (fz (eC (.str "."))) (aCons (fz (eC (.str "x"))) (aNil)))))))) (fz (eVar 1)))) (fz (eLst (aNil)))))
def F_law_is_row : Fn := defF 1 2 B_law_is_row
def B_law_is_booking : MS := sSeq (sIf (tOrM (tNotM (tV (fz (eFn (fIs .tuple) (aCons (pVar 1) aNil))))) (tV (fz (eCmp .NotEq (fz (eFn fLen (aCons (pVar 1) (aNil)))) (fz (eC (.int 2))))))) (sRet (eC (.bl false))) (sNx)) (sSeq (sIf (tOrM (tNotM (tV (fz (eCall0 F_law_is_integer (aCons (fz (eIx (pVar 1) (fz (eC (.int 0))))) (aCons (fz (eC (.int 0))) (aCons (fz (eC (.int 40))) (aNil)))))))) (tNotM (tV (fz (eCall0 F_law_is_integer (aCons (fz (eIx (pVar 1) (fz (eC (.int 1))))) (aCons (fz (eC (.int 1))) (aCons (fz (eC (.int 40))) (aNil))))))))) (sRet (eC (.bl false))) (sNx)) (sRet (eCmp .LtE (fz (eBin .Add (fz (eIx (pVar 1) (fz (eC (.int 0))))) (fz (eIx (pVar 1) (fz (eC (.int 1))))))) (fz (eFn fLen (aCons (pVar 0) (aNil)))))))
def F_law_is_booking : Fn := defF 2 2 B_law_is_booking
def B_is_free : MS := sSeq (sAsg (gT [2, 3]) (eVar 1)) (sRet (eCmp .NotIn (fz (eC (.str "x"))) (fz (eSl (pVar 0) (oSo (pVar 2)) (oSo (fz (eBin .Add (pVar 2) (pVar 3))))))))
def F_is_free : Fn := defF 2 4 B_is_free
def B_leaves_single_1 : MS := sIf (tV (fz (eChain .LtE .Lt (pVar 4) (pVar 2) (fz (eBin .Add (pVar 4) (pVar 5)))))) (sRet (eCmp .In (fz (eC (.int 1))) (fz (eTup (aCons (fz (eBin .Sub (pVar 2) (pVar 4))) (aCons (fz (eBin .Sub (fz (eBin .Sub (fz (eBin .Add (pVar 4) (pVar 5))) (pVar 2))) (pVar 3))) (aNil))))))) (sNx)
def B_leaves_single : MS := sSeq (sAsg (gT [2, 3]) (eVar 1)) (sSeq (sFor (iSeq (fz (eCall0 F_gaps (aCons (fz (eVar 0)) (aNil))))) (gT [4, 5]) (B_leaves_single_1)) (sRet (eC (.bl false))))
def F_leaves_single : Fn := defF 2 6 B_leaves_single
def B_is_allowed : MS := sRet (eAnd (eCall0 F_is_free (aCons (fz (eVar 0)) (aCons (fz (eVar 1)) (aNil)))) (eNot (eCall0 F_leaves_single (aCons (fz (eVar 0)) (aCons (fz (eVar 1)) (aNil))))))
def F_is_allowed : Fn := defF 2 2 B_is_allowed
def B_allowed_bookings : MS := sRet (eLc [2] [0, 1] (iRg1 (aCons (fz (eBin .Add (fz (eBin .Sub (fz (eFn fLen (aCons (pVar 0) (aNil)))) (pVar 1))) (fz (eC (.int 1))))) (aNil))) (gN 2) (tV (fz (eCall0 F_is_allowed (aCons (fz (eVar 0)) (aCons (fz (eTup (aCons (fz (eVar 2)) (aCons (fz (eVar 1)) (aNil))))) (aNil)))))) (fz (eTup (aCons (fz (eVar 2)) (aCons (fz (eVar 1)) (aNil))))))
def F_allowed_bookings : Fn := defF 2 3 B_allowed_bookings
def B_law_allowed_1 : MS := sAsg (gN 5) (eBin .Add (pVar 5) (fz (eC (.int 1))))
def C_law_allowed_1 : M Bool := tAndM (tV (fz (eCmp .Gt (fz (eBin .Sub (pVar 2) (pVar 5))) (fz (eC (.int 0)))))) (tV (fz (eCmp .Eq (fz (eIx (pVar 0) (fz (eBin .Sub (fz (eBin .Sub (pVar 2) (pVar 5))) (fz (eC (.int 1))))))) (fz (eC (.str "."))))))
def B_law_allowed_2 : MS := sAsg (gN 6) (eBin .Add (pVar 6) (fz (eC (.int 1))))
def C_law_allowed_2 : M Bool := tAndM (tV (fz (eCmp .Lt (fz (eBin .Add (pVar 4) (pVar 6))) (fz (eFn fLen (aCons (pVar 0) (aNil))))))) (tV (fz (eCmp .Eq (fz (eIx (pVar 0) (fz (eBin .Add (pVar 4) (pVar 6))))) (fz (eC (.str "."))))))
def B_law_allowed : MS := sSeq (sAsg (gT [2, 3]) (eVar 1)) (sSeq (sPar [4, 5, 6] (aConsR (eBin .Add (pVar 2) (pVar 3)) (aConsR (eC (.int 0)) (aConsR (eC (.int 0)) (aNilR))))) (sSeq (sIf (tV (fz (eCmp .NotEq (fz (eSl (pVar 0) (oSo (pVar 2)) (oSo (pVar 4)))) (fz (eBin .Mult (fz (eC (.str "."))) (pVar 3)))))) (sRet (eC (.bl false))) (sNx)) (sSeq (sWhile (C_law_allowed_1) (B_law_allowed_1)) (sSeq (sWhile (C_law_allowed_2) (B_law_allowed_2)) (sRet (eAnd (eCmp .NotEq (pVar 5) (fz (eC (.int 1)))) (eCmp .NotEq (pVar 6) (fz (eC (.int 1))))))))))
def F_law_allowed : Fn := defF 2 7 B_law_allowed
def B_law_every_1 : MS := sAsg (gN 1) (eBin .Add (pVar 1) (fz (eLc [3] [2] (iRg2 (aCons (fz (eC (.int 1))) (aCons (fz (eBin .Add (fz (eBin .Sub (fz (eFn fLen (aCons (pVar 0) (aNil)))) (pVar 2))) (fz (eC (.int 1))))) (aNil)))) (gN 3) (tYesM) (fz (eTup (aCons (fz (eVar 2)) (aCons (fz (eVar 3)) (aNil))))))))
def B_law_every : MS := sSeq (sAsg (gN 1) (eLst (aNil))) (sSeq (sFor (iRg1 (aCons (fz (eFn fLen (aCons (pVar 0) (aNil)))) (aNil))) (gN 2) (B_law_every_1)) (sRetV 1))
def F_law_every : Fn := defF 1 4 B_law_every
def B_taken : MS := sSeq (sAsg (gT [2, 3]) (eVar 1)) (sRet (eBin .Add (fz (eBin .Add (fz (eSl (pVar 0) (oNo) (oSo (pVar 2)))) (fz (eBin .Mult (fz (eC (.str "x"))) (pVar 3))))) (fz (eSl (pVar 0) (oSo (fz (eBin .Add (pVar 2) (pVar 3)))) (oNo)))))
def F_taken : Fn := defF 2 4 B_taken
def B_booked_1 : MS := sSeq (sIf (tNotM (tV (fz (eCall0 F_is_allowed (aCons (fz (eVar 0)) (aCons (fz (eVar 2)) (aNil))))))) (sRet (eC .non)) (sNx)) (sAsg (gN 0) (eCall0 F_taken (aCons (fz (eVar 0)) (aCons (fz (eVar 2)) (aNil)))))
def B_booked : MS := sSeq (sFor (iSeq (fz (eVar 1))) (gN 2) (B_booked_1)) (sRetV 0)
def F_booked : Fn := defS 1 3 B_booked
def B_law_taken : MS := sRet (eBin .Add (fz (eBin .Add (fz (eSl (pVar 0) (oNo) (oSo (fz (eIx (pVar 1) (fz (eC (.int 0)))))))) (fz (eBin .Mult (fz (eC (.str "x"))) (fz (eIx (pVar 1) (fz (eC (.int 1))))))))) (fz (eSl (pVar 0) (oSo (fz (eBin .Add (fz (eIx (pVar 1) (fz (eC (.int 0))))) (fz (eIx (pVar 1) (fz (eC (.int 1)))))))) (oNo))))
def F_law_taken : Fn := defF 2 2 B_law_taken
def B_law_booked_1 : MS := sSeq (sIf (tNotM (tV (fz (eCall0 F_law_allowed (aCons (fz (eVar 0)) (aCons (fz (eVar 2)) (aNil))))))) (sRet (eC .non)) (sNx)) (sAsg (gN 0) (eCall0 F_law_taken (aCons (fz (eVar 0)) (aCons (fz (eVar 2)) (aNil)))))
def B_law_booked : MS := sSeq (sFor (iSeq (fz (eVar 1))) (gN 2) (B_law_booked_1)) (sRetV 0)
def F_law_booked : Fn := defF 2 3 B_law_booked
def B_law_some_1 : MS := sSeq (sAsg (gN 5) (eBin .Mod (fz (eIx (pVar 0) (fz (eBin .Mult (fz (eC (.int 2))) (pVar 4))))) (fz (eFn fLen (aCons (pVar 1) (aNil)))))) (sSeq (sAsg (gN 6) (eBin .Add (fz (eC (.int 1))) (fz (eBin .Mod (fz (eIx (pVar 0) (fz (eBin .Add (fz (eBin .Mult (fz (eC (.int 2))) (pVar 4))) (fz (eC (.int 1))))))) (fz (eFn fMin2 (aCons (fz (eC (.int 4))) (aCons (fz (eBin .Sub (fz (eFn fLen (aCons (pVar 1) (aNil)))) (pVar 5))) (aNil))))))))) (sIf (tV (fz (eCall0 F_law_allowed (aCons (fz (eVar 1)) (aCons (fz (eTup (aCons (fz (eVar 5)) (aCons (fz (eVar 6)) (aNil))))) (aNil)))))) (sSeq (sAsg (gN 3) (eBin .Add (pVar 3) (fz (eTup (aCons (fz (eTup (aCons (fz (eVar 5)) (aCons (fz (eVar 6)) (aNil))))) (aNil)))))) (sAsg (gN 1) (eCall0 F_law_taken (aCons (fz (eVar 1)) (aCons (fz (eTup (aCons (fz (eVar 5)) (aCons (fz (eVar 6)) (aNil))))) (aNil)))))) (sNx)))
def B_law_some : MS := sSeq (sAsg (gN 3) (eTup (aNil))) (sSeq (sFor (iRg1 (aCons (pVar 2) (aNil))) (gN 4) (B_law_some_1)) (sRet (eTup (aCons (fz (eVar 3)) (aCons (fz (eVar 1)) (aNil))))))
def F_law_some : Fn := defF 3 7 B_law_some
def B_law_call : MS := sSeq (sIf (tV (fz (eCmp .Eq (fz (eFn fLen (aCons (pVar 1) (aNil)))) (fz (eC (.int 0)))))) (sRet (eCall0 F_booked (aCons (fz (eVar 0)) (aNil)))) (sNx)) (sSeq (sIf (tV (fz (eCmp .Eq (fz (eFn fLen (aCons (pVar 1) (aNil)))) (fz (eC (.int 1)))))) (sRet (eCall0 F_booked (aCons (fz (eVar 0)) (aCons (fz (eIx (pVar 1) (fz (eC (.int 0))))) (aNil))))) (sNx)) (sSeq (sIf (tV (fz (eCmp .Eq (fz (eFn fLen (aCons (pVar 1) (aNil)))) (fz (eC (.int 2)))))) (sRet (eCall0 F_booked (aCons (fz (eVar 0)) (aCons (fz (eIx (pVar 1) (fz (eC (.int 0))))) (aCons (fz (eIx (pVar 1) (fz (eC (.int 1))))) (aNil)))))) (sNx)) (sSeq (sIf (tV (fz (eCmp .Eq (fz (eFn fLen (aCons (pVar 1) (aNil)))) (fz (eC (.int 3)))))) (sRet (eCall0 F_booked (aCons (fz (eVar 0)) (aCons (fz (eIx (pVar 1) (fz (eC (.int 0))))) (aCons (fz (eIx (pVar 1) (fz (eC (.int 1))))) (aCons (fz (eIx (pVar 1) (fz (eC (.int 2))))) (aNil))))))) (sNx)) (sRet (eCall0 F_booked (aCons (fz (eVar 0)) (aCons (fz (eIx (pVar 1) (fz (eC (.int 0))))) (aCons (fz (eIx (pVar 1) (fz (eC (.int 1))))) (aCons (fz (eIx (pVar 1) (fz (eC (.int 2))))) (aCons (fz (eIx (pVar 1) (fz (eC (.int 3))))) (aNil)))))))))))
def F_law_call : Fn := defF 2 2 B_law_call
def B_takes : MS := sRet (eOr (eCmp .Eq (pVar 0) (pVar 1)) (eCmp .GtE (pVar 0) (fz (eBin .Add (pVar 1) (fz (eC (.int 2)))))))
def F_takes : Fn := defF 2 2 B_takes
def B_after_all_1 : MS := sSeq (sIf (tNotM (tV (fz (eCall0 F_is_free (aCons (fz (eVar 0)) (aCons (fz (eVar 2)) (aNil))))))) (sRet (eC .non)) (sNx)) (sAsg (gN 0) (eCall0 F_taken (aCons (fz (eVar 0)) (aCons (fz (eVar 2)) (aNil)))))
def B_after_all : MS := sSeq (sFor (iSeq (fz (eVar 1))) (gN 2) (B_after_all_1)) (sRetV 0)
def F_after_all : Fn := defF 2 3 B_after_all
def B_has_order_1 : MS := sSeq (sAsg (gN 5) (eLc [7] [3, 4] (iSeq (pVar 1)) (gN 7) (tV (fz (eChain .LtE .Lt (pVar 3) (fz (eIx (pVar 7) (fz (eC (.int 0))))) (fz (eBin .Add (pVar 3) (pVar 4)))))) (fz (eVar 7)))) (sIf (tAndM (tV (fz (eCmp .Gt (pVar 4) (fz (eC (.int 1)))))) (tV (fz (eCmp .Eq (fz (eFn fLen (aCons (pVar 5) (aNil)))) (pVar 4))))) (sRet (eC (.bl false))) (sNx))
def B_has_order : MS := sSeq (sAsg (gN 2) (eCall0 F_after_all (aCons (fz (eVar 0)) (aCons (fz (eVar 1)) (aNil))))) (sSeq (sIf (tOrM (tV (fz (eCmp .Is (pVar 2) (fz (eC .non))))) (tV (fz (eCmp .NotEq (fz (eLc [6] [0] (iSeq (fz (eCall0 F_gaps (aCons (fz (eVar 2)) (aNil))))) (gN 6) (tAndM (tV (fz (eCmp .Eq (fz (eIx (pVar 6) (fz (eC (.int 1))))) (fz (eC (.int 1)))))) (tV (fz (eCmp .NotIn (pVar 6) (fz (eCall0 F_gaps (aCons (fz (eVar 0)) (aNil)))))))) (fz (eVar 6)))) (fz (eLst (aNil))))))) (sRet (eC (.bl false))) (sNx)) (sSeq (sFor (iSeq (fz (eCall0 F_gaps (aCons (fz (eVar 0)) (aNil))))) (gT [3, 4]) (B_has_order_1)) (sRet (eC (.bl true)))))
def F_has_order : Fn := defF 2 8 B_has_order
def B_order_for_1 : MS := sIf (tV (fz (eCall0 F_is_allowed (aCons (fz (eVar 0)) (aCons (fz (eVar 4)) (aNil)))))) (sSeq (sAsg (gN 5) (eLc [6] [4] (iSeq (pVar 2)) (gN 6) (tV (fz (eCmp .NotEq (pVar 6) (pVar 4)))) (fz (eVar 6)))) (sIf (tV (fz (eCall0 F_has_order (aCons (fz (eCall0 F_taken (aCons (fz (eVar 0)) (aCons (fz (eVar 4)) (aNil))))) (aCons (fz (eVar 5)) (aNil)))))) (sSeq (sPar [3, 0, 2] (aConsR (eBin .Add (pVar 3) (fz (eTup (aCons (fz (eVar 4)) (aNil))))) (aConsR (eCall0 F_taken (aCons (fz (eVar 0)) (aCons (fz (eVar 4)) (aNil)))) (aConsR (eVar 5) (aNilR))))) (sBrk)) (sNx))) (sNx)
def B_order_for_2 : MS := sFor (iSeq (fz (eVar 2))) (gN 4) (B_order_for_1)
def C_order_for_2 : M Bool := tV (fz (eCmp .NotEq (pVar 2) (fz (eLst (aNil)))))
def B_order_for : MS := sSeq (sIf (tNotM (tV (fz (eCall0 F_has_order (aCons (fz (eVar 0)) (aCons (fz (eVar 1)) (aNil))))))) (sRet (eC .non)) (sNx)) (sSeq (sPar [2, 3] (aConsR (eFn fList (aCons (pVar 1) (aNil))) (aConsR (eTup (aNil)) (aNilR)))) (sSeq (sWhile (C_order_for_2) (B_order_for_2)) (sRetV 3)))
def F_order_for : Fn := defF 2 7 B_order_for
def B_law_orders_1 : MS := sAsg (gN 3) (eBin .Add (pVar 3) (fz (eLc [5] [2, 4] (iRg1 (aCons (fz (eBin .Add (fz (eFn fLen (aCons (pVar 4) (aNil)))) (fz (eC (.int 1))))) (aNil))) (gN 5) (tYesM) (fz (eBin .Add (fz (eBin .Add (fz (eSl (pVar 4) (oNo) (oSo (pVar 5)))) (fz (eTup (aCons (fz (eVar 2)) (aNil)))))) (fz (eSl (pVar 4) (oSo (pVar 5)) (oNo))))))))
def B_law_orders_2 : MS := sSeq (sAsg (gN 3) (eLst (aNil))) (sSeq (sFor (iSeq (fz (eVar 1))) (gN 4) (B_law_orders_1)) (sAsg (gN 1) (eVar 3)))
def B_law_orders : MS := sSeq (sAsg (gN 1) (eLst (aCons (fz (eTup (aNil))) (aNil)))) (sSeq (sFor (iSeq (fz (eVar 0))) (gN 2) (B_law_orders_2)) (sRetV 1))
def F_law_orders : Fn := defF 1 6 B_law_orders
def B_rests_at_end : MS := sRet (eBin .Add (fz (eBin .Add (fz (eLst (aCons (fz (eC (.int 0))) (aNil)))) (fz (eLRg (fz (eC (.int 2))) (pVar 0))))) (fz (eLst (aCons (fz (eBin .Add (pVar 0) (fz (eC (.int 1))))) (aNil)))))
def F_rests_at_end : Fn := defF 1 1 B_rests_at_end
def B_counts_at_end_1 : MS := sIf (tV (fz (eCmp .LtE (fz (eBin .Add (pVar 6) (pVar 7))) (pVar 0)))) (sSetD 5 (fz (eBin .Add (pVar 6) (pVar 7))) (fz (eC (.bl true)))) (sNx)
def B_counts_at_end_2 : MS := sFor (iSeq (fz (eCall0 F_rests_at_end (aCons (fz (eVar 1)) (aNil))))) (gN 7) (B_counts_at_end_1)
def B_counts_at_end_3 : MS := sSeq (sAsg (gN 5) (eDic0)) (sSeq (sFor (iDic (fz (eVar 3))) (gN 6) (B_counts_at_end_2)) (sSeq (sAsg (gN 3) (eVar 5)) (sSeq (sAsg (gN 8) (eBin .Sub (pVar 0) (fz (eBin .Mult (pVar 4) (pVar 1))))) (sIf (tAndM (tV (fz (eInD false (pVar 8) (pVar 3)))) (tOrM (tV (fz (eCmp .Eq (pVar 4) (fz (eC (.int 0)))))) (tOrM (tV (fz (eCmp .Gt (pVar 1) (fz (eC (.int 1)))))) (tV (fz (eCmp .Gt (pVar 8) (fz (eC (.int 0))))))))) (sApp 2 (fz (eVar 4))) (sNx)))))
def B_counts_at_end : MS := sSeq (sIf (tV (fz (eCmp .Eq (pVar 0) (fz (eC (.int 1)))))) (sRet (eIf (tV (fz (eCmp .Eq (pVar 1) (fz (eC (.int 1)))))) (eLst (aCons (fz (eC (.int 1))) (aNil))) (eLst (aCons (fz (eC (.int 0))) (aNil))))) (sNx)) (sSeq (sPar [2, 3] (aConsR (eLst (aNil)) (aConsR (eDic1 (fz (eC (.int 0))) (fz (eC (.bl true)))) (aNilR)))) (sSeq (sFor (iRg1 (aCons (fz (eBin .Add (fz (eBin .FloorDiv (pVar 0) (pVar 1))) (fz (eC (.int 1))))) (aNil))) (gN 4) (B_counts_at_end_3)) (sRetV 2)))
def F_counts_at_end : Fn := defF 2 9 B_counts_at_end
def B_fewest_at_end : MS := sRet (eIx (fz (eCall0 F_counts_at_end (aCons (fz (eVar 0)) (aCons (fz (eVar 1)) (aNil))))) (fz (eC (.int 0))))
def F_fewest_at_end : Fn := defF 2 2 B_fewest_at_end
def B_most_at_end : MS := sRet (eIx (fz (eCall0 F_counts_at_end (aCons (fz (eVar 0)) (aCons (fz (eVar 1)) (aNil))))) (fz (eNeg (fz (eC (.int 1))))))
def F_most_at_end : Fn := defF 2 2 B_most_at_end
def B_law_ends_1 : MS := sAsg (gN 4) (eBin .Add (pVar 4) (fz (eLc [8] [7] (iSeq (fz (eIx (pVar 2) (pVar 6)))) (gN 8) (tYesM) (fz (eBin .Add (fz (eBin .Add (fz (eC (.int 1))) (pVar 7))) (pVar 8))))))
def B_law_ends_2 : MS := sSeq (sAsg (gN 6) (eBin .Sub (fz (eBin .Sub (pVar 3) (pVar 1))) (pVar 5))) (sIf (tAndM (tV (fz (eCmp .NotEq (pVar 5) (fz (eC (.int 1)))))) (tV (fz (eCmp .NotEq (pVar 6) (fz (eC (.int 1))))))) (sFor (iSeq (fz (eIx (pVar 2) (pVar 5)))) (gN 7) (B_law_ends_1)) (sNx))
def B_law_ends_3 : MS := sSeq (sAsg (gN 4) (eLst (aNil))) (sSeq (sFor (iRg1 (aCons (fz (eBin .Add (fz (eBin .Sub (pVar 3) (pVar 1))) (fz (eC (.int 1))))) (aNil))) (gN 5) (B_law_ends_2)) (sApp 2 (fz (eIf (tV (fz (eCmp .NotEq (pVar 4) (fz (eLst (aNil)))))) (eSortSet (pVar 4)) (eLst (aCons (fz (eC (.int 0))) (aNil)))))))
def B_law_ends : MS := sSeq (sAsg (gN 2) (eLst (aNil))) (sSeq (sFor (iRg1 (aCons (fz (eBin .Add (pVar 0) (fz (eC (.int 1))))) (aNil))) (gN 3) (B_law_ends_3)) (sRet (eIx (pVar 2) (pVar 0))))
def F_law_ends : Fn := defF 2 9 B_law_ends
def B_hidden_bookings_1 : MS := sSeq (sAsg (gN 7) (eBin .Add (fz (eBin .Add (fz (eSl (pVar 1) (oNo) (oSo (pVar 2)))) (fz (eTup (aCons (fz (eTup (aCons (fz (eVar 5)) (aCons (fz (eVar 6)) (aNil))))) (aNil)))))) (fz (eSl (pVar 1) (oSo (pVar 2)) (oNo))))) (sIf (tV (fz (eCmp .Eq (fz (eCall0 F_booked (aCons (fz (eVar 0)) (aStar (fz (eVar 7)) (aNil))))) (pVar 3)))) (sApp 4 (fz (eTup (aCons (fz (eVar 5)) (aCons (fz (eVar 6)) (aNil)))))) (sNx))
def B_hidden_bookings_2 : MS := sFor (iRg2 (aCons (fz (eC (.int 1))) (aCons (fz (eBin .Add (fz (eBin .Sub (fz (eFn fLen (aCons (pVar 0) (aNil)))) (pVar 5))) (fz (eC (.int 1))))) (aNil)))) (gN 6) (B_hidden_bookings_1)
def B_hidden_bookings : MS := sSeq (sAsg (gN 4) (eLst (aNil))) (sSeq (sFor (iRg1 (aCons (fz (eFn fLen (aCons (pVar 0) (aNil)))) (aNil))) (gN 5) (B_hidden_bookings_2)) (sRetV 4))
def F_hidden_bookings : Fn := defF 4 8 B_hidden_bookings
def B_two_to_1 : MS := sAsg (gN 1) (eBin .Mult (fz (eC (.int 2))) (pVar 1))
def B_two_to : MS := sSeq (sAsg (gN 1) (eC (.int 1))) (sSeq (sFor (iRg1 (aCons (pVar 0) (aNil))) (gN 2) (B_two_to_1)) (sRetV 1))
def F_two_to : Fn := defF 1 3 B_two_to
def B_law_cuts_1 : MS := sSeq (sApp 4 (fz (eBin .Add (pVar 5) (fz (eTup (aCons (fz (eTup (aCons (fz (eVar 3)) (aCons (fz (eC (.int 1))) (aNil))))) (aNil))))))) (sIf (tAndM (tV (fz (eCmp .NotEq (pVar 5) (fz (eTup (aNil)))))) (tV (fz (eCmp .Eq (fz (eBin .Add (fz (eIx (fz (eIx (pVar 5) (fz (eNeg (fz (eC (.int 1))))))) (fz (eC (.int 0))))) (fz (eIx (fz (eIx (pVar 5) (fz (eNeg (fz (eC (.int 1))))))) (fz (eC (.int 1))))))) (pVar 3))))) (sApp 4 (fz (eBin .Add (fz (eSl (pVar 5) (oNo) (oSo (fz (eNeg (fz (eC (.int 1)))))))) (fz (eTup (aCons (fz (eTup (aCons (fz (eIx (fz (eIx (pVar 5) (fz (eNeg (fz (eC (.int 1))))))) (fz (eC (.int 0))))) (aCons (fz (eBin .Add (fz (eIx (fz (eIx (pVar 5) (fz (eNeg (fz (eC (.int 1))))))) (fz (eC (.int 1))))) (fz (eC (.int 1))))) (aNil))))) (aNil))))))) (sNx))
def B_law_cuts_2 : MS := sIf (tAndM (tV (fz (eCmp .Eq (fz (eIx (pVar 0) (pVar 3))) (fz (eC (.str ".")))))) (tV (fz (eCmp .Eq (fz (eIx (pVar 1) (pVar 3))) (fz (eC (.str "x"))))))) (sSeq (sAsg (gN 4) (eLst (aNil))) (sSeq (sFor (iSeq (fz (eVar 2))) (gN 5) (B_law_cuts_1)) (sAsg (gN 2) (eVar 4)))) (sNx)
def B_law_cuts : MS := sSeq (sAsg (gN 2) (eLst (aCons (fz (eTup (aNil))) (aNil)))) (sSeq (sFor (iRg1 (aCons (fz (eFn fLen (aCons (pVar 0) (aNil)))) (aNil))) (gN 3) (B_law_cuts_2)) (sRetV 2))
def F_law_cuts : Fn := defF 2 6 B_law_cuts
def B_law_possible_1 : MS := sIf (tV (fz (eCall0 F_law_allowed (aCons (fz (eVar 4)) (aCons (fz (eVar 7)) (aNil)))))) (sSetD 3 (fz (eTup (aCons (fz (eCall0 F_law_taken (aCons (fz (eVar 4)) (aCons (fz (eVar 7)) (aNil))))) (aCons (fz (eBin .Add (fz (eSl (pVar 5) (oNo) (oSo (pVar 6)))) (fz (eSl (pVar 5) (oSo (fz (eBin .Add (pVar 6) (fz (eC (.int 1)))))) (oNo))))) (aNil))))) (fz (eC (.bl true)))) (sNx)
def B_law_possible_2 : MS := sSeq (sIf (tV (fz (eCmp .Eq (pVar 5) (fz (eTup (aNil)))))) (sRet (eC (.bl true))) (sNx)) (sFor (iEn (aCons (fz (eVar 5)) (aNil))) (gT [6, 7]) (B_law_possible_1))
def B_law_possible_3 : MS := sSeq (sAsg (gN 3) (eDic0)) (sSeq (sFor (iDic (fz (eVar 2))) (gT [4, 5]) (B_law_possible_2)) (sAsg (gN 2) (eVar 3)))
def C_law_possible_3 : M Bool := tV (fz (eCmp .NotEq (pVar 2) (fz (eDic0))))
def B_law_possible : MS := sSeq (sAsg (gN 2) (eDic1 (fz (eTup (aCons (fz (eVar 0)) (aCons (fz (eVar 1)) (aNil))))) (fz (eC (.bl true))))) (sSeq (sWhile (C_law_possible_3) (B_law_possible_3)) (sRet (eC (.bl false))))
def F_law_possible : Fn := defF 2 8 B_law_possible
def B_law_ways_1 : MS := sSeq (sAsg (gN 6) (eIf (tV (fz (eCmp .NotEq (pVar 5) (fz (eTup (aNil)))))) (eBin .Add (fz (eIx (fz (eIx (pVar 5) (fz (eNeg (fz (eC (.int 1))))))) (fz (eC (.int 0))))) (fz (eIx (fz (eIx (pVar 5) (fz (eNeg (fz (eC (.int 1))))))) (fz (eC (.int 1)))))) (eC (.int 0)))) (sAsg (gN 4) (eBin .Add (pVar 4) (fz (eLc [7] [3, 5] (iRg2 (aCons (pVar 6) (aCons (fz (eBin .Add (fz (eBin .Sub (pVar 0) (pVar 3))) (fz (eC (.int 1))))) (aNil)))) (gN 7) (tYesM) (fz (eBin .Add (pVar 5) (fz (eTup (aCons (fz (eTup (aCons (fz (eVar 7)) (aCons (fz (eVar 3)) (aNil))))) (aNil))))))))))
def B_law_ways_2 : MS := sSeq (sAsg (gN 4) (eLst (aNil))) (sSeq (sFor (iSeq (fz (eVar 2))) (gN 5) (B_law_ways_1)) (sAsg (gN 2) (eVar 4)))
def B_law_ways : MS := sSeq (sAsg (gN 2) (eLst (aCons (fz (eTup (aNil))) (aNil)))) (sSeq (sFor (iSeq (fz (eVar 1))) (gN 3) (B_law_ways_2)) (sRetV 2))
def F_law_ways : Fn := defF 2 8 B_law_ways
end
end DL
end
section
set_option Elab.async false
set_option linter.all false
/-! the halls' methods, printed by genh.py -/
namespace DL
open PySem L2
noncomputable section
def B_Hall_init : MS := sSeq (sIf (tOrM (tNotM (tV (fz (eChain .LtE .LtE (fz (eC (.int 1))) (fz (eFn fLen (aCons (pVar 1) (aNil)))) (fz (eC (.int 10))))))) (tNotM (tV (fz (eFn fAll (aCons (fz (eLc [2] [] (iSeq (pVar 1)) (gN 2) (tYesM) (fz (eCall0 F_is_row (aCons (fz (eVar 2)) (aNil)))))) (aNil))))))) (sBad) (sNx)) (sSeq (sFldD ["Hall", "LenientHall"] "lines" (fz (eVar 1)) (pVar 0)) (sSeq (sFldD ["Hall", "LenientHall"] "book_list" (fz (eTup (aNil))) (pVar 0)) (sSeq (sFldD ["Hall", "LenientHall"] "next_number" (fz (eC (.int 0))) (pVar 0)) (sFldD ["Hall", "LenientHall"] "earlier" (fz (eTup (aNil))) (pVar 0)))))
def F_Hall_init : Fn := defS 1 3 B_Hall_init
def B_Hall_put : MS := sSeq (sAsg (gN 4) (eFld ["Hall", "LenientHall"] "next_number" (pVar 0))) (sSeq (sAsg (gN 5) (eCall0 F_taken (aCons (fz (eIx (fz (eFld ["Hall", "LenientHall"] "lines" (pVar 0))) (pVar 1))) (aCons (fz (eTup (aCons (fz (eVar 2)) (aCons (fz (eVar 3)) (aNil))))) (aNil))))) (sSeq (sFldD ["Hall", "LenientHall"] "lines" (fz (eBin .Add (fz (eBin .Add (fz (eSl (fz (eFld ["Hall", "LenientHall"] "lines" (pVar 0))) (oNo) (oSo (pVar 1)))) (fz (eTup (aCons (fz (eVar 5)) (aNil)))))) (fz (eSl (fz (eFld ["Hall", "LenientHall"] "lines" (pVar 0))) (oSo (fz (eBin .Add (pVar 1) (fz (eC (.int 1)))))) (oNo))))) (pVar 0)) (sSeq (sFldD ["Hall", "LenientHall"] "book_list" (fz (eBin .Add (fz (eFld ["Hall", "LenientHall"] "book_list" (pVar 0))) (fz (eTup (aCons (fz (eTup (aCons (fz (eVar 4)) (aCons (fz (eVar 1)) (aCons (fz (eVar 2)) (aCons (fz (eVar 3)) (aNil))))))) (aNil)))))) (pVar 0)) (sSeq (DL.sFldAug ["Hall", "LenientHall"] "next_number" .Add (pVar 0) (fz (eC (.int 1)))) (sRetV 4)))))
def F_Hall_put : Fn := defF 4 6 B_Hall_put
def B_Hall_refuses : MS := sRet (eCall0 F_leaves_single (aCons (fz (eVar 1)) (aCons (fz (eVar 2)) (aNil))))
def F_Hall_refuses : Fn := defF 3 3 B_Hall_refuses
def B_Hall_check : MS := sSeq (sIf (tOrM (tNotM (tV (fz (eCall0 F_is_integer (aCons (fz (eVar 1)) (aCons (fz (eC (.int 0))) (aCons (fz (eBin .Sub (fz (eFn fLen (aCons (fz (eFld ["Hall", "LenientHall"] "lines" (pVar 0))) (aNil)))) (fz (eC (.int 1))))) (aNil)))))))) (tNotM (tV (fz (eCall0 F_is_booking (aCons (fz (eIx (fz (eFld ["Hall", "LenientHall"] "lines" (pVar 0))) (pVar 1))) (aCons (fz (eTup (aCons (fz (eVar 2)) (aCons (fz (eVar 3)) (aNil))))) (aNil)))))))) (sBad) (sNx)) (sSeq (sIf (tNotM (tV (fz (eCall0 F_is_free (aCons (fz (eIx (fz (eFld ["Hall", "LenientHall"] "lines" (pVar 0))) (pVar 1))) (aCons (fz (eTup (aCons (fz (eVar 2)) (aCons (fz (eVar 3)) (aNil))))) (aNil))))))) (sBad) (sNx)) (sIf (tV (fz (eMth [("Hall", F_Hall_refuses)] "refuses" (pVar 0) (aCons (fz (eIx (fz (eFld ["Hall", "LenientHall"] "lines" (pVar 0))) (pVar 1))) (aCons (fz (eTup (aCons (fz (eVar 2)) (aCons (fz (eVar 3)) (aNil))))) (aNil)))))) (sBad) (sNx)))
def F_Hall_check : Fn := defF 4 4 B_Hall_check
def B_Hall_keep : MS := sFldD ["Hall", "LenientHall"] "earlier" (fz (eBin .Add (fz (eFld ["Hall", "LenientHall"] "earlier" (pVar 0))) (fz (eTup (aCons (fz (eTup (aCons (fz (eFld ["Hall", "LenientHall"] "lines" (pVar 0))) (aCons (fz (eFld ["Hall", "LenientHall"] "book_list" (pVar 0))) (aCons (fz (eFld ["Hall", "LenientHall"] "next_number" (pVar 0))) (aNil)))))) (aNil)))))) (pVar 0)
def F_Hall_keep : Fn := defF 1 1 B_Hall_keep
def B_Hall_book : MS := sSeq (sDrop (eMth [("Hall", F_Hall_check), ("LenientHall", F_Hall_check)] "check" (pVar 0) (aCons (fz (eVar 1)) (aCons (fz (eVar 2)) (aCons (fz (eVar 3)) (aNil)))))) (sSeq (sDrop (eMth [("Hall", F_Hall_keep), ("LenientHall", F_Hall_keep)] "keep" (pVar 0) aNil)) (sRet (eMth [("Hall", F_Hall_put), ("LenientHall", F_Hall_put)] "put" (pVar 0) (aCons (fz (eVar 1)) (aCons (fz (eVar 2)) (aCons (fz (eVar 3)) (aNil)))))))
def F_Hall_book : Fn := defF 4 4 B_Hall_book
def B_Hall_attempt_1 : MS := sSeq (sIf (tOrM (tNotM (tV (fz (eFn (fIs .tuple) (aCons (pVar 3) aNil))))) (tV (fz (eCmp .NotEq (fz (eFn fLen (aCons (pVar 3) (aNil)))) (fz (eC (.int 3))))))) (sBad) (sNx)) (sSeq (sDrop (eMth [("Hall", F_Hall_check), ("LenientHall", F_Hall_check)] "check" (pVar 0) (aCons (fz (eIx (pVar 3) (fz (eC (.int 0))))) (aCons (fz (eIx (pVar 3) (fz (eC (.int 1))))) (aCons (fz (eIx (pVar 3) (fz (eC (.int 2))))) (aNil)))))) (sDrop (eMth [("Hall", F_Hall_put), ("LenientHall", F_Hall_put)] "put" (pVar 0) (aCons (fz (eIx (pVar 3) (fz (eC (.int 0))))) (aCons (fz (eIx (pVar 3) (fz (eC (.int 1))))) (aCons (fz (eIx (pVar 3) (fz (eC (.int 2))))) (aNil)))))))
def B_Hall_attempt : MS := sSeq (sAsg (gN 2) (eTup (aCons (fz (eFld ["Hall", "LenientHall"] "lines" (pVar 0))) (aCons (fz (eFld ["Hall", "LenientHall"] "book_list" (pVar 0))) (aCons (fz (eFld ["Hall", "LenientHall"] "next_number" (pVar 0))) (aNil)))))) (sSeq (sFor (iSeq (fz (eVar 1))) (gN 3) (B_Hall_attempt_1)) (sSeq (sFldD ["Hall", "LenientHall"] "earlier" (fz (eBin .Add (fz (eFld ["Hall", "LenientHall"] "earlier" (pVar 0))) (fz (eTup (aCons (fz (eVar 2)) (aNil)))))) (pVar 0)) (sRet (eC (.bl true)))))
def F_Hall_attempt : Fn := defS 1 4 B_Hall_attempt
def B_Hall_cancel_1 : MS := sIf (tAndM (tV (fz (eCall0 F_is_integer (aCons (fz (eVar 1)) (aCons (fz (eC (.int 0))) (aCons (fz (eC (.int 1000000))) (aNil))))))) (tV (fz (eCmp .Eq (fz (eIx (pVar 2) (fz (eC (.int 0))))) (pVar 1))))) (sSeq (sDrop (eMth [("Hall", F_Hall_keep), ("LenientHall", F_Hall_keep)] "keep" (pVar 0) aNil)) (sSeq (sAsg (gT [3, 4, 5]) (eSl (pVar 2) (oSo (fz (eC (.int 1)))) (oNo))) (sSeq (sAsg (gN 6) (eBin .Add (fz (eBin .Add (fz (eSl (fz (eIx (fz (eFld ["Hall", "LenientHall"] "lines" (pVar 0))) (pVar 3))) (oNo) (oSo (pVar 4)))) (fz (eBin .Mult (fz (eC (.str "."))) (pVar 5))))) (fz (eSl (fz (eIx (fz (eFld ["Hall", "LenientHall"] "lines" (pVar 0))) (pVar 3))) (oSo (fz (eBin .Add (pVar 4) (pVar 5)))) (oNo))))) (sSeq (sFldD ["Hall", "LenientHall"] "lines" (fz (eBin .Add (fz (eBin .Add (fz (eSl (fz (eFld ["Hall", "LenientHall"] "lines" (pVar 0))) (oNo) (oSo (pVar 3)))) (fz (eTup (aCons (fz (eVar 6)) (aNil)))))) (fz (eSl (fz (eFld ["Hall", "LenientHall"] "lines" (pVar 0))) (oSo (fz (eBin .Add (pVar 3) (fz (eC (.int 1)))))) (oNo))))) (pVar 0)) (sSeq (sFldD ["Hall", "LenientHall"] "book_list" (fz (eFn fTuple (aCons (fz (eLc [7] [2] (iSeq (fz (eFld ["Hall", "LenientHall"] "book_list" (pVar 0)))) (gN 7) (tV (fz (eCmp .NotEq (pVar 7) (pVar 2)))) (fz (eVar 7)))) (aNil)))) (pVar 0)) (sRet (eTup (aCons (fz (eVar 3)) (aCons (fz (eVar 4)) (aCons (fz (eVar 5)) (aNil))))))))))) (sNx)
def B_Hall_cancel : MS := sSeq (sFor (iSeq (fz (eFld ["Hall", "LenientHall"] "book_list" (pVar 0)))) (gN 2) (B_Hall_cancel_1)) (sBad)
def F_Hall_cancel : Fn := defF 2 8 B_Hall_cancel
def B_Hall_undo : MS := sSeq (sIf (tV (fz (eCmp .Eq (fz (eFld ["Hall", "LenientHall"] "earlier" (pVar 0))) (fz (eTup (aNil)))))) (sBad) (sNx)) (sSeq (sAsg (DL.gTup [gFld ["Hall", "LenientHall"] "lines" (pVar 0), gFld ["Hall", "LenientHall"] "book_list" (pVar 0), gFld ["Hall", "LenientHall"] "next_number" (pVar 0)]) (eIx (fz (eFld ["Hall", "LenientHall"] "earlier" (pVar 0))) (fz (eNeg (fz (eC (.int 1))))))) (sFldD ["Hall", "LenientHall"] "earlier" (fz (eSl (fz (eFld ["Hall", "LenientHall"] "earlier" (pVar 0))) (oNo) (oSo (fz (eNeg (fz (eC (.int 1)))))))) (pVar 0)))
def F_Hall_undo : Fn := defF 1 1 B_Hall_undo
def B_Hall_rows : MS := sRet (eFld ["Hall", "LenientHall"] "lines" (pVar 0))
def F_Hall_rows : Fn := defF 1 1 B_Hall_rows
def B_Hall_empty : MS := sSeq (sIf (tNotM (tV (fz (eFn fAll (aCons (fz (eLc [3] [] (iSeq (pVar 1)) (gN 3) (tYesM) (fz (eCall0 F_is_integer (aCons (fz (eVar 3)) (aCons (fz (eC (.int 1))) (aCons (fz (eC (.int 40))) (aNil)))))))) (aNil)))))) (sBad) (sNx)) (sSeq (sAsg (gN 2) (eLc [3] [] (iSeq (pVar 1)) (gN 3) (tYesM) (fz (eBin .Mult (fz (eC (.str "."))) (pVar 3))))) (sRet (eMakeV [("Hall", F_Hall_init), ("LenientHall", F_Hall_init)] (pVar 0) (pVar 2))))
def F_Hall_empty : Fn := defS 1 4 B_Hall_empty
def B_Hall_marks : MS := sRet (eTup (aCons (fz (eFld ["Hall", "LenientHall"] "lines" (pVar 0))) (aCons (fz (eFld ["Hall", "LenientHall"] "book_list" (pVar 0))) (aNil))))
def F_Hall_marks : Fn := defF 1 1 B_Hall_marks
def B_Hall_kind : MS := sRet (eC (.str "hall"))
def F_Hall_kind : Fn := defF 1 1 B_Hall_kind
def B_LenientHall_kind : MS := sRet (eC (.str "lenienthall"))
def F_LenientHall_kind : Fn := defF 1 1 B_LenientHall_kind
def B_Hall_eq : MS := sRet (eAnd (eIsC [("Hall", true), ("LenientHall", true)] (pVar 1)) (eAnd (eCmp .Eq (fz (eMth [("Hall", F_Hall_kind), ("LenientHall", F_LenientHall_kind)] "kind" (pVar 0) aNil)) (fz (eMth [("Hall", F_Hall_kind), ("LenientHall", F_LenientHall_kind)] "kind" (pVar 1) aNil))) (eCmp .Eq (fz (eMth [("Hall", F_Hall_marks), ("LenientHall", F_Hall_marks)] "marks" (pVar 0) aNil)) (fz (eMth [("Hall", F_Hall_marks), ("LenientHall", F_Hall_marks)] "marks" (pVar 1) aNil)))))
def F_Hall_eq : Fn := defF 2 2 B_Hall_eq
end
end DL
end
section
set_option Elab.async false
set_option linter.all false
set_option maxRecDepth 100000
/-! DMa: evaluating denotations by simp. -/
namespace DL
open PySem L2

section
variable {α β : Type} {w : W} {ρ : List Rv} {O : List Rec}
@[simp ↓] theorem bnd_ap (m : M α) (k : α → M β) (w : W) : M.bnd m k w = match m w with
  | .val a w' => k a w'
  | .exc c w' => .exc c w'
  | .bad => .bad := rfl
@[simp ↓] theorem ret_ap (a : α) (w : W) : M.ret a w = .val a w := rfl
@[simp] theorem opt_some (a : α) (w : W) : M.opt (some a) w = .val a w := rfl
@[simp] theorem opt_none (w : W) : (M.opt none : M α) w = .bad := rfl
@[simp ↓] theorem fz_ap (f : M Rv) (w : W) : fz f w = M.bnd f (fun r => M.ret r.fz) w := rfl
@[simp] theorem fz_im (d : D) : (Rv.im d).fz = d := rfl
@[simp] theorem fz_ow (d : List D) : (Rv.ow d).fz = .lst d := rfl
@[simp] theorem fz_od (d e : List D) : (Rv.od d e).fz = .dic d e := rfl
@[simp ↓] theorem eVar_ap (i : Nat) (w : W) : eVar i w = match w.ρ[i]? with
  | some (.im d) => .val (.im d) w
  | some (.ow xs) => .val (.im (.lst xs)) { w with ρ := w.ρ.set i (.im (.lst xs)) }
  | some (.od ks vs) => .val (.im (.dic ks vs)) { w with ρ := w.ρ.set i (.im (.dic ks vs)) }
  | _ => .bad := rfl
@[simp ↓] theorem pVar_ap (i : Nat) (w : W) : pVar i w = match w.ρ[i]? with
  | some (.im d) => .val d w
  | some (.ow xs) => .val (.lst xs) w
  | some (.od ks vs) => .val (.dic ks vs) w
  | _ => .bad := rfl
@[simp ↓] theorem eC_ap (d : D) (w : W) : eC d w = .val (.im d) w := rfl
@[simp ↓] theorem eBin_ap (op : Operator) (a b : M D) (w : W) : eBin op a b w = M.bnd a (fun x => M.bnd b fun y => M.opt (bopD op x y)) w := rfl
@[simp ↓] theorem eCmp_ap (op : CmpOp) (a b : M D) (w : W) : eCmp op a b w = M.bnd a (fun x => M.bnd b fun y => M.opt ((cmpD op x y).map fun k => .im (.bl k))) w := rfl
@[simp ↓] theorem eNeg_ap (a : M D) (w : W) : eNeg a w = M.bnd a (fun x => M.opt (match x with | .int i => some (.im (.int (-i))) | _ => none)) w := rfl
@[simp ↓] theorem eChain_ap (op op' : CmpOp) (a b c : M D) (w : W) : eChain op op' a b c w = M.bnd a (fun x => M.bnd b fun y => M.bnd (M.opt (cmpD op x y)) fun k =>
  if k = true then M.bnd c fun z => M.opt ((cmpD op' y z).map fun k => .im (.bl k)) else M.ret (.im (.bl false))) w := rfl
@[simp ↓] theorem eIx_ap (a b : M D) (w : W) : eIx a b w = M.bnd a (fun x => M.bnd b fun y => M.opt ((ixD x y).map .im)) w := rfl
@[simp ↓] theorem oNo_ap (w : W) : oNo w = .val none w := rfl
@[simp ↓] theorem oSo_ap (a : M D) (w : W) : oSo a w = M.bnd a (fun x => M.opt (match x with | .int i => some (some i) | _ => none)) w := rfl
@[simp ↓] theorem eSl_ap (a : M D) (lo hi : M (Option Int)) (w : W) : eSl a lo hi w = M.bnd a (fun x => M.bnd lo fun l => M.bnd hi fun h => M.opt (slD x l h)) w := rfl
@[simp ↓] theorem eRev_ap (a : M D) (w : W) : eRev a w = M.bnd a (fun x => M.opt (revD x)) w := rfl
@[simp ↓] theorem aNil_ap (w : W) : aNil w = .val [] w := rfl
@[simp ↓] theorem aCons_ap (a : M D) (r : M (List D)) (w : W) : aCons a r w = M.bnd a (fun x => M.bnd r fun xs => M.ret (x :: xs)) w := rfl
@[simp ↓] theorem eTup_ap (a : M (List D)) (w : W) : eTup a w = M.bnd a (fun xs => if okLen xs.length then M.ret (.im (.tup xs)) else M.opt none) w := rfl
@[simp ↓] theorem eLst_ap (a : M (List D)) (w : W) : eLst a w = M.bnd a (fun xs => if okLen xs.length then M.ret (.ow xs) else M.opt none) w := rfl
@[simp ↓] theorem tV_ap (a : M D) (w : W) : tV a w = M.bnd a (fun x => M.opt (match x with | .bl b => some b | _ => none)) w := rfl
@[simp ↓] theorem tAndM_ap (a b : M Bool) (w : W) : tAndM a b w = M.bnd a (fun k => if k = true then b else M.ret false) w := rfl
@[simp ↓] theorem tOrM_ap (a b : M Bool) (w : W) : tOrM a b w = M.bnd a (fun k => if k = true then M.ret true else b) w := rfl
@[simp ↓] theorem tNotM_ap (a : M Bool) (w : W) : tNotM a w = M.bnd a (fun k => M.ret (!k)) w := rfl
@[simp ↓] theorem eIf_ap (c : M Bool) (a b : M Rv) (w : W) : eIf c a b w = M.bnd c (fun k => if k = true then a else b) w := rfl
@[simp ↓] theorem eAnd_ap (a b : M Rv) (w : W) : eAnd a b w = M.bnd (tV (fz a)) (fun k => if k = true then b else M.ret (.im (.bl false))) w := rfl
@[simp ↓] theorem eOr_ap (a b : M Rv) (w : W) : eOr a b w = M.bnd (tV (fz a)) (fun k => if k = true then M.ret (.im (.bl true)) else b) w := rfl
@[simp ↓] theorem eNot_ap (a : M Rv) (w : W) : eNot a w = M.bnd (tV (fz a)) (fun k => M.ret (.im (.bl (!k)))) w := rfl
@[simp ↓] theorem eCall0_ap (F : Fn) (a : M (List D)) (w : W) : eCall0 F a w = M.bnd a (fun xs => liftF0 F xs) w := rfl
@[simp] theorem liftF0_ap (F : Fn) (xs : List D) (w : W) : liftF0 F xs w = match F xs w.O with
  | .val r O => .val r { w with O := O }
  | _ => .bad := rfl
@[simp ↓] theorem eFn_ap (F : List D → Option Rv) (a : M (List D)) (w : W) : eFn F a w = M.bnd a (fun xs => M.opt (F xs)) w := rfl
@[simp ↓] theorem iSeq_ap (a : M D) (w : W) : iSeq a w = M.bnd a (fun x => M.opt (seqD x)) w := rfl
def rg1D : List D → Option (List D)
  | [.int j] => if okR j then some (rangeD 0 j) else none
  | _ => none
def rg2D : List D → Option (List D)
  | [.int i, .int j] => if okR i && okR j then some (rangeD i j) else none
  | _ => none
@[simp ↓] theorem iRg1_ap (a : M (List D)) (w : W) : iRg1 a w = M.bnd a (fun xs => M.opt (rg1D xs)) w := rfl
@[simp ↓] theorem iRg2_ap (a : M (List D)) (w : W) : iRg2 a w = M.bnd a (fun xs => M.opt (rg2D xs)) w := rfl
@[simp ↓] theorem iEn_ap (a : M (List D)) (w : W) : iEn a w = M.bnd a (fun xs => M.opt (match xs with | [x] => (drawn x).map (enumD 0) | _ => none)) w := rfl
@[simp ↓] theorem iStr_ap (a : M D) (w : W) : DL.iStr a w = M.bnd a (fun x => M.opt (match x with | .str z => some (z.cps.toList.map fun c => .str ⟨#[c]⟩) | _ => none)) w := rfl
@[simp ↓] theorem gN_ap (i : Nat) (r : Rv) (w : W) : gN i r w = .val () { w with ρ := w.ρ.set i r } := rfl
@[simp ↓] theorem gNs_nil (w : W) : gNs [] [] w = .val () w := rfl
@[simp ↓] theorem gNs_cons (i : Nat) (is : List Nat) (d : D) (ds : List D) (w : W) : gNs (i :: is) (d :: ds) w = gNs is ds { w with ρ := w.ρ.set i (.im d) } := rfl
@[simp ↓] theorem gT_ap (is : List Nat) (ds : List D) (w : W) : gT is (.im (.tup ds)) w = gNs is ds w := rfl
@[simp ↓] theorem sNx_ap (w : W) : sNx w = .val .nxt w := rfl
@[simp ↓] theorem sSeq_ap (a b : MS) (w : W) : sSeq a b w = match a w with
  | .val .nxt w' => b w'
  | .val f w' => .val f w'
  | .exc c w' => .exc c w'
  | .bad => .bad := by
  show M.bnd a _ w = _
  rw [bnd_ap]
  cases a w with
  | val f w' => cases f <;> rfl
  | exc c w' => rfl
  | bad => rfl
@[simp ↓] theorem sAsg_ap (g : Rv → M Unit) (e : M Rv) (w : W) : sAsg g e w = M.bnd e (fun r => M.bnd (g r) fun _ => sNx) w := rfl
@[simp ↓] theorem sPar_ap (is : List Nat) (a : M (List Rv)) (w : W) : sPar is a w = M.bnd a (fun xs => M.bnd (gNR is xs) fun _ => sNx) w := rfl
@[simp ↓] theorem aNilR_ap (w : W) : aNilR w = .val [] w := rfl
@[simp ↓] theorem aConsR_ap (a : M Rv) (r : M (List Rv)) (w : W) : aConsR a r w = M.bnd a (fun x => M.bnd r fun xs => M.ret (x :: xs)) w := rfl
@[simp] theorem gNR_nil (w : W) : gNR [] [] w = .val () w := rfl
@[simp] theorem gNR_cons (i : Nat) (is : List Nat) (d : Rv) (ds : List Rv) (w : W) : gNR (i :: is) (d :: ds) w = gNR is ds { w with ρ := w.ρ.set i d } := rfl
@[simp ↓] theorem sAug_ap (i : Nat) (op : Operator) (e : M D) (w : W) : sAug i op e w = M.bnd (pVar i) (fun x => M.bnd e fun y => M.bnd (M.opt (augD op x y)) fun r => M.bnd (gN i r) fun _ => sNx) w := rfl
@[simp ↓] theorem sDrop_ap (e : M Rv) (w : W) : sDrop e w = M.bnd e (fun _ => sNx) w := rfl
def okApp (n : Nat) : Bool := decide (n < 16777216)
@[simp] theorem okApp_of {n : Nat} (h : n < 16777216) : okApp n = true := decide_eq_true h
@[simp ↓] theorem sApp_ap (i : Nat) (e : M D) (w : W) : sApp i e w = match w.ρ[i]? with
  | some (.ow _) => M.bnd e (fun d => fun w => match w.ρ[i]? with
    | some (.ow xs) => if okApp xs.length then .val .nxt { w with ρ := w.ρ.set i (.ow (xs ++ [d])) } else .bad
    | _ => .bad) w
  | _ => .bad := rfl
@[simp ↓] theorem sRet_ap (e : M Rv) (w : W) : sRet e w = M.bnd e (fun r => M.ret (.ret r)) w := rfl
@[simp ↓] theorem sRetV_ap (i : Nat) (w : W) : sRetV i w = match w.ρ[i]? with
  | some .un => .bad
  | some r => .val (.ret r) { w with ρ := w.ρ.set i .un }
  | none => .bad := rfl
@[simp ↓] theorem sRetN_ap (w : W) : sRetN w = .val (.ret (.im .non)) w := rfl
@[simp ↓] theorem sIf_ap (c : M Bool) (a b : MS) (w : W) : sIf c a b w = M.bnd c (fun k => if k = true then a else b) w := rfl
@[simp ↓] theorem sBrk_ap (w : W) : sBrk w = .val .brk w := rfl
@[simp ↓] theorem sCnt_ap (w : W) : sCnt w = .val .cnt w := rfl
@[simp ↓] theorem sFor_ap (it : M (List D)) (g : Rv → M Unit) (b : MS) (w : W) : sFor it g b w = M.bnd it (fun xs => forL g b xs) w := rfl
@[simp ↓] theorem forL_nil (g : Rv → M Unit) (b : MS) (w : W) : forL g b [] w = .val .nxt w := rfl
theorem forL_cons (g : Rv → M Unit) (b : MS) (x : D) (xs : List D) (w : W) : forL g b (x :: xs) w = match g (.im x) w with
  | .val _ w1 => (match b w1 with
    | .val .nxt w2 => forL g b xs w2
    | .val .cnt w2 => forL g b xs w2
    | .val .brk w2 => .val .nxt w2
    | .val (.ret r) w2 => .val (.ret r) w2
    | .exc c w2 => .exc c w2
    | .bad => .bad)
  | .exc c w1 => .exc c w1
  | .bad => .bad := by
  show M.bnd (g (.im x)) _ w = _
  rw [bnd_ap]
  cases g (.im x) w with
  | val u w1 =>
    show M.bnd b _ w1 = _
    rw [bnd_ap]
    dsimp only
    cases b w1 with
    | val f w2 => cases f <;> rfl
    | exc c w' => rfl
    | bad => rfl
  | exc c w' => rfl
  | bad => rfl
@[simp ↓] theorem tYes_ap (w : W) : tYesM w = .val true w := rfl
@[simp] theorem runB_ap (n : Nat) (b : MS) (ds : List D) (O : List Rec) : runB n b ds O = match b ⟨ds.map Rv.im ++ List.replicate (n - ds.length) .un, O⟩ with
  | .val .nxt w => .val (.im .non) w.O
  | .val (.ret r) w => .val r w.O
  | .val _ _ => .bad
  | .exc c w => .exc c w.O
  | .bad => .bad := rfl
@[simp] theorem defF_ap (p n : Nat) (b : MS) (ds : List D) (O : List Rec) : defF p n b ds O = if ds.length = p then runB n b ds O else .bad := rfl
theorem defS_ap (p n : Nat) (b : MS) (ds : List D) (O : List Rec) (h : p ≤ ds.length) (h2 : ds.length ≤ 1000000) : defS p n b ds O = runB n b (ds.take p ++ [.tup (ds.drop p)]) O := if_pos ⟨h, h2⟩
end
@[simp] theorem bop_add : bopD .Add = addD := rfl
@[simp] theorem bop_sub : bopD .Sub = subD := rfl
@[simp] theorem bop_mul : bopD .Mult = mulD := rfl
@[simp] theorem bop_mod : bopD .Mod = modD := rfl
@[simp] theorem bop_fdv : bopD .FloorDiv = fdvD := rfl
@[simp] theorem bop_pow : bopD .Pow = powD := rfl
@[simp] theorem add_int (i j : Int) : addD (.int i) (.int j) = some (.im (.int (i + j))) := rfl
@[simp] theorem sub_int (i j : Int) : subD (.int i) (.int j) = some (.im (.int (i - j))) := rfl
@[simp] theorem mul_int (i j : Int) (h : okMul i j = true) : mulD (.int i) (.int j) = some (.im (.int (i * j))) := by simp [mulD, h]
@[simp] theorem mod_int (i j : Int) (h : j ≠ 0) : modD (.int i) (.int j) = some (.im (.int (i.fmod j))) := by simp [modD, h]
@[simp] theorem fdv_int (i j : Int) (h : j ≠ 0) (h2 : j.natAbs < 1073741824) : fdvD (.int i) (.int j) = some (.im (.int (i.fdiv j))) := by simp [fdvD, h, h2]
@[simp] theorem cmp_lt (i j : Int) : cmpD .Lt (.int i) (.int j) = some (decide (i < j)) := rfl
@[simp] theorem cmp_le (i j : Int) : cmpD .LtE (.int i) (.int j) = some (decide (i ≤ j)) := rfl
@[simp] theorem cmp_gt (i j : Int) : cmpD .Gt (.int i) (.int j) = some (decide (j < i)) := rfl
@[simp] theorem cmp_ge (i j : Int) : cmpD .GtE (.int i) (.int j) = some (decide (j ≤ i)) := rfl
@[simp] theorem cmp_in (a b : D) : cmpD .In a b = memD a b := rfl
@[simp] theorem cmp_notin (a b : D) : cmpD .NotIn a b = (memD a b).map (!·) := rfl
@[simp] theorem cmp_is (a b : D) : cmpD .Is a b = isD a b := rfl
@[simp] theorem cmp_isnot (a b : D) : cmpD .IsNot a b = (isD a b).map (!·) := rfl
@[simp] theorem cmp_eq (a b : D) (ha : eqOk a = true) (hb : eqOk b = true) : cmpD .Eq a b = some (eqD a b) := by simp [cmpD, ha, hb]
@[simp] theorem cmp_ne (a b : D) (ha : eqOk a = true) (hb : eqOk b = true) : cmpD .NotEq a b = some (!eqD a b) := by simp [cmpD, ha, hb]
theorem okR_def (i : Int) : okR i = (decide (-4611686018427387904 ≤ i) && decide (i < 4611686018427387904)) := rfl
@[simp] theorem isD_int (i : Int) : isD (.int i) .non = some false := rfl
@[simp] theorem isD_non : isD .non .non = some true := rfl
@[simp] theorem isD_str (i : Str) : isD (.str i) .non = some false := rfl
@[simp] theorem isD_lst (i : List D) : isD (.lst i) .non = some false := rfl
@[simp] theorem isD_tup (i : List D) : isD (.tup i) .non = some false := rfl
@[simp] theorem isD_bl (a b : Bool) : isD (.bl a) (.bl b) = some (decide (a = b)) := rfl
@[simp] theorem nat_eq1 (n : Nat) : ((n : Int) = 1) ↔ n = 1 := by omega
@[simp] theorem nat_eq2 (n : Nat) : ((n : Int) = 2) ↔ n = 2 := by omega
end DL
end
section
set_option Elab.async false
set_option linter.all false
set_option maxRecDepth 100000
/-! DMb: rows as lists of truth values (true: a free seat), texts of rows, slices, equality of data. -/
namespace DL
open PySem L2

def sg (b : Bool) : Nat := if b then 46 else 120
theorem sg_inj : ∀ {a b : Bool}, sg a = sg b → a = b := by decide
def rS (r : List Bool) : Str := ⟨(r.map sg).toArray⟩
@[simp] theorem rS_len (r : List Bool) : (rS r).length = r.length := by simp [rS, Str.length]
@[simp] theorem rS_cps (r : List Bool) : (rS r).cps.toList = r.map sg := rfl
theorem map_inj {α β : Type} {f : α → β} (h : ∀ a b, f a = f b → a = b) : ∀ {x y : List α}, x.map f = y.map f → x = y
  | [], [], _ => rfl
  | [], _ :: _, e => by cases e
  | _ :: _, [], e => by cases e
  | a :: x, b :: y, e => by
    rw [List.map_cons, List.map_cons, List.cons.injEq] at e
    rw [h _ _ e.1, map_inj h e.2]
theorem rS_inj {a b : List Bool} (h : rS a = rS b) : a = b := by
  have := congrArg (fun z : Str => z.cps.toList) h
  exact map_inj (fun _ _ => sg_inj) this
theorem rS_app (a b : List Bool) : rS a ++ rS b = rS (a ++ b) := by
  show (⟨(rS a).cps ++ (rS b).cps⟩ : Str) = _
  simp [rS]
@[simp] theorem s_x : Str.ofString "x" = rS [false] := by decide +kernel
@[simp] theorem s_dot : Str.ofString "." = rS [true] := by decide +kernel
@[simp] theorem s_nil : Str.ofString "" = rS [] := by decide +kernel
/-- one sign of a row -/
@[simp] theorem sign_rS (b : Bool) : (⟨#[sg b]⟩ : Str) = rS [b] := rfl

/-! ### slices -/
theorem sIx_n (n d k : Nat) : HT.sIx n d (some (k : Int)) = min k n := HT.sIx_nat n d k
@[simp] theorem cut_nn {α : Type} (l : List α) : cutL l none none = l := by simp [cutL, HT.sIx_none]
@[simp] theorem cut_n {α : Type} (l : List α) (k : Nat) : cutL l none (some (k : Int)) = l.take k := by
  unfold cutL
  rw [HT.sIx_none, sIx_n, List.drop_zero, Nat.sub_zero, List.take_eq_take_iff]
  omega
@[simp] theorem cut_d {α : Type} (l : List α) (k : Nat) : cutL l (some (k : Int)) none = l.drop k := by
  unfold cutL
  rw [HT.sIx_none, sIx_n]
  rw [List.take_of_length_le (by rw [List.length_drop]; exact Nat.le_refl _)]
  by_cases h : k ≤ l.length
  · rw [Nat.min_eq_left h]
  · rw [Nat.min_eq_right (by omega), List.drop_length, List.drop_of_length_le (by omega)]
@[simp] theorem cut_b {α : Type} (l : List α) (a b : Nat) : cutL l (some (a : Int)) (some (b : Int)) = (l.drop a).take (b - a) := by
  unfold cutL
  rw [sIx_n, sIx_n]
  by_cases h : a ≤ l.length
  · rw [Nat.min_eq_left h, List.take_eq_take_iff, List.length_drop]
    omega
  · rw [List.drop_of_length_le (show l.length ≤ min a l.length by omega), List.drop_of_length_le (show l.length ≤ a by omega)]
    simp
/-- the end told by its sum -/
@[simp] theorem cut_s {α : Type} (l : List α) (a z : Nat) : cutL l (some (a : Int)) (some ((a : Int) + (z : Int))) = (l.drop a).take z := by
  have : ((a : Int) + (z : Int)) = ((a + z : Nat) : Int) := by omega
  rw [this, cut_b]
  congr 1
  omega
@[simp] theorem cut_e {α : Type} (l : List α) (a z : Nat) : cutL l (some ((a : Int) + (z : Int))) none = l.drop (a + z) := by
  have : ((a : Int) + (z : Int)) = ((a + z : Nat) : Int) := by omega
  rw [this, cut_d]
theorem cut_map {α β : Type} (f : α → β) (l : List α) (lo hi : Option Int) : cutL (l.map f) lo hi = (cutL l lo hi).map f := by
  unfold cutL
  rw [List.length_map, List.map_take, List.map_drop]
@[simp] theorem cut_last {α : Type} (l : List α) : cutL l none (some (-1)) = l.dropLast := by
  unfold cutL
  rw [HT.sIx_none, List.drop_zero, Nat.sub_zero, List.dropLast_eq_take]
  congr 1
  show (HT.sIx l.length l.length (some (-1))) = _
  have : HT.sIx l.length l.length (some (-1)) = ((-1 : Int) + (l.length : Int)).toNat := by
    simp [HT.sIx]
  rw [this]; omega
@[simp] theorem okLen_of {n : Nat} (h : n ≤ 16777216) : okLen n = true := decide_eq_true h
@[simp] theorem slD_row (r : List Bool) (h : r.length ≤ 1000) (lo hi : Option Int) : slD (.str (rS r)) lo hi = some (.im (.str (rS (cutL r lo hi)))) := by
  have : okLen (rS r).length = true := okLen_of (by rw [rS_len]; omega)
  simp only [slD, this, if_true, rS_cps, cut_map]
  rfl
@[simp] theorem slD_lst (l : List D) (lo hi : Option Int) : slD (.lst l) lo hi = some (.ow (cutL l lo hi)) := rfl
@[simp] theorem slD_tup (l : List D) (lo hi : Option Int) : slD (.tup l) lo hi = some (.im (.tup (cutL l lo hi))) := rfl

@[simp] theorem add_row (a b : List Bool) (h : a.length + b.length ≤ 16777216) : addD (.str (rS a)) (.str (rS b)) = some (.im (.str (rS (a ++ b)))) := by
  have : okLen ((rS a).length + (rS b).length) = true := okLen_of (by rw [rS_len, rS_len]; exact h)
  simp only [addD, this, if_true, rS_app]
@[simp] theorem mul_row (b : Bool) (z : Nat) (h : z ≤ 1000) : mulD (.str (rS [b])) (.int (z : Int)) = some (.im (.str (rS (List.replicate z b)))) := by
  have h1 : (rS [b]).length ≤ 1000 := by rw [rS_len]; exact Nat.succ_le_succ (Nat.zero_le _)
  have h2 : ((z : Int) ≤ 1000) := by omega
  have e : repS (rS [b]) (z : Int) = rS (List.replicate z b) := by
    unfold repS
    rw [rS_cps]
    show _ = (⟨(List.map sg (List.replicate z b)).toArray⟩ : Str)
    rw [List.map_replicate]
    congr 2
    show (List.replicate z [sg b]).flatten = _
    induction z with
    | zero => rfl
    | succ n ih => rw [List.replicate_succ, List.flatten_cons, ih (by omega) (by omega), List.replicate_succ]; rfl
  simp [mulD, h1, h2, e]
@[simp] theorem add_lst (a b : List D) (h : a.length + b.length ≤ 16777216) : addD (.lst a) (.lst b) = some (.ow (a ++ b)) := by
  simp [addD, okLen_of h]
@[simp] theorem add_tup (a b : List D) (h : a.length + b.length ≤ 16777216) : addD (.tup a) (.tup b) = some (.im (.tup (a ++ b))) := by
  simp [addD, okLen_of h]

/-! ### equality of data -/
theorem lay_all : ∀ (xs : List D), PyData.canLayAll0 (D.pys xs) = xs.all fun x => x.py.canLay0
  | [] => by simp [D.pys, PyData.canLayAll0]
  | x :: xs => by rw [D.pys, PyData.canLayAll0, List.all_cons, lay_all xs]
/-- a bound of a datum's depth -/
def dep : Nat → D → Bool
  | _, .non => true
  | _, .bl _ => true
  | _, .int _ => true
  | _, .str _ => true
  | 0, _ => false
  | n + 1, .tup xs => xs.all (dep n)
  | n + 1, .lst xs => xs.all (dep n)
  | _, _ => false
theorem dep_py : ∀ (n : Nat) (d : D), dep n d = true → d.py.depth ≤ n := by
  intro n
  induction n with
  | zero => intro d h; cases d <;> first | (rw [D.py, PyData.depth]; exact Nat.le_refl _) | (simp [dep] at h)
  | succ n ih =>
    have all : ∀ xs : List D, xs.all (dep n) = true → PyData.depthAll (D.pys xs) ≤ n := by
      intro xs
      induction xs with
      | nil => intro _; rw [D.pys, PyData.depthAll]; exact Nat.zero_le _
      | cons x xs ihx =>
        intro h
        rw [List.all_cons, Bool.and_eq_true] at h
        rw [D.pys, PyData.depthAll]
        exact Nat.max_le.mpr ⟨ih x h.1, ihx h.2⟩
    intro d h
    cases d with
    | tup xs => rw [D.py, PyData.depth]; exact Nat.succ_le_succ (all xs (by simpa [dep] using h))
    | lst xs => rw [D.py, PyData.depth]; exact Nat.succ_le_succ (all xs (by simpa [dep] using h))
    | non => rw [D.py, PyData.depth]; exact Nat.zero_le _
    | bl _ => rw [D.py, PyData.depth]; exact Nat.zero_le _
    | int _ => rw [D.py, PyData.depth]; exact Nat.zero_le _
    | str _ => rw [D.py, PyData.depth]; exact Nat.zero_le _
    | _ => simp [dep] at h
/-- may be compared -/
def lay (d : D) : Bool := d.py.canLay0
theorem eqOk_of {d : D} (n : Nat) (h : lay d = true) (h2 : dep n d = true) (hn : n ≤ 64 := by decide) : eqOk d = true := by
  unfold eqOk SeqAt.shaped
  rw [Bool.and_eq_true]
  exact ⟨h, decide_eq_true (Nat.le_trans (dep_py n d h2) hn)⟩
@[simp] theorem lay_non : lay .non = true := by simp [lay, D.py, PyData.canLay0]
@[simp] theorem lay_bl (b : Bool) : lay (.bl b) = true := by simp [lay, D.py, PyData.canLay0]
@[simp] theorem lay_int (b : Int) : lay (.int b) = true := by simp [lay, D.py, PyData.canLay0]
@[simp] theorem lay_row (r : List Bool) : lay (.str (rS r)) = true := by
  simp only [lay, D.py, PyData.canLay0]
  show (rS r).cps.all (· < 0x110000) = true
  simp only [rS, Array.all_eq_true', List.mem_toArray, List.mem_map, decide_eq_true_eq]
  rintro _ ⟨b, _, rfl⟩
  cases b <;> decide
@[simp] theorem lay_tup (xs : List D) : lay (.tup xs) = xs.all lay := by
  simp only [lay, D.py, PyData.canLay0, lay_all]; rfl
@[simp] theorem lay_lst (xs : List D) : lay (.lst xs) = xs.all lay := by
  simp only [lay, D.py, PyData.canLay0, lay_all]; rfl
@[simp] theorem dep_non (n : Nat) : dep n .non = true := by cases n <;> rfl
@[simp] theorem dep_bl (n : Nat) (b : Bool) : dep n (.bl b) = true := by cases n <;> rfl
@[simp] theorem dep_int (n : Nat) (b : Int) : dep n (.int b) = true := by cases n <;> rfl
@[simp] theorem dep_str (n : Nat) (b : Str) : dep n (.str b) = true := by cases n <;> rfl
@[simp] theorem dep_tup (n : Nat) (xs : List D) : dep (n + 1) (.tup xs) = xs.all (dep n) := rfl
@[simp] theorem dep_lst (n : Nat) (xs : List D) : dep (n + 1) (.lst xs) = xs.all (dep n) := rfl
@[simp] theorem eqD_int (i j : Int) : eqD (.int i) (.int j) = decide (i = j) := by simp [eqD, D.py, PyData.eqv]; rfl
@[simp] theorem eqD_bl (i j : Bool) : eqD (.bl i) (.bl j) = decide (i = j) := by simp [eqD, D.py, PyData.eqv]; cases i <;> cases j <;> rfl
theorem eqD_str (i j : Str) : eqD (.str i) (.str j) = (i == j) := by simp [eqD, D.py, PyData.eqv]
def eqDs : List D → List D → Bool
  | [], [] => true
  | x :: xs, y :: ys => eqD x y && eqDs xs ys
  | _, _ => false
theorem eqDs_eqv : ∀ xs ys : List D, PyData.eqvAll (D.pys xs) (D.pys ys) = eqDs xs ys
  | [], [] => by simp [D.pys, PyData.eqvAll, eqDs]
  | [], _ :: _ => by simp [D.pys, PyData.eqvAll, eqDs]
  | _ :: _, [] => by simp [D.pys, PyData.eqvAll, eqDs]
  | x :: xs, y :: ys => by rw [D.pys, D.pys, PyData.eqvAll, eqDs_eqv xs ys]; rfl
@[simp] theorem eqD_tup (xs ys : List D) : eqD (.tup xs) (.tup ys) = eqDs xs ys := by
  unfold eqD; rw [D.py, D.py, PyData.eqv, eqDs_eqv]
@[simp] theorem eqD_lst (xs ys : List D) : eqD (.lst xs) (.lst ys) = eqDs xs ys := by
  unfold eqD; rw [D.py, D.py, PyData.eqv, eqDs_eqv]
@[simp] theorem eqDs_nil : eqDs [] [] = true := rfl
@[simp] theorem eqDs_cons (x y : D) (xs ys : List D) : eqDs (x :: xs) (y :: ys) = (eqD x y && eqDs xs ys) := rfl
@[simp] theorem eqDs_nc (y : D) (ys : List D) : eqDs [] (y :: ys) = false := rfl
@[simp] theorem eqDs_cn (y : D) (ys : List D) : eqDs (y :: ys) [] = false := rfl
theorem eqDs_map {α : Type} [DecidableEq α] (f : α → D) (h : ∀ a b, eqD (f a) (f b) = decide (a = b)) : ∀ xs ys : List α, eqDs (xs.map f) (ys.map f) = decide (xs = ys)
  | [], [] => by simp
  | [], _ :: _ => by simp
  | _ :: _, [] => by simp
  | x :: xs, y :: ys => by
    rw [List.map_cons, List.map_cons, eqDs_cons, h, eqDs_map f h xs ys]
    simp [Bool.decide_and]
@[simp] theorem eqD_row (a b : List Bool) : eqD (.str (rS a)) (.str (rS b)) = decide (a = b) := by
  rw [eqD_str]
  by_cases h : a = b
  · subst h; simp
  · rw [decide_eq_false h]
    exact beq_eq_false_iff_ne.mpr fun e => h (rS_inj e)
@[simp high] theorem eqD_nat (a b : Nat) : eqD (.int (a : Int)) (.int (b : Int)) = decide (a = b) := by
  rw [eqD_int]
  exact decide_eq_decide.mpr Int.ofNat_inj
/-- a pair of numbers -/
def pD (p : Nat × Nat) : D := .tup [.int p.1, .int p.2]
@[simp] theorem eqD_pD (a b : Nat × Nat) : eqD (pD a) (pD b) = decide (a = b) := by
  obtain ⟨a1, a2⟩ := a
  obtain ⟨b1, b2⟩ := b
  simp only [pD, eqD_tup, eqDs_cons, eqD_nat, eqDs_nil, Bool.and_true, Prod.mk.injEq, Bool.decide_and]
@[simp] theorem lay_pD (p : Nat × Nat) : lay (pD p) = true := by simp [pD]
@[simp] theorem dep_pD (n : Nat) (p : Nat × Nat) : dep (n + 1) (pD p) = true := by simp [pD]
theorem all_lay {α : Type} (f : α → D) (h : ∀ a, lay (f a) = true) (xs : List α) : (xs.map f).all lay = true := by
  rw [List.all_map]; simp [h]
theorem all_dep {α : Type} (n : Nat) (f : α → D) (h : ∀ a, dep n (f a) = true) (xs : List α) : (xs.map f).all (dep n) = true := by
  rw [List.all_map]; simp [h]

/-! ### signs in texts, membership -/
theorem subS_one (c : Nat) (z : Str) : subS ⟨#[c]⟩ z = decide (c ∈ z.cps.toList) := (PySem.StrLaws.found_one z c).symm ▸ rfl
@[simp] theorem mem_row (b : Bool) (r : List Bool) : memD (.str (rS [b])) (.str (rS r)) = some (decide (b ∈ r)) := by
  show some (subS _ _) = _
  rw [← sign_rS, subS_one, rS_cps]
  congr 1
  rw [decide_eq_decide, List.mem_map]
  constructor
  · rintro ⟨a, h, e⟩; rw [← sg_inj e]; exact h
  · intro h; exact ⟨b, h, rfl⟩
theorem inD_map {α : Type} [DecidableEq α] (f : α → D) (h : ∀ a b, eqD (f a) (f b) = decide (a = b)) (a : α) (xs : List α) : inD (f a) (xs.map f) = decide (a ∈ xs) := by
  unfold inD
  rw [List.any_map]
  induction xs with
  | nil => simp
  | cons x xs ih =>
    rw [List.any_cons, ih]
    simp only [Function.comp, h, List.mem_cons, Bool.decide_or]
    congr 1
    exact decide_eq_decide.mpr eq_comm
@[simp] theorem inD_nil (a : D) : inD a [] = false := rfl
@[simp] theorem inD_cons (a x : D) (xs : List D) : inD a (x :: xs) = (eqD x a || inD a xs) := rfl
@[simp] theorem mem_tup (a : D) (xs : List D) (h1 : eqOk a = true) (h2 : xs.all lay = true) : memD a (.tup xs) = some (inD a xs) := by
  have : PyData.canLayAll0 (D.pys xs) = true := by rw [lay_all]; exact h2
  simp only [memD, h1, this, Bool.and_self, if_true]
@[simp] theorem mem_lst (a : D) (xs : List D) (h1 : eqOk a = true) (h2 : xs.all lay = true) : memD a (.lst xs) = some (inD a xs) := by
  have : PyData.canLayAll0 (D.pys xs) = true := by rw [lay_all]; exact h2
  simp only [memD, h1, this, Bool.and_self, if_true]
@[simp] theorem eqOk_row (r : List Bool) : eqOk (.str (rS r)) = true := eqOk_of 0 (lay_row r) rfl
@[simp] theorem eqOk_int (i : Int) : eqOk (.int i) = true := eqOk_of 0 (lay_int i) rfl
@[simp] theorem eqOk_bl (i : Bool) : eqOk (.bl i) = true := eqOk_of 0 (lay_bl i) rfl
@[simp] theorem eqOk_non : eqOk .non = true := eqOk_of 0 lay_non rfl
@[simp] theorem eqOk_pD (p : Nat × Nat) : eqOk (pD p) = true := eqOk_of 1 (lay_pD p) (dep_pD 0 p)
@[simp] theorem eqOk_lstS (xs : List D) (h1 : xs.all lay = true) (h2 : xs.all (dep 5) = true) : eqOk (.lst xs) = true := eqOk_of 6 (by rw [lay_lst]; exact h1) (by rw [dep_lst]; exact h2)
@[simp] theorem eqOk_tupS (xs : List D) (h1 : xs.all lay = true) (h2 : xs.all (dep 5) = true) : eqOk (.tup xs) = true := eqOk_of 6 (by rw [lay_tup]; exact h1) (by rw [dep_tup]; exact h2)
end DL
end
section
set_option Elab.async false
set_option linter.all false
set_option maxRecDepth 100000
/-! DMc: loops and comprehensions by invariants; lengths, ranges. -/
namespace DL
open PySem L2

/-! ### lengths, ranges -/
@[simp] theorem fLen_row (r : List Bool) (h : r.length ≤ 1000) : fLen [.str (rS r)] = some (.im (.int (r.length : Int))) := by
  have : okLen (rS r).length = true := okLen_of (by rw [rS_len]; omega)
  show (if okLen (rS r).length = true then some (Rv.im (.int ((rS r).length : Int))) else none) = _
  rw [if_pos this, rS_len]
@[simp] theorem fLen_lst (xs : List D) : fLen [.lst xs] = some (.im (.int (xs.length : Int))) := rfl
@[simp] theorem fLen_tup (xs : List D) : fLen [.tup xs] = some (.im (.int (xs.length : Int))) := rfl
@[simp] theorem fLen_scr (xs : List Int) : fLen [.scr xs] = some (.im (.int (xs.length : Int))) := rfl
abbrev nD (n : Nat) : D := .int (n : Int)
theorem rangeD_n (a b : Nat) : rangeD (a : Int) (b : Int) = (List.range (b - a)).map fun k => nD (a + k) := by
  unfold rangeD nD
  have : ((b : Int) - (a : Int)).toNat = b - a := by omega
  rw [this]
  refine List.map_congr_left fun k _ => ?_
  congr 1
@[simp] theorem rg1_n (n : Nat) (h : n ≤ 1000000000) : rg1D [.int (n : Int)] = some ((List.range n).map nD) := by
  have e : okR (n : Int) = true := by simp [okR_def]; omega
  simp only [rg1D, e, if_true]
  have := rangeD_n 0 n
  rw [show ((0 : Nat) : Int) = 0 from rfl] at this
  rw [this]
  simp
/-- a range whose end may lie below its start -/
theorem rg1_i (j : Int) (n : Nat) (h : j.toNat = n) (h1 : -1000000000 ≤ j) (h2 : j ≤ 1000000000) : rg1D [.int j] = some ((List.range n).map nD) := by
  have e : okR j = true := by simp [okR_def]; omega
  simp only [rg1D, e, if_true]
  unfold rangeD
  rw [Int.sub_zero, h]
  refine congrArg some (List.map_congr_left fun k _ => ?_)
  unfold nD
  congr 1
  omega
theorem rg2_i (a : Nat) (j : Int) (n : Nat) (h : (j - a).toNat = n) (h0 : a ≤ 1000000000) (h1 : -1000000000 ≤ j) (h2 : j ≤ 1000000000) : rg2D [.int (a : Int), .int j] = some ((List.range n).map fun k => nD (a + k)) := by
  have e : okR j = true := by simp [okR_def]; omega
  have e' : okR (a : Int) = true := by simp [okR_def]; omega
  simp only [rg2D, e, e', Bool.and_self, if_true]
  unfold rangeD
  rw [h]
  refine congrArg some (List.map_congr_left fun k _ => ?_)
  unfold nD
  congr 1
@[simp] theorem atI_n {α : Type} (l : List α) (i : Nat) : atI l (i : Int) = l[i]? := by
  unfold atI ixN
  by_cases h : i < l.length
  · rw [if_pos (by omega), if_pos (by omega)]
    simp
  · rw [if_pos (by omega), if_neg (by omega)]
    simp [List.getElem?_eq_none (show l.length ≤ i by omega)]

theorem atI_mp {α β : Type} (f : α → β) (l : List α) (i : Int) : atI (l.map f) i = (atI l i).map f := by
  unfold atI
  rw [List.length_map]
  cases ixN l.length i with
  | none => rfl
  | some k => simp
@[simp] theorem ix_row (r : List Bool) (i : Int) (h : r.length ≤ 1000) : ixD (.str (rS r)) (.int i) = (atI r i).map fun b => .str (rS [b]) := by
  have e : okLen (rS r).length = true := okLen_of (by rw [rS_len]; omega)
  show (if okLen (rS r).length = true then (atI (rS r).cps.toList i).map _ else none) = _
  rw [if_pos e, rS_cps, atI_mp, Option.map_map]
  rfl
@[simp] theorem ix_lst (xs : List D) (i : Int) : ixD (.lst xs) (.int i) = atI xs i := rfl
@[simp] theorem ix_tup (xs : List D) (i : Int) : ixD (.tup xs) (.int i) = atI xs i := rfl
@[simp] theorem ix_scr (xs : List Int) (i : Int) : ixD (.scr xs) (.int i) = (atI xs i).map D.int := rfl
@[simp] theorem atI_n2 {α : Type} (l : List α) (a b : Nat) : atI l ((a : Int) + (b : Int)) = l[a + b]? := by
  rw [← atI_n]; rfl
@[simp] theorem atI_n3 {α : Type} (l : List α) (a b c : Nat) : atI l ((a : Int) + (b : Int) + (c : Int)) = l[a + b + c]? := by
  rw [← atI_n]; rfl
/-! ### loops -/
/-- one turn -/
def turn (g : Rv → M Unit) (b : MS) (x : D) : MS := fun w => match g (.im x) w with
  | .val _ w1 => b w1
  | .exc c w1 => .exc c w1
  | .bad => .bad
theorem forL_turn (g : Rv → M Unit) (b : MS) (x : D) (xs : List D) (w : W) : forL g b (x :: xs) w = match turn g b x w with
  | .val .nxt w2 => forL g b xs w2
  | .val .cnt w2 => forL g b xs w2
  | .val .brk w2 => .val .nxt w2
  | .val (.ret r) w2 => .val (.ret r) w2
  | .exc c w2 => .exc c w2
  | .bad => .bad := by
  rw [forL_cons]
  unfold turn
  cases g (.im x) w with
  | val u w1 => rfl
  | exc c w' => rfl
  | bad => rfl
/-- a loop that runs through -/
theorem forL_inv {g : Rv → M Unit} {b : MS} {α : Type} (f : α → D) (I : Nat → W → Prop) : ∀ (xs : List α) (k : Nat) (w : W), I k w →
    (∀ i x w, xs[i]? = some x → I (k + i) w → ∃ w', turn g b (f x) w = .val .nxt w' ∧ I (k + i + 1) w') → ∃ w', forL g b (xs.map f) w = .val .nxt w' ∧ I (k + xs.length) w'
  | [], k, w, h, _ => ⟨w, rfl, h⟩
  | x :: xs, k, w, h, hs => by
    obtain ⟨w1, e1, h1⟩ := hs 0 x w rfl h
    obtain ⟨w2, e2, h2⟩ := forL_inv f I xs (k + 1) w1 h1 fun i y w e q => by
      have := hs (i + 1) y w (by simpa using e) (by rw [show k + (i + 1) = k + 1 + i by omega]; exact q)
      rw [show k + (i + 1) + 1 = k + 1 + i + 1 by omega] at this
      exact this
    refine ⟨w2, ?_, by rw [List.length_cons, show k + (xs.length + 1) = k + 1 + xs.length by omega]; exact h2⟩
    rw [List.map_cons, forL_turn, e1]
    exact e2
theorem range_get {n i x : Nat} : (List.range n)[i]? = some x ↔ i < n ∧ x = i := by
  rw [List.getElem?_eq_some_iff]
  simp only [List.length_range, List.getElem_range, exists_prop]
  exact ⟨fun h => ⟨h.1, h.2.symm⟩, fun h => ⟨h.1, h.2.symm⟩⟩
theorem forL_inv0 {g : Rv → M Unit} {b : MS} {α : Type} (f : α → D) (I : Nat → W → Prop) (xs : List α) (w : W) (h0 : I 0 w)
    (hs : ∀ i x w, xs[i]? = some x → I i w → ∃ w', turn g b (f x) w = .val .nxt w' ∧ I (i + 1) w') : ∃ w', forL g b (xs.map f) w = .val .nxt w' ∧ I xs.length w' := by
  obtain ⟨w', e, h⟩ := forL_inv (g := g) (b := b) f I xs 0 w h0 fun i x w e q => by
    rw [Nat.zero_add] at q ⊢
    exact hs i x w e q
  rw [Nat.zero_add] at h
  exact ⟨w', e, h⟩
theorem forL_rng {g : Rv → M Unit} {b : MS} (f : Nat → D) (I : Nat → W → Prop) (n : Nat) (w : W) (h0 : I 0 w)
    (hs : ∀ i w, i < n → I i w → ∃ w', turn g b (f i) w = .val .nxt w' ∧ I (i + 1) w') : ∃ w', forL g b ((List.range n).map f) w = .val .nxt w' ∧ I n w' := by
  obtain ⟨w', e, h⟩ := forL_inv0 (g := g) (b := b) f I (List.range n) w h0 fun i x w e q => by
    obtain ⟨h1, rfl⟩ := range_get.mp e
    exact hs x w h1 q
  rw [List.length_range] at h
  exact ⟨w', e, h⟩
/-- a loop that runs through, its states told -/
theorem forL_st {g : Rv → M Unit} {b : MS} {α : Type} (f : α → D) (S : Nat → W) (xs : List α) (hs : ∀ i x, xs[i]? = some x → turn g b (f x) (S i) = .val .nxt (S (i + 1))) : forL g b (xs.map f) (S 0) = .val .nxt (S xs.length) := by
  obtain ⟨w, e, h⟩ := forL_inv (g := g) (b := b) f (fun i w => w = S i) xs 0 (S 0) rfl fun i x w e q => by
    subst q
    rw [Nat.zero_add]
    exact ⟨_, hs i x e, rfl⟩
  rw [Nat.zero_add] at h
  rw [e, h]
/-- a loop that may be left by return or break: at the first such turn, or never -/
theorem forL_exit {g : Rv → M Unit} {b : MS} {α : Type} (f : α → D) (I : Nat → W → Prop) (R : Out W Fl → Prop) : ∀ (xs : List α) (k : Nat) (w : W), I k w →
    (∀ i x w, xs[i]? = some x → I (k + i) w → (∃ w', turn g b (f x) w = .val .nxt w' ∧ I (k + i + 1) w') ∨ (∃ r w', turn g b (f x) w = .val (.ret r) w' ∧ R (.val (.ret r) w')) ∨ (∃ w', turn g b (f x) w = .val .brk w' ∧ R (.val .nxt w'))) →
    (∃ w', forL g b (xs.map f) w = .val .nxt w' ∧ I (k + xs.length) w') ∨ R (forL g b (xs.map f) w)
  | [], k, w, h, _ => .inl ⟨w, rfl, h⟩
  | x :: xs, k, w, h, hs => by
    rcases hs 0 x w rfl h with ⟨w1, e1, h1⟩ | ⟨r, w1, e1, h1⟩ | ⟨w1, e1, h1⟩
    · rcases forL_exit f I R xs (k + 1) w1 h1 fun i y w e q => by
        have := hs (i + 1) y w (by simpa using e) (by rw [show k + (i + 1) = k + 1 + i by omega]; exact q)
        rw [show k + (i + 1) + 1 = k + 1 + i + 1 by omega] at this
        exact this with ⟨w2, e2, h2⟩ | h2
      · refine .inl ⟨w2, ?_, by rw [List.length_cons, show k + (xs.length + 1) = k + 1 + xs.length by omega]; exact h2⟩
        rw [List.map_cons, forL_turn, e1]
        exact e2
      · refine .inr ?_
        rw [List.map_cons, forL_turn, e1]
        exact h2
    · refine .inr ?_
      rw [List.map_cons, forL_turn, e1]
      exact h1
    · refine .inr ?_
      rw [List.map_cons, forL_turn, e1]
      exact h1
theorem forL_exit0 {g : Rv → M Unit} {b : MS} {α : Type} (f : α → D) (I : Nat → W → Prop) (R : Out W Fl → Prop) (xs : List α) (w : W) (h0 : I 0 w)
    (hs : ∀ i x w, xs[i]? = some x → I i w → (∃ w', turn g b (f x) w = .val .nxt w' ∧ I (i + 1) w') ∨ (∃ r w', turn g b (f x) w = .val (.ret r) w' ∧ R (.val (.ret r) w')) ∨ (∃ w', turn g b (f x) w = .val .brk w' ∧ R (.val .nxt w'))) :
    (∃ w', forL g b (xs.map f) w = .val .nxt w' ∧ I xs.length w') ∨ R (forL g b (xs.map f) w) := by
  have := forL_exit (g := g) (b := b) f I R xs 0 w h0 fun i x w e q => by
    rw [Nat.zero_add] at q ⊢
    exact hs i x w e q
  rwa [Nat.zero_add] at this
/-! ### while -/
theorem whileN_succ (c : M Bool) (b : MS) (n : Nat) (w : W) : whileN c b (n + 1) w = match c w with
  | .val true w1 => (match b w1 with
    | .val .nxt w2 => whileN c b n w2
    | .val .cnt w2 => whileN c b n w2
    | .val .brk w2 => .val .nxt w2
    | .val (.ret r) w2 => .val (.ret r) w2
    | .exc c w2 => .exc c w2
    | .bad => .bad)
  | .val false w1 => .val .nxt w1
  | .exc c w1 => .exc c w1
  | .bad => .bad := by
  show M.bnd c _ w = _
  rw [bnd_ap]
  cases c w with
  | val k w1 =>
    cases k with
    | false => rfl
    | true =>
      dsimp only
      rw [if_pos rfl]
      show M.bnd b _ w1 = _
      rw [bnd_ap]
      cases b w1 with
      | val f w2 => cases f <;> rfl
      | exc c w' => rfl
      | bad => rfl
  | exc c w' => rfl
  | bad => rfl
theorem whileN_more (c : M Bool) (b : MS) : ∀ (n : Nat) (w : W), okOut (whileN c b n w) → ∀ m, n ≤ m → whileN c b m w = whileN c b n w := by
  intro n
  induction n with
  | zero => intro w h; exact h.elim
  | succ n ih =>
    intro w h m hm
    obtain ⟨m, rfl⟩ : ∃ k, m = k + 1 := ⟨m - 1, by omega⟩
    rw [whileN_succ] at h ⊢
    rw [whileN_succ]
    cases e : c w with
    | val k w1 =>
      rw [e] at h
      cases k with
      | false => rfl
      | true =>
        dsimp only at h ⊢
        cases e1 : b w1 with
        | val f w2 =>
          rw [e1] at h
          cases f with
          | nxt => exact ih w2 h m (by omega)
          | cnt => exact ih w2 h m (by omega)
          | brk => rfl
          | ret r => rfl
        | exc c w' => rfl
        | bad => rfl
    | exc c w' => rfl
    | bad => rfl
theorem sWhile_of {c : M Bool} {b : MS} {w : W} {o : Out W Fl} (n : Nat) (h : whileN c b n w = o) (ok : okOut o) : sWhile c b w = o := by
  subst h
  unfold sWhile
  have ex : ∃ m, okOut (whileN c b m w) := ⟨n, ok⟩
  rw [dif_pos ex]
  have ok' : okOut (whileN c b (Classical.choose ex) w) := Classical.choose_spec ex
  by_cases hm : n ≤ Classical.choose ex
  · exact whileN_more c b n w ok _ hm
  · exact (whileN_more c b _ w ok' n (by omega)).symm
/-- a while whose states are told: n turns -/
theorem sWhile_st {c : M Bool} {b : MS} (S : Nat → W) (n : Nat) (hs : ∀ i, i < n → c (S i) = .val true (S i) ∧ b (S i) = .val .nxt (S (i + 1))) (hd : c (S n) = .val false (S n)) : sWhile c b (S 0) = .val .nxt (S n) := by
  refine sWhile_of (n + 1) ?_ trivial
  have key : ∀ k i, i + k = n → whileN c b (k + 1) (S i) = .val .nxt (S n) := by
    intro k
    induction k with
    | zero => intro i e; rw [whileN_succ, show i = n by omega, hd]
    | succ k ih =>
      intro i e
      obtain ⟨h1, h2⟩ := hs i (by omega)
      rw [whileN_succ, h1]
      dsimp only
      rw [h2]
      exact ih (i + 1) (by omega)
  exact key n 0 (by omega)
/-! ### comprehensions -/
@[simp] theorem frzR_nil (ρ : List Rv) : frzR ρ [] = ρ := rfl
@[simp] theorem frzR_cons (ρ : List Rv) (i : Nat) (is : List Nat) : frzR ρ (i :: is) = frzR (match ρ[i]? with
    | some (.ow xs) => ρ.set i (.im (.lst xs))
    | some (.od ks vs) => ρ.set i (.im (.dic ks vs))
    | _ => ρ) is := rfl
@[simp] theorem wipeR_nil (ρ : List Rv) : wipeR ρ [] = ρ := rfl
@[simp] theorem wipeR_cons (ρ : List Rv) (v : Nat) (vs : List Nat) : wipeR ρ (v :: vs) = (wipeR ρ vs).set v .un := rfl
def hideR : Rv → Rv
  | .im d => .im d
  | _ => .un
@[simp] theorem hideR_im (d : D) : hideR (.im d) = .im d := rfl
@[simp] theorem hideR_un : hideR .un = .un := rfl
@[simp] theorem hideR_ow (d : List D) : hideR (.ow d) = .un := rfl
@[simp] theorem hideR_od (d e : List D) : hideR (.od d e) = .un := rfl
@[simp] theorem blkR_ap (ρ : List Rv) (vs : List Nat) : blkR ρ vs = (wipeR ρ vs).map hideR := rfl
theorem lcL_map {g : Rv → M Unit} {t : M Bool} {e : M D} {ρ : List Rv} {O : List Rec} {α : Type} (f : α → D) (k : α → Bool) (d : α → D) : ∀ (xs : List α) (acc : List D), acc.length + xs.length ≤ 16777216 →
    (∀ x ∈ xs, ∃ w w1, g (.im (f x)) ⟨ρ, O⟩ = .val () w ∧ t w = .val (k x) w1 ∧ w1.O = O ∧ (k x = true → ∃ w2, e w1 = .val (d x) w2 ∧ w2.O = O)) →
    lcL g t e ρ (xs.map f) acc O = .val (acc ++ (xs.filter k).map d) O
  | [], acc, _, _ => by simp [lcL]
  | x :: xs, acc, hl, h => by
    obtain ⟨w, w1, h1, h2, h3, h4⟩ := h x List.mem_cons_self
    rw [List.length_cons] at hl
    rw [List.map_cons, lcL, h1]
    dsimp only
    rw [h2]
    dsimp only
    cases hk : k x with
    | false =>
      rw [if_neg Bool.false_ne_true, h3, lcL_map f k d xs acc (by omega) fun y hy => h y (List.mem_cons_of_mem _ hy), List.filter_cons, hk]
      rfl
    | true =>
      obtain ⟨w2, h5, h6⟩ := h4 hk
      rw [if_pos rfl, h5]
      dsimp only
      rw [if_pos (decide_eq_true (show acc.length < 16777216 by omega)), h6, lcL_map f k d xs (acc ++ [d x]) (by rw [List.length_append]; simp; omega) fun y hy => h y (List.mem_cons_of_mem _ hy), List.filter_cons, hk]
      simp
/-- .. without a test -/
theorem lcL_all {g : Rv → M Unit} {e : M D} {ρ : List Rv} {O : List Rec} {α : Type} (f : α → D) (d : α → D) (xs : List α) (hl : xs.length ≤ 16777216)
    (h : ∀ x ∈ xs, ∃ w, g (.im (f x)) ⟨ρ, O⟩ = .val () w ∧ w.O = O ∧ e w = .val (d x) w) :
    lcL g tYesM e ρ (xs.map f) [] O = .val (xs.map d) O := by
  rw [lcL_map f (fun _ => true) d xs [] (by simpa using hl) fun x hx => by
    obtain ⟨w, h1, h2, h3⟩ := h x hx
    exact ⟨w, w, h1, rfl, h2, fun _ => ⟨w, h3, h2⟩⟩]
  rw [List.nil_append, List.filter_eq_self.mpr fun _ _ => rfl]
/-- .. with one -/
theorem lcL_if {g : Rv → M Unit} {t : M Bool} {e : M D} {ρ : List Rv} {O : List Rec} {α : Type} (f : α → D) (k : α → Bool) (d : α → D) (xs : List α) (hl : xs.length ≤ 16777216)
    (h : ∀ x ∈ xs, ∃ w, g (.im (f x)) ⟨ρ, O⟩ = .val () w ∧ w.O = O ∧ t w = .val (k x) w ∧ (k x = true → e w = .val (d x) w)) :
    lcL g t e ρ (xs.map f) [] O = .val ((xs.filter k).map d) O := by
  rw [lcL_map f k d xs [] (by simpa using hl) fun x hx => by
    obtain ⟨w, h1, h2, h3, h4⟩ := h x hx
    exact ⟨w, w, h1, h3, h2, fun q => ⟨w, h4 q, h2⟩⟩]
  simp
@[simp ↓] theorem eLc_ap (vs is : List Nat) (it : M (List D)) (g : Rv → M Unit) (t : M Bool) (e : M D) (w : W) : eLc vs is it g t e w = match it w with
  | .val xs w1 => (match lcL g t e (blkR (frzR w1.ρ is) vs) xs [] w1.O with
    | .val acc O => .val (.ow acc) ⟨frzR w1.ρ is, O⟩
    | _ => .bad)
  | .exc c w1 => .exc c w1
  | .bad => .bad := by
  show M.bnd it _ w = _
  rw [bnd_ap]
  cases it w <;> rfl
end DL
end
section
set_option Elab.async false
set_option linter.all false
set_option maxRecDepth 100000
set_option maxHeartbeats 1000000
/-! DMd: rows: gaps, bookings that are allowed. -/
namespace DL
open PySem L2
local macro_rules | `(tactic| walk_at "ev") => `(tactic| simp (disch := first | assumption | (simp; done) | omega | (simp; omega)))

/-! ### all bookings -/
def everyT (n m : Nat) : List (Nat × Nat) := (List.range m).flatMap fun s => (List.range (n - s)).map fun k => (s, k + 1)
theorem everyT_succ (n m : Nat) : everyT n (m + 1) = everyT n m ++ (List.range (n - m)).map fun k => (m, k + 1) := by
  unfold everyT
  rw [List.range_succ, List.flatMap_append]
  simp
theorem everyT_len (n : Nat) (h : n ≤ 40) : ∀ m, m ≤ 40 → (everyT n m).length ≤ m * 40
  | 0, _ => by simp [everyT]
  | m + 1, hm => by
    rw [everyT_succ, List.length_append, List.length_map, List.length_range]
    have := everyT_len n h m (by omega)
    omega
def every (n : Nat) : List (Nat × Nat) := everyT n n
theorem mem_every {n s z : Nat} : (s, z) ∈ every n ↔ 1 ≤ z ∧ s + z ≤ n := by
  unfold every everyT
  simp only [List.mem_flatMap, List.mem_range, List.mem_map, Prod.mk.injEq]
  constructor
  · rintro ⟨a, h1, k, h2, rfl, rfl⟩; omega
  · rintro ⟨h1, h2⟩; exact ⟨s, by omega, z - 1, by omega, rfl, by omega⟩
theorem every_ok (r : List Bool) (O : List Rec) (h : r.length ≤ 40) : F_law_every [.str (rS r)] O = .val (.ow ((every r.length).map pD)) O := by
  unfold F_law_every B_law_every
  walk_at "ev"
  obtain ⟨w', e, r2, rfl⟩ := forL_rng (g := gN 2) (b := B_law_every_1) nD (fun i w => ∃ r2, w = ⟨[.im (.str (rS r)), .ow ((everyT r.length i).map pD), r2, .un], O⟩) r.length ⟨[.im (.str (rS r)), .ow [], .un, .un], O⟩ ⟨_, rfl⟩ (by
    rintro i w hi ⟨r2, rfl⟩
    refine ⟨⟨[.im (.str (rS r)), .ow ((everyT r.length (i + 1)).map pD), .im (nD i), .un], O⟩, ?_, _, rfl⟩
    unfold turn B_law_every_1
    have hl := everyT_len r.length h i (by omega)
    have hr : rg2D [.int 1, .int ((r.length : Int) - (i : Int) + 1)] = some ((List.range (r.length - i)).map fun k => nD (1 + k)) := rg2_i 1 _ _ (by omega) (by omega) (by omega) (by omega)
    simp (disch := first | assumption | (simp; done) | omega | (simp; omega)) [hr]
    rw [lcL_all _ (fun k => pD (i, k + 1))]
    · walk_at "ev"
      rw [everyT_succ]
      simp
    · simp; omega
    · intro k _
      refine ⟨_, rfl, rfl, ?_⟩
      walk_at "ev"
      simp [pD]; omega)
  rw [e]
  rfl

/-! ### signs, drawn -/
theorem drawn_row (r : List Bool) : drawn (.str (rS r)) = some (r.map fun b => .str (rS [b])) := by
  show some ((rS r).cps.toList.map _) = _
  rw [rS_cps, List.map_map]; rfl
theorem enumD_map {α : Type} (f : α → D) : ∀ (l : List α) (k : Nat), enumD k (l.map f) = (l.zipIdx k).map fun p => .tup [nD p.2, f p.1]
  | [], _ => rfl
  | x :: xs, k => by
    rw [List.map_cons, enumD, enumD_map f xs (k + 1), List.zipIdx_cons, List.map_cons]
theorem eqD_sign (a b : Bool) : eqD (.str (rS [a])) (.str (rS [b])) = (a == b) := by
  rw [eqD_row]; cases a <;> cases b <;> rfl
theorem eqOk_lst {α : Type} (f : α → D) (n : Nat) (h : ∀ a, lay (f a) = true) (h2 : ∀ a, dep n (f a) = true) (xs : List α) (hn : n + 1 ≤ 64 := by decide) : eqOk (.lst (xs.map f)) = true :=
  eqOk_of (n + 1) (by rw [lay_lst]; exact all_lay f h xs) (by rw [dep_lst]; exact all_dep n f h2 xs) hn
theorem eqOk_tup {α : Type} (f : α → D) (n : Nat) (h : ∀ a, lay (f a) = true) (h2 : ∀ a, dep n (f a) = true) (xs : List α) (hn : n + 1 ≤ 64 := by decide) : eqOk (.tup (xs.map f)) = true :=
  eqOk_of (n + 1) (by rw [lay_tup]; exact all_lay f h xs) (by rw [dep_tup]; exact all_dep n f h2 xs) hn

/-! ### gaps -/
def gapsB : Nat → Option Nat → List Bool → List (Nat × Nat)
  | _, _, [] => []
  | i, none, true :: r => gapsB (i + 1) (some i) r
  | i, some a, true :: r => gapsB (i + 1) (some a) r
  | i, none, false :: r => gapsB (i + 1) none r
  | i, some a, false :: r => (a, i - a) :: gapsB (i + 1) none r
def gapsL (r : List Bool) : List (Nat × Nat) := gapsB 0 none (r ++ [false])
def optD : Option Nat → D
  | none => .non
  | some a => nD a
theorem gapsB_le : ∀ (r : List Bool) (i : Nat) (st : Option Nat), (gapsB i st r).length ≤ r.length
  | [], _, _ => by simp [gapsB]
  | true :: r, i, none => by rw [gapsB]; have := gapsB_le r (i + 1) (some i); simp; omega
  | true :: r, i, some a => by rw [gapsB]; have := gapsB_le r (i + 1) (some a); simp; omega
  | false :: r, i, none => by rw [gapsB]; have := gapsB_le r (i + 1) none; simp; omega
  | false :: r, i, some a => by rw [gapsB]; have := gapsB_le r (i + 1) none; simp; omega
theorem gapsL_len (r : List Bool) : (gapsL r).length ≤ r.length + 1 := by
  have := gapsB_le (r ++ [false]) 0 none
  rw [List.length_append] at this
  exact this
theorem gaps_ok (r : List Bool) (O : List Rec) (h : r.length ≤ 900) : F_gaps [.str (rS r)] O = .val (.ow ((gapsL r).map pD)) O := by
  unfold F_gaps B_gaps
  walk_at "ev"
  rw [drawn_row]
  have hg : gapsL r = gapsB 0 none (r ++ [false]) := rfl
  have hL : (r ++ [false]).length ≤ 901 := by simp; omega
  have hz := gapsL_len r
  generalize r ++ [false] = L at *
  walk_at "ev"
  rw [enumD_map]
  obtain ⟨w', e, found, st, r3, r4, rfl, hf, _⟩ := forL_inv0 (g := gT [3, 4]) (b := B_gaps_1) (fun p : Bool × Nat => .tup [nD p.2, .str (rS [p.1])]) (fun i w => ∃ (found : List (Nat × Nat)) (st : Option Nat) (r3 r4 : Rv), w = ⟨[.im (.str (rS r)), .ow (found.map pD), .im (optD st), r3, r4], O⟩ ∧ gapsL r = found ++ gapsB i st (L.drop i) ∧ (∀ a, st = some a → a ≤ i)) (L.zipIdx 0) ⟨[.im (.str (rS r)), .ow [], .im .non, .un, .un], O⟩ ⟨[], none, _, _, rfl, hg, fun a e => nomatch e⟩ (by
    rintro i ⟨b, j⟩ w hx ⟨found, st, r3, r4, rfl, hf, hst⟩
    rw [List.getElem?_zipIdx] at hx
    obtain ⟨b', hb, e⟩ := Option.map_eq_some_iff.mp hx
    obtain ⟨rfl, rfl⟩ : b' = b ∧ i = j := by simpa using e
    have hlt : i < L.length := (List.getElem?_eq_some_iff.mp hb).1
    have hd : L.drop i = b' :: L.drop (i + 1) := by
      obtain ⟨h1, h2⟩ := List.getElem?_eq_some_iff.mp hb
      rw [List.drop_eq_getElem_cons h1, h2]
    rw [hd] at hf
    have hlen : found.length ≤ 901 := by
      have := hz
      rw [hf, List.length_append] at this

      omega
    cases b' with
    | true =>
      cases st with
      | none =>
        rw [gapsB] at hf
        refine ⟨_, ?_, found, some i, .im (nD i), .im (.str (rS [true])), rfl, hf, fun a e => by cases e; omega⟩
        unfold turn B_gaps_1
        simp (disch := first | assumption | (simp; done) | omega | (simp; omega)) [eqD_sign, optD]
      | some a =>
        rw [gapsB] at hf
        refine ⟨_, ?_, found, some a, .im (nD i), .im (.str (rS [true])), rfl, hf, fun b e => by have := hst a rfl; cases e; omega⟩
        unfold turn B_gaps_1
        simp (disch := first | assumption | (simp; done) | omega | (simp; omega)) [eqD_sign, optD]
    | false =>
      cases st with
      | none =>
        rw [gapsB] at hf
        refine ⟨_, ?_, found, none, .im (nD i), .im (.str (rS [false])), rfl, hf, fun a e => nomatch e⟩
        unfold turn B_gaps_1
        simp (disch := first | assumption | (simp; done) | omega | (simp; omega)) [eqD_sign, optD]
      | some a =>
        rw [gapsB] at hf
        have ha := hst a rfl
        refine ⟨_, ?_, found ++ [(a, i - a)], none, .im (nD i), .im (.str (rS [false])), rfl, by rw [hf]; simp, fun a e => nomatch e⟩
        have e1 : ((i : Int) - (a : Int)) = ((i - a : Nat) : Int) := by omega
        unfold turn B_gaps_1
        simp (disch := first | assumption | (simp; done) | omega | (simp; omega)) [eqD_sign, optD, pD, e1])
  rw [e]
  rw [List.length_zipIdx, List.drop_length, show gapsB _ st [] = [] by cases st <;> rfl, List.append_nil] at hf
  rw [hf]
  rfl
end DL
end
section
set_option Elab.async false
set_option linter.all false
set_option maxRecDepth 100000
set_option maxHeartbeats 1000000
/-! DMe: stretches of free seats; bookings that are free, that are allowed. -/
namespace DL
open PySem L2
local macro_rules | `(tactic| walk_at "ev") => `(tactic| simp (disch := first | assumption | (simp; done) | omega | (simp; omega)))

/-! ### stretches -/
/-- seat i is there and free -/
def tr (r : List Bool) (i : Nat) : Bool := r[i]? == some true
theorem tr_iff {r : List Bool} {i : Nat} : tr r i = true ↔ r[i]? = some true := by unfold tr; exact beq_iff_eq
theorem tr_lt {r : List Bool} {i : Nat} (h : tr r i = true) : i < r.length := (List.getElem?_eq_some_iff.mp (tr_iff.mp h)).1
theorem tr_ge {r : List Bool} {i : Nat} (h : r.length ≤ i) : tr r i = false := by
  unfold tr; rw [List.getElem?_eq_none h]; rfl
theorem tr_get {r : List Bool} {i : Nat} (h : i < r.length) : r[i]? = some (tr r i) := by
  unfold tr
  rw [List.getElem?_eq_getElem h]
  cases r[i] <;> rfl
theorem tr_g {r : List Bool} {i : Nat} (h : i < r.length) : r[i] = tr r i := by
  have := tr_get h
  rw [List.getElem?_eq_getElem h] at this
  exact Option.some.inj this
theorem tr_x (r : List Bool) (i : Nat) : tr (r ++ [false]) i = tr r i := by
  unfold tr
  by_cases h : i < r.length
  · rw [List.getElem?_append_left h]
  · rw [List.getElem?_append_right (by omega), List.getElem?_eq_none (show r.length ≤ i by omega)]
    cases i - r.length with
    | zero => rfl
    | succ k => rfl
structure Gap (T : Nat → Bool) (a n : Nat) : Prop where
  pos : 0 < n
  all : ∀ k, a ≤ k → k < a + n → T k = true
  hi : T (a + n) = false
  lo : ∀ k, k + 1 = a → T k = false
theorem mem_gapsB (T : Nat → Bool) : ∀ (m i : Nat) (st : Option Nat), (∀ k, i + m ≤ k + 1 → T k = false) →
    (st = none → ∀ k, k + 1 = i → T k = false) → (∀ b, st = some b → b < i ∧ (∀ k, b ≤ k → k < i → T k = true) ∧ (∀ k, k + 1 = b → T k = false)) →
    ∀ a n, (a, n) ∈ gapsB i st ((List.range' i m).map T) ↔ Gap T a n ∧ (st = none → i ≤ a) ∧ (∀ b, st = some b → b ≤ a)
  | 0, i, none, hT, _, _, a, n => by
    simp only [List.range'_zero, List.map_nil, gapsB, List.not_mem_nil, false_iff]
    rintro ⟨g, h, _⟩
    have h1 := g.all a (Nat.le_refl _) (by have := g.pos; omega)
    rw [hT a (by have := h trivial; omega)] at h1
    cases h1
  | 0, i, some b, hT, _, hb, a, n => by
    obtain ⟨h1, h2, _⟩ := hb b rfl
    have h3 := h2 (i - 1) (by omega) (by omega)
    rw [hT (i - 1) (by omega)] at h3
    cases h3
  | m + 1, i, none, hT, hn, hb, a, n => by
    rw [List.range'_succ, List.map_cons]
    cases q : T i with
    | true =>
      rw [gapsB, mem_gapsB T m (i + 1) (some i) (fun k h => hT k (by omega)) (fun z => nomatch z) (fun b z => by
        cases z
        exact ⟨by omega, fun k h1 h2 => by rw [show k = i by omega]; exact q, hn rfl⟩) a n]
      simp
    | false =>
      rw [gapsB, mem_gapsB T m (i + 1) none (fun k h => hT k (by omega)) (fun _ k h => by rw [show k = i by omega]; exact q) (fun b z => nomatch z) a n]
      simp only [true_implies, reduceCtorEq, false_implies, implies_true, and_true]
      refine and_congr_right fun g => ⟨fun h => by omega, fun h => ?_⟩
      by_cases e : i = a
      · subst e
        have := g.all i (Nat.le_refl _) (by have := g.pos; omega)
        rw [q] at this; cases this
      · omega
  | m + 1, i, some b, hT, hn, hb, a, n => by
    obtain ⟨b1, b2, b3⟩ := hb b rfl
    rw [List.range'_succ, List.map_cons]
    cases q : T i with
    | true =>
      rw [gapsB, mem_gapsB T m (i + 1) (some b) (fun k h => hT k (by omega)) (fun z => nomatch z) (fun b z => by
        cases z
        exact ⟨by omega, fun k h1 h2 => by
          by_cases e : k = i
          · rw [e]; exact q
          · exact b2 k h1 (by omega), b3⟩) a n]
      simp
    | false =>
      rw [gapsB, List.mem_cons, mem_gapsB T m (i + 1) none (fun k h => hT k (by omega)) (fun _ k h => by rw [show k = i by omega]; exact q) (fun b z => nomatch z) a n]
      simp only [true_implies, reduceCtorEq, false_implies, implies_true, and_true, Option.some.injEq, forall_eq', Prod.mk.injEq, true_and]
      constructor
      · rintro (⟨rfl, rfl⟩ | ⟨g, h⟩)
        · exact ⟨⟨by omega, fun k h1 h2 => b2 k h1 (by omega), by rw [show a + (i - a) = i by omega]; exact q, b3⟩, Nat.le_refl _⟩
        · exact ⟨g, by omega⟩
      · rintro ⟨g, h⟩
        have g0 := g.pos
        by_cases h1 : i < a
        · exact .inr ⟨g, by omega⟩
        · refine .inl ?_
          have h2 : ¬ (a ≤ i ∧ i < a + n) := fun ⟨u, v⟩ => by
            have := g.all i u v
            rw [q] at this; cases this
          have h3 : a = b := by
            by_cases e : a = b
            · exact e
            · have := g.lo (a - 1) (by omega)
              rw [b2 (a - 1) (by omega) (by omega)] at this; cases this
          subst h3
          refine ⟨rfl, ?_⟩
          by_cases e : a + n = i
          · omega
          · have := g.hi
            rw [b2 (a + n) (by omega) (by omega)] at this; cases this
theorem row_map (L : List Bool) : (List.range' 0 L.length).map (tr L) = L := by
  refine List.ext_getElem (by simp) fun i h1 h2 => ?_
  simp only [List.getElem_map, List.getElem_range', Nat.zero_add, Nat.one_mul]
  unfold tr
  rw [List.getElem?_eq_getElem h2]
  cases L[i] <;> rfl
theorem mem_gaps {r : List Bool} {a n : Nat} : (a, n) ∈ gapsL r ↔ Gap (tr r) a n := by
  unfold gapsL
  have e : tr (r ++ [false]) = tr r := funext fun i => tr_x r i
  rw [← row_map (r ++ [false]), mem_gapsB (tr (r ++ [false])) _ 0 none (fun k h => by
    rw [tr_x]; rw [List.length_append] at h; exact tr_ge (by simp at h; omega)) (fun _ k h => by omega) (fun b h => nomatch h) a n, e]
  simp
/-- free seats just before s -/
def lf (T : Nat → Bool) : Nat → Nat
  | 0 => 0
  | s + 1 => if T s = true then lf T s + 1 else 0
theorem lf_le (T : Nat → Bool) : ∀ s, lf T s ≤ s
  | 0 => Nat.le_refl _
  | s + 1 => by
    rw [lf]; split
    · have := lf_le T s; omega
    · omega
theorem lf_lt (T : Nat → Bool) : ∀ s j, j < lf T s → T (s - 1 - j) = true
  | 0, j, h => by simp [lf] at h
  | s + 1, j, h => by
    rw [lf] at h
    split at h
    · rename_i q
      cases j with
      | zero => exact q
      | succ j =>
        have := lf_lt T s j (by omega)
        rw [show s + 1 - 1 - (j + 1) = s - 1 - j by omega]; exact this
    · omega
theorem lf_at (T : Nat → Bool) : ∀ s, lf T s < s → T (s - 1 - lf T s) = false
  | 0, h => by omega
  | s + 1, h => by
    rw [lf] at h ⊢
    split at h
    · rename_i q
      rw [if_pos q]
      have := lf_at T s (by omega)
      rw [show s + 1 - 1 - (lf T s + 1) = s - 1 - lf T s by omega]; exact this
    · rename_i q
      rw [if_neg q]
      exact Bool.eq_false_iff.mpr q
theorem lf_eq {T : Nat → Bool} {s k : Nat} (hk : k ≤ s) (h : ∀ j, s - k ≤ j → j < s → T j = true) (h2 : ∀ j, j + 1 + k = s → T j = false) : lf T s = k := by
  have h3 := lf_le T s
  rcases Nat.lt_trichotomy (lf T s) k with q | q | q
  · have := lf_at T s (by omega)
    rw [h _ (by omega) (by omega)] at this; cases this
  · exact q
  · have := lf_lt T s k q
    rw [h2 _ (by omega)] at this; cases this
/-- free seats from e on -/
def rt (r : List Bool) (e : Nat) : Nat := ((r.drop e).takeWhile id).length
theorem rt_rec (r : List Bool) (e : Nat) : rt r e = if tr r e = true then rt r (e + 1) + 1 else 0 := by
  unfold rt
  by_cases h : e < r.length
  · rw [List.drop_eq_getElem_cons h, List.takeWhile_cons]
    unfold tr
    rw [List.getElem?_eq_getElem h]
    cases r[e] <;> simp
  · rw [List.drop_of_length_le (by omega), tr_ge (by omega)]
    rfl
theorem rt_eq {r : List Bool} : ∀ {k e : Nat}, (∀ j, e ≤ j → j < e + k → tr r j = true) → tr r (e + k) = false → rt r e = k
  | 0, e, _, h => by rw [rt_rec, if_neg (by rw [show e = e + 0 from rfl, h]; exact Bool.false_ne_true)]
  | k + 1, e, h, h2 => by
    rw [rt_rec, if_pos (h e (Nat.le_refl _) (by omega)), rt_eq (k := k) (fun j h1 h3 => h j (by omega) (by omega)) (by rw [show e + 1 + k = e + (k + 1) by omega]; exact h2)]
theorem rt_len (r : List Bool) (e : Nat) : rt r e ≤ r.length - e := by
  unfold rt
  rw [← List.length_drop]
  exact (List.takeWhile_sublist _).length_le
theorem rt_lt {r : List Bool} : ∀ {j e : Nat}, j < rt r e → tr r (e + j) = true
  | 0, e, h => by
    rw [rt_rec] at h
    split at h
    · assumption
    · omega
  | j + 1, e, h => by
    rw [rt_rec] at h
    split at h
    · have := rt_lt (r := r) (j := j) (e := e + 1) (by omega)
      rw [show e + (j + 1) = e + 1 + j by omega]; exact this
    · omega
theorem rt_at {r : List Bool} : ∀ {k e : Nat}, rt r e = k → tr r (e + k) = false
  | 0, e, h => by
    rw [rt_rec] at h
    split at h
    · omega
    · rename_i q; exact Bool.eq_false_iff.mpr q
  | k + 1, e, h => by
    rw [rt_rec] at h
    split at h
    · have := rt_at (r := r) (k := k) (e := e + 1) (by omega)
      rw [show e + (k + 1) = e + 1 + k by omega]; exact this
    · omega
/-- a free stretch lies in one gap -/
theorem gap_of {r : List Bool} {s : Nat} (h : tr r s = true) : Gap (tr r) (s - lf (tr r) s) (lf (tr r) s + rt r s) := by
  have h1 := lf_le (tr r) s
  have h2 : 0 < rt r s := by rw [rt_rec, if_pos h]; omega
  refine ⟨by omega, fun k a b => ?_, ?_, fun k e => ?_⟩
  · by_cases q : k < s
    · have := lf_lt (tr r) s (s - 1 - k) (by omega)
      rw [show s - 1 - (s - 1 - k) = k by omega] at this; exact this
    · have := rt_lt (r := r) (j := k - s) (e := s) (by omega)
      rw [show s + (k - s) = k by omega] at this; exact this
  · have := rt_at (r := r) (e := s) rfl
    rw [show s - lf (tr r) s + (lf (tr r) s + rt r s) = s + rt r s by omega]; exact this
  · have := lf_at (tr r) s (by omega)
    rw [show k = s - 1 - lf (tr r) s by omega]; exact this
theorem gap_at {r : List Bool} {a n s : Nat} (g : Gap (tr r) a n) (h1 : a ≤ s) (h2 : s < a + n) : lf (tr r) s = s - a ∧ rt r s = a + n - s := by
  refine ⟨lf_eq (by omega) (fun j u v => g.all j (by omega) (by omega)) (fun j e => g.lo j (by omega)), rt_eq (fun j u v => g.all j (by omega) (by omega)) ?_⟩
  rw [show s + (a + n - s) = a + n by omega]
  exact g.hi
theorem rt_split {r : List Bool} {s z : Nat} (h : ∀ j, s ≤ j → j < s + z → tr r j = true) : rt r s = z + rt r (s + z) := by
  refine rt_eq (fun j u v => ?_) (by have := rt_at (r := r) (e := s + z) rfl; rw [show s + (z + rt r (s + z)) = s + z + rt r (s + z) by omega]; exact this)
  by_cases q : j < s + z
  · exact h j u q
  · have := rt_lt (r := r) (j := j - (s + z)) (e := s + z) (by omega)
    rw [show s + z + (j - (s + z)) = j by omega] at this; exact this
/-! ### free, allowed -/
def freeB (r : List Bool) (s z : Nat) : Bool := !decide (false ∈ (r.drop s).take z)
def allowB (r : List Bool) (s z : Nat) : Bool := freeB r s z && (decide (lf (tr r) s ≠ 1) && decide (rt r (s + z) ≠ 1))
theorem free_iff {r : List Bool} {s z : Nat} (h : s + z ≤ r.length) : freeB r s z = true ↔ ∀ j, s ≤ j → j < s + z → tr r j = true := by
  unfold freeB
  rw [Bool.not_eq_true', decide_eq_false_iff_not]
  constructor
  · intro q j h1 h2
    cases e : tr r j with
    | true => rfl
    | false =>
      refine absurd ?_ q
      rw [List.mem_iff_getElem?]
      refine ⟨j - s, ?_⟩
      rw [List.getElem?_take_of_lt (by omega), List.getElem?_drop, show s + (j - s) = j by omega, tr_get (by omega), e]
  · intro q m
    rw [List.mem_iff_getElem?] at m
    obtain ⟨i, e⟩ := m
    have hi : i < z := by
      have := (List.getElem?_eq_some_iff.mp e).1
      rw [List.length_take] at this; omega
    rw [List.getElem?_take_of_lt hi, List.getElem?_drop, tr_get (by omega), q (s + i) (by omega) (by omega)] at e
    cases e
theorem free_eq {r : List Bool} {s z : Nat} (h : s + z ≤ r.length) : decide ((r.drop s).take z = List.replicate z true) = freeB r s z := by
  have hl : ((r.drop s).take z).length = z := by rw [List.length_take, List.length_drop]; omega
  unfold freeB
  rw [← decide_not, decide_eq_decide, List.eq_replicate_iff]
  constructor
  · rintro ⟨_, h2⟩ m; cases h2 _ m
  · intro m
    refine ⟨hl, fun b hb => ?_⟩
    cases b with
    | true => rfl
    | false => exact absurd hb m
/-- a free booking's gap, as leaves_single finds it -/
theorem single_eq {r : List Bool} {s z : Nat} (hz : 0 < z) (h : s + z ≤ r.length) (hf : freeB r s z = true) : ∃ a n, Gap (tr r) a n ∧ a ≤ s ∧ s + z ≤ a + n ∧ (∀ a' n', Gap (tr r) a' n' → a' ≤ s → s < a' + n' → a' = a ∧ n' = n) ∧ lf (tr r) s = s - a ∧ rt r (s + z) = a + n - s - z := by
  have ha := (free_iff h).mp hf
  have hs := ha s (Nat.le_refl _) (by omega)
  have hl := lf_le (tr r) s
  have hr := rt_split ha
  refine ⟨_, _, gap_of hs, by omega, by omega, fun a' n' g h1 h2 => ?_, by omega, by omega⟩
  obtain ⟨e1, e2⟩ := gap_at g h1 h2
  omega
theorem is_free_ok (r : List Bool) (s z : Nat) (O : List Rec) (h : r.length ≤ 1000) : F_is_free [.str (rS r), pD (s, z)] O = .val (.im (.bl (freeB r s z))) O := by
  unfold F_is_free B_is_free freeB
  simp (disch := first | assumption | (simp; done) | omega | (simp; omega)) [pD]
theorem taken_ok (r : List Bool) (s z : Nat) (O : List Rec) (h : r.length ≤ 1000) (hz : z ≤ 1000) : F_taken [.str (rS r), pD (s, z)] O = .val (.im (.str (rS (r.take s ++ List.replicate z false ++ r.drop (s + z))))) O := by
  simp (disch := first | assumption | (simp; done) | (simp; omega)) [F_taken, B_taken, pD]
/-- the loop of leaves_single -/
theorem single_loop (r : List Bool) (s z : Nat) (O : List Rec) (a n : Nat) (hu : ∀ a' n', (a', n') ∈ gapsL r → a' ≤ s → s < a' + n' → a' = a ∧ n' = n) (hm : (a, n) ∈ gapsL r) (h1 : a ≤ s) (h2 : s + z ≤ a + n) (h3 : 0 < z) (h4 : r.length ≤ 900) :
    F_leaves_single [.str (rS r), pD (s, z)] O = .val (.im (.bl (decide (s - a = 1 ∨ a + n - s - z = 1)))) O := by
  unfold F_leaves_single B_leaves_single
  simp (disch := first | assumption | (simp; done) | omega | (simp; omega)) [pD, gaps_ok r _ h4, seqD]
  obtain ⟨w', e, _⟩ | e := forL_exit0 (g := gT [4, 5]) (b := B_leaves_single_1) pD (fun i w => (∀ j, j < i → (gapsL r)[j]? ≠ some (a, n)) ∧ ∃ r4 r5, w = ⟨[.im (.str (rS r)), .im (pD (s, z)), .im (nD s), .im (nD z), r4, r5], O⟩)
    (fun o => ∃ w', o = .val (.ret (.im (.bl (decide (s - a = 1 ∨ a + n - s - z = 1))))) w' ∧ w'.O = O) (gapsL r) ⟨[.im (.str (rS r)), .im (pD (s, z)), .im (nD s), .im (nD z), .un, .un], O⟩ ⟨fun j h => by omega, _, _, rfl⟩ (by
    rintro i ⟨a', n'⟩ w hx ⟨hj, r4, r5, rfl⟩
    by_cases q : a' ≤ s ∧ s < a' + n'
    · obtain ⟨rfl, rfl⟩ := hu a' n' (List.mem_of_getElem? hx) q.1 q.2
      refine .inr (.inl ⟨_, ⟨[.im (.str (rS r)), .im (pD (s, z)), .im (nD s), .im (nD z), .im (nD a'), .im (nD n')], O⟩, ?_, _, rfl, rfl⟩)
      unfold turn B_leaves_single_1
      have e1 : ((s : Int) - (a' : Int)) = ((s - a' : Nat) : Int) := by omega
      have e2 : ((a' : Int) + (n' : Int) - (s : Int) - (z : Int)) = ((a' + n' - s - z : Nat) : Int) := by omega
      have q2 : ((s : Int) < (a' : Int) + (n' : Int)) := by omega
      simp (disch := first | assumption | (simp; done) | omega | (simp; omega)) [pD, q.1, q2, e1, e2]
    · refine .inl ⟨⟨[.im (.str (rS r)), .im (pD (s, z)), .im (nD s), .im (nD z), .im (nD a'), .im (nD n')], O⟩, ?_, fun j hj' => ?_, _, _, rfl⟩
      · unfold turn B_leaves_single_1
        by_cases q1 : a' ≤ s
        · have q2 : ¬ ((s : Int) < (a' : Int) + (n' : Int)) := by omega
          simp (disch := first | assumption | (simp; done) | omega | (simp; omega)) [pD, q1, q2]
        · simp (disch := first | assumption | (simp; done) | omega | (simp; omega)) [pD, q1]
      · by_cases e : j = i
        · subst e
          rw [hx]
          intro z; cases z
          exact q ⟨h1, by omega⟩
        · exact hj j (by omega))
  · rename_i hw
    obtain ⟨i, hi⟩ := List.mem_iff_getElem?.mp hm
    exact absurd hi (hw.1 i (List.getElem?_eq_some_iff.mp hi).1)
  · obtain ⟨w', e, ho⟩ := e
    simp only [pD] at e
    rw [e]
    simp [ho]
/-- a booking that lies in its row -/
theorem allowed_ok (r : List Bool) (s z : Nat) (O : List Rec) (hz : 0 < z) (h : s + z ≤ r.length) (h4 : r.length ≤ 900) :
    F_is_allowed [.str (rS r), pD (s, z)] O = .val (.im (.bl (allowB r s z))) O := by
  unfold F_is_allowed B_is_allowed
  have h5 : r.length ≤ 1000 := by omega
  unfold allowB
  cases hf : freeB r s z with
  | false => simp [is_free_ok r s z _ h5, hf]
  | true =>
    obtain ⟨a, n, g, h1, h2, hu, e1, e2⟩ := single_eq hz h hf
    have := single_loop r s z O a n (fun a' n' m => hu a' n' (mem_gaps.mp m)) (mem_gaps.mpr g) h1 h2 hz h4
    simp [is_free_ok r s z _ h5, hf, this, e1, e2]
theorem allowed_bookings_ok (r : List Bool) (z : Nat) (O : List Rec) (hz : 0 < z) (h2 : z ≤ 900) (h4 : r.length ≤ 900) :
    F_allowed_bookings [.str (rS r), nD z] O = .val (.ow (((List.range (r.length + 1 - z)).filter fun s => allowB r s z).map fun s => pD (s, z))) O := by
  unfold F_allowed_bookings B_allowed_bookings
  have hr : rg1D [.int ((r.length : Int) - (z : Int) + 1)] = some ((List.range (r.length + 1 - z)).map nD) := rg1_i _ _ (by omega) (by omega) (by omega)
  simp (disch := first | assumption | (simp; done) | omega | (simp; omega)) [hr]
  rw [lcL_if nD (fun s => allowB r s z) (fun s => pD (s, z))]
  · simp; omega
  · intro s hs
    rw [List.mem_range] at hs
    have := allowed_ok r s z O hz (by omega) h4
    simp only [pD] at this
    refine ⟨_, rfl, rfl, ?_, fun _ => ?_⟩
    · simp (disch := first | assumption | (simp; done) | omega | (simp; omega)) [this]
    · simp (disch := first | assumption | (simp; done) | omega | (simp; omega)) [pD]
theorem law_allowed_ok (r : List Bool) (s z : Nat) (O : List Rec) (hz : 0 < z) (h : s + z ≤ r.length) (h4 : r.length ≤ 900) :
    F_law_allowed [.str (rS r), pD (s, z)] O = .val (.im (.bl (allowB r s z))) O := by
  unfold F_law_allowed B_law_allowed
  have h5 : r.length ≤ 1000 := by omega
  unfold allowB
  have hf := free_eq h
  have h1 := lf_le (tr r) s
  have h2 := rt_len r (s + z)
  have w1 : sWhile C_law_allowed_1 B_law_allowed_1 ⟨[.im (.str (rS r)), .im (pD (s, z)), .im (nD s), .im (nD z), .im (.int ((s : Int) + (z : Int))), .im (.int 0), .im (.int 0)], O⟩ = .val .nxt ⟨[.im (.str (rS r)), .im (pD (s, z)), .im (nD s), .im (nD z), .im (.int ((s : Int) + (z : Int))), .im (nD (lf (tr r) s)), .im (.int 0)], O⟩ := by
    refine sWhile_st (fun j => ⟨[.im (.str (rS r)), .im (pD (s, z)), .im (nD s), .im (nD z), .im (.int ((s : Int) + (z : Int))), .im (nD j), .im (.int 0)], O⟩) (lf (tr r) s) (fun j hj => ⟨?_, ?_⟩) ?_
    · have e := lf_lt (tr r) s j hj
      have e1 : ((s : Int) - (j : Int) - 1) = ((s - 1 - j : Nat) : Int) := by omega
      have e2 : j < s := by omega
      unfold C_law_allowed_1
      simp (disch := first | assumption | (simp; done) | omega | (simp; omega)) [pD, e1, e2, tr_g, e]
    · unfold B_law_allowed_1
      simp
    · unfold C_law_allowed_1
      by_cases q : lf (tr r) s < s
      · have e := lf_at (tr r) s q
        have e1 : ((s : Int) - (lf (tr r) s : Int) - 1) = ((s - 1 - lf (tr r) s : Nat) : Int) := by omega
        simp (disch := first | assumption | (simp; done) | omega | (simp; omega)) [pD, e1, q, tr_g, e]
      · simp (disch := first | assumption | (simp; done) | omega | (simp; omega)) [pD, q]
  have w2 : sWhile C_law_allowed_2 B_law_allowed_2 ⟨[.im (.str (rS r)), .im (pD (s, z)), .im (nD s), .im (nD z), .im (.int ((s : Int) + (z : Int))), .im (nD (lf (tr r) s)), .im (.int 0)], O⟩ = .val .nxt ⟨[.im (.str (rS r)), .im (pD (s, z)), .im (nD s), .im (nD z), .im (.int ((s : Int) + (z : Int))), .im (nD (lf (tr r) s)), .im (nD (rt r (s + z)))], O⟩ := by
    refine sWhile_st (fun j => ⟨[.im (.str (rS r)), .im (pD (s, z)), .im (nD s), .im (nD z), .im (.int ((s : Int) + (z : Int))), .im (nD (lf (tr r) s)), .im (nD j)], O⟩) (rt r (s + z)) (fun j hj => ⟨?_, ?_⟩) ?_
    · have e := rt_lt hj
      have e2 := tr_lt e
      have e1 : ((s : Int) + (z : Int) + (j : Int)) < (r.length : Int) := by omega
      unfold C_law_allowed_2
      simp (disch := first | assumption | (simp; done) | omega | (simp; omega)) [pD, e1, e2, tr_g, e]
    · unfold B_law_allowed_2
      simp
    · unfold C_law_allowed_2
      have e := rt_at (r := r) (e := s + z) rfl
      by_cases q : s + z + rt r (s + z) < r.length
      · have e1 : ((s : Int) + (z : Int) + (rt r (s + z) : Int)) < (r.length : Int) := by omega
        simp (disch := first | assumption | (simp; done) | omega | (simp; omega)) [pD, e1, q, tr_g, e]
      · have e1 : ¬ ((s : Int) + (z : Int) + (rt r (s + z) : Int)) < (r.length : Int) := by omega
        simp (disch := first | assumption | (simp; done) | omega | (simp; omega)) [pD, e1, q]
  simp only [pD] at w1 w2
  simp (disch := first | assumption | (simp; done) | omega | (simp; omega)) [pD]
  cases q : freeB r s z with
  | false =>
    rw [q] at hf
    rw [if_neg (of_decide_eq_false hf)]
    simp
  | true =>
    rw [q] at hf
    rw [if_pos (of_decide_eq_true hf)]
    simp (disch := first | assumption | (simp; done) | omega | (simp; omega)) [w1]
    simp (disch := first | assumption | (simp; done) | omega | (simp; omega)) [w2]
    by_cases e : lf (tr r) s = 1 <;> simp [e]
end DL
end
section
set_option Elab.async false
set_option linter.all false
set_option maxRecDepth 100000
set_option maxHeartbeats 1000000
/-! DMf: what the laws draw from their scripts. -/
namespace DL
open PySem L2
local macro_rules | `(tactic| walk_at "ev") => `(tactic| simp (disch := first | assumption | (simp; done) | omega | (simp; omega)))

theorem fmod_nn (a b : Nat) : (a : Int).fmod (b : Int) = ((a % b : Nat) : Int) := by
  cases b with
  | zero => cases a <;> rfl
  | succ b => cases a <;> rfl
theorem fmod_lit (a b : Nat) : (a : Int).fmod (no_index (OfNat.ofNat b)) = ((a % b : Nat) : Int) := fmod_nn a b
theorem fdiv_nn (a b : Nat) : (a : Int).fdiv (b : Int) = ((a / b : Nat) : Int) := by
  rw [Int.fdiv_eq_ediv_of_nonneg _ (by omega)]; rfl
theorem fdiv_lit (a b : Nat) : (a : Int).fdiv (no_index (OfNat.ofNat b)) = ((a / b : Nat) : Int) := fdiv_nn a b
@[simp] theorem fmod_e (a : Int) {b : Int} (hb : 0 ≤ b) : a.fmod b = a % b := Int.fmod_eq_emod_of_nonneg a hb
@[simp] theorem fdiv_e (a : Int) {b : Int} (hb : 0 ≤ b) : a.fdiv b = a / b := Int.fdiv_eq_ediv_of_nonneg a hb
@[simp] theorem atI_m {α : Type} (l : List α) (a b : Nat) : atI l ((a : Int) % (b : Int)) = l[a % b]? := by rw [← atI_n]; rfl
@[simp] theorem atI_ml {α : Type} (l : List α) (a b : Nat) : atI l ((a : Int) % (no_index (OfNat.ofNat b))) = l[a % b]? := by rw [← atI_n]; rfl
@[simp] theorem atI_dm {α : Type} (l : List α) (a b c : Nat) : atI l ((a : Int) / (no_index (OfNat.ofNat b)) % (no_index (OfNat.ofNat c))) = l[a / b % c]? := by rw [← atI_n]; rfl
@[simp] theorem atI_l {α : Type} (l : List α) (b : Nat) : atI l (no_index (OfNat.ofNat b)) = l[b]? := by rw [← atI_n]; rfl
theorem fmod_b (x : Int) (b : Nat) (h : 0 < b) : ∃ d : Nat, d < b ∧ x.fmod (b : Int) = (d : Int) := by
  have h1 := Int.fmod_nonneg_of_pos x (show (0 : Int) < b by omega)
  have h2 := Int.fmod_lt_of_pos x (show (0 : Int) < b by omega)
  exact ⟨(x.fmod b).toNat, by omega, by omega⟩
@[simp] theorem mul_il (i j : Int) (h1 : -1000000000000000000 < i) (h2 : i < 1000000000000000000) : mulD (.int i) (.int j) = some (.im (.int (i * j))) := by
  refine mul_int i j ?_
  unfold okMul
  simp only [Bool.or_eq_true, Bool.and_eq_true, decide_eq_true_eq]
  omega
@[simp] theorem mul_ir (i j : Int) (h1 : -1000000000000000000 < j) (h2 : j < 1000000000000000000) : mulD (.int i) (.int j) = some (.im (.int (i * j))) := by
  refine mul_int i j ?_
  unfold okMul
  simp only [Bool.or_eq_true, Bool.and_eq_true, decide_eq_true_eq]
  omega
theorem cell_ok (ns : List Int) (i : Nat) (O : List Rec) (hi : i ≤ 1000) : ∃ c : Int, F_law_cell [.scr ns, nD i] O = .val (.im (.int c)) O := by
  unfold F_law_cell B_law_cell
  by_cases h : i < ns.length
  · exact ⟨ns[i], by simp (disch := first | assumption | (simp; done) | omega | (simp; omega)) [h]⟩
  · by_cases h2 : ns = []
    · subst h2
      exact ⟨_, by simp (disch := first | assumption | (simp; done) | omega | (simp; omega)); rfl⟩
    · have hl : 0 < ns.length := List.length_pos_iff.mpr h2
      have hm : i % ns.length < ns.length := Nat.mod_lt _ hl
      have h3 : ((ns.length : Int) = 0) = False := by simp; exact h2
      refine ⟨ns[i % ns.length].fmod 1000003 + 7919 * (i : Int), ?_⟩
      simp (disch := first | assumption | (simp; done) | omega | (simp; omega)) [h, h2]
def PL : List Int := [2147483647, 2147483629, 2147483587, 2147483579, 2147483563, 2147483549, 2147483543, 2147483497]
def PT : List D := PL.map D.int
theorem PT_at (j : Nat) : ∃ p : Nat, PT[j % 8]? = some (.int (p : Int)) ∧ 0 < p ∧ p < 2147483648 := by
  have h : j % 8 < PL.length := Nat.mod_lt _ (by decide)
  have h2 : ∀ p ∈ PL, 0 < p ∧ p < 2147483648 := by decide
  have h3 := h2 _ (List.getElem_mem h)
  refine ⟨PL[j % 8].toNat, ?_, by omega, by omega⟩
  unfold PT
  rw [List.getElem?_map, List.getElem?_eq_getElem h]
  show some (D.int _) = some (D.int _)
  congr 2
  omega
@[simp] theorem PT_len : PT.length = 8 := rfl
/-- values read without a change of state: proofs that the kernel need not evaluate -/
def Ev (f : M D) (w : W) (d : D) : Prop := f w = .val d w
def Er (f : M Rv) (w : W) (r : Rv) : Prop := f w = .val r w
theorem Er.fz {f : M Rv} {w : W} {d : D} (h : Er f w (.im d)) : Ev (DL.fz f) w d := by
  unfold Ev; unfold Er at h
  rw [fz_ap, bnd_ap, h]; rfl
theorem ev_p {i : Nat} {w : W} {d : D} (h : w.ρ[i]? = some (.im d)) : Ev (pVar i) w d := by
  unfold Ev; rw [pVar_ap, h]
theorem er_c {w : W} {d : D} : Er (eC d) w (.im d) := rfl
theorem er_v {i : Nat} {w : W} {d : D} (h : w.ρ[i]? = some (.im d)) : Er (eVar i) w (.im d) := by
  unfold Er; rw [eVar_ap, h]
theorem er_bin {op : Operator} {a b : M D} {w : W} {x y : D} {r : Rv} (ha : Ev a w x) (hb : Ev b w y) (h : bopD op x y = some r) : Er (eBin op a b) w r := by
  unfold Ev at ha hb; unfold Er
  rw [eBin_ap, bnd_ap, ha]
  show M.bnd b _ w = _
  rw [bnd_ap, hb]
  show M.opt (bopD op x y) w = _
  rw [h]; rfl
theorem ev_bin {op : Operator} {a b : M D} {w : W} {x y d : D} (ha : Ev a w x) (hb : Ev b w y) (h : bopD op x y = some (.im d)) : Ev (fz (eBin op a b)) w d := (er_bin ha hb h).fz
theorem ev_ix {a b : M D} {w : W} {x y d : D} (ha : Ev a w x) (hb : Ev b w y) (h : ixD x y = some d) : Ev (fz (eIx a b)) w d := by
  refine Er.fz ?_
  unfold Ev at ha hb; unfold Er
  rw [eIx_ap, bnd_ap, ha]
  show M.bnd b _ w = _
  rw [bnd_ap, hb]
  show M.opt ((ixD x y).map Rv.im) w = _
  rw [h]; rfl
theorem st_asg {i : Nat} {e : M Rv} {w : W} {r : Rv} (h : Er e w r) : sAsg (gN i) e w = .val .nxt ⟨w.ρ.set i r, w.O⟩ := by
  unfold Er at h
  rw [sAsg_ap, bnd_ap, h]; rfl
theorem st_seq {a b : MS} {w w1 : W} {o : Out W Fl} (h : a w = .val .nxt w1) (h2 : b w1 = o) : sSeq a b w = o := by
  rw [sSeq_ap, h]; exact h2
theorem st_app {i : Nat} {e : M D} {w : W} {xs : List D} {d : D} (h : Ev e w d) (hi : w.ρ[i]? = some (.ow xs)) (hl : xs.length < 16777216) : sApp i e w = .val .nxt ⟨w.ρ.set i (.ow (xs ++ [d])), w.O⟩ := by
  unfold Ev at h
  rw [sApp_ap, hi]
  show M.bnd e _ w = _
  rw [bnd_ap, h]
  simp only [hi, okApp_of hl, if_true]
theorem st_if {c : M Bool} {a b : MS} {w : W} {k : Bool} {o : Out W Fl} (h : c w = .val k w) (ha : k = true → a w = o) (hb : k = false → b w = o) : sIf c a b w = o := by
  rw [sIf_ap, bnd_ap, h]
  cases k with
  | true => exact ha rfl
  | false => exact hb rfl
theorem ev_cmp {op : CmpOp} {a b : M D} {w : W} {x y : D} {k : Bool} (ha : Ev a w x) (hb : Ev b w y) (h : cmpD op x y = some k) : tV (fz (eCmp op a b)) w = .val k w := by
  have : Ev (fz (eCmp op a b)) w (.bl k) := by
    refine Er.fz ?_
    unfold Ev at ha hb; unfold Er
    rw [eCmp_ap, bnd_ap, ha]
    show M.bnd b _ w = _
    rw [bnd_ap, hb]
    show M.opt ((cmpD op x y).map fun k => Rv.im (.bl k)) w = _
    rw [h]; rfl
  unfold Ev at this
  rw [tV_ap, bnd_ap, this]; rfl
theorem b_mod (i j : Int) (h : j ≠ 0) : bopD .Mod (.int i) (.int j) = some (.im (.int (i.fmod j))) := mod_int i j h
theorem b_fdv (i j : Int) (h : j ≠ 0) (h2 : j.natAbs < 1073741824) : bopD .FloorDiv (.int i) (.int j) = some (.im (.int (i.fdiv j))) := fdv_int i j h h2
theorem b_ml (i j : Int) (h1 : -1000000000000000000 < i) (h2 : i < 1000000000000000000) : bopD .Mult (.int i) (.int j) = some (.im (.int (i * j))) := mul_il i j h1 h2
theorem b_mr (i j : Int) (h1 : -1000000000000000000 < j) (h2 : j < 1000000000000000000) : bopD .Mult (.int i) (.int j) = some (.im (.int (i * j))) := mul_ir i j h1 h2
theorem b_add (i j : Int) : bopD .Add (.int i) (.int j) = some (.im (.int (i + j))) := add_int i j
theorem er_tup {a : M (List D)} {w : W} {ds : List D} (h : a w = .val ds w) (hl : ds.length ≤ 1000) : Er (eTup a) w (.im (.tup ds)) := by
  unfold Er
  rw [eTup_ap, bnd_ap, h]
  show (if okLen ds.length then M.ret (Rv.im (.tup ds)) else M.opt none) w = _
  rw [okLen_of (by omega), if_pos rfl]; rfl
theorem er_call {F : Fn} {a : M (List D)} {w : W} {ds : List D} {r : Rv} (h : a w = .val ds w) (hF : F ds w.O = .val r w.O) : Er (eCall0 F a) w r := by
  unfold Er
  rw [eCall0_ap, bnd_ap, h]
  show liftF0 F ds w = _
  rw [liftF0_ap, hF]
theorem er_if {c : M Bool} {a b : M Rv} {w : W} {k : Bool} {r : Rv} (h : c w = .val k w) (ha : k = true → Er a w r) (hb : k = false → Er b w r) : Er (eIf c a b) w r := by
  unfold Er
  rw [eIf_ap, bnd_ap, h]
  cases k with
  | true => exact ha rfl
  | false => exact hb rfl
theorem ea_nil {w : W} : aNil w = .val [] w := rfl
theorem ea_cons {a : M D} {r : M (List D)} {w : W} {d : D} {ds : List D} (h : Ev a w d) (h2 : r w = .val ds w) : aCons a r w = .val (d :: ds) w := by
  unfold Ev at h
  rw [aCons_ap, bnd_ap, h]
  show M.bnd r _ w = _
  rw [bnd_ap, h2]; rfl
theorem er_lst {a : M (List D)} {w : W} {ds : List D} (h : a w = .val ds w) (hl : ds.length ≤ 1000) : Er (eLst a) w (.ow ds) := by
  unfold Er
  rw [eLst_ap, bnd_ap, h]
  show (if okLen ds.length then M.ret (Rv.ow ds) else M.opt none) w = _
  rw [okLen_of (by omega), if_pos rfl]; rfl
theorem st_for {it : M (List D)} {g : Rv → M Unit} {b : MS} {w : W} {xs : List D} {o : Out W Fl} (h : it w = .val xs w) (h2 : forL g b xs w = o) : sFor it g b w = o := by
  rw [sFor_ap, bnd_ap, h]; exact h2
theorem it_rg1 {a : M (List D)} {w : W} {ds xs : List D} (h : a w = .val ds w) (h2 : rg1D ds = some xs) : iRg1 a w = .val xs w := by
  rw [iRg1_ap, bnd_ap, h]
  show M.opt (rg1D ds) w = _
  rw [h2]; rfl
theorem st_retV {i : Nat} {w : W} {xs : List D} (h : w.ρ[i]? = some (.ow xs)) : sRetV i w = .val (.ret (.ow xs)) ⟨w.ρ.set i .un, w.O⟩ := by
  rw [sRetV_ap, h]
theorem digits_turn (ns : List Int) (i n b k : Nat) (c rest : Int) (ds : List Nat) (r8 r9 : Rv) (O : List Rec) (hi : i ≤ 1000) (hk : k ≤ 1000) (hb : 0 < b) (hb2 : b < 1000000000) (hl : ds.length ≤ 1000) :
    ∃ (d : Nat) (rest' m : Int), d < b ∧ turn (gN 8) B_law_digits_1 (nD k) ⟨[.im (.scr ns), .im (nD i), .im (nD n), .im (nD b), .im (.tup PT), .im (.int c), .im (.int rest), .ow (ds.map nD), r8, r9], O⟩ =
      .val .nxt ⟨[.im (.scr ns), .im (nD i), .im (nD n), .im (nD b), .im (.tup PT), .im (.int c), .im (.int rest'), .ow ((ds ++ [d]).map nD), .im (nD k), .im (.int m)], O⟩ := by
  obtain ⟨p1, e1, h1, h1'⟩ := PT_at k
  obtain ⟨p2, e2, h2, h2'⟩ := PT_at (3 * k + i)
  obtain ⟨p3, e3, h3, h3'⟩ := PT_at (k + 5)
  obtain ⟨m1, f1, g1⟩ := fmod_b c p1 h1
  have b1 : k * k ≤ 1000 * 1000 := Nat.mul_le_mul hk hk
  have b1' : (k : Int) * (k : Int) ≤ 1000000 := by
    have := Int.ofNat_le.mpr b1
    rw [Int.natCast_mul] at this
    omega
  have b3 : (0 : Int) ≤ (k : Int) * (k : Int) := by
    have : ((0 : Nat) : Int) ≤ ((k * k : Nat) : Int) := Int.ofNat_le.mpr (Nat.zero_le _)
    rw [Int.natCast_mul] at this
    exact this
  have i1 : ixD (.tup PT) (.int ((k : Int).fmod 8)) = some (.int (p1 : Int)) := by rw [ix_tup, fmod_lit, atI_n]; exact e1
  have i2 : ixD (.tup PT) (.int ((3 * (k : Int) + (i : Int)).fmod 8)) = some (.int (p2 : Int)) := by
    rw [ix_tup, show (3 * (k : Int) + (i : Int)) = ((3 * k + i : Nat) : Int) by omega, fmod_lit, atI_n]; exact e2
  have i3 : ixD (.tup PT) (.int (((k : Int) + 5).fmod 8)) = some (.int (p3 : Int)) := by
    rw [ix_tup, show ((k : Int) + 5) = ((k + 5 : Nat) : Int) by omega, fmod_lit, atI_n]; exact e3
  have q5 : (2 * (k : Int) * (k : Int)) = 2 * ((k : Int) * (k : Int)) := Int.mul_assoc _ _ _
  have hA : -1000000000000000000 < (48271 + 2 * (k : Int) * (k : Int)) ∧ (48271 + 2 * (k : Int) * (k : Int)) < 1000000000000000000 := by
    rw [q5]; constructor <;> omega
  have hB : -1000000000000000000 < ((k : Int) + 1) ∧ ((k : Int) + 1) < 1000000000000000000 := by constructor <;> omega
  have hk1 : -1000000000000000000 < (k : Int) ∧ (k : Int) < 1000000000000000000 := by constructor <;> omega
  have hi1 : -1000000000000000000 < (i : Int) ∧ (i : Int) < 1000000000000000000 := by constructor <;> omega
  have q0 : ∃ Y : Int, Y = (k : Int) + 1 := ⟨_, rfl⟩
  obtain ⟨Y, hY⟩ := q0
  obtain ⟨A, hA'⟩ : ∃ A : Int, A = 48271 + 2 * (k : Int) * (k : Int) := ⟨_, rfl⟩
  rw [← hA'] at hA
  rw [← hY] at hB
  obtain ⟨m2, f2, g2⟩ := fmod_b ((m1 : Int) * A + 7919 * Y * Y + 104729 * (i : Int)) p2 h2
  obtain ⟨m3, f3, g3⟩ := fmod_b ((m2 : Int) * (m2 : Int) * (m2 : Int)) p3 h3
  have np : ∀ p : Nat, 0 < p → (p : Int) ≠ 0 := fun p h => by omega
  have o1 : ∀ v : Rv, sAsg (gN 9) (eBin .Mult (fz (eBin .Mod (pVar 5) (fz (eIx (pVar 4) (fz (eBin .Mod (pVar 8) (fz (eC (.int 8))))))))) (fz (eBin .Add (fz (eC (.int 48271))) (fz (eBin .Mult (fz (eBin .Mult (fz (eC (.int 2))) (pVar 8))) (pVar 8)))))) ⟨[.im (.scr ns), .im (nD i), .im (nD n), .im (nD b), .im (.tup PT), .im (.int c), .im (.int rest), .ow (ds.map nD), .im (nD k), v], O⟩ = .val .nxt ⟨[.im (.scr ns), .im (nD i), .im (nD n), .im (nD b), .im (.tup PT), .im (.int c), .im (.int rest), .ow (ds.map nD), .im (nD k), .im (.int ((m1 : Int) * A))], O⟩ := fun v =>
    st_asg (er_bin (ev_bin (ev_p rfl) (ev_ix (ev_p rfl) (ev_bin (ev_p rfl) er_c.fz (b_mod _ _ (by decide))) i1) (by rw [bop_mod, mod_int _ _ (np _ h1), g1])) (ev_bin er_c.fz (ev_bin (ev_bin er_c.fz (ev_p rfl) (b_ml _ _ (by decide) (by decide))) (ev_p rfl) (b_mr _ _ hk1.1 hk1.2)) (by rw [bop_add, add_int, ← hA'])) (b_mr _ _ hA.1 hA.2))
  have o2 : ∀ v : Int, sAsg (gN 9) (eBin .Add (fz (eBin .Add (pVar 9) (fz (eBin .Mult (fz (eBin .Mult (fz (eC (.int 7919))) (fz (eBin .Add (pVar 8) (fz (eC (.int 1))))))) (fz (eBin .Add (pVar 8) (fz (eC (.int 1))))))))) (fz (eBin .Mult (fz (eC (.int 104729))) (pVar 1)))) ⟨[.im (.scr ns), .im (nD i), .im (nD n), .im (nD b), .im (.tup PT), .im (.int c), .im (.int rest), .ow (ds.map nD), .im (nD k), .im (.int v)], O⟩ = .val .nxt ⟨[.im (.scr ns), .im (nD i), .im (nD n), .im (nD b), .im (.tup PT), .im (.int c), .im (.int rest), .ow (ds.map nD), .im (nD k), .im (.int (v + 7919 * Y * Y + 104729 * (i : Int)))], O⟩ := fun v => by
    have hy : bopD .Add (nD k) (.int 1) = some (.im (.int Y)) := by rw [bop_add, add_int, ← hY]
    exact st_asg (er_bin (ev_bin (ev_p rfl) (ev_bin (ev_bin er_c.fz (ev_bin (ev_p rfl) er_c.fz hy) (b_mr _ _ hB.1 hB.2)) (ev_bin (ev_p rfl) er_c.fz hy) (b_mr _ _ hB.1 hB.2)) (b_add _ _)) (ev_bin er_c.fz (ev_p rfl) (b_mr _ _ hi1.1 hi1.2)) (b_add _ _))
  have o3 : ∀ v : Int, v = (m1 : Int) * A + 7919 * Y * Y + 104729 * (i : Int) → sAsg (gN 9) (eBin .Mod (pVar 9) (fz (eIx (pVar 4) (fz (eBin .Mod (fz (eBin .Add (fz (eBin .Mult (fz (eC (.int 3))) (pVar 8))) (pVar 1))) (fz (eC (.int 8)))))))) ⟨[.im (.scr ns), .im (nD i), .im (nD n), .im (nD b), .im (.tup PT), .im (.int c), .im (.int rest), .ow (ds.map nD), .im (nD k), .im (.int v)], O⟩ = .val .nxt ⟨[.im (.scr ns), .im (nD i), .im (nD n), .im (nD b), .im (.tup PT), .im (.int c), .im (.int rest), .ow (ds.map nD), .im (nD k), .im (nD m2)], O⟩ := fun v hv =>
    st_asg (er_bin (ev_p rfl) (ev_ix (ev_p rfl) (ev_bin (ev_bin (ev_bin er_c.fz (ev_p rfl) (b_ml _ _ (by decide) (by decide))) (ev_p rfl) (b_add _ _)) er_c.fz (b_mod _ _ (by decide))) i2) (by rw [bop_mod, mod_int _ _ (np _ h2), hv, g2]))
  have o4 : sAsg (gN 9) (eBin .Mod (fz (eBin .Mult (fz (eBin .Mult (pVar 9) (pVar 9))) (pVar 9))) (fz (eIx (pVar 4) (fz (eBin .Mod (fz (eBin .Add (pVar 8) (fz (eC (.int 5))))) (fz (eC (.int 8)))))))) ⟨[.im (.scr ns), .im (nD i), .im (nD n), .im (nD b), .im (.tup PT), .im (.int c), .im (.int rest), .ow (ds.map nD), .im (nD k), .im (nD m2)], O⟩ = .val .nxt ⟨[.im (.scr ns), .im (nD i), .im (nD n), .im (nD b), .im (.tup PT), .im (.int c), .im (.int rest), .ow (ds.map nD), .im (nD k), .im (nD m3)], O⟩ :=
    st_asg (er_bin (ev_bin (ev_bin (ev_p rfl) (ev_p rfl) (b_mr _ _ (by omega) (by omega))) (ev_p rfl) (b_mr _ _ (by omega) (by omega))) (ev_ix (ev_p rfl) (ev_bin (ev_bin (ev_p rfl) er_c.fz (b_add _ _)) er_c.fz (b_mod _ _ (by decide))) i3) (by rw [bop_mod, mod_int _ _ (np _ h3), g3]))
  obtain ⟨m, hm⟩ : ∃ m : Int, m = if 0 < rest then rest else (m3 : Int) := ⟨_, rfl⟩
  obtain ⟨d, hd, he⟩ := fmod_b m b hb
  have o5 : sIf (tV (fz (eCmp .Gt (pVar 6) (fz (eC (.int 0)))))) (sAsg (gN 9) (eVar 6)) sNx ⟨[.im (.scr ns), .im (nD i), .im (nD n), .im (nD b), .im (.tup PT), .im (.int c), .im (.int rest), .ow (ds.map nD), .im (nD k), .im (nD m3)], O⟩ = .val .nxt ⟨[.im (.scr ns), .im (nD i), .im (nD n), .im (nD b), .im (.tup PT), .im (.int c), .im (.int rest), .ow (ds.map nD), .im (nD k), .im (.int m)], O⟩ := by
    refine st_if (ev_cmp (ev_p rfl) er_c.fz (cmp_gt _ _)) (fun h => ?_) fun h => ?_
    · rw [st_asg (er_v rfl), hm, if_pos (of_decide_eq_true h)]; rfl
    · rw [hm, if_neg (of_decide_eq_false h)]; rfl
  refine ⟨d, rest.fdiv b, m, hd, ?_⟩
  have hl2 : (ds.map nD).length < 16777216 := by rw [List.length_map]; omega
  have e9 : (ds ++ [d]).map nD = ds.map nD ++ [.int (d : Int)] := by rw [List.map_append]; rfl
  rw [e9]
  show B_law_digits_1 _ = _
  unfold B_law_digits_1
  refine st_seq (o1 _) (st_seq (o2 _) (st_seq (o3 _ rfl) (st_seq o4 (st_seq o5 (st_seq (st_app (ev_bin (ev_p rfl) (ev_p rfl) (by rw [bop_mod, mod_int _ _ (np _ hb), he])) rfl hl2) ?_)))))
  exact st_asg (er_bin (ev_p rfl) (ev_p rfl) (b_fdv _ _ (np _ hb) (by omega)))
theorem digits_ok (ns : List Int) (i n b : Nat) (O : List Rec) (hi : i ≤ 1000) (hn : n ≤ 1000) (hb : 0 < b) (hb2 : b < 1000000000) :
    ∃ ds : List Nat, ds.length = n ∧ (∀ d ∈ ds, d < b) ∧ F_law_digits [.scr ns, nD i, nD n, nD b] O = .val (.ow (ds.map nD)) O := by
  unfold F_law_digits B_law_digits
  obtain ⟨c, hc⟩ := cell_ok ns i O hi
  have hP : ([.int 2147483647, .int 2147483629, .int 2147483587, .int 2147483579, .int 2147483563, .int 2147483549, .int 2147483543, .int 2147483497] : List D) = PT := rfl
  have hpw : powD (.int 10) (.int 18) = some (.im (.int 1000000000000000000)) := by simp [powD]
  have key : ∀ rest : Int, ∃ ds : List Nat, ds.length = n ∧ (∀ d ∈ ds, d < b) ∧ ∃ w', forL (gN 8) B_law_digits_1 ((List.range n).map nD) ⟨[.im (.scr ns), .im (nD i), .im (nD n), .im (nD b), .im (.tup PT), .im (.int c), .im (.int rest), .ow [], .un, .un], O⟩ = .val .nxt w' ∧ w'.ρ[7]? = some (.ow (ds.map nD)) ∧ w'.O = O := by
    intro rest
    obtain ⟨w', e, ds, rest', r8, r9, rfl, h1, h2⟩ := forL_rng (g := gN 8) (b := B_law_digits_1) nD (fun k w => ∃ (ds : List Nat) (rest' : Int) (r8 r9 : Rv), w = ⟨[.im (.scr ns), .im (nD i), .im (nD n), .im (nD b), .im (.tup PT), .im (.int c), .im (.int rest'), .ow (ds.map nD), r8, r9], O⟩ ∧ ds.length = k ∧ ∀ d ∈ ds, d < b) n ⟨[.im (.scr ns), .im (nD i), .im (nD n), .im (nD b), .im (.tup PT), .im (.int c), .im (.int rest), .ow [], .un, .un], O⟩ ⟨[], rest, .un, .un, rfl, rfl, fun d h => by cases h⟩ (by
      rintro k w hk ⟨ds, rest', r8, r9, rfl, h1, h2⟩
      obtain ⟨d, rest2, m, hd, e⟩ := digits_turn ns i n b k c rest' ds r8 r9 O hi (by omega) hb hb2 (by omega)
      refine ⟨_, e, ds ++ [d], rest2, _, _, rfl, by simp [h1], fun x hx => ?_⟩
      rcases List.mem_append.mp hx with h | h
      · exact h2 x h
      · rw [List.mem_singleton.mp h]; exact hd)
    exact ⟨ds, h1, h2, _, e, rfl, rfl⟩
  obtain ⟨rest, hr⟩ : ∃ rest : Int, rest = if 1000000000000000000 ≤ c then c else 0 := ⟨_, rfl⟩
  obtain ⟨ds, h1, h2, w', e, h3, h4⟩ := key rest
  have hrg : rg1D [.int (n : Int)] = some ((List.range n).map nD) := rg1_n n (by omega)
  refine ⟨ds, h1, h2, ?_⟩
  have o1 : sAsg (gN 4) (eTup (aCons (fz (eC (.int 2147483647))) (aCons (fz (eC (.int 2147483629))) (aCons (fz (eC (.int 2147483587))) (aCons (fz (eC (.int 2147483579))) (aCons (fz (eC (.int 2147483563))) (aCons (fz (eC (.int 2147483549))) (aCons (fz (eC (.int 2147483543))) (aCons (fz (eC (.int 2147483497))) (aNil)))))))))) ⟨[.im (.scr ns), .im (nD i), .im (nD n), .im (nD b), .un, .un, .un, .un, .un, .un], O⟩ = .val .nxt ⟨[.im (.scr ns), .im (nD i), .im (nD n), .im (nD b), .im (.tup PT), .un, .un, .un, .un, .un], O⟩ :=
    st_asg (er_tup (ea_cons er_c.fz (ea_cons er_c.fz (ea_cons er_c.fz (ea_cons er_c.fz (ea_cons er_c.fz (ea_cons er_c.fz (ea_cons er_c.fz (ea_cons er_c.fz ea_nil)))))))) (by decide))
  have o2 : sAsg (gN 5) (eCall0 F_law_cell (aCons (fz (eVar 0)) (aCons (fz (eVar 1)) (aNil)))) ⟨[.im (.scr ns), .im (nD i), .im (nD n), .im (nD b), .im (.tup PT), .un, .un, .un, .un, .un], O⟩ = .val .nxt ⟨[.im (.scr ns), .im (nD i), .im (nD n), .im (nD b), .im (.tup PT), .im (.int c), .un, .un, .un, .un], O⟩ :=
    st_asg (er_call (ea_cons (er_v rfl).fz (ea_cons (er_v rfl).fz ea_nil)) hc)
  have o3 : sAsg (gN 6) (eIf (tV (fz (eCmp .GtE (pVar 5) (fz (eBin .Pow (fz (eC (.int 10))) (fz (eC (.int 18)))))))) (eVar 5) (eC (.int 0))) ⟨[.im (.scr ns), .im (nD i), .im (nD n), .im (nD b), .im (.tup PT), .im (.int c), .un, .un, .un, .un], O⟩ = .val .nxt ⟨[.im (.scr ns), .im (nD i), .im (nD n), .im (nD b), .im (.tup PT), .im (.int c), .im (.int rest), .un, .un, .un], O⟩ :=
    st_asg (er_if (ev_cmp (ev_p rfl) (ev_bin er_c.fz er_c.fz hpw) (cmp_ge _ _)) (fun h => by rw [hr, if_pos (of_decide_eq_true h)]; exact er_v rfl) fun h => by rw [hr, if_neg (of_decide_eq_false h)]; exact er_c)
  have o4 : sSeq (sAsg (gN 7) (eLst (aNil))) (sSeq (sFor (iRg1 (aCons (pVar 2) (aNil))) (gN 8) (B_law_digits_1)) (sRetV 7)) ⟨[.im (.scr ns), .im (nD i), .im (nD n), .im (nD b), .im (.tup PT), .im (.int c), .im (.int rest), .un, .un, .un], O⟩ = .val (.ret (.ow (ds.map nD))) ⟨w'.ρ.set 7 .un, O⟩ := by
    refine st_seq (st_asg (er_lst ea_nil (Nat.zero_le _))) (st_seq (st_for (it_rg1 (ea_cons (ev_p rfl) ea_nil) hrg) e) ?_)
    rw [st_retV h3, h4]
  have o5 := st_seq o1 (st_seq o2 (st_seq o3 o4))
  have hst : (⟨[D.scr ns, nD i, nD n, nD b].map Rv.im ++ List.replicate (10 - [D.scr ns, nD i, nD n, nD b].length) .un, O⟩ : W) = ⟨[.im (.scr ns), .im (nD i), .im (nD n), .im (nD b), .un, .un, .un, .un, .un, .un], O⟩ := rfl
  rw [defF_ap, if_pos (show [D.scr ns, nD i, nD n, nD b].length = 4 from rfl), runB_ap, hst, o5]
end DL
end
section
set_option Elab.async false
set_option linter.all false
set_option maxRecDepth 100000
set_option maxHeartbeats 1000000
/-! DMg: rows drawn from digits; truth values compared. -/
namespace DL
open PySem L2
local macro_rules | `(tactic| walk_at "ev") => `(tactic| simp (disch := first | with_reducible assumption | (simp; done) | omega | (simp; omega)))

theorem same_bool_ok (a b : Bool) (O : List Rec) : F_law_same_bool [.bl a, .bl b] O = .val (.im (.bl (a == b))) O := by
  unfold F_law_same_bool B_law_same_bool
  simp [fIs, isTy]
  cases a <;> cases b <;> rfl
theorem row_ok (ds : List Nat) (m : Nat) (O : List Rec) (h : 2 ≤ ds.length) (hm : 0 < m) (hm2 : m ≤ 100) :
    ∃ r : List Bool, 1 ≤ r.length ∧ r.length ≤ m ∧ F_law_row [.lst (ds.map nD), nD m] O = .val (.im (.str (rS r))) O := by
  unfold F_law_row B_law_row
  obtain ⟨d0, hd0⟩ : ∃ d0, ds[0]? = some d0 := ⟨ds[0], List.getElem?_eq_getElem _⟩
  obtain ⟨c, hc⟩ : ∃ c : List Nat, c = (ds.drop 1).take (1 + d0 % m) := ⟨_, rfl⟩
  have hcut : cutL (ds.map nD) (some 1) (some (2 + (d0 : Int) % (m : Int))) = c.map nD := by
    rw [cut_map, show (1 : Int) = ((1 : Nat) : Int) from rfl, show (2 + (d0 : Int) % (m : Int)) = ((2 + d0 % m : Nat) : Int) by omega, cut_b, hc]
    congr 2; omega
  have h1 : 1 ≤ c.length := by rw [hc, List.length_take, List.length_drop]; omega
  have h2 : c.length ≤ m := by
    rw [hc, List.length_take, List.length_drop]
    have := Nat.mod_lt d0 hm
    omega
  have hl : m ≠ 0 := by omega
  have hd1 : ds[0] = d0 := Option.some.inj ((List.getElem?_eq_getElem _).symm.trans hd0)
  have key : ∃ (r : List Bool) (w' : W), forL (gN 3) B_law_row_1 (c.map nD) ⟨[.im (.lst (ds.map nD)), .im (nD m), .im (.str (rS [])), .un], O⟩ = .val .nxt w' ∧ r.length = c.length ∧ w'.ρ[2]? = some (.im (.str (rS r))) ∧ w'.O = O := by
    obtain ⟨w', e, r, r3, rfl, hr⟩ := forL_inv0 (g := gN 3) (b := B_law_row_1) nD (fun i w => ∃ (r : List Bool) (r3 : Rv), w = ⟨[.im (.lst (ds.map nD)), .im (nD m), .im (.str (rS r)), r3], O⟩ ∧ r.length = i) c ⟨[.im (.lst (ds.map nD)), .im (nD m), .im (.str (rS [])), .un], O⟩ ⟨[], _, rfl, rfl⟩ (by
      rintro i x w hx ⟨r, r3, rfl, hr⟩
      have hi := (List.getElem?_eq_some_iff.mp hx).1
      have hj : d0 / 100 % 3 < 3 := Nat.mod_lt _ (by decide)
      obtain ⟨q, hq, hq0⟩ : ∃ q : Nat, ([.int 4, .int 9, .int 1000] : List D)[d0 / 100 % 3]? = some (nD q) ∧ q ≠ 0 := by
        have : d0 / 100 % 3 = 0 ∨ d0 / 100 % 3 = 1 ∨ d0 / 100 % 3 = 2 := by omega
        rcases this with h | h | h <;> rw [h]
        · exact ⟨4, rfl, by decide⟩
        · exact ⟨9, rfl, by decide⟩
        · exact ⟨1000, rfl, by decide⟩
      have hq1 : ([.int 4, .int 9, .int 1000] : List D)[d0 / 100 % 3]'hj = nD q := Option.some.inj ((List.getElem?_eq_getElem _).symm.trans hq)
      obtain ⟨bb, hbb⟩ : ∃ bb : Bool, bb = !decide (x % q = 0) := ⟨_, rfl⟩
      refine ⟨⟨[.im (.lst (ds.map nD)), .im (nD m), .im (.str (rS (r ++ [bb]))), .im (nD x)], O⟩, ?_, r ++ [bb], _, rfl, by simp [hr]⟩
      have hx0 : ((x : Int) % (q : Int) = 0) ↔ x % q = 0 := by
        rw [← Int.natCast_emod]; omega
      unfold turn B_law_row_1
      by_cases hz : x % q = 0
      · simp (disch := first | with_reducible assumption | (simp; done) | omega | (simp; omega)) [hd1, hq1, hx0, hz, hbb]
      · simp (disch := first | with_reducible assumption | (simp; done) | omega | (simp; omega)) [hd1, hq1, hx0, hz, hbb])
    exact ⟨r, _, e, hr, rfl, rfl⟩
  obtain ⟨r, w', e, h3, h4, h5⟩ := key
  refine ⟨r, by omega, by omega, ?_⟩
  simp (disch := first | with_reducible assumption | (simp; done) | omega | (simp; omega)) [hd1, hcut, seqD, e, h4, h5]
end DL
end
section
set_option Elab.async false
set_option linter.all false
set_option maxRecDepth 100000
set_option maxHeartbeats 400000
/-! DMr: more rules of evaluation. -/
namespace DL
open PySem L2
local macro_rules | `(tactic| walk_at "ev") => `(tactic| simp -implicitDefEqProofs (disch := first | with_reducible assumption | (simp; done) | omega | (simp; omega)))
theorem Er.fzo {f : M Rv} {w : W} {xs : List D} (h : Er f w (.ow xs)) : Ev (DL.fz f) w (.lst xs) := by
  unfold Ev; unfold Er at h
  rw [fz_ap, bnd_ap, h]; rfl
theorem st_ret {e : M Rv} {w : W} {r : Rv} (h : Er e w r) : sRet e w = .val (.ret r) w := by
  unfold Er at h
  rw [sRet_ap, bnd_ap, h]; rfl
theorem t_and {a b : M Bool} {w : W} {k k2 : Bool} (h : a w = .val k w) (h2 : b w = .val k2 w) : tAndM a b w = .val (k && k2) w := by
  rw [tAndM_ap, bnd_ap, h]
  cases k with
  | true => exact h2
  | false => rfl
theorem t_or {a b : M Bool} {w : W} {k k2 : Bool} (h : a w = .val k w) (h2 : b w = .val k2 w) : tOrM a b w = .val (k || k2) w := by
  rw [tOrM_ap, bnd_ap, h]
  cases k with
  | true => rfl
  | false => exact h2
theorem tv_of {a : M D} {w : W} {k : Bool} (h : Ev a w (.bl k)) : tV a w = .val k w := by
  unfold Ev at h
  rw [tV_ap, bnd_ap, h]; rfl
theorem seqD_lst (l : List D) : seqD (.lst l) = some l := rfl
theorem turn_gN (i : Nat) (b : MS) (x : D) (w : W) : turn (gN i) b x w = b ⟨w.ρ.set i (.im x), w.O⟩ := rfl
theorem it_seq {a : M D} {w : W} {d : D} {xs : List D} (h : Ev a w d) (h2 : seqD d = some xs) : iSeq a w = .val xs w := by
  unfold Ev at h
  rw [iSeq_ap, bnd_ap, h]
  show M.opt (seqD d) w = _
  rw [h2]; rfl
theorem er_lc {vs is : List Nat} {it : M (List D)} {g : Rv → M Unit} {t : M Bool} {e : M D} {w : W} {xs acc : List D} (h : it w = .val xs w) (hf : frzR w.ρ is = w.ρ) (hl : lcL g t e (blkR w.ρ vs) xs [] w.O = .val acc w.O) : Er (eLc vs is it g t e) w (.ow acc) := by
  unfold Er
  rw [eLc_ap, h]
  dsimp only
  rw [hf, hl]
theorem er_ix {a b : M D} {w : W} {x y d : D} (ha : Ev a w x) (hb : Ev b w y) (h : ixD x y = some d) : Er (eIx a b) w (.im d) := by
  unfold Ev at ha hb; unfold Er
  rw [eIx_ap, bnd_ap, ha]
  show M.bnd b _ w = _
  rw [bnd_ap, hb]
  show M.opt ((ixD x y).map Rv.im) w = _
  rw [h]; rfl
theorem ev_po {i : Nat} {w : W} {xs : List D} (h : w.ρ[i]? = some (.ow xs)) : Ev (pVar i) w (.lst xs) := by
  unfold Ev; rw [pVar_ap, h]
theorem st_par2 {i j : Nat} {a b : M Rv} {w : W} {r1 r2 : Rv} (h1 : Er a w r1) (h2 : Er b w r2) : sPar [i, j] (aConsR a (aConsR b aNilR)) w = .val .nxt ⟨(w.ρ.set i r1).set j r2, w.O⟩ := by
  unfold Er at h1 h2
  unfold sPar aConsR aNilR
  simp only [bnd_ap, h1, h2]
  rfl

theorem ev_pd {i : Nat} {w : W} {r : Rv} (h : w.ρ[i]? = some r) (hr : r ≠ .un) : Ev (pVar i) w r.fz := by
  unfold Ev; rw [pVar_ap, h]
  cases r with
  | un => exact absurd rfl hr
  | im d => rfl
  | ow xs => rfl
  | od ks vs => rfl
theorem ea_star {a : M D} {r : M (List D)} {w : W} {xs ds : List D} (h : Ev a w (.tup xs)) (h2 : r w = .val ds w) : aStar a r w = .val (xs ++ ds) w := by
  unfold Ev at h
  show M.bnd a _ w = _
  rw [bnd_ap, h]
  show M.bnd r _ w = _
  rw [bnd_ap, h2]; rfl
theorem t_not {a : M Bool} {w : W} {k : Bool} (h : a w = .val k w) : tNotM a w = .val (!k) w := by
  rw [tNotM_ap, bnd_ap, h]; rfl
/-- the second is asked only where it is wanted -/
theorem t_andl {a b : M Bool} {w : W} {k k2 : Bool} (h : a w = .val k w) (h2 : k = true → b w = .val k2 w) : tAndM a b w = .val (k && k2) w := by
  rw [tAndM_ap, bnd_ap, h]
  cases k with
  | true => exact h2 rfl
  | false => rfl
theorem t_orl {a b : M Bool} {w : W} {k k2 : Bool} (h : a w = .val k w) (h2 : k = false → b w = .val k2 w) : tOrM a b w = .val (k || k2) w := by
  rw [tOrM_ap, bnd_ap, h]
  cases k with
  | true => rfl
  | false => exact h2 rfl
theorem er_fn {F : List D → Option Rv} {a : M (List D)} {w : W} {ds : List D} {r : Rv} (h : a w = .val ds w) (hF : F ds = some r) : Er (eFn F a) w r := by
  unfold Er
  rw [eFn_ap, bnd_ap, h]
  show M.opt (F ds) w = _
  rw [hF]; rfl
theorem er_and {a b : M Rv} {w : W} {k k2 : Bool} (h : tV (fz a) w = .val k w) (h2 : k = true → Er b w (.im (.bl k2))) : Er (eAnd a b) w (.im (.bl (k && k2))) := by
  unfold Er
  rw [eAnd_ap, bnd_ap, h]
  cases k with
  | true => exact h2 rfl
  | false => rfl
theorem er_not {a : M Rv} {w : W} {k : Bool} (h : tV (fz a) w = .val k w) : Er (eNot a) w (.im (.bl (!k))) := by
  unfold Er
  rw [eNot_ap, bnd_ap, h]; rfl
theorem er_cmp {op : CmpOp} {a b : M D} {w : W} {x y : D} {k : Bool} (ha : Ev a w x) (hb : Ev b w y) (h : cmpD op x y = some k) : Er (eCmp op a b) w (.im (.bl k)) := by
  unfold Ev at ha hb; unfold Er
  rw [eCmp_ap, bnd_ap, ha]
  show M.bnd b _ w = _
  rw [bnd_ap, hb]
  show M.opt ((cmpD op x y).map fun k => Rv.im (.bl k)) w = _
  rw [h]; rfl
theorem er_chain {op op' : CmpOp} {a b c : M D} {w : W} {x y z : D} {k k2 : Bool} (ha : Ev a w x) (hb : Ev b w y) (hc : Ev c w z) (h : cmpD op x y = some k) (h2 : cmpD op' y z = some k2) : Er (eChain op op' a b c) w (.im (.bl (k && k2))) := by
  unfold Ev at ha hb hc; unfold Er
  rw [eChain_ap, bnd_ap, ha]
  show M.bnd b _ w = _
  rw [bnd_ap, hb]
  show M.bnd (M.opt (cmpD op x y)) _ w = _
  rw [bnd_ap, h]
  cases k with
  | false => rfl
  | true =>
    show M.bnd c _ w = _
    rw [bnd_ap, hc]
    show M.opt ((cmpD op' y z).map fun k => Rv.im (.bl k)) w = _
    rw [h2]; rfl
theorem tv_er {a : M Rv} {w : W} {k : Bool} (h : Er a w (.im (.bl k))) : tV (fz a) w = .val k w := tv_of h.fz
theorem er_mt {F : Str → D → Option Rv} {a b : M D} {w : W} {x : Str} {y : D} {r : Rv} (ha : Ev a w (.str x)) (hb : Ev b w y) (h : F x y = some r) : Er (eMt F a b) w r := by
  unfold Ev at ha hb; unfold Er
  show M.bnd a _ w = _
  rw [bnd_ap, ha]
  show M.bnd b _ w = _
  rw [bnd_ap, hb]
  show M.opt (F x y) w = _
  rw [h]; rfl
theorem er_sl {a : M D} {lo hi : M (Option Int)} {w : W} {x : D} {l h : Option Int} {r : Rv} (ha : Ev a w x) (hl : lo w = .val l w) (hh : hi w = .val h w) (e : slD x l h = some r) : Er (eSl a lo hi) w r := by
  unfold Ev at ha; unfold Er
  rw [eSl_ap, bnd_ap, ha]
  show M.bnd lo _ w = _
  rw [bnd_ap, hl]
  show M.bnd hi _ w = _
  rw [bnd_ap, hh]
  show M.opt (slD x l h) w = _
  rw [e]; rfl
theorem o_so {a : M D} {w : W} {i : Int} (h : Ev a w (.int i)) : oSo a w = .val (some i) w := by
  unfold Ev at h
  rw [oSo_ap, bnd_ap, h]; rfl
theorem o_no {w : W} : oNo w = .val none w := rfl
/-- a test that ends the body -/
theorem st_out {c : M Bool} {a b s : MS} {w w' : W} {r : Rv} (h : c w = .val true w) (h2 : a w = .val (.ret r) w') : sSeq (sIf c a b) s w = .val (.ret r) w' := by
  rw [sSeq_ap, sIf_ap, bnd_ap, h]
  dsimp only
  rw [if_pos rfl, h2]
/-- .. that does not -/
theorem st_on {c : M Bool} {a s : MS} {w : W} (h : c w = .val false w) : sSeq (sIf c a sNx) s w = s w := by
  rw [sSeq_ap, sIf_ap, bnd_ap, h]; rfl
end DL
end
section
set_option Elab.async false
set_option linter.all false
set_option maxRecDepth 100000
set_option maxHeartbeats 400000
/-! DMk: values of any kind; is_row, is_booking, any_value. -/
namespace DL
open PySem L2
local macro_rules | `(tactic| walk_at "ev") => `(tactic| simp -implicitDefEqProofs (disch := first | with_reducible assumption | (simp; done) | omega | (simp; omega)))

/-- plain values -/
inductive Pl : D → Prop
  | non : Pl .non
  | bl (b : Bool) : Pl (.bl b)
  | int (i : Int) : Pl (.int i)
  | str (z : Str) (h : z.length ≤ 1000) (hc : ∀ c ∈ z.cps.toList, c < 0x110000) : Pl (.str z)
  | tup (xs : List D) (h : ∀ x ∈ xs, Pl x) (hl : xs.length ≤ 1000) : Pl (.tup xs)
  | lst (xs : List D) (h : ∀ x ∈ xs, Pl x) (hl : xs.length ≤ 1000) : Pl (.lst xs)
theorem Pl.is {d : D} (h : Pl d) (t : Ty) : fIs t [d] = some (.im (.bl (isTy t d))) := by
  cases h <;> rfl
def isStrD : D → Bool
  | .str _ => true
  | _ => false
theorem isTy_str {d : D} : isTy .str d = isStrD d := by cases d <;> rfl
/-! ### rows -/
def rowB : D → Bool
  | .str z => decide (1 ≤ z.length) && decide (z.length ≤ 40) && z.cps.toList.all fun c => c == 46 || c == 120
  | _ => false
theorem sub_dx (c : Nat) : subS ⟨#[c]⟩ (Str.ofString ".x") = (c == 46 || c == 120) := by
  rw [subS_one]
  have : (Str.ofString ".x").cps.toList = [46, 120] := by decide +kernel
  rw [this]
  simp
  rfl
theorem lay_one (c : Nat) (h : c < 0x110000) : lay (.str ⟨#[c]⟩) = true := by
  simp only [lay, D.py, PyData.canLay0]
  show (#[c]).all (· < 0x110000) = true
  simp only [Array.all_eq_true', List.mem_toArray, List.mem_singleton, decide_eq_true_eq]
  rintro _ rfl
  exact h
theorem in_dx (c : Nat) (h : c < 0x110000) : memD (.str ⟨#[c]⟩) (.tup [.str (Str.ofString "."), .str (Str.ofString "x")]) = some (c == 46 || c == 120) := by
  rw [mem_tup _ _ (eqOk_of 0 (lay_one c h) (dep_str _ _)) (by rw [s_dot, s_x]; simp)]
  congr 1
  have e1 : eqD (.str (Str.ofString ".")) (.str ⟨#[c]⟩) = (c == 46) := by
    rw [eqD_str]
    have : Str.ofString "." = ⟨#[46]⟩ := by decide +kernel
    rw [this]
    by_cases h : c = 46
    · subst h; decide +kernel
    · have h1 : (c == 46) = false := by simpa using h
      rw [h1]
      refine beq_eq_false_iff_ne.mpr fun e => h ?_
      have := congrArg (fun z => z.cps.toList) e
      simpa using this.symm
  have e2 : eqD (.str (Str.ofString "x")) (.str ⟨#[c]⟩) = (c == 120) := by
    rw [eqD_str]
    have : Str.ofString "x" = ⟨#[120]⟩ := by decide +kernel
    rw [this]
    by_cases h : c = 120
    · subst h; decide +kernel
    · have h1 : (c == 120) = false := by simpa using h
      rw [h1]
      refine beq_eq_false_iff_ne.mpr fun e => h ?_
      have := congrArg (fun z => z.cps.toList) e
      simpa using this.symm
  rw [inD_cons, inD_cons, inD_nil, e1, e2, Bool.or_false]
abbrev chD (c : Nat) : D := .str ⟨#[c]⟩
def iStrD (d : D) : Option (List D) := match d with | .str z => some (z.cps.toList.map chD) | _ => none
theorem it_str {a : M D} {w : W} {z : Str} (h : Ev a w (.str z)) : DL.iStr a w = .val (z.cps.toList.map chD) w := by
  unfold Ev at h
  show M.bnd a _ w = _
  rw [bnd_ap, h]; rfl
theorem bls_all (l : List Nat) (f : Nat → Bool) : blsD (l.map fun c => D.bl (f c)) = some (l.map f) := by
  induction l with
  | nil => rfl
  | cons c l ih => rw [List.map_cons, blsD, ih]; rfl
theorem len_le (z : Str) (O : List Rec) (w : W) (i : Nat) (h : w.ρ[i]? = some (.im (.str z))) (hz : z.length ≤ 1000) : Er (eChain .LtE .LtE (fz (eC (.int 1))) (fz (eFn fLen (aCons (pVar i) aNil))) (fz (eC (.int 40)))) w (.im (.bl (decide (1 ≤ z.length) && decide (z.length ≤ 40)))) := by
  have hl : fLen [.str z] = some (.im (.int (z.length : Int))) := by
    show (if okLen z.length = true then some (Rv.im (.int (z.length : Int))) else none) = _
    rw [okLen_of (by omega), if_pos rfl]
  refine er_chain (k := decide (1 ≤ z.length)) (k2 := decide (z.length ≤ 40)) er_c.fz (er_fn (ea_cons (ev_p h) ea_nil) hl).fz er_c.fz ?_ ?_
  · rw [cmp_le]; congr 1; exact decide_eq_decide.mpr (by omega)
  · rw [cmp_le]; congr 1; exact decide_eq_decide.mpr (by omega)
theorem is_row_ok (d : D) (O : List Rec) (h : Pl d) : F_is_row [d] O = .val (.im (.bl (rowB d))) O := by
  have hst : (⟨[d].map Rv.im ++ List.replicate (2 - [d].length) .un, O⟩ : W) = ⟨[.im d, .un], O⟩ := rfl
  have hb : Er (eAnd (eFn (fIs .str) (aCons (pVar 0) aNil)) (eAnd (eChain .LtE .LtE (fz (eC (.int 1))) (fz (eFn fLen (aCons (pVar 0) (aNil)))) (fz (eC (.int 40)))) (eFn fAll (aCons (fz (eLc [1] [] (DL.iStr (pVar 0)) (gN 1) (tYesM) (fz (eCmp .In (pVar 1) (fz (eC (.str ".x"))))))) (aNil))))) ⟨[.im d, .un], O⟩ (.im (.bl (rowB d))) := by
    have h1 : tV (fz (eFn (fIs .str) (aCons (pVar 0) aNil))) ⟨[.im d, .un], O⟩ = .val (isStrD d) ⟨[.im d, .un], O⟩ := tv_er (er_fn (ea_cons (ev_p rfl) ea_nil) (by rw [h.is, isTy_str]))
    by_cases hs : isStrD d = true
    · cases h with
      | str z hz hc =>
        have : rowB (.str z) = (true && ((decide (1 ≤ z.length) && decide (z.length ≤ 40)) && z.cps.toList.all fun c => c == 46 || c == 120)) := by
          rw [Bool.true_and]; rfl
        rw [this]
        refine er_and h1 fun _ => er_and (tv_er (len_le z O _ 0 rfl hz)) fun _ => ?_
        refine er_fn (ea_cons (er_lc (acc := z.cps.toList.map fun c => D.bl (c == 46 || c == 120)) (it_str (ev_p rfl)) rfl ?_).fzo ea_nil) ?_
        · refine lcL_all chD (fun c => D.bl (c == 46 || c == 120)) _ ?_ fun c hc => ⟨_, rfl, rfl, ?_⟩
          · show z.length ≤ _; omega
          · refine (er_cmp (ev_p rfl) er_c.fz ?_).fz
            rw [cmp_in]
            show some (subS _ _) = _
            rw [← sub_dx]
        · show (blsD (z.cps.toList.map fun c => D.bl (c == 46 || c == 120))).map (fun bs => Rv.im (.bl (bs.all id))) = _
          rw [bls_all, Option.map_some, List.all_map]; rfl
      | _ => cases hs
    · rw [Bool.not_eq_true] at hs
      have : rowB d = (isStrD d && false) := by
        rw [hs]
        cases h with
        | str z _ _ => cases hs
        | _ => rfl
      rw [this]
      exact er_and h1 fun z => by rw [hs] at z; cases z
  unfold F_is_row B_is_row
  rw [defF_ap, if_pos (show [d].length = 1 from rfl), runB_ap, hst, st_ret hb]
theorem law_is_row_ok (d : D) (O : List Rec) (h : Pl d) : F_law_is_row [d] O = .val (.im (.bl (rowB d))) O := by
  have hst : (⟨[d].map Rv.im ++ List.replicate (2 - [d].length) .un, O⟩ : W) = ⟨[.im d, .un], O⟩ := rfl
  have h1 : tV (fz (eFn (fIs .str) (aCons (pVar 0) aNil))) ⟨[.im d, .un], O⟩ = .val (isStrD d) ⟨[.im d, .un], O⟩ := tv_er (er_fn (ea_cons (ev_p rfl) ea_nil) (by rw [h.is, isTy_str]))
  have hb : B_law_is_row ⟨[.im d, .un], O⟩ = .val (.ret (.im (.bl (rowB d)))) ⟨[.im d, .un], O⟩ := by
    unfold B_law_is_row
    by_cases hs : isStrD d = true
    · cases h with
      | str z hz hc =>
        have hc2 := t_or (t_not h1) (t_not (tv_er (len_le z O ⟨[.im (.str z), .un], O⟩ 0 rfl hz)))
        by_cases hlen : (decide (1 ≤ z.length) && decide (z.length ≤ 40)) = true
        · rw [hs, hlen] at hc2
          refine st_seq (w1 := ⟨[.im (.str z), .un], O⟩) (st_if (k := false) hc2 (fun z => nomatch z) fun _ => rfl) ?_
          refine st_ret ?_
          have hR : rowB (.str z) = ((z.cps.toList.filter fun c => !(c == 46 || c == 120)).map chD).isEmpty := by
            have : rowB (.str z) = z.cps.toList.all fun c => c == 46 || c == 120 := by
              show (decide (1 ≤ z.length) && decide (z.length ≤ 40) && z.cps.toList.all fun c => c == 46 || c == 120) = _
              rw [hlen, Bool.true_and]
            rw [this, List.isEmpty_map]
            clear this hlen hc2 h1
            clear hc hst
            generalize z.cps.toList = l
            induction l with
            | nil => rfl
            | cons c l ih =>
              rw [List.all_cons, List.filter_cons]
              cases hq : (c == 46 || c == 120) with
              | true => simpa using ih
              | false => simp
          rw [hR]
          refine er_cmp (er_lc (acc := (z.cps.toList.filter fun c => !(c == 46 || c == 120)).map chD) (it_str (ev_p rfl)) rfl ?_).fzo (er_lst ea_nil (Nat.zero_le _)).fzo ?_
          · refine lcL_if chD (fun c => !(c == 46 || c == 120)) chD _ ?_ fun c hm => ⟨_, rfl, rfl, ?_, fun _ => rfl⟩
            · show z.length ≤ _; omega
            · refine ev_cmp (ev_p rfl) (er_tup (ea_cons er_c.fz (ea_cons er_c.fz ea_nil)) (by simp)).fz ?_
              rw [cmp_notin, in_dx c (hc c hm)]; rfl
          · have hall : ((z.cps.toList.filter fun c => !(c == 46 || c == 120)).map chD).all lay = true := by
              rw [List.all_eq_true]
              intro x hx
              obtain ⟨c, hm, rfl⟩ := List.mem_map.mp hx
              exact lay_one c (hc c (List.mem_filter.mp hm).1)
            rw [cmp_eq _ _ (eqOk_lstS _ hall (all_dep 5 chD (fun _ => dep_str _ _) _)) (eqOk_lstS _ rfl rfl), eqD_lst]
            cases (z.cps.toList.filter fun c => !(c == 46 || c == 120)).map chD <;> rfl
        · rw [Bool.not_eq_true] at hlen
          rw [hs, hlen] at hc2
          refine (sSeq_ap _ _ _).trans ?_
          have : rowB (.str z) = false := by
            show (decide (1 ≤ z.length) && decide (z.length ≤ 40) && z.cps.toList.all fun c => c == 46 || c == 120) = _
            rw [hlen]; rfl
          rw [this, sIf_ap, bnd_ap, hc2]; rfl
      | _ => cases hs
    · rw [Bool.not_eq_true] at hs
      have : rowB d = false := by
        cases h with
        | str z _ _ => cases hs
        | _ => rfl
      rw [this]
      refine (sSeq_ap _ _ _).trans ?_
      rw [sIf_ap, bnd_ap, tOrM_ap, bnd_ap, t_not h1, hs]; rfl
  unfold F_law_is_row
  rw [defF_ap, if_pos (show [d].length = 1 from rfl), runB_ap, hst, hb]

/-! ### whole numbers, bookings -/
def isI (d : D) (lo hi : Int) : Bool := match d with
  | .int i => decide (lo ≤ i) && decide (i ≤ hi)
  | _ => false
def isIntD : D → Bool
  | .int _ => true
  | .bl _ => true
  | _ => false
def isBlD : D → Bool
  | .bl _ => true
  | _ => false
theorem isTy_int {d : D} : isTy .int d = isIntD d := by cases d <;> rfl
theorem isTy_bool {d : D} : isTy .bool d = isBlD d := by cases d <;> rfl
theorem integer_body {d : D} (h : Pl d) (lo hi : Int) (O : List Rec) : Er (eAnd (eFn (fIs .int) (aCons (pVar 0) aNil)) (eAnd (eNot (eFn (fIs .bool) (aCons (pVar 0) aNil))) (eChain .LtE .LtE (pVar 1) (pVar 0) (pVar 2)))) ⟨[.im d, .im (.int lo), .im (.int hi)], O⟩ (.im (.bl (isI d lo hi))) := by
  have h1 : tV (fz (eFn (fIs .int) (aCons (pVar 0) aNil))) ⟨[.im d, .im (.int lo), .im (.int hi)], O⟩ = .val (isIntD d) ⟨[.im d, .im (.int lo), .im (.int hi)], O⟩ := tv_er (er_fn (ea_cons (ev_p rfl) ea_nil) (by rw [h.is, isTy_int]))
  have h2 : tV (fz (eNot (eFn (fIs .bool) (aCons (pVar 0) aNil)))) ⟨[.im d, .im (.int lo), .im (.int hi)], O⟩ = .val (!isBlD d) ⟨[.im d, .im (.int lo), .im (.int hi)], O⟩ := tv_er (er_not (tv_er (er_fn (ea_cons (ev_p rfl) ea_nil) (by rw [h.is, isTy_bool]))))
  have e : isI d lo hi = (isIntD d && (!isBlD d && match d with | .int i => decide (lo ≤ i) && decide (i ≤ hi) | _ => false)) := by
    cases h <;> rfl
  rw [e]
  refine er_and h1 fun k1 => er_and h2 fun k2 => ?_
  cases h with
  | int i => exact er_chain (ev_p rfl) (ev_p rfl) (ev_p rfl) (cmp_le _ _) (cmp_le _ _)
  | bl b => cases k2
  | non => cases k1
  | str _ _ _ => cases k1
  | tup _ _ _ => cases k1
  | lst _ _ _ => cases k1
theorem integer_ok {d : D} (h : Pl d) (lo hi : Int) (O : List Rec) : F_is_integer [d, .int lo, .int hi] O = .val (.im (.bl (isI d lo hi))) O := by
  have hst : (⟨[d, D.int lo, D.int hi].map Rv.im ++ List.replicate (3 - [d, D.int lo, D.int hi].length) .un, O⟩ : W) = ⟨[.im d, .im (.int lo), .im (.int hi)], O⟩ := rfl
  unfold F_is_integer B_is_integer
  rw [defF_ap, if_pos (show [d, D.int lo, D.int hi].length = 3 from rfl), runB_ap, hst, st_ret (integer_body h lo hi O)]
theorem law_integer_ok {d : D} (h : Pl d) (lo hi : Int) (O : List Rec) : F_law_is_integer [d, .int lo, .int hi] O = .val (.im (.bl (isI d lo hi))) O := by
  have hst : (⟨[d, D.int lo, D.int hi].map Rv.im ++ List.replicate (3 - [d, D.int lo, D.int hi].length) .un, O⟩ : W) = ⟨[.im d, .im (.int lo), .im (.int hi)], O⟩ := rfl
  unfold F_law_is_integer B_law_is_integer
  rw [defF_ap, if_pos (show [d, D.int lo, D.int hi].length = 3 from rfl), runB_ap, hst, st_ret (integer_body h lo hi O)]
def isTupD : D → Bool
  | .tup _ => true
  | _ => false
theorem isTy_tup {d : D} : isTy .tuple d = isTupD d := by cases d <;> rfl
def bookB (n : Nat) : D → Bool
  | .tup [.int i, .int j] => decide (0 ≤ i) && decide (1 ≤ j) && decide (i + j ≤ n)
  | _ => false
theorem bookB_isI {n : Nat} {a b : D} : bookB n (.tup [a, b]) = (isI a 0 ((n : Int) - 1) && match a with | .int i => isI b 1 ((n : Int) - i) | _ => false) := by
  cases a with
  | int i =>
    cases b with
    | int j =>
      show (decide (0 ≤ i) && decide (1 ≤ j) && decide (i + j ≤ n)) = ((decide (0 ≤ i) && decide (i ≤ (n : Int) - 1)) && (decide (1 ≤ j) && decide (j ≤ (n : Int) - i)))
      rw [Bool.eq_iff_iff]
      simp only [Bool.and_eq_true, decide_eq_true_eq]
      omega
    | _ => show false = (_ && false); rw [Bool.and_false]
  | _ => rfl
theorem bookB_law {n : Nat} (hn : n ≤ 40) {a b : D} : bookB n (.tup [a, b]) = (isI a 0 40 && isI b 1 40 && match a, b with | .int i, .int j => decide (i + j ≤ n) | _, _ => false) := by
  cases a with
  | int i =>
    cases b with
    | int j =>
      show (decide (0 ≤ i) && decide (1 ≤ j) && decide (i + j ≤ n)) = ((decide (0 ≤ i) && decide (i ≤ 40)) && (decide (1 ≤ j) && decide (j ≤ 40)) && decide (i + j ≤ n))
      rw [Bool.eq_iff_iff]
      simp only [Bool.and_eq_true, decide_eq_true_eq]
      omega
    | _ => show false = (_ && false && _); rw [Bool.and_false]
  | _ => rfl
/-- what is no pair -/
theorem no_pair {d : D} (n : Nat) (h : ∀ a b, d ≠ .tup [a, b]) : bookB n d = false := by
  unfold bookB
  split
  · exact absurd rfl (h _ _)
  · rfl
theorem tup_len {xs : List D} (h : xs.length ≤ 1000) : fLen [.tup xs] = some (.im (nD xs.length)) := rfl
theorem is_booking_ok (r : List Bool) (d : D) (O : List Rec) (hr : r.length ≤ 40) (h : Pl d) : F_is_booking [.str (rS r), d] O = .val (.im (.bl (bookB r.length d))) O := by
  have hst : (⟨[D.str (rS r), d].map Rv.im ++ List.replicate (2 - [D.str (rS r), d].length) .un, O⟩ : W) = ⟨[.im (.str (rS r)), .im d], O⟩ := rfl
  have h1 : tV (fz (eFn (fIs .tuple) (aCons (pVar 1) aNil))) ⟨[.im (.str (rS r)), .im d], O⟩ = .val (isTupD d) ⟨[.im (.str (rS r)), .im d], O⟩ := tv_er (er_fn (ea_cons (ev_p rfl) ea_nil) (by rw [h.is, isTy_tup]))
  have hb : B_is_booking ⟨[.im (.str (rS r)), .im d], O⟩ = .val (.ret (.im (.bl (bookB r.length d)))) ⟨[.im (.str (rS r)), .im d], O⟩ := by
    unfold B_is_booking
    have no : ∀ {c : M Bool} {b : MS}, c ⟨[.im (.str (rS r)), .im d], O⟩ = .val true ⟨[.im (.str (rS r)), .im d], O⟩ → bookB r.length d = false → sSeq (sIf c (sRet (eC (.bl false))) sNx) b ⟨[.im (.str (rS r)), .im d], O⟩ = .val (.ret (.im (.bl (bookB r.length d)))) ⟨[.im (.str (rS r)), .im d], O⟩ := fun hc hq => by
      rw [sSeq_ap, sIf_ap, bnd_ap, hc, hq]; rfl
    have yes : ∀ {c : M Bool} {b : MS}, c ⟨[.im (.str (rS r)), .im d], O⟩ = .val false ⟨[.im (.str (rS r)), .im d], O⟩ → sSeq (sIf c (sRet (eC (.bl false))) sNx) b ⟨[.im (.str (rS r)), .im d], O⟩ = b ⟨[.im (.str (rS r)), .im d], O⟩ := fun hc => by
      rw [sSeq_ap, sIf_ap, bnd_ap, hc]; rfl
    cases h with
    | tup xs hx hl =>
      have hlen := tup_len hl
      have hcm : cmpD .NotEq (nD xs.length) (.int 2) = some (!decide (xs.length = 2)) := by
        rw [cmp_ne _ _ (eqOk_int _) (eqOk_int _), eqD_int]; congr 2; exact decide_eq_decide.mpr (by omega)
      have h2 : tV (fz (eCmp .NotEq (fz (eFn fLen (aCons (pVar 1) aNil))) (fz (eC (.int 2))))) ⟨[.im (.str (rS r)), .im (.tup xs)], O⟩ = .val (!decide (xs.length = 2)) ⟨[.im (.str (rS r)), .im (.tup xs)], O⟩ := ev_cmp (er_fn (ea_cons (ev_p rfl) ea_nil) hlen).fz er_c.fz hcm
      by_cases h3 : xs.length = 2
      · obtain ⟨a, b, rfl⟩ : ∃ a b, xs = [a, b] := by
          match xs, h3 with
          | [a, b], _ => exact ⟨a, b, rfl⟩
        have pa := hx a (by simp)
        have pb := hx b (by simp)
        have i0 : ixD (.tup [a, b]) (.int 0) = some a := rfl
        have i1 : ixD (.tup [a, b]) (.int 1) = some b := rfl
        have hrl : fLen [.str (rS r)] = some (.im (nD r.length)) := fLen_row r (by omega)
        have l1 : bopD .Sub (nD r.length) (.int 1) = some (.im (.int ((r.length : Int) - 1))) := rfl
        have h4 : tV (fz (eCall0 F_is_integer (aCons (fz (eIx (pVar 1) (fz (eC (.int 0))))) (aCons (fz (eC (.int 0))) (aCons (fz (eBin .Sub (fz (eFn fLen (aCons (pVar 0) (aNil)))) (fz (eC (.int 1))))) (aNil)))))) ⟨[.im (.str (rS r)), .im (.tup [a, b])], O⟩ = .val (isI a 0 ((r.length : Int) - 1)) ⟨[.im (.str (rS r)), .im (.tup [a, b])], O⟩ :=
          tv_er (er_call (ea_cons (ev_ix (ev_p rfl) er_c.fz i0) (ea_cons er_c.fz (ea_cons (ev_bin (er_fn (ea_cons (ev_p rfl) ea_nil) hrl).fz er_c.fz l1) ea_nil))) (integer_ok pa _ _ _))
        have hc := t_or (t_not h1) (t_or h2 (t_not h4))
        have e0 : (!isTupD (.tup [a, b]) || (!decide ([a, b].length = 2) || !isI a 0 ((r.length : Int) - 1))) = !isI a 0 ((r.length : Int) - 1) := rfl
        rw [e0] at hc
        cases hq : isI a 0 ((r.length : Int) - 1) with
        | false =>
          rw [hq] at hc
          exact no hc (by rw [bookB_isI, hq]; rfl)
        | true =>
          rw [hq] at hc
          refine (yes hc).trans (st_ret ?_)
          cases a with
          | int i =>
            have l2 : bopD .Sub (nD r.length) (.int i) = some (.im (.int ((r.length : Int) - i))) := rfl
            have e9 : bookB r.length (.tup [.int i, b]) = isI b 1 ((r.length : Int) - i) := by rw [bookB_isI, hq, Bool.true_and]
            rw [e9]
            exact er_call (ea_cons (ev_ix (ev_p rfl) er_c.fz i1) (ea_cons er_c.fz (ea_cons (ev_bin (er_fn (ea_cons (ev_p rfl) ea_nil) hrl).fz (ev_ix (ev_p rfl) er_c.fz i0) l2) ea_nil))) (integer_ok pb _ _ _)
          | _ => cases hq
      · refine no (t_orl (k2 := true) (t_not h1) fun _ => ?_) (no_pair _ fun a b e => h3 (by cases e; rfl))
        rw [tOrM_ap, bnd_ap, h2, decide_eq_false h3]; rfl
    | _ => exact no (by rw [tOrM_ap, bnd_ap, t_not h1]; rfl) rfl
  unfold F_is_booking
  rw [defF_ap, if_pos (show [D.str (rS r), d].length = 2 from rfl), runB_ap, hst, hb]
theorem law_is_booking_ok (r : List Bool) (d : D) (O : List Rec) (hr : r.length ≤ 40) (h : Pl d) : F_law_is_booking [.str (rS r), d] O = .val (.im (.bl (bookB r.length d))) O := by
  have hst : (⟨[D.str (rS r), d].map Rv.im ++ List.replicate (2 - [D.str (rS r), d].length) .un, O⟩ : W) = ⟨[.im (.str (rS r)), .im d], O⟩ := rfl
  have h1 : tV (fz (eFn (fIs .tuple) (aCons (pVar 1) aNil))) ⟨[.im (.str (rS r)), .im d], O⟩ = .val (isTupD d) ⟨[.im (.str (rS r)), .im d], O⟩ := tv_er (er_fn (ea_cons (ev_p rfl) ea_nil) (by rw [h.is, isTy_tup]))
  have hb : B_law_is_booking ⟨[.im (.str (rS r)), .im d], O⟩ = .val (.ret (.im (.bl (bookB r.length d)))) ⟨[.im (.str (rS r)), .im d], O⟩ := by
    unfold B_law_is_booking
    have no : ∀ {c : M Bool} {b : MS}, c ⟨[.im (.str (rS r)), .im d], O⟩ = .val true ⟨[.im (.str (rS r)), .im d], O⟩ → bookB r.length d = false → sSeq (sIf c (sRet (eC (.bl false))) sNx) b ⟨[.im (.str (rS r)), .im d], O⟩ = .val (.ret (.im (.bl (bookB r.length d)))) ⟨[.im (.str (rS r)), .im d], O⟩ := fun hc hq => by
      rw [sSeq_ap, sIf_ap, bnd_ap, hc, hq]; rfl
    have yes : ∀ {c : M Bool} {b : MS}, c ⟨[.im (.str (rS r)), .im d], O⟩ = .val false ⟨[.im (.str (rS r)), .im d], O⟩ → sSeq (sIf c (sRet (eC (.bl false))) sNx) b ⟨[.im (.str (rS r)), .im d], O⟩ = b ⟨[.im (.str (rS r)), .im d], O⟩ := fun hc => by
      rw [sSeq_ap, sIf_ap, bnd_ap, hc]; rfl
    cases h with
    | tup xs hx hl =>
      have hlen := tup_len hl
      have hcm : cmpD .NotEq (nD xs.length) (.int 2) = some (!decide (xs.length = 2)) := by
        rw [cmp_ne _ _ (eqOk_int _) (eqOk_int _), eqD_int]; congr 2; exact decide_eq_decide.mpr (by omega)
      have h2 : tV (fz (eCmp .NotEq (fz (eFn fLen (aCons (pVar 1) aNil))) (fz (eC (.int 2))))) ⟨[.im (.str (rS r)), .im (.tup xs)], O⟩ = .val (!decide (xs.length = 2)) ⟨[.im (.str (rS r)), .im (.tup xs)], O⟩ := ev_cmp (er_fn (ea_cons (ev_p rfl) ea_nil) hlen).fz er_c.fz hcm
      have hc1 := t_or (t_not h1) h2
      by_cases h3 : xs.length = 2
      · obtain ⟨a, b, rfl⟩ : ∃ a b, xs = [a, b] := by
          match xs, h3 with
          | [a, b], _ => exact ⟨a, b, rfl⟩
        have pa := hx a (by simp)
        have pb := hx b (by simp)
        have i0 : ixD (.tup [a, b]) (.int 0) = some a := rfl
        have i1 : ixD (.tup [a, b]) (.int 1) = some b := rfl
        have hrl : fLen [.str (rS r)] = some (.im (nD r.length)) := fLen_row r (by omega)
        refine (yes hc1).trans ?_
        have h4 : tV (fz (eCall0 F_law_is_integer (aCons (fz (eIx (pVar 1) (fz (eC (.int 0))))) (aCons (fz (eC (.int 0))) (aCons (fz (eC (.int 40))) (aNil)))))) ⟨[.im (.str (rS r)), .im (.tup [a, b])], O⟩ = .val (isI a 0 40) ⟨[.im (.str (rS r)), .im (.tup [a, b])], O⟩ :=
          tv_er (er_call (ea_cons (ev_ix (ev_p rfl) er_c.fz i0) (ea_cons er_c.fz (ea_cons er_c.fz ea_nil))) (law_integer_ok pa _ _ _))
        have h5 : tV (fz (eCall0 F_law_is_integer (aCons (fz (eIx (pVar 1) (fz (eC (.int 1))))) (aCons (fz (eC (.int 1))) (aCons (fz (eC (.int 40))) (aNil)))))) ⟨[.im (.str (rS r)), .im (.tup [a, b])], O⟩ = .val (isI b 1 40) ⟨[.im (.str (rS r)), .im (.tup [a, b])], O⟩ :=
          tv_er (er_call (ea_cons (ev_ix (ev_p rfl) er_c.fz i1) (ea_cons er_c.fz (ea_cons er_c.fz ea_nil))) (law_integer_ok pb _ _ _))
        have hc := t_or (t_not h4) (t_not h5)
        cases hq : (isI a 0 40 && isI b 1 40) with
        | false =>
          have : (!isI a 0 40 || !isI b 1 40) = true := by rw [← Bool.not_and, hq]; rfl
          rw [this] at hc
          exact no hc (by rw [bookB_law hr, hq]; rfl)
        | true =>
          have : (!isI a 0 40 || !isI b 1 40) = false := by rw [← Bool.not_and, hq]; rfl
          rw [this] at hc
          refine (yes hc).trans (st_ret ?_)
          rw [bookB_law hr, hq, Bool.true_and]
          cases a with
          | int i =>
            cases b with
            | int j =>
              exact er_cmp (ev_bin (ev_ix (ev_p rfl) er_c.fz i0) (ev_ix (ev_p rfl) er_c.fz i1) (b_add _ _)) (er_fn (ea_cons (ev_p rfl) ea_nil) hrl).fz (cmp_le _ _)
            | _ => rw [Bool.and_eq_true] at hq; cases hq.2
          | _ => rw [Bool.and_eq_true] at hq; cases hq.1
      · refine no ?_ (no_pair _ fun a b e => h3 (by cases e; rfl))
        rw [hc1, decide_eq_false h3]; rfl
    | _ => exact no (by rw [tOrM_ap, bnd_ap, t_not h1]; rfl) rfl
  unfold F_law_is_booking
  rw [defF_ap, if_pos (show [D.str (rS r), d].length = 2 from rfl), runB_ap, hst, hb]

/-! ### any_value -/
theorem Er.fzr {f : M Rv} {w : W} {r : Rv} (h : Er f w r) : Ev (DL.fz f) w r.fz := by
  unfold Ev; unfold Er at h
  rw [fz_ap, bnd_ap, h]; rfl
theorem st_retVi {i : Nat} {w : W} {d : D} (h : w.ρ[i]? = some (.im d)) : sRetV i w = .val (.ret (.im d)) ⟨w.ρ.set i .un, w.O⟩ := by
  rw [sRetV_ap, h]
theorem ix_pl {xs : List D} (h : ∀ x ∈ xs, Pl x) {i : Nat} (hi : i < xs.length) : ∃ y, ixD (.lst xs) (nD i) = some y ∧ Pl y := by
  refine ⟨xs[i], ?_, h _ (List.getElem_mem hi)⟩
  rw [ix_lst, atI_n, List.getElem?_eq_getElem hi]
theorem ix_ds (ds : List Nat) (i : Nat) (h : i < ds.length) : ixD (.lst (ds.map nD)) (nD i) = some (nD ds[i]) := by
  rw [ix_lst, atI_n, List.getElem?_map, List.getElem?_eq_getElem h]; rfl
theorem m_lit (a b : Nat) (h : b ≠ 0) : bopD .Mod (nD a) (.int (b : Int)) = some (.im (nD (a % b))) := by
  rw [b_mod _ _ (by omega), fmod_nn]
theorem a_lit (a b : Nat) : bopD .Add (nD a) (.int (b : Int)) = some (.im (nD (a + b))) := b_add _ _
theorem pl_lit (z : Str) (h : z.length ≤ 1000 := by decide) (hc : (z.cps.toList.all fun c => decide (c < 0x110000)) = true := by decide +kernel) : Pl (.str z) :=
  .str z h fun c hm => of_decide_eq_true (List.all_eq_true.mp hc c hm)
theorem any_ok : ∀ (fuel : Nat) (ds : List Nat) (dep : Nat) (O : List Rec), 9 ≤ ds.length → ds.length ≤ 1000 → dep ≤ 4 → 5 ≤ fuel + dep →
    ∃ r, FN_law_any_value fuel [.lst (ds.map nD), nD dep] O = .val r O ∧ Pl r.fz ∧ r ≠ .un
  | 0, _, dep, _, _, _, h1, h2 => by omega
  | fuel + 1, ds, dep, O, hl, hl2, hd, hf => by
    have hst : (⟨[D.lst (ds.map nD), nD dep].map Rv.im ++ List.replicate (6 - [D.lst (ds.map nD), nD dep].length) .un, O⟩ : W) = ⟨[.im (.lst (ds.map nD)), .im (nD dep), .un, .un, .un, .un], O⟩ := rfl
    have fin : ∀ (r : Rv) (w' : W), B_law_any_value (FN_law_any_value fuel) ⟨[.im (.lst (ds.map nD)), .im (nD dep), .un, .un, .un, .un], O⟩ = .val (.ret r) w' → w'.O = O → Pl r.fz → r ≠ .un → ∃ r, FN_law_any_value (fuel + 1) [.lst (ds.map nD), nD dep] O = .val r O ∧ Pl r.fz ∧ r ≠ .un := fun r w' e eO hp hu => by
      refine ⟨r, ?_, hp, hu⟩
      show defF 2 6 (B_law_any_value (FN_law_any_value fuel)) _ _ = _
      rw [defF_ap, if_pos (show [D.lst (ds.map nD), nD dep].length = 2 from rfl), runB_ap, hst, e]
      show Out.val r w'.O = _
      rw [eO]
    unfold B_law_any_value at fin
    have at_ : ∀ i : Nat, i ≤ 4 → ∃ x : Nat, ixD (.lst (ds.map nD)) (nD (dep + i)) = some (nD x) := fun i hi => ⟨_, ix_ds ds (dep + i) (by omega)⟩
    obtain ⟨x0, e0⟩ := at_ 0 (by omega)
    obtain ⟨x1, e1⟩ := at_ 1 (by omega)
    obtain ⟨x2, e2⟩ := at_ 2 (by omega)
    obtain ⟨x3, e3⟩ := at_ 3 (by omega)
    obtain ⟨x4, e4⟩ := at_ 4 (by omega)
    have a1 := a_lit dep 1
    have a2 := a_lit dep 2
    have a3 := a_lit dep 3
    have a4 := a_lit dep 4
    have hpw : powD (.int 10) (.int 39) = some (.im (.int (10 ^ 39))) := rfl
    have hpw2 : bopD .Pow (.int 10) (.int 39) = some (.im (.int (10 ^ 39))) := hpw
    obtain ⟨P, hP⟩ : ∃ P : Int, P = 10 ^ 39 := ⟨_, rfl⟩
    rw [← hP] at hpw2
    obtain ⟨c, hc⟩ : ∃ c, c = x0 % 12 := ⟨_, rfl⟩
    have hc12 : c < 12 := by rw [hc]; exact Nat.mod_lt _ (by omega)
    have o1 : sAsg (gN 2) (eBin .Mod (fz (eIx (pVar 0) (pVar 1))) (fz (eC (.int 12)))) ⟨[.im (.lst (ds.map nD)), .im (nD dep), .un, .un, .un, .un], O⟩ = .val .nxt ⟨[.im (.lst (ds.map nD)), .im (nD dep), .im (nD c), .un, .un, .un], O⟩ :=
      st_asg (er_bin (ev_ix (ev_p rfl) (ev_p rfl) e0) er_c.fz (by rw [hc]; exact m_lit x0 12 (by decide)))
    obtain ⟨n, hn⟩ : ∃ n : Int, ixD (.lst [.int ((x1 % 12 : Nat) - 2), .int (0 - P), .int P]) (nD (x2 % 3)) = some (.int n) := by
      have : x2 % 3 < 3 := Nat.mod_lt _ (by omega)
      rw [ix_lst, atI_n]
      match x2 % 3, this with
      | 0, _ => exact ⟨_, rfl⟩
      | 1, _ => exact ⟨_, rfl⟩
      | 2, _ => exact ⟨_, rfl⟩
    have o2 : sAsg (gN 3) (eIx (fz (eLst (aCons (fz (eBin .Sub (fz (eBin .Mod (fz (eIx (pVar 0) (fz (eBin .Add (pVar 1) (fz (eC (.int 1))))))) (fz (eC (.int 12))))) (fz (eC (.int 2))))) (aCons (fz (eBin .Sub (fz (eC (.int 0))) (fz (eBin .Pow (fz (eC (.int 10))) (fz (eC (.int 39))))))) (aCons (fz (eBin .Pow (fz (eC (.int 10))) (fz (eC (.int 39))))) (aNil)))))) (fz (eBin .Mod (fz (eIx (pVar 0) (fz (eBin .Add (pVar 1) (fz (eC (.int 2))))))) (fz (eC (.int 3)))))) ⟨[.im (.lst (ds.map nD)), .im (nD dep), .im (nD c), .un, .un, .un], O⟩ = .val .nxt ⟨[.im (.lst (ds.map nD)), .im (nD dep), .im (nD c), .im (.int n), .un, .un], O⟩ :=
      st_asg (er_ix (er_lst (ea_cons (ev_bin (ev_bin (ev_ix (ev_p rfl) (ev_bin (ev_p rfl) er_c.fz a1) e1) er_c.fz (m_lit x1 12 (by decide))) er_c.fz rfl) (ea_cons (ev_bin er_c.fz (ev_bin er_c.fz er_c.fz hpw2) rfl) (ea_cons (ev_bin er_c.fz er_c.fz hpw2) ea_nil))) (by simp)).fzo (ev_bin (ev_ix (ev_p rfl) (ev_bin (ev_p rfl) er_c.fz a2) e2) er_c.fz (m_lit x2 3 (by decide))) hn)
    generalize hw : (⟨[.im (.lst (ds.map nD)), .im (nD dep), .im (nD c), .im (.int n), .un, .un], O⟩ : W) = w at o2
    have g0 : w.ρ[0]? = some (.im (.lst (ds.map nD))) := by rw [← hw]; rfl
    have g1 : w.ρ[1]? = some (.im (nD dep)) := by rw [← hw]; rfl
    have g2 : w.ρ[2]? = some (.im (nD c)) := by rw [← hw]; rfl
    have g3 : w.ρ[3]? = some (.im (.int n)) := by rw [← hw]; rfl
    have gO : w.O = O := by rw [← hw]
    have t3 : tOrM (tV (fz (eCmp .Lt (pVar 2) (fz (eC (.int 4)))))) (tV (fz (eCmp .Gt (pVar 1) (fz (eC (.int 3)))))) w = .val (decide ((c : Int) < 4) || decide ((3 : Int) < dep)) w := t_or (ev_cmp (ev_p g2) er_c.fz (cmp_lt _ _)) (ev_cmp (ev_p g1) er_c.fz (cmp_gt _ _))
    by_cases h3 : (decide ((c : Int) < 4) || decide ((3 : Int) < dep)) = true
    · refine fin (.im (.int n)) ⟨w.ρ.set 3 .un, w.O⟩ ?_ gO (.int n) (fun z => nomatch z)
      rw [h3] at t3
      exact st_seq o1 (st_seq o2 (st_out t3 (st_retVi g3)))
    · rw [Bool.not_eq_true] at h3
      rw [h3] at t3
      have h3' := h3
      simp only [Bool.or_eq_false_iff, decide_eq_false_iff_not] at h3'
      obtain ⟨h31, h32⟩ := h3'
      have s3 : ∀ b : MS, sSeq (sIf (tOrM (tV (fz (eCmp .Lt (pVar 2) (fz (eC (.int 4)))))) (tV (fz (eCmp .Gt (pVar 1) (fz (eC (.int 3))))))) (sRetV 3) (sNx)) b w = b w := fun b => st_seq (st_if (k := false) t3 (fun z => nomatch z) fun _ => rfl) rfl
      -- a result that ends the body
      have out : ∀ (b : MS) (e : M Rv) (c2 : M Bool) (r : Rv), c2 w = .val true w → Er e w r → sSeq (sIf c2 (sRet e) sNx) b w = .val (.ret r) w := fun b e c2 r h1 h2 => st_out h1 (st_ret h2)
      have on : ∀ (b : MS) (e : M Rv) (c2 : M Bool), c2 w = .val false w → sSeq (sIf c2 (sRet e) sNx) b w = b w := fun b e c2 h1 => st_seq (st_if (k := false) h1 (fun z => nomatch z) fun _ => rfl) rfl
      have t7 : tV (fz (eCmp .Lt (pVar 2) (fz (eC (.int 7))))) w = .val (decide ((c : Int) < 7)) w := ev_cmp (ev_p g2) er_c.fz (cmp_lt _ _)
      have t9 : tV (fz (eCmp .Lt (pVar 2) (fz (eC (.int 9))))) w = .val (decide ((c : Int) < 9)) w := ev_cmp (ev_p g2) er_c.fz (cmp_lt _ _)
      by_cases h7 : (c : Int) < 7
      · rw [decide_eq_true h7] at t7
        have hs : bopD .Sub (nD c) (.int 4) = some (.im (nD (c - 4))) := by
          have : ((c : Int) - 4) = ((c - 4 : Nat) : Int) := by omega
          exact congrArg (fun z => some (Rv.im (D.int z))) this
        obtain ⟨y, hy, py⟩ := ix_pl (xs := [.bl true, .bl false, .non]) (by
          intro x hx
          simp only [List.mem_cons, List.not_mem_nil, or_false] at hx
          rcases hx with rfl | rfl | rfl
          · exact .bl _
          · exact .bl _
          · exact .non) (i := c - 4) (by show c - 4 < 3; omega)
        refine fin (.im y) w ?_ gO py (fun z => nomatch z)
        refine st_seq o1 (st_seq o2 ((s3 _).trans (out _ _ _ _ t7 ?_)))
        exact er_ix (er_lst (ea_cons er_c.fz (ea_cons er_c.fz (ea_cons er_c.fz ea_nil))) (by simp)).fzo (ev_bin (ev_p g2) er_c.fz hs) hy
      · rw [decide_eq_false h7] at t7
        by_cases h9 : (c : Int) < 9
        · rw [decide_eq_true h9] at t9
          obtain ⟨y, hy, py⟩ := ix_pl (xs := [.str "", .str "0", .str "a", .str "ax", .str "3", .str "none", .str "A", .str "~"]) (by
            intro x hx
            simp only [List.mem_cons, List.not_mem_nil, or_false] at hx
            rcases hx with rfl | rfl | rfl | rfl | rfl | rfl | rfl | rfl <;> exact pl_lit _) (i := x3 % 8) (by show x3 % 8 < 8; exact Nat.mod_lt _ (by omega))
          refine fin (.im y) w ?_ gO py (fun z => nomatch z)
          refine st_seq o1 (st_seq o2 ((s3 _).trans ((on _ _ _ t7).trans (out _ _ _ _ t9 ?_))))
          exact er_ix (er_lst (ea_cons er_c.fz (ea_cons er_c.fz (ea_cons er_c.fz (ea_cons er_c.fz (ea_cons er_c.fz (ea_cons er_c.fz (ea_cons er_c.fz (ea_cons er_c.fz ea_nil)))))))) (by simp)).fzo (ev_bin (ev_ix (ev_p g0) (ev_bin (ev_p g1) er_c.fz a3) e3) er_c.fz (m_lit x3 8 (by decide))) hy
        · rw [decide_eq_false h9] at t9
          -- the parts
          have hI : ∀ k : Nat, ∃ d : D, (∃ r, FN_law_any_value fuel [.lst ((ds.drop k ++ ds.take k).map nD), nD (dep + 1)] O = .val r O ∧ r.fz = d ∧ r ≠ .un) ∧ Pl d := fun k => by
            have hlen : (ds.drop k ++ ds.take k).length = ds.length := by rw [List.length_append, List.length_drop, List.length_take]; omega
            obtain ⟨r, h1, h2, h3⟩ := any_ok fuel (ds.drop k ++ ds.take k) (dep + 1) O (by omega) (by omega) (by omega) (by omega)
            exact ⟨r.fz, ⟨r, h1, rfl, h3⟩, h2⟩
          obtain ⟨f, hf⟩ := Classical.axiomOfChoice hI
          have hm : x4 % 4 < 4 := Nat.mod_lt _ (by omega)
          have hpl : ∀ x ∈ (List.range (x4 % 4)).map f, Pl x := fun x hx => by
            obtain ⟨k, _, rfl⟩ := List.mem_map.mp hx
            exact (hf k).2
          have hpn : ((List.range (x4 % 4)).map f).length ≤ 1000 := by rw [List.length_map, List.length_range]; omega
          have elc : Er (eLc [5] [0, 1] (iRg1 (aCons (fz (eBin .Mod (fz (eIx (pVar 0) (fz (eBin .Add (pVar 1) (fz (eC (.int 4))))))) (fz (eC (.int 4))))) (aNil))) (gN 5) (tYesM) (fz (eCall0 (FN_law_any_value fuel) (aCons (fz (eBin .Add (fz (eSl (pVar 0) (oSo (pVar 5)) (oNo))) (fz (eSl (pVar 0) (oNo) (oSo (pVar 5)))))) (aCons (fz (eBin .Add (pVar 1) (fz (eC (.int 1))))) (aNil)))))) w (.ow ((List.range (x4 % 4)).map f)) := by
            refine er_lc (it_rg1 (ea_cons (ev_bin (ev_ix (ev_p g0) (ev_bin (ev_p g1) er_c.fz a4) e4) er_c.fz (m_lit x4 4 (by decide))) ea_nil) (rg1_n (x4 % 4) (by omega))) (by rw [← hw]; rfl) ?_
            rw [← hw]
            refine lcL_all nD f (List.range (x4 % 4)) (by rw [List.length_range]; omega) fun k _ => ?_
            obtain ⟨⟨r, h1, h2, h3⟩, _⟩ := hf k
            refine ⟨⟨[.im (.lst (ds.map nD)), .im (nD dep), .im (nD c), .im (.int n), .un, .im (nD k)], O⟩, rfl, rfl, ?_⟩
            rw [← h2]
            have s1 : slD (.lst (ds.map nD)) (some (k : Int)) none = some (.ow ((ds.drop k).map nD)) := by rw [slD_lst, cut_map, cut_d]
            have s2 : slD (.lst (ds.map nD)) none (some (k : Int)) = some (.ow ((ds.take k).map nD)) := by rw [slD_lst, cut_map, cut_n]
            have s3 : bopD .Add (.lst ((ds.drop k).map nD)) (.lst ((ds.take k).map nD)) = some (.ow ((ds.drop k ++ ds.take k).map nD)) := by
              rw [List.map_append]
              exact add_lst _ _ (by rw [List.length_map, List.length_map, List.length_drop, List.length_take]; omega)
            exact (er_call (ea_cons (er_bin (er_sl (ev_p rfl) (o_so (ev_p rfl)) o_no s1).fzo (er_sl (ev_p rfl) o_no (o_so (ev_p rfl)) s2).fzo s3).fzo (ea_cons (ev_bin (ev_p rfl) er_c.fz (a_lit dep 1)) ea_nil)) h1).fzr
          have o4 := st_asg (i := 4) elc
          have hq : cmpD .Eq (nD c) (.int 9) = some (decide ((c : Int) = 9)) := by rw [cmp_eq _ _ (eqOk_int _) (eqOk_int _), eqD_int]
          generalize hF : (List.range (x4 % 4)).map f = F at *
          have k2 : (⟨w.ρ.set 4 (.ow F), w.O⟩ : W).ρ[2]? = some (.im (nD c)) := by rw [← hw]; rfl
          have k4 : (⟨w.ρ.set 4 (.ow F), w.O⟩ : W).ρ[4]? = some (.ow F) := by rw [← hw]; rfl
          by_cases hc9 : (c : Int) = 9
          · refine fin (.im (.lst F)) ⟨(w.ρ.set 4 (.ow F)).set 4 (.im (.lst F)), w.O⟩ ?_ gO (.lst F hpl hpn) (fun z => nomatch z)
            refine st_seq o1 (st_seq o2 ((s3 _).trans ((on _ _ _ t7).trans ((on _ _ _ t9).trans (st_seq o4 ?_)))))
            have hcm := ev_cmp (w := ⟨w.ρ.set 4 (.ow F), w.O⟩) (ev_p k2) er_c.fz hq
            rw [decide_eq_true hc9] at hcm
            rw [sRet_ap, bnd_ap, eIf_ap, bnd_ap, hcm]
            dsimp only
            rw [if_pos rfl, eVar_ap, k4]; rfl
          · refine fin (.im (.tup F)) ⟨w.ρ.set 4 (.ow F), w.O⟩ ?_ gO (.tup F hpl hpn) (fun z => nomatch z)
            refine st_seq o1 (st_seq o2 ((s3 _).trans ((on _ _ _ t7).trans ((on _ _ _ t9).trans (st_seq o4 (st_ret ?_))))))
            exact er_if (ev_cmp (ev_p k2) er_c.fz hq) (fun h => absurd (of_decide_eq_true h) hc9) fun _ => er_fn (ea_cons (ev_po k4) ea_nil) rfl
theorem any_value_ok (ds : List Nat) (O : List Rec) (h : 9 ≤ ds.length) (h2 : ds.length ≤ 1000) : ∃ r, F_law_any_value [.lst (ds.map nD), .int 0] O = .val r O ∧ Pl r.fz ∧ r ≠ .un := any_ok 8 ds 0 O h h2 (by omega) (by omega)
end DL
end
section
set_option Elab.async false
set_option linter.all false
set_option maxRecDepth 100000
set_option maxHeartbeats 400000
/-! DMl: the law's own gaps; find, count. -/
namespace DL
open PySem L2
local macro_rules | `(tactic| walk_at "ev") => `(tactic| simp -implicitDefEqProofs (disch := first | with_reducible assumption | (simp; done) | omega | (simp; omega)))

/-- leading free seats -/
def lead : List Bool → Nat
  | true :: l => lead l + 1
  | _ => 0
def lgo (i : Nat) (pd : Bool) : List Bool → List (Nat × Nat)
  | [] => []
  | b :: l => (if b && !pd then [(i, lead (b :: l))] else []) ++ lgo (i + 1) b l
theorem gapsB_lgo : ∀ (l : List Bool) (i : Nat), gapsB i none (l ++ [false]) = lgo i false l ∧ ∀ a, a ≤ i → gapsB i (some a) (l ++ [false]) = (a, i - a + lead l) :: lgo i true l
  | [], i => ⟨rfl, fun a _ => rfl⟩
  | true :: l, i => by
    obtain ⟨h1, h2⟩ := gapsB_lgo l (i + 1)
    refine ⟨?_, fun a ha => ?_⟩
    · show gapsB (i + 1) (some i) (l ++ [false]) = _
      rw [h2 i (by omega)]
      show (i, i + 1 - i + lead l) :: _ = (i, lead l + 1) :: _
      rw [show i + 1 - i + lead l = lead l + 1 by omega]; rfl
    · show gapsB (i + 1) (some a) (l ++ [false]) = _
      rw [h2 a (by omega)]
      show (a, i + 1 - a + lead l) :: _ = (a, i - a + (lead l + 1)) :: _
      rw [show i + 1 - a + lead l = i - a + (lead l + 1) by omega]; rfl
  | false :: l, i => by
    obtain ⟨h1, h2⟩ := gapsB_lgo l (i + 1)
    refine ⟨?_, fun a ha => ?_⟩
    · show gapsB (i + 1) none (l ++ [false]) = _
      rw [h1]; rfl
    · show (a, i - a) :: gapsB (i + 1) none (l ++ [false]) = _
      rw [h1]; rfl
theorem gapsL_lgo (r : List Bool) : gapsL r = lgo 0 false r := (gapsB_lgo r 0).1
theorem lead_le : ∀ l : List Bool, lead l ≤ l.length
  | [] => Nat.le_refl _
  | true :: l => by have := lead_le l; show lead l + 1 ≤ l.length + 1; omega
  | false :: l => Nat.zero_le _
theorem lgo_sum : ∀ (l : List Bool) (i : Nat) (pd : Bool), ((lgo i pd l).map (·.2)).sum + (if pd then lead l else 0) = l.count true
  | [], i, pd => by cases pd <;> rfl
  | b :: l, i, pd => by
    have ih := lgo_sum l (i + 1) b
    rw [lgo, List.map_append, List.sum_append]
    cases b <;> cases pd <;> simp [lead] at ih ⊢ <;> omega
theorem lgo_len (l : List Bool) : ∀ (i : Nat) (pd : Bool), (lgo i pd l).length ≤ l.length := by
  induction l with
  | nil => intro i pd; exact Nat.le_refl _
  | cons b l ih =>
    intro i pd
    rw [lgo, List.length_append, List.length_cons]
    have := ih (i + 1) b
    split <;> simp <;> omega
/-! ### texts -/
theorem at_sign (r : List Bool) (b : Bool) (i : Nat) : StrLaws.At (rS r) (rS [b]) (rS r).length i ↔ r[i]? = some b := by
  have e : rS [b] = ⟨#[sg b]⟩ := rfl
  unfold StrLaws.At
  rw [e, StrLaws.subAt_one, rS_cps, List.getElem?_map]
  constructor
  · intro h
    obtain ⟨c, h1, h2⟩ := Option.map_eq_some_iff.mp h
    rw [h1, sg_inj h2]
  · intro h; rw [h]; rfl
theorem lead_get : ∀ (l : List Bool), (l ++ [false])[lead l]? = some false ∧ ∀ k, k < lead l → (l ++ [false])[k]? = some true
  | [] => ⟨rfl, fun k h => absurd h (Nat.not_lt_zero _)⟩
  | true :: l => by
    obtain ⟨h1, h2⟩ := lead_get l
    refine ⟨by simpa [lead] using h1, fun k hk => ?_⟩
    cases k with
    | zero => rfl
    | succ k => simpa using h2 k (by simpa [lead] using hk)
  | false :: l => ⟨rfl, fun k h => absurd h (Nat.not_lt_zero _)⟩
theorem find_lead (l : List Bool) : Txt.find (rS (l ++ [false])) (rS [false]) = (lead l : Int) := by
  obtain ⟨h1, h2⟩ := lead_get l
  unfold Txt.find
  rcases StrLaws.occ_head (rS (l ++ [false])) (rS [false]) 1 (by omega) with ⟨e, hn⟩ | ⟨i, rest, e, ha, hk⟩
  · exact absurd ((at_sign _ _ _).mpr h1) (hn _)
  · rw [e]
    rw [at_sign] at ha
    have : i = lead l := by
      rcases Nat.lt_trichotomy i (lead l) with h | h | h
      · rw [h2 i h] at ha; cases ha
      · exact h
      · exact absurd ((at_sign _ _ _).mpr h1) (hk _ h)
    show ((i : Nat) : Int) = _
    rw [this]
theorem occ_count (cs : List Nat) (x : Str) (hx : x.cps.toList = cs) (c limit : Nat) : ∀ (k i : Nat) (acc : Array Nat) (free : Nat), free ≤ i → acc.size + k ≤ limit →
    (forIn (List.range' i k) (acc, free) (StrLaws.occBody x ⟨#[c]⟩ x.length limit)).run.fst.toList.length = acc.size + ((List.range' i k).filter fun j => decide (cs[j]? = some c)).length
  | 0, i, acc, free, _, _ => by simp
  | k + 1, i, acc, free, h1, h2 => by
    rw [List.range'_succ, List.forIn_cons, List.filter_cons]
    have key := StrLaws.subAt_one x c i
    rw [hx] at key
    by_cases hc : cs[i]? = some c
    · have hk := key.mpr hc
      have hb : StrLaws.occBody x ⟨#[c]⟩ x.length limit i (acc, free) = pure (ForInStep.yield (acc.push i, i + 1)) := by
        unfold StrLaws.occBody
        rw [if_pos ⟨⟨⟨by show acc.size < limit; omega, h1⟩, hk.1⟩, hk.2⟩]; rfl
      have ih := occ_count cs x hx c limit k (i + 1) (acc.push i) (i + 1) (Nat.le_refl _) (by rw [Array.size_push]; omega)
      rw [Array.size_push] at ih
      rw [if_pos (decide_eq_true hc), List.length_cons, hb]
      simp only [pure_bind]
      omega
    · have hk : ¬ ((((acc, free).fst.size < limit ∧ (acc, free).snd ≤ i) ∧ i + (⟨#[c]⟩ : Str).length ≤ x.length) ∧ Builtin.Str.subAt x ⟨#[c]⟩ i = true) := fun h => hc (key.mp ⟨h.1.2, h.2⟩)
      have hb : StrLaws.occBody x ⟨#[c]⟩ x.length limit i (acc, free) = pure (ForInStep.yield (acc, free)) := by
        unfold StrLaws.occBody
        rw [if_neg hk]
      have ih := occ_count cs x hx c limit k (i + 1) acc free (by omega) (by omega)
      rw [if_neg (by simpa using hc), hb]
      simp only [pure_bind]
      exact ih
theorem filter_count (c : Nat) (pre : List Nat) : ∀ (cs : List Nat), ((List.range' pre.length (cs.length + 1)).filter fun j => decide ((pre ++ cs)[j]? = some c)).length = cs.count c := by
  intro cs
  induction cs generalizing pre with
  | nil =>
    rw [List.append_nil]
    show ((List.range' pre.length 1).filter _).length = 0
    rw [List.range'_one, List.filter_cons, List.getElem?_eq_none (Nat.le_refl _)]; rfl
  | cons a cs ih =>
    rw [List.length_cons, List.range'_succ, List.filter_cons]
    have h := ih (pre ++ [a])
    rw [List.length_append, List.length_singleton, List.append_assoc, List.singleton_append] at h
    have e : (pre ++ a :: cs)[pre.length]? = some a := by rw [List.getElem?_append_right (Nat.le_refl _), Nat.sub_self]; rfl
    rw [e, List.count_cons]
    by_cases q : a = c
    · subst q
      rw [if_pos (by simp), List.length_cons, h]; simp
    · rw [if_neg (by simpa using q), h]; simp [q]
theorem count_row (r : List Bool) (b : Bool) : Txt.count (rS r) (rS [b]) = (r.count b : Int) := by
  have hc : ∀ l : List Bool, (l.map sg).count (sg b) = l.count b := fun l => by
    induction l with
    | nil => rfl
    | cons a l ih =>
      rw [List.map_cons, List.count_cons, List.count_cons, ih]
      cases a <;> cases b <;> rfl
  unfold Txt.count
  have e : rS [b] = ⟨#[sg b]⟩ := rfl
  rw [e, StrLaws.occ_eq]
  have h := occ_count (r.map sg) (rS r) (rS_cps r) (sg b) ((rS r).length + 1) ((rS r).length + 1) 0 #[] 0 (Nat.le_refl _) (by simp)
  rw [Nat.sub_zero, h]
  have h2 := filter_count (sg b) [] (r.map sg)
  rw [List.nil_append, List.length_map] at h2
  rw [rS_len]
  show ((0 + ((List.range' 0 (r.length + 1)).filter fun j => decide ((r.map sg)[j]? = some (sg b))).length : Nat) : Int) = _
  rw [Nat.zero_add]
  have h3 : ((List.range' 0 (r.length + 1)).filter fun j => decide ((r.map sg)[j]? = some (sg b))).length = r.count b := by rw [← hc]; exact h2
  rw [h3]
/-! ### the law's gaps -/
theorem turn_gap (r : List Bool) (i : Nat) (fs : List (Nat × Nat)) (q2 : Rv) (O : List Rec) (hi : i < r.length) (hr : r.length ≤ 900) (hf : fs.length ≤ 1000) :
    turn (gN 2) B_law_gaps_1 (nD i) ⟨[.im (.str (rS r)), .ow (fs.map pD), q2], O⟩ = .val .nxt ⟨[.im (.str (rS r)), .ow ((fs ++ (if r[i] && !(decide (0 < i) && (r[i - 1]?).getD false) then [(i, lead (r.drop i))] else [])).map pD), .im (nD i)], O⟩ := by
  refine (turn_gN _ _ _ _).trans ?_
  show B_law_gaps_1 ⟨[.im (.str (rS r)), .ow (fs.map pD), .im (nD i)], O⟩ = _
  unfold B_law_gaps_1
  have h0 : ixD (.str (rS r)) (nD i) = some (.str (rS [r[i]])) := by rw [ix_row _ _ (by omega), atI_n, List.getElem?_eq_getElem hi]; rfl
  have c0 : cmpD .Eq (.str (rS [r[i]])) (.str (Str.ofString ".")) = some r[i] := by
    rw [s_dot, cmp_eq _ _ (eqOk_row _) (eqOk_row _), eqD_sign]; cases r[i] <;> rfl
  have c1 : cmpD .Eq (nD i) (.int 0) = some (decide (i = 0)) := by
    rw [cmp_eq _ _ (eqOk_int _) (eqOk_int _), eqD_int]; congr 1; exact decide_eq_decide.mpr (by omega)
  refine st_if (k := r[i] && (decide (i = 0) || !(r[i - 1]?).getD false)) ?_ (fun h => ?_) fun h => ?_
  · refine t_and (ev_cmp (ev_ix (ev_p rfl) (ev_p rfl) h0) er_c.fz c0) (t_orl (ev_cmp (ev_p rfl) er_c.fz c1) fun hz => ?_)
    have hz' : i ≠ 0 := of_decide_eq_false hz
    have hlt : i - 1 < r.length := by omega
    have h1 : ixD (.str (rS r)) (nD (i - 1)) = some (.str (rS [r[i - 1]])) := by rw [ix_row _ _ (by omega), atI_n, List.getElem?_eq_getElem hlt]; rfl
    have hs : bopD .Sub (nD i) (.int 1) = some (.im (nD (i - 1))) := by
      have : ((i : Int) - 1) = ((i - 1 : Nat) : Int) := by omega
      exact congrArg (fun z => some (Rv.im (D.int z))) this
    have c2 : cmpD .Eq (.str (rS [r[i - 1]])) (.str (Str.ofString "x")) = some (!r[i - 1]) := by
      rw [s_x, cmp_eq _ _ (eqOk_row _) (eqOk_row _), eqD_sign]; cases r[i - 1] <;> rfl
    rw [List.getElem?_eq_getElem hlt]
    exact ev_cmp (ev_ix (ev_p rfl) (ev_bin (ev_p rfl) er_c.fz hs) h1) er_c.fz c2
  · have e9 : (if r[i] && !(decide (0 < i) && (r[i - 1]?).getD false) then [(i, lead (r.drop i))] else []) = [(i, lead (r.drop i))] := by
      rw [if_pos]
      rw [Bool.and_eq_true] at h
      rw [h.1, Bool.true_and]
      by_cases hz : i = 0
      · subst hz; rfl
      · have : (!(r[i - 1]?).getD false) = true := by simpa [hz] using h.2
        cases q : (r[i - 1]?).getD false with
        | true => rw [q] at this; cases this
        | false => simp
    rw [e9, List.map_append]
    have s1 : slD (.str (rS r)) (some (i : Int)) none = some (.im (.str (rS (r.drop i)))) := by rw [slD_row _ (by omega), cut_d]
    have s2 : bopD .Add (.str (rS (r.drop i))) (.str (Str.ofString "x")) = some (.im (.str (rS (r.drop i ++ [false])))) := by
      rw [s_x]; exact add_row _ _ (by rw [List.length_drop]; simp; omega)
    have s3 : findD (rS (r.drop i ++ [false])) (.str (Str.ofString "x")) = some (.im (nD (lead (r.drop i)))) := by
      rw [s_x]
      show some (Rv.im (.int (Txt.find _ _))) = _
      rw [find_lead]
    exact st_app (er_tup (ea_cons (er_v rfl).fz (ea_cons (er_mt (ev_bin (er_sl (ev_p rfl) (o_so (ev_p rfl)) o_no s1).fz er_c.fz s2) er_c.fz s3).fz ea_nil)) (by simp)).fz rfl (by rw [List.length_map]; omega)
  · have e9 : (if r[i] && !(decide (0 < i) && (r[i - 1]?).getD false) then [(i, lead (r.drop i))] else []) = [] := by
      rw [if_neg]
      intro q
      rw [Bool.and_eq_true] at q
      rw [q.1, Bool.true_and] at h
      by_cases hz : i = 0
      · rw [decide_eq_true hz] at h; cases h
      · rw [decide_eq_false hz, Bool.false_or] at h
        have q2 := q.2
        rw [decide_eq_true (by omega : 0 < i), Bool.true_and, h] at q2
        cases q2
    rw [e9, List.append_nil]; rfl
theorem law_gaps_ok (r : List Bool) (O : List Rec) (h : r.length ≤ 900) : F_law_gaps [.str (rS r)] O = .val (.ow ((gapsL r).map pD)) O := by
  have hst : (⟨[D.str (rS r)].map Rv.im ++ List.replicate (3 - [D.str (rS r)].length) .un, O⟩ : W) = ⟨[.im (.str (rS r)), .un, .un], O⟩ := rfl
  have hL := lgo_len r 0 false
  obtain ⟨w1, e1, fs, q2, rfl, hf⟩ := forL_rng (g := gN 2) (b := B_law_gaps_1) nD (fun j w => ∃ (fs : List (Nat × Nat)) (q2 : Rv), w = ⟨[.im (.str (rS r)), .ow (fs.map pD), q2], O⟩ ∧ fs ++ lgo j (decide (0 < j) && (r[j - 1]?).getD false) (r.drop j) = lgo 0 false r) r.length ⟨[.im (.str (rS r)), .ow [], .un], O⟩ ⟨[], .un, rfl, rfl⟩ (by
    rintro j w hj ⟨fs, q2, rfl, hf⟩
    have hfl : fs.length ≤ 1000 := by
      have := congrArg List.length hf
      rw [List.length_append] at this
      omega
    refine ⟨_, turn_gap r j fs q2 O hj h hfl, _, _, rfl, ?_⟩
    rw [← hf, List.append_assoc]
    congr 1
    have hd : r.drop j = r[j] :: r.drop (j + 1) := List.drop_eq_getElem_cons hj
    conv => rhs; rw [hd, lgo, ← hd]
    congr 2
    rw [decide_eq_true (Nat.succ_pos j), Bool.true_and, Nat.add_sub_cancel, List.getElem?_eq_getElem hj]; rfl)
  rw [List.drop_length, lgo, List.append_nil] at hf
  have hb : B_law_gaps ⟨[.im (.str (rS r)), .un, .un], O⟩ = .val (.ret (.ow ((gapsL r).map pD))) ⟨[.im (.str (rS r)), .un, q2], O⟩ := by
    unfold B_law_gaps
    rw [gapsL_lgo, ← hf]
    refine st_seq (w1 := ⟨[.im (.str (rS r)), .ow [], .un], O⟩) rfl ?_
    refine st_seq (st_for (it_rg1 (ea_cons (er_fn (ea_cons (ev_p rfl) ea_nil) (fLen_row r (by omega))).fz ea_nil) (rg1_n r.length (by omega))) e1) ?_
    rw [st_retV rfl]; rfl
  unfold F_law_gaps
  rw [defF_ap, if_pos (show [D.str (rS r)].length = 1 from rfl), runB_ap, hst, hb]
end DL
end
section
set_option Elab.async false
set_option linter.all false
set_option maxRecDepth 100000
set_option maxHeartbeats 400000
/-! DNa: rules of evaluation where the state changes; records of halls. -/
namespace DL
open PySem L2
section
variable {α β : Type} {w w1 w2 w3 : W} {O' : List Rec}
theorem bnd_v {m : M α} {k : α → M β} {a : α} {o : Out W β} (h : m w = .val a w1) (h2 : k a w1 = o) : M.bnd m k w = o := by rw [bnd_ap, h]; exact h2
theorem fz_v {f : M Rv} {r : Rv} (h : f w = .val r w1) : fz f w = .val r.fz w1 := by rw [fz_ap, bnd_ap, h]; rfl
theorem drop_v {f : M Rv} {r : Rv} (h : f w = .val r w1) : sDrop f w = .val .nxt w1 := bnd_v h rfl
theorem asg_v {f : M Rv} {r : Rv} {i : Nat} (h : f w = .val r w1) : sAsg (gN i) f w = .val .nxt ⟨w1.ρ.set i r, w1.O⟩ := bnd_v h rfl
theorem ret_v {f : M Rv} {r : Rv} (h : f w = .val r w1) : sRet f w = .val (.ret r) w1 := bnd_v h rfl
theorem acons_v {a : M D} {r : M (List D)} {d : D} {ds : List D} (h : a w = .val d w1) (h2 : r w1 = .val ds w2) : aCons a r w = .val (d :: ds) w2 := bnd_v h (bnd_v h2 rfl)
theorem tup_v {a : M (List D)} {ds : List D} (h : a w = .val ds w1) (hl : ds.length ≤ 1000) : eTup a w = .val (.im (.tup ds)) w1 := by
  refine bnd_v h ?_
  show (if okLen ds.length then M.ret (Rv.im (.tup ds)) else M.opt none) w1 = _
  rw [okLen_of (by omega), if_pos rfl]; rfl
theorem lst_v {a : M (List D)} {ds : List D} (h : a w = .val ds w1) (hl : ds.length ≤ 1000) : eLst a w = .val (.ow ds) w1 := by
  refine bnd_v h ?_
  show (if okLen ds.length then M.ret (Rv.ow ds) else M.opt none) w1 = _
  rw [okLen_of (by omega), if_pos rfl]; rfl
theorem bin_v {op : Operator} {a b : M D} {x y : D} {r : Rv} (ha : a w = .val x w1) (hb : b w1 = .val y w2) (h : bopD op x y = some r) : eBin op a b w = .val r w2 := by
  refine bnd_v ha (bnd_v hb ?_)
  show M.opt (bopD op x y) w2 = _
  rw [h]; rfl
theorem cmp_v {op : CmpOp} {a b : M D} {x y : D} {k : Bool} (ha : a w = .val x w1) (hb : b w1 = .val y w2) (h : cmpD op x y = some k) : eCmp op a b w = .val (.im (.bl k)) w2 := by
  refine bnd_v ha (bnd_v hb ?_)
  show M.opt ((cmpD op x y).map _) w2 = _
  rw [h]; rfl
theorem ix_v {a b : M D} {x y d : D} (ha : a w = .val x w1) (hb : b w1 = .val y w2) (h : ixD x y = some d) : eIx a b w = .val (.im d) w2 := by
  refine bnd_v ha (bnd_v hb ?_)
  show M.opt ((ixD x y).map _) w2 = _
  rw [h]; rfl
theorem tv_v {a : M D} {k : Bool} (h : a w = .val (.bl k) w1) : tV a w = .val k w1 := bnd_v h rfl
theorem call_v {F : Fn} {a : M (List D)} {ds : List D} {r : Rv} (h : a w = .val ds w1) (hF : F ds w1.O = .val r O') : eCall0 F a w = .val r { w1 with O := O' } := by
  refine bnd_v h ?_
  show liftF0 F ds w1 = _
  rw [liftF0_ap, hF]
theorem and_v {a b : M Rv} {k k2 : Bool} (h : tV (fz a) w = .val k w1) (h2 : k = true → b w1 = .val (.im (.bl k2)) w2) (h3 : k = false → w2 = w1) : eAnd a b w = .val (.im (.bl (k && k2))) w2 := by
  refine bnd_v h ?_
  cases k with
  | true => exact h2 rfl
  | false => rw [h3 rfl]; rfl
theorem not_v {a : M Rv} {k : Bool} (h : tV (fz a) w = .val k w1) : eNot a w = .val (.im (.bl (!k))) w1 := bnd_v h rfl
theorem tnot_v {a : M Bool} {k : Bool} (h : a w = .val k w1) : tNotM a w = .val (!k) w1 := bnd_v h rfl
theorem tor_v {a b : M Bool} {k k2 : Bool} (h : a w = .val k w1) (h2 : k = false → b w1 = .val k2 w2) (h3 : k = true → w2 = w1) : tOrM a b w = .val (k || k2) w2 := by
  refine bnd_v h ?_
  cases k with
  | true => rw [h3 rfl]; rfl
  | false => exact h2 rfl
theorem tand_v {a b : M Bool} {k k2 : Bool} (h : a w = .val k w1) (h2 : k = true → b w1 = .val k2 w2) (h3 : k = false → w2 = w1) : tAndM a b w = .val (k && k2) w2 := by
  refine bnd_v h ?_
  cases k with
  | true => exact h2 rfl
  | false => rw [h3 rfl]; rfl
theorem out_v {c : M Bool} {a b s : MS} {r : Rv} (h : c w = .val true w1) (h2 : a w1 = .val (.ret r) w2) : sSeq (sIf c a b) s w = .val (.ret r) w2 := bnd_v (bnd_v h h2) rfl
theorem on_v {c : M Bool} {a s : MS} (h : c w = .val false w1) : sSeq (sIf c a sNx) s w = s w1 := bnd_v (bnd_v h rfl) rfl
/-! ### objects -/
variable {cs : List Str} {f m c : Str} {k : Nat} {r : Rec} {d : D} {v : Rv} {L : List (Str × Fn)} {F : Fn} {ds : List D}
theorem recO_of (h : w.O[k]? = some r) : recO w.O (.obj k) = some (k, r) := by
  show (w.O[k]?).map _ = _
  rw [h]; rfl
theorem fld_v {a : M D} (ha : a w = .val (.obj k) w1) (hk : w1.O[k]? = some r) (hc : cs.contains r.c = true) (hf : r.fs.lookup f = some d) : eFld cs f a w = .val (.im d) w1 := by
  refine bnd_v ha (bnd_v (a := d) (w1 := w1) ?_ rfl)
  unfold getO
  rw [recO_of hk]
  simp only [hc, if_true, hf]
theorem putO_v (hk : w.O[k]? = some r) (hc : cs.contains r.c = true) (hl : r.fs.length < 1000) : putO cs f (.obj k) d w = .val () { w with O := w.O.set k ⟨r.c, putD f d r.fs⟩ } := by
  unfold putO
  rw [recO_of hk]
  simp only [hc, Bool.true_and, decide_eq_true hl, if_true]
theorem sfld_v {e a : M D} (he : e w = .val d w1) (ha : a w1 = .val (.obj k) w2) (hk : w2.O[k]? = some r) (hc : cs.contains r.c = true) (hl : r.fs.length < 1000) : sFldD cs f e a w = .val .nxt { w2 with O := w2.O.set k ⟨r.c, putD f d r.fs⟩ } :=
  bnd_v he (bnd_v ha (bnd_v (putO_v hk hc hl) rfl))
theorem gfl_v {a : M D} (ha : a w = .val (.obj k) w) (hk : w.O[k]? = some r) (hc : cs.contains r.c = true) (hl : r.fs.length < 1000) : gFld cs f a (.im d) w = .val () { w with O := w.O.set k ⟨r.c, putD f d r.fs⟩ } := bnd_v ha (putO_v hk hc hl)
theorem faug_v {op : Operator} {a e : M D} {x y d : D} (ha : a w = .val (.obj k) w1) (hk : w1.O[k]? = some r) (hc : cs.contains r.c = true) (hf : r.fs.lookup f = some x) (hl : r.fs.length < 1000) (he : e w1 = .val y w1) (h : augD op x y = some (.im d)) :
    DL.sFldAug cs f op a e w = .val .nxt { w1 with O := w1.O.set k ⟨r.c, putD f d r.fs⟩ } := by
  refine bnd_v ha (bnd_v (a := x) (w1 := w1) ?_ (bnd_v he (bnd_v (a := d) (w1 := w1) ?_ (bnd_v (putO_v hk hc hl) rfl))))
  · unfold getO
    rw [recO_of hk]
    simp only [hc, if_true, hf]
  · rw [h]; rfl
theorem meth_v {o : M D} {a : M (List D)} (ho : o w = .val (.obj k) w1) (hk : w1.O[k]? = some r) (hn : (r.fs.lookup m).isNone = true) (hL : L.lookup r.c = some F) (ha : a w1 = .val ds w2) (hF : F (.obj k :: ds) w2.O = .val v O') :
    eMth L m o a w = .val v { w2 with O := O' } := by
  refine bnd_v ho (bnd_v (a := F) (w1 := w1) ?_ (bnd_v ha ?_))
  · unfold pick
    rw [recO_of hk]
    simp only [hn, if_true, hL]
  · rw [liftF0_ap, hF]
theorem prop_v {o : M D} (ho : o w = .val (.obj k) w1) (hk : w1.O[k]? = some r) (hL : L.lookup r.c = some F) (hF : F [.obj k] w1.O = .val v O') : eProp L o w = .val v { w1 with O := O' } := by
  refine bnd_v ho ?_
  show (match recO w1.O (.obj k) with | some (_, r) => (match L.lookup r.c with | some F => liftF0 F [.obj k] w1 | none => .bad) | none => .bad) = _
  rw [recO_of hk]
  simp only [hL]
  rw [liftF0_ap, hF]
theorem make_v {a : M (List D)} (ha : a w = .val ds w1) (hF : F (.obj w1.O.length :: ds) (w1.O ++ [⟨c, []⟩]) = .val (.im .non) O') : eMake c F a w = .val (.im (.obj w1.O.length)) { w1 with O := O' } := by
  refine bnd_v ha ?_
  unfold makeO
  rw [hF]
theorem makev_v {o a : M D} {y : D} (ho : o w = .val (.cls c) w1) (hL : L.lookup c = some F) (ha : a w1 = .val y w2) (hs : seqD y = some ds) (hF : F (.obj w2.O.length :: ds) (w2.O ++ [⟨c, []⟩]) = .val (.im .non) O') :
    eMakeV L o a w = .val (.im (.obj w2.O.length)) { w2 with O := O' } := by
  refine bnd_v ho (bnd_v (a := (c, F)) (w1 := w1) ?_ (bnd_v ha (bnd_v (a := ds) (w1 := w2) ?_ ?_)))
  · unfold pickC
    simp only [hL]; rfl
  · rw [hs]; rfl
  · unfold makeO
    simp only [hF]
theorem cmth_v {a : M (List D)} (ha : a w = .val ds w1) (hF : F (.cls c :: ds) w1.O = .val v O') : eCMth c F a w = .val v { w1 with O := O' } := by
  refine bnd_v ha ?_
  rw [liftF0_ap, hF]
theorem isc_v {T : List (Str × Bool)} {a : M D} {b : Bool} (ha : a w = .val d w1) (h : isC T w1.O d = some b) : eIsC T a w = .val (.im (.bl b)) w1 := by
  refine bnd_v ha ?_
  simp only [h]
theorem eqo_v {S : List (Str × Str)} {a b : M D} {x y : D} (ha : a w = .val x w1) (hb : b w1 = .val y w2) (h : eqO L S x y w2 = .val v w3) : eEqO L S a b w = .val v w3 := bnd_v ha (bnd_v hb h)
end
theorem b_lst' (a b : List D) (h : a.length + b.length ≤ 16777216) : bopD .Add (.lst a) (.lst b) = some (.ow (a ++ b)) := add_lst a b h
theorem b_tup' (a b : List D) (h : a.length + b.length ≤ 16777216) : bopD .Add (.tup a) (.tup b) = some (.im (.tup (a ++ b))) := add_tup a b h
/-! ### records of halls -/
def hfs (l b n e : D) : List (Str × D) := [("lines", l), ("book_list", b), ("next_number", n), ("earlier", e)]
theorem ne_lb : (("lines" : Str) == "book_list") = false ∧ (("lines" : Str) == "next_number") = false ∧ (("lines" : Str) == "earlier") = false ∧ (("book_list" : Str) == "lines") = false ∧ (("book_list" : Str) == "next_number") = false ∧ (("book_list" : Str) == "earlier") = false ∧ (("next_number" : Str) == "lines") = false ∧ (("next_number" : Str) == "book_list") = false ∧ (("next_number" : Str) == "earlier") = false ∧ (("earlier" : Str) == "lines") = false ∧ (("earlier" : Str) == "book_list") = false ∧ (("earlier" : Str) == "next_number") = false := by decide +kernel
section
variable (l b n e d : D)
theorem lk_l : (hfs l b n e).lookup ("lines" : Str) = some l := by
  simp only [hfs, List.lookup, beq_self_eq_true]
theorem lk_b : (hfs l b n e).lookup ("book_list" : Str) = some b := by
  simp only [hfs, List.lookup, beq_self_eq_true, ne_lb.2.2.2.1]
theorem lk_n : (hfs l b n e).lookup ("next_number" : Str) = some n := by
  obtain ⟨_, _, _, _, _, _, h1, h2, _⟩ := ne_lb
  simp only [hfs, List.lookup, beq_self_eq_true, h1, h2]
theorem lk_e : (hfs l b n e).lookup ("earlier" : Str) = some e := by
  obtain ⟨_, _, _, _, _, _, _, _, _, h1, h2, h3⟩ := ne_lb
  simp only [hfs, List.lookup, beq_self_eq_true, h1, h2, h3]
theorem lk_no {m : Str} (h : (m == "lines" || m == "book_list" || m == "next_number" || m == "earlier") = false) : ((hfs l b n e).lookup m).isNone = true := by
  simp only [Bool.or_eq_false_iff] at h
  simp only [hfs, List.lookup, h]
  rfl
theorem bne' {x y : Str} (h : (x == y) = false) : x ≠ y := fun z => by rw [z, beq_self_eq_true] at h; cases h
theorem pt_l : putD "lines" d (hfs l b n e) = hfs d b n e := by
  simp only [hfs, putD, if_pos]
theorem pt_b : putD "book_list" d (hfs l b n e) = hfs l d n e := by
  obtain ⟨h1, _⟩ := ne_lb
  simp only [hfs, putD, if_pos, if_neg (bne' h1)]
theorem pt_n : putD "next_number" d (hfs l b n e) = hfs l b d e := by
  obtain ⟨_, h1, _, _, h2, _⟩ := ne_lb
  simp only [hfs, putD, if_pos, if_neg (bne' h1), if_neg (bne' h2)]
theorem pt_e : putD "earlier" d (hfs l b n e) = hfs l b n d := by
  obtain ⟨_, _, h1, _, _, h2, _, _, h3, _⟩ := ne_lb
  simp only [hfs, putD, if_pos, if_neg (bne' h1), if_neg (bne' h2), if_neg (bne' h3)]
theorem pt_0 : putD "earlier" e (putD "next_number" n (putD "book_list" b (putD "lines" l []))) = hfs l b n e := by
  obtain ⟨h1, h2, h3, _, h4, h5, _, _, h6, _⟩ := ne_lb
  simp only [hfs, putD, if_neg (bne' h1), if_neg (bne' h2), if_neg (bne' h3), if_neg (bne' h4), if_neg (bne' h5), if_neg (bne' h6)]
end
theorem hfs_len {l b n e : D} : (hfs l b n e).length < 1000 := by show 4 < 1000; decide
abbrev CSH : List Str := ["Hall", "LenientHall"]
def IsH (c : Str) : Prop := c = "Hall" ∨ c = "LenientHall"
theorem IsH.cs {c : Str} (h : IsH c) : CSH.contains c = true := by
  rcases h with rfl | rfl <;> decide +kernel
theorem hl_ne : (("LenientHall" : Str) == "Hall") = false ∧ (("Hall" : Str) == "LenientHall") = false := by decide +kernel
theorem tb_h {α : Type} (x y : α) : ([("Hall", x), ("LenientHall", y)] : List (Str × α)).lookup ("Hall" : Str) = some x := by
  simp only [List.lookup, beq_self_eq_true]
theorem tb_l {α : Type} (x y : α) : ([("Hall", x), ("LenientHall", y)] : List (Str × α)).lookup ("LenientHall" : Str) = some y := by
  simp only [List.lookup, beq_self_eq_true, hl_ne.1]
theorem tb_1 {α : Type} (x : α) : ([("Hall", x)] : List (Str × α)).lookup ("Hall" : Str) = some x := by
  simp only [List.lookup, beq_self_eq_true]
theorem tb_s {α : Type} {c : Str} (x : α) (h : IsH c) : ([("Hall", x), ("LenientHall", x)] : List (Str × α)).lookup c = some x := by
  rcases h with rfl | rfl
  · exact tb_h x x
  · exact tb_l x x
/-- rows as data -/
def rowsD (rs : List (List Bool)) : D := .tup (rs.map fun r => .str (rS r))
def hR (c : Str) (rs : List (List Bool)) (bs : List D) (n : Nat) (es : List D) : Rec := ⟨c, hfs (rowsD rs) (.tup bs) (nD n) (.tup es)⟩
/-- a state that is kept for undo -/
def stD (rs : List (List Bool)) (bs : List D) (n : Nat) : D := .tup [rowsD rs, .tup bs, nD n]
end DL
end
section
set_option Elab.async false
set_option linter.all false
set_option maxRecDepth 100000
set_option maxHeartbeats 400000
/-! DNb: what the halls' methods do. -/
namespace DL
open PySem L2
/-- a booking: number, row, start, size -/
abbrev Bk := Nat × Nat × Nat × Nat
def bkD (b : Bk) : D := .tup [nD b.1, nD b.2.1, nD b.2.2.1, nD b.2.2.2]
def bksD (bs : List Bk) : D := .tup (bs.map bkD)
structure HS where
  rs : List (List Bool)
  bs : List Bk
  n : Nat
def HS.D (s : HS) : DL.D := .tup [rowsD s.rs, bksD s.bs, nD s.n]
def hal (c : Str) (s : HS) (es : List HS) : Rec := ⟨c, hfs (rowsD s.rs) (bksD s.bs) (nD s.n) (.tup (es.map HS.D))⟩
theorem eqD_bk (a b : Bk) : eqD (bkD a) (bkD b) = decide (a = b) := by
  obtain ⟨a1, a2, a3, a4⟩ := a
  obtain ⟨b1, b2, b3, b4⟩ := b
  simp only [bkD, eqD_tup, eqDs_cons, eqD_nat, eqDs_nil, Bool.and_true, Prod.mk.injEq, Bool.decide_and]
theorem eqD_rows (a b : List (List Bool)) : eqD (rowsD a) (rowsD b) = decide (a = b) := by
  unfold rowsD
  rw [eqD_tup, eqDs_map _ eqD_row]
theorem eqD_bks (a b : List Bk) : eqD (bksD a) (bksD b) = decide (a = b) := by
  unfold bksD
  rw [eqD_tup, eqDs_map _ eqD_bk]
theorem lay_bk (b : Bk) : lay (bkD b) = true := by simp [bkD]
theorem dep_bk (n : Nat) (b : Bk) : dep (n + 1) (bkD b) = true := by simp [bkD]
theorem lay_rows (r : List (List Bool)) : lay (rowsD r) = true := by unfold rowsD; rw [lay_tup]; exact all_lay _ lay_row r
theorem dep_rows (n : Nat) (r : List (List Bool)) : dep (n + 1) (rowsD r) = true := by unfold rowsD; rw [dep_tup]; exact all_dep n _ (fun _ => dep_str n _) r
theorem lay_bks (r : List Bk) : lay (bksD r) = true := by unfold bksD; rw [lay_tup]; exact all_lay _ lay_bk r
theorem dep_bks (n : Nat) (r : List Bk) : dep (n + 2) (bksD r) = true := by unfold bksD; rw [dep_tup]; exact all_dep (n + 1) _ (fun _ => dep_bk n _) r
theorem lay_hs (s : HS) : lay s.D = true := by simp only [HS.D, lay_tup, List.all_cons, List.all_nil, lay_rows, lay_bks, lay_int, Bool.and_true]
theorem dep_hs (n : Nat) (s : HS) : dep (n + 3) s.D = true := by simp only [HS.D, dep_tup, List.all_cons, List.all_nil, dep_rows, dep_bks, dep_int, Bool.and_true]
theorem eqOk_rows (r : List (List Bool)) : eqOk (rowsD r) = true := eqOk_of 1 (lay_rows r) (dep_rows 0 r)
theorem eqOk_bks (r : List Bk) : eqOk (bksD r) = true := eqOk_of 2 (lay_bks r) (dep_bks 0 r)
theorem eqOk_bk (r : Bk) : eqOk (bkD r) = true := eqOk_of 1 (lay_bk r) (dep_bk 0 r)
theorem eqOk_es (es : List HS) : eqOk (.tup (es.map HS.D)) = true := eqOk_tup HS.D 3 lay_hs (dep_hs 0) es
/-! ### fields of self -/
section
variable {w : W} {k : Nat} {c : Str} {l b n e d : D}
theorem self_l (h0 : w.ρ[0]? = some (.im (.obj k))) (hk : w.O[k]? = some ⟨c, hfs l b n e⟩) (hc : IsH c) : Ev (fz (eFld CSH "lines" (pVar 0))) w l := fz_v (fld_v (ev_p h0) hk hc.cs (lk_l l b n e))
theorem self_b (h0 : w.ρ[0]? = some (.im (.obj k))) (hk : w.O[k]? = some ⟨c, hfs l b n e⟩) (hc : IsH c) : Ev (fz (eFld CSH "book_list" (pVar 0))) w b := fz_v (fld_v (ev_p h0) hk hc.cs (lk_b l b n e))
theorem self_n (h0 : w.ρ[0]? = some (.im (.obj k))) (hk : w.O[k]? = some ⟨c, hfs l b n e⟩) (hc : IsH c) : Ev (fz (eFld CSH "next_number" (pVar 0))) w n := fz_v (fld_v (ev_p h0) hk hc.cs (lk_n l b n e))
theorem self_e (h0 : w.ρ[0]? = some (.im (.obj k))) (hk : w.O[k]? = some ⟨c, hfs l b n e⟩) (hc : IsH c) : Ev (fz (eFld CSH "earlier" (pVar 0))) w e := fz_v (fld_v (ev_p h0) hk hc.cs (lk_e l b n e))
theorem set_l {v : M D} (hv : Ev v w d) (h0 : w.ρ[0]? = some (.im (.obj k))) (hk : w.O[k]? = some ⟨c, hfs l b n e⟩) (hc : IsH c) : sFldD CSH "lines" v (pVar 0) w = .val .nxt ⟨w.ρ, w.O.set k ⟨c, hfs d b n e⟩⟩ := by
  rw [sfld_v (cs := CSH) (f := "lines") hv (ev_p h0) hk hc.cs hfs_len, pt_l]
theorem set_b {v : M D} (hv : Ev v w d) (h0 : w.ρ[0]? = some (.im (.obj k))) (hk : w.O[k]? = some ⟨c, hfs l b n e⟩) (hc : IsH c) : sFldD CSH "book_list" v (pVar 0) w = .val .nxt ⟨w.ρ, w.O.set k ⟨c, hfs l d n e⟩⟩ := by
  rw [sfld_v (cs := CSH) (f := "book_list") hv (ev_p h0) hk hc.cs hfs_len, pt_b]
theorem set_e {v : M D} (hv : Ev v w d) (h0 : w.ρ[0]? = some (.im (.obj k))) (hk : w.O[k]? = some ⟨c, hfs l b n e⟩) (hc : IsH c) : sFldD CSH "earlier" v (pVar 0) w = .val .nxt ⟨w.ρ, w.O.set k ⟨c, hfs l b n d⟩⟩ := by
  rw [sfld_v (cs := CSH) (f := "earlier") hv (ev_p h0) hk hc.cs hfs_len, pt_e]
theorem tgt_l (h0 : w.ρ[0]? = some (.im (.obj k))) (hk : w.O[k]? = some ⟨c, hfs l b n e⟩) (hc : IsH c) : gFld CSH "lines" (pVar 0) (.im d) w = .val () ⟨w.ρ, w.O.set k ⟨c, hfs d b n e⟩⟩ := by
  rw [gfl_v (cs := CSH) (f := "lines") (ev_p h0) hk hc.cs hfs_len, pt_l]
theorem tgt_b (h0 : w.ρ[0]? = some (.im (.obj k))) (hk : w.O[k]? = some ⟨c, hfs l b n e⟩) (hc : IsH c) : gFld CSH "book_list" (pVar 0) (.im d) w = .val () ⟨w.ρ, w.O.set k ⟨c, hfs l d n e⟩⟩ := by
  rw [gfl_v (cs := CSH) (f := "book_list") (ev_p h0) hk hc.cs hfs_len, pt_b]
theorem tgt_n (h0 : w.ρ[0]? = some (.im (.obj k))) (hk : w.O[k]? = some ⟨c, hfs l b n e⟩) (hc : IsH c) : gFld CSH "next_number" (pVar 0) (.im d) w = .val () ⟨w.ρ, w.O.set k ⟨c, hfs l b d e⟩⟩ := by
  rw [gfl_v (cs := CSH) (f := "next_number") (ev_p h0) hk hc.cs hfs_len, pt_n]
theorem aug_n {m : Nat} (h0 : w.ρ[0]? = some (.im (.obj k))) (hk : w.O[k]? = some ⟨c, hfs l b (nD m) e⟩) (hc : IsH c) : DL.sFldAug CSH "next_number" .Add (pVar 0) (fz (eC (.int 1))) w = .val .nxt ⟨w.ρ, w.O.set k ⟨c, hfs l b (nD (m + 1)) e⟩⟩ := by
  rw [faug_v (cs := CSH) (f := "next_number") (d := nD (m + 1)) (ev_p h0) hk hc.cs (lk_n l b _ e) hfs_len er_c.fz (by show some (Rv.im (.int ((m : Int) + 1))) = _; rfl), pt_n]
end
theorem set_at {O : List Rec} {k : Nat} {r r' : Rec} (h : O[k]? = some r) : (O.set k r')[k]? = some r' := List.getElem?_set_self (List.getElem?_eq_some_iff.mp h).1
theorem set_same {O : List Rec} {k : Nat} {r : Rec} (h : O[k]? = some r) : O.set k r = O := by
  obtain ⟨h1, h2⟩ := List.getElem?_eq_some_iff.mp h
  subst h2
  exact List.set_getElem_self h1
/-! ### kind, marks, rows -/
section
variable {O : List Rec} {k : Nat} {c : Str} {s : HS} {es : List HS}
theorem kind_ok (x : D) : F_Hall_kind [x] O = .val (.im (.str "hall")) O := rfl
theorem kindL_ok (x : D) : F_LenientHall_kind [x] O = .val (.im (.str "lenienthall")) O := rfl
theorem rows_ok (hk : O[k]? = some (hal c s es)) (hc : IsH c) : F_Hall_rows [.obj k] O = .val (.im (rowsD s.rs)) O := by
  show runB 1 B_Hall_rows [.obj k] O = _
  have h : B_Hall_rows ⟨[.im (.obj k)], O⟩ = .val (.ret (.im (rowsD s.rs))) ⟨[.im (.obj k)], O⟩ :=
    ret_v (fld_v (ev_p rfl) hk hc.cs (lk_l _ _ _ _))
  unfold runB
  rw [show (⟨[D.obj k].map Rv.im ++ List.replicate (1 - [D.obj k].length) .un, O⟩ : W) = ⟨[.im (.obj k)], O⟩ from rfl, h]
theorem marks_ok (hk : O[k]? = some (hal c s es)) (hc : IsH c) : F_Hall_marks [.obj k] O = .val (.im (.tup [rowsD s.rs, bksD s.bs])) O := by
  show runB 1 B_Hall_marks [.obj k] O = _
  have h : B_Hall_marks ⟨[.im (.obj k)], O⟩ = .val (.ret (.im (.tup [rowsD s.rs, bksD s.bs]))) ⟨[.im (.obj k)], O⟩ :=
    ret_v (tup_v (acons_v (self_l rfl hk hc) (acons_v (self_b rfl hk hc) rfl)) (by simp))
  unfold runB
  rw [show (⟨[D.obj k].map Rv.im ++ List.replicate (1 - [D.obj k].length) .un, O⟩ : W) = ⟨[.im (.obj k)], O⟩ from rfl, h]
theorem keep_ok (hk : O[k]? = some (hal c s es)) (hc : IsH c) (hl : es.length ≤ 1000) : F_Hall_keep [.obj k] O = .val (.im .non) (O.set k (hal c s (es ++ [s]))) := by
  show runB 1 B_Hall_keep [.obj k] O = _
  have h : B_Hall_keep ⟨[.im (.obj k)], O⟩ = .val .nxt ⟨[.im (.obj k)], O.set k (hal c s (es ++ [s]))⟩ := by
    refine Eq.trans (set_e (d := .tup (es.map HS.D ++ [s.D])) (er_bin (self_e rfl hk hc) (er_tup (ea_cons (er_tup (ea_cons (self_l rfl hk hc) (ea_cons (self_b rfl hk hc) (ea_cons (self_n rfl hk hc) ea_nil))) (by simp)).fz ea_nil) (by simp)).fz (b_tup' _ _ (by simp; omega))).fz rfl hk hc) ?_
    unfold hal
    rw [List.map_append]
    rfl
  unfold runB
  rw [show (⟨[D.obj k].map Rv.im ++ List.replicate (1 - [D.obj k].length) .un, O⟩ : W) = ⟨[.im (.obj k)], O⟩ from rfl, h]
end
/-! ### put -/
def tkn (r : List Bool) (s z : Nat) : List Bool := r.take s ++ List.replicate z false ++ r.drop (s + z)
def frd (r : List Bool) (s z : Nat) : List Bool := r.take s ++ List.replicate z true ++ r.drop (s + z)
def HS.put (s : HS) (i a z : Nat) : HS := ⟨s.rs.set i (tkn (s.rs.getD i []) a z), s.bs ++ [(s.n, i, a, z)], s.n + 1⟩
/-- at most ten rows of at most forty seats -/
structure HOk (s : HS) : Prop where
  ln : s.rs.length ≤ 10
  rw : ∀ r ∈ s.rs, r.length ≤ 40
theorem set_mid {α : Type} (l : List α) (i : Nat) (x : α) (h : i < l.length) : l.set i x = l.take i ++ [x] ++ l.drop (i + 1) := by
  rw [List.set_eq_take_append_cons_drop, if_pos h, List.append_assoc]; rfl
theorem rows_mid (rs : List (List Bool)) (i : Nat) (r : List Bool) (h : i < rs.length) : rowsD (rs.set i r) = .tup ((rs.take i).map (fun r => D.str (rS r)) ++ [.str (rS r)] ++ (rs.drop (i + 1)).map fun r => D.str (rS r)) := by
  unfold rowsD
  rw [set_mid _ _ _ h, List.map_append, List.map_append]; rfl
theorem ix_rows {rs : List (List Bool)} {i : Nat} (h : i < rs.length) : ixD (rowsD rs) (nD i) = some (.str (rS (rs.getD i []))) := by
  unfold rowsD
  rw [ix_tup, atI_n, List.getElem?_map, List.getElem?_eq_getElem h]
  simp [List.getD, List.getElem?_eq_getElem h]
theorem HOk.row {s : HS} (h : HOk s) {i : Nat} (hi : i < s.rs.length) : (s.rs.getD i []).length ≤ 40 := by
  have : s.rs.getD i [] = s.rs[i] := by simp [List.getD, List.getElem?_eq_getElem hi]
  rw [this]
  exact h.rw _ (List.getElem_mem hi)
theorem sl_to {rs : List (List Bool)} (i : Nat) : slD (rowsD rs) none (some (i : Int)) = some (.im (.tup ((rs.take i).map fun r => D.str (rS r)))) := by
  unfold rowsD
  rw [slD_tup, cut_map, cut_n]
theorem sl_from {rs : List (List Bool)} (i : Nat) : slD (rowsD rs) (some ((i : Int) + 1)) none = some (.im (.tup ((rs.drop (i + 1)).map fun r => D.str (rS r)))) := by
  unfold rowsD
  rw [slD_tup, cut_map, show ((i : Int) + 1) = ((i + 1 : Nat) : Int) by omega, cut_d]
section
variable {w : W} {k : Nat} {c : Str} {l b n e d : D}
/-- lines[:i] + (line,) + lines[i + 1:] -/
theorem line_in {rs : List (List Bool)} {i j q : Nat} {r : List Bool} (h0 : w.ρ[0]? = some (.im (.obj k))) (hk : w.O[k]? = some ⟨c, hfs (rowsD rs) b n e⟩) (hc : IsH c) (hi : w.ρ[j]? = some (.im (nD i))) (hq : w.ρ[q]? = some (.im (.str (rS r)))) (h : i < rs.length) (hl : rs.length ≤ 10) :
    Ev (fz (eBin .Add (fz (eBin .Add (fz (eSl (fz (eFld CSH "lines" (pVar 0))) oNo (oSo (pVar j)))) (fz (eTup (aCons (fz (eVar q)) aNil))))) (fz (eSl (fz (eFld CSH "lines" (pVar 0))) (oSo (fz (eBin .Add (pVar j) (fz (eC (.int 1)))))) oNo)))) w (rowsD (rs.set i r)) := by
  rw [rows_mid _ _ _ h]
  have h1 : ((rs.take i).map fun r => D.str (rS r)).length ≤ 10 := by simp; omega
  have h2 : ((rs.drop (i + 1)).map fun r => D.str (rS r)).length ≤ 10 := by simp; omega
  exact (er_bin (er_bin (er_sl (self_l h0 hk hc) o_no (o_so (ev_p hi)) (sl_to i)).fz (er_tup (ea_cons (er_v hq).fz ea_nil) (by simp)).fz (b_tup' _ _ (by simp; omega))).fz
    (er_sl (self_l h0 hk hc) (o_so (er_bin (ev_p hi) er_c.fz (b_add _ _)).fz) o_no (sl_from i)).fz (b_tup' _ _ (by simp; omega))).fz
end
section
variable {O : List Rec} {k : Nat} {c : Str} {s : HS} {es : List HS}
theorem put_ok (hk : O[k]? = some (hal c s es)) (hc : IsH c) (ok : HOk s) {i a z : Nat} (hi : i < s.rs.length) (hz : a + z ≤ (s.rs.getD i []).length) (hb : s.bs.length ≤ 1000) :
    F_Hall_put [.obj k, nD i, nD a, nD z] O = .val (.im (nD s.n)) (O.set k (hal c (s.put i a z) es)) := by
  show runB 6 B_Hall_put [.obj k, nD i, nD a, nD z] O = _
  have hr := ok.row hi
  have h : B_Hall_put ⟨[.im (.obj k), .im (nD i), .im (nD a), .im (nD z), .un, .un], O⟩ = .val (.ret (.im (nD s.n))) ⟨[.im (.obj k), .im (nD i), .im (nD a), .im (nD z), .un, .im (.str (rS (tkn (s.rs.getD i []) a z)))], O.set k (hal c (s.put i a z) es)⟩ := by
    refine st_seq (w1 := ⟨[.im (.obj k), .im (nD i), .im (nD a), .im (nD z), .im (nD s.n), .un], O⟩) (asg_v (fld_v (ev_p rfl) hk hc.cs (lk_n _ _ _ _))) ?_
    refine st_seq (w1 := ⟨[.im (.obj k), .im (nD i), .im (nD a), .im (nD z), .im (nD s.n), .im (.str (rS (tkn (s.rs.getD i []) a z)))], O⟩) (st_asg (er_call (ea_cons (ev_ix (self_l rfl hk hc) (ev_p rfl) (ix_rows hi)) (ea_cons (er_tup (ea_cons (er_v rfl).fz (ea_cons (er_v rfl).fz ea_nil)) (by simp)).fz ea_nil)) (taken_ok _ a z O (by omega) (by omega)))) ?_
    refine st_seq (set_l (line_in (j := 1) (q := 5) rfl hk hc rfl rfl hi ok.ln) rfl hk hc) ?_
    refine st_seq (set_b (d := .tup (s.bs.map bkD ++ [bkD (s.n, i, a, z)])) (er_bin (self_b rfl (set_at hk) hc) (er_tup (ea_cons (er_tup (ea_cons (er_v rfl).fz (ea_cons (er_v rfl).fz (ea_cons (er_v rfl).fz (ea_cons (er_v rfl).fz ea_nil)))) (by simp)).fz ea_nil) (by simp)).fz (b_tup' _ _ (by simp; omega))).fz rfl (set_at hk) hc) ?_
    refine st_seq (aug_n rfl (set_at (set_at hk)) hc) ?_
    refine Eq.trans (st_retVi rfl) ?_
    simp only [List.set_set]
    unfold hal HS.put bksD
    rw [List.map_append]
    rfl
  unfold runB
  rw [show (⟨[D.obj k, nD i, nD a, nD z].map Rv.im ++ List.replicate (6 - [D.obj k, nD i, nD a, nD z].length) .un, O⟩ : W) = ⟨[.im (.obj k), .im (nD i), .im (nD a), .im (nD z), .un, .un], O⟩ from rfl, h]
end
/-! ### check, book -/
theorem leaves_single_ok (r : List Bool) (s z : Nat) (O : List Rec) (hz : 0 < z) (h : s + z ≤ r.length) (h4 : r.length ≤ 900) (hf : freeB r s z = true) : F_leaves_single [.str (rS r), pD (s, z)] O = .val (.im (.bl (!allowB r s z))) O := by
  obtain ⟨a, n, g, h1, h2, hu, e1, e2⟩ := single_eq hz h hf
  rw [single_loop r s z O a n (fun a' n' m => hu a' n' (mem_gaps.mp m)) (mem_gaps.mpr g) h1 h2 hz h4]
  unfold allowB
  rw [hf, e1, e2]
  simp
theorem st_ifn {c : M Bool} {a : MS} {w : W} (h : c w = .val false w) : sIf c a sNx w = .val .nxt w := st_if h (fun z => nomatch z) fun _ => rfl
theorem isI_n {i lo hi : Nat} (h1 : lo ≤ i) (h2 : i ≤ hi) : isI (nD i) (lo : Int) (hi : Int) = true := by
  show (decide ((lo : Int) ≤ (i : Int)) && decide ((i : Int) ≤ (hi : Int))) = true
  rw [decide_eq_true (by omega), decide_eq_true (by omega)]; rfl
theorem bookB_n {n s z : Nat} (hz : 0 < z) (h : s + z ≤ n) : bookB n (pD (s, z)) = true := by
  unfold pD
  rw [bookB_isI]
  have h1 : isI (nD s) ((0 : Nat) : Int) ((n - 1 : Nat) : Int) = true := isI_n (by omega) (by omega)
  have h2 : isI (nD z) ((1 : Nat) : Int) ((n - s : Nat) : Int) = true := isI_n (by omega) (by omega)
  rw [show ((n : Int) - 1) = ((n - 1 : Nat) : Int) by omega]
  rw [show (0 : Int) = ((0 : Nat) : Int) from rfl, h1]
  show isI (nD z) ((1 : Nat) : Int) ((n : Int) - (s : Int)) = true
  rw [show ((n : Int) - (s : Int)) = ((n - s : Nat) : Int) by omega, h2]
theorem pl_n (n : Nat) : Pl (nD n) := .int _
theorem pl_p (a b : Nat) : Pl (pD (a, b)) := .tup _ (fun x hx => by
  simp only [List.mem_cons, List.not_mem_nil, or_false] at hx
  rcases hx with rfl | rfl <;> exact .int _) (by simp)
theorem val_to {α : Type} {f : M α} {w w1 : W} {a b : α} (h : f w = .val a w1) (e : a = b) : f w = .val b w1 := e ▸ h
section
variable {O : List Rec} {k : Nat} {c : Str} {s : HS} {es : List HS}
theorem refuses_ok (x : D) {r : List Bool} {a z : Nat} (hz : 0 < z) (h : a + z ≤ r.length) (h4 : r.length ≤ 900) (hf : freeB r a z = true) : F_Hall_refuses [x, .str (rS r), pD (a, z)] O = .val (.im (.bl (!allowB r a z))) O := by
  show runB 3 B_Hall_refuses [x, .str (rS r), pD (a, z)] O = _
  have h : B_Hall_refuses ⟨[.im x, .im (.str (rS r)), .im (pD (a, z))], O⟩ = .val (.ret (.im (.bl (!allowB r a z)))) ⟨[.im x, .im (.str (rS r)), .im (pD (a, z))], O⟩ :=
    st_ret (er_call (ea_cons (er_v rfl).fz (ea_cons (er_v rfl).fz ea_nil)) (leaves_single_ok r a z O hz h h4 hf))
  unfold runB
  rw [show (⟨[x, .str (rS r), pD (a, z)].map Rv.im ++ List.replicate (3 - [x, .str (rS r), pD (a, z)].length) .un, O⟩ : W) = ⟨[.im x, .im (.str (rS r)), .im (pD (a, z))], O⟩ from rfl, h]
theorem check_ok (hk : O[k]? = some (hal "Hall" s es)) (ok : HOk s) {i a z : Nat} (hi : i < s.rs.length) (hz : 0 < z) (h : a + z ≤ (s.rs.getD i []).length) (hf : allowB (s.rs.getD i []) a z = true) :
    F_Hall_check [.obj k, nD i, nD a, nD z] O = .val (.im .non) O := by
  show runB 4 B_Hall_check [.obj k, nD i, nD a, nD z] O = _
  have hr := ok.row hi
  have hc : IsH "Hall" := .inl rfl
  have fr : freeB (s.rs.getD i []) a z = true := by
    unfold allowB at hf
    exact (Bool.and_eq_true_iff.mp hf).1
  have e : B_Hall_check ⟨[.im (.obj k), .im (nD i), .im (nD a), .im (nD z)], O⟩ = .val .nxt ⟨[.im (.obj k), .im (nD i), .im (nD a), .im (nD z)], O⟩ := by
    have hl : Ev (fz (eIx (fz (eFld CSH "lines" (pVar 0))) (pVar 1))) ⟨[.im (.obj k), .im (nD i), .im (nD a), .im (nD z)], O⟩ (.str (rS (s.rs.getD i []))) := ev_ix (self_l rfl hk hc) (ev_p rfl) (ix_rows hi)
    have hp : Ev (fz (eTup (aCons (fz (eVar 2)) (aCons (fz (eVar 3)) (aNil))))) ⟨[.im (.obj k), .im (nD i), .im (nD a), .im (nD z)], O⟩ (pD (a, z)) := (er_tup (ea_cons (er_v rfl).fz (ea_cons (er_v rfl).fz ea_nil)) (by simp)).fz
    have i1 : isI (nD i) 0 ((s.rs.length : Int) - 1) = true := by
      have := isI_n (i := i) (lo := 0) (hi := s.rs.length - 1) (by omega) (by omega)
      rwa [show ((s.rs.length - 1 : Nat) : Int) = (s.rs.length : Int) - 1 by omega] at this
    have i0 := integer_ok (pl_n i) 0 ((s.rs.length : Int) - 1) O
    rw [i1] at i0
    have b0 := is_booking_ok (s.rs.getD i []) (pD (a, z)) O (by omega) (pl_p a z)
    rw [bookB_n hz h] at b0
    have f0 := is_free_ok (s.rs.getD i []) a z O (by omega)
    rw [fr] at f0
    have r0 := refuses_ok (O := O) (.obj k) hz h (by omega) fr
    rw [hf] at r0
    have e1 : (fz (eBin .Sub (fz (eFn fLen (aCons (fz (eFld CSH "lines" (pVar 0))) (aNil)))) (fz (eC (.int 1))))) ⟨[.im (.obj k), .im (nD i), .im (nD a), .im (nD z)], O⟩ = .val (.int ((s.rs.length : Int) - 1)) ⟨[.im (.obj k), .im (nD i), .im (nD a), .im (nD z)], O⟩ :=
      (er_bin (er_fn (ea_cons (self_l rfl hk hc) ea_nil) (by unfold rowsD; rw [fLen_tup, List.length_map])).fz er_c.fz rfl).fz
    refine (st_on (t_or (t_not (tv_er (er_call (ea_cons (er_v rfl).fz (ea_cons er_c.fz (ea_cons e1 ea_nil))) i0))) (t_not (tv_er (er_call (ea_cons hl (ea_cons hp ea_nil)) b0))))).trans ?_
    refine (st_on (t_not (tv_er (er_call (ea_cons hl (ea_cons hp ea_nil)) f0)))).trans ?_
    exact st_ifn (tv_v (fz_v (meth_v (ev_p rfl) hk (lk_no _ _ _ _ (by decide +kernel)) (by first | exact tb_1 _ | exact tb_h _ _) (ea_cons hl (ea_cons hp ea_nil)) r0)))
  unfold runB
  rw [show (⟨[D.obj k, nD i, nD a, nD z].map Rv.im ++ List.replicate (4 - [D.obj k, nD i, nD a, nD z].length) .un, O⟩ : W) = ⟨[.im (.obj k), .im (nD i), .im (nD a), .im (nD z)], O⟩ from rfl, e]
theorem nil_v {w : W} : aNil w = .val [] w := rfl
theorem HOk.put (ok : HOk s) {i a z : Nat} (hz : a + z ≤ (s.rs.getD i []).length) : HOk (s.put i a z) := by
  refine ⟨by simp [HS.put]; exact ok.ln, fun r hr => ?_⟩
  unfold HS.put at hr
  by_cases hi : i < s.rs.length
  · rcases List.mem_or_eq_of_mem_set hr with h | h
    · exact ok.rw r h
    · have := ok.row hi
      subst h
      unfold tkn
      simp only [List.length_append, List.length_take, List.length_replicate, List.length_drop]
      omega
  · simp only at hr
    rw [List.set_eq_of_length_le (by omega)] at hr
    exact ok.rw r hr
theorem book_ok (hk : O[k]? = some (hal "Hall" s es)) (ok : HOk s) {i a z : Nat} (hi : i < s.rs.length) (hz : 0 < z) (h : a + z ≤ (s.rs.getD i []).length) (hf : allowB (s.rs.getD i []) a z = true) (hb : s.bs.length ≤ 1000) (he : es.length ≤ 1000) :
    F_Hall_book [.obj k, nD i, nD a, nD z] O = .val (.im (nD s.n)) (O.set k (hal "Hall" (s.put i a z) (es ++ [s]))) := by
  show runB 4 B_Hall_book [.obj k, nD i, nD a, nD z] O = _
  have hc : IsH "Hall" := .inl rfl
  have e : B_Hall_book ⟨[.im (.obj k), .im (nD i), .im (nD a), .im (nD z)], O⟩ = .val (.ret (.im (nD s.n))) ⟨[.im (.obj k), .im (nD i), .im (nD a), .im (nD z)], O.set k (hal "Hall" (s.put i a z) (es ++ [s]))⟩ := by
    refine st_seq (w1 := ⟨[.im (.obj k), .im (nD i), .im (nD a), .im (nD z)], O⟩) (drop_v (meth_v (ev_p rfl) hk (lk_no _ _ _ _ (by decide +kernel)) (tb_s _ hc) (ea_cons (er_v rfl).fz (ea_cons (er_v rfl).fz (ea_cons (er_v rfl).fz ea_nil))) (check_ok hk ok hi hz h hf))) ?_
    refine st_seq (w1 := ⟨[.im (.obj k), .im (nD i), .im (nD a), .im (nD z)], O.set k (hal "Hall" s (es ++ [s]))⟩) (drop_v (meth_v (ev_p rfl) hk (lk_no _ _ _ _ (by decide +kernel)) (tb_s _ hc) nil_v (keep_ok hk hc he))) ?_
    refine Eq.trans (ret_v (meth_v (ev_p rfl) (set_at hk) (lk_no _ _ _ _ (by decide +kernel)) (tb_s _ hc) (ea_cons (er_v rfl).fz (ea_cons (er_v rfl).fz (ea_cons (er_v rfl).fz ea_nil))) (put_ok (set_at hk) hc ok hi h hb))) ?_
    rw [List.set_set]
  unfold runB
  rw [show (⟨[D.obj k, nD i, nD a, nD z].map Rv.im ++ List.replicate (4 - [D.obj k, nD i, nD a, nD z].length) .un, O⟩ : W) = ⟨[.im (.obj k), .im (nD i), .im (nD a), .im (nD z)], O⟩ from rfl, e]
/-! ### attempt -/
abbrev Ws := Nat × Nat × Nat
def wsD (x : Ws) : D := .tup [nD x.1, nD x.2.1, nD x.2.2]
def HS.puts (s : HS) (ws : List Ws) : HS := ws.foldl (fun s x => s.put x.1 x.2.1 x.2.2) s
def okOne (s : HS) (x : Ws) : Prop := x.1 < s.rs.length ∧ 0 < x.2.2 ∧ x.2.1 + x.2.2 ≤ (s.rs.getD x.1 []).length ∧ allowB (s.rs.getD x.1 []) x.2.1 x.2.2 = true
def okAll (s : HS) : List Ws → Prop
  | [] => True
  | x :: r => okOne s x ∧ okAll (s.put x.1 x.2.1 x.2.2) r
theorem okAll_at : ∀ (ws : List Ws) (s : HS) (i : Nat) (x : Ws), okAll s ws → HOk s → ws[i]? = some x → okOne (s.puts (ws.take i)) x ∧ HOk (s.puts (ws.take i))
  | [], _, _, _, _, _, h => nomatch h
  | y :: r, s, 0, x, h, ok, e => by cases e; exact ⟨h.1, ok⟩
  | y :: r, s, i + 1, x, h, ok, e => by
    have := okAll_at r (s.put y.1 y.2.1 y.2.2) i x h.2 (ok.put h.1.2.2.1) (by simpa using e)
    exact this
theorem puts_len (s : HS) : ∀ (ws : List Ws), (s.puts ws).bs.length = s.bs.length + ws.length
  | [] => rfl
  | x :: r => by
    show ((s.put x.1 x.2.1 x.2.2).puts r).bs.length = _
    rw [puts_len _ r]
    simp [HS.put]; omega
theorem puts_succ (s : HS) (ws : List Ws) (i : Nat) (x : Ws) (h : ws[i]? = some x) : s.puts (ws.take (i + 1)) = (s.puts (ws.take i)).put x.1 x.2.1 x.2.2 := by
  have hl := (List.getElem?_eq_some_iff.mp h)
  rw [List.take_succ, h]
  unfold HS.puts
  rw [List.foldl_append]
  rfl
theorem attempt_ok (hk : O[k]? = some (hal "Hall" s es)) (ok : HOk s) (ws : List Ws) (hw : okAll s ws) (hl : ws.length ≤ 10) (hb : s.bs.length ≤ 900) (he : es.length ≤ 1000) :
    F_Hall_attempt (.obj k :: ws.map wsD) O = .val (.im (.bl true)) (O.set k (hal "Hall" (s.puts ws) (es ++ [s]))) := by
  have hc : IsH "Hall" := .inl rfl
  show (if 1 ≤ (D.obj k :: ws.map wsD).length ∧ (D.obj k :: ws.map wsD).length ≤ 1000000 then runB 4 B_Hall_attempt ([D.obj k] ++ [.tup (ws.map wsD)]) O else .bad) = _
  rw [if_pos ⟨by simp, by simp; omega⟩]
  have hloop : ∃ r3, forL (gN 3) B_Hall_attempt_1 (ws.map wsD) ⟨[.im (.obj k), .im (.tup (ws.map wsD)), .im s.D, .un], O⟩ = .val .nxt ⟨[.im (.obj k), .im (.tup (ws.map wsD)), .im s.D, r3], O.set k (hal "Hall" (s.puts ws) es)⟩ := by
    have h0 : (⟨[.im (.obj k), .im (.tup (ws.map wsD)), .im s.D, .un], O⟩ : W) = ⟨[.im (.obj k), .im (.tup (ws.map wsD)), .im s.D, .un], O.set k (hal "Hall" (s.puts (ws.take 0)) es)⟩ := by
      rw [List.take_zero, show O.set k (hal "Hall" (s.puts []) es) = O from set_same hk]
    obtain ⟨w', e, r3, rfl⟩ := forL_inv0 (g := gN 3) (b := B_Hall_attempt_1) wsD (fun i w => ∃ r3, w = ⟨[.im (.obj k), .im (.tup (ws.map wsD)), .im s.D, r3], O.set k (hal "Hall" (s.puts (ws.take i)) es)⟩) ws ⟨[.im (.obj k), .im (.tup (ws.map wsD)), .im s.D, .un], O⟩ ⟨.un, h0⟩ (by
      rintro i ⟨p, a, z⟩ w hx ⟨r3, rfl⟩
      obtain ⟨⟨q1, q2, q3, q4⟩, ok'⟩ := okAll_at ws s i _ hw ok hx
      have hil := (List.getElem?_eq_some_iff.mp hx).1
      refine ⟨⟨[.im (.obj k), .im (.tup (ws.map wsD)), .im s.D, .im (wsD (p, a, z))], O.set k (hal "Hall" (s.puts (ws.take (i + 1))) es)⟩, ?_, _, rfl⟩
      refine (turn_gN _ _ _ _).trans ?_
      show B_Hall_attempt_1 ⟨[.im (.obj k), .im (.tup (ws.map wsD)), .im s.D, .im (wsD (p, a, z))], O.set k (hal "Hall" (s.puts (ws.take i)) es)⟩ = _
      unfold B_Hall_attempt_1
      have a0 : ∀ O, Ev (fz (eIx (pVar 3) (fz (eC (.int 0))))) ⟨[.im (.obj k), .im (.tup (ws.map wsD)), .im s.D, .im (wsD (p, a, z))], O⟩ (nD p) := fun O => ev_ix (ev_p rfl) er_c.fz rfl
      have a1 : ∀ O, Ev (fz (eIx (pVar 3) (fz (eC (.int 1))))) ⟨[.im (.obj k), .im (.tup (ws.map wsD)), .im s.D, .im (wsD (p, a, z))], O⟩ (nD a) := fun O => ev_ix (ev_p rfl) er_c.fz rfl
      have a2 : ∀ O, Ev (fz (eIx (pVar 3) (fz (eC (.int 2))))) ⟨[.im (.obj k), .im (.tup (ws.map wsD)), .im s.D, .im (wsD (p, a, z))], O⟩ (nD z) := fun O => ev_ix (ev_p rfl) er_c.fz rfl
      refine (st_on (w := ⟨[.im (.obj k), .im (.tup (ws.map wsD)), .im s.D, .im (wsD (p, a, z))], O.set k (hal "Hall" (s.puts (ws.take i)) es)⟩) (t_or (k := false) (k2 := false) (val_to (t_not (tv_of (er_fn (ea_cons (ev_p rfl) ea_nil) (r := .im (.bl true)) rfl).fz)) rfl) (ev_cmp (er_fn (ea_cons (ev_p rfl) ea_nil) (r := .im (nD 3)) rfl).fz er_c.fz rfl))).trans ?_
      refine st_seq (w1 := ⟨[.im (.obj k), .im (.tup (ws.map wsD)), .im s.D, .im (wsD (p, a, z))], O.set k (hal "Hall" (s.puts (ws.take i)) es)⟩) (drop_v (meth_v (ev_p rfl) (set_at hk) (lk_no _ _ _ _ (by decide +kernel)) (tb_s _ hc) (ea_cons (a0 _) (ea_cons (a1 _) (ea_cons (a2 _) ea_nil))) (check_ok (set_at hk) ok' q1 q2 q3 q4))) ?_
      refine Eq.trans (drop_v (meth_v (ev_p rfl) (set_at hk) (lk_no _ _ _ _ (by decide +kernel)) (tb_s _ hc) (ea_cons (a0 _) (ea_cons (a1 _) (ea_cons (a2 _) ea_nil))) (put_ok (set_at hk) hc ok' q1 q3 (by rw [puts_len, List.length_take]; omega)))) ?_
      rw [List.set_set, puts_succ s ws i _ hx])
    rw [List.take_length] at e
    exact ⟨r3, e⟩
  obtain ⟨r3, hloop⟩ := hloop
  have e : B_Hall_attempt ⟨[.im (.obj k), .im (.tup (ws.map wsD)), .un, .un], O⟩ = .val (.ret (.im (.bl true))) ⟨[.im (.obj k), .im (.tup (ws.map wsD)), .im s.D, r3], O.set k (hal "Hall" (s.puts ws) (es ++ [s]))⟩ := by
    refine st_seq (w1 := ⟨[.im (.obj k), .im (.tup (ws.map wsD)), .im s.D, .un], O⟩) (st_asg (er_tup (ea_cons (self_l rfl hk hc) (ea_cons (self_b rfl hk hc) (ea_cons (self_n rfl hk hc) ea_nil))) (by simp))) ?_
    refine st_seq (st_for (it_seq (er_v rfl).fz rfl) hloop) ?_
    refine st_seq (set_e (d := .tup ((es ++ [s]).map HS.D)) (er_bin (self_e rfl (set_at hk) hc) (er_tup (ea_cons (er_v rfl).fz ea_nil) (by simp)).fz (by rw [List.map_append]; exact b_tup' _ _ (by simp; omega))).fz rfl (set_at hk) hc) ?_
    refine Eq.trans (st_ret er_c) ?_
    rw [List.set_set]; rfl
  unfold runB
  rw [show (⟨([D.obj k] ++ [D.tup (ws.map wsD)]).map Rv.im ++ List.replicate (4 - ([D.obj k] ++ [D.tup (ws.map wsD)]).length) .un, O⟩ : W) = ⟨[.im (.obj k), .im (.tup (ws.map wsD)), .un, .un], O⟩ from rfl, e]
/-! ### cancel -/
def HS.can (s : HS) (b : Bk) : HS := ⟨s.rs.set b.2.1 (frd (s.rs.getD b.2.1 []) b.2.2.1 b.2.2.2), s.bs.filter (fun x => decide (x ≠ b)), s.n⟩
theorem frd_ev {w : W} {k : Nat} {c : Str} {b n e : D} {rs : List (List Bool)} {i a z : Nat} (h0 : w.ρ[0]? = some (.im (.obj k))) (hk : w.O[k]? = some ⟨c, hfs (rowsD rs) b n e⟩) (hc : IsH c) (h3 : w.ρ[3]? = some (.im (nD i))) (h4 : w.ρ[4]? = some (.im (nD a))) (h5 : w.ρ[5]? = some (.im (nD z)))
    (hi : i < rs.length) (hr : (rs.getD i []).length ≤ 40) (hz : z ≤ 40) :
    Er (eBin .Add (fz (eBin .Add (fz (eSl (fz (eIx (fz (eFld CSH "lines" (pVar 0))) (pVar 3))) (oNo) (oSo (pVar 4)))) (fz (eBin .Mult (fz (eC (.str "."))) (pVar 5))))) (fz (eSl (fz (eIx (fz (eFld CSH "lines" (pVar 0))) (pVar 3))) (oSo (fz (eBin .Add (pVar 4) (pVar 5)))) (oNo)))) w (.im (.str (rS (frd (rs.getD i []) a z)))) := by
  have hl : Ev (fz (eIx (fz (eFld CSH "lines" (pVar 0))) (pVar 3))) w (.str (rS (rs.getD i []))) := ev_ix (self_l h0 hk hc) (ev_p h3) (ix_rows hi)
  have e1 : slD (.str (rS (rs.getD i []))) none (some (a : Int)) = some (.im (.str (rS ((rs.getD i []).take a)))) := by rw [slD_row _ (by omega), cut_n]
  have e2 : slD (.str (rS (rs.getD i []))) (some ((a : Int) + (z : Int))) none = some (.im (.str (rS ((rs.getD i []).drop (a + z))))) := by rw [slD_row _ (by omega), cut_e]
  have m1 : bopD .Mult (.str ".") (nD z) = some (.im (.str (rS (List.replicate z true)))) := by rw [show (("." : Str)) = rS [true] from s_dot]; exact mul_row true z (by omega)
  have p1 : bopD .Add (.str (rS ((rs.getD i []).take a))) (.str (rS (List.replicate z true))) = some (.im (.str (rS ((rs.getD i []).take a ++ List.replicate z true)))) := add_row _ _ (by simp only [List.length_take, List.length_replicate]; omega)
  have p2 : bopD .Add (.str (rS ((rs.getD i []).take a ++ List.replicate z true))) (.str (rS ((rs.getD i []).drop (a + z)))) = some (.im (.str (rS (frd (rs.getD i []) a z)))) := add_row _ _ (by simp only [List.length_append, List.length_take, List.length_replicate, List.length_drop]; omega)
  exact er_bin (er_bin (er_sl hl o_no (o_so (ev_p h4)) e1).fz (er_bin er_c.fz (ev_p h5) m1).fz p1).fz (er_sl hl (o_so (er_bin (ev_p h4) (ev_p h5) (b_add _ _)).fz) o_no e2).fz p2
theorem cancel_turn (hk : O[k]? = some (hal c s es)) (hc : IsH c) (ok : HOk s) (b : Bk) (hb : s.bs.length ≤ 1000) (he : es.length ≤ 1000) (hm : b.1 ≤ 1000000) (hi : b.2.1 < s.rs.length) (hz : b.2.2.2 ≤ 40) (r3 r4 r5 r6 : Rv) :
    ∃ w', B_Hall_cancel_1 ⟨[.im (.obj k), .im (nD b.1), .im (bkD b), r3, r4, r5, r6, .un], O⟩ = .val (.ret (.im (.tup [nD b.2.1, nD b.2.2.1, nD b.2.2.2]))) w' ∧ w'.O = O.set k (hal c (s.can b) (es ++ [s])) := by
  obtain ⟨m, i, a, z⟩ := b
  refine ⟨⟨[.im (.obj k), .im (nD m), .im (bkD (m, i, a, z)), .im (nD i), .im (nD a), .im (nD z), .im (.str (rS (frd (s.rs.getD i []) a z))), .un], O.set k (hal c (s.can (m, i, a, z)) (es ++ [s]))⟩, ?_, rfl⟩
  unfold B_Hall_cancel_1
  have i0 := integer_ok (pl_n m) 0 1000000 O
  rw [show isI (nD m) 0 1000000 = true from isI_n (lo := 0) (hi := 1000000) (by omega) hm] at i0
  have c0 : cmpD .Eq (nD m) (nD m) = some true := by
    show (if eqOk (nD m) && eqOk (nD m) then some (eqD (nD m) (nD m)) else none) = _
    rw [eqOk_int, eqD_nat]; simp
  refine st_if (k := true) (val_to (t_andl (k := true) (k2 := true) (tv_er (er_call (ea_cons (er_v rfl).fz (ea_cons er_c.fz (ea_cons er_c.fz ea_nil))) i0)) (fun _ => ev_cmp (ev_ix (ev_p rfl) er_c.fz (d := nD m) rfl) (ev_p rfl) c0)) rfl) (fun _ => ?_) (fun z => nomatch z)
  have hk1 : (O.set k (hal c s (es ++ [s])))[k]? = some (hal c s (es ++ [s])) := set_at hk
  refine st_seq (w1 := ⟨[.im (.obj k), .im (nD m), .im (bkD (m, i, a, z)), r3, r4, r5, r6, .un], O.set k (hal c s (es ++ [s]))⟩) (drop_v (meth_v (ev_p rfl) hk (lk_no _ _ _ _ (by decide +kernel)) (tb_s _ hc) nil_v (keep_ok hk hc he))) ?_
  refine st_seq (w1 := ⟨[.im (.obj k), .im (nD m), .im (bkD (m, i, a, z)), .im (nD i), .im (nD a), .im (nD z), r6, .un], O.set k (hal c s (es ++ [s]))⟩) ?_ ?_
  · have e : slD (bkD (m, i, a, z)) (some (1 : Int)) none = some (.im (.tup [nD i, nD a, nD z])) := rfl
    exact bnd_v (er_sl (ev_p rfl) (o_so er_c.fz) o_no e) rfl
  refine st_seq (w1 := ⟨[.im (.obj k), .im (nD m), .im (bkD (m, i, a, z)), .im (nD i), .im (nD a), .im (nD z), .im (.str (rS (frd (s.rs.getD i []) a z))), .un], O.set k (hal c s (es ++ [s]))⟩) (st_asg (frd_ev rfl hk1 hc rfl rfl rfl hi (ok.row hi) hz)) ?_
  refine st_seq (set_l (line_in (j := 3) (q := 6) rfl hk1 hc rfl rfl hi ok.ln) rfl hk1 hc) ?_
  have hk2 := set_at (r' := ⟨c, hfs (rowsD (s.rs.set i (frd (s.rs.getD i []) a z))) (bksD s.bs) (nD s.n) (.tup ((es ++ [s]).map HS.D))⟩) hk1
  refine st_seq (set_b (d := bksD (s.can (m, i, a, z)).bs) (er_fn (ea_cons (er_lc (acc := (s.can (m, i, a, z)).bs.map bkD) (it_seq (self_b rfl hk2 hc) rfl) rfl ?_).fzo ea_nil) rfl).fz rfl hk2 hc) ?_
  · refine lcL_if bkD (fun x => decide (x ≠ (m, i, a, z))) bkD s.bs (by omega) fun x hx => ?_
    refine ⟨_, rfl, rfl, ?_, fun _ => (er_v rfl).fz⟩
    refine ev_cmp (ev_p rfl) (ev_p rfl) ?_
    show (if eqOk (bkD x) && eqOk (bkD (m, i, a, z)) then some (!eqD (bkD x) (bkD (m, i, a, z))) else none) = _
    rw [eqOk_bk, eqOk_bk, eqD_bk]
    simp
  · refine Eq.trans (st_ret (er_tup (ea_cons (er_v rfl).fz (ea_cons (er_v rfl).fz (ea_cons (er_v rfl).fz ea_nil))) (by simp))) ?_
    simp only [List.set_set]
    rfl
theorem cancel_skip (b : Bk) (m : Nat) (h : b.1 ≠ m) (r2 r3 r4 r5 r6 : Rv) : B_Hall_cancel_1 ⟨[.im (.obj k), .im (nD m), .im (bkD b), r3, r4, r5, r6, .un], O⟩ = .val .nxt ⟨[.im (.obj k), .im (nD m), .im (bkD b), r3, r4, r5, r6, .un], O⟩ := by
  obtain ⟨m', i, a, z⟩ := b
  unfold B_Hall_cancel_1
  have i0 := integer_ok (pl_n m) 0 1000000 O
  have c0 : cmpD .Eq (nD m') (nD m) = some false := by
    show (if eqOk (nD m') && eqOk (nD m) then some (eqD (nD m') (nD m)) else none) = _
    rw [eqOk_int, eqOk_int, eqD_nat, decide_eq_false h]; rfl
  exact st_ifn (val_to (t_andl (k2 := false) (tv_er (er_call (ea_cons (er_v rfl).fz (ea_cons er_c.fz (ea_cons er_c.fz ea_nil))) i0)) (fun _ => ev_cmp (ev_ix (ev_p rfl) er_c.fz (d := nD m') rfl) (ev_p rfl) c0)) (by simp))
theorem cancel_ok (hk : O[k]? = some (hal c s es)) (hc : IsH c) (ok : HOk s) (m : Nat) (b : Bk) (hf : s.bs.find? (fun x => x.1 == m) = some b) (hb : s.bs.length ≤ 1000) (he : es.length ≤ 1000) (hm : m ≤ 1000000) (hi : b.2.1 < s.rs.length) (hz : b.2.2.2 ≤ 40) :
    F_Hall_cancel [.obj k, nD m] O = .val (.im (.tup [nD b.2.1, nD b.2.2.1, nD b.2.2.2])) (O.set k (hal c (s.can b) (es ++ [s]))) := by
  show runB 8 B_Hall_cancel [.obj k, nD m] O = _
  have hloop : ∃ w', forL (gN 2) B_Hall_cancel_1 (s.bs.map bkD) ⟨[.im (.obj k), .im (nD m), .un, .un, .un, .un, .un, .un], O⟩ = .val (.ret (.im (.tup [nD b.2.1, nD b.2.2.1, nD b.2.2.2]))) w' ∧ w'.O = O.set k (hal c (s.can b) (es ++ [s])) := by
    rw [List.find?_eq_some_iff_append] at hf
    obtain ⟨hbm, xs, ys, e, hx⟩ := hf
    have hbm' : b.1 = m := by simpa using hbm
    rw [e, List.map_append, List.map_cons]
    have go : ∀ (xs : List Bk) (r2 : Rv), (∀ x ∈ xs, x.1 ≠ m) → ∃ w', forL (gN 2) B_Hall_cancel_1 (xs.map bkD ++ bkD b :: ys.map bkD) ⟨[.im (.obj k), .im (nD m), r2, .un, .un, .un, .un, .un], O⟩ = .val (.ret (.im (.tup [nD b.2.1, nD b.2.2.1, nD b.2.2.2]))) w' ∧ w'.O = O.set k (hal c (s.can b) (es ++ [s])) := by
      intro xs
      induction xs with
      | nil =>
        intro r2 _
        obtain ⟨w', e1, e2⟩ := cancel_turn (O := O) (es := es) hk hc ok b hb he (by omega) hi hz .un .un .un .un
        refine ⟨w', ?_, e2⟩
        rw [List.map_nil, List.nil_append, forL_turn, turn_gN]
        rw [hbm'] at e1
        have e1' : B_Hall_cancel_1 ⟨List.set [Rv.im (.obj k), .im (nD m), r2, .un, .un, .un, .un, .un] 2 (.im (bkD b)), O⟩ = _ := e1
        rw [e1']
      | cons x xs ih =>
        intro r2 h
        obtain ⟨w', e1, e2⟩ := ih (.im (bkD x)) (fun y hy => h y (List.mem_cons_of_mem _ hy))
        refine ⟨w', ?_, e2⟩
        rw [List.map_cons, List.cons_append, forL_turn, turn_gN]
        have e3 : B_Hall_cancel_1 ⟨List.set [Rv.im (.obj k), .im (nD m), r2, .un, .un, .un, .un, .un] 2 (.im (bkD x)), O⟩ = _ := cancel_skip (k := k) (O := O) x m (h x List.mem_cons_self) .un .un .un .un .un
        rw [e3]
        exact e1
    exact go xs .un fun x hx' => by
      have := hx x hx'
      simpa using this
  obtain ⟨w', e1, e2⟩ := hloop
  have e : B_Hall_cancel ⟨[.im (.obj k), .im (nD m), .un, .un, .un, .un, .un, .un], O⟩ = .val (.ret (.im (.tup [nD b.2.1, nD b.2.2.1, nD b.2.2.2]))) w' :=
    bnd_v (st_for (it_seq (self_b rfl hk hc) rfl) e1) rfl
  unfold runB
  rw [show (⟨[D.obj k, nD m].map Rv.im ++ List.replicate (8 - [D.obj k, nD m].length) .un, O⟩ : W) = ⟨[.im (.obj k), .im (nD m), .un, .un, .un, .un, .un, .un], O⟩ from rfl, e]
  dsimp only
  rw [e2]
/-! ### undo -/
theorem undo_ok (s' : HS) (hk : O[k]? = some (hal c s (es ++ [s']))) (hc : IsH c) : F_Hall_undo [.obj k] O = .val (.im .non) (O.set k (hal c s' es)) := by
  show runB 1 B_Hall_undo [.obj k] O = _
  have e : B_Hall_undo ⟨[.im (.obj k)], O⟩ = .val .nxt ⟨[.im (.obj k)], O.set k (hal c s' es)⟩ := by
    have c0 : cmpD .Eq (.tup ((es ++ [s']).map HS.D)) (.tup []) = some false := by
      show (if eqOk (.tup ((es ++ [s']).map HS.D)) && eqOk (.tup []) then some (eqD (.tup ((es ++ [s']).map HS.D)) (.tup [])) else none) = _
      rw [eqOk_es, eqOk_of (d := .tup []) 1 (by simp) (by simp), eqD_tup, List.map_append]
      cases es <;> rfl
    refine (st_on (ev_cmp (self_e rfl hk hc) (er_tup ea_nil (by simp)).fz c0)).trans ?_
    have ix : ixD (.tup ((es ++ [s']).map HS.D)) (.int (-1)) = some s'.D := by
      rw [ix_tup]
      unfold atI ixN
      have h1 : (1 : Int) ≤ (es.length : Int) + 1 := by omega
      have h2 : (-1 + ((es.length : Int) + 1)).toNat = (es.map HS.D).length := by simp; omega
      simp [h1, h2]
    refine st_seq (w1 := ⟨[.im (.obj k)], O.set k ⟨c, hfs (rowsD s'.rs) (bksD s'.bs) (nD s'.n) (.tup ((es ++ [s']).map HS.D))⟩⟩) ?_ ?_
    · refine bnd_v (er_ix (self_e rfl hk hc) (d := s'.D) (y := .int (-1)) (bnd_v (bnd_v er_c.fz rfl) rfl) ix) ?_
      refine bnd_v (w1 := ⟨[.im (.obj k)], O.set k ⟨c, hfs (rowsD s'.rs) (bksD s'.bs) (nD s'.n) (.tup ((es ++ [s']).map HS.D))⟩⟩) (a := ()) ?_ rfl
      show gEach _ [rowsD s'.rs, bksD s'.bs, nD s'.n] ⟨[.im (.obj k)], O⟩ = _
      refine bnd_v (tgt_l rfl hk hc) (bnd_v (tgt_b rfl (set_at hk) hc) (bnd_v (tgt_n rfl (set_at (set_at hk)) hc) ?_))
      simp only [List.set_set]
      rfl
    · refine Eq.trans (set_e (d := .tup (es.map HS.D)) (er_sl (self_e rfl (set_at hk) hc) o_no (o_so (i := -1) (bnd_v (bnd_v er_c.fz rfl) rfl)) ?_).fz rfl (set_at hk) hc) ?_
      · rw [slD_tup, cut_map, cut_last]
        simp
      · rw [List.set_set]; rfl
  unfold runB
  rw [show (⟨[D.obj k].map Rv.im ++ List.replicate (1 - [D.obj k].length) .un, O⟩ : W) = ⟨[.im (.obj k)], O⟩ from rfl, e]
/-! ### making -/
theorem putD_len (f : Str) (d : D) : ∀ fs : List (Str × D), (putD f d fs).length ≤ fs.length + 1
  | [] => by simp [putD]
  | (g, x) :: r => by
    have := putD_len f d r
    simp only [putD]
    split <;> simp <;> omega
theorem rowB_rS {r : List Bool} (h1 : 1 ≤ r.length) (h2 : r.length ≤ 40) : rowB (.str (rS r)) = true := by
  unfold rowB
  simp only [rS_len, rS_cps]
  have : (r.map sg).all (fun c => c == 46 || c == 120) = true := by
    rw [List.all_eq_true]
    intro c hc
    obtain ⟨b, _, rfl⟩ := List.mem_map.mp hc
    cases b <;> decide
  simp [h1, h2, this]
theorem pl_row' (r : List Bool) (h2 : r.length ≤ 40) : Pl (.str (rS r)) := .str _ (by rw [rS_len]; omega) (by
  intro c hc
  rw [rS_cps] at hc
  obtain ⟨b, _, rfl⟩ := List.mem_map.mp hc
  cases b <;> decide)
theorem init_ok (rs : List (List Bool)) (h1 : 1 ≤ rs.length) (h2 : rs.length ≤ 10) (h3 : ∀ r ∈ rs, 1 ≤ r.length ∧ r.length ≤ 40) (hk : O[k]? = some ⟨c, []⟩) (hc : IsH c) :
    F_Hall_init (.obj k :: rs.map fun r => .str (rS r)) O = .val (.im .non) (O.set k (hal c ⟨rs, [], 0⟩ [])) := by
  show (if 1 ≤ (D.obj k :: rs.map fun r => D.str (rS r)).length ∧ (D.obj k :: rs.map fun r => D.str (rS r)).length ≤ 1000000 then runB 3 B_Hall_init ([D.obj k] ++ [rowsD rs]) O else .bad) = _
  rw [if_pos ⟨by simp, by simp; omega⟩]
  have e : B_Hall_init ⟨[.im (.obj k), .im (rowsD rs), .un], O⟩ = .val .nxt ⟨[.im (.obj k), .im (rowsD rs), .un], O.set k (hal c ⟨rs, [], 0⟩ [])⟩ := by
    have hch : Er (eChain .LtE .LtE (fz (eC (.int 1))) (fz (eFn fLen (aCons (pVar 1) (aNil)))) (fz (eC (.int 10)))) ⟨[.im (.obj k), .im (rowsD rs), .un], O⟩ (.im (.bl true)) := by
      have := er_chain (op := .LtE) (op' := .LtE) (w := ⟨[.im (.obj k), .im (rowsD rs), .un], O⟩) (a := fz (eC (.int 1))) (b := fz (eFn fLen (aCons (pVar 1) (aNil)))) (c := fz (eC (.int 10))) (x := .int 1) (y := nD rs.length) (z := .int 10) er_c.fz (er_fn (ea_cons (ev_p rfl) ea_nil) (by unfold rowsD; rw [fLen_tup, List.length_map])).fz er_c.fz (k := decide ((1 : Int) ≤ (rs.length : Int))) (k2 := decide ((rs.length : Int) ≤ 10)) rfl rfl
      rw [decide_eq_true (by omega), decide_eq_true (by omega)] at this
      exact this
    have hlc : Er (eFn fAll (aCons (fz (eLc [2] [] (iSeq (pVar 1)) (gN 2) (tYesM) (fz (eCall0 F_is_row (aCons (fz (eVar 2)) (aNil)))))) (aNil))) ⟨[.im (.obj k), .im (rowsD rs), .un], O⟩ (.im (.bl true)) := by
      refine er_fn (ea_cons (er_lc (acc := rs.map fun _ => D.bl true) (it_seq (ev_p rfl) rfl) rfl ?_).fzo ea_nil) ?_
      · refine lcL_all (fun r => D.str (rS r)) (fun _ => D.bl true) rs (by omega) fun r hr => ?_
        obtain ⟨q1, q2⟩ := h3 r hr
        have i0 := is_row_ok (.str (rS r)) O (pl_row' r q2)
        rw [rowB_rS q1 q2] at i0
        exact ⟨_, rfl, rfl, (er_call (ea_cons (er_v rfl).fz ea_nil) i0).fz⟩
      · show (blsD _).map _ = _
        have : ∀ rs : List (List Bool), blsD (rs.map fun _ => D.bl true) = some (rs.map fun _ => true) := by
          intro rs
          induction rs with
          | nil => rfl
          | cons r rs ih => simp only [List.map_cons, blsD, ih, Option.map_some]
        rw [this]
        simp
    refine (st_on (val_to (b := false) (t_or (t_not (tv_er hch)) (t_not (tv_er hlc))) rfl)).trans ?_
    have p0 : ∀ (f : Str) (d : D) (fs : List (Str × D)) (v : M D) (O : List Rec), fs.length < 1000 → O[k]? = some ⟨c, fs⟩ → Ev v ⟨[.im (.obj k), .im (rowsD rs), .un], O⟩ d → sFldD CSH f v (pVar 0) ⟨[.im (.obj k), .im (rowsD rs), .un], O⟩ = .val .nxt ⟨[.im (.obj k), .im (rowsD rs), .un], O.set k ⟨c, putD f d fs⟩⟩ :=
      fun f d fs v O hl hk hv => sfld_v hv (ev_p rfl) hk hc.cs hl
    refine st_seq (p0 _ (rowsD rs) _ _ _ (by show 0 < 1000; decide) hk (er_v rfl).fz) ?_
    refine st_seq (p0 _ (.tup []) _ _ _ (by have := putD_len "lines" (rowsD rs) []; simp only [List.length_nil] at this; omega) (set_at hk) (er_tup ea_nil (by simp)).fz) ?_
    refine st_seq (p0 _ (nD 0) _ _ _ (by have := putD_len "lines" (rowsD rs) []; have := putD_len "book_list" (.tup []) (putD "lines" (rowsD rs) []); simp only [List.length_nil] at *; omega) (set_at (set_at hk)) er_c.fz) ?_
    refine Eq.trans (p0 _ (.tup []) _ _ _ (by have := putD_len "lines" (rowsD rs) []; have := putD_len "book_list" (.tup []) (putD "lines" (rowsD rs) []); have := putD_len "next_number" (nD 0) (putD "book_list" (.tup []) (putD "lines" (rowsD rs) [])); simp only [List.length_nil] at *; omega) (set_at (set_at (set_at hk))) (er_tup ea_nil (by simp)).fz) ?_
    simp only [List.set_set, pt_0]
    rfl
  unfold runB
  rw [show (⟨([D.obj k] ++ [rowsD rs]).map Rv.im ++ List.replicate (3 - ([D.obj k] ++ [rowsD rs]).length) .un, O⟩ : W) = ⟨[.im (.obj k), .im (rowsD rs), .un], O⟩ from rfl, e]
theorem empty_ok (ls : List Nat) (h1 : 1 ≤ ls.length) (h2 : ls.length ≤ 10) (h3 : ∀ n ∈ ls, 1 ≤ n ∧ n ≤ 40) :
    F_Hall_empty (.cls "Hall" :: ls.map nD) O = .val (.im (.obj O.length)) (O ++ [hal "Hall" ⟨ls.map (List.replicate · true), [], 0⟩ []]) := by
  show (if 1 ≤ (D.cls "Hall" :: ls.map nD).length ∧ (D.cls "Hall" :: ls.map nD).length ≤ 1000000 then runB 4 B_Hall_empty ([D.cls "Hall"] ++ [.tup (ls.map nD)]) O else .bad) = _
  rw [if_pos ⟨by simp, by simp; omega⟩]
  have e : B_Hall_empty ⟨[.im (.cls "Hall"), .im (.tup (ls.map nD)), .un, .un], O⟩ = .val (.ret (.im (.obj O.length))) ⟨[.im (.cls "Hall"), .im (.tup (ls.map nD)), .ow ((ls.map (List.replicate · true)).map fun r => .str (rS r)), .un], O ++ [hal "Hall" ⟨ls.map (List.replicate · true), [], 0⟩ []]⟩ := by
    have hlc : Er (eFn fAll (aCons (fz (eLc [3] [] (iSeq (pVar 1)) (gN 3) (tYesM) (fz (eCall0 F_is_integer (aCons (fz (eVar 3)) (aCons (fz (eC (.int 1))) (aCons (fz (eC (.int 40))) (aNil)))))))) (aNil))) ⟨[.im (.cls "Hall"), .im (.tup (ls.map nD)), .un, .un], O⟩ (.im (.bl true)) := by
      refine er_fn (ea_cons (er_lc (acc := ls.map fun _ => D.bl true) (it_seq (ev_p rfl) rfl) rfl ?_).fzo ea_nil) ?_
      · refine lcL_all nD (fun _ => D.bl true) ls (by omega) fun n hn => ?_
        obtain ⟨q1, q2⟩ := h3 n hn
        have i0 := integer_ok (pl_n n) 1 40 O
        rw [show isI (nD n) 1 40 = true from isI_n (lo := 1) (hi := 40) q1 q2] at i0
        exact ⟨_, rfl, rfl, (er_call (ea_cons (er_v rfl).fz (ea_cons er_c.fz (ea_cons er_c.fz ea_nil))) i0).fz⟩
      · show (blsD _).map _ = _
        have : ∀ rs : List Nat, blsD (rs.map fun _ => D.bl true) = some (rs.map fun _ => true) := by
          intro rs
          induction rs with
          | nil => rfl
          | cons r rs ih => simp only [List.map_cons, blsD, ih, Option.map_some]
        rw [this]
        simp
    refine (st_on (val_to (b := false) (t_not (tv_er hlc)) rfl)).trans ?_
    refine st_seq (w1 := ⟨[.im (.cls "Hall"), .im (.tup (ls.map nD)), .ow ((ls.map (List.replicate · true)).map fun r => .str (rS r)), .un], O⟩) (st_asg (er_lc (it_seq (ev_p rfl) rfl) rfl ?_)) ?_
    · rw [List.map_map]
      refine lcL_all nD _ ls (by omega) fun n hn => ?_
      obtain ⟨q1, q2⟩ := h3 n hn
      have m1 : bopD .Mult (.str ".") (nD n) = some (.im (.str (rS (List.replicate n true)))) := by rw [show (("." : Str)) = rS [true] from s_dot]; exact mul_row true n (by omega)
      exact ⟨_, rfl, rfl, (er_bin er_c.fz (ev_p rfl) m1).fz⟩
    · have hi := init_ok (O := O ++ [⟨"Hall", []⟩]) (k := O.length) (c := "Hall") (ls.map (List.replicate · true)) (by simpa using h1) (by simpa using h2) (fun r hr => by
        obtain ⟨n, hn, rfl⟩ := List.mem_map.mp hr
        simpa using h3 n hn) (by simp) (.inl rfl)
      rw [List.set_append_right _ _ (Nat.le_refl _), Nat.sub_self] at hi
      exact ret_v (makev_v (ev_p rfl) (tb_h _ _) (ev_po rfl) rfl hi)
  unfold runB
  rw [show (⟨([D.cls "Hall"] ++ [D.tup (ls.map nD)]).map Rv.im ++ List.replicate (4 - ([D.cls "Hall"] ++ [D.tup (ls.map nD)]).length) .un, O⟩ : W) = ⟨[.im (.cls "Hall"), .im (.tup (ls.map nD)), .un, .un], O⟩ from rfl, e]
/-! ### == -/
theorem kindT (x : D) (w : W) (i : Nat) (hi : w.ρ[i]? = some (.im (.obj k))) (hk : w.O[k]? = some (hal c s es)) (hc : IsH c) : Ev (fz (eMth [("Hall", F_Hall_kind), ("LenientHall", F_LenientHall_kind)] "kind" (pVar i) aNil)) w (.str (if c = "Hall" then "hall" else "lenienthall")) := by
  rcases hc with rfl | rfl
  · exact fz_v (r := .im (.str "hall")) (meth_v (ev_p hi) hk (lk_no _ _ _ _ (by decide +kernel)) (tb_h _ _) nil_v (kind_ok _))
  · rw [if_neg (bne' hl_ne.1)]
    exact fz_v (r := .im (.str "lenienthall")) (meth_v (ev_p hi) hk (lk_no _ _ _ _ (by decide +kernel)) (tb_l _ _) nil_v (kindL_ok _))
theorem marksT (w : W) (i : Nat) (hi : w.ρ[i]? = some (.im (.obj k))) (hk : w.O[k]? = some (hal c s es)) (hc : IsH c) : Ev (fz (eMth [("Hall", F_Hall_marks), ("LenientHall", F_Hall_marks)] "marks" (pVar i) aNil)) w (.tup [rowsD s.rs, bksD s.bs]) :=
  fz_v (r := .im _) (meth_v (ev_p hi) hk (lk_no _ _ _ _ (by decide +kernel)) (tb_s _ hc) nil_v (marks_ok hk hc))
theorem eq_ok {j : Nat} {c' : Str} {s' : HS} {es' : List HS} (hk : O[k]? = some (hal c s es)) (hc : IsH c) (hj : O[j]? = some (hal c' s' es')) (hc' : IsH c') :
    F_Hall_eq [.obj k, .obj j] O = .val (.im (.bl (decide (c = c' ∧ s.rs = s'.rs ∧ s.bs = s'.bs)))) O := by
  show runB 2 B_Hall_eq [.obj k, .obj j] O = _
  have ic : isC [("Hall", true), ("LenientHall", true)] O (.obj j) = some true := by
    unfold isC
    rw [recO_of (w := ⟨[], O⟩) hj]
    exact tb_s true hc'
  have ck : cmpD .Eq (.str (if c = "Hall" then "hall" else "lenienthall")) (.str (if c' = "Hall" then "hall" else "lenienthall")) = some (decide (c = c')) := by
    rcases hc with rfl | rfl <;> rcases hc' with rfl | rfl <;> decide +kernel
  have cm : cmpD .Eq (.tup [rowsD s.rs, bksD s.bs]) (.tup [rowsD s'.rs, bksD s'.bs]) = some (decide (s.rs = s'.rs ∧ s.bs = s'.bs)) := by
    have ok : ∀ s : HS, eqOk (.tup [rowsD s.rs, bksD s.bs]) = true := fun s => eqOk_of 3 (by simp only [lay_tup, List.all_cons, List.all_nil, lay_rows, lay_bks, Bool.and_true]) (by simp only [dep_tup, List.all_cons, List.all_nil, dep_rows, dep_bks, Bool.and_true])
    show (if eqOk _ && eqOk _ then some (eqD _ _) else none) = _
    rw [ok s, ok s', eqD_tup, eqDs_cons, eqDs_cons, eqDs_nil, eqD_rows, eqD_bks, Bool.and_true]
    simp
  have e : B_Hall_eq ⟨[.im (.obj k), .im (.obj j)], O⟩ = .val (.ret (.im (.bl (decide (c = c' ∧ s.rs = s'.rs ∧ s.bs = s'.bs))))) ⟨[.im (.obj k), .im (.obj j)], O⟩ := by
    refine Eq.trans (st_ret (er_and (tv_er (isc_v (ev_p rfl) ic)) fun _ => er_and (tv_er (er_cmp (kindT (.obj k) _ 0 rfl hk hc) (kindT (.obj k) _ 1 rfl hj hc') ck)) fun _ => er_cmp (marksT _ 0 rfl hk hc) (marksT _ 1 rfl hj hc') cm)) ?_
    rw [Bool.true_and, ← Bool.decide_and]
  unfold runB
  rw [show (⟨[D.obj k, D.obj j].map Rv.im ++ List.replicate (2 - [D.obj k, D.obj j].length) .un, O⟩ : W) = ⟨[.im (.obj k), .im (.obj j)], O⟩ from rfl, e]
theorem eq_dat {y : D} (hk : O[k]? = some (hal c s es)) (hc : IsH c) (hy : Pl y) : F_Hall_eq [.obj k, y] O = .val (.im (.bl false)) O := by
  show runB 2 B_Hall_eq [.obj k, y] O = _
  have ic : isC [("Hall", true), ("LenientHall", true)] O y = some false := by
    cases hy <;> rfl
  have e : B_Hall_eq ⟨[.im (.obj k), .im y], O⟩ = .val (.ret (.im (.bl false))) ⟨[.im (.obj k), .im y], O⟩ :=
    st_ret (er_and (k := false) (k2 := false) (tv_er (isc_v (ev_p rfl) ic)) fun z => Bool.noConfusion z)
  unfold runB
  rw [show (⟨[D.obj k, y].map Rv.im ++ List.replicate (2 - [D.obj k, y].length) .un, O⟩ : W) = ⟨[.im (.obj k), .im y], O⟩ from rfl, e]
abbrev TEQ : List (Str × Fn) := [("Hall", F_Hall_eq), ("LenientHall", F_Hall_eq)]
abbrev TSB : List (Str × Str) := [("LenientHall", "Hall")]
theorem eqO_hh {ρ : List Rv} {j : Nat} {c' : Str} {s' : HS} {es' : List HS} (hk : O[k]? = some (hal c s es)) (hc : IsH c) (hj : O[j]? = some (hal c' s' es')) (hc' : IsH c') :
    eqO TEQ TSB (.obj k) (.obj j) ⟨ρ, O⟩ = .val (.im (.bl (decide (c = c' ∧ s.rs = s'.rs ∧ s.bs = s'.bs)))) ⟨ρ, O⟩ := by
  have hr : rightO O (.obj j) = some (some c') := by
    unfold rightO
    rw [recO_of (w := ⟨[], O⟩) hj]; rfl
  have e1 := eq_ok hk hc hj hc'
  have e2 := eq_ok hj hc' hk hc
  have e3 : decide (c' = c ∧ s'.rs = s.rs ∧ s'.bs = s.bs) = decide (c = c' ∧ s.rs = s'.rs ∧ s.bs = s'.bs) := by
    congr 1
    exact propext ⟨fun ⟨a, b, d⟩ => ⟨a.symm, b.symm, d.symm⟩, fun ⟨a, b, d⟩ => ⟨a.symm, b.symm, d.symm⟩⟩
  rw [e3] at e2
  unfold eqO
  dsimp only
  rw [recO_of (w := ⟨ρ, O⟩) hk, hr]
  show (if c' = c then (match TEQ.lookup c with | some F => liftF0 F [.obj k, .obj j] ⟨ρ, O⟩ | none => .bad)
    else if TSB.contains (c', c) then (match TEQ.lookup c' with | some F => liftF0 F [.obj j, .obj k] ⟨ρ, O⟩ | none => .bad)
    else if TSB.contains (c, c') then (match TEQ.lookup c with | some F => liftF0 F [.obj k, .obj j] ⟨ρ, O⟩ | none => .bad) else .bad) = _
  rw [tb_s _ hc, tb_s _ hc']
  dsimp only
  rw [liftF0_ap, liftF0_ap, e1, e2]
  dsimp only
  rcases hc with rfl | rfl <;> rcases hc' with rfl | rfl
  · rw [if_pos rfl]
  · rw [if_neg (bne' hl_ne.1), if_pos (by decide +kernel)]
  · rw [if_neg (bne' hl_ne.2), if_neg (by decide +kernel), if_pos (by decide +kernel)]
  · rw [if_pos rfl]
theorem eqO_hd {ρ : List Rv} {y : D} (hk : O[k]? = some (hal c s es)) (hc : IsH c) (hy : Pl y) : eqO TEQ TSB (.obj k) y ⟨ρ, O⟩ = .val (.im (.bl false)) ⟨ρ, O⟩ := by
  have hr : rightO O y = some none := by cases hy <;> rfl
  unfold eqO
  dsimp only
  rw [recO_of (w := ⟨ρ, O⟩) hk, hr]
  show (match TEQ.lookup c with | some F => liftF0 F [.obj k, y] ⟨ρ, O⟩ | none => .bad) = _
  rw [tb_s _ hc]
  dsimp only
  rw [liftF0_ap, eq_dat hk hc hy]
end
end DL
end
section
set_option Elab.async false
set_option linter.all false
/-! denotations, printed by gen2.py -/
namespace DL
open PySem L2
noncomputable section
def B_law_made_1 : MS := sSeq (sAsg (gN 1) (eBin .Add (pVar 1) (fz (eLst (aCons (fz (eMake "Hall" F_Hall_init (aCons (fz (eVar 3)) (aNil)))) (aCons (fz (eMake "Hall" F_Hall_init (aCons (fz (eVar 3)) (aCons (fz (eVar 4)) (aNil))))) (aCons (fz (eMake "LenientHall" F_Hall_init (aCons (fz (eVar 3)) (aNil)))) (aCons (fz (eMake "LenientHall" F_Hall_init (aCons (fz (eVar 3)) (aCons (fz (eVar 4)) (aNil))))) (aNil))))))))) (sAsg (gN 2) (eBin .Add (pVar 2) (fz (eLst (aCons (fz (eTup (aCons (fz (eC (.int 0))) (aCons (fz (eTup (aCons (fz (eVar 3)) (aNil)))) (aNil))))) (aCons (fz (eTup (aCons (fz (eC (.int 0))) (aCons (fz (eTup (aCons (fz (eVar 3)) (aCons (fz (eVar 4)) (aNil))))) (aNil))))) (aCons (fz (eTup (aCons (fz (eC (.int 1))) (aCons (fz (eTup (aCons (fz (eVar 3)) (aNil)))) (aNil))))) (aCons (fz (eTup (aCons (fz (eC (.int 1))) (aCons (fz (eTup (aCons (fz (eVar 3)) (aCons (fz (eVar 4)) (aNil))))) (aNil))))) (aNil)))))))))
def B_law_made_2 : MS := sFor (iSeq (fz (eTup (aCons (fz (eC (.str ".."))) (aCons (fz (eC (.str "xx"))) (aNil)))))) (gN 4) (B_law_made_1)
def B_law_made : MS := sSeq (sPar [1, 2] (aConsR (eLst (aNil)) (aConsR (eLst (aNil)) (aNilR)))) (sSeq (sFor (iSeq (fz (eTup (aCons (fz (eVar 0)) (aCons (fz (eBin .Add (pVar 0) (fz (eC (.str "x"))))) (aNil)))))) (gN 3) (B_law_made_2)) (sRet (eTup (aCons (fz (eVar 1)) (aCons (fz (eVar 2)) (aNil))))))
def F_law_made : Fn := defF 1 5 B_law_made
def B_law_same_bookings : MS := sSeq (sAsg (gN 1) (eCMth "Hall" F_Hall_empty (aCons (fz (eVar 0)) (aCons (fz (eC (.int 9))) (aNil))))) (sSeq (sAsg (gN 2) (eCMth "Hall" F_Hall_empty (aCons (fz (eVar 0)) (aCons (fz (eC (.int 9))) (aNil))))) (sSeq (sAsg (gN 3) (eCMth "Hall" F_Hall_empty (aCons (fz (eVar 0)) (aCons (fz (eC (.int 9))) (aNil))))) (sSeq (sDrop (eMth [("Hall", F_Hall_book), ("LenientHall", F_Hall_book)] "book" (pVar 1) (aCons (fz (eC (.int 0))) (aCons (fz (eC (.int 0))) (aCons (fz (eC (.int 2))) (aNil)))))) (sSeq (sDrop (eMth [("Hall", F_Hall_book), ("LenientHall", F_Hall_book)] "book" (pVar 1) (aCons (fz (eC (.int 1))) (aCons (fz (eC (.int 0))) (aCons (fz (eC (.int 4))) (aNil)))))) (sSeq (sIf (tOrM (tV (fz (eCmp .IsNot (fz (eMth [("Hall", F_Hall_attempt), ("LenientHall", F_Hall_attempt)] "attempt" (pVar 2) (aCons (fz (eTup (aCons (fz (eC (.int 0))) (aCons (fz (eC (.int 0))) (aCons (fz (eC (.int 2))) (aNil)))))) (aCons (fz (eTup (aCons (fz (eC (.int 1))) (aCons (fz (eC (.int 0))) (aCons (fz (eC (.int 4))) (aNil)))))) (aNil))))) (fz (eC (.bl true)))))) (tNotM (tV (fz (eEqO [("Hall", F_Hall_eq), ("LenientHall", F_Hall_eq)] [("LenientHall", "Hall")] (fz (eVar 1)) (fz (eVar 2))))))) (sRet (eC (.bl false))) (sNx)) (sSeq (sDrop (eMth [("Hall", F_Hall_book), ("LenientHall", F_Hall_book)] "book" (pVar 3) (aCons (fz (eC (.int 1))) (aCons (fz (eC (.int 0))) (aCons (fz (eC (.int 4))) (aNil)))))) (sSeq (sDrop (eMth [("Hall", F_Hall_book), ("LenientHall", F_Hall_book)] "book" (pVar 3) (aCons (fz (eC (.int 0))) (aCons (fz (eC (.int 0))) (aCons (fz (eC (.int 2))) (aNil)))))) (sSeq (sIf (tOrM (tV (fz (eEqO [("Hall", F_Hall_eq), ("LenientHall", F_Hall_eq)] [("LenientHall", "Hall")] (fz (eVar 1)) (fz (eVar 3))))) (tV (fz (eCmp .NotEq (fz (eProp [("Hall", F_Hall_rows), ("LenientHall", F_Hall_rows)] (pVar 1))) (fz (eProp [("Hall", F_Hall_rows), ("LenientHall", F_Hall_rows)] (pVar 3))))))) (sRet (eC (.bl false))) (sNx)) (sSeq (sDrop (eMth [("Hall", F_Hall_cancel), ("LenientHall", F_Hall_cancel)] "cancel" (pVar 1) (aCons (fz (eC (.int 1))) (aNil)))) (sSeq (sIf (tOrM (tV (fz (eEqO [("Hall", F_Hall_eq), ("LenientHall", F_Hall_eq)] [("LenientHall", "Hall")] (fz (eVar 1)) (fz (eVar 2))))) (tV (fz (eCmp .Eq (fz (eProp [("Hall", F_Hall_rows), ("LenientHall", F_Hall_rows)] (pVar 1))) (fz (eProp [("Hall", F_Hall_rows), ("LenientHall", F_Hall_rows)] (pVar 2))))))) (sRet (eC (.bl false))) (sNx)) (sSeq (sDrop (eMth [("Hall", F_Hall_undo), ("LenientHall", F_Hall_undo)] "undo" (pVar 1) aNil)) (sSeq (sIf (tNotM (tV (fz (eEqO [("Hall", F_Hall_eq), ("LenientHall", F_Hall_eq)] [("LenientHall", "Hall")] (fz (eVar 1)) (fz (eVar 2)))))) (sRet (eC (.bl false))) (sNx)) (sSeq (sDrop (eMth [("Hall", F_Hall_undo), ("LenientHall", F_Hall_undo)] "undo" (pVar 1) aNil)) (sSeq (sDrop (eMth [("Hall", F_Hall_undo), ("LenientHall", F_Hall_undo)] "undo" (pVar 1) aNil)) (sRet (eEqO [("Hall", F_Hall_eq), ("LenientHall", F_Hall_eq)] [("LenientHall", "Hall")] (fz (eVar 1)) (fz (eCMth "Hall" F_Hall_empty (aCons (fz (eVar 0)) (aCons (fz (eC (.int 9))) (aNil)))))))))))))))))))))
def F_law_same_bookings : Fn := defF 1 4 B_law_same_bookings
def B_law_1 : MS := sIf (tV (fz (eCmp .NotEq (fz (eEqO [("Hall", F_Hall_eq), ("LenientHall", F_Hall_eq)] [("LenientHall", "Hall")] (fz (eVar 6)) (fz (eVar 8)))) (fz (eCmp .Eq (fz (eIx (pVar 4) (pVar 5))) (fz (eIx (pVar 4) (pVar 7)))))))) (sRet (eC (.bl false))) (sNx)
def B_law_2 : MS := sSeq (sFor (iEn (aCons (fz (eVar 3)) (aNil))) (gT [7, 8]) (B_law_1)) (sIf (tOrM (tV (fz (eEqO [("Hall", F_Hall_eq), ("LenientHall", F_Hall_eq)] [("LenientHall", "Hall")] (fz (eVar 6)) (fz (eIx (pVar 4) (pVar 5)))))) (tOrM (tV (fz (eEqO [("Hall", F_Hall_eq), ("LenientHall", F_Hall_eq)] [("LenientHall", "Hall")] (fz (eVar 6)) (fz (eProp [("Hall", F_Hall_rows), ("LenientHall", F_Hall_rows)] (pVar 6)))))) (tV (fz (eEqO [("Hall", F_Hall_eq), ("LenientHall", F_Hall_eq)] [("LenientHall", "Hall")] (fz (eVar 6)) (fz (eCall0 F_law_any_value (aCons (fz (eSl (pVar 2) (oSo (fz (eC (.int 9)))) (oNo))) (aCons (fz (eC (.int 0))) (aNil)))))))))) (sRet (eC (.bl false))) (sNx))
def B_law_3 : MS := sSeq (sAsg (gN 2) (eCall0 F_law_digits (aCons (fz (eVar 0)) (aCons (fz (eVar 1)) (aCons (fz (eC (.int 60))) (aCons (fz (eC (.int 27720))) (aNil))))))) (sSeq (sAsg (gT [3, 4]) (eCall0 F_law_made (aCons (fz (eBin .Add (fz (eCall0 F_law_row (aCons (fz (eVar 2)) (aCons (fz (eC (.int 30))) (aNil))))) (fz (eC (.str "......"))))) (aNil)))) (sSeq (sFor (iEn (aCons (fz (eVar 3)) (aNil))) (gT [5, 6]) (B_law_2)) (sIf (tNotM (tV (fz (eCall0 F_law_same_bookings (aCons (fz (eBin .Add (fz (eC (.int 6))) (fz (eBin .Mod (fz (eIx (pVar 2) (fz (eC (.int 50))))) (fz (eC (.int 30))))))) (aNil)))))) (sRet (eC (.bl false))) (sNx))))
def B_law : MS := sSeq (sFor (iRg1 (aCons (fz (eC (.int 6))) (aNil))) (gN 1) (B_law_3)) (sSeq (sAsg (gN 6) (eMake "Hall" F_Hall_init (aCons (fz (eC (.str "...."))) (aNil)))) (sSeq (sDrop (eMth [("Hall", F_Hall_book), ("LenientHall", F_Hall_book)] "book" (pVar 6) (aCons (fz (eC (.int 0))) (aCons (fz (eC (.int 0))) (aCons (fz (eC (.int 4))) (aNil)))))) (sSeq (sDrop (eMth [("Hall", F_Hall_cancel), ("LenientHall", F_Hall_cancel)] "cancel" (pVar 6) (aCons (fz (eC (.int 0))) (aNil)))) (sSeq (sIf (tOrM (tNotM (tV (fz (eEqO [("Hall", F_Hall_eq), ("LenientHall", F_Hall_eq)] [("LenientHall", "Hall")] (fz (eVar 6)) (fz (eMake "Hall" F_Hall_init (aCons (fz (eC (.str "...."))) (aNil)))))))) (tV (fz (eCmp .NotEq (fz (eMth [("Hall", F_Hall_book), ("LenientHall", F_Hall_book)] "book" (pVar 6) (aCons (fz (eC (.int 0))) (aCons (fz (eC (.int 0))) (aCons (fz (eC (.int 4))) (aNil)))))) (fz (eC (.int 1))))))) (sRet (eC (.bl false))) (sNx)) (sSeq (sAsg (gN 8) (eMake "Hall" F_Hall_init (aCons (fz (eC (.str "...."))) (aNil)))) (sRet (eAnd (eCmp .Eq (fz (eMth [("Hall", F_Hall_book), ("LenientHall", F_Hall_book)] "book" (pVar 8) (aCons (fz (eC (.int 0))) (aCons (fz (eC (.int 0))) (aCons (fz (eC (.int 4))) (aNil)))))) (fz (eC (.int 0)))) (eAnd (eNot (eEqO [("Hall", F_Hall_eq), ("LenientHall", F_Hall_eq)] [("LenientHall", "Hall")] (fz (eVar 6)) (fz (eVar 8)))) (eCmp .Eq (fz (eProp [("Hall", F_Hall_rows), ("LenientHall", F_Hall_rows)] (pVar 6))) (fz (eProp [("Hall", F_Hall_rows), ("LenientHall", F_Hall_rows)] (pVar 8))))))))))))
def F_law : Fn := defF 1 9 B_law
end
end DL
end
section
set_option Elab.async false
set_option linter.all false
set_option maxRecDepth 100000
set_option maxHeartbeats 4000000
namespace DL
open PySem PySem.Spec PyProof.Rows L2
def topS (i : Nat) : Stmt := PySem.Challenge.pw_seatgaps_k17_equal_halls.main.body.getD i (.Pass ⟨0, 0, 0, 0⟩)
abbrev s_law_cell : Stmt := topS 22
abbrev N_law_cell : List Str := ["script", "index"]
theorem der_law_cell {X : Cx} (hN : X.N = N_law_cell) (hS : X.env.scope = defScope s_law_cell) (nd : X.N.Nodup) (hc : X.calm = true) (hu : X.A.units + 70 < cLine) (hfn : ∀ x, X.fn x = true) (hp : PassesOwn (model X.prog X.w) X.A X.env X.xe) (m_len : X.mg "len" = none) : PSs X (defBody s_law_cell) (rdS (kp X) W0 B_law_cell) := by
  have n0 : X.N[0]? = some ("script" : Str) := nm_of hN rfl
  have d0 : (("script" : Str) == ("__debug__" : Str)) = false ∧ (("script" : Str) == ("__classdict__" : Str)) = false := ⟨by decide +kernel, by decide +kernel⟩
  have v0 : Vis X.env.scope "script" := vis_of hS (by first | exact Or.inl (by decide +kernel) | exact Or.inr (Or.inl (by decide +kernel)))
  have l0 : Loc X.env.scope "script" := loc_of hS (by first | exact Or.inl (by decide +kernel) | exact Or.inr (by decide +kernel))
  have hf0 : X.fn "script" = true ∨ X.env.scope.names.lookup ("script" : Str) = some .local := .inl (hfn _)
  have n1 : X.N[1]? = some ("index" : Str) := nm_of hN rfl
  have d1 : (("index" : Str) == ("__debug__" : Str)) = false ∧ (("index" : Str) == ("__classdict__" : Str)) = false := ⟨by decide +kernel, by decide +kernel⟩
  have v1 : Vis X.env.scope "index" := vis_of hS (by first | exact Or.inl (by decide +kernel) | exact Or.inr (Or.inl (by decide +kernel)))
  have l1 : Loc X.env.scope "index" := loc_of hS (by first | exact Or.inl (by decide +kernel) | exact Or.inr (by decide +kernel))
  have hf1 : X.fn "index" = true ∨ X.env.scope.names.lookup ("index" : Str) = some .local := .inl (hfn _)
  have g_len : Gl X "len" := gl_of hS (by decide +kernel)
  exact rs_cons (rs_if (rd_tcmp hu (rdp_var 1 n1 v1 d1.1 d1.2) (rd_pv (rd_fz (rd_fnB cr_len g_len m_len (by decide +kernel) (rd_q1 (rdp_var 0 n0 v0 d0.1 d0.2) (rd_q0))))) (nomark _)) (rs_one (rs_ret (rd_ix (rdp_var 0 n0 v0 d0.1 d0.2) (rdp_var 1 n1 v1 d1.1 d1.2)))) (rs_nil)) (rs_cons (rs_if (rd_tcmp hu (rd_pv (rd_fz (rd_fnB cr_len g_len m_len (by decide +kernel) (rd_q1 (rdp_var 0 n0 v0 d0.1 d0.2) (rd_q0))))) (rd_pv (rd_fz (rd_int))) (nomark _)) (rs_one (rs_ret (rd_bin (rd_pv (rd_fz (rd_bin (rd_pv (rd_fz (rd_int))) (rdp_var 1 n1 v1 d1.1 d1.2)))) (rd_pv (rd_fz (rd_int)))))) (rs_nil)) (rs_one (rs_ret (rd_bin (rd_pv (rd_fz (rd_bin (rd_pv (rd_fz (rd_ix (rdp_var 0 n0 v0 d0.1 d0.2) (rd_pv (rd_fz (rd_bin (rdp_var 1 n1 v1 d1.1 d1.2) (rd_pv (rd_fz (rd_fnB cr_len g_len m_len (by decide +kernel) (rd_q1 (rdp_var 0 n0 v0 d0.1 d0.2) (rd_q0))))))))))) (rd_pv (rd_fz (rd_int)))))) (rd_pv (rd_fz (rd_bin (rd_pv (rd_fz (rd_int))) (rdp_var 1 n1 v1 d1.1 d1.2))))))))
abbrev s_law_digits : Stmt := topS 23
abbrev N_law_digits : List Str := ["script", "index", "count", "base", "primes", "cell", "rest", "digits", "k", "mixed"]
theorem der_law_digits {X : Cx} (hN : X.N = N_law_digits) (hS : X.env.scope = defScope s_law_digits) (nd : X.N.Nodup) (hc : X.calm = true) (hu : X.A.units + 70 < cLine) (hfn : ∀ x, X.fn x = true) (hp : PassesOwn (model X.prog X.w) X.A X.env X.xe) (C__law_cell : Cal X "_law_cell" F_law_cell) (m_range : X.mg "range" = none) : PSs X (defBody s_law_digits) (rdS (kp X) W0 B_law_digits) := by
  have n0 : X.N[0]? = some ("script" : Str) := nm_of hN rfl
  have d0 : (("script" : Str) == ("__debug__" : Str)) = false ∧ (("script" : Str) == ("__classdict__" : Str)) = false := ⟨by decide +kernel, by decide +kernel⟩
  have v0 : Vis X.env.scope "script" := vis_of hS (by first | exact Or.inl (by decide +kernel) | exact Or.inr (Or.inl (by decide +kernel)))
  have l0 : Loc X.env.scope "script" := loc_of hS (by first | exact Or.inl (by decide +kernel) | exact Or.inr (by decide +kernel))
  have hf0 : X.fn "script" = true ∨ X.env.scope.names.lookup ("script" : Str) = some .local := .inl (hfn _)
  have n1 : X.N[1]? = some ("index" : Str) := nm_of hN rfl
  have d1 : (("index" : Str) == ("__debug__" : Str)) = false ∧ (("index" : Str) == ("__classdict__" : Str)) = false := ⟨by decide +kernel, by decide +kernel⟩
  have v1 : Vis X.env.scope "index" := vis_of hS (by first | exact Or.inl (by decide +kernel) | exact Or.inr (Or.inl (by decide +kernel)))
  have l1 : Loc X.env.scope "index" := loc_of hS (by first | exact Or.inl (by decide +kernel) | exact Or.inr (by decide +kernel))
  have hf1 : X.fn "index" = true ∨ X.env.scope.names.lookup ("index" : Str) = some .local := .inl (hfn _)
  have n2 : X.N[2]? = some ("count" : Str) := nm_of hN rfl
  have d2 : (("count" : Str) == ("__debug__" : Str)) = false ∧ (("count" : Str) == ("__classdict__" : Str)) = false := ⟨by decide +kernel, by decide +kernel⟩
  have v2 : Vis X.env.scope "count" := vis_of hS (by first | exact Or.inl (by decide +kernel) | exact Or.inr (Or.inl (by decide +kernel)))
  have l2 : Loc X.env.scope "count" := loc_of hS (by first | exact Or.inl (by decide +kernel) | exact Or.inr (by decide +kernel))
  have hf2 : X.fn "count" = true ∨ X.env.scope.names.lookup ("count" : Str) = some .local := .inl (hfn _)
  have n3 : X.N[3]? = some ("base" : Str) := nm_of hN rfl
  have d3 : (("base" : Str) == ("__debug__" : Str)) = false ∧ (("base" : Str) == ("__classdict__" : Str)) = false := ⟨by decide +kernel, by decide +kernel⟩
  have v3 : Vis X.env.scope "base" := vis_of hS (by first | exact Or.inl (by decide +kernel) | exact Or.inr (Or.inl (by decide +kernel)))
  have l3 : Loc X.env.scope "base" := loc_of hS (by first | exact Or.inl (by decide +kernel) | exact Or.inr (by decide +kernel))
  have hf3 : X.fn "base" = true ∨ X.env.scope.names.lookup ("base" : Str) = some .local := .inl (hfn _)
  have n4 : X.N[4]? = some ("primes" : Str) := nm_of hN rfl
  have d4 : (("primes" : Str) == ("__debug__" : Str)) = false ∧ (("primes" : Str) == ("__classdict__" : Str)) = false := ⟨by decide +kernel, by decide +kernel⟩
  have v4 : Vis X.env.scope "primes" := vis_of hS (by first | exact Or.inl (by decide +kernel) | exact Or.inr (Or.inl (by decide +kernel)))
  have l4 : Loc X.env.scope "primes" := loc_of hS (by first | exact Or.inl (by decide +kernel) | exact Or.inr (by decide +kernel))
  have hf4 : X.fn "primes" = true ∨ X.env.scope.names.lookup ("primes" : Str) = some .local := .inl (hfn _)
  have n5 : X.N[5]? = some ("cell" : Str) := nm_of hN rfl
  have d5 : (("cell" : Str) == ("__debug__" : Str)) = false ∧ (("cell" : Str) == ("__classdict__" : Str)) = false := ⟨by decide +kernel, by decide +kernel⟩
  have v5 : Vis X.env.scope "cell" := vis_of hS (by first | exact Or.inl (by decide +kernel) | exact Or.inr (Or.inl (by decide +kernel)))
  have l5 : Loc X.env.scope "cell" := loc_of hS (by first | exact Or.inl (by decide +kernel) | exact Or.inr (by decide +kernel))
  have hf5 : X.fn "cell" = true ∨ X.env.scope.names.lookup ("cell" : Str) = some .local := .inl (hfn _)
  have n6 : X.N[6]? = some ("rest" : Str) := nm_of hN rfl
  have d6 : (("rest" : Str) == ("__debug__" : Str)) = false ∧ (("rest" : Str) == ("__classdict__" : Str)) = false := ⟨by decide +kernel, by decide +kernel⟩
  have v6 : Vis X.env.scope "rest" := vis_of hS (by first | exact Or.inl (by decide +kernel) | exact Or.inr (Or.inl (by decide +kernel)))
  have l6 : Loc X.env.scope "rest" := loc_of hS (by first | exact Or.inl (by decide +kernel) | exact Or.inr (by decide +kernel))
  have hf6 : X.fn "rest" = true ∨ X.env.scope.names.lookup ("rest" : Str) = some .local := .inl (hfn _)
  have n7 : X.N[7]? = some ("digits" : Str) := nm_of hN rfl
  have d7 : (("digits" : Str) == ("__debug__" : Str)) = false ∧ (("digits" : Str) == ("__classdict__" : Str)) = false := ⟨by decide +kernel, by decide +kernel⟩
  have v7 : Vis X.env.scope "digits" := vis_of hS (by first | exact Or.inl (by decide +kernel) | exact Or.inr (Or.inl (by decide +kernel)))
  have l7 : Loc X.env.scope "digits" := loc_of hS (by first | exact Or.inl (by decide +kernel) | exact Or.inr (by decide +kernel))
  have hf7 : X.fn "digits" = true ∨ X.env.scope.names.lookup ("digits" : Str) = some .local := .inl (hfn _)
  have n8 : X.N[8]? = some ("k" : Str) := nm_of hN rfl
  have d8 : (("k" : Str) == ("__debug__" : Str)) = false ∧ (("k" : Str) == ("__classdict__" : Str)) = false := ⟨by decide +kernel, by decide +kernel⟩
  have v8 : Vis X.env.scope "k" := vis_of hS (by first | exact Or.inl (by decide +kernel) | exact Or.inr (Or.inl (by decide +kernel)))
  have l8 : Loc X.env.scope "k" := loc_of hS (by first | exact Or.inl (by decide +kernel) | exact Or.inr (by decide +kernel))
  have hf8 : X.fn "k" = true ∨ X.env.scope.names.lookup ("k" : Str) = some .local := .inl (hfn _)
  have n9 : X.N[9]? = some ("mixed" : Str) := nm_of hN rfl
  have d9 : (("mixed" : Str) == ("__debug__" : Str)) = false ∧ (("mixed" : Str) == ("__classdict__" : Str)) = false := ⟨by decide +kernel, by decide +kernel⟩
  have v9 : Vis X.env.scope "mixed" := vis_of hS (by first | exact Or.inl (by decide +kernel) | exact Or.inr (Or.inl (by decide +kernel)))
  have l9 : Loc X.env.scope "mixed" := loc_of hS (by first | exact Or.inl (by decide +kernel) | exact Or.inr (by decide +kernel))
  have hf9 : X.fn "mixed" = true ∨ X.env.scope.names.lookup ("mixed" : Str) = some .local := .inl (hfn _)
  have g__law_cell : Gl X "_law_cell" := gl_of hS (by decide +kernel)
  have g_range : Gl X "range" := gl_of hS (by decide +kernel)
  have e__law_cell : (("_law_cell" : Str) == ("__debug__" : Str)) = false := by decide +kernel
  exact rs_cons (rs_set 4 (rd_tup (rd_a1 (rd_fz (rd_int)) (rd_a1 (rd_fz (rd_int)) (rd_a1 (rd_fz (rd_int)) (rd_a1 (rd_fz (rd_int)) (rd_a1 (rd_fz (rd_int)) (rd_a1 (rd_fz (rd_int)) (rd_a1 (rd_fz (rd_int)) (rd_a1 (rd_fz (rd_int)) (rd_a0)))))))))) nd n4 l4 (hf := hf4)) (rs_cons (rs_set 5 (rd_cal C__law_cell g__law_cell e__law_cell (rd_a1 (rd_fz (rd_var 0 n0 v0 d0.1 d0.2)) (rd_a1 (rd_fz (rd_var 1 n1 v1 d1.1 d1.2)) (rd_a0)))) nd n5 l5 (hf := hf5)) (rs_cons (rs_set 6 (rd_if (rd_tcmp hu (rdp_var 5 n5 v5 d5.1 d5.2) (rd_pv (rd_fz (rd_bin (rd_pv (rd_fz (rd_int))) (rd_pv (rd_fz (rd_int)))))) (nomark _)) (rd_var 5 n5 v5 d5.1 d5.2) (rd_int)) nd n6 l6 (hf := hf6)) (rs_cons (rs_set 7 (rd_lst (rd_a0)) nd n7 l7 (hf := hf7)) (rs_cons (rs_for [8] hp hc (ri_rg1 g_range m_range (rd_q1 (rdp_var 2 n2 v2 d2.1 d2.2) (rd_q0))) (rg_name 8 (by decide) nd n8 l8 (hf8)) (rs_cons (rs_set 9 (rd_bin (rd_pv (rd_fz (rd_bin (rdp_var 5 n5 v5 d5.1 d5.2) (rd_pv (rd_fz (rd_ix (rdp_var 4 n4 v4 d4.1 d4.2) (rd_pv (rd_fz (rd_bin (rdp_var 8 n8 v8 d8.1 d8.2) (rd_pv (rd_fz (rd_int)))))))))))) (rd_pv (rd_fz (rd_bin (rd_pv (rd_fz (rd_int))) (rd_pv (rd_fz (rd_bin (rd_pv (rd_fz (rd_bin (rd_pv (rd_fz (rd_int))) (rdp_var 8 n8 v8 d8.1 d8.2)))) (rdp_var 8 n8 v8 d8.1 d8.2)))))))) nd n9 l9 (hf := hf9)) (rs_cons (rs_set 9 (rd_bin (rd_pv (rd_fz (rd_bin (rdp_var 9 n9 v9 d9.1 d9.2) (rd_pv (rd_fz (rd_bin (rd_pv (rd_fz (rd_bin (rd_pv (rd_fz (rd_int))) (rd_pv (rd_fz (rd_bin (rdp_var 8 n8 v8 d8.1 d8.2) (rd_pv (rd_fz (rd_int))))))))) (rd_pv (rd_fz (rd_bin (rdp_var 8 n8 v8 d8.1 d8.2) (rd_pv (rd_fz (rd_int)))))))))))) (rd_pv (rd_fz (rd_bin (rd_pv (rd_fz (rd_int))) (rdp_var 1 n1 v1 d1.1 d1.2))))) nd n9 l9 (hf := hf9)) (rs_cons (rs_set 9 (rd_bin (rdp_var 9 n9 v9 d9.1 d9.2) (rd_pv (rd_fz (rd_ix (rdp_var 4 n4 v4 d4.1 d4.2) (rd_pv (rd_fz (rd_bin (rd_pv (rd_fz (rd_bin (rd_pv (rd_fz (rd_bin (rd_pv (rd_fz (rd_int))) (rdp_var 8 n8 v8 d8.1 d8.2)))) (rdp_var 1 n1 v1 d1.1 d1.2)))) (rd_pv (rd_fz (rd_int)))))))))) nd n9 l9 (hf := hf9)) (rs_cons (rs_set 9 (rd_bin (rd_pv (rd_fz (rd_bin (rd_pv (rd_fz (rd_bin (rdp_var 9 n9 v9 d9.1 d9.2) (rdp_var 9 n9 v9 d9.1 d9.2)))) (rdp_var 9 n9 v9 d9.1 d9.2)))) (rd_pv (rd_fz (rd_ix (rdp_var 4 n4 v4 d4.1 d4.2) (rd_pv (rd_fz (rd_bin (rd_pv (rd_fz (rd_bin (rdp_var 8 n8 v8 d8.1 d8.2) (rd_pv (rd_fz (rd_int)))))) (rd_pv (rd_fz (rd_int)))))))))) nd n9 l9 (hf := hf9)) (rs_cons (rs_if (rd_tcmp hu (rdp_var 6 n6 v6 d6.1 d6.2) (rd_pv (rd_fz (rd_int))) (nomark _)) (rs_one (rs_set 9 (rd_var 6 n6 v6 d6.1 d6.2) nd n9 l9 (hf := hf9))) (rs_nil)) (rs_cons (rs_app 7 (pe_bm PySem.F.plainAttrs_list PySem.F.slot_list_append PySem.F.type_list_append mt_append (pe_var (i := 7) n7 v7 d7.1 d7.2) (pa_cons (rd_fz (rd_bin (rdp_var 9 n9 v9 d9.1 d9.2) (rdp_var 3 n3 v3 d3.1 d3.2))) pa_nil))) (rs_one (rs_set 6 (rd_bin (rdp_var 6 n6 v6 d6.1 d6.2) (rdp_var 3 n3 v3 d3.1 d3.2)) nd n6 l6 (hf := hf6)))))))))) (rs_one (rs_retV 7 n7 v7 d7.1 d7.2))))))
abbrev s_law_row : Stmt := topS 25
abbrev N_law_row : List Str := ["digits", "most", "row", "digit"]
theorem der_law_row {X : Cx} (hN : X.N = N_law_row) (hS : X.env.scope = defScope s_law_row) (nd : X.N.Nodup) (hc : X.calm = true) (hu : X.A.units + 70 < cLine) (hfn : ∀ x, X.fn x = true) (hp : PassesOwn (model X.prog X.w) X.A X.env X.xe) : PSs X (defBody s_law_row) (rdS (kp X) W0 B_law_row) := by
  have n0 : X.N[0]? = some ("digits" : Str) := nm_of hN rfl
  have d0 : (("digits" : Str) == ("__debug__" : Str)) = false ∧ (("digits" : Str) == ("__classdict__" : Str)) = false := ⟨by decide +kernel, by decide +kernel⟩
  have v0 : Vis X.env.scope "digits" := vis_of hS (by first | exact Or.inl (by decide +kernel) | exact Or.inr (Or.inl (by decide +kernel)))
  have l0 : Loc X.env.scope "digits" := loc_of hS (by first | exact Or.inl (by decide +kernel) | exact Or.inr (by decide +kernel))
  have hf0 : X.fn "digits" = true ∨ X.env.scope.names.lookup ("digits" : Str) = some .local := .inl (hfn _)
  have n1 : X.N[1]? = some ("most" : Str) := nm_of hN rfl
  have d1 : (("most" : Str) == ("__debug__" : Str)) = false ∧ (("most" : Str) == ("__classdict__" : Str)) = false := ⟨by decide +kernel, by decide +kernel⟩
  have v1 : Vis X.env.scope "most" := vis_of hS (by first | exact Or.inl (by decide +kernel) | exact Or.inr (Or.inl (by decide +kernel)))
  have l1 : Loc X.env.scope "most" := loc_of hS (by first | exact Or.inl (by decide +kernel) | exact Or.inr (by decide +kernel))
  have hf1 : X.fn "most" = true ∨ X.env.scope.names.lookup ("most" : Str) = some .local := .inl (hfn _)
  have n2 : X.N[2]? = some ("row" : Str) := nm_of hN rfl
  have d2 : (("row" : Str) == ("__debug__" : Str)) = false ∧ (("row" : Str) == ("__classdict__" : Str)) = false := ⟨by decide +kernel, by decide +kernel⟩
  have v2 : Vis X.env.scope "row" := vis_of hS (by first | exact Or.inl (by decide +kernel) | exact Or.inr (Or.inl (by decide +kernel)))
  have l2 : Loc X.env.scope "row" := loc_of hS (by first | exact Or.inl (by decide +kernel) | exact Or.inr (by decide +kernel))
  have hf2 : X.fn "row" = true ∨ X.env.scope.names.lookup ("row" : Str) = some .local := .inl (hfn _)
  have n3 : X.N[3]? = some ("digit" : Str) := nm_of hN rfl
  have d3 : (("digit" : Str) == ("__debug__" : Str)) = false ∧ (("digit" : Str) == ("__classdict__" : Str)) = false := ⟨by decide +kernel, by decide +kernel⟩
  have v3 : Vis X.env.scope "digit" := vis_of hS (by first | exact Or.inl (by decide +kernel) | exact Or.inr (Or.inl (by decide +kernel)))
  have l3 : Loc X.env.scope "digit" := loc_of hS (by first | exact Or.inl (by decide +kernel) | exact Or.inr (by decide +kernel))
  have hf3 : X.fn "digit" = true ∨ X.env.scope.names.lookup ("digit" : Str) = some .local := .inl (hfn _)
  exact rs_cons (rs_set 2 (rd_str) nd n2 l2 (hf := hf2)) (rs_cons (rs_for [3] hp hc (ri_seq (rd_fz (rd_sl (rdp_var 0 n0 v0 d0.1 d0.2) (rd_o1 (rd_pv (rd_fz (rd_int)))) (rd_o1 (rd_pv (rd_fz (rd_bin (rd_pv (rd_fz (rd_int))) (rd_pv (rd_fz (rd_bin (rd_pv (rd_fz (rd_ix (rdp_var 0 n0 v0 d0.1 d0.2) (rd_pv (rd_fz (rd_int)))))) (rdp_var 1 n1 v1 d1.1 d1.2))))))))))) (rg_name 3 (by decide) nd n3 l3 (hf3)) (rs_one (rs_set 2 (rd_bin (rdp_var 2 n2 v2 d2.1 d2.2) (rd_pv (rd_fz (rd_if (rd_tcmp hu (rd_pv (rd_fz (rd_bin (rdp_var 3 n3 v3 d3.1 d3.2) (rd_pv (rd_fz (rd_ix (rd_pv (rd_fz (rd_lst (rd_a1 (rd_fz (rd_int)) (rd_a1 (rd_fz (rd_int)) (rd_a1 (rd_fz (rd_int)) (rd_a0))))))) (rd_pv (rd_fz (rd_bin (rd_pv (rd_fz (rd_bin (rd_pv (rd_fz (rd_ix (rdp_var 0 n0 v0 d0.1 d0.2) (rd_pv (rd_fz (rd_int)))))) (rd_pv (rd_fz (rd_int)))))) (rd_pv (rd_fz (rd_int)))))))))))) (rd_pv (rd_fz (rd_int))) (nomark _)) (rd_str) (rd_str))))) nd n2 l2 (hf := hf2)))) (rs_one (rs_retV 2 n2 v2 d2.1 d2.2)))
abbrev s_is_row : Stmt := topS 11
abbrev N_is_row : List Str := ["value", "sign"]
theorem der_is_row {X : Cx} (hN : X.N = N_is_row) (hS : X.env.scope = defScope s_is_row) (nd : X.N.Nodup) (hc : X.calm = true) (hu : X.A.units + 70 < cLine) (hfn : ∀ x, X.fn x = true) (hp : PassesOwn (model X.prog X.w) X.A X.env X.xe) (m_all : X.mg "all" = none) (m_isinstance : X.mg "isinstance" = none) (m_len : X.mg "len" = none) (m_str : X.mg "str" = none) : PSs X (defBody s_is_row) (rdS (kp X) W0 B_is_row) := by
  have n0 : X.N[0]? = some ("value" : Str) := nm_of hN rfl
  have d0 : (("value" : Str) == ("__debug__" : Str)) = false ∧ (("value" : Str) == ("__classdict__" : Str)) = false := ⟨by decide +kernel, by decide +kernel⟩
  have v0 : Vis X.env.scope "value" := vis_of hS (by first | exact Or.inl (by decide +kernel) | exact Or.inr (Or.inl (by decide +kernel)))
  have l0 : Loc X.env.scope "value" := loc_of hS (by first | exact Or.inl (by decide +kernel) | exact Or.inr (by decide +kernel))
  have hf0 : X.fn "value" = true ∨ X.env.scope.names.lookup ("value" : Str) = some .local := .inl (hfn _)
  have n1 : X.N[1]? = some ("sign" : Str) := nm_of hN rfl
  have d1 : (("sign" : Str) == ("__debug__" : Str)) = false ∧ (("sign" : Str) == ("__classdict__" : Str)) = false := ⟨by decide +kernel, by decide +kernel⟩
  have g_all : Gl X "all" := gl_of hS (by decide +kernel)
  have g_isinstance : Gl X "isinstance" := gl_of hS (by decide +kernel)
  have g_len : Gl X "len" := gl_of hS (by decide +kernel)
  have g_str : Gl X "str" := gl_of hS (by decide +kernel)
  exact rs_one (rs_ret (rd_and (rd_is .str g_isinstance m_isinstance g_str m_str (by decide +kernel) (rdp_var 0 n0 v0 d0.1 d0.2) (by decide +kernel)) (rd_and (rd_chain hu (rd_pv (rd_fz (rd_int))) (rd_pv (rd_fz (rd_fnB cr_len g_len m_len (by decide +kernel) (rd_q1 (rdp_var 0 n0 v0 d0.1 d0.2) (rd_q0))))) (rd_pv (rd_fz (rd_int)))) (rd_last (rd_fnB (cr_all' hc) g_all m_all (by decide +kernel) (rd_q1 (rd_pv (rd_fz (rd_lc [] hc nd (ri_c (ri_str (rdp_var 0 n0 v0 d0.1 d0.2))) (blk_of [("sign", 1)] hN hS (by decide +kernel)) (fun _ _ _ _ _ => rg_name 1 (by decide) nd n1 (.inl (lk_blk hS (by decide +kernel))) (.inr (lk_blk hS (by decide +kernel)))) (fun _ _ _ _ _ => rt_nil) (fun _ _ _ _ _ => rd_fz (rd_cmp hu (rdp_var 1 (n1) (vis_blk hS (by first | exact Or.inl (by decide +kernel) | exact Or.inr (Or.inl (by decide +kernel)) | exact Or.inr (Or.inr (by decide +kernel)))) d1.1 d1.2) (rd_pv (rd_fz (rd_str))) (by rfl)))))) (rd_q0)))))))
abbrev s_Hall_init : Stmt := inClass (topS 19) 1
abbrev N_Hall_init : List Str := ["self", "rows", "row"]
theorem der_Hall_init {X : Cx} (hN : X.N = N_Hall_init) (hS : X.env.scope = defScope s_Hall_init) (nd : X.N.Nodup) (hc : X.calm = true) (hu : X.A.units + 70 < cLine) (hfn : ∀ x, X.fn x = true) (hp : PassesOwn (model X.prog X.w) X.A X.env X.xe) (C_is_row_rows : Cal X "is_row_rows" F_is_row) (m_all : X.mg "all" = none) (m_len : X.mg "len" = none) (fl_book_list : FldR X.K ["Hall", "LenientHall"] "book_list") (fl_earlier : FldR X.K ["Hall", "LenientHall"] "earlier") (fl_lines : FldR X.K ["Hall", "LenientHall"] "lines") (fl_next_number : FldR X.K ["Hall", "LenientHall"] "next_number") (con_Hall_MOST : ConR X.K X.mg "Hall" "MOST" 10) : PSs X (defBody s_Hall_init) (rdS (kp X) W0 B_Hall_init) := by
  have n0 : X.N[0]? = some ("self" : Str) := nm_of hN rfl
  have d0 : (("self" : Str) == ("__debug__" : Str)) = false ∧ (("self" : Str) == ("__classdict__" : Str)) = false := ⟨by decide +kernel, by decide +kernel⟩
  have v0 : Vis X.env.scope "self" := vis_of hS (by first | exact Or.inl (by decide +kernel) | exact Or.inr (Or.inl (by decide +kernel)))
  have l0 : Loc X.env.scope "self" := loc_of hS (by first | exact Or.inl (by decide +kernel) | exact Or.inr (by decide +kernel))
  have hf0 : X.fn "self" = true ∨ X.env.scope.names.lookup ("self" : Str) = some .local := .inl (hfn _)
  have n1 : X.N[1]? = some ("rows" : Str) := nm_of hN rfl
  have d1 : (("rows" : Str) == ("__debug__" : Str)) = false ∧ (("rows" : Str) == ("__classdict__" : Str)) = false := ⟨by decide +kernel, by decide +kernel⟩
  have v1 : Vis X.env.scope "rows" := vis_of hS (by first | exact Or.inl (by decide +kernel) | exact Or.inr (Or.inl (by decide +kernel)))
  have l1 : Loc X.env.scope "rows" := loc_of hS (by first | exact Or.inl (by decide +kernel) | exact Or.inr (by decide +kernel))
  have hf1 : X.fn "rows" = true ∨ X.env.scope.names.lookup ("rows" : Str) = some .local := .inl (hfn _)
  have n2 : X.N[2]? = some ("row" : Str) := nm_of hN rfl
  have d2 : (("row" : Str) == ("__debug__" : Str)) = false ∧ (("row" : Str) == ("__classdict__" : Str)) = false := ⟨by decide +kernel, by decide +kernel⟩
  have g_Hall : Gl X "Hall" := gl_of hS (by decide +kernel)
  have g_all : Gl X "all" := gl_of hS (by decide +kernel)
  have g_len : Gl X "len" := gl_of hS (by decide +kernel)
  have e_is_row_rows : (("is_row_rows" : Str) == ("__debug__" : Str)) = false := by decide +kernel
  exact rs_cons (rs_if (PW.pt (rd_wor (rd_tnot (rd_tchain hu (rd_pv (rd_fz (rd_int))) (rd_pv (rd_fz (rd_fnB cr_len g_len m_len (by decide +kernel) (rd_q1 (rdp_var 1 n1 v1 d1.1 d1.2) (rd_q0))))) (rd_pv (rd_fz (rd_conI con_Hall_MOST g_Hall (by decide +kernel)))))) (rd_wor1 (rd_tnot (rd_tv (rd_pv (rd_fz (rd_fnB (cr_all' hc) g_all m_all (by decide +kernel) (rd_q1 (rd_pv (rd_fz (rd_lc [] hc nd (rc_seq (rdp_var 1 n1 v1 d1.1 d1.2)) (blk_of [("row", 2)] hN hS (by decide +kernel)) (fun _ _ _ _ _ => rg_name 2 (by decide) nd n2 (.inl (lk_blk hS (by decide +kernel))) (.inr (lk_blk hS (by decide +kernel)))) (fun _ _ _ _ _ => rt_nil) (fun _ _ _ _ _ => rd_fz (rd_cal C_is_row_rows.blk (gl_blk hS (by decide +kernel)) e_is_row_rows (rd_a1 (rd_fz (rd_var 2 (n2) (vis_blk hS (by first | exact Or.inl (by decide +kernel) | exact Or.inr (Or.inl (by decide +kernel)) | exact Or.inr (Or.inr (by decide +kernel)))) d2.1 d2.2)) (rd_a0))))))) (rd_q0)))))))))) (rs_one (rs_bad)) (rs_nil)) (rs_cons (rs_fld fl_lines (rd_fz (rd_var 1 n1 v1 d1.1 d1.2)) (rdp_var 0 n0 v0 d0.1 d0.2)) (rs_cons (rs_fld fl_book_list (rd_fz (rd_tup (rd_a0))) (rdp_var 0 n0 v0 d0.1 d0.2)) (rs_cons (rs_fld fl_next_number (rd_fz (rd_int)) (rdp_var 0 n0 v0 d0.1 d0.2)) (rs_one (rs_fld fl_earlier (rd_fz (rd_tup (rd_a0))) (rdp_var 0 n0 v0 d0.1 d0.2))))))
abbrev s_law_made : Stmt := topS 26
abbrev N_law_made : List Str := ["row", "made", "marks", "first", "second"]
theorem der_law_made {X : Cx} (hN : X.N = N_law_made) (hS : X.env.scope = defScope s_law_made) (nd : X.N.Nodup) (hc : X.calm = true) (hu : X.A.units + 70 < cLine) (hfn : ∀ x, X.fn x = true) (hp : PassesOwn (model X.prog X.w) X.A X.env X.xe) (MK_Hall : MakOk X "Hall" F_Hall_init) (MK_LenientHall : MakOk X "LenientHall" F_Hall_init) : PSs X (defBody s_law_made) (rdS (kp X) W0 B_law_made) := by
  have n0 : X.N[0]? = some ("row" : Str) := nm_of hN rfl
  have d0 : (("row" : Str) == ("__debug__" : Str)) = false ∧ (("row" : Str) == ("__classdict__" : Str)) = false := ⟨by decide +kernel, by decide +kernel⟩
  have v0 : Vis X.env.scope "row" := vis_of hS (by first | exact Or.inl (by decide +kernel) | exact Or.inr (Or.inl (by decide +kernel)))
  have l0 : Loc X.env.scope "row" := loc_of hS (by first | exact Or.inl (by decide +kernel) | exact Or.inr (by decide +kernel))
  have hf0 : X.fn "row" = true ∨ X.env.scope.names.lookup ("row" : Str) = some .local := .inl (hfn _)
  have n1 : X.N[1]? = some ("made" : Str) := nm_of hN rfl
  have d1 : (("made" : Str) == ("__debug__" : Str)) = false ∧ (("made" : Str) == ("__classdict__" : Str)) = false := ⟨by decide +kernel, by decide +kernel⟩
  have v1 : Vis X.env.scope "made" := vis_of hS (by first | exact Or.inl (by decide +kernel) | exact Or.inr (Or.inl (by decide +kernel)))
  have l1 : Loc X.env.scope "made" := loc_of hS (by first | exact Or.inl (by decide +kernel) | exact Or.inr (by decide +kernel))
  have hf1 : X.fn "made" = true ∨ X.env.scope.names.lookup ("made" : Str) = some .local := .inl (hfn _)
  have lk1 : X.env.scope.names.lookup ("made" : Str) = some .local := lk_of hS (by decide +kernel)
  have n2 : X.N[2]? = some ("marks" : Str) := nm_of hN rfl
  have d2 : (("marks" : Str) == ("__debug__" : Str)) = false ∧ (("marks" : Str) == ("__classdict__" : Str)) = false := ⟨by decide +kernel, by decide +kernel⟩
  have v2 : Vis X.env.scope "marks" := vis_of hS (by first | exact Or.inl (by decide +kernel) | exact Or.inr (Or.inl (by decide +kernel)))
  have l2 : Loc X.env.scope "marks" := loc_of hS (by first | exact Or.inl (by decide +kernel) | exact Or.inr (by decide +kernel))
  have hf2 : X.fn "marks" = true ∨ X.env.scope.names.lookup ("marks" : Str) = some .local := .inl (hfn _)
  have lk2 : X.env.scope.names.lookup ("marks" : Str) = some .local := lk_of hS (by decide +kernel)
  have n3 : X.N[3]? = some ("first" : Str) := nm_of hN rfl
  have d3 : (("first" : Str) == ("__debug__" : Str)) = false ∧ (("first" : Str) == ("__classdict__" : Str)) = false := ⟨by decide +kernel, by decide +kernel⟩
  have v3 : Vis X.env.scope "first" := vis_of hS (by first | exact Or.inl (by decide +kernel) | exact Or.inr (Or.inl (by decide +kernel)))
  have l3 : Loc X.env.scope "first" := loc_of hS (by first | exact Or.inl (by decide +kernel) | exact Or.inr (by decide +kernel))
  have hf3 : X.fn "first" = true ∨ X.env.scope.names.lookup ("first" : Str) = some .local := .inl (hfn _)
  have n4 : X.N[4]? = some ("second" : Str) := nm_of hN rfl
  have d4 : (("second" : Str) == ("__debug__" : Str)) = false ∧ (("second" : Str) == ("__classdict__" : Str)) = false := ⟨by decide +kernel, by decide +kernel⟩
  have v4 : Vis X.env.scope "second" := vis_of hS (by first | exact Or.inl (by decide +kernel) | exact Or.inr (Or.inl (by decide +kernel)))
  have l4 : Loc X.env.scope "second" := loc_of hS (by first | exact Or.inl (by decide +kernel) | exact Or.inr (by decide +kernel))
  have hf4 : X.fn "second" = true ∨ X.env.scope.names.lookup ("second" : Str) = some .local := .inl (hfn _)
  have hk : X.env.scope.kind = .function := by rw [hS]; rfl
  have g_Hall : Gl X "Hall" := gl_of hS (by decide +kernel)
  have g_LenientHall : Gl X "LenientHall" := gl_of hS (by decide +kernel)
  exact rs_cons (rs_par 1 2 (rd_r1 (rd_lst (rd_a0)) (rd_r1 (rd_lst (rd_a0)) (rd_r0))) hc nd n1 n2 (by decide) lk1 lk2 (sst2 hk lk1 lk2 rfl rfl rfl rfl (by decide +kernel))) (rs_cons (rs_for [3] hp hc (ri_seq (rd_fz (rd_tup (rd_a1 (rd_fz (rd_var 0 n0 v0 d0.1 d0.2)) (rd_a1 (rd_fz (rd_bin (rdp_var 0 n0 v0 d0.1 d0.2) (rd_pv (rd_fz (rd_str))))) (rd_a0)))))) (rg_name 3 (by decide) nd n3 l3 (hf3)) (rs_one (rs_for [4] hp hc (ri_seq (rd_fz (rd_tup (rd_a1 (rd_fz (rd_str)) (rd_a1 (rd_fz (rd_str)) (rd_a0)))))) (rg_name 4 (by decide) nd n4 l4 (hf4)) (rs_cons (rs_set 1 (rd_bin (rdp_var 1 n1 v1 d1.1 d1.2) (rd_pv (rd_fz (rd_lst (rd_a1 (rd_fz (rd_make MK_Hall g_Hall (by decide +kernel) (rd_a1 (rd_fz (rd_var 3 n3 v3 d3.1 d3.2)) (rd_a0)))) (rd_a1 (rd_fz (rd_make MK_Hall g_Hall (by decide +kernel) (rd_a1 (rd_fz (rd_var 3 n3 v3 d3.1 d3.2)) (rd_a1 (rd_fz (rd_var 4 n4 v4 d4.1 d4.2)) (rd_a0))))) (rd_a1 (rd_fz (rd_make MK_LenientHall g_LenientHall (by decide +kernel) (rd_a1 (rd_fz (rd_var 3 n3 v3 d3.1 d3.2)) (rd_a0)))) (rd_a1 (rd_fz (rd_make MK_LenientHall g_LenientHall (by decide +kernel) (rd_a1 (rd_fz (rd_var 3 n3 v3 d3.1 d3.2)) (rd_a1 (rd_fz (rd_var 4 n4 v4 d4.1 d4.2)) (rd_a0))))) (rd_a0))))))))) nd n1 l1 (hf := hf1)) (rs_one (rs_set 2 (rd_bin (rdp_var 2 n2 v2 d2.1 d2.2) (rd_pv (rd_fz (rd_lst (rd_a1 (rd_fz (rd_tup (rd_a1 (rd_fz (rd_int)) (rd_a1 (rd_fz (rd_tup (rd_a1 (rd_fz (rd_var 3 n3 v3 d3.1 d3.2)) (rd_a0)))) (rd_a0))))) (rd_a1 (rd_fz (rd_tup (rd_a1 (rd_fz (rd_int)) (rd_a1 (rd_fz (rd_tup (rd_a1 (rd_fz (rd_var 3 n3 v3 d3.1 d3.2)) (rd_a1 (rd_fz (rd_var 4 n4 v4 d4.1 d4.2)) (rd_a0))))) (rd_a0))))) (rd_a1 (rd_fz (rd_tup (rd_a1 (rd_fz (rd_int)) (rd_a1 (rd_fz (rd_tup (rd_a1 (rd_fz (rd_var 3 n3 v3 d3.1 d3.2)) (rd_a0)))) (rd_a0))))) (rd_a1 (rd_fz (rd_tup (rd_a1 (rd_fz (rd_int)) (rd_a1 (rd_fz (rd_tup (rd_a1 (rd_fz (rd_var 3 n3 v3 d3.1 d3.2)) (rd_a1 (rd_fz (rd_var 4 n4 v4 d4.1 d4.2)) (rd_a0))))) (rd_a0))))) (rd_a0))))))))) nd n2 l2 (hf := hf2))))))) (rs_one (rs_ret (rd_tup (rd_a1 (rd_fz (rd_var 1 n1 v1 d1.1 d1.2)) (rd_a1 (rd_fz (rd_var 2 n2 v2 d2.1 d2.2)) (rd_a0)))))))
abbrev s_law_any_value : Stmt := topS 24
abbrev N_law_any_value : List Str := ["digits", "depth", "choice", "number", "parts", "k"]
theorem der_law_any_value {X : Cx} (hN : X.N = N_law_any_value) (hS : X.env.scope = defScope s_law_any_value) (nd : X.N.Nodup) (hc : X.calm = true) (hu : X.A.units + 70 < cLine) (hfn : ∀ x, X.fn x = true) (hp : PassesOwn (model X.prog X.w) X.A X.env X.xe) {Fr : Fn} (C__law_any_value : Cal X "_law_any_value" Fr) (m_range : X.mg "range" = none) (m_tuple : X.mg "tuple" = none) : PSs X (defBody s_law_any_value) (rdS (kp X) W0 (B_law_any_value Fr)) := by
  have n0 : X.N[0]? = some ("digits" : Str) := nm_of hN rfl
  have d0 : (("digits" : Str) == ("__debug__" : Str)) = false ∧ (("digits" : Str) == ("__classdict__" : Str)) = false := ⟨by decide +kernel, by decide +kernel⟩
  have v0 : Vis X.env.scope "digits" := vis_of hS (by first | exact Or.inl (by decide +kernel) | exact Or.inr (Or.inl (by decide +kernel)))
  have l0 : Loc X.env.scope "digits" := loc_of hS (by first | exact Or.inl (by decide +kernel) | exact Or.inr (by decide +kernel))
  have hf0 : X.fn "digits" = true ∨ X.env.scope.names.lookup ("digits" : Str) = some .local := .inl (hfn _)
  have n1 : X.N[1]? = some ("depth" : Str) := nm_of hN rfl
  have d1 : (("depth" : Str) == ("__debug__" : Str)) = false ∧ (("depth" : Str) == ("__classdict__" : Str)) = false := ⟨by decide +kernel, by decide +kernel⟩
  have v1 : Vis X.env.scope "depth" := vis_of hS (by first | exact Or.inl (by decide +kernel) | exact Or.inr (Or.inl (by decide +kernel)))
  have l1 : Loc X.env.scope "depth" := loc_of hS (by first | exact Or.inl (by decide +kernel) | exact Or.inr (by decide +kernel))
  have hf1 : X.fn "depth" = true ∨ X.env.scope.names.lookup ("depth" : Str) = some .local := .inl (hfn _)
  have n2 : X.N[2]? = some ("choice" : Str) := nm_of hN rfl
  have d2 : (("choice" : Str) == ("__debug__" : Str)) = false ∧ (("choice" : Str) == ("__classdict__" : Str)) = false := ⟨by decide +kernel, by decide +kernel⟩
  have v2 : Vis X.env.scope "choice" := vis_of hS (by first | exact Or.inl (by decide +kernel) | exact Or.inr (Or.inl (by decide +kernel)))
  have l2 : Loc X.env.scope "choice" := loc_of hS (by first | exact Or.inl (by decide +kernel) | exact Or.inr (by decide +kernel))
  have hf2 : X.fn "choice" = true ∨ X.env.scope.names.lookup ("choice" : Str) = some .local := .inl (hfn _)
  have n3 : X.N[3]? = some ("number" : Str) := nm_of hN rfl
  have d3 : (("number" : Str) == ("__debug__" : Str)) = false ∧ (("number" : Str) == ("__classdict__" : Str)) = false := ⟨by decide +kernel, by decide +kernel⟩
  have v3 : Vis X.env.scope "number" := vis_of hS (by first | exact Or.inl (by decide +kernel) | exact Or.inr (Or.inl (by decide +kernel)))
  have l3 : Loc X.env.scope "number" := loc_of hS (by first | exact Or.inl (by decide +kernel) | exact Or.inr (by decide +kernel))
  have hf3 : X.fn "number" = true ∨ X.env.scope.names.lookup ("number" : Str) = some .local := .inl (hfn _)
  have n4 : X.N[4]? = some ("parts" : Str) := nm_of hN rfl
  have d4 : (("parts" : Str) == ("__debug__" : Str)) = false ∧ (("parts" : Str) == ("__classdict__" : Str)) = false := ⟨by decide +kernel, by decide +kernel⟩
  have v4 : Vis X.env.scope "parts" := vis_of hS (by first | exact Or.inl (by decide +kernel) | exact Or.inr (Or.inl (by decide +kernel)))
  have l4 : Loc X.env.scope "parts" := loc_of hS (by first | exact Or.inl (by decide +kernel) | exact Or.inr (by decide +kernel))
  have hf4 : X.fn "parts" = true ∨ X.env.scope.names.lookup ("parts" : Str) = some .local := .inl (hfn _)
  have lk4 : X.env.scope.names.lookup ("parts" : Str) = some .local := lk_of hS (by decide +kernel)
  have n5 : X.N[5]? = some ("k" : Str) := nm_of hN rfl
  have d5 : (("k" : Str) == ("__debug__" : Str)) = false ∧ (("k" : Str) == ("__classdict__" : Str)) = false := ⟨by decide +kernel, by decide +kernel⟩
  have g_range : Gl X "range" := gl_of hS (by decide +kernel)
  have g_tuple : Gl X "tuple" := gl_of hS (by decide +kernel)
  have e__law_any_value : (("_law_any_value" : Str) == ("__debug__" : Str)) = false := by decide +kernel
  exact rs_cons (rs_set 2 (rd_bin (rd_pv (rd_fz (rd_ix (rdp_var 0 n0 v0 d0.1 d0.2) (rdp_var 1 n1 v1 d1.1 d1.2)))) (rd_pv (rd_fz (rd_int)))) nd n2 l2 (hf := hf2)) (rs_cons (rs_set 3 (rd_ix (rd_pv (rd_fz (rd_lst (rd_a1 (rd_fz (rd_bin (rd_pv (rd_fz (rd_bin (rd_pv (rd_fz (rd_ix (rdp_var 0 n0 v0 d0.1 d0.2) (rd_pv (rd_fz (rd_bin (rdp_var 1 n1 v1 d1.1 d1.2) (rd_pv (rd_fz (rd_int))))))))) (rd_pv (rd_fz (rd_int)))))) (rd_pv (rd_fz (rd_int))))) (rd_a1 (rd_fz (rd_bin (rd_pv (rd_fz (rd_int))) (rd_pv (rd_fz (rd_bin (rd_pv (rd_fz (rd_int))) (rd_pv (rd_fz (rd_int)))))))) (rd_a1 (rd_fz (rd_bin (rd_pv (rd_fz (rd_int))) (rd_pv (rd_fz (rd_int))))) (rd_a0))))))) (rd_pv (rd_fz (rd_bin (rd_pv (rd_fz (rd_ix (rdp_var 0 n0 v0 d0.1 d0.2) (rd_pv (rd_fz (rd_bin (rdp_var 1 n1 v1 d1.1 d1.2) (rd_pv (rd_fz (rd_int))))))))) (rd_pv (rd_fz (rd_int))))))) nd n3 l3 (hf := hf3)) (rs_cons (rs_if (PW.pt (rd_wor (rd_tcmp hu (rdp_var 2 n2 v2 d2.1 d2.2) (rd_pv (rd_fz (rd_int))) (nomark _)) (rd_wor1 (rd_tcmp hu (rdp_var 1 n1 v1 d1.1 d1.2) (rd_pv (rd_fz (rd_int))) (nomark _))))) (rs_one (rs_retV 3 n3 v3 d3.1 d3.2)) (rs_nil)) (rs_cons (rs_if (rd_tcmp hu (rdp_var 2 n2 v2 d2.1 d2.2) (rd_pv (rd_fz (rd_int))) (nomark _)) (rs_one (rs_ret (rd_ix (rd_pv (rd_fz (rd_lst (rd_a1 (rd_fz (rd_bl)) (rd_a1 (rd_fz (rd_bl)) (rd_a1 (rd_fz (rd_non)) (rd_a0))))))) (rd_pv (rd_fz (rd_bin (rdp_var 2 n2 v2 d2.1 d2.2) (rd_pv (rd_fz (rd_int))))))))) (rs_nil)) (rs_cons (rs_if (rd_tcmp hu (rdp_var 2 n2 v2 d2.1 d2.2) (rd_pv (rd_fz (rd_int))) (nomark _)) (rs_one (rs_ret (rd_ix (rd_pv (rd_fz (rd_lst (rd_a1 (rd_fz (rd_str)) (rd_a1 (rd_fz (rd_str)) (rd_a1 (rd_fz (rd_str)) (rd_a1 (rd_fz (rd_str)) (rd_a1 (rd_fz (rd_str)) (rd_a1 (rd_fz (rd_str)) (rd_a1 (rd_fz (rd_str)) (rd_a1 (rd_fz (rd_str)) (rd_a0)))))))))))) (rd_pv (rd_fz (rd_bin (rd_pv (rd_fz (rd_ix (rdp_var 0 n0 v0 d0.1 d0.2) (rd_pv (rd_fz (rd_bin (rdp_var 1 n1 v1 d1.1 d1.2) (rd_pv (rd_fz (rd_int))))))))) (rd_pv (rd_fz (rd_int))))))))) (rs_nil)) (rs_cons (rs_setLc [0, 1] hc nd n4 lk4 (sw_true (by rw [hS]; rfl) lk4 rfl (by decide +kernel)) (ri_c (ri_rg1 g_range m_range (rd_q1 (rd_pv (rd_fz (rd_bin (rd_pv (rd_fz (rd_ix (rdp_var 0 n0 v0 d0.1 d0.2) (rd_pv (rd_fz (rd_bin (rdp_var 1 n1 v1 d1.1 d1.2) (rd_pv (rd_fz (rd_int))))))))) (rd_pv (rd_fz (rd_int)))))) (rd_q0)))) (blk_of [("k", 5)] hN hS (by decide +kernel)) (fun _ _ _ _ _ => rg_name 5 (by decide) nd n5 (.inl (lk_blk hS (by decide +kernel))) (.inr (lk_blk hS (by decide +kernel)))) (fun _ _ _ _ _ => rt_nil) (fun _ _ _ _ _ => rd_fz (rd_cal C__law_any_value.blk (gl_blk hS (by decide +kernel)) e__law_any_value (rd_a1 (rd_fz (rd_bin (rd_pv (rd_fz (rd_sl (rdp_var 0 (n0) (vis_blk hS (by first | exact Or.inl (by decide +kernel) | exact Or.inr (Or.inl (by decide +kernel)) | exact Or.inr (Or.inr (by decide +kernel)))) d0.1 d0.2) (rd_o1 (rdp_var 5 (n5) (vis_blk hS (by first | exact Or.inl (by decide +kernel) | exact Or.inr (Or.inl (by decide +kernel)) | exact Or.inr (Or.inr (by decide +kernel)))) d5.1 d5.2)) (rd_o0)))) (rd_pv (rd_fz (rd_sl (rdp_var 0 (n0) (vis_blk hS (by first | exact Or.inl (by decide +kernel) | exact Or.inr (Or.inl (by decide +kernel)) | exact Or.inr (Or.inr (by decide +kernel)))) d0.1 d0.2) (rd_o0) (rd_o1 (rdp_var 5 (n5) (vis_blk hS (by first | exact Or.inl (by decide +kernel) | exact Or.inr (Or.inl (by decide +kernel)) | exact Or.inr (Or.inr (by decide +kernel)))) d5.1 d5.2))))))) (rd_a1 (rd_fz (rd_bin (rdp_var 1 (n1) (vis_blk hS (by first | exact Or.inl (by decide +kernel) | exact Or.inr (Or.inl (by decide +kernel)) | exact Or.inr (Or.inr (by decide +kernel)))) d1.1 d1.2) (rd_pv (rd_fz (rd_int))))) (rd_a0)))))) (rs_one (rs_ret (rd_if (rd_tcmp hu (rdp_var 2 n2 v2 d2.1 d2.2) (rd_pv (rd_fz (rd_int))) (nomark _)) (rd_var 4 n4 v4 d4.1 d4.2) (rd_fnT cr_tuple g_tuple m_tuple (by decide +kernel) (rd_q1 (rdp_var 4 n4 v4 d4.1 d4.2) (rd_q0)))))))))))
abbrev s_is_integer : Stmt := topS 10
abbrev N_is_integer : List Str := ["value", "low", "high"]
theorem der_is_integer {X : Cx} (hN : X.N = N_is_integer) (hS : X.env.scope = defScope s_is_integer) (nd : X.N.Nodup) (hc : X.calm = true) (hu : X.A.units + 70 < cLine) (hfn : ∀ x, X.fn x = true) (hp : PassesOwn (model X.prog X.w) X.A X.env X.xe) (m_bool : X.mg "bool" = none) (m_int : X.mg "int" = none) (m_isinstance : X.mg "isinstance" = none) : PSs X (defBody s_is_integer) (rdS (kp X) W0 B_is_integer) := by
  have n0 : X.N[0]? = some ("value" : Str) := nm_of hN rfl
  have d0 : (("value" : Str) == ("__debug__" : Str)) = false ∧ (("value" : Str) == ("__classdict__" : Str)) = false := ⟨by decide +kernel, by decide +kernel⟩
  have v0 : Vis X.env.scope "value" := vis_of hS (by first | exact Or.inl (by decide +kernel) | exact Or.inr (Or.inl (by decide +kernel)))
  have l0 : Loc X.env.scope "value" := loc_of hS (by first | exact Or.inl (by decide +kernel) | exact Or.inr (by decide +kernel))
  have hf0 : X.fn "value" = true ∨ X.env.scope.names.lookup ("value" : Str) = some .local := .inl (hfn _)
  have n1 : X.N[1]? = some ("low" : Str) := nm_of hN rfl
  have d1 : (("low" : Str) == ("__debug__" : Str)) = false ∧ (("low" : Str) == ("__classdict__" : Str)) = false := ⟨by decide +kernel, by decide +kernel⟩
  have v1 : Vis X.env.scope "low" := vis_of hS (by first | exact Or.inl (by decide +kernel) | exact Or.inr (Or.inl (by decide +kernel)))
  have l1 : Loc X.env.scope "low" := loc_of hS (by first | exact Or.inl (by decide +kernel) | exact Or.inr (by decide +kernel))
  have hf1 : X.fn "low" = true ∨ X.env.scope.names.lookup ("low" : Str) = some .local := .inl (hfn _)
  have n2 : X.N[2]? = some ("high" : Str) := nm_of hN rfl
  have d2 : (("high" : Str) == ("__debug__" : Str)) = false ∧ (("high" : Str) == ("__classdict__" : Str)) = false := ⟨by decide +kernel, by decide +kernel⟩
  have v2 : Vis X.env.scope "high" := vis_of hS (by first | exact Or.inl (by decide +kernel) | exact Or.inr (Or.inl (by decide +kernel)))
  have l2 : Loc X.env.scope "high" := loc_of hS (by first | exact Or.inl (by decide +kernel) | exact Or.inr (by decide +kernel))
  have hf2 : X.fn "high" = true ∨ X.env.scope.names.lookup ("high" : Str) = some .local := .inl (hfn _)
  have g_bool : Gl X "bool" := gl_of hS (by decide +kernel)
  have g_int : Gl X "int" := gl_of hS (by decide +kernel)
  have g_isinstance : Gl X "isinstance" := gl_of hS (by decide +kernel)
  exact rs_one (rs_ret (rd_and (rd_is .int g_isinstance m_isinstance g_int m_int (by decide +kernel) (rdp_var 0 n0 v0 d0.1 d0.2) (by decide +kernel)) (rd_and (rd_not (rd_is .bool g_isinstance m_isinstance g_bool m_bool (by decide +kernel) (rdp_var 0 n0 v0 d0.1 d0.2) (by decide +kernel))) (rd_last (rd_chain hu (rdp_var 1 n1 v1 d1.1 d1.2) (rdp_var 0 n0 v0 d0.1 d0.2) (rdp_var 2 n2 v2 d2.1 d2.2))))))
abbrev s_Hall_keep : Stmt := inClass (topS 19) 9
abbrev N_Hall_keep : List Str := ["self"]
theorem der_Hall_keep {X : Cx} (hN : X.N = N_Hall_keep) (hS : X.env.scope = defScope s_Hall_keep) (nd : X.N.Nodup) (hc : X.calm = true) (hu : X.A.units + 70 < cLine) (hfn : ∀ x, X.fn x = true) (hp : PassesOwn (model X.prog X.w) X.A X.env X.xe) (fl_book_list : FldR X.K ["Hall", "LenientHall"] "book_list") (fl_earlier : FldR X.K ["Hall", "LenientHall"] "earlier") (fl_lines : FldR X.K ["Hall", "LenientHall"] "lines") (fl_next_number : FldR X.K ["Hall", "LenientHall"] "next_number") : PSs X (defBody s_Hall_keep) (rdS (kp X) W0 B_Hall_keep) := by
  have n0 : X.N[0]? = some ("self" : Str) := nm_of hN rfl
  have d0 : (("self" : Str) == ("__debug__" : Str)) = false ∧ (("self" : Str) == ("__classdict__" : Str)) = false := ⟨by decide +kernel, by decide +kernel⟩
  have v0 : Vis X.env.scope "self" := vis_of hS (by first | exact Or.inl (by decide +kernel) | exact Or.inr (Or.inl (by decide +kernel)))
  have l0 : Loc X.env.scope "self" := loc_of hS (by first | exact Or.inl (by decide +kernel) | exact Or.inr (by decide +kernel))
  have hf0 : X.fn "self" = true ∨ X.env.scope.names.lookup ("self" : Str) = some .local := .inl (hfn _)
  exact rs_one (rs_fld fl_earlier (rd_fz (rd_bin (rd_pv (rd_fz (rd_fld fl_earlier (rdp_var 0 n0 v0 d0.1 d0.2)))) (rd_pv (rd_fz (rd_tup (rd_a1 (rd_fz (rd_tup (rd_a1 (rd_fz (rd_fld fl_lines (rdp_var 0 n0 v0 d0.1 d0.2))) (rd_a1 (rd_fz (rd_fld fl_book_list (rdp_var 0 n0 v0 d0.1 d0.2))) (rd_a1 (rd_fz (rd_fld fl_next_number (rdp_var 0 n0 v0 d0.1 d0.2))) (rd_a0)))))) (rd_a0))))))) (rdp_var 0 n0 v0 d0.1 d0.2))
abbrev s_Hall_cancel : Stmt := inClass (topS 19) 13
abbrev N_Hall_cancel : List Str := ["self", "number", "booking", "row", "start", "size", "line", "other"]
theorem der_Hall_cancel {X : Cx} (hN : X.N = N_Hall_cancel) (hS : X.env.scope = defScope s_Hall_cancel) (nd : X.N.Nodup) (hc : X.calm = true) (hu : X.A.units + 70 < cLine) (hfn : ∀ x, X.fn x = true) (hp : PassesOwn (model X.prog X.w) X.A X.env X.xe) (C_is_integer : Cal X "is_integer" F_is_integer) (m_tuple : X.mg "tuple" = none) (fl_book_list : FldR X.K ["Hall", "LenientHall"] "book_list") (fl_lines : FldR X.K ["Hall", "LenientHall"] "lines") (M_keep : MetOk X [("Hall", F_Hall_keep), ("LenientHall", F_Hall_keep)] "keep") : PSs X (defBody s_Hall_cancel) (rdS (kp X) W0 B_Hall_cancel) := by
  have n0 : X.N[0]? = some ("self" : Str) := nm_of hN rfl
  have d0 : (("self" : Str) == ("__debug__" : Str)) = false ∧ (("self" : Str) == ("__classdict__" : Str)) = false := ⟨by decide +kernel, by decide +kernel⟩
  have v0 : Vis X.env.scope "self" := vis_of hS (by first | exact Or.inl (by decide +kernel) | exact Or.inr (Or.inl (by decide +kernel)))
  have l0 : Loc X.env.scope "self" := loc_of hS (by first | exact Or.inl (by decide +kernel) | exact Or.inr (by decide +kernel))
  have hf0 : X.fn "self" = true ∨ X.env.scope.names.lookup ("self" : Str) = some .local := .inl (hfn _)
  have n1 : X.N[1]? = some ("number" : Str) := nm_of hN rfl
  have d1 : (("number" : Str) == ("__debug__" : Str)) = false ∧ (("number" : Str) == ("__classdict__" : Str)) = false := ⟨by decide +kernel, by decide +kernel⟩
  have v1 : Vis X.env.scope "number" := vis_of hS (by first | exact Or.inl (by decide +kernel) | exact Or.inr (Or.inl (by decide +kernel)))
  have l1 : Loc X.env.scope "number" := loc_of hS (by first | exact Or.inl (by decide +kernel) | exact Or.inr (by decide +kernel))
  have hf1 : X.fn "number" = true ∨ X.env.scope.names.lookup ("number" : Str) = some .local := .inl (hfn _)
  have n2 : X.N[2]? = some ("booking" : Str) := nm_of hN rfl
  have d2 : (("booking" : Str) == ("__debug__" : Str)) = false ∧ (("booking" : Str) == ("__classdict__" : Str)) = false := ⟨by decide +kernel, by decide +kernel⟩
  have v2 : Vis X.env.scope "booking" := vis_of hS (by first | exact Or.inl (by decide +kernel) | exact Or.inr (Or.inl (by decide +kernel)))
  have l2 : Loc X.env.scope "booking" := loc_of hS (by first | exact Or.inl (by decide +kernel) | exact Or.inr (by decide +kernel))
  have hf2 : X.fn "booking" = true ∨ X.env.scope.names.lookup ("booking" : Str) = some .local := .inl (hfn _)
  have n3 : X.N[3]? = some ("row" : Str) := nm_of hN rfl
  have d3 : (("row" : Str) == ("__debug__" : Str)) = false ∧ (("row" : Str) == ("__classdict__" : Str)) = false := ⟨by decide +kernel, by decide +kernel⟩
  have v3 : Vis X.env.scope "row" := vis_of hS (by first | exact Or.inl (by decide +kernel) | exact Or.inr (Or.inl (by decide +kernel)))
  have l3 : Loc X.env.scope "row" := loc_of hS (by first | exact Or.inl (by decide +kernel) | exact Or.inr (by decide +kernel))
  have hf3 : X.fn "row" = true ∨ X.env.scope.names.lookup ("row" : Str) = some .local := .inl (hfn _)
  have n4 : X.N[4]? = some ("start" : Str) := nm_of hN rfl
  have d4 : (("start" : Str) == ("__debug__" : Str)) = false ∧ (("start" : Str) == ("__classdict__" : Str)) = false := ⟨by decide +kernel, by decide +kernel⟩
  have v4 : Vis X.env.scope "start" := vis_of hS (by first | exact Or.inl (by decide +kernel) | exact Or.inr (Or.inl (by decide +kernel)))
  have l4 : Loc X.env.scope "start" := loc_of hS (by first | exact Or.inl (by decide +kernel) | exact Or.inr (by decide +kernel))
  have hf4 : X.fn "start" = true ∨ X.env.scope.names.lookup ("start" : Str) = some .local := .inl (hfn _)
  have n5 : X.N[5]? = some ("size" : Str) := nm_of hN rfl
  have d5 : (("size" : Str) == ("__debug__" : Str)) = false ∧ (("size" : Str) == ("__classdict__" : Str)) = false := ⟨by decide +kernel, by decide +kernel⟩
  have v5 : Vis X.env.scope "size" := vis_of hS (by first | exact Or.inl (by decide +kernel) | exact Or.inr (Or.inl (by decide +kernel)))
  have l5 : Loc X.env.scope "size" := loc_of hS (by first | exact Or.inl (by decide +kernel) | exact Or.inr (by decide +kernel))
  have hf5 : X.fn "size" = true ∨ X.env.scope.names.lookup ("size" : Str) = some .local := .inl (hfn _)
  have n6 : X.N[6]? = some ("line" : Str) := nm_of hN rfl
  have d6 : (("line" : Str) == ("__debug__" : Str)) = false ∧ (("line" : Str) == ("__classdict__" : Str)) = false := ⟨by decide +kernel, by decide +kernel⟩
  have v6 : Vis X.env.scope "line" := vis_of hS (by first | exact Or.inl (by decide +kernel) | exact Or.inr (Or.inl (by decide +kernel)))
  have l6 : Loc X.env.scope "line" := loc_of hS (by first | exact Or.inl (by decide +kernel) | exact Or.inr (by decide +kernel))
  have hf6 : X.fn "line" = true ∨ X.env.scope.names.lookup ("line" : Str) = some .local := .inl (hfn _)
  have n7 : X.N[7]? = some ("other" : Str) := nm_of hN rfl
  have d7 : (("other" : Str) == ("__debug__" : Str)) = false ∧ (("other" : Str) == ("__classdict__" : Str)) = false := ⟨by decide +kernel, by decide +kernel⟩
  have g_is_integer : Gl X "is_integer" := gl_of hS (by decide +kernel)
  have g_tuple : Gl X "tuple" := gl_of hS (by decide +kernel)
  have e_is_integer : (("is_integer" : Str) == ("__debug__" : Str)) = false := by decide +kernel
  exact rs_cons (rs_for [2] hp hc (ri_seq (rd_fz (rd_fld fl_book_list (rdp_var 0 n0 v0 d0.1 d0.2)))) (rg_name 2 (by decide) nd n2 l2 (hf2)) (rs_one (rs_if (PW.pt (rd_wand (rd_tv (rd_pv (rd_fz (rd_cal C_is_integer g_is_integer e_is_integer (rd_a1 (rd_fz (rd_var 1 n1 v1 d1.1 d1.2)) (rd_a1 (rd_fz (rd_int)) (rd_a1 (rd_fz (rd_int)) (rd_a0)))))))) (rd_wand1 (rd_tcmp hu (rd_pv (rd_fz (rd_ix (rdp_var 2 n2 v2 d2.1 d2.2) (rd_pv (rd_fz (rd_int)))))) (rdp_var 1 n1 v1 d1.1 d1.2) (nomark _))))) (rs_cons (rs_drop (rd_meth0 M_keep (rdp_var 0 n0 v0 d0.1 d0.2))) (rs_cons (rs_asg [3, 4, 5] (rd_sl (rdp_var 2 n2 v2 d2.1 d2.2) (rd_o1 (rd_pv (rd_fz (rd_int)))) (rd_o0)) (rg_tup hc (rg_cons 3 (by decide) nd n3 l3 (rg_cons 4 (by decide) nd n4 l4 (rg_cons 5 (by decide) nd n5 l5 (rg_nil) (hf5)) (hf4)) (hf3)))) (rs_cons (rs_set 6 (rd_bin (rd_pv (rd_fz (rd_bin (rd_pv (rd_fz (rd_sl (rd_pv (rd_fz (rd_ix (rd_pv (rd_fz (rd_fld fl_lines (rdp_var 0 n0 v0 d0.1 d0.2)))) (rdp_var 3 n3 v3 d3.1 d3.2)))) (rd_o0) (rd_o1 (rdp_var 4 n4 v4 d4.1 d4.2))))) (rd_pv (rd_fz (rd_bin (rd_pv (rd_fz (rd_str))) (rdp_var 5 n5 v5 d5.1 d5.2))))))) (rd_pv (rd_fz (rd_sl (rd_pv (rd_fz (rd_ix (rd_pv (rd_fz (rd_fld fl_lines (rdp_var 0 n0 v0 d0.1 d0.2)))) (rdp_var 3 n3 v3 d3.1 d3.2)))) (rd_o1 (rd_pv (rd_fz (rd_bin (rdp_var 4 n4 v4 d4.1 d4.2) (rdp_var 5 n5 v5 d5.1 d5.2))))) (rd_o0))))) nd n6 l6 (hf := hf6)) (rs_cons (rs_fld fl_lines (rd_fz (rd_bin (rd_pv (rd_fz (rd_bin (rd_pv (rd_fz (rd_sl (rd_pv (rd_fz (rd_fld fl_lines (rdp_var 0 n0 v0 d0.1 d0.2)))) (rd_o0) (rd_o1 (rdp_var 3 n3 v3 d3.1 d3.2))))) (rd_pv (rd_fz (rd_tup (rd_a1 (rd_fz (rd_var 6 n6 v6 d6.1 d6.2)) (rd_a0)))))))) (rd_pv (rd_fz (rd_sl (rd_pv (rd_fz (rd_fld fl_lines (rdp_var 0 n0 v0 d0.1 d0.2)))) (rd_o1 (rd_pv (rd_fz (rd_bin (rdp_var 3 n3 v3 d3.1 d3.2) (rd_pv (rd_fz (rd_int))))))) (rd_o0)))))) (rdp_var 0 n0 v0 d0.1 d0.2)) (rs_cons (rs_fld fl_book_list (rd_fz (rd_fnT cr_tuple g_tuple m_tuple (by decide +kernel) (rd_q1 (rd_pv (rd_fz (rd_lc [2] hc nd (rc_seq (rd_pv (rd_fz (rd_fld fl_book_list (rdp_var 0 n0 v0 d0.1 d0.2))))) (blk_of [("other", 7)] hN hS (by decide +kernel)) (fun _ _ _ _ _ => rg_name 7 (by decide) nd n7 (.inl (lk_blk hS (by decide +kernel))) (.inr (lk_blk hS (by decide +kernel)))) (fun _ _ _ _ _ => rt_one (rd_tcmp hu (rdp_var 7 (n7) (vis_blk hS (by first | exact Or.inl (by decide +kernel) | exact Or.inr (Or.inl (by decide +kernel)) | exact Or.inr (Or.inr (by decide +kernel)))) d7.1 d7.2) (rdp_var 2 (n2) (vis_blk hS (by first | exact Or.inl (by decide +kernel) | exact Or.inr (Or.inl (by decide +kernel)) | exact Or.inr (Or.inr (by decide +kernel)))) d2.1 d2.2) (nomark _))) (fun _ _ _ _ _ => rd_fz (rd_var 7 (n7) (vis_blk hS (by first | exact Or.inl (by decide +kernel) | exact Or.inr (Or.inl (by decide +kernel)) | exact Or.inr (Or.inr (by decide +kernel)))) d7.1 d7.2))))) (rd_q0)))) (rdp_var 0 n0 v0 d0.1 d0.2)) (rs_one (rs_ret (rd_tup (rd_a1 (rd_fz (rd_var 3 n3 v3 d3.1 d3.2)) (rd_a1 (rd_fz (rd_var 4 n4 v4 d4.1 d4.2)) (rd_a1 (rd_fz (rd_var 5 n5 v5 d5.1 d5.2)) (rd_a0)))))))))))) (rs_nil)))) (rs_one (rs_bad))
abbrev s_is_booking : Stmt := topS 13
abbrev N_is_booking : List Str := ["row", "value"]
theorem der_is_booking {X : Cx} (hN : X.N = N_is_booking) (hS : X.env.scope = defScope s_is_booking) (nd : X.N.Nodup) (hc : X.calm = true) (hu : X.A.units + 70 < cLine) (hfn : ∀ x, X.fn x = true) (hp : PassesOwn (model X.prog X.w) X.A X.env X.xe) (C_is_integer : Cal X "is_integer" F_is_integer) (m_isinstance : X.mg "isinstance" = none) (m_len : X.mg "len" = none) (m_tuple : X.mg "tuple" = none) : PSs X (defBody s_is_booking) (rdS (kp X) W0 B_is_booking) := by
  have n0 : X.N[0]? = some ("row" : Str) := nm_of hN rfl
  have d0 : (("row" : Str) == ("__debug__" : Str)) = false ∧ (("row" : Str) == ("__classdict__" : Str)) = false := ⟨by decide +kernel, by decide +kernel⟩
  have v0 : Vis X.env.scope "row" := vis_of hS (by first | exact Or.inl (by decide +kernel) | exact Or.inr (Or.inl (by decide +kernel)))
  have l0 : Loc X.env.scope "row" := loc_of hS (by first | exact Or.inl (by decide +kernel) | exact Or.inr (by decide +kernel))
  have hf0 : X.fn "row" = true ∨ X.env.scope.names.lookup ("row" : Str) = some .local := .inl (hfn _)
  have n1 : X.N[1]? = some ("value" : Str) := nm_of hN rfl
  have d1 : (("value" : Str) == ("__debug__" : Str)) = false ∧ (("value" : Str) == ("__classdict__" : Str)) = false := ⟨by decide +kernel, by decide +kernel⟩
  have v1 : Vis X.env.scope "value" := vis_of hS (by first | exact Or.inl (by decide +kernel) | exact Or.inr (Or.inl (by decide +kernel)))
  have l1 : Loc X.env.scope "value" := loc_of hS (by first | exact Or.inl (by decide +kernel) | exact Or.inr (by decide +kernel))
  have hf1 : X.fn "value" = true ∨ X.env.scope.names.lookup ("value" : Str) = some .local := .inl (hfn _)
  have g_is_integer : Gl X "is_integer" := gl_of hS (by decide +kernel)
  have g_isinstance : Gl X "isinstance" := gl_of hS (by decide +kernel)
  have g_len : Gl X "len" := gl_of hS (by decide +kernel)
  have g_tuple : Gl X "tuple" := gl_of hS (by decide +kernel)
  have e_is_integer : (("is_integer" : Str) == ("__debug__" : Str)) = false := by decide +kernel
  exact rs_cons (rs_if (PW.pt (rd_wor (rd_tnot (rd_tv (rd_pv (rd_fz (rd_is .tuple g_isinstance m_isinstance g_tuple m_tuple (by decide +kernel) (rdp_var 1 n1 v1 d1.1 d1.2) (by decide +kernel)))))) (rd_wor (rd_tcmp hu (rd_pv (rd_fz (rd_fnB cr_len g_len m_len (by decide +kernel) (rd_q1 (rdp_var 1 n1 v1 d1.1 d1.2) (rd_q0))))) (rd_pv (rd_fz (rd_int))) (nomark _)) (rd_wor1 (rd_tnot (rd_tv (rd_pv (rd_fz (rd_cal C_is_integer g_is_integer e_is_integer (rd_a1 (rd_fz (rd_ix (rdp_var 1 n1 v1 d1.1 d1.2) (rd_pv (rd_fz (rd_int))))) (rd_a1 (rd_fz (rd_int)) (rd_a1 (rd_fz (rd_bin (rd_pv (rd_fz (rd_fnB cr_len g_len m_len (by decide +kernel) (rd_q1 (rdp_var 0 n0 v0 d0.1 d0.2) (rd_q0))))) (rd_pv (rd_fz (rd_int))))) (rd_a0))))))))))))) (rs_one (rs_ret (rd_bl))) (rs_nil)) (rs_one (rs_ret (rd_cal C_is_integer g_is_integer e_is_integer (rd_a1 (rd_fz (rd_ix (rdp_var 1 n1 v1 d1.1 d1.2) (rd_pv (rd_fz (rd_int))))) (rd_a1 (rd_fz (rd_int)) (rd_a1 (rd_fz (rd_bin (rd_pv (rd_fz (rd_fnB cr_len g_len m_len (by decide +kernel) (rd_q1 (rdp_var 0 n0 v0 d0.1 d0.2) (rd_q0))))) (rd_pv (rd_fz (rd_ix (rdp_var 1 n1 v1 d1.1 d1.2) (rd_pv (rd_fz (rd_int)))))))) (rd_a0)))))))
abbrev s_is_free : Stmt := topS 15
abbrev N_is_free : List Str := ["row", "booking", "start", "size"]
theorem der_is_free {X : Cx} (hN : X.N = N_is_free) (hS : X.env.scope = defScope s_is_free) (nd : X.N.Nodup) (hc : X.calm = true) (hu : X.A.units + 70 < cLine) (hfn : ∀ x, X.fn x = true) (hp : PassesOwn (model X.prog X.w) X.A X.env X.xe) : PSs X (defBody s_is_free) (rdS (kp X) W0 B_is_free) := by
  have n0 : X.N[0]? = some ("row" : Str) := nm_of hN rfl
  have d0 : (("row" : Str) == ("__debug__" : Str)) = false ∧ (("row" : Str) == ("__classdict__" : Str)) = false := ⟨by decide +kernel, by decide +kernel⟩
  have v0 : Vis X.env.scope "row" := vis_of hS (by first | exact Or.inl (by decide +kernel) | exact Or.inr (Or.inl (by decide +kernel)))
  have l0 : Loc X.env.scope "row" := loc_of hS (by first | exact Or.inl (by decide +kernel) | exact Or.inr (by decide +kernel))
  have hf0 : X.fn "row" = true ∨ X.env.scope.names.lookup ("row" : Str) = some .local := .inl (hfn _)
  have n1 : X.N[1]? = some ("booking" : Str) := nm_of hN rfl
  have d1 : (("booking" : Str) == ("__debug__" : Str)) = false ∧ (("booking" : Str) == ("__classdict__" : Str)) = false := ⟨by decide +kernel, by decide +kernel⟩
  have v1 : Vis X.env.scope "booking" := vis_of hS (by first | exact Or.inl (by decide +kernel) | exact Or.inr (Or.inl (by decide +kernel)))
  have l1 : Loc X.env.scope "booking" := loc_of hS (by first | exact Or.inl (by decide +kernel) | exact Or.inr (by decide +kernel))
  have hf1 : X.fn "booking" = true ∨ X.env.scope.names.lookup ("booking" : Str) = some .local := .inl (hfn _)
  have n2 : X.N[2]? = some ("start" : Str) := nm_of hN rfl
  have d2 : (("start" : Str) == ("__debug__" : Str)) = false ∧ (("start" : Str) == ("__classdict__" : Str)) = false := ⟨by decide +kernel, by decide +kernel⟩
  have v2 : Vis X.env.scope "start" := vis_of hS (by first | exact Or.inl (by decide +kernel) | exact Or.inr (Or.inl (by decide +kernel)))
  have l2 : Loc X.env.scope "start" := loc_of hS (by first | exact Or.inl (by decide +kernel) | exact Or.inr (by decide +kernel))
  have hf2 : X.fn "start" = true ∨ X.env.scope.names.lookup ("start" : Str) = some .local := .inl (hfn _)
  have n3 : X.N[3]? = some ("size" : Str) := nm_of hN rfl
  have d3 : (("size" : Str) == ("__debug__" : Str)) = false ∧ (("size" : Str) == ("__classdict__" : Str)) = false := ⟨by decide +kernel, by decide +kernel⟩
  have v3 : Vis X.env.scope "size" := vis_of hS (by first | exact Or.inl (by decide +kernel) | exact Or.inr (Or.inl (by decide +kernel)))
  have l3 : Loc X.env.scope "size" := loc_of hS (by first | exact Or.inl (by decide +kernel) | exact Or.inr (by decide +kernel))
  have hf3 : X.fn "size" = true ∨ X.env.scope.names.lookup ("size" : Str) = some .local := .inl (hfn _)
  exact rs_cons (rs_asg [2, 3] (rd_var 1 n1 v1 d1.1 d1.2) (rg_tup hc (rg_cons 2 (by decide) nd n2 l2 (rg_cons 3 (by decide) nd n3 l3 (rg_nil) (hf3)) (hf2)))) (rs_one (rs_ret (rd_cmp hu (rd_pv (rd_fz (rd_str))) (rd_pv (rd_fz (rd_sl (rdp_var 0 n0 v0 d0.1 d0.2) (rd_o1 (rdp_var 2 n2 v2 d2.1 d2.2)) (rd_o1 (rd_pv (rd_fz (rd_bin (rdp_var 2 n2 v2 d2.1 d2.2) (rdp_var 3 n3 v3 d3.1 d3.2)))))))) (by rfl))))
abbrev s_gaps : Stmt := topS 14
abbrev N_gaps : List Str := ["row", "found", "start", "index", "sign"]
theorem der_gaps {X : Cx} (hN : X.N = N_gaps) (hS : X.env.scope = defScope s_gaps) (nd : X.N.Nodup) (hc : X.calm = true) (hu : X.A.units + 70 < cLine) (hfn : ∀ x, X.fn x = true) (hp : PassesOwn (model X.prog X.w) X.A X.env X.xe) (m_enumerate : X.mg "enumerate" = none) : PSs X (defBody s_gaps) (rdS (kp X) W0 B_gaps) := by
  have n0 : X.N[0]? = some ("row" : Str) := nm_of hN rfl
  have d0 : (("row" : Str) == ("__debug__" : Str)) = false ∧ (("row" : Str) == ("__classdict__" : Str)) = false := ⟨by decide +kernel, by decide +kernel⟩
  have v0 : Vis X.env.scope "row" := vis_of hS (by first | exact Or.inl (by decide +kernel) | exact Or.inr (Or.inl (by decide +kernel)))
  have l0 : Loc X.env.scope "row" := loc_of hS (by first | exact Or.inl (by decide +kernel) | exact Or.inr (by decide +kernel))
  have hf0 : X.fn "row" = true ∨ X.env.scope.names.lookup ("row" : Str) = some .local := .inl (hfn _)
  have n1 : X.N[1]? = some ("found" : Str) := nm_of hN rfl
  have d1 : (("found" : Str) == ("__debug__" : Str)) = false ∧ (("found" : Str) == ("__classdict__" : Str)) = false := ⟨by decide +kernel, by decide +kernel⟩
  have v1 : Vis X.env.scope "found" := vis_of hS (by first | exact Or.inl (by decide +kernel) | exact Or.inr (Or.inl (by decide +kernel)))
  have l1 : Loc X.env.scope "found" := loc_of hS (by first | exact Or.inl (by decide +kernel) | exact Or.inr (by decide +kernel))
  have hf1 : X.fn "found" = true ∨ X.env.scope.names.lookup ("found" : Str) = some .local := .inl (hfn _)
  have lk1 : X.env.scope.names.lookup ("found" : Str) = some .local := lk_of hS (by decide +kernel)
  have n2 : X.N[2]? = some ("start" : Str) := nm_of hN rfl
  have d2 : (("start" : Str) == ("__debug__" : Str)) = false ∧ (("start" : Str) == ("__classdict__" : Str)) = false := ⟨by decide +kernel, by decide +kernel⟩
  have v2 : Vis X.env.scope "start" := vis_of hS (by first | exact Or.inl (by decide +kernel) | exact Or.inr (Or.inl (by decide +kernel)))
  have l2 : Loc X.env.scope "start" := loc_of hS (by first | exact Or.inl (by decide +kernel) | exact Or.inr (by decide +kernel))
  have hf2 : X.fn "start" = true ∨ X.env.scope.names.lookup ("start" : Str) = some .local := .inl (hfn _)
  have lk2 : X.env.scope.names.lookup ("start" : Str) = some .local := lk_of hS (by decide +kernel)
  have n3 : X.N[3]? = some ("index" : Str) := nm_of hN rfl
  have d3 : (("index" : Str) == ("__debug__" : Str)) = false ∧ (("index" : Str) == ("__classdict__" : Str)) = false := ⟨by decide +kernel, by decide +kernel⟩
  have v3 : Vis X.env.scope "index" := vis_of hS (by first | exact Or.inl (by decide +kernel) | exact Or.inr (Or.inl (by decide +kernel)))
  have l3 : Loc X.env.scope "index" := loc_of hS (by first | exact Or.inl (by decide +kernel) | exact Or.inr (by decide +kernel))
  have hf3 : X.fn "index" = true ∨ X.env.scope.names.lookup ("index" : Str) = some .local := .inl (hfn _)
  have n4 : X.N[4]? = some ("sign" : Str) := nm_of hN rfl
  have d4 : (("sign" : Str) == ("__debug__" : Str)) = false ∧ (("sign" : Str) == ("__classdict__" : Str)) = false := ⟨by decide +kernel, by decide +kernel⟩
  have v4 : Vis X.env.scope "sign" := vis_of hS (by first | exact Or.inl (by decide +kernel) | exact Or.inr (Or.inl (by decide +kernel)))
  have l4 : Loc X.env.scope "sign" := loc_of hS (by first | exact Or.inl (by decide +kernel) | exact Or.inr (by decide +kernel))
  have hf4 : X.fn "sign" = true ∨ X.env.scope.names.lookup ("sign" : Str) = some .local := .inl (hfn _)
  have hk : X.env.scope.kind = .function := by rw [hS]; rfl
  have g_enumerate : Gl X "enumerate" := gl_of hS (by decide +kernel)
  exact rs_cons (rs_par 1 2 (rd_r1 (rd_lst (rd_a0)) (rd_r1 (rd_non) (rd_r0))) hc nd n1 n2 (by decide) lk1 lk2 (sst2 hk lk1 lk2 rfl rfl rfl rfl (by decide +kernel))) (rs_cons (rs_for [3, 4] hp hc (ri_en hc g_enumerate m_enumerate (rd_a1 (rd_fz (rd_bin (rdp_var 0 n0 v0 d0.1 d0.2) (rd_pv (rd_fz (rd_str))))) (rd_a0))) (rg_tup hc (rg_cons 3 (by decide) nd n3 l3 (rg_cons 4 (by decide) nd n4 l4 (rg_nil) (hf4)) (hf3))) (rs_cons (rs_if (PW.pt (rd_wand (rd_tcmp hu (rdp_var 4 n4 v4 d4.1 d4.2) (rd_pv (rd_fz (rd_str))) (nomark _)) (rd_wand1 (rd_tcmp hu (rdp_var 2 n2 v2 d2.1 d2.2) (rd_pv (rd_fz (rd_non))) (nomark _))))) (rs_one (rs_set 2 (rd_var 3 n3 v3 d3.1 d3.2) nd n2 l2 (hf := hf2))) (rs_nil)) (rs_one (rs_if (PW.pt (rd_wand (rd_tcmp hu (rdp_var 4 n4 v4 d4.1 d4.2) (rd_pv (rd_fz (rd_str))) (nomark _)) (rd_wand1 (rd_tcmp hu (rdp_var 2 n2 v2 d2.1 d2.2) (rd_pv (rd_fz (rd_non))) (nomark _))))) (rs_cons (rs_app 1 (pe_bm PySem.F.plainAttrs_list PySem.F.slot_list_append PySem.F.type_list_append mt_append (pe_var (i := 1) n1 v1 d1.1 d1.2) (pa_cons (rd_fz (rd_tup (rd_a1 (rd_fz (rd_var 2 n2 v2 d2.1 d2.2)) (rd_a1 (rd_fz (rd_bin (rdp_var 3 n3 v3 d3.1 d3.2) (rdp_var 2 n2 v2 d2.1 d2.2))) (rd_a0))))) pa_nil))) (rs_one (rs_set 2 (rd_non) nd n2 l2 (hf := hf2)))) (rs_nil))))) (rs_one (rs_retV 1 n1 v1 d1.1 d1.2)))
abbrev s_leaves_single : Stmt := topS 17
abbrev N_leaves_single : List Str := ["row", "booking", "start", "size", "first", "length"]
theorem der_leaves_single {X : Cx} (hN : X.N = N_leaves_single) (hS : X.env.scope = defScope s_leaves_single) (nd : X.N.Nodup) (hc : X.calm = true) (hu : X.A.units + 70 < cLine) (hfn : ∀ x, X.fn x = true) (hp : PassesOwn (model X.prog X.w) X.A X.env X.xe) (C_gaps : Cal X "gaps" F_gaps) : PSs X (defBody s_leaves_single) (rdS (kp X) W0 B_leaves_single) := by
  have n0 : X.N[0]? = some ("row" : Str) := nm_of hN rfl
  have d0 : (("row" : Str) == ("__debug__" : Str)) = false ∧ (("row" : Str) == ("__classdict__" : Str)) = false := ⟨by decide +kernel, by decide +kernel⟩
  have v0 : Vis X.env.scope "row" := vis_of hS (by first | exact Or.inl (by decide +kernel) | exact Or.inr (Or.inl (by decide +kernel)))
  have l0 : Loc X.env.scope "row" := loc_of hS (by first | exact Or.inl (by decide +kernel) | exact Or.inr (by decide +kernel))
  have hf0 : X.fn "row" = true ∨ X.env.scope.names.lookup ("row" : Str) = some .local := .inl (hfn _)
  have n1 : X.N[1]? = some ("booking" : Str) := nm_of hN rfl
  have d1 : (("booking" : Str) == ("__debug__" : Str)) = false ∧ (("booking" : Str) == ("__classdict__" : Str)) = false := ⟨by decide +kernel, by decide +kernel⟩
  have v1 : Vis X.env.scope "booking" := vis_of hS (by first | exact Or.inl (by decide +kernel) | exact Or.inr (Or.inl (by decide +kernel)))
  have l1 : Loc X.env.scope "booking" := loc_of hS (by first | exact Or.inl (by decide +kernel) | exact Or.inr (by decide +kernel))
  have hf1 : X.fn "booking" = true ∨ X.env.scope.names.lookup ("booking" : Str) = some .local := .inl (hfn _)
  have n2 : X.N[2]? = some ("start" : Str) := nm_of hN rfl
  have d2 : (("start" : Str) == ("__debug__" : Str)) = false ∧ (("start" : Str) == ("__classdict__" : Str)) = false := ⟨by decide +kernel, by decide +kernel⟩
  have v2 : Vis X.env.scope "start" := vis_of hS (by first | exact Or.inl (by decide +kernel) | exact Or.inr (Or.inl (by decide +kernel)))
  have l2 : Loc X.env.scope "start" := loc_of hS (by first | exact Or.inl (by decide +kernel) | exact Or.inr (by decide +kernel))
  have hf2 : X.fn "start" = true ∨ X.env.scope.names.lookup ("start" : Str) = some .local := .inl (hfn _)
  have n3 : X.N[3]? = some ("size" : Str) := nm_of hN rfl
  have d3 : (("size" : Str) == ("__debug__" : Str)) = false ∧ (("size" : Str) == ("__classdict__" : Str)) = false := ⟨by decide +kernel, by decide +kernel⟩
  have v3 : Vis X.env.scope "size" := vis_of hS (by first | exact Or.inl (by decide +kernel) | exact Or.inr (Or.inl (by decide +kernel)))
  have l3 : Loc X.env.scope "size" := loc_of hS (by first | exact Or.inl (by decide +kernel) | exact Or.inr (by decide +kernel))
  have hf3 : X.fn "size" = true ∨ X.env.scope.names.lookup ("size" : Str) = some .local := .inl (hfn _)
  have n4 : X.N[4]? = some ("first" : Str) := nm_of hN rfl
  have d4 : (("first" : Str) == ("__debug__" : Str)) = false ∧ (("first" : Str) == ("__classdict__" : Str)) = false := ⟨by decide +kernel, by decide +kernel⟩
  have v4 : Vis X.env.scope "first" := vis_of hS (by first | exact Or.inl (by decide +kernel) | exact Or.inr (Or.inl (by decide +kernel)))
  have l4 : Loc X.env.scope "first" := loc_of hS (by first | exact Or.inl (by decide +kernel) | exact Or.inr (by decide +kernel))
  have hf4 : X.fn "first" = true ∨ X.env.scope.names.lookup ("first" : Str) = some .local := .inl (hfn _)
  have n5 : X.N[5]? = some ("length" : Str) := nm_of hN rfl
  have d5 : (("length" : Str) == ("__debug__" : Str)) = false ∧ (("length" : Str) == ("__classdict__" : Str)) = false := ⟨by decide +kernel, by decide +kernel⟩
  have v5 : Vis X.env.scope "length" := vis_of hS (by first | exact Or.inl (by decide +kernel) | exact Or.inr (Or.inl (by decide +kernel)))
  have l5 : Loc X.env.scope "length" := loc_of hS (by first | exact Or.inl (by decide +kernel) | exact Or.inr (by decide +kernel))
  have hf5 : X.fn "length" = true ∨ X.env.scope.names.lookup ("length" : Str) = some .local := .inl (hfn _)
  have g_gaps : Gl X "gaps" := gl_of hS (by decide +kernel)
  have e_gaps : (("gaps" : Str) == ("__debug__" : Str)) = false := by decide +kernel
  exact rs_cons (rs_asg [2, 3] (rd_var 1 n1 v1 d1.1 d1.2) (rg_tup hc (rg_cons 2 (by decide) nd n2 l2 (rg_cons 3 (by decide) nd n3 l3 (rg_nil) (hf3)) (hf2)))) (rs_cons (rs_for [4, 5] hp hc (ri_seq (rd_fz (rd_cal C_gaps g_gaps e_gaps (rd_a1 (rd_fz (rd_var 0 n0 v0 d0.1 d0.2)) (rd_a0))))) (rg_tup hc (rg_cons 4 (by decide) nd n4 l4 (rg_cons 5 (by decide) nd n5 l5 (rg_nil) (hf5)) (hf4))) (rs_one (rs_if (rd_tchain hu (rdp_var 4 n4 v4 d4.1 d4.2) (rdp_var 2 n2 v2 d2.1 d2.2) (rd_pv (rd_fz (rd_bin (rdp_var 4 n4 v4 d4.1 d4.2) (rdp_var 5 n5 v5 d5.1 d5.2))))) (rs_one (rs_ret (rd_cmp hu (rd_pv (rd_fz (rd_int))) (rd_pv (rd_fz (rd_tup (rd_a1 (rd_fz (rd_bin (rdp_var 2 n2 v2 d2.1 d2.2) (rdp_var 4 n4 v4 d4.1 d4.2))) (rd_a1 (rd_fz (rd_bin (rd_pv (rd_fz (rd_bin (rd_pv (rd_fz (rd_bin (rdp_var 4 n4 v4 d4.1 d4.2) (rdp_var 5 n5 v5 d5.1 d5.2)))) (rdp_var 2 n2 v2 d2.1 d2.2)))) (rdp_var 3 n3 v3 d3.1 d3.2))) (rd_a0)))))) (by rfl)))) (rs_nil)))) (rs_one (rs_ret (rd_bl))))
abbrev s_Hall_refuses : Stmt := inClass (topS 19) 7
abbrev N_Hall_refuses : List Str := ["self", "row", "booking"]
theorem der_Hall_refuses {X : Cx} (hN : X.N = N_Hall_refuses) (hS : X.env.scope = defScope s_Hall_refuses) (nd : X.N.Nodup) (hc : X.calm = true) (hu : X.A.units + 70 < cLine) (hfn : ∀ x, X.fn x = true) (hp : PassesOwn (model X.prog X.w) X.A X.env X.xe) (C_leaves_single : Cal X "leaves_single" F_leaves_single) : PSs X (defBody s_Hall_refuses) (rdS (kp X) W0 B_Hall_refuses) := by
  have n1 : X.N[1]? = some ("row" : Str) := nm_of hN rfl
  have d1 : (("row" : Str) == ("__debug__" : Str)) = false ∧ (("row" : Str) == ("__classdict__" : Str)) = false := ⟨by decide +kernel, by decide +kernel⟩
  have v1 : Vis X.env.scope "row" := vis_of hS (by first | exact Or.inl (by decide +kernel) | exact Or.inr (Or.inl (by decide +kernel)))
  have l1 : Loc X.env.scope "row" := loc_of hS (by first | exact Or.inl (by decide +kernel) | exact Or.inr (by decide +kernel))
  have hf1 : X.fn "row" = true ∨ X.env.scope.names.lookup ("row" : Str) = some .local := .inl (hfn _)
  have n2 : X.N[2]? = some ("booking" : Str) := nm_of hN rfl
  have d2 : (("booking" : Str) == ("__debug__" : Str)) = false ∧ (("booking" : Str) == ("__classdict__" : Str)) = false := ⟨by decide +kernel, by decide +kernel⟩
  have v2 : Vis X.env.scope "booking" := vis_of hS (by first | exact Or.inl (by decide +kernel) | exact Or.inr (Or.inl (by decide +kernel)))
  have l2 : Loc X.env.scope "booking" := loc_of hS (by first | exact Or.inl (by decide +kernel) | exact Or.inr (by decide +kernel))
  have hf2 : X.fn "booking" = true ∨ X.env.scope.names.lookup ("booking" : Str) = some .local := .inl (hfn _)
  have g_leaves_single : Gl X "leaves_single" := gl_of hS (by decide +kernel)
  have e_leaves_single : (("leaves_single" : Str) == ("__debug__" : Str)) = false := by decide +kernel
  exact rs_one (rs_ret (rd_cal C_leaves_single g_leaves_single e_leaves_single (rd_a1 (rd_fz (rd_var 1 n1 v1 d1.1 d1.2)) (rd_a1 (rd_fz (rd_var 2 n2 v2 d2.1 d2.2)) (rd_a0)))))
abbrev s_Hall_check : Stmt := inClass (topS 19) 8
abbrev N_Hall_check : List Str := ["self", "row", "start", "size"]
theorem der_Hall_check {X : Cx} (hN : X.N = N_Hall_check) (hS : X.env.scope = defScope s_Hall_check) (nd : X.N.Nodup) (hc : X.calm = true) (hu : X.A.units + 70 < cLine) (hfn : ∀ x, X.fn x = true) (hp : PassesOwn (model X.prog X.w) X.A X.env X.xe) (C_is_booking : Cal X "is_booking" F_is_booking) (C_is_free : Cal X "is_free" F_is_free) (C_is_integer : Cal X "is_integer" F_is_integer) (m_len : X.mg "len" = none) (fl_lines : FldR X.K ["Hall", "LenientHall"] "lines") (M_refuses : MetOk X [("Hall", F_Hall_refuses)] "refuses") : PSs X (defBody s_Hall_check) (rdS (kp X) W0 B_Hall_check) := by
  have n0 : X.N[0]? = some ("self" : Str) := nm_of hN rfl
  have d0 : (("self" : Str) == ("__debug__" : Str)) = false ∧ (("self" : Str) == ("__classdict__" : Str)) = false := ⟨by decide +kernel, by decide +kernel⟩
  have v0 : Vis X.env.scope "self" := vis_of hS (by first | exact Or.inl (by decide +kernel) | exact Or.inr (Or.inl (by decide +kernel)))
  have l0 : Loc X.env.scope "self" := loc_of hS (by first | exact Or.inl (by decide +kernel) | exact Or.inr (by decide +kernel))
  have hf0 : X.fn "self" = true ∨ X.env.scope.names.lookup ("self" : Str) = some .local := .inl (hfn _)
  have n1 : X.N[1]? = some ("row" : Str) := nm_of hN rfl
  have d1 : (("row" : Str) == ("__debug__" : Str)) = false ∧ (("row" : Str) == ("__classdict__" : Str)) = false := ⟨by decide +kernel, by decide +kernel⟩
  have v1 : Vis X.env.scope "row" := vis_of hS (by first | exact Or.inl (by decide +kernel) | exact Or.inr (Or.inl (by decide +kernel)))
  have l1 : Loc X.env.scope "row" := loc_of hS (by first | exact Or.inl (by decide +kernel) | exact Or.inr (by decide +kernel))
  have hf1 : X.fn "row" = true ∨ X.env.scope.names.lookup ("row" : Str) = some .local := .inl (hfn _)
  have n2 : X.N[2]? = some ("start" : Str) := nm_of hN rfl
  have d2 : (("start" : Str) == ("__debug__" : Str)) = false ∧ (("start" : Str) == ("__classdict__" : Str)) = false := ⟨by decide +kernel, by decide +kernel⟩
  have v2 : Vis X.env.scope "start" := vis_of hS (by first | exact Or.inl (by decide +kernel) | exact Or.inr (Or.inl (by decide +kernel)))
  have l2 : Loc X.env.scope "start" := loc_of hS (by first | exact Or.inl (by decide +kernel) | exact Or.inr (by decide +kernel))
  have hf2 : X.fn "start" = true ∨ X.env.scope.names.lookup ("start" : Str) = some .local := .inl (hfn _)
  have n3 : X.N[3]? = some ("size" : Str) := nm_of hN rfl
  have d3 : (("size" : Str) == ("__debug__" : Str)) = false ∧ (("size" : Str) == ("__classdict__" : Str)) = false := ⟨by decide +kernel, by decide +kernel⟩
  have v3 : Vis X.env.scope "size" := vis_of hS (by first | exact Or.inl (by decide +kernel) | exact Or.inr (Or.inl (by decide +kernel)))
  have l3 : Loc X.env.scope "size" := loc_of hS (by first | exact Or.inl (by decide +kernel) | exact Or.inr (by decide +kernel))
  have hf3 : X.fn "size" = true ∨ X.env.scope.names.lookup ("size" : Str) = some .local := .inl (hfn _)
  have g_is_booking : Gl X "is_booking" := gl_of hS (by decide +kernel)
  have g_is_free : Gl X "is_free" := gl_of hS (by decide +kernel)
  have g_is_integer : Gl X "is_integer" := gl_of hS (by decide +kernel)
  have g_len : Gl X "len" := gl_of hS (by decide +kernel)
  have e_is_booking : (("is_booking" : Str) == ("__debug__" : Str)) = false := by decide +kernel
  have e_is_free : (("is_free" : Str) == ("__debug__" : Str)) = false := by decide +kernel
  have e_is_integer : (("is_integer" : Str) == ("__debug__" : Str)) = false := by decide +kernel
  exact rs_cons (rs_if (PW.pt (rd_wor (rd_tnot (rd_tv (rd_pv (rd_fz (rd_cal C_is_integer g_is_integer e_is_integer (rd_a1 (rd_fz (rd_var 1 n1 v1 d1.1 d1.2)) (rd_a1 (rd_fz (rd_int)) (rd_a1 (rd_fz (rd_bin (rd_pv (rd_fz (rd_fnB cr_len g_len m_len (by decide +kernel) (rd_q1 (rd_pv (rd_fz (rd_fld fl_lines (rdp_var 0 n0 v0 d0.1 d0.2)))) (rd_q0))))) (rd_pv (rd_fz (rd_int))))) (rd_a0))))))))) (rd_wor1 (rd_tnot (rd_tv (rd_pv (rd_fz (rd_cal C_is_booking g_is_booking e_is_booking (rd_a1 (rd_fz (rd_ix (rd_pv (rd_fz (rd_fld fl_lines (rdp_var 0 n0 v0 d0.1 d0.2)))) (rdp_var 1 n1 v1 d1.1 d1.2))) (rd_a1 (rd_fz (rd_tup (rd_a1 (rd_fz (rd_var 2 n2 v2 d2.1 d2.2)) (rd_a1 (rd_fz (rd_var 3 n3 v3 d3.1 d3.2)) (rd_a0))))) (rd_a0))))))))))) (rs_one (rs_bad)) (rs_nil)) (rs_cons (rs_if (rd_tnot (rd_tv (rd_pv (rd_fz (rd_cal C_is_free g_is_free e_is_free (rd_a1 (rd_fz (rd_ix (rd_pv (rd_fz (rd_fld fl_lines (rdp_var 0 n0 v0 d0.1 d0.2)))) (rdp_var 1 n1 v1 d1.1 d1.2))) (rd_a1 (rd_fz (rd_tup (rd_a1 (rd_fz (rd_var 2 n2 v2 d2.1 d2.2)) (rd_a1 (rd_fz (rd_var 3 n3 v3 d3.1 d3.2)) (rd_a0))))) (rd_a0)))))))) (rs_one (rs_bad)) (rs_nil)) (rs_one (rs_if (rd_tv (rd_pv (rd_fz (rd_meth M_refuses (rdp_var 0 n0 v0 d0.1 d0.2) (rd_a1 (rd_fz (rd_ix (rd_pv (rd_fz (rd_fld fl_lines (rdp_var 0 n0 v0 d0.1 d0.2)))) (rdp_var 1 n1 v1 d1.1 d1.2))) (rd_a1 (rd_fz (rd_tup (rd_a1 (rd_fz (rd_var 2 n2 v2 d2.1 d2.2)) (rd_a1 (rd_fz (rd_var 3 n3 v3 d3.1 d3.2)) (rd_a0))))) (rd_a0))))))) (rs_one (rs_bad)) (rs_nil))))
abbrev s_taken : Stmt := topS 16
abbrev N_taken : List Str := ["row", "booking", "start", "size"]
theorem der_taken {X : Cx} (hN : X.N = N_taken) (hS : X.env.scope = defScope s_taken) (nd : X.N.Nodup) (hc : X.calm = true) (hu : X.A.units + 70 < cLine) (hfn : ∀ x, X.fn x = true) (hp : PassesOwn (model X.prog X.w) X.A X.env X.xe) : PSs X (defBody s_taken) (rdS (kp X) W0 B_taken) := by
  have n0 : X.N[0]? = some ("row" : Str) := nm_of hN rfl
  have d0 : (("row" : Str) == ("__debug__" : Str)) = false ∧ (("row" : Str) == ("__classdict__" : Str)) = false := ⟨by decide +kernel, by decide +kernel⟩
  have v0 : Vis X.env.scope "row" := vis_of hS (by first | exact Or.inl (by decide +kernel) | exact Or.inr (Or.inl (by decide +kernel)))
  have l0 : Loc X.env.scope "row" := loc_of hS (by first | exact Or.inl (by decide +kernel) | exact Or.inr (by decide +kernel))
  have hf0 : X.fn "row" = true ∨ X.env.scope.names.lookup ("row" : Str) = some .local := .inl (hfn _)
  have n1 : X.N[1]? = some ("booking" : Str) := nm_of hN rfl
  have d1 : (("booking" : Str) == ("__debug__" : Str)) = false ∧ (("booking" : Str) == ("__classdict__" : Str)) = false := ⟨by decide +kernel, by decide +kernel⟩
  have v1 : Vis X.env.scope "booking" := vis_of hS (by first | exact Or.inl (by decide +kernel) | exact Or.inr (Or.inl (by decide +kernel)))
  have l1 : Loc X.env.scope "booking" := loc_of hS (by first | exact Or.inl (by decide +kernel) | exact Or.inr (by decide +kernel))
  have hf1 : X.fn "booking" = true ∨ X.env.scope.names.lookup ("booking" : Str) = some .local := .inl (hfn _)
  have n2 : X.N[2]? = some ("start" : Str) := nm_of hN rfl
  have d2 : (("start" : Str) == ("__debug__" : Str)) = false ∧ (("start" : Str) == ("__classdict__" : Str)) = false := ⟨by decide +kernel, by decide +kernel⟩
  have v2 : Vis X.env.scope "start" := vis_of hS (by first | exact Or.inl (by decide +kernel) | exact Or.inr (Or.inl (by decide +kernel)))
  have l2 : Loc X.env.scope "start" := loc_of hS (by first | exact Or.inl (by decide +kernel) | exact Or.inr (by decide +kernel))
  have hf2 : X.fn "start" = true ∨ X.env.scope.names.lookup ("start" : Str) = some .local := .inl (hfn _)
  have n3 : X.N[3]? = some ("size" : Str) := nm_of hN rfl
  have d3 : (("size" : Str) == ("__debug__" : Str)) = false ∧ (("size" : Str) == ("__classdict__" : Str)) = false := ⟨by decide +kernel, by decide +kernel⟩
  have v3 : Vis X.env.scope "size" := vis_of hS (by first | exact Or.inl (by decide +kernel) | exact Or.inr (Or.inl (by decide +kernel)))
  have l3 : Loc X.env.scope "size" := loc_of hS (by first | exact Or.inl (by decide +kernel) | exact Or.inr (by decide +kernel))
  have hf3 : X.fn "size" = true ∨ X.env.scope.names.lookup ("size" : Str) = some .local := .inl (hfn _)
  exact rs_cons (rs_asg [2, 3] (rd_var 1 n1 v1 d1.1 d1.2) (rg_tup hc (rg_cons 2 (by decide) nd n2 l2 (rg_cons 3 (by decide) nd n3 l3 (rg_nil) (hf3)) (hf2)))) (rs_one (rs_ret (rd_bin (rd_pv (rd_fz (rd_bin (rd_pv (rd_fz (rd_sl (rdp_var 0 n0 v0 d0.1 d0.2) (rd_o0) (rd_o1 (rdp_var 2 n2 v2 d2.1 d2.2))))) (rd_pv (rd_fz (rd_bin (rd_pv (rd_fz (rd_str))) (rdp_var 3 n3 v3 d3.1 d3.2))))))) (rd_pv (rd_fz (rd_sl (rdp_var 0 n0 v0 d0.1 d0.2) (rd_o1 (rd_pv (rd_fz (rd_bin (rdp_var 2 n2 v2 d2.1 d2.2) (rdp_var 3 n3 v3 d3.1 d3.2))))) (rd_o0)))))))
abbrev s_Hall_put : Stmt := inClass (topS 19) 10
abbrev N_Hall_put : List Str := ["self", "row", "start", "size", "number", "line"]
theorem der_Hall_put {X : Cx} (hN : X.N = N_Hall_put) (hS : X.env.scope = defScope s_Hall_put) (nd : X.N.Nodup) (hc : X.calm = true) (hu : X.A.units + 70 < cLine) (hfn : ∀ x, X.fn x = true) (hp : PassesOwn (model X.prog X.w) X.A X.env X.xe) (C_taken : Cal X "taken" F_taken) (fl_book_list : FldR X.K ["Hall", "LenientHall"] "book_list") (fl_lines : FldR X.K ["Hall", "LenientHall"] "lines") (fl_next_number : FldR X.K ["Hall", "LenientHall"] "next_number") : PSs X (defBody s_Hall_put) (rdS (kp X) W0 B_Hall_put) := by
  have n0 : X.N[0]? = some ("self" : Str) := nm_of hN rfl
  have d0 : (("self" : Str) == ("__debug__" : Str)) = false ∧ (("self" : Str) == ("__classdict__" : Str)) = false := ⟨by decide +kernel, by decide +kernel⟩
  have v0 : Vis X.env.scope "self" := vis_of hS (by first | exact Or.inl (by decide +kernel) | exact Or.inr (Or.inl (by decide +kernel)))
  have l0 : Loc X.env.scope "self" := loc_of hS (by first | exact Or.inl (by decide +kernel) | exact Or.inr (by decide +kernel))
  have hf0 : X.fn "self" = true ∨ X.env.scope.names.lookup ("self" : Str) = some .local := .inl (hfn _)
  have n1 : X.N[1]? = some ("row" : Str) := nm_of hN rfl
  have d1 : (("row" : Str) == ("__debug__" : Str)) = false ∧ (("row" : Str) == ("__classdict__" : Str)) = false := ⟨by decide +kernel, by decide +kernel⟩
  have v1 : Vis X.env.scope "row" := vis_of hS (by first | exact Or.inl (by decide +kernel) | exact Or.inr (Or.inl (by decide +kernel)))
  have l1 : Loc X.env.scope "row" := loc_of hS (by first | exact Or.inl (by decide +kernel) | exact Or.inr (by decide +kernel))
  have hf1 : X.fn "row" = true ∨ X.env.scope.names.lookup ("row" : Str) = some .local := .inl (hfn _)
  have n2 : X.N[2]? = some ("start" : Str) := nm_of hN rfl
  have d2 : (("start" : Str) == ("__debug__" : Str)) = false ∧ (("start" : Str) == ("__classdict__" : Str)) = false := ⟨by decide +kernel, by decide +kernel⟩
  have v2 : Vis X.env.scope "start" := vis_of hS (by first | exact Or.inl (by decide +kernel) | exact Or.inr (Or.inl (by decide +kernel)))
  have l2 : Loc X.env.scope "start" := loc_of hS (by first | exact Or.inl (by decide +kernel) | exact Or.inr (by decide +kernel))
  have hf2 : X.fn "start" = true ∨ X.env.scope.names.lookup ("start" : Str) = some .local := .inl (hfn _)
  have n3 : X.N[3]? = some ("size" : Str) := nm_of hN rfl
  have d3 : (("size" : Str) == ("__debug__" : Str)) = false ∧ (("size" : Str) == ("__classdict__" : Str)) = false := ⟨by decide +kernel, by decide +kernel⟩
  have v3 : Vis X.env.scope "size" := vis_of hS (by first | exact Or.inl (by decide +kernel) | exact Or.inr (Or.inl (by decide +kernel)))
  have l3 : Loc X.env.scope "size" := loc_of hS (by first | exact Or.inl (by decide +kernel) | exact Or.inr (by decide +kernel))
  have hf3 : X.fn "size" = true ∨ X.env.scope.names.lookup ("size" : Str) = some .local := .inl (hfn _)
  have n4 : X.N[4]? = some ("number" : Str) := nm_of hN rfl
  have d4 : (("number" : Str) == ("__debug__" : Str)) = false ∧ (("number" : Str) == ("__classdict__" : Str)) = false := ⟨by decide +kernel, by decide +kernel⟩
  have v4 : Vis X.env.scope "number" := vis_of hS (by first | exact Or.inl (by decide +kernel) | exact Or.inr (Or.inl (by decide +kernel)))
  have l4 : Loc X.env.scope "number" := loc_of hS (by first | exact Or.inl (by decide +kernel) | exact Or.inr (by decide +kernel))
  have hf4 : X.fn "number" = true ∨ X.env.scope.names.lookup ("number" : Str) = some .local := .inl (hfn _)
  have n5 : X.N[5]? = some ("line" : Str) := nm_of hN rfl
  have d5 : (("line" : Str) == ("__debug__" : Str)) = false ∧ (("line" : Str) == ("__classdict__" : Str)) = false := ⟨by decide +kernel, by decide +kernel⟩
  have v5 : Vis X.env.scope "line" := vis_of hS (by first | exact Or.inl (by decide +kernel) | exact Or.inr (Or.inl (by decide +kernel)))
  have l5 : Loc X.env.scope "line" := loc_of hS (by first | exact Or.inl (by decide +kernel) | exact Or.inr (by decide +kernel))
  have hf5 : X.fn "line" = true ∨ X.env.scope.names.lookup ("line" : Str) = some .local := .inl (hfn _)
  have g_taken : Gl X "taken" := gl_of hS (by decide +kernel)
  have e_taken : (("taken" : Str) == ("__debug__" : Str)) = false := by decide +kernel
  exact rs_cons (rs_set 4 (rd_fld fl_next_number (rdp_var 0 n0 v0 d0.1 d0.2)) nd n4 l4 (hf := hf4)) (rs_cons (rs_set 5 (rd_cal C_taken g_taken e_taken (rd_a1 (rd_fz (rd_ix (rd_pv (rd_fz (rd_fld fl_lines (rdp_var 0 n0 v0 d0.1 d0.2)))) (rdp_var 1 n1 v1 d1.1 d1.2))) (rd_a1 (rd_fz (rd_tup (rd_a1 (rd_fz (rd_var 2 n2 v2 d2.1 d2.2)) (rd_a1 (rd_fz (rd_var 3 n3 v3 d3.1 d3.2)) (rd_a0))))) (rd_a0)))) nd n5 l5 (hf := hf5)) (rs_cons (rs_fld fl_lines (rd_fz (rd_bin (rd_pv (rd_fz (rd_bin (rd_pv (rd_fz (rd_sl (rd_pv (rd_fz (rd_fld fl_lines (rdp_var 0 n0 v0 d0.1 d0.2)))) (rd_o0) (rd_o1 (rdp_var 1 n1 v1 d1.1 d1.2))))) (rd_pv (rd_fz (rd_tup (rd_a1 (rd_fz (rd_var 5 n5 v5 d5.1 d5.2)) (rd_a0)))))))) (rd_pv (rd_fz (rd_sl (rd_pv (rd_fz (rd_fld fl_lines (rdp_var 0 n0 v0 d0.1 d0.2)))) (rd_o1 (rd_pv (rd_fz (rd_bin (rdp_var 1 n1 v1 d1.1 d1.2) (rd_pv (rd_fz (rd_int))))))) (rd_o0)))))) (rdp_var 0 n0 v0 d0.1 d0.2)) (rs_cons (rs_fld fl_book_list (rd_fz (rd_bin (rd_pv (rd_fz (rd_fld fl_book_list (rdp_var 0 n0 v0 d0.1 d0.2)))) (rd_pv (rd_fz (rd_tup (rd_a1 (rd_fz (rd_tup (rd_a1 (rd_fz (rd_var 4 n4 v4 d4.1 d4.2)) (rd_a1 (rd_fz (rd_var 1 n1 v1 d1.1 d1.2)) (rd_a1 (rd_fz (rd_var 2 n2 v2 d2.1 d2.2)) (rd_a1 (rd_fz (rd_var 3 n3 v3 d3.1 d3.2)) (rd_a0))))))) (rd_a0))))))) (rdp_var 0 n0 v0 d0.1 d0.2)) (rs_cons (rs_fldaug fl_next_number (rdp_var 0 n0 v0 d0.1 d0.2) (rd_pv (rd_fz (rd_int)))) (rs_one (rs_retV 4 n4 v4 d4.1 d4.2))))))
abbrev s_Hall_book : Stmt := inClass (topS 19) 11
abbrev N_Hall_book : List Str := ["self", "row", "start", "size"]
theorem der_Hall_book {X : Cx} (hN : X.N = N_Hall_book) (hS : X.env.scope = defScope s_Hall_book) (nd : X.N.Nodup) (hc : X.calm = true) (hu : X.A.units + 70 < cLine) (hfn : ∀ x, X.fn x = true) (hp : PassesOwn (model X.prog X.w) X.A X.env X.xe) (M_check : MetOk X [("Hall", F_Hall_check), ("LenientHall", F_Hall_check)] "check") (M_keep : MetOk X [("Hall", F_Hall_keep), ("LenientHall", F_Hall_keep)] "keep") (M_put : MetOk X [("Hall", F_Hall_put), ("LenientHall", F_Hall_put)] "put") : PSs X (defBody s_Hall_book) (rdS (kp X) W0 B_Hall_book) := by
  have n0 : X.N[0]? = some ("self" : Str) := nm_of hN rfl
  have d0 : (("self" : Str) == ("__debug__" : Str)) = false ∧ (("self" : Str) == ("__classdict__" : Str)) = false := ⟨by decide +kernel, by decide +kernel⟩
  have v0 : Vis X.env.scope "self" := vis_of hS (by first | exact Or.inl (by decide +kernel) | exact Or.inr (Or.inl (by decide +kernel)))
  have l0 : Loc X.env.scope "self" := loc_of hS (by first | exact Or.inl (by decide +kernel) | exact Or.inr (by decide +kernel))
  have hf0 : X.fn "self" = true ∨ X.env.scope.names.lookup ("self" : Str) = some .local := .inl (hfn _)
  have n1 : X.N[1]? = some ("row" : Str) := nm_of hN rfl
  have d1 : (("row" : Str) == ("__debug__" : Str)) = false ∧ (("row" : Str) == ("__classdict__" : Str)) = false := ⟨by decide +kernel, by decide +kernel⟩
  have v1 : Vis X.env.scope "row" := vis_of hS (by first | exact Or.inl (by decide +kernel) | exact Or.inr (Or.inl (by decide +kernel)))
  have l1 : Loc X.env.scope "row" := loc_of hS (by first | exact Or.inl (by decide +kernel) | exact Or.inr (by decide +kernel))
  have hf1 : X.fn "row" = true ∨ X.env.scope.names.lookup ("row" : Str) = some .local := .inl (hfn _)
  have n2 : X.N[2]? = some ("start" : Str) := nm_of hN rfl
  have d2 : (("start" : Str) == ("__debug__" : Str)) = false ∧ (("start" : Str) == ("__classdict__" : Str)) = false := ⟨by decide +kernel, by decide +kernel⟩
  have v2 : Vis X.env.scope "start" := vis_of hS (by first | exact Or.inl (by decide +kernel) | exact Or.inr (Or.inl (by decide +kernel)))
  have l2 : Loc X.env.scope "start" := loc_of hS (by first | exact Or.inl (by decide +kernel) | exact Or.inr (by decide +kernel))
  have hf2 : X.fn "start" = true ∨ X.env.scope.names.lookup ("start" : Str) = some .local := .inl (hfn _)
  have n3 : X.N[3]? = some ("size" : Str) := nm_of hN rfl
  have d3 : (("size" : Str) == ("__debug__" : Str)) = false ∧ (("size" : Str) == ("__classdict__" : Str)) = false := ⟨by decide +kernel, by decide +kernel⟩
  have v3 : Vis X.env.scope "size" := vis_of hS (by first | exact Or.inl (by decide +kernel) | exact Or.inr (Or.inl (by decide +kernel)))
  have l3 : Loc X.env.scope "size" := loc_of hS (by first | exact Or.inl (by decide +kernel) | exact Or.inr (by decide +kernel))
  have hf3 : X.fn "size" = true ∨ X.env.scope.names.lookup ("size" : Str) = some .local := .inl (hfn _)
  exact rs_cons (rs_drop (rd_meth M_check (rdp_var 0 n0 v0 d0.1 d0.2) (rd_a1 (rd_fz (rd_var 1 n1 v1 d1.1 d1.2)) (rd_a1 (rd_fz (rd_var 2 n2 v2 d2.1 d2.2)) (rd_a1 (rd_fz (rd_var 3 n3 v3 d3.1 d3.2)) (rd_a0)))))) (rs_cons (rs_drop (rd_meth0 M_keep (rdp_var 0 n0 v0 d0.1 d0.2))) (rs_one (rs_ret (rd_meth M_put (rdp_var 0 n0 v0 d0.1 d0.2) (rd_a1 (rd_fz (rd_var 1 n1 v1 d1.1 d1.2)) (rd_a1 (rd_fz (rd_var 2 n2 v2 d2.1 d2.2)) (rd_a1 (rd_fz (rd_var 3 n3 v3 d3.1 d3.2)) (rd_a0))))))))
abbrev s_Hall_attempt : Stmt := inClass (topS 19) 12
abbrev N_Hall_attempt : List Str := ["self", "wishes", "state", "wish"]
theorem der_Hall_attempt {X : Cx} (hN : X.N = N_Hall_attempt) (hS : X.env.scope = defScope s_Hall_attempt) (nd : X.N.Nodup) (hc : X.calm = true) (hu : X.A.units + 70 < cLine) (hfn : ∀ x, X.fn x = true) (hp : PassesOwn (model X.prog X.w) X.A X.env X.xe) (m_isinstance : X.mg "isinstance" = none) (m_len : X.mg "len" = none) (m_tuple : X.mg "tuple" = none) (fl_book_list : FldR X.K ["Hall", "LenientHall"] "book_list") (fl_earlier : FldR X.K ["Hall", "LenientHall"] "earlier") (fl_lines : FldR X.K ["Hall", "LenientHall"] "lines") (fl_next_number : FldR X.K ["Hall", "LenientHall"] "next_number") (M_check : MetOk X [("Hall", F_Hall_check), ("LenientHall", F_Hall_check)] "check") (M_put : MetOk X [("Hall", F_Hall_put), ("LenientHall", F_Hall_put)] "put") : PSs X (defBody s_Hall_attempt) (rdS (kp X) W0 B_Hall_attempt) := by
  have n0 : X.N[0]? = some ("self" : Str) := nm_of hN rfl
  have d0 : (("self" : Str) == ("__debug__" : Str)) = false ∧ (("self" : Str) == ("__classdict__" : Str)) = false := ⟨by decide +kernel, by decide +kernel⟩
  have v0 : Vis X.env.scope "self" := vis_of hS (by first | exact Or.inl (by decide +kernel) | exact Or.inr (Or.inl (by decide +kernel)))
  have l0 : Loc X.env.scope "self" := loc_of hS (by first | exact Or.inl (by decide +kernel) | exact Or.inr (by decide +kernel))
  have hf0 : X.fn "self" = true ∨ X.env.scope.names.lookup ("self" : Str) = some .local := .inl (hfn _)
  have n1 : X.N[1]? = some ("wishes" : Str) := nm_of hN rfl
  have d1 : (("wishes" : Str) == ("__debug__" : Str)) = false ∧ (("wishes" : Str) == ("__classdict__" : Str)) = false := ⟨by decide +kernel, by decide +kernel⟩
  have v1 : Vis X.env.scope "wishes" := vis_of hS (by first | exact Or.inl (by decide +kernel) | exact Or.inr (Or.inl (by decide +kernel)))
  have l1 : Loc X.env.scope "wishes" := loc_of hS (by first | exact Or.inl (by decide +kernel) | exact Or.inr (by decide +kernel))
  have hf1 : X.fn "wishes" = true ∨ X.env.scope.names.lookup ("wishes" : Str) = some .local := .inl (hfn _)
  have n2 : X.N[2]? = some ("state" : Str) := nm_of hN rfl
  have d2 : (("state" : Str) == ("__debug__" : Str)) = false ∧ (("state" : Str) == ("__classdict__" : Str)) = false := ⟨by decide +kernel, by decide +kernel⟩
  have v2 : Vis X.env.scope "state" := vis_of hS (by first | exact Or.inl (by decide +kernel) | exact Or.inr (Or.inl (by decide +kernel)))
  have l2 : Loc X.env.scope "state" := loc_of hS (by first | exact Or.inl (by decide +kernel) | exact Or.inr (by decide +kernel))
  have hf2 : X.fn "state" = true ∨ X.env.scope.names.lookup ("state" : Str) = some .local := .inl (hfn _)
  have n3 : X.N[3]? = some ("wish" : Str) := nm_of hN rfl
  have d3 : (("wish" : Str) == ("__debug__" : Str)) = false ∧ (("wish" : Str) == ("__classdict__" : Str)) = false := ⟨by decide +kernel, by decide +kernel⟩
  have v3 : Vis X.env.scope "wish" := vis_of hS (by first | exact Or.inl (by decide +kernel) | exact Or.inr (Or.inl (by decide +kernel)))
  have l3 : Loc X.env.scope "wish" := loc_of hS (by first | exact Or.inl (by decide +kernel) | exact Or.inr (by decide +kernel))
  have hf3 : X.fn "wish" = true ∨ X.env.scope.names.lookup ("wish" : Str) = some .local := .inl (hfn _)
  have g_isinstance : Gl X "isinstance" := gl_of hS (by decide +kernel)
  have g_len : Gl X "len" := gl_of hS (by decide +kernel)
  have g_tuple : Gl X "tuple" := gl_of hS (by decide +kernel)
  exact rs_cons (rs_set 2 (rd_tup (rd_a1 (rd_fz (rd_fld fl_lines (rdp_var 0 n0 v0 d0.1 d0.2))) (rd_a1 (rd_fz (rd_fld fl_book_list (rdp_var 0 n0 v0 d0.1 d0.2))) (rd_a1 (rd_fz (rd_fld fl_next_number (rdp_var 0 n0 v0 d0.1 d0.2))) (rd_a0))))) nd n2 l2 (hf := hf2)) (rs_cons (rs_try0 (rs_one (rs_for [3] .never hc (ri_seq (rd_fz (rd_var 1 n1 v1 d1.1 d1.2))) (rg_name 3 (by decide) nd n3 l3 (hf3)) (rs_cons (rs_if (PW.pt (rd_wor (rd_tnot (rd_tv (rd_pv (rd_fz (rd_is .tuple g_isinstance m_isinstance g_tuple m_tuple (by decide +kernel) (rdp_var 3 n3 v3 d3.1 d3.2) (by decide +kernel)))))) (rd_wor1 (rd_tcmp hu (rd_pv (rd_fz (rd_fnB cr_len g_len m_len (by decide +kernel) (rd_q1 (rdp_var 3 n3 v3 d3.1 d3.2) (rd_q0))))) (rd_pv (rd_fz (rd_int))) (nomark _))))) (rs_one (rs_bad)) (rs_nil)) (rs_cons (rs_drop (rd_meth (M_check.nox) (rdp_var 0 n0 v0 d0.1 d0.2) (rd_a1 (rd_fz (rd_ix (rdp_var 3 n3 v3 d3.1 d3.2) (rd_pv (rd_fz (rd_int))))) (rd_a1 (rd_fz (rd_ix (rdp_var 3 n3 v3 d3.1 d3.2) (rd_pv (rd_fz (rd_int))))) (rd_a1 (rd_fz (rd_ix (rdp_var 3 n3 v3 d3.1 d3.2) (rd_pv (rd_fz (rd_int))))) (rd_a0)))))) (rs_one (rs_drop (rd_meth (M_put.nox) (rdp_var 0 n0 v0 d0.1 d0.2) (rd_a1 (rd_fz (rd_ix (rdp_var 3 n3 v3 d3.1 d3.2) (rd_pv (rd_fz (rd_int))))) (rd_a1 (rd_fz (rd_ix (rdp_var 3 n3 v3 d3.1 d3.2) (rd_pv (rd_fz (rd_int))))) (rd_a1 (rd_fz (rd_ix (rdp_var 3 n3 v3 d3.1 d3.2) (rd_pv (rd_fz (rd_int))))) (rd_a0)))))))))))) (rs_cons (rs_fld fl_earlier (rd_fz (rd_bin (rd_pv (rd_fz (rd_fld fl_earlier (rdp_var 0 n0 v0 d0.1 d0.2)))) (rd_pv (rd_fz (rd_tup (rd_a1 (rd_fz (rd_var 2 n2 v2 d2.1 d2.2)) (rd_a0))))))) (rdp_var 0 n0 v0 d0.1 d0.2)) (rs_one (rs_ret (rd_bl)))))
abbrev s_Hall_undo : Stmt := inClass (topS 19) 14
abbrev N_Hall_undo : List Str := ["self"]
theorem der_Hall_undo {X : Cx} (hN : X.N = N_Hall_undo) (hS : X.env.scope = defScope s_Hall_undo) (nd : X.N.Nodup) (hc : X.calm = true) (hu : X.A.units + 70 < cLine) (hfn : ∀ x, X.fn x = true) (hp : PassesOwn (model X.prog X.w) X.A X.env X.xe) (fl_book_list : FldR X.K ["Hall", "LenientHall"] "book_list") (fl_earlier : FldR X.K ["Hall", "LenientHall"] "earlier") (fl_lines : FldR X.K ["Hall", "LenientHall"] "lines") (fl_next_number : FldR X.K ["Hall", "LenientHall"] "next_number") : PSs X (defBody s_Hall_undo) (rdS (kp X) W0 B_Hall_undo) := by
  have n0 : X.N[0]? = some ("self" : Str) := nm_of hN rfl
  have d0 : (("self" : Str) == ("__debug__" : Str)) = false ∧ (("self" : Str) == ("__classdict__" : Str)) = false := ⟨by decide +kernel, by decide +kernel⟩
  have v0 : Vis X.env.scope "self" := vis_of hS (by first | exact Or.inl (by decide +kernel) | exact Or.inr (Or.inl (by decide +kernel)))
  have l0 : Loc X.env.scope "self" := loc_of hS (by first | exact Or.inl (by decide +kernel) | exact Or.inr (by decide +kernel))
  have hf0 : X.fn "self" = true ∨ X.env.scope.names.lookup ("self" : Str) = some .local := .inl (hfn _)
  exact rs_cons (rs_if (rd_tcmp hu (rd_pv (rd_fz (rd_fld fl_earlier (rdp_var 0 n0 v0 d0.1 d0.2)))) (rd_pv (rd_fz (rd_tup (rd_a0)))) (nomark _)) (rs_one (rs_bad)) (rs_nil)) (rs_cons (rs_asg [] (rd_ix (rd_pv (rd_fz (rd_fld fl_earlier (rdp_var 0 n0 v0 d0.1 d0.2)))) (rd_pv (rd_fz (rd_neg (rd_pv (rd_fz (rd_int))))))) (rge_tup hc (rge_cons (rg_fld fl_lines (rdp_var 0 n0 v0 d0.1 d0.2)) (rge_cons (rg_fld fl_book_list (rdp_var 0 n0 v0 d0.1 d0.2)) (rge_cons (rg_fld fl_next_number (rdp_var 0 n0 v0 d0.1 d0.2)) (rge_nil)))))) (rs_one (rs_fld fl_earlier (rd_fz (rd_sl (rd_pv (rd_fz (rd_fld fl_earlier (rdp_var 0 n0 v0 d0.1 d0.2)))) (rd_o0) (rd_o1 (rd_pv (rd_fz (rd_neg (rd_pv (rd_fz (rd_int))))))))) (rdp_var 0 n0 v0 d0.1 d0.2))))
abbrev s_Hall_rows : Stmt := inClass (topS 19) 4
abbrev N_Hall_rows : List Str := ["self"]
theorem der_Hall_rows {X : Cx} (hN : X.N = N_Hall_rows) (hS : X.env.scope = defScope s_Hall_rows) (nd : X.N.Nodup) (hc : X.calm = true) (hu : X.A.units + 70 < cLine) (hfn : ∀ x, X.fn x = true) (hp : PassesOwn (model X.prog X.w) X.A X.env X.xe) (fl_lines : FldR X.K ["Hall", "LenientHall"] "lines") : PSs X (defBody s_Hall_rows) (rdS (kp X) W0 B_Hall_rows) := by
  have n0 : X.N[0]? = some ("self" : Str) := nm_of hN rfl
  have d0 : (("self" : Str) == ("__debug__" : Str)) = false ∧ (("self" : Str) == ("__classdict__" : Str)) = false := ⟨by decide +kernel, by decide +kernel⟩
  have v0 : Vis X.env.scope "self" := vis_of hS (by first | exact Or.inl (by decide +kernel) | exact Or.inr (Or.inl (by decide +kernel)))
  have l0 : Loc X.env.scope "self" := loc_of hS (by first | exact Or.inl (by decide +kernel) | exact Or.inr (by decide +kernel))
  have hf0 : X.fn "self" = true ∨ X.env.scope.names.lookup ("self" : Str) = some .local := .inl (hfn _)
  exact rs_one (rs_ret (rd_fld fl_lines (rdp_var 0 n0 v0 d0.1 d0.2)))
abbrev s_Hall_empty : Stmt := inClass (topS 19) 2
abbrev N_Hall_empty : List Str := ["cls", "lengths", "rows", "length"]
theorem der_Hall_empty {X : Cx} (hN : X.N = N_Hall_empty) (hS : X.env.scope = defScope s_Hall_empty) (nd : X.N.Nodup) (hc : X.calm = true) (hu : X.A.units + 70 < cLine) (hfn : ∀ x, X.fn x = true) (hp : PassesOwn (model X.prog X.w) X.A X.env X.xe) (C_is_integer : Cal X "is_integer" F_is_integer) (m_all : X.mg "all" = none) (MKL : MakLOk X [("Hall", F_Hall_init), ("LenientHall", F_Hall_init)]) : PSs X (defBody s_Hall_empty) (rdS (kp X) W0 B_Hall_empty) := by
  have n0 : X.N[0]? = some ("cls" : Str) := nm_of hN rfl
  have d0 : (("cls" : Str) == ("__debug__" : Str)) = false ∧ (("cls" : Str) == ("__classdict__" : Str)) = false := ⟨by decide +kernel, by decide +kernel⟩
  have v0 : Vis X.env.scope "cls" := vis_of hS (by first | exact Or.inl (by decide +kernel) | exact Or.inr (Or.inl (by decide +kernel)))
  have l0 : Loc X.env.scope "cls" := loc_of hS (by first | exact Or.inl (by decide +kernel) | exact Or.inr (by decide +kernel))
  have hf0 : X.fn "cls" = true ∨ X.env.scope.names.lookup ("cls" : Str) = some .local := .inl (hfn _)
  have n1 : X.N[1]? = some ("lengths" : Str) := nm_of hN rfl
  have d1 : (("lengths" : Str) == ("__debug__" : Str)) = false ∧ (("lengths" : Str) == ("__classdict__" : Str)) = false := ⟨by decide +kernel, by decide +kernel⟩
  have v1 : Vis X.env.scope "lengths" := vis_of hS (by first | exact Or.inl (by decide +kernel) | exact Or.inr (Or.inl (by decide +kernel)))
  have l1 : Loc X.env.scope "lengths" := loc_of hS (by first | exact Or.inl (by decide +kernel) | exact Or.inr (by decide +kernel))
  have hf1 : X.fn "lengths" = true ∨ X.env.scope.names.lookup ("lengths" : Str) = some .local := .inl (hfn _)
  have n2 : X.N[2]? = some ("rows" : Str) := nm_of hN rfl
  have d2 : (("rows" : Str) == ("__debug__" : Str)) = false ∧ (("rows" : Str) == ("__classdict__" : Str)) = false := ⟨by decide +kernel, by decide +kernel⟩
  have v2 : Vis X.env.scope "rows" := vis_of hS (by first | exact Or.inl (by decide +kernel) | exact Or.inr (Or.inl (by decide +kernel)))
  have l2 : Loc X.env.scope "rows" := loc_of hS (by first | exact Or.inl (by decide +kernel) | exact Or.inr (by decide +kernel))
  have hf2 : X.fn "rows" = true ∨ X.env.scope.names.lookup ("rows" : Str) = some .local := .inl (hfn _)
  have lk2 : X.env.scope.names.lookup ("rows" : Str) = some .local := lk_of hS (by decide +kernel)
  have n3 : X.N[3]? = some ("length" : Str) := nm_of hN rfl
  have d3 : (("length" : Str) == ("__debug__" : Str)) = false ∧ (("length" : Str) == ("__classdict__" : Str)) = false := ⟨by decide +kernel, by decide +kernel⟩
  have g_all : Gl X "all" := gl_of hS (by decide +kernel)
  have e_is_integer : (("is_integer" : Str) == ("__debug__" : Str)) = false := by decide +kernel
  exact rs_cons (rs_if (rd_tnot (rd_tv (rd_pv (rd_fz (rd_fnB (cr_all' hc) g_all m_all (by decide +kernel) (rd_q1 (rd_pv (rd_fz (rd_lc [] hc nd (rc_seq (rdp_var 1 n1 v1 d1.1 d1.2)) (blk_of [("length", 3)] hN hS (by decide +kernel)) (fun _ _ _ _ _ => rg_name 3 (by decide) nd n3 (.inl (lk_blk hS (by decide +kernel))) (.inr (lk_blk hS (by decide +kernel)))) (fun _ _ _ _ _ => rt_nil) (fun _ _ _ _ _ => rd_fz (rd_cal C_is_integer.blk (gl_blk hS (by decide +kernel)) e_is_integer (rd_a1 (rd_fz (rd_var 3 (n3) (vis_blk hS (by first | exact Or.inl (by decide +kernel) | exact Or.inr (Or.inl (by decide +kernel)) | exact Or.inr (Or.inr (by decide +kernel)))) d3.1 d3.2)) (rd_a1 (rd_fz (rd_int)) (rd_a1 (rd_fz (rd_int)) (rd_a0))))))))) (rd_q0))))))) (rs_one (rs_bad)) (rs_nil)) (rs_cons (rs_setLc [] hc nd n2 lk2 (sw_true (by rw [hS]; rfl) lk2 rfl (by decide +kernel)) (rc_seq (rdp_var 1 n1 v1 d1.1 d1.2)) (blk_of [("length", 3)] hN hS (by decide +kernel)) (fun _ _ _ _ _ => rg_name 3 (by decide) nd n3 (.inl (lk_blk hS (by decide +kernel))) (.inr (lk_blk hS (by decide +kernel)))) (fun _ _ _ _ _ => rt_nil) (fun _ _ _ _ _ => rd_fz (rd_bin (rd_pv (rd_fz (rd_str))) (rdp_var 3 (n3) (vis_blk hS (by first | exact Or.inl (by decide +kernel) | exact Or.inr (Or.inl (by decide +kernel)) | exact Or.inr (Or.inr (by decide +kernel)))) d3.1 d3.2)))) (rs_one (rs_ret (rd_makeV MKL trivial (rdp_var 0 n0 v0 d0.1 d0.2) (rdp_var 2 n2 v2 d2.1 d2.2)))))
abbrev s_Hall_kind : Stmt := inClass (topS 19) 17
abbrev N_Hall_kind : List Str := ["self"]
theorem der_Hall_kind {X : Cx} (hN : X.N = N_Hall_kind) (hS : X.env.scope = defScope s_Hall_kind) (nd : X.N.Nodup) (hc : X.calm = true) (hu : X.A.units + 70 < cLine) (hfn : ∀ x, X.fn x = true) (hp : PassesOwn (model X.prog X.w) X.A X.env X.xe) : PSs X (defBody s_Hall_kind) (rdS (kp X) W0 B_Hall_kind) := by
  exact rs_one (rs_ret (rd_str))
abbrev s_LenientHall_kind : Stmt := inClass (topS 20) 1
abbrev N_LenientHall_kind : List Str := ["self"]
theorem der_LenientHall_kind {X : Cx} (hN : X.N = N_LenientHall_kind) (hS : X.env.scope = defScope s_LenientHall_kind) (nd : X.N.Nodup) (hc : X.calm = true) (hu : X.A.units + 70 < cLine) (hfn : ∀ x, X.fn x = true) (hp : PassesOwn (model X.prog X.w) X.A X.env X.xe) : PSs X (defBody s_LenientHall_kind) (rdS (kp X) W0 B_LenientHall_kind) := by
  exact rs_one (rs_ret (rd_str))
abbrev s_Hall_marks : Stmt := inClass (topS 19) 16
abbrev N_Hall_marks : List Str := ["self"]
theorem der_Hall_marks {X : Cx} (hN : X.N = N_Hall_marks) (hS : X.env.scope = defScope s_Hall_marks) (nd : X.N.Nodup) (hc : X.calm = true) (hu : X.A.units + 70 < cLine) (hfn : ∀ x, X.fn x = true) (hp : PassesOwn (model X.prog X.w) X.A X.env X.xe) (fl_book_list : FldR X.K ["Hall", "LenientHall"] "book_list") (fl_lines : FldR X.K ["Hall", "LenientHall"] "lines") : PSs X (defBody s_Hall_marks) (rdS (kp X) W0 B_Hall_marks) := by
  have n0 : X.N[0]? = some ("self" : Str) := nm_of hN rfl
  have d0 : (("self" : Str) == ("__debug__" : Str)) = false ∧ (("self" : Str) == ("__classdict__" : Str)) = false := ⟨by decide +kernel, by decide +kernel⟩
  have v0 : Vis X.env.scope "self" := vis_of hS (by first | exact Or.inl (by decide +kernel) | exact Or.inr (Or.inl (by decide +kernel)))
  have l0 : Loc X.env.scope "self" := loc_of hS (by first | exact Or.inl (by decide +kernel) | exact Or.inr (by decide +kernel))
  have hf0 : X.fn "self" = true ∨ X.env.scope.names.lookup ("self" : Str) = some .local := .inl (hfn _)
  exact rs_one (rs_ret (rd_tup (rd_a1 (rd_fz (rd_fld fl_lines (rdp_var 0 n0 v0 d0.1 d0.2))) (rd_a1 (rd_fz (rd_fld fl_book_list (rdp_var 0 n0 v0 d0.1 d0.2))) (rd_a0)))))
abbrev s_Hall_eq : Stmt := inClass (topS 19) 19
abbrev N_Hall_eq : List Str := ["self", "other"]
theorem der_Hall_eq {X : Cx} (hN : X.N = N_Hall_eq) (hS : X.env.scope = defScope s_Hall_eq) (nd : X.N.Nodup) (hc : X.calm = true) (hu : X.A.units + 70 < cLine) (hfn : ∀ x, X.fn x = true) (hp : PassesOwn (model X.prog X.w) X.A X.env X.xe) (m_isinstance : X.mg "isinstance" = none) (M_kind : MetOk X [("Hall", F_Hall_kind), ("LenientHall", F_LenientHall_kind)] "kind") (M_marks : MetOk X [("Hall", F_Hall_marks), ("LenientHall", F_Hall_marks)] "marks") (IC_Hall : IsCOk X "Hall" [("Hall", true), ("LenientHall", true)]) : PSs X (defBody s_Hall_eq) (rdS (kp X) W0 B_Hall_eq) := by
  have n0 : X.N[0]? = some ("self" : Str) := nm_of hN rfl
  have d0 : (("self" : Str) == ("__debug__" : Str)) = false ∧ (("self" : Str) == ("__classdict__" : Str)) = false := ⟨by decide +kernel, by decide +kernel⟩
  have v0 : Vis X.env.scope "self" := vis_of hS (by first | exact Or.inl (by decide +kernel) | exact Or.inr (Or.inl (by decide +kernel)))
  have l0 : Loc X.env.scope "self" := loc_of hS (by first | exact Or.inl (by decide +kernel) | exact Or.inr (by decide +kernel))
  have hf0 : X.fn "self" = true ∨ X.env.scope.names.lookup ("self" : Str) = some .local := .inl (hfn _)
  have n1 : X.N[1]? = some ("other" : Str) := nm_of hN rfl
  have d1 : (("other" : Str) == ("__debug__" : Str)) = false ∧ (("other" : Str) == ("__classdict__" : Str)) = false := ⟨by decide +kernel, by decide +kernel⟩
  have v1 : Vis X.env.scope "other" := vis_of hS (by first | exact Or.inl (by decide +kernel) | exact Or.inr (Or.inl (by decide +kernel)))
  have l1 : Loc X.env.scope "other" := loc_of hS (by first | exact Or.inl (by decide +kernel) | exact Or.inr (by decide +kernel))
  have hf1 : X.fn "other" = true ∨ X.env.scope.names.lookup ("other" : Str) = some .local := .inl (hfn _)
  have g_Hall : Gl X "Hall" := gl_of hS (by decide +kernel)
  have g_isinstance : Gl X "isinstance" := gl_of hS (by decide +kernel)
  exact rs_one (rs_ret (rd_and (rd_isC IC_Hall g_isinstance m_isinstance g_Hall (by decide +kernel) (rdp_var 1 n1 v1 d1.1 d1.2) (by decide +kernel)) (rd_and (rd_cmp hu (rd_pv (rd_fz (rd_meth0 M_kind (rdp_var 0 n0 v0 d0.1 d0.2)))) (rd_pv (rd_fz (rd_meth0 M_kind (rdp_var 1 n1 v1 d1.1 d1.2)))) (nomark _)) (rd_last (rd_cmp hu (rd_pv (rd_fz (rd_meth0 M_marks (rdp_var 0 n0 v0 d0.1 d0.2)))) (rd_pv (rd_fz (rd_meth0 M_marks (rdp_var 1 n1 v1 d1.1 d1.2)))) (nomark _))))))
abbrev s_law_same_bookings : Stmt := topS 27
abbrev N_law_same_bookings : List Str := ["long", "one", "other", "third"]
theorem der_law_same_bookings {X : Cx} (hN : X.N = N_law_same_bookings) (hS : X.env.scope = defScope s_law_same_bookings) (nd : X.N.Nodup) (hc : X.calm = true) (hu : X.A.units + 70 < cLine) (hfn : ∀ x, X.fn x = true) (hp : PassesOwn (model X.prog X.w) X.A X.env X.xe) (M_attempt : MetOk X [("Hall", F_Hall_attempt), ("LenientHall", F_Hall_attempt)] "attempt") (M_book : MetOk X [("Hall", F_Hall_book), ("LenientHall", F_Hall_book)] "book") (M_cancel : MetOk X [("Hall", F_Hall_cancel), ("LenientHall", F_Hall_cancel)] "cancel") (M_undo : MetOk X [("Hall", F_Hall_undo), ("LenientHall", F_Hall_undo)] "undo") (P_rows : PropOk X [("Hall", F_Hall_rows), ("LenientHall", F_Hall_rows)] "rows") (CM_Hall_empty : CMOk X "Hall" "empty" F_Hall_empty) (EQ : EqOk X [("Hall", F_Hall_eq), ("LenientHall", F_Hall_eq)] [("LenientHall", "Hall")]) : PSs X (defBody s_law_same_bookings) (rdS (kp X) W0 B_law_same_bookings) := by
  have n0 : X.N[0]? = some ("long" : Str) := nm_of hN rfl
  have d0 : (("long" : Str) == ("__debug__" : Str)) = false ∧ (("long" : Str) == ("__classdict__" : Str)) = false := ⟨by decide +kernel, by decide +kernel⟩
  have v0 : Vis X.env.scope "long" := vis_of hS (by first | exact Or.inl (by decide +kernel) | exact Or.inr (Or.inl (by decide +kernel)))
  have l0 : Loc X.env.scope "long" := loc_of hS (by first | exact Or.inl (by decide +kernel) | exact Or.inr (by decide +kernel))
  have hf0 : X.fn "long" = true ∨ X.env.scope.names.lookup ("long" : Str) = some .local := .inl (hfn _)
  have n1 : X.N[1]? = some ("one" : Str) := nm_of hN rfl
  have d1 : (("one" : Str) == ("__debug__" : Str)) = false ∧ (("one" : Str) == ("__classdict__" : Str)) = false := ⟨by decide +kernel, by decide +kernel⟩
  have v1 : Vis X.env.scope "one" := vis_of hS (by first | exact Or.inl (by decide +kernel) | exact Or.inr (Or.inl (by decide +kernel)))
  have l1 : Loc X.env.scope "one" := loc_of hS (by first | exact Or.inl (by decide +kernel) | exact Or.inr (by decide +kernel))
  have hf1 : X.fn "one" = true ∨ X.env.scope.names.lookup ("one" : Str) = some .local := .inl (hfn _)
  have n2 : X.N[2]? = some ("other" : Str) := nm_of hN rfl
  have d2 : (("other" : Str) == ("__debug__" : Str)) = false ∧ (("other" : Str) == ("__classdict__" : Str)) = false := ⟨by decide +kernel, by decide +kernel⟩
  have v2 : Vis X.env.scope "other" := vis_of hS (by first | exact Or.inl (by decide +kernel) | exact Or.inr (Or.inl (by decide +kernel)))
  have l2 : Loc X.env.scope "other" := loc_of hS (by first | exact Or.inl (by decide +kernel) | exact Or.inr (by decide +kernel))
  have hf2 : X.fn "other" = true ∨ X.env.scope.names.lookup ("other" : Str) = some .local := .inl (hfn _)
  have n3 : X.N[3]? = some ("third" : Str) := nm_of hN rfl
  have d3 : (("third" : Str) == ("__debug__" : Str)) = false ∧ (("third" : Str) == ("__classdict__" : Str)) = false := ⟨by decide +kernel, by decide +kernel⟩
  have v3 : Vis X.env.scope "third" := vis_of hS (by first | exact Or.inl (by decide +kernel) | exact Or.inr (Or.inl (by decide +kernel)))
  have l3 : Loc X.env.scope "third" := loc_of hS (by first | exact Or.inl (by decide +kernel) | exact Or.inr (by decide +kernel))
  have hf3 : X.fn "third" = true ∨ X.env.scope.names.lookup ("third" : Str) = some .local := .inl (hfn _)
  have g_Hall : Gl X "Hall" := gl_of hS (by decide +kernel)
  exact rs_cons (rs_set 1 (rd_cmeth CM_Hall_empty g_Hall (by decide +kernel) (rd_a1 (rd_fz (rd_var 0 n0 v0 d0.1 d0.2)) (rd_a1 (rd_fz (rd_int)) (rd_a0)))) nd n1 l1 (hf := hf1)) (rs_cons (rs_set 2 (rd_cmeth CM_Hall_empty g_Hall (by decide +kernel) (rd_a1 (rd_fz (rd_var 0 n0 v0 d0.1 d0.2)) (rd_a1 (rd_fz (rd_int)) (rd_a0)))) nd n2 l2 (hf := hf2)) (rs_cons (rs_set 3 (rd_cmeth CM_Hall_empty g_Hall (by decide +kernel) (rd_a1 (rd_fz (rd_var 0 n0 v0 d0.1 d0.2)) (rd_a1 (rd_fz (rd_int)) (rd_a0)))) nd n3 l3 (hf := hf3)) (rs_cons (rs_drop (rd_meth M_book (rdp_var 1 n1 v1 d1.1 d1.2) (rd_a1 (rd_fz (rd_int)) (rd_a1 (rd_fz (rd_int)) (rd_a1 (rd_fz (rd_int)) (rd_a0)))))) (rs_cons (rs_drop (rd_meth M_book (rdp_var 1 n1 v1 d1.1 d1.2) (rd_a1 (rd_fz (rd_int)) (rd_a1 (rd_fz (rd_int)) (rd_a1 (rd_fz (rd_int)) (rd_a0)))))) (rs_cons (rs_if (PW.pt (rd_wor (rd_tcmp hu (rd_pv (rd_fz (rd_meth M_attempt (rdp_var 2 n2 v2 d2.1 d2.2) (rd_a1 (rd_fz (rd_tup (rd_a1 (rd_fz (rd_int)) (rd_a1 (rd_fz (rd_int)) (rd_a1 (rd_fz (rd_int)) (rd_a0)))))) (rd_a1 (rd_fz (rd_tup (rd_a1 (rd_fz (rd_int)) (rd_a1 (rd_fz (rd_int)) (rd_a1 (rd_fz (rd_int)) (rd_a0)))))) (rd_a0)))))) (rd_pv (rd_fz (rd_bl))) (nomark _)) (rd_wor1 (rd_tnot (rd_teqO EQ (rd_fz (rd_var 1 n1 v1 d1.1 d1.2)) (rd_fz (rd_var 2 n2 v2 d2.1 d2.2)) (nomark _)))))) (rs_one (rs_ret (rd_bl))) (rs_nil)) (rs_cons (rs_drop (rd_meth M_book (rdp_var 3 n3 v3 d3.1 d3.2) (rd_a1 (rd_fz (rd_int)) (rd_a1 (rd_fz (rd_int)) (rd_a1 (rd_fz (rd_int)) (rd_a0)))))) (rs_cons (rs_drop (rd_meth M_book (rdp_var 3 n3 v3 d3.1 d3.2) (rd_a1 (rd_fz (rd_int)) (rd_a1 (rd_fz (rd_int)) (rd_a1 (rd_fz (rd_int)) (rd_a0)))))) (rs_cons (rs_if (PW.pt (rd_wor (rd_teqO EQ (rd_fz (rd_var 1 n1 v1 d1.1 d1.2)) (rd_fz (rd_var 3 n3 v3 d3.1 d3.2)) (nomark _)) (rd_wor1 (rd_tcmp hu (rd_pv (rd_fz (rd_prop P_rows (rdp_var 1 n1 v1 d1.1 d1.2)))) (rd_pv (rd_fz (rd_prop P_rows (rdp_var 3 n3 v3 d3.1 d3.2)))) (nomark _))))) (rs_one (rs_ret (rd_bl))) (rs_nil)) (rs_cons (rs_drop (rd_meth M_cancel (rdp_var 1 n1 v1 d1.1 d1.2) (rd_a1 (rd_fz (rd_int)) (rd_a0)))) (rs_cons (rs_if (PW.pt (rd_wor (rd_teqO EQ (rd_fz (rd_var 1 n1 v1 d1.1 d1.2)) (rd_fz (rd_var 2 n2 v2 d2.1 d2.2)) (nomark _)) (rd_wor1 (rd_tcmp hu (rd_pv (rd_fz (rd_prop P_rows (rdp_var 1 n1 v1 d1.1 d1.2)))) (rd_pv (rd_fz (rd_prop P_rows (rdp_var 2 n2 v2 d2.1 d2.2)))) (nomark _))))) (rs_one (rs_ret (rd_bl))) (rs_nil)) (rs_cons (rs_drop (rd_meth0 M_undo (rdp_var 1 n1 v1 d1.1 d1.2))) (rs_cons (rs_if (rd_tnot (rd_teqO EQ (rd_fz (rd_var 1 n1 v1 d1.1 d1.2)) (rd_fz (rd_var 2 n2 v2 d2.1 d2.2)) (nomark _))) (rs_one (rs_ret (rd_bl))) (rs_nil)) (rs_cons (rs_drop (rd_meth0 M_undo (rdp_var 1 n1 v1 d1.1 d1.2))) (rs_cons (rs_drop (rd_meth0 M_undo (rdp_var 1 n1 v1 d1.1 d1.2))) (rs_one (rs_ret (rd_eqO EQ (rd_fz (rd_var 1 n1 v1 d1.1 d1.2)) (rd_fz (rd_cmeth CM_Hall_empty g_Hall (by decide +kernel) (rd_a1 (rd_fz (rd_var 0 n0 v0 d0.1 d0.2)) (rd_a1 (rd_fz (rd_int)) (rd_a0))))) (nomark _))))))))))))))))))
abbrev s_law : Stmt := topS 28
abbrev N_law : List Str := ["script", "index", "digits", "made", "marks", "k", "one", "j", "other"]
theorem der_law {X : Cx} (hN : X.N = N_law) (hS : X.env.scope = defScope s_law) (nd : X.N.Nodup) (hc : X.calm = true) (hu : X.A.units + 70 < cLine) (hfn : ∀ x, X.fn x = true) (hp : PassesOwn (model X.prog X.w) X.A X.env X.xe) (C__law_any_value : Cal X "_law_any_value" F_law_any_value) (C__law_digits : Cal X "_law_digits" F_law_digits) (C__law_made : Cal X "_law_made" F_law_made) (C__law_row : Cal X "_law_row" F_law_row) (C__law_same_bookings : Cal X "_law_same_bookings" F_law_same_bookings) (m_enumerate : X.mg "enumerate" = none) (m_range : X.mg "range" = none) (M_book : MetOk X [("Hall", F_Hall_book), ("LenientHall", F_Hall_book)] "book") (M_cancel : MetOk X [("Hall", F_Hall_cancel), ("LenientHall", F_Hall_cancel)] "cancel") (P_rows : PropOk X [("Hall", F_Hall_rows), ("LenientHall", F_Hall_rows)] "rows") (MK_Hall : MakOk X "Hall" F_Hall_init) (EQ : EqOk X [("Hall", F_Hall_eq), ("LenientHall", F_Hall_eq)] [("LenientHall", "Hall")]) : PSs X (defBody s_law) (rdS (kp X) W0 B_law) := by
  have n0 : X.N[0]? = some ("script" : Str) := nm_of hN rfl
  have d0 : (("script" : Str) == ("__debug__" : Str)) = false ∧ (("script" : Str) == ("__classdict__" : Str)) = false := ⟨by decide +kernel, by decide +kernel⟩
  have v0 : Vis X.env.scope "script" := vis_of hS (by first | exact Or.inl (by decide +kernel) | exact Or.inr (Or.inl (by decide +kernel)))
  have l0 : Loc X.env.scope "script" := loc_of hS (by first | exact Or.inl (by decide +kernel) | exact Or.inr (by decide +kernel))
  have hf0 : X.fn "script" = true ∨ X.env.scope.names.lookup ("script" : Str) = some .local := .inl (hfn _)
  have n1 : X.N[1]? = some ("index" : Str) := nm_of hN rfl
  have d1 : (("index" : Str) == ("__debug__" : Str)) = false ∧ (("index" : Str) == ("__classdict__" : Str)) = false := ⟨by decide +kernel, by decide +kernel⟩
  have v1 : Vis X.env.scope "index" := vis_of hS (by first | exact Or.inl (by decide +kernel) | exact Or.inr (Or.inl (by decide +kernel)))
  have l1 : Loc X.env.scope "index" := loc_of hS (by first | exact Or.inl (by decide +kernel) | exact Or.inr (by decide +kernel))
  have hf1 : X.fn "index" = true ∨ X.env.scope.names.lookup ("index" : Str) = some .local := .inl (hfn _)
  have n2 : X.N[2]? = some ("digits" : Str) := nm_of hN rfl
  have d2 : (("digits" : Str) == ("__debug__" : Str)) = false ∧ (("digits" : Str) == ("__classdict__" : Str)) = false := ⟨by decide +kernel, by decide +kernel⟩
  have v2 : Vis X.env.scope "digits" := vis_of hS (by first | exact Or.inl (by decide +kernel) | exact Or.inr (Or.inl (by decide +kernel)))
  have l2 : Loc X.env.scope "digits" := loc_of hS (by first | exact Or.inl (by decide +kernel) | exact Or.inr (by decide +kernel))
  have hf2 : X.fn "digits" = true ∨ X.env.scope.names.lookup ("digits" : Str) = some .local := .inl (hfn _)
  have n3 : X.N[3]? = some ("made" : Str) := nm_of hN rfl
  have d3 : (("made" : Str) == ("__debug__" : Str)) = false ∧ (("made" : Str) == ("__classdict__" : Str)) = false := ⟨by decide +kernel, by decide +kernel⟩
  have v3 : Vis X.env.scope "made" := vis_of hS (by first | exact Or.inl (by decide +kernel) | exact Or.inr (Or.inl (by decide +kernel)))
  have l3 : Loc X.env.scope "made" := loc_of hS (by first | exact Or.inl (by decide +kernel) | exact Or.inr (by decide +kernel))
  have hf3 : X.fn "made" = true ∨ X.env.scope.names.lookup ("made" : Str) = some .local := .inl (hfn _)
  have n4 : X.N[4]? = some ("marks" : Str) := nm_of hN rfl
  have d4 : (("marks" : Str) == ("__debug__" : Str)) = false ∧ (("marks" : Str) == ("__classdict__" : Str)) = false := ⟨by decide +kernel, by decide +kernel⟩
  have v4 : Vis X.env.scope "marks" := vis_of hS (by first | exact Or.inl (by decide +kernel) | exact Or.inr (Or.inl (by decide +kernel)))
  have l4 : Loc X.env.scope "marks" := loc_of hS (by first | exact Or.inl (by decide +kernel) | exact Or.inr (by decide +kernel))
  have hf4 : X.fn "marks" = true ∨ X.env.scope.names.lookup ("marks" : Str) = some .local := .inl (hfn _)
  have n5 : X.N[5]? = some ("k" : Str) := nm_of hN rfl
  have d5 : (("k" : Str) == ("__debug__" : Str)) = false ∧ (("k" : Str) == ("__classdict__" : Str)) = false := ⟨by decide +kernel, by decide +kernel⟩
  have v5 : Vis X.env.scope "k" := vis_of hS (by first | exact Or.inl (by decide +kernel) | exact Or.inr (Or.inl (by decide +kernel)))
  have l5 : Loc X.env.scope "k" := loc_of hS (by first | exact Or.inl (by decide +kernel) | exact Or.inr (by decide +kernel))
  have hf5 : X.fn "k" = true ∨ X.env.scope.names.lookup ("k" : Str) = some .local := .inl (hfn _)
  have n6 : X.N[6]? = some ("one" : Str) := nm_of hN rfl
  have d6 : (("one" : Str) == ("__debug__" : Str)) = false ∧ (("one" : Str) == ("__classdict__" : Str)) = false := ⟨by decide +kernel, by decide +kernel⟩
  have v6 : Vis X.env.scope "one" := vis_of hS (by first | exact Or.inl (by decide +kernel) | exact Or.inr (Or.inl (by decide +kernel)))
  have l6 : Loc X.env.scope "one" := loc_of hS (by first | exact Or.inl (by decide +kernel) | exact Or.inr (by decide +kernel))
  have hf6 : X.fn "one" = true ∨ X.env.scope.names.lookup ("one" : Str) = some .local := .inl (hfn _)
  have n7 : X.N[7]? = some ("j" : Str) := nm_of hN rfl
  have d7 : (("j" : Str) == ("__debug__" : Str)) = false ∧ (("j" : Str) == ("__classdict__" : Str)) = false := ⟨by decide +kernel, by decide +kernel⟩
  have v7 : Vis X.env.scope "j" := vis_of hS (by first | exact Or.inl (by decide +kernel) | exact Or.inr (Or.inl (by decide +kernel)))
  have l7 : Loc X.env.scope "j" := loc_of hS (by first | exact Or.inl (by decide +kernel) | exact Or.inr (by decide +kernel))
  have hf7 : X.fn "j" = true ∨ X.env.scope.names.lookup ("j" : Str) = some .local := .inl (hfn _)
  have n8 : X.N[8]? = some ("other" : Str) := nm_of hN rfl
  have d8 : (("other" : Str) == ("__debug__" : Str)) = false ∧ (("other" : Str) == ("__classdict__" : Str)) = false := ⟨by decide +kernel, by decide +kernel⟩
  have v8 : Vis X.env.scope "other" := vis_of hS (by first | exact Or.inl (by decide +kernel) | exact Or.inr (Or.inl (by decide +kernel)))
  have l8 : Loc X.env.scope "other" := loc_of hS (by first | exact Or.inl (by decide +kernel) | exact Or.inr (by decide +kernel))
  have hf8 : X.fn "other" = true ∨ X.env.scope.names.lookup ("other" : Str) = some .local := .inl (hfn _)
  have g_Hall : Gl X "Hall" := gl_of hS (by decide +kernel)
  have g__law_any_value : Gl X "_law_any_value" := gl_of hS (by decide +kernel)
  have g__law_digits : Gl X "_law_digits" := gl_of hS (by decide +kernel)
  have g__law_made : Gl X "_law_made" := gl_of hS (by decide +kernel)
  have g__law_row : Gl X "_law_row" := gl_of hS (by decide +kernel)
  have g__law_same_bookings : Gl X "_law_same_bookings" := gl_of hS (by decide +kernel)
  have g_enumerate : Gl X "enumerate" := gl_of hS (by decide +kernel)
  have g_range : Gl X "range" := gl_of hS (by decide +kernel)
  have e__law_any_value : (("_law_any_value" : Str) == ("__debug__" : Str)) = false := by decide +kernel
  have e__law_digits : (("_law_digits" : Str) == ("__debug__" : Str)) = false := by decide +kernel
  have e__law_made : (("_law_made" : Str) == ("__debug__" : Str)) = false := by decide +kernel
  have e__law_row : (("_law_row" : Str) == ("__debug__" : Str)) = false := by decide +kernel
  have e__law_same_bookings : (("_law_same_bookings" : Str) == ("__debug__" : Str)) = false := by decide +kernel
  exact rs_cons (rs_for [1] hp hc (ri_rg1 g_range m_range (rd_q1 (rd_pv (rd_fz (rd_int))) (rd_q0))) (rg_name 1 (by decide) nd n1 l1 (hf1)) (rs_cons (rs_set 2 (rd_cal C__law_digits g__law_digits e__law_digits (rd_a1 (rd_fz (rd_var 0 n0 v0 d0.1 d0.2)) (rd_a1 (rd_fz (rd_var 1 n1 v1 d1.1 d1.2)) (rd_a1 (rd_fz (rd_int)) (rd_a1 (rd_fz (rd_int)) (rd_a0)))))) nd n2 l2 (hf := hf2)) (rs_cons (rs_asg [3, 4] (rd_cal C__law_made g__law_made e__law_made (rd_a1 (rd_fz (rd_bin (rd_pv (rd_fz (rd_cal C__law_row g__law_row e__law_row (rd_a1 (rd_fz (rd_var 2 n2 v2 d2.1 d2.2)) (rd_a1 (rd_fz (rd_int)) (rd_a0)))))) (rd_pv (rd_fz (rd_str))))) (rd_a0))) (rg_tup hc (rg_cons 3 (by decide) nd n3 l3 (rg_cons 4 (by decide) nd n4 l4 (rg_nil) (hf4)) (hf3)))) (rs_cons (rs_for [5, 6] hp hc (ri_en hc g_enumerate m_enumerate (rd_a1 (rd_fz (rd_var 3 n3 v3 d3.1 d3.2)) (rd_a0))) (rg_tup hc (rg_cons 5 (by decide) nd n5 l5 (rg_cons 6 (by decide) nd n6 l6 (rg_nil) (hf6)) (hf5))) (rs_cons (rs_for [7, 8] hp hc (ri_en hc g_enumerate m_enumerate (rd_a1 (rd_fz (rd_var 3 n3 v3 d3.1 d3.2)) (rd_a0))) (rg_tup hc (rg_cons 7 (by decide) nd n7 l7 (rg_cons 8 (by decide) nd n8 l8 (rg_nil) (hf8)) (hf7))) (rs_one (rs_if (rd_tcmp hu (rd_pv (rd_fz (rd_eqO EQ (rd_fz (rd_var 6 n6 v6 d6.1 d6.2)) (rd_fz (rd_var 8 n8 v8 d8.1 d8.2)) (nomark _)))) (rd_pv (rd_fz (rd_cmp hu (rd_pv (rd_fz (rd_ix (rdp_var 4 n4 v4 d4.1 d4.2) (rdp_var 5 n5 v5 d5.1 d5.2)))) (rd_pv (rd_fz (rd_ix (rdp_var 4 n4 v4 d4.1 d4.2) (rdp_var 7 n7 v7 d7.1 d7.2)))) (nomark _)))) (nomark _)) (rs_one (rs_ret (rd_bl))) (rs_nil)))) (rs_one (rs_if (PW.pt (rd_wor (rd_teqO EQ (rd_fz (rd_var 6 n6 v6 d6.1 d6.2)) (rd_fz (rd_ix (rdp_var 4 n4 v4 d4.1 d4.2) (rdp_var 5 n5 v5 d5.1 d5.2))) (nomark _)) (rd_wor (rd_teqO EQ (rd_fz (rd_var 6 n6 v6 d6.1 d6.2)) (rd_fz (rd_prop P_rows (rdp_var 6 n6 v6 d6.1 d6.2))) (nomark _)) (rd_wor1 (rd_teqO EQ (rd_fz (rd_var 6 n6 v6 d6.1 d6.2)) (rd_fz (rd_cal C__law_any_value g__law_any_value e__law_any_value (rd_a1 (rd_fz (rd_sl (rdp_var 2 n2 v2 d2.1 d2.2) (rd_o1 (rd_pv (rd_fz (rd_int)))) (rd_o0))) (rd_a1 (rd_fz (rd_int)) (rd_a0))))) (nomark _)))))) (rs_one (rs_ret (rd_bl))) (rs_nil))))) (rs_one (rs_if (rd_tnot (rd_tv (rd_pv (rd_fz (rd_cal C__law_same_bookings g__law_same_bookings e__law_same_bookings (rd_a1 (rd_fz (rd_bin (rd_pv (rd_fz (rd_int))) (rd_pv (rd_fz (rd_bin (rd_pv (rd_fz (rd_ix (rdp_var 2 n2 v2 d2.1 d2.2) (rd_pv (rd_fz (rd_int)))))) (rd_pv (rd_fz (rd_int)))))))) (rd_a0))))))) (rs_one (rs_ret (rd_bl))) (rs_nil))))))) (rs_cons (rs_set 6 (rd_make MK_Hall g_Hall (by decide +kernel) (rd_a1 (rd_fz (rd_str)) (rd_a0))) nd n6 l6 (hf := hf6)) (rs_cons (rs_drop (rd_meth M_book (rdp_var 6 n6 v6 d6.1 d6.2) (rd_a1 (rd_fz (rd_int)) (rd_a1 (rd_fz (rd_int)) (rd_a1 (rd_fz (rd_int)) (rd_a0)))))) (rs_cons (rs_drop (rd_meth M_cancel (rdp_var 6 n6 v6 d6.1 d6.2) (rd_a1 (rd_fz (rd_int)) (rd_a0)))) (rs_cons (rs_if (PW.pt (rd_wor (rd_tnot (rd_teqO EQ (rd_fz (rd_var 6 n6 v6 d6.1 d6.2)) (rd_fz (rd_make MK_Hall g_Hall (by decide +kernel) (rd_a1 (rd_fz (rd_str)) (rd_a0)))) (nomark _))) (rd_wor1 (rd_tcmp hu (rd_pv (rd_fz (rd_meth M_book (rdp_var 6 n6 v6 d6.1 d6.2) (rd_a1 (rd_fz (rd_int)) (rd_a1 (rd_fz (rd_int)) (rd_a1 (rd_fz (rd_int)) (rd_a0))))))) (rd_pv (rd_fz (rd_int))) (nomark _))))) (rs_one (rs_ret (rd_bl))) (rs_nil)) (rs_cons (rs_set 8 (rd_make MK_Hall g_Hall (by decide +kernel) (rd_a1 (rd_fz (rd_str)) (rd_a0))) nd n8 l8 (hf := hf8)) (rs_one (rs_ret (rd_and (rd_cmp hu (rd_pv (rd_fz (rd_meth M_book (rdp_var 8 n8 v8 d8.1 d8.2) (rd_a1 (rd_fz (rd_int)) (rd_a1 (rd_fz (rd_int)) (rd_a1 (rd_fz (rd_int)) (rd_a0))))))) (rd_pv (rd_fz (rd_int))) (nomark _)) (rd_and (rd_not (rd_eqO EQ (rd_fz (rd_var 6 n6 v6 d6.1 d6.2)) (rd_fz (rd_var 8 n8 v8 d8.1 d8.2)) (nomark _))) (rd_last (rd_cmp hu (rd_pv (rd_fz (rd_prop P_rows (rdp_var 6 n6 v6 d6.1 d6.2)))) (rd_pv (rd_fz (rd_prop P_rows (rdp_var 8 n8 v8 d8.1 d8.2)))) (nomark _))))))))))))
end DL
end
section
set_option Elab.async false
set_option linter.all false
set_option maxRecDepth 100000
set_option maxHeartbeats 400000
/-! LT17: the law about equal halls. -/
namespace DL
open PySem L2
theorem bl_cmp (a b : Bool) : cmpD .NotEq (.bl a) (.bl b) = some (decide (a ≠ b)) := by
  show (if eqOk (.bl a) && eqOk (.bl b) then some (!eqD (.bl a) (.bl b)) else none) = _
  rw [eqOk_bl, eqOk_bl, eqD_bl]; simp
/-! ### making -/
theorem mk_v {w : W} {a : M (List D)} {c : Str} {rs : List (List Bool)} (hc : IsH c) (h1 : 1 ≤ rs.length) (h2 : rs.length ≤ 10) (h3 : ∀ r ∈ rs, 1 ≤ r.length ∧ r.length ≤ 40) (ha : a w = .val (rs.map fun r => D.str (rS r)) w) :
    eMake c F_Hall_init a w = .val (.im (.obj w.O.length)) ⟨w.ρ, w.O ++ [hal c ⟨rs, [], 0⟩ []]⟩ := by
  have hi := init_ok (O := w.O ++ [⟨c, []⟩]) (k := w.O.length) (c := c) rs h1 h2 h3 (by simp) hc
  rw [List.set_append_right _ _ (Nat.le_refl _), Nat.sub_self] at hi
  exact make_v ha hi
abbrev Q := Bool × List (List Bool)
def qc (b : Bool) : Str := if b then "LenientHall" else "Hall"
theorem qc_h (b : Bool) : IsH (qc b) := by cases b; exact .inl rfl; exact .inr rfl
theorem qc_inj {a b : Bool} : qc a = qc b ↔ a = b := by
  constructor
  · intro h
    cases a <;> cases b <;> first | rfl | (exact absurd h (bne' hl_ne.2)) | (exact absurd h (bne' hl_ne.1))
  · rintro rfl; rfl
def qR (q : Q) : Rec := hal (qc q.1) ⟨q.2, [], 0⟩ []
def qM (q : Q) : D := .tup [nD (if q.1 then 1 else 0), rowsD q.2]
def quad (f s : List Bool) : List Q := [(false, [f]), (false, [f, s]), (true, [f]), (true, [f, s])]
def objs (b n : Nat) : List D := (List.range n).map fun i => D.obj (b + i)
theorem objs_add (b n m : Nat) : objs b (n + m) = objs b n ++ objs (b + n) m := by
  unfold objs
  rw [List.range_add, List.map_append, List.map_map]
  simp [Nat.add_assoc]
theorem quad_turn (r0 : Rv) (f s : List Bool) (xs ms : List D) (O : List Rec) (hf : 1 ≤ f.length ∧ f.length ≤ 40) (hs : 1 ≤ s.length ∧ s.length ≤ 40) (hx : xs.length ≤ 1000) (hm : ms.length ≤ 1000) :
    B_law_made_1 ⟨[r0, .ow xs, .ow ms, .im (.str (rS f)), .im (.str (rS s))], O⟩ = .val .nxt ⟨[r0, .ow (xs ++ objs O.length 4), .ow (ms ++ (quad f s).map qM), .im (.str (rS f)), .im (.str (rS s))], O ++ (quad f s).map qR⟩ := by
  unfold B_law_made_1
  have e1 : ∀ (x y : Rv) O, (aCons (fz (eVar 3)) aNil) ⟨[r0, x, y, .im (.str (rS f)), .im (.str (rS s))], O⟩ = .val ([f].map fun r => D.str (rS r)) ⟨[r0, x, y, .im (.str (rS f)), .im (.str (rS s))], O⟩ := fun x y O => ea_cons (er_v rfl).fz ea_nil
  have e2 : ∀ (x y : Rv) O, (aCons (fz (eVar 3)) (aCons (fz (eVar 4)) aNil)) ⟨[r0, x, y, .im (.str (rS f)), .im (.str (rS s))], O⟩ = .val ([f, s].map fun r => D.str (rS r)) ⟨[r0, x, y, .im (.str (rS f)), .im (.str (rS s))], O⟩ := fun x y O => ea_cons (er_v rfl).fz (ea_cons (er_v rfl).fz ea_nil)
  have v1 : ∀ r ∈ [f], 1 ≤ r.length ∧ r.length ≤ 40 := by intro r h; simp at h; subst h; exact hf
  have v2 : ∀ r ∈ [f, s], 1 ≤ r.length ∧ r.length ≤ 40 := by intro r h; simp at h; rcases h with rfl | rfl; exact hf; exact hs
  refine st_seq (w1 := ⟨[r0, .ow (xs ++ objs O.length 4), .ow ms, .im (.str (rS f)), .im (.str (rS s))], O ++ (quad f s).map qR⟩) ((asg_v (bin_v (ev_po rfl) (fz_v (lst_v (acons_v (fz_v (mk_v (.inl rfl) (by simp) (by simp) v1 (e1 _ _ _))) (acons_v (fz_v (mk_v (.inl rfl) (by simp) (by simp) v2 (e2 _ _ _))) (acons_v (fz_v (mk_v (.inr rfl) (by simp) (by simp) v1 (e1 _ _ _))) (acons_v (fz_v (mk_v (.inr rfl) (by simp) (by simp) v2 (e2 _ _ _))) nil_v)))) (by simp))) (b_lst' _ _ (by simp; omega)))).trans ?_) ?_
  · simp only [List.length_append, List.length_cons, List.length_nil, List.append_assoc]
    rfl
  · refine Eq.trans (asg_v (bin_v (ev_po rfl) (fz_v (lst_v (acons_v (fz_v (tup_v (acons_v er_c.fz (acons_v (fz_v (tup_v (e1 _ _ _) (by simp))) nil_v)) (by simp))) (acons_v (fz_v (tup_v (acons_v er_c.fz (acons_v (fz_v (tup_v (e2 _ _ _) (by simp))) nil_v)) (by simp))) (acons_v (fz_v (tup_v (acons_v er_c.fz (acons_v (fz_v (tup_v (e1 _ _ _) (by simp))) nil_v)) (by simp))) (acons_v (fz_v (tup_v (acons_v er_c.fz (acons_v (fz_v (tup_v (e2 _ _ _) (by simp))) nil_v)) (by simp))) nil_v)))) (by simp))) (b_lst' _ _ (by simp; omega)))) ?_
    rfl
theorem for2 {g : Nat} {b : MS} {x y : D} {w w1 w2 : W} (h1 : b ⟨w.ρ.set g (.im x), w.O⟩ = .val .nxt w1) (h2 : b ⟨w1.ρ.set g (.im y), w1.O⟩ = .val .nxt w2) : forL (gN g) b [x, y] w = .val .nxt w2 := by
  rw [forL_turn, turn_gN, h1]
  dsimp only
  rw [forL_turn, turn_gN, h2]
  rfl
theorem pair_turn (r0 s4 : Rv) (f : List Bool) (xs ms : List D) (O : List Rec) (hf : 1 ≤ f.length ∧ f.length ≤ 40) (hx : xs.length ≤ 900) (hm : ms.length ≤ 900) :
    B_law_made_2 ⟨[r0, .ow xs, .ow ms, .im (.str (rS f)), s4], O⟩ = .val .nxt ⟨[r0, .ow (xs ++ objs O.length 8), .ow (ms ++ (quad f [true, true] ++ quad f [false, false]).map qM), .im (.str (rS f)), .im (.str (rS [false, false]))], O ++ (quad f [true, true] ++ quad f [false, false]).map qR⟩ := by
  unfold B_law_made_2
  have t1 : ((".." : Str)) = rS [true, true] := by decide +kernel
  have t2 : (("xx" : Str)) = rS [false, false] := by decide +kernel
  rw [t1, t2]
  refine st_for (xs := [.str (rS [true, true]), .str (rS [false, false])]) (it_seq (er_tup (ea_cons er_c.fz (ea_cons er_c.fz ea_nil)) (by simp)).fz rfl) ?_
  have hl : ((quad f [true, true]).map qM).length = 4 := rfl
  refine for2 (quad_turn r0 f [true, true] xs ms O hf (by simp) (by omega) (by omega)) ((quad_turn r0 f [false, false] _ _ _ hf (by simp) (by simp [objs]; omega) (by simp [hl, quad]; omega)).trans ?_)
  simp only [List.map_append, List.append_assoc, List.length_append, List.length_map]
  rw [show (8 : Nat) = 4 + 4 from rfl, objs_add]
  rfl
def QQ (r : List Bool) : List Q := (quad r [true, true] ++ quad r [false, false]) ++ (quad (r ++ [false]) [true, true] ++ quad (r ++ [false]) [false, false])
theorem made_ok (r : List Bool) (O : List Rec) (h1 : 1 ≤ r.length) (h2 : r.length ≤ 39) : F_law_made [.str (rS r)] O = .val (.im (.tup [.lst (objs O.length 16), .lst ((QQ r).map qM)])) (O ++ (QQ r).map qR) := by
  show runB 5 B_law_made [.str (rS r)] O = _
  have e : ∃ r3 r4, B_law_made ⟨[.im (.str (rS r)), .un, .un, .un, .un], O⟩ = .val (.ret (.im (.tup [.lst (objs O.length 16), .lst ((QQ r).map qM)]))) ⟨[.im (.str (rS r)), .im (.lst (objs O.length 16)), .im (.lst ((QQ r).map qM)), r3, r4], O ++ (QQ r).map qR⟩ := by
    refine ⟨.im (.str (rS (r ++ [false]))), .im (.str (rS [false, false])), ?_⟩
    refine st_seq (w1 := ⟨[.im (.str (rS r)), .ow [], .ow [], .un, .un], O⟩) (st_par2 (er_lst ea_nil (by simp)) (er_lst ea_nil (by simp))) ?_
    have a1 : bopD .Add (.str (rS r)) (.str "x") = some (.im (.str (rS (r ++ [false])))) := by rw [show (("x" : Str)) = rS [false] from s_x]; exact add_row _ _ (by simp; omega)
    refine st_seq (st_for (xs := [.str (rS r), .str (rS (r ++ [false]))]) (it_seq (er_tup (ea_cons (er_v rfl).fz (ea_cons (er_bin (ev_p rfl) er_c.fz a1).fz ea_nil)) (by simp)).fz rfl) (for2 (pair_turn _ _ r [] [] O ⟨h1, by omega⟩ (by simp) (by simp)) (pair_turn _ _ (r ++ [false]) _ _ _ ⟨by simp, by simp; omega⟩ (by simp [objs]) (by simp [quad])))) ?_
    refine Eq.trans (ret_v (tup_v (acons_v (fz_v (r := .im (.lst (objs O.length 16))) (w1 := ⟨[.im (.str (rS r)), .im (.lst (objs O.length 16)), .ow ((QQ r).map qM), .im (.str (rS (r ++ [false]))), .im (.str (rS [false, false]))], O ++ (QQ r).map qR⟩) ?_) (acons_v (fz_v (r := .im (.lst ((QQ r).map qM))) (w1 := ⟨[.im (.str (rS r)), .im (.lst (objs O.length 16)), .im (.lst ((QQ r).map qM)), .im (.str (rS (r ++ [false]))), .im (.str (rS [false, false]))], O ++ (QQ r).map qR⟩) ?_) nil_v)) (by simp))) rfl
    · rw [eVar_ap]
      simp only [List.nil_append, List.length_append, List.length_map]
      have : objs O.length 16 = objs O.length 8 ++ objs (O.length + 8) 8 := objs_add O.length 8 8
      rw [this]
      simp only [QQ, List.map_append, List.append_assoc]
      rfl
    · rw [eVar_ap]; rfl
  obtain ⟨r3, r4, e⟩ := e
  unfold runB
  rw [show (⟨[D.str (rS r)].map Rv.im ++ List.replicate (5 - [D.str (rS r)].length) .un, O⟩ : W) = ⟨[.im (.str (rS r)), .un, .un, .un, .un], O⟩ from rfl, e]
/-! ### comparing -/
theorem ifn_v {c : M Bool} {a : MS} {w w1 : W} (h : c w = .val false w1) : sIf c a sNx w = .val .nxt w1 := bnd_v h rfl
theorem it_enw {a : M (List D)} {w : W} {xs : List D} (h : a w = .val [.lst xs] w) : iEn a w = .val (enumD 0 xs) w := bnd_v h rfl
theorem enum_objs (b n : Nat) : enumD 0 (objs b n) = (List.range n).map fun i => .tup [nD i, .obj (b + i)] := by
  unfold objs
  rw [enumD_map]
  refine List.ext_getElem? fun i => ?_
  simp only [List.getElem?_map, List.getElem?_zipIdx, Nat.zero_add]
  by_cases h : i < n
  · rw [List.getElem?_eq_getElem (by simpa using h)]
    simp
  · rw [List.getElem?_eq_none (by simpa using h)]
    rfl
theorem lay_qM (q : Q) : lay (qM q) = true := by simp only [qM, lay_tup, List.all_cons, List.all_nil, lay_rows, lay_int, Bool.and_true]
theorem dep_qM (n : Nat) (q : Q) : dep (n + 2) (qM q) = true := by simp only [qM, dep_tup, List.all_cons, List.all_nil, dep_rows, dep_int, Bool.and_true]
theorem eqOk_qM (q : Q) : eqOk (qM q) = true := eqOk_of 2 (lay_qM q) (dep_qM 0 q)
theorem eqD_qM (p q : Q) : eqD (qM p) (qM q) = decide (p = q) := by
  obtain ⟨a, x⟩ := p
  obtain ⟨b, y⟩ := q
  simp only [qM, eqD_tup, eqDs_cons, eqD_nat, eqDs_nil, Bool.and_true, eqD_rows, Prod.mk.injEq, Bool.decide_and]
  congr 1
  cases a <;> cases b <;> rfl
theorem cmp_qM (p q : Q) : cmpD .Eq (qM p) (qM q) = some (decide (p = q)) := by
  show (if eqOk (qM p) && eqOk (qM q) then some (eqD (qM p) (qM q)) else none) = _
  rw [eqOk_qM, eqOk_qM, eqD_qM]; rfl
theorem pl_qM (q : Q) (h1 : q.2.length ≤ 10) (h2 : ∀ r ∈ q.2, r.length ≤ 40) : Pl (qM q) := .tup _ (fun x hx => by
  simp only [List.mem_cons, List.not_mem_nil, or_false] at hx
  rcases hx with rfl | rfl
  · exact .int _
  · exact .tup _ (fun y hy => by
      obtain ⟨r, hr, rfl⟩ := List.mem_map.mp hy
      exact pl_row' r (h2 r hr)) (by simp; omega)) (by simp)
theorem pl_rows (rs : List (List Bool)) (h1 : rs.length ≤ 10) (h2 : ∀ r ∈ rs, r.length ≤ 40) : Pl (rowsD rs) := .tup _ (fun y hy => by
  obtain ⟨r, hr, rfl⟩ := List.mem_map.mp hy
  exact pl_row' r (h2 r hr)) (by simp; omega)
section
variable {ns : List Int} {idx b : Nat} {ds : List Nat} {O : List Rec} {qs : List Q}
abbrev stR (ns : List Int) (idx : Nat) (ds : List Nat) (b : Nat) (qs : List Q) (i j : Nat) (r5 r6 r7 r8 : Rv) : List Rv := [.im (.scr ns), .im (nD idx), .ow (ds.map nD), .im (.lst (objs b qs.length)), .im (.lst (qs.map qM)), r5, r6, r7, r8]
theorem ix_qs {i : Nat} (h : i < qs.length) : ixD (.lst (qs.map qM)) (nD i) = some (qM qs[i]) := by
  rw [ix_lst, atI_n, List.getElem?_map, List.getElem?_eq_getElem h]; rfl
theorem in_turn (hO : ∀ i (h : i < qs.length), O[b + i]? = some (qR qs[i])) {i j : Nat} (hi : i < qs.length) (hj : j < qs.length) (r0 r1 r2 r3 : Rv) :
    B_law_1 ⟨[r0, r1, r2, r3, .im (.lst (qs.map qM)), .im (nD i), .im (.obj (b + i)), .im (nD j), .im (.obj (b + j))], O⟩ = .val .nxt ⟨[r0, r1, r2, r3, .im (.lst (qs.map qM)), .im (nD i), .im (.obj (b + i)), .im (nD j), .im (.obj (b + j))], O⟩ := by
  unfold B_law_1
  have e1 := eqO_hh (ρ := [r0, r1, r2, r3, .im (.lst (qs.map qM)), .im (nD i), .im (.obj (b + i)), .im (nD j), .im (.obj (b + j))]) (hO i hi) (qc_h _) (hO j hj) (qc_h _)
  have e2 : decide (qc qs[i].1 = qc qs[j].1 ∧ qs[i].2 = qs[j].2 ∧ ([] : List Bk) = []) = decide (qs[i] = qs[j]) := by
    congr 1
    apply propext
    rw [qc_inj, Prod.ext_iff]
    simp
  refine st_ifn (tv_v (fz_v (cmp_v (fz_v (eqo_v (er_v rfl).fz (er_v rfl).fz e1)) (fz_v (cmp_v (ev_ix (ev_p rfl) (ev_p rfl) (ix_qs hi)) (ev_ix (ev_p rfl) (ev_p rfl) (ix_qs hj)) (cmp_qM _ _))) ((bl_cmp _ _).trans ?_))))
  rw [e2]; simp
theorem out_turn (hO : ∀ i (h : i < qs.length), O[b + i]? = some (qR qs[i])) (hq : ∀ q ∈ qs, q.2.length ≤ 10 ∧ ∀ r ∈ q.2, r.length ≤ 40) (hd : ds.length = 60) {i : Nat} (hi : i < qs.length) (r0 r1 r7 r8 : Rv) :
    ∃ r7' r8', B_law_2 ⟨[r0, r1, .im (.lst (ds.map nD)), .im (.lst (objs b qs.length)), .im (.lst (qs.map qM)), .im (nD i), .im (.obj (b + i)), r7, r8], O⟩ = .val .nxt ⟨[r0, r1, .im (.lst (ds.map nD)), .im (.lst (objs b qs.length)), .im (.lst (qs.map qM)), .im (nD i), .im (.obj (b + i)), r7', r8'], O⟩ := by
  obtain ⟨w', e, r7', r8', rfl⟩ := forL_rng (g := gT [7, 8]) (b := B_law_1) (fun i => .tup [nD i, .obj (b + i)]) (fun _ w => ∃ r7 r8, w = ⟨[r0, r1, .im (.lst (ds.map nD)), .im (.lst (objs b qs.length)), .im (.lst (qs.map qM)), .im (nD i), .im (.obj (b + i)), r7, r8], O⟩) qs.length ⟨[r0, r1, .im (.lst (ds.map nD)), .im (.lst (objs b qs.length)), .im (.lst (qs.map qM)), .im (nD i), .im (.obj (b + i)), r7, r8], O⟩ ⟨_, _, rfl⟩ (by
    rintro j w hj ⟨r7, r8, rfl⟩
    exact ⟨_, in_turn hO hi hj r0 r1 _ _, _, _, rfl⟩)
  refine ⟨r7', r8', ?_⟩
  unfold B_law_2
  refine st_seq (st_for (xs := enumD 0 (objs b qs.length)) (it_enw (ea_cons (er_v rfl).fz ea_nil)) (by rw [enum_objs]; exact e)) ?_
  obtain ⟨q1, q2⟩ := hq _ (List.getElem_mem hi)
  obtain ⟨rv, v1, v2, v3⟩ := any_value_ok (ds.drop 9) O (by simp; omega) (by simp; omega)
  have d1 := eqO_hd (ρ := [r0, r1, .im (.lst (ds.map nD)), .im (.lst (objs b qs.length)), .im (.lst (qs.map qM)), .im (nD i), .im (.obj (b + i)), r7', r8']) (hO i hi) (qc_h _) (pl_qM qs[i] q1 q2)
  have d2 := eqO_hd (ρ := [r0, r1, .im (.lst (ds.map nD)), .im (.lst (objs b qs.length)), .im (.lst (qs.map qM)), .im (nD i), .im (.obj (b + i)), r7', r8']) (hO i hi) (qc_h _) (pl_rows qs[i].2 q1 q2)
  have d3 := eqO_hd (ρ := [r0, r1, .im (.lst (ds.map nD)), .im (.lst (objs b qs.length)), .im (.lst (qs.map qM)), .im (nD i), .im (.obj (b + i)), r7', r8']) (hO i hi) (qc_h _) v2
  have sl : slD (.lst (ds.map nD)) (some (9 : Int)) none = some (.ow ((ds.drop 9).map nD)) := by
    rw [slD_lst, cut_map]
    rw [show (9 : Int) = ((9 : Nat) : Int) from rfl, cut_d]
  have h1 : tV (fz (eEqO TEQ TSB (fz (eVar 6)) (fz (eIx (pVar 4) (pVar 5))))) ⟨[r0, r1, .im (.lst (ds.map nD)), .im (.lst (objs b qs.length)), .im (.lst (qs.map qM)), .im (nD i), .im (.obj (b + i)), r7', r8'], O⟩ = .val false ⟨[r0, r1, .im (.lst (ds.map nD)), .im (.lst (objs b qs.length)), .im (.lst (qs.map qM)), .im (nD i), .im (.obj (b + i)), r7', r8'], O⟩ :=
    tv_v (fz_v (r := .im (.bl false)) (eqo_v (er_v rfl).fz (ev_ix (ev_p rfl) (ev_p rfl) (ix_qs hi)) d1))
  have h2 : tV (fz (eEqO TEQ TSB (fz (eVar 6)) (fz (eProp [("Hall", F_Hall_rows), ("LenientHall", F_Hall_rows)] (pVar 6))))) ⟨[r0, r1, .im (.lst (ds.map nD)), .im (.lst (objs b qs.length)), .im (.lst (qs.map qM)), .im (nD i), .im (.obj (b + i)), r7', r8'], O⟩ = .val false ⟨[r0, r1, .im (.lst (ds.map nD)), .im (.lst (objs b qs.length)), .im (.lst (qs.map qM)), .im (nD i), .im (.obj (b + i)), r7', r8'], O⟩ :=
    tv_v (fz_v (r := .im (.bl false)) (eqo_v (er_v rfl).fz (fz_v (r := .im (rowsD qs[i].2)) (prop_v (ev_p rfl) (hO i hi) (tb_s _ (qc_h _)) (rows_ok (hO i hi) (qc_h _)))) d2))
  have h0 : (fz (eCall0 F_law_any_value (aCons (fz (eSl (pVar 2) (oSo (fz (eC (.int 9)))) oNo)) (aCons (fz (eC (.int 0))) aNil)))) ⟨[r0, r1, .im (.lst (ds.map nD)), .im (.lst (objs b qs.length)), .im (.lst (qs.map qM)), .im (nD i), .im (.obj (b + i)), r7', r8'], O⟩ = .val rv.fz ⟨[r0, r1, .im (.lst (ds.map nD)), .im (.lst (objs b qs.length)), .im (.lst (qs.map qM)), .im (nD i), .im (.obj (b + i)), r7', r8'], O⟩ :=
    fz_v (call_v (ea_cons (er_sl (ev_p rfl) (o_so er_c.fz) o_no sl).fzo (ea_cons er_c.fz ea_nil)) v1)
  have h3 : tV (fz (eEqO TEQ TSB (fz (eVar 6)) (fz (eCall0 F_law_any_value (aCons (fz (eSl (pVar 2) (oSo (fz (eC (.int 9)))) oNo)) (aCons (fz (eC (.int 0))) aNil)))))) ⟨[r0, r1, .im (.lst (ds.map nD)), .im (.lst (objs b qs.length)), .im (.lst (qs.map qM)), .im (nD i), .im (.obj (b + i)), r7', r8'], O⟩ = .val false ⟨[r0, r1, .im (.lst (ds.map nD)), .im (.lst (objs b qs.length)), .im (.lst (qs.map qM)), .im (nD i), .im (.obj (b + i)), r7', r8'], O⟩ :=
    tv_v (fz_v (r := .im (.bl false)) (eqo_v (er_v rfl).fz h0 d3))
  exact st_ifn (val_to (b := false) (t_or h1 (t_or h2 h3)) rfl)
end
/-! ### the same bookings in other ways -/
theorem allow_rep {n z : Nat} (h1 : 0 < z) (h2 : z ≤ n) (h3 : n - z ≠ 1) : allowB (List.replicate n true) 0 z = true := by
  unfold allowB
  have hf : freeB (List.replicate n true) 0 z = true := by
    unfold freeB
    simp
  have hr : rt (List.replicate n true) (0 + z) = n - z := by
    unfold rt
    rw [Nat.zero_add, List.drop_replicate]
    simp
  rw [hf, hr]
  have hl : lf (tr (List.replicate n true)) 0 = 0 := rfl
  rw [hl]
  simp [h3]
section
variable {O : List Rec} {a b c a' : Rec}
theorem g3a : (O ++ [a, b, c])[O.length]? = some a := by simp
theorem g3b : (O ++ [a, b, c])[O.length + 1]? = some b := by
  rw [List.getElem?_append_right (by omega)]
  simp
theorem g3c : (O ++ [a, b, c])[O.length + 2]? = some c := by
  rw [List.getElem?_append_right (by omega)]
  simp
theorem s3a : (O ++ [a, b, c]).set O.length a' = O ++ [a', b, c] := by
  rw [List.set_append_right _ _ (Nat.le_refl _), Nat.sub_self]; rfl
theorem s3b : (O ++ [a, b, c]).set (O.length + 1) a' = O ++ [a, a', c] := by
  rw [List.set_append_right _ _ (by omega), show O.length + 1 - O.length = 1 by omega]; rfl
theorem s3c : (O ++ [a, b, c]).set (O.length + 2) a' = O ++ [a, b, a'] := by
  rw [List.set_append_right _ _ (by omega), show O.length + 2 - O.length = 2 by omega]; rfl
end
def s00 (L : Nat) : HS := ⟨[List.replicate L true, List.replicate 9 true], [], 0⟩
theorem ok00 {L : Nat} (h1 : 6 ≤ L) (h2 : L ≤ 40) : HOk (s00 L) := ⟨by simp [s00], fun r hr => by
  simp [s00] at hr
  rcases hr with rfl | rfl
  · simp; exact h2
  · simp⟩
theorem empty2 {w : W} {x : M (List D)} {L : Nat} (h1 : 6 ≤ L) (h2 : L ≤ 40) (hx : x w = .val ([L, 9].map nD) w) : eCMth "Hall" F_Hall_empty x w = .val (.im (.obj w.O.length)) ⟨w.ρ, w.O ++ [hal "Hall" (s00 L) []]⟩ :=
  cmth_v hx (empty_ok [L, 9] (by simp) (by simp) (fun n hn => by
    simp at hn
    rcases hn with rfl | rfl <;> omega))
theorem same_ok (L : Nat) (O : List Rec) (h1 : 6 ≤ L) (h2 : L ≤ 40) : ∃ O', F_law_same_bookings [nD L] O = .val (.im (.bl true)) O' := by
  let s0 := s00 L
  let s1 := s0.put 0 0 2
  let s2 := s1.put 1 0 4
  let t1 := s0.put 1 0 4
  let t2 := t1.put 0 0 2
  let s3 := s2.can (1, 1, 0, 4)
  let ρ : List Rv := [.im (nD L), .im (.obj O.length), .im (.obj (O.length + 1)), .im (.obj (O.length + 2))]
  have k0 : HOk s0 := ok00 h1 h2
  have b0 : okOne s0 (0, 0, 2) := ⟨by show 0 < 2; omega, by show 0 < 2; omega, by show 0 + 2 ≤ (List.replicate L true).length; simp; omega, allow_rep (n := L) (z := 2) (by omega) (by omega) (by omega)⟩
  have b1 : okOne s0 (1, 0, 4) := ⟨by show 1 < 2; omega, by show 0 < 4; omega, by show 0 + 4 ≤ (List.replicate 9 true).length; simp, allow_rep (n := 9) (z := 4) (by omega) (by omega) (by omega)⟩
  have b2 : okOne s1 (1, 0, 4) := b1
  have b3 : okOne t1 (0, 0, 2) := b0
  have k1 : HOk s1 := k0.put b0.2.2.1
  have k2 : HOk s2 := k1.put b2.2.2.1
  have kt : HOk t1 := k0.put b1.2.2.1
  have hc : IsH "Hall" := .inl rfl
  have e : ∃ O', B_law_same_bookings ⟨[.im (nD L), .un, .un, .un], O⟩ = .val (.ret (.im (.bl true))) ⟨ρ, O'⟩ := by
    refine ⟨O ++ [hal "Hall" s0 [], hal "Hall" s2 [s0], hal "Hall" t2 [s0, t1]] ++ [hal "Hall" s0 []], ?_⟩
    have h9 : ∀ r1 r2 r3 O, (aCons (fz (eVar 0)) (aCons (fz (eC (.int 9))) aNil)) ⟨[.im (nD L), r1, r2, r3], O⟩ = .val ([L, 9].map nD) ⟨[.im (nD L), r1, r2, r3], O⟩ := fun _ _ _ O => ea_cons (er_v rfl).fz (ea_cons er_c.fz ea_nil)
    refine st_seq (asg_v (empty2 h1 h2 (h9 _ _ _ _))) ?_
    refine st_seq (asg_v (empty2 h1 h2 (h9 _ _ _ _))) ?_
    refine st_seq (w1 := ⟨ρ, O ++ [hal "Hall" s0 [], hal "Hall" s0 [], hal "Hall" s0 []]⟩) ((asg_v (empty2 h1 h2 (h9 _ _ _ _))).trans (by simp only [List.append_assoc, List.length_append, List.length_cons, List.length_nil]; rfl)) ?_
    refine st_seq (w1 := ⟨ρ, O ++ [hal "Hall" s1 [s0], hal "Hall" s0 [], hal "Hall" s0 []]⟩) (drop_v (meth_v (ev_p rfl) g3a (lk_no _ _ _ _ (by decide +kernel)) (tb_s _ hc) (ea_cons er_c.fz (ea_cons er_c.fz (ea_cons er_c.fz ea_nil))) ((book_ok g3a k0 b0.1 b0.2.1 b0.2.2.1 b0.2.2.2 (by simp [s0, s00]) (by simp)).trans (by rw [s3a]; rfl)))) ?_
    refine st_seq (w1 := ⟨ρ, O ++ [hal "Hall" s2 [s0, s1], hal "Hall" s0 [], hal "Hall" s0 []]⟩) (drop_v (meth_v (ev_p rfl) g3a (lk_no _ _ _ _ (by decide +kernel)) (tb_s _ hc) (ea_cons er_c.fz (ea_cons er_c.fz (ea_cons er_c.fz ea_nil))) ((book_ok g3a k1 b2.1 b2.2.1 b2.2.2.1 b2.2.2.2 (by simp [s1, HS.put, s0, s00]) (by simp)).trans (by rw [s3a]; rfl)))) ?_
    have wk : okAll s0 [(0, 0, 2), (1, 0, 4)] := ⟨b0, b2, trivial⟩
    have eq1 : ∀ {k j : Nat} {P : List Rec} {c1 c2 : HS} {e1 e2 : List HS} (x : Bool), P[k]? = some (hal "Hall" c1 e1) → P[j]? = some (hal "Hall" c2 e2) → decide (c1.rs = c2.rs ∧ c1.bs = c2.bs) = x → eqO TEQ TSB (.obj k) (.obj j) ⟨ρ, P⟩ = .val (.im (.bl x)) ⟨ρ, P⟩ := fun x q1 q2 q3 => by
      rw [eqO_hh q1 hc q2 hc]
      simp only [true_and, q3]
    -- other.attempt(..) is not True or not one == other
    have a1 : tV (fz (eCmp .IsNot (fz (eMth [("Hall", F_Hall_attempt), ("LenientHall", F_Hall_attempt)] "attempt" (pVar 2) (aCons (fz (eTup (aCons (fz (eC (.int 0))) (aCons (fz (eC (.int 0))) (aCons (fz (eC (.int 2))) (aNil)))))) (aCons (fz (eTup (aCons (fz (eC (.int 1))) (aCons (fz (eC (.int 0))) (aCons (fz (eC (.int 4))) (aNil)))))) (aNil))))) (fz (eC (.bl true))))) ⟨ρ, O ++ [hal "Hall" s2 [s0, s1], hal "Hall" s0 [], hal "Hall" s0 []]⟩ = .val false ⟨ρ, O ++ [hal "Hall" s2 [s0, s1], hal "Hall" s2 [s0], hal "Hall" s0 []]⟩ := by
      have at0 := (attempt_ok (es := []) (g3b (O := O) (a := hal "Hall" s2 [s0, s1]) (c := hal "Hall" s0 [])) k0 [(0, 0, 2), (1, 0, 4)] wk (by simp) (by simp [s0, s00]) (by simp)).trans (by rw [s3b]; rfl : _ = Out.val (Rv.im (.bl true)) (O ++ [hal "Hall" s2 [s0, s1], hal "Hall" s2 [s0], hal "Hall" s0 []]))
      have tw : ∀ (i a z : Nat) (P : List Rec), (fz (eTup (aCons (fz (eC (nD i))) (aCons (fz (eC (nD a))) (aCons (fz (eC (nD z))) aNil))))) ⟨ρ, P⟩ = .val (wsD (i, a, z)) ⟨ρ, P⟩ := fun i a z P => (er_tup (ea_cons er_c.fz (ea_cons er_c.fz (ea_cons er_c.fz ea_nil))) (by simp)).fz
      exact tv_v (fz_v (r := .im (.bl false)) (cmp_v (x := .bl true) (y := .bl true) (fz_v (r := .im (.bl true)) (meth_v (ev_p rfl) g3b (lk_no _ _ _ _ (by decide +kernel)) (tb_s _ hc) (ea_cons (tw 0 0 2 _) (ea_cons (tw 1 0 4 _) ea_nil)) at0)) er_c.fz rfl))
    have a2 : tNotM (tV (fz (eEqO TEQ TSB (fz (eVar 1)) (fz (eVar 2))))) ⟨ρ, O ++ [hal "Hall" s2 [s0, s1], hal "Hall" s2 [s0], hal "Hall" s0 []]⟩ = .val false ⟨ρ, O ++ [hal "Hall" s2 [s0, s1], hal "Hall" s2 [s0], hal "Hall" s0 []]⟩ :=
      val_to (tnot_v (tv_v (fz_v (r := .im (.bl true)) (eqo_v (er_v rfl).fz (er_v rfl).fz (eq1 true g3a g3b (by simp)))))) rfl
    refine (on_v (w1 := ⟨ρ, O ++ [hal "Hall" s2 [s0, s1], hal "Hall" s2 [s0], hal "Hall" s0 []]⟩) (val_to (b := false) (tor_v (k := false) (k2 := false) a1 (fun _ => a2) (fun z => Bool.noConfusion z)) rfl)).trans ?_
    refine st_seq (w1 := ⟨ρ, O ++ [hal "Hall" s2 [s0, s1], hal "Hall" s2 [s0], hal "Hall" t1 [s0]]⟩) (drop_v (meth_v (ev_p rfl) g3c (lk_no _ _ _ _ (by decide +kernel)) (tb_s _ hc) (ea_cons er_c.fz (ea_cons er_c.fz (ea_cons er_c.fz ea_nil))) ((book_ok g3c k0 b1.1 b1.2.1 b1.2.2.1 b1.2.2.2 (by simp [s0, s00]) (by simp)).trans (by rw [s3c]; rfl)))) ?_
    refine st_seq (w1 := ⟨ρ, O ++ [hal "Hall" s2 [s0, s1], hal "Hall" s2 [s0], hal "Hall" t2 [s0, t1]]⟩) (drop_v (meth_v (ev_p rfl) g3c (lk_no _ _ _ _ (by decide +kernel)) (tb_s _ hc) (ea_cons er_c.fz (ea_cons er_c.fz (ea_cons er_c.fz ea_nil))) ((book_ok g3c kt b3.1 b3.2.1 b3.2.2.1 b3.2.2.2 (by simp [t1, HS.put, s0, s00]) (by simp)).trans (by rw [s3c]; rfl)))) ?_
    have rws : ∀ {k i : Nat} {P : List Rec} {c1 : HS} {e1 : List HS}, ρ[i]? = some (.im (.obj k)) → P[k]? = some (hal "Hall" c1 e1) → (fz (eProp [("Hall", F_Hall_rows), ("LenientHall", F_Hall_rows)] (pVar i))) ⟨ρ, P⟩ = .val (rowsD c1.rs) ⟨ρ, P⟩ := fun hi hk => fz_v (r := .im _) (prop_v (ev_p hi) hk (tb_s _ hc) (rows_ok hk hc))
    have cr : ∀ x y : List (List Bool), cmpD .Eq (rowsD x) (rowsD y) = some (decide (x = y)) := fun x y => by
      show (if eqOk (rowsD x) && eqOk (rowsD y) then some (eqD (rowsD x) (rowsD y)) else none) = _
      rw [eqOk_rows, eqOk_rows, eqD_rows]; rfl
    have cn : ∀ x y : List (List Bool), cmpD .NotEq (rowsD x) (rowsD y) = some (!decide (x = y)) := fun x y => by
      show (if eqOk (rowsD x) && eqOk (rowsD y) then some (!eqD (rowsD x) (rowsD y)) else none) = _
      rw [eqOk_rows, eqOk_rows, eqD_rows]; rfl
    have rr : s2.rs = t2.rs := rfl
    have bb : s2.bs ≠ t2.bs := by
      show ([(0, 0, 0, 2), (1, 1, 0, 4)] : List Bk) ≠ [(0, 1, 0, 4), (1, 0, 0, 2)]
      decide
    refine (on_v (w1 := ⟨ρ, O ++ [hal "Hall" s2 [s0, s1], hal "Hall" s2 [s0], hal "Hall" t2 [s0, t1]]⟩) (val_to (b := false) (t_or (k := false) (k2 := false) (tv_v (fz_v (r := .im (.bl false)) (eqo_v (er_v rfl).fz (er_v rfl).fz (eq1 false g3a g3c (by simp [bb]))))) (tv_v (fz_v (r := .im (.bl false)) (cmp_v (rws (i := 1) rfl g3a) (rws (i := 3) rfl g3c) ((cn _ _).trans (by rw [rr]; simp)))))) rfl)).trans ?_
    refine st_seq (w1 := ⟨ρ, O ++ [hal "Hall" s3 [s0, s1, s2], hal "Hall" s2 [s0], hal "Hall" t2 [s0, t1]]⟩) (drop_v (meth_v (ev_p rfl) g3a (lk_no _ _ _ _ (by decide +kernel)) (tb_s _ hc) (ea_cons er_c.fz ea_nil) ((cancel_ok g3a hc k2 1 (1, 1, 0, 4) rfl (by simp [s2, s1, HS.put, s0, s00]) (by simp) (by omega) (by show 1 < 2; omega) (by show 4 ≤ 40; omega)).trans (by rw [s3a]; rfl)))) ?_
    have bc : s3.bs ≠ s2.bs := by
      show ([(0, 0, 0, 2)] : List Bk) ≠ [(0, 0, 0, 2), (1, 1, 0, 4)]
      decide
    have rc : s3.rs ≠ s2.rs := by
      show [tkn (List.replicate L true) 0 2, frd (tkn (List.replicate 9 true) 0 4) 0 4] ≠ [tkn (List.replicate L true) 0 2, tkn (List.replicate 9 true) 0 4]
      intro z
      have z1 := (List.cons.inj (List.cons.inj z).2).1
      exact absurd z1 (by decide)
    refine (on_v (w1 := ⟨ρ, O ++ [hal "Hall" s3 [s0, s1, s2], hal "Hall" s2 [s0], hal "Hall" t2 [s0, t1]]⟩) (val_to (b := false) (t_or (k := false) (k2 := false) (tv_v (fz_v (r := .im (.bl false)) (eqo_v (er_v rfl).fz (er_v rfl).fz (eq1 false g3a g3b (by simp [bc]))))) (tv_v (fz_v (r := .im (.bl false)) (cmp_v (rws (i := 1) rfl g3a) (rws (i := 2) rfl g3b) ((cr _ _).trans (by simp [rc])))))) rfl)).trans ?_
    refine st_seq (w1 := ⟨ρ, O ++ [hal "Hall" s2 [s0, s1], hal "Hall" s2 [s0], hal "Hall" t2 [s0, t1]]⟩) (drop_v (meth_v (ev_p rfl) g3a (lk_no _ _ _ _ (by decide +kernel)) (tb_s _ hc) nil_v ((undo_ok (es := [s0, s1]) s2 g3a hc).trans (by rw [s3a])))) ?_
    refine (on_v (w1 := ⟨ρ, O ++ [hal "Hall" s2 [s0, s1], hal "Hall" s2 [s0], hal "Hall" t2 [s0, t1]]⟩) (val_to (b := false) (tnot_v (tv_v (fz_v (r := .im (.bl true)) (eqo_v (er_v rfl).fz (er_v rfl).fz (eq1 true g3a g3b (by simp)))))) rfl)).trans ?_
    refine st_seq (w1 := ⟨ρ, O ++ [hal "Hall" s1 [s0], hal "Hall" s2 [s0], hal "Hall" t2 [s0, t1]]⟩) (drop_v (meth_v (ev_p rfl) g3a (lk_no _ _ _ _ (by decide +kernel)) (tb_s _ hc) nil_v ((undo_ok (es := [s0]) s1 g3a hc).trans (by rw [s3a])))) ?_
    refine st_seq (w1 := ⟨ρ, O ++ [hal "Hall" s0 [], hal "Hall" s2 [s0], hal "Hall" t2 [s0, t1]]⟩) (drop_v (meth_v (ev_p rfl) g3a (lk_no _ _ _ _ (by decide +kernel)) (tb_s _ hc) nil_v ((undo_ok (es := []) s0 g3a hc).trans (by rw [s3a])))) ?_
    refine ret_v (eqo_v (er_v rfl).fz (fz_v (empty2 h1 h2 (h9 _ _ _ _))) (eq1 true (c1 := s0) (c2 := s0) (e1 := []) (e2 := []) ?_ ?_ (by simp)))
    · rw [List.getElem?_append_left (by simp)]
      exact g3a
    · simp; rfl
  obtain ⟨O', e⟩ := e
  refine ⟨O', ?_⟩
  show runB 4 B_law_same_bookings [nD L] O = _
  unfold runB
  rw [show (⟨[nD L].map Rv.im ++ List.replicate (4 - [nD L].length) .un, O⟩ : W) = ⟨[.im (nD L), .un, .un, .un], O⟩ from rfl, e]
/-! ### the law -/
theorem QQ_len (r : List Bool) : (QQ r).length = 16 := rfl
theorem QQ_ok (r : List Bool) (h : r.length ≤ 39) : ∀ q ∈ QQ r, q.2.length ≤ 10 ∧ ∀ x ∈ q.2, x.length ≤ 40 := by
  intro q hq
  simp only [QQ, quad, List.mem_append, List.mem_cons, List.not_mem_nil, or_false] at hq
  rcases hq with ((rfl | rfl | rfl | rfl) | (rfl | rfl | rfl | rfl)) | ((rfl | rfl | rfl | rfl) | (rfl | rfl | rfl | rfl)) <;>
    (refine ⟨by simp, fun x hx => ?_⟩; simp at hx; first | (subst hx; first | omega | (simp; omega)) | (rcases hx with rfl | rfl <;> first | omega | (simp; omega) | simp))
theorem turn3 (ns : List Int) (i : Nat) (hi : i < 6) (r2 r3 r4 r5 r6 r7 r8 : Rv) (O : List Rec) :
    ∃ r2' r3' r4' r5' r6' r7' r8' O', B_law_3 ⟨[.im (.scr ns), .im (nD i), r2, r3, r4, r5, r6, r7, r8], O⟩ = .val .nxt ⟨[.im (.scr ns), .im (nD i), r2', r3', r4', r5', r6', r7', r8'], O'⟩ := by
  obtain ⟨ds, hd, hlt, he⟩ := digits_ok ns i 60 27720 O (by omega) (by omega) (by omega) (by omega)
  obtain ⟨r, l1, l2, hr⟩ := row_ok ds 30 O (by omega) (by omega) (by omega)
  have t6 : (("......" : Str)) = rS [true, true, true, true, true, true] := by decide +kernel
  have a6 : bopD .Add (.str (rS r)) (.str "......") = some (.im (.str (rS (r ++ [true, true, true, true, true, true])))) := by rw [t6]; exact add_row _ _ (by simp; omega)
  have hm := made_ok (r ++ [true, true, true, true, true, true]) O (by simp) (by simp; omega)
  have hQ := QQ_ok (r ++ [true, true, true, true, true, true]) (by simp; omega)
  obtain ⟨qs, hqs⟩ : ∃ qs, qs = QQ (r ++ [true, true, true, true, true, true]) := ⟨_, rfl⟩
  have hql : qs.length = 16 := by rw [hqs]; rfl
  rw [← hqs] at hm hQ
  have hO : ∀ j (h : j < qs.length), (O ++ qs.map qR)[O.length + j]? = some (qR qs[j]) := fun j h => by
    rw [List.getElem?_append_right (by omega), Nat.add_sub_cancel_left, List.getElem?_map, List.getElem?_eq_getElem h]; rfl
  obtain ⟨w', e, q5, q6, q7, q8, rfl⟩ := forL_rng (g := gT [5, 6]) (b := B_law_2) (fun j => .tup [nD j, .obj (O.length + j)]) (fun _ w => ∃ r5 r6 r7 r8, w = ⟨[.im (.scr ns), .im (nD i), .im (.lst (ds.map nD)), .im (.lst (objs O.length qs.length)), .im (.lst (qs.map qM)), r5, r6, r7, r8], O ++ qs.map qR⟩) qs.length ⟨[.im (.scr ns), .im (nD i), .im (.lst (ds.map nD)), .im (.lst (objs O.length qs.length)), .im (.lst (qs.map qM)), r5, r6, r7, r8], O ++ qs.map qR⟩ ⟨_, _, _, _, rfl⟩ (by
    rintro j w hj ⟨r5, r6, r7, r8, rfl⟩
    obtain ⟨q7, q8, e⟩ := out_turn (ds := ds) (b := O.length) hO hQ hd hj (.im (.scr ns)) (.im (nD i)) r7 r8
    exact ⟨_, e, _, _, _, _, rfl⟩)
  have h50 : ixD (.lst (ds.map nD)) (.int 50) = some (nD (ds[50]'(by omega))) := ix_ds ds 50 (by omega)
  obtain ⟨O', hs⟩ := same_ok (6 + ds[50] % 30) (O ++ qs.map qR) (by omega) (by omega)
  refine ⟨.im (.lst (ds.map nD)), .im (.lst (objs O.length qs.length)), .im (.lst (qs.map qM)), q5, q6, q7, q8, O', ?_⟩
  unfold B_law_3
  refine st_seq (w1 := ⟨[.im (.scr ns), .im (nD i), .ow (ds.map nD), r3, r4, r5, r6, r7, r8], O⟩) (st_asg (er_call (ea_cons (er_v rfl).fz (ea_cons (er_v rfl).fz (ea_cons er_c.fz (ea_cons er_c.fz ea_nil)))) he)) ?_
  refine st_seq (w1 := ⟨[.im (.scr ns), .im (nD i), .im (.lst (ds.map nD)), .im (.lst (objs O.length qs.length)), .im (.lst (qs.map qM)), r5, r6, r7, r8], O ++ qs.map qR⟩) ?_ ?_
  · have v2 : eVar 2 ⟨[.im (.scr ns), .im (nD i), .ow (ds.map nD), r3, r4, r5, r6, r7, r8], O⟩ = .val (.im (.lst (ds.map nD))) ⟨[.im (.scr ns), .im (nD i), .im (.lst (ds.map nD)), r3, r4, r5, r6, r7, r8], O⟩ := rfl
    rw [hql]
    exact bnd_v (call_v (acons_v (fz_v (bin_v (fz_v (call_v (acons_v (fz_v v2) (ea_cons er_c.fz ea_nil)) hr)) er_c.fz a6)) nil_v) hm) rfl
  refine st_seq (st_for (xs := enumD 0 (objs O.length qs.length)) (it_enw (ea_cons (er_v rfl).fz ea_nil)) (by rw [enum_objs]; exact e)) ?_
  have m1 : bopD .Mod (nD ds[50]) (.int 30) = some (.im (nD (ds[50] % 30))) := m_lit _ 30 (by omega)
  have m2 : bopD .Add (.int 6) (nD (ds[50] % 30)) = some (.im (nD (6 + ds[50] % 30))) := by
    show some (Rv.im (.int ((6 : Int) + ((ds[50] % 30 : Nat) : Int)))) = _
    rw [show ((6 : Int) + ((ds[50] % 30 : Nat) : Int)) = ((6 + ds[50] % 30 : Nat) : Int) by omega]
  exact ifn_v (val_to (b := false) (tnot_v (tv_v (fz_v (r := .im (.bl true)) (call_v (ea_cons (er_bin er_c.fz (er_bin (ev_ix (ev_p rfl) er_c.fz h50) er_c.fz m1).fz m2).fz ea_nil) hs)))) rfl)
theorem law_true : ∀ ns : List Int, ns.length ≤ 63 → ∃ O', F_law [.scr ns] [] = .val (.im (.bl true)) O' := by
  intro ns _
  obtain ⟨w', e, r1, r2, r3, r4, r5, r6, r7, r8, O, rfl⟩ := forL_rng (g := gN 1) (b := B_law_3) nD (fun _ w => ∃ r1 r2 r3 r4 r5 r6 r7 r8 O, w = ⟨[.im (.scr ns), r1, r2, r3, r4, r5, r6, r7, r8], O⟩) 6 ⟨[.im (.scr ns), .un, .un, .un, .un, .un, .un, .un, .un], []⟩ ⟨_, _, _, _, _, _, _, _, _, rfl⟩ (by
    rintro i w hi ⟨r1, r2, r3, r4, r5, r6, r7, r8, O, rfl⟩
    obtain ⟨q2, q3, q4, q5, q6, q7, q8, O', e⟩ := turn3 ns i hi r2 r3 r4 r5 r6 r7 r8 O
    exact ⟨_, e, _, _, _, _, _, _, _, _, _, rfl⟩)
  have hc : IsH "Hall" := .inl rfl
  have t4 : (("...." : Str)) = rS [true, true, true, true] := by decide +kernel
  let z0 : HS := ⟨[[true, true, true, true]], [], 0⟩
  let z1 := z0.put 0 0 4
  let z2 := z1.can (0, 0, 0, 4)
  let z3 := z2.put 0 0 4
  have k0 : HOk z0 := ⟨by simp [z0], fun r hr => by simp [z0] at hr; subst hr; simp⟩
  have k1 : HOk z1 := k0.put (by show 0 + 4 ≤ 4; omega)
  have k2 : HOk z2 := ⟨by show 1 ≤ 10; omega, fun r hr => by
    have : r ∈ [[true, true, true, true]] := hr
    simp at this; subst this; simp⟩
  have al : allowB [true, true, true, true] 0 4 = true := by decide +kernel
  have mk : ∀ (ρ : List Rv) (P : List Rec), eMake "Hall" F_Hall_init (aCons (fz (eC (.str "...."))) aNil) ⟨ρ, P⟩ = .val (.im (.obj P.length)) ⟨ρ, P ++ [hal "Hall" z0 []]⟩ := fun ρ P => by
    rw [t4]
    exact mk_v (rs := [[true, true, true, true]]) hc (by simp) (by simp) (fun r hr => by simp at hr; subst hr; simp) (ea_cons er_c.fz ea_nil)
  have g1 : ∀ {a : Rec}, (O ++ [a])[O.length]? = some a := fun {a} => by simp
  have s1 : ∀ {a a' : Rec}, (O ++ [a]).set O.length a' = O ++ [a'] := fun {a a'} => by rw [List.set_append_right _ _ (Nat.le_refl _), Nat.sub_self]; rfl
  have g2 : ∀ {a b : Rec}, (O ++ [a, b])[O.length]? = some a := fun {a b} => by simp
  have g2b : ∀ {a b : Rec}, (O ++ [a, b])[O.length + 1]? = some b := fun {a b} => by rw [List.getElem?_append_right (by omega)]; simp
  have s2 : ∀ {a b a' : Rec}, (O ++ [a, b]).set O.length a' = O ++ [a', b] := fun {a b a'} => by rw [List.set_append_right _ _ (Nat.le_refl _), Nat.sub_self]; rfl
  have q0 : 0 < z0.rs.length := by show 0 < 1; omega
  have bk0 : ∀ {O : List Rec} {k : Nat} {es : List HS}, O[k]? = some (hal "Hall" z0 es) → es.length ≤ 1000 → F_Hall_book [.obj k, .int 0, .int 0, .int 4] O = .val (.im (nD 0)) (O.set k (hal "Hall" z1 (es ++ [z0]))) := fun hk he =>
    book_ok (i := 0) (a := 0) (z := 4) hk k0 q0 (by omega) (by show 0 + 4 ≤ 4; omega) al (by simp [z0]) he
  have bk2 : ∀ {O : List Rec} {k : Nat} {es : List HS}, O[k]? = some (hal "Hall" z2 es) → es.length ≤ 1000 → F_Hall_book [.obj k, .int 0, .int 0, .int 4] O = .val (.im (nD 1)) (O.set k (hal "Hall" z3 (es ++ [z2]))) := fun hk he =>
    book_ok (i := 0) (a := 0) (z := 4) hk k2 (by show 0 < 1; omega) (by omega) (by show 0 + 4 ≤ 4; omega) al (by simp [z2, z1, HS.can, HS.put, z0]) he
  have a3 : ∀ ρ P, (aCons (fz (eC (.int 0))) (aCons (fz (eC (.int 0))) (aCons (fz (eC (.int 4))) (aNil)))) ⟨ρ, P⟩ = .val [.int 0, .int 0, .int 4] ⟨ρ, P⟩ := fun ρ P => ea_cons er_c.fz (ea_cons er_c.fz (ea_cons er_c.fz ea_nil))
  have eq1 : ∀ {ρ : List Rv} {k j : Nat} {P : List Rec} {c1 c2 : HS} {e1 e2 : List HS} (x : Bool), P[k]? = some (hal "Hall" c1 e1) → P[j]? = some (hal "Hall" c2 e2) → decide (c1.rs = c2.rs ∧ c1.bs = c2.bs) = x → eqO TEQ TSB (.obj k) (.obj j) ⟨ρ, P⟩ = .val (.im (.bl x)) ⟨ρ, P⟩ := fun x q1 q2 q3 => by
    rw [eqO_hh q1 hc q2 hc]
    simp only [true_and, q3]
  have cr : ∀ x y : List (List Bool), cmpD .Eq (rowsD x) (rowsD y) = some (decide (x = y)) := fun x y => by
    show (if eqOk (rowsD x) && eqOk (rowsD y) then some (eqD (rowsD x) (rowsD y)) else none) = _
    rw [eqOk_rows, eqOk_rows, eqD_rows]; rfl
  have e2 : B_law ⟨[.im (.scr ns), .un, .un, .un, .un, .un, .un, .un, .un], []⟩ = .val (.ret (.im (.bl true))) ⟨[.im (.scr ns), r1, r2, r3, r4, r5, .im (.obj O.length), r7, .im (.obj (O.length + 2))], O ++ [hal "Hall" z3 [z0, z1, z2], hal "Hall" z0 [], hal "Hall" z1 [z0]]⟩ := by
    unfold B_law
    refine st_seq (st_for (it_rg1 (ea_cons er_c.fz ea_nil) (rg1_n 6 (by omega))) e) ?_
    refine st_seq (w1 := ⟨[.im (.scr ns), r1, r2, r3, r4, r5, .im (.obj O.length), r7, r8], O ++ [hal "Hall" z0 []]⟩) (asg_v (mk _ _)) ?_
    refine st_seq (w1 := ⟨[.im (.scr ns), r1, r2, r3, r4, r5, .im (.obj O.length), r7, r8], O ++ [hal "Hall" z1 [z0]]⟩) (drop_v (meth_v (ev_p rfl) g1 (lk_no _ _ _ _ (by decide +kernel)) (tb_s _ hc) (a3 _ _) ((bk0 g1 (by simp)).trans (by rw [s1]; rfl)))) ?_
    refine st_seq (w1 := ⟨[.im (.scr ns), r1, r2, r3, r4, r5, .im (.obj O.length), r7, r8], O ++ [hal "Hall" z2 [z0, z1]]⟩) (drop_v (meth_v (ev_p rfl) g1 (lk_no _ _ _ _ (by decide +kernel)) (tb_s _ hc) (ea_cons er_c.fz ea_nil) ((cancel_ok (m := 0) g1 hc k1 (0, 0, 0, 4) rfl (by simp [z1, HS.put, z0]) (by simp) (by omega) (by show 0 < 1; omega) (by show 4 ≤ 40; omega)).trans (by rw [s1]; rfl)))) ?_
    have x1 : tNotM (tV (fz (eEqO TEQ TSB (fz (eVar 6)) (fz (eMake "Hall" F_Hall_init (aCons (fz (eC (.str "...."))) (aNil))))))) ⟨[.im (.scr ns), r1, r2, r3, r4, r5, .im (.obj O.length), r7, r8], O ++ [hal "Hall" z2 [z0, z1]]⟩ = .val false ⟨[.im (.scr ns), r1, r2, r3, r4, r5, .im (.obj O.length), r7, r8], O ++ [hal "Hall" z2 [z0, z1], hal "Hall" z0 []]⟩ := by
      have m1 := mk [.im (.scr ns), r1, r2, r3, r4, r5, .im (.obj O.length), r7, r8] (O ++ [hal "Hall" z2 [z0, z1]])
      rw [List.append_assoc, List.length_append] at m1
      exact val_to (tnot_v (tv_v (fz_v (r := .im (.bl true)) (eqo_v (er_v rfl).fz (fz_v m1) (eq1 true g2 g2b (by decide)))))) rfl
    have x2 : tV (fz (eCmp .NotEq (fz (eMth [("Hall", F_Hall_book), ("LenientHall", F_Hall_book)] "book" (pVar 6) (aCons (fz (eC (.int 0))) (aCons (fz (eC (.int 0))) (aCons (fz (eC (.int 4))) (aNil)))))) (fz (eC (.int 1))))) ⟨[.im (.scr ns), r1, r2, r3, r4, r5, .im (.obj O.length), r7, r8], O ++ [hal "Hall" z2 [z0, z1], hal "Hall" z0 []]⟩ = .val false ⟨[.im (.scr ns), r1, r2, r3, r4, r5, .im (.obj O.length), r7, r8], O ++ [hal "Hall" z3 [z0, z1, z2], hal "Hall" z0 []]⟩ := by
      have c1 : cmpD .NotEq (nD 1) (.int 1) = some false := by
        show (if eqOk (.int 1) && eqOk (.int 1) then some (!eqD (.int 1) (.int 1)) else none) = _
        rw [eqOk_int, eqD_int]; rfl
      exact tv_v (fz_v (r := .im (.bl false)) (cmp_v (fz_v (r := .im (nD 1)) (meth_v (ev_p rfl) g2 (lk_no _ _ _ _ (by decide +kernel)) (tb_s _ hc) (a3 _ _) ((bk2 g2 (by simp)).trans (by rw [s2]; rfl)))) er_c.fz c1))
    refine (on_v (val_to (b := false) (tor_v (k := false) (k2 := false) x1 (fun _ => x2) (fun z => Bool.noConfusion z)) rfl)).trans ?_
    have m2 := mk [.im (.scr ns), r1, r2, r3, r4, r5, .im (.obj O.length), r7, r8] (O ++ [hal "Hall" z3 [z0, z1, z2], hal "Hall" z0 []])
    rw [List.append_assoc, List.length_append] at m2
    refine st_seq (w1 := ⟨[.im (.scr ns), r1, r2, r3, r4, r5, .im (.obj O.length), r7, .im (.obj (O.length + 2))], O ++ [hal "Hall" z3 [z0, z1, z2], hal "Hall" z0 [], hal "Hall" z0 []]⟩) (asg_v m2) ?_
    have y1 : tV (fz (eCmp .Eq (fz (eMth [("Hall", F_Hall_book), ("LenientHall", F_Hall_book)] "book" (pVar 8) (aCons (fz (eC (.int 0))) (aCons (fz (eC (.int 0))) (aCons (fz (eC (.int 4))) (aNil)))))) (fz (eC (.int 0))))) ⟨[.im (.scr ns), r1, r2, r3, r4, r5, .im (.obj O.length), r7, .im (.obj (O.length + 2))], O ++ [hal "Hall" z3 [z0, z1, z2], hal "Hall" z0 [], hal "Hall" z0 []]⟩ = .val true ⟨[.im (.scr ns), r1, r2, r3, r4, r5, .im (.obj O.length), r7, .im (.obj (O.length + 2))], O ++ [hal "Hall" z3 [z0, z1, z2], hal "Hall" z0 [], hal "Hall" z1 [z0]]⟩ := by
      have c1 : cmpD .Eq (nD 0) (.int 0) = some true := by
        show (if eqOk (.int 0) && eqOk (.int 0) then some (eqD (.int 0) (.int 0)) else none) = _
        rw [eqOk_int, eqD_int]; rfl
      exact tv_v (fz_v (r := .im (.bl true)) (cmp_v (fz_v (r := .im (nD 0)) (meth_v (ev_p rfl) g3c (lk_no _ _ _ _ (by decide +kernel)) (tb_s _ hc) (a3 _ _) ((bk0 g3c (by simp)).trans (by rw [s3c]; rfl)))) er_c.fz c1))
    have y2 : (eNot (eEqO TEQ TSB (fz (eVar 6)) (fz (eVar 8)))) ⟨[.im (.scr ns), r1, r2, r3, r4, r5, .im (.obj O.length), r7, .im (.obj (O.length + 2))], O ++ [hal "Hall" z3 [z0, z1, z2], hal "Hall" z0 [], hal "Hall" z1 [z0]]⟩ = .val (.im (.bl true)) ⟨[.im (.scr ns), r1, r2, r3, r4, r5, .im (.obj O.length), r7, .im (.obj (O.length + 2))], O ++ [hal "Hall" z3 [z0, z1, z2], hal "Hall" z0 [], hal "Hall" z1 [z0]]⟩ :=
      not_v (k := false) (tv_v (fz_v (r := .im (.bl false)) (eqo_v (er_v rfl).fz (er_v rfl).fz (eq1 false g3a g3c (by decide)))))
    have y3 : (eCmp .Eq (fz (eProp [("Hall", F_Hall_rows), ("LenientHall", F_Hall_rows)] (pVar 6))) (fz (eProp [("Hall", F_Hall_rows), ("LenientHall", F_Hall_rows)] (pVar 8)))) ⟨[.im (.scr ns), r1, r2, r3, r4, r5, .im (.obj O.length), r7, .im (.obj (O.length + 2))], O ++ [hal "Hall" z3 [z0, z1, z2], hal "Hall" z0 [], hal "Hall" z1 [z0]]⟩ = .val (.im (.bl true)) ⟨[.im (.scr ns), r1, r2, r3, r4, r5, .im (.obj O.length), r7, .im (.obj (O.length + 2))], O ++ [hal "Hall" z3 [z0, z1, z2], hal "Hall" z0 [], hal "Hall" z1 [z0]]⟩ :=
      cmp_v (fz_v (r := .im _) (prop_v (ev_p rfl) g3a (tb_s _ hc) (rows_ok g3a hc))) (fz_v (r := .im _) (prop_v (ev_p rfl) g3c (tb_s _ hc) (rows_ok g3c hc))) ((cr _ _).trans (by decide))
    exact ret_v (and_v (k := true) (k2 := true) y1 (fun _ => and_v (k := true) (k2 := true) (tv_v (fz_v (r := .im (.bl true)) y2)) (fun _ => y3) (fun z => Bool.noConfusion z)) (fun z => Bool.noConfusion z))
  refine ⟨O ++ [hal "Hall" z3 [z0, z1, z2], hal "Hall" z0 [], hal "Hall" z1 [z0]], ?_⟩
  show runB 9 B_law [.scr ns] [] = _
  unfold runB
  rw [show (⟨[D.scr ns].map Rv.im ++ List.replicate (9 - [D.scr ns].length) .un, []⟩ : W) = ⟨[.im (.scr ns), .un, .un, .un, .un, .un, .un, .un, .un], []⟩ from rfl, e2]
end DL
end
section
set_option Elab.async false
set_option linter.all false
set_option maxRecDepth 100000
set_option maxHeartbeats 4000000
namespace DL
open PySem PySem.Spec PyProof.Rows L2
section
variable {P : Program} {w : World} {K : PySem.W.Frag} {mg : Str → Option Value} {base : Heap}
theorem sc_law_cell : FnScope N_law_cell ["script", "index"] (defScope s_law_cell) := ⟨rfl, rfl, rfl, by decide +kernel, rfl, by decide +kernel, by decide +kernel⟩
theorem ok_law_cell {f : Addr} {fd : FuncData} (F : Fun K "_law_cell" "_law_cell" s_law_cell f fd) (m_len : mg "len" = none) : FnOk P w K mg base CX0 1 f fd ["script", "index"] (spP ⟨P, w, K⟩ F_law_cell) :=
  fn_ok F sc_law_cell fun cdv A outer s H E hr => der_law_cell rfl rfl sc_law_cell.nd rfl (room_hu hr) (fun _ => rfl) PassesOwn.never m_len
theorem sc_law_digits : FnScope N_law_digits ["script", "index", "count", "base"] (defScope s_law_digits) := ⟨rfl, rfl, rfl, by decide +kernel, rfl, by decide +kernel, by decide +kernel⟩
theorem ok_law_digits {f : Addr} {fd : FuncData} (F : Fun K "_law_digits" "_law_digits" s_law_digits f fd) {f__law_cell : Addr} (G__law_cell : FnR P w K mg base CX0 1 f__law_cell (spP ⟨P, w, K⟩ F_law_cell)) (g__law_cell : mg "_law_cell" = some (.ref f__law_cell)) (k__law_cell : PySem.W.keepIn K (.ref f__law_cell) = true) (m_range : mg "range" = none) : FnOk P w K mg base CX0 2 f fd ["script", "index", "count", "base"] (spP ⟨P, w, K⟩ F_law_digits) :=
  fn_ok F sc_law_digits fun cdv A outer s H E hr => der_law_digits rfl rfl sc_law_digits.nd rfl (room_hu hr) (fun _ => rfl) PassesOwn.never ⟨⟨1, f__law_cell, G__law_cell, hr.mono (by decide), g__law_cell, k__law_cell⟩⟩ m_range
theorem sc_law_row : FnScope N_law_row ["digits", "most"] (defScope s_law_row) := ⟨rfl, rfl, rfl, by decide +kernel, rfl, by decide +kernel, by decide +kernel⟩
theorem ok_law_row {f : Addr} {fd : FuncData} (F : Fun K "_law_row" "_law_row" s_law_row f fd) : FnOk P w K mg base CX0 1 f fd ["digits", "most"] (spP ⟨P, w, K⟩ F_law_row) :=
  fn_ok F sc_law_row fun cdv A outer s H E hr => der_law_row rfl rfl sc_law_row.nd rfl (room_hu hr) (fun _ => rfl) PassesOwn.never 
theorem sc_is_row : FnScope N_is_row ["value"] (defScope s_is_row) := ⟨rfl, rfl, rfl, by decide +kernel, rfl, by decide +kernel, by decide +kernel⟩
theorem ok_is_row {f : Addr} {fd : FuncData} (F : Fun K "is_row" "is_row" s_is_row f fd) (m_all : mg "all" = none) (m_isinstance : mg "isinstance" = none) (m_len : mg "len" = none) (m_str : mg "str" = none) : FnOk P w K mg base CX0 1 f fd ["value"] (spP ⟨P, w, K⟩ F_is_row) :=
  fn_ok F sc_is_row fun cdv A outer s H E hr => der_is_row rfl rfl sc_is_row.nd rfl (room_hu hr) (fun _ => rfl) PassesOwn.never m_all m_isinstance m_len m_str
theorem sc_Hall_init : FnScope N_Hall_init ["self", "rows"] (defScope s_Hall_init) := ⟨rfl, rfl, rfl, by decide +kernel, rfl, by decide +kernel, by decide +kernel⟩
theorem ok_Hall_init {f : Addr} {fd : FuncData} (F : Fun K "__init__" "Hall.__init__" s_Hall_init f fd) {f_is_row_rows : Addr} (G_is_row_rows : FnR P w K mg base CX0 1 f_is_row_rows (spP ⟨P, w, K⟩ F_is_row)) (g_is_row_rows : mg "is_row_rows" = some (.ref f_is_row_rows)) (k_is_row_rows : PySem.W.keepIn K (.ref f_is_row_rows) = true) (m_all : mg "all" = none) (m_len : mg "len" = none) (fl_book_list : FldR K ["Hall", "LenientHall"] "book_list") (fl_earlier : FldR K ["Hall", "LenientHall"] "earlier") (fl_lines : FldR K ["Hall", "LenientHall"] "lines") (fl_next_number : FldR K ["Hall", "LenientHall"] "next_number") (con_Hall_MOST : ConR K mg "Hall" "MOST" 10) : FnR P w K mg base CX0 2 f (spP ⟨P, w, K⟩ F_Hall_init) :=
  fn_okS (ps := ["self"]) (pv := "rows") F sc_Hall_init (fun kV doc pm an cdv ct => StX.bind_star1 (B := fun us => bindArgs (PySem.W.fnOf "__init__" "Hall.__init__" (defArgs s_Hall_init) (defBody s_Hall_init) (defScope s_Hall_init) .none kV doc pm an cdv ct) ⟨us, []⟩) (fun _  => rfl) (fun _  _ _ => rfl)) fun cdv A outer s H E hr => der_Hall_init rfl rfl sc_Hall_init.nd rfl (room_hu hr) (fun _ => rfl) PassesOwn.never ⟨⟨1, f_is_row_rows, G_is_row_rows, hr.mono (by decide), g_is_row_rows, k_is_row_rows⟩⟩ m_all m_len fl_book_list fl_earlier fl_lines fl_next_number con_Hall_MOST
theorem sc_law_made : FnScope N_law_made ["row"] (defScope s_law_made) := ⟨rfl, rfl, rfl, by decide +kernel, rfl, by decide +kernel, by decide +kernel⟩
theorem ok_law_made {f : Addr} {fd : FuncData} (F : Fun K "_law_made" "_law_made" s_law_made f fd) (MK_Hall : MakR P w K mg base 3 "Hall" F_Hall_init) (MK_LenientHall : MakR P w K mg base 3 "LenientHall" F_Hall_init) : FnOk P w K mg base CX0 4 f fd ["row"] (spP ⟨P, w, K⟩ F_law_made) :=
  fn_ok F sc_law_made fun cdv A outer s H E hr => der_law_made rfl rfl sc_law_made.nd rfl (room_hu hr) (fun _ => rfl) PassesOwn.never (MK_Hall.ok hr) (MK_LenientHall.ok hr)
theorem sc_law_any_value : FnScope N_law_any_value ["digits", "depth"] (defScope s_law_any_value) := ⟨rfl, rfl, rfl, by decide +kernel, rfl, by decide +kernel, by decide +kernel⟩
theorem ok_law_any_value {f : Addr} {fd : FuncData} (F : Fun K "_law_any_value" "_law_any_value" s_law_any_value f fd) (m_range : mg "range" = none) (m_tuple : mg "tuple" = none) {n : Nat} (hn : 1 ≤ n) {Fr : Fn} (G__law_any_value : FnR P w K mg base CX0 n f (spP ⟨P, w, K⟩ Fr)) (g__law_any_value : mg "_law_any_value" = some (.ref f)) (k__law_any_value : PySem.W.keepIn K (.ref f) = true) : FnOk P w K mg base CX0 (n + 1) f fd ["digits", "depth"] (spP ⟨P, w, K⟩ (defF 2 6 (B_law_any_value Fr))) :=
  fn_ok F sc_law_any_value fun cdv A outer s H E hr => der_law_any_value rfl rfl sc_law_any_value.nd rfl (room_hu hr) (fun _ => rfl) PassesOwn.never ⟨⟨n, f, G__law_any_value, hr, g__law_any_value, k__law_any_value⟩⟩ m_range m_tuple
theorem sc_is_integer : FnScope N_is_integer ["value", "low", "high"] (defScope s_is_integer) := ⟨rfl, rfl, rfl, by decide +kernel, rfl, by decide +kernel, by decide +kernel⟩
theorem ok_is_integer {f : Addr} {fd : FuncData} (F : Fun K "is_integer" "is_integer" s_is_integer f fd) (m_bool : mg "bool" = none) (m_int : mg "int" = none) (m_isinstance : mg "isinstance" = none) : FnOk P w K mg base CX0 1 f fd ["value", "low", "high"] (spP ⟨P, w, K⟩ F_is_integer) :=
  fn_ok F sc_is_integer fun cdv A outer s H E hr => der_is_integer rfl rfl sc_is_integer.nd rfl (room_hu hr) (fun _ => rfl) PassesOwn.never m_bool m_int m_isinstance
theorem sc_is_booking : FnScope N_is_booking ["row", "value"] (defScope s_is_booking) := ⟨rfl, rfl, rfl, by decide +kernel, rfl, by decide +kernel, by decide +kernel⟩
theorem ok_is_booking {f : Addr} {fd : FuncData} (F : Fun K "is_booking" "is_booking" s_is_booking f fd) {f_is_integer : Addr} (G_is_integer : FnR P w K mg base CX0 1 f_is_integer (spP ⟨P, w, K⟩ F_is_integer)) (g_is_integer : mg "is_integer" = some (.ref f_is_integer)) (k_is_integer : PySem.W.keepIn K (.ref f_is_integer) = true) (m_isinstance : mg "isinstance" = none) (m_len : mg "len" = none) (m_tuple : mg "tuple" = none) : FnOk P w K mg base CX0 2 f fd ["row", "value"] (spP ⟨P, w, K⟩ F_is_booking) :=
  fn_ok F sc_is_booking fun cdv A outer s H E hr => der_is_booking rfl rfl sc_is_booking.nd rfl (room_hu hr) (fun _ => rfl) PassesOwn.never ⟨⟨1, f_is_integer, G_is_integer, hr.mono (by decide), g_is_integer, k_is_integer⟩⟩ m_isinstance m_len m_tuple
theorem sc_is_free : FnScope N_is_free ["row", "booking"] (defScope s_is_free) := ⟨rfl, rfl, rfl, by decide +kernel, rfl, by decide +kernel, by decide +kernel⟩
theorem ok_is_free {f : Addr} {fd : FuncData} (F : Fun K "is_free" "is_free" s_is_free f fd) : FnOk P w K mg base CX0 1 f fd ["row", "booking"] (spP ⟨P, w, K⟩ F_is_free) :=
  fn_ok F sc_is_free fun cdv A outer s H E hr => der_is_free rfl rfl sc_is_free.nd rfl (room_hu hr) (fun _ => rfl) PassesOwn.never 
theorem sc_gaps : FnScope N_gaps ["row"] (defScope s_gaps) := ⟨rfl, rfl, rfl, by decide +kernel, rfl, by decide +kernel, by decide +kernel⟩
theorem ok_gaps {f : Addr} {fd : FuncData} (F : Fun K "gaps" "gaps" s_gaps f fd) (m_enumerate : mg "enumerate" = none) : FnOk P w K mg base CX0 1 f fd ["row"] (spP ⟨P, w, K⟩ F_gaps) :=
  fn_ok F sc_gaps fun cdv A outer s H E hr => der_gaps rfl rfl sc_gaps.nd rfl (room_hu hr) (fun _ => rfl) PassesOwn.never m_enumerate
theorem sc_leaves_single : FnScope N_leaves_single ["row", "booking"] (defScope s_leaves_single) := ⟨rfl, rfl, rfl, by decide +kernel, rfl, by decide +kernel, by decide +kernel⟩
theorem ok_leaves_single {f : Addr} {fd : FuncData} (F : Fun K "leaves_single" "leaves_single" s_leaves_single f fd) {f_gaps : Addr} (G_gaps : FnR P w K mg base CX0 1 f_gaps (spP ⟨P, w, K⟩ F_gaps)) (g_gaps : mg "gaps" = some (.ref f_gaps)) (k_gaps : PySem.W.keepIn K (.ref f_gaps) = true) : FnOk P w K mg base CX0 2 f fd ["row", "booking"] (spP ⟨P, w, K⟩ F_leaves_single) :=
  fn_ok F sc_leaves_single fun cdv A outer s H E hr => der_leaves_single rfl rfl sc_leaves_single.nd rfl (room_hu hr) (fun _ => rfl) PassesOwn.never ⟨⟨1, f_gaps, G_gaps, hr.mono (by decide), g_gaps, k_gaps⟩⟩
theorem sc_Hall_refuses : FnScope N_Hall_refuses ["self", "row", "booking"] (defScope s_Hall_refuses) := ⟨rfl, rfl, rfl, by decide +kernel, rfl, by decide +kernel, by decide +kernel⟩
theorem ok_Hall_refuses {f : Addr} {fd : FuncData} (F : Fun K "refuses" "Hall.refuses" s_Hall_refuses f fd) {f_leaves_single : Addr} (G_leaves_single : FnR P w K mg base CX0 2 f_leaves_single (spP ⟨P, w, K⟩ F_leaves_single)) (g_leaves_single : mg "leaves_single" = some (.ref f_leaves_single)) (k_leaves_single : PySem.W.keepIn K (.ref f_leaves_single) = true) : FnOk P w K mg base CX0 3 f fd ["self", "row", "booking"] (spP ⟨P, w, K⟩ F_Hall_refuses) :=
  fn_ok F sc_Hall_refuses fun cdv A outer s H E hr => der_Hall_refuses rfl rfl sc_Hall_refuses.nd rfl (room_hu hr) (fun _ => rfl) PassesOwn.never ⟨⟨2, f_leaves_single, G_leaves_single, hr.mono (by decide), g_leaves_single, k_leaves_single⟩⟩
theorem sc_Hall_check : FnScope N_Hall_check ["self", "row", "start", "size"] (defScope s_Hall_check) := ⟨rfl, rfl, rfl, by decide +kernel, rfl, by decide +kernel, by decide +kernel⟩
theorem ok_Hall_check {f : Addr} {fd : FuncData} (F : Fun K "check" "Hall.check" s_Hall_check f fd) {f_is_booking : Addr} (G_is_booking : FnR P w K mg base CX0 2 f_is_booking (spP ⟨P, w, K⟩ F_is_booking)) (g_is_booking : mg "is_booking" = some (.ref f_is_booking)) (k_is_booking : PySem.W.keepIn K (.ref f_is_booking) = true) {f_is_free : Addr} (G_is_free : FnR P w K mg base CX0 1 f_is_free (spP ⟨P, w, K⟩ F_is_free)) (g_is_free : mg "is_free" = some (.ref f_is_free)) (k_is_free : PySem.W.keepIn K (.ref f_is_free) = true) {f_is_integer : Addr} (G_is_integer : FnR P w K mg base CX0 1 f_is_integer (spP ⟨P, w, K⟩ F_is_integer)) (g_is_integer : mg "is_integer" = some (.ref f_is_integer)) (k_is_integer : PySem.W.keepIn K (.ref f_is_integer) = true) (m_len : mg "len" = none) (fl_lines : FldR K ["Hall", "LenientHall"] "lines") (M_refuses : MetR P w K mg base 3 [("Hall", F_Hall_refuses)] "refuses") : FnOk P w K mg base CX0 4 f fd ["self", "row", "start", "size"] (spP ⟨P, w, K⟩ F_Hall_check) :=
  fn_ok F sc_Hall_check fun cdv A outer s H E hr => der_Hall_check rfl rfl sc_Hall_check.nd rfl (room_hu hr) (fun _ => rfl) PassesOwn.never ⟨⟨2, f_is_booking, G_is_booking, hr.mono (by decide), g_is_booking, k_is_booking⟩⟩ ⟨⟨1, f_is_free, G_is_free, hr.mono (by decide), g_is_free, k_is_free⟩⟩ ⟨⟨1, f_is_integer, G_is_integer, hr.mono (by decide), g_is_integer, k_is_integer⟩⟩ m_len fl_lines (M_refuses.ok hr)
theorem sc_taken : FnScope N_taken ["row", "booking"] (defScope s_taken) := ⟨rfl, rfl, rfl, by decide +kernel, rfl, by decide +kernel, by decide +kernel⟩
theorem ok_taken {f : Addr} {fd : FuncData} (F : Fun K "taken" "taken" s_taken f fd) : FnOk P w K mg base CX0 1 f fd ["row", "booking"] (spP ⟨P, w, K⟩ F_taken) :=
  fn_ok F sc_taken fun cdv A outer s H E hr => der_taken rfl rfl sc_taken.nd rfl (room_hu hr) (fun _ => rfl) PassesOwn.never 
theorem sc_Hall_put : FnScope N_Hall_put ["self", "row", "start", "size"] (defScope s_Hall_put) := ⟨rfl, rfl, rfl, by decide +kernel, rfl, by decide +kernel, by decide +kernel⟩
theorem ok_Hall_put {f : Addr} {fd : FuncData} (F : Fun K "put" "Hall.put" s_Hall_put f fd) {f_taken : Addr} (G_taken : FnR P w K mg base CX0 1 f_taken (spP ⟨P, w, K⟩ F_taken)) (g_taken : mg "taken" = some (.ref f_taken)) (k_taken : PySem.W.keepIn K (.ref f_taken) = true) (fl_book_list : FldR K ["Hall", "LenientHall"] "book_list") (fl_lines : FldR K ["Hall", "LenientHall"] "lines") (fl_next_number : FldR K ["Hall", "LenientHall"] "next_number") : FnOk P w K mg base CX0 2 f fd ["self", "row", "start", "size"] (spP ⟨P, w, K⟩ F_Hall_put) :=
  fn_ok F sc_Hall_put fun cdv A outer s H E hr => der_Hall_put rfl rfl sc_Hall_put.nd rfl (room_hu hr) (fun _ => rfl) PassesOwn.never ⟨⟨1, f_taken, G_taken, hr.mono (by decide), g_taken, k_taken⟩⟩ fl_book_list fl_lines fl_next_number
theorem sc_Hall_attempt : FnScope N_Hall_attempt ["self", "wishes"] (defScope s_Hall_attempt) := ⟨rfl, rfl, rfl, by decide +kernel, rfl, by decide +kernel, by decide +kernel⟩
theorem ok_Hall_attempt {f : Addr} {fd : FuncData} (F : Fun K "attempt" "Hall.attempt" s_Hall_attempt f fd) (m_isinstance : mg "isinstance" = none) (m_len : mg "len" = none) (m_tuple : mg "tuple" = none) (fl_book_list : FldR K ["Hall", "LenientHall"] "book_list") (fl_earlier : FldR K ["Hall", "LenientHall"] "earlier") (fl_lines : FldR K ["Hall", "LenientHall"] "lines") (fl_next_number : FldR K ["Hall", "LenientHall"] "next_number") (M_check : MetR P w K mg base 4 [("Hall", F_Hall_check), ("LenientHall", F_Hall_check)] "check") (M_put : MetR P w K mg base 4 [("Hall", F_Hall_put), ("LenientHall", F_Hall_put)] "put") : FnR P w K mg base CX0 5 f (spP ⟨P, w, K⟩ F_Hall_attempt) :=
  fn_okS (ps := ["self"]) (pv := "wishes") F sc_Hall_attempt (fun kV doc pm an cdv ct => StX.bind_star1 (B := fun us => bindArgs (PySem.W.fnOf "attempt" "Hall.attempt" (defArgs s_Hall_attempt) (defBody s_Hall_attempt) (defScope s_Hall_attempt) .none kV doc pm an cdv ct) ⟨us, []⟩) (fun _  => rfl) (fun _  _ _ => rfl)) fun cdv A outer s H E hr => der_Hall_attempt rfl rfl sc_Hall_attempt.nd rfl (room_hu hr) (fun _ => rfl) PassesOwn.never m_isinstance m_len m_tuple fl_book_list fl_earlier fl_lines fl_next_number (M_check.ok hr) (M_put.ok hr)
theorem sc_Hall_keep : FnScope N_Hall_keep ["self"] (defScope s_Hall_keep) := ⟨rfl, rfl, rfl, by decide +kernel, rfl, by decide +kernel, by decide +kernel⟩
theorem ok_Hall_keep {f : Addr} {fd : FuncData} (F : Fun K "keep" "Hall.keep" s_Hall_keep f fd) (fl_book_list : FldR K ["Hall", "LenientHall"] "book_list") (fl_earlier : FldR K ["Hall", "LenientHall"] "earlier") (fl_lines : FldR K ["Hall", "LenientHall"] "lines") (fl_next_number : FldR K ["Hall", "LenientHall"] "next_number") : FnOk P w K mg base CX0 1 f fd ["self"] (spP ⟨P, w, K⟩ F_Hall_keep) :=
  fn_ok F sc_Hall_keep fun cdv A outer s H E hr => der_Hall_keep rfl rfl sc_Hall_keep.nd rfl (room_hu hr) (fun _ => rfl) PassesOwn.never fl_book_list fl_earlier fl_lines fl_next_number
theorem sc_Hall_book : FnScope N_Hall_book ["self", "row", "start", "size"] (defScope s_Hall_book) := ⟨rfl, rfl, rfl, by decide +kernel, rfl, by decide +kernel, by decide +kernel⟩
theorem ok_Hall_book {f : Addr} {fd : FuncData} (F : Fun K "book" "Hall.book" s_Hall_book f fd) (M_check : MetR P w K mg base 4 [("Hall", F_Hall_check), ("LenientHall", F_Hall_check)] "check") (M_keep : MetR P w K mg base 4 [("Hall", F_Hall_keep), ("LenientHall", F_Hall_keep)] "keep") (M_put : MetR P w K mg base 4 [("Hall", F_Hall_put), ("LenientHall", F_Hall_put)] "put") : FnOk P w K mg base CX0 5 f fd ["self", "row", "start", "size"] (spP ⟨P, w, K⟩ F_Hall_book) :=
  fn_ok F sc_Hall_book fun cdv A outer s H E hr => der_Hall_book rfl rfl sc_Hall_book.nd rfl (room_hu hr) (fun _ => rfl) PassesOwn.never (M_check.ok hr) (M_keep.ok hr) (M_put.ok hr)
theorem sc_Hall_cancel : FnScope N_Hall_cancel ["self", "number"] (defScope s_Hall_cancel) := ⟨rfl, rfl, rfl, by decide +kernel, rfl, by decide +kernel, by decide +kernel⟩
theorem ok_Hall_cancel {f : Addr} {fd : FuncData} (F : Fun K "cancel" "Hall.cancel" s_Hall_cancel f fd) {f_is_integer : Addr} (G_is_integer : FnR P w K mg base CX0 1 f_is_integer (spP ⟨P, w, K⟩ F_is_integer)) (g_is_integer : mg "is_integer" = some (.ref f_is_integer)) (k_is_integer : PySem.W.keepIn K (.ref f_is_integer) = true) (m_tuple : mg "tuple" = none) (fl_book_list : FldR K ["Hall", "LenientHall"] "book_list") (fl_lines : FldR K ["Hall", "LenientHall"] "lines") (M_keep : MetR P w K mg base 1 [("Hall", F_Hall_keep), ("LenientHall", F_Hall_keep)] "keep") : FnOk P w K mg base CX0 2 f fd ["self", "number"] (spP ⟨P, w, K⟩ F_Hall_cancel) :=
  fn_ok F sc_Hall_cancel fun cdv A outer s H E hr => der_Hall_cancel rfl rfl sc_Hall_cancel.nd rfl (room_hu hr) (fun _ => rfl) PassesOwn.never ⟨⟨1, f_is_integer, G_is_integer, hr.mono (by decide), g_is_integer, k_is_integer⟩⟩ m_tuple fl_book_list fl_lines (M_keep.ok hr)
theorem sc_Hall_undo : FnScope N_Hall_undo ["self"] (defScope s_Hall_undo) := ⟨rfl, rfl, rfl, by decide +kernel, rfl, by decide +kernel, by decide +kernel⟩
theorem ok_Hall_undo {f : Addr} {fd : FuncData} (F : Fun K "undo" "Hall.undo" s_Hall_undo f fd) (fl_book_list : FldR K ["Hall", "LenientHall"] "book_list") (fl_earlier : FldR K ["Hall", "LenientHall"] "earlier") (fl_lines : FldR K ["Hall", "LenientHall"] "lines") (fl_next_number : FldR K ["Hall", "LenientHall"] "next_number") : FnOk P w K mg base CX0 1 f fd ["self"] (spP ⟨P, w, K⟩ F_Hall_undo) :=
  fn_ok F sc_Hall_undo fun cdv A outer s H E hr => der_Hall_undo rfl rfl sc_Hall_undo.nd rfl (room_hu hr) (fun _ => rfl) PassesOwn.never fl_book_list fl_earlier fl_lines fl_next_number
theorem sc_Hall_rows : FnScope N_Hall_rows ["self"] (defScope s_Hall_rows) := ⟨rfl, rfl, rfl, by decide +kernel, rfl, by decide +kernel, by decide +kernel⟩
theorem ok_Hall_rows {f : Addr} {fd : FuncData} (F : Fun K "rows" "Hall.rows" s_Hall_rows f fd) (fl_lines : FldR K ["Hall", "LenientHall"] "lines") : FnOk P w K mg base CX0 1 f fd ["self"] (spP ⟨P, w, K⟩ F_Hall_rows) :=
  fn_ok F sc_Hall_rows fun cdv A outer s H E hr => der_Hall_rows rfl rfl sc_Hall_rows.nd rfl (room_hu hr) (fun _ => rfl) PassesOwn.never fl_lines
theorem sc_Hall_empty : FnScope N_Hall_empty ["cls", "lengths"] (defScope s_Hall_empty) := ⟨rfl, rfl, rfl, by decide +kernel, rfl, by decide +kernel, by decide +kernel⟩
theorem ok_Hall_empty {f : Addr} {fd : FuncData} (F : Fun K "empty" "Hall.empty" s_Hall_empty f fd) {f_is_integer : Addr} (G_is_integer : FnR P w K mg base CX0 1 f_is_integer (spP ⟨P, w, K⟩ F_is_integer)) (g_is_integer : mg "is_integer" = some (.ref f_is_integer)) (k_is_integer : PySem.W.keepIn K (.ref f_is_integer) = true) (m_all : mg "all" = none) (MKL : MakLR P w K mg base 3 [("Hall", F_Hall_init), ("LenientHall", F_Hall_init)]) : FnR P w K mg base CX0 4 f (spP ⟨P, w, K⟩ F_Hall_empty) :=
  fn_okS (ps := ["cls"]) (pv := "lengths") F sc_Hall_empty (fun kV doc pm an cdv ct => StX.bind_star1 (B := fun us => bindArgs (PySem.W.fnOf "empty" "Hall.empty" (defArgs s_Hall_empty) (defBody s_Hall_empty) (defScope s_Hall_empty) .none kV doc pm an cdv ct) ⟨us, []⟩) (fun _  => rfl) (fun _  _ _ => rfl)) fun cdv A outer s H E hr => der_Hall_empty rfl rfl sc_Hall_empty.nd rfl (room_hu hr) (fun _ => rfl) PassesOwn.never ⟨⟨1, f_is_integer, G_is_integer, hr.mono (by decide), g_is_integer, k_is_integer⟩⟩ m_all (MKL.ok hr)
theorem sc_Hall_marks : FnScope N_Hall_marks ["self"] (defScope s_Hall_marks) := ⟨rfl, rfl, rfl, by decide +kernel, rfl, by decide +kernel, by decide +kernel⟩
theorem ok_Hall_marks {f : Addr} {fd : FuncData} (F : Fun K "marks" "Hall.marks" s_Hall_marks f fd) (fl_book_list : FldR K ["Hall", "LenientHall"] "book_list") (fl_lines : FldR K ["Hall", "LenientHall"] "lines") : FnOk P w K mg base CX0 1 f fd ["self"] (spP ⟨P, w, K⟩ F_Hall_marks) :=
  fn_ok F sc_Hall_marks fun cdv A outer s H E hr => der_Hall_marks rfl rfl sc_Hall_marks.nd rfl (room_hu hr) (fun _ => rfl) PassesOwn.never fl_book_list fl_lines
theorem sc_Hall_kind : FnScope N_Hall_kind ["self"] (defScope s_Hall_kind) := ⟨rfl, rfl, rfl, by decide +kernel, rfl, by decide +kernel, by decide +kernel⟩
theorem ok_Hall_kind {f : Addr} {fd : FuncData} (F : Fun K "kind" "Hall.kind" s_Hall_kind f fd) : FnOk P w K mg base CX0 1 f fd ["self"] (spP ⟨P, w, K⟩ F_Hall_kind) :=
  fn_ok F sc_Hall_kind fun cdv A outer s H E hr => der_Hall_kind rfl rfl sc_Hall_kind.nd rfl (room_hu hr) (fun _ => rfl) PassesOwn.never 
theorem sc_LenientHall_kind : FnScope N_LenientHall_kind ["self"] (defScope s_LenientHall_kind) := ⟨rfl, rfl, rfl, by decide +kernel, rfl, by decide +kernel, by decide +kernel⟩
theorem ok_LenientHall_kind {f : Addr} {fd : FuncData} (F : Fun K "kind" "LenientHall.kind" s_LenientHall_kind f fd) : FnOk P w K mg base CX0 1 f fd ["self"] (spP ⟨P, w, K⟩ F_LenientHall_kind) :=
  fn_ok F sc_LenientHall_kind fun cdv A outer s H E hr => der_LenientHall_kind rfl rfl sc_LenientHall_kind.nd rfl (room_hu hr) (fun _ => rfl) PassesOwn.never 
theorem sc_Hall_eq : FnScope N_Hall_eq ["self", "other"] (defScope s_Hall_eq) := ⟨rfl, rfl, rfl, by decide +kernel, rfl, by decide +kernel, by decide +kernel⟩
theorem ok_Hall_eq {f : Addr} {fd : FuncData} (F : Fun K "__eq__" "Hall.__eq__" s_Hall_eq f fd) (m_isinstance : mg "isinstance" = none) (M_kind : MetR P w K mg base 1 [("Hall", F_Hall_kind), ("LenientHall", F_LenientHall_kind)] "kind") (M_marks : MetR P w K mg base 1 [("Hall", F_Hall_marks), ("LenientHall", F_Hall_marks)] "marks") (IC_Hall : IsCR K mg "Hall" [("Hall", true), ("LenientHall", true)]) : FnOk P w K mg base CX0 2 f fd ["self", "other"] (spP ⟨P, w, K⟩ F_Hall_eq) :=
  fn_ok F sc_Hall_eq fun cdv A outer s H E hr => der_Hall_eq rfl rfl sc_Hall_eq.nd rfl (room_hu hr) (fun _ => rfl) PassesOwn.never m_isinstance (M_kind.ok hr) (M_marks.ok hr) (IC_Hall.ok)
theorem sc_law_same_bookings : FnScope N_law_same_bookings ["long"] (defScope s_law_same_bookings) := ⟨rfl, rfl, rfl, by decide +kernel, rfl, by decide +kernel, by decide +kernel⟩
theorem ok_law_same_bookings {f : Addr} {fd : FuncData} (F : Fun K "_law_same_bookings" "_law_same_bookings" s_law_same_bookings f fd) (M_attempt : MetR P w K mg base 5 [("Hall", F_Hall_attempt), ("LenientHall", F_Hall_attempt)] "attempt") (M_book : MetR P w K mg base 5 [("Hall", F_Hall_book), ("LenientHall", F_Hall_book)] "book") (M_cancel : MetR P w K mg base 5 [("Hall", F_Hall_cancel), ("LenientHall", F_Hall_cancel)] "cancel") (M_undo : MetR P w K mg base 5 [("Hall", F_Hall_undo), ("LenientHall", F_Hall_undo)] "undo") (P_rows : PropR P w K mg base 5 [("Hall", F_Hall_rows), ("LenientHall", F_Hall_rows)] "rows") (CM_Hall_empty : CMR P w K mg base 5 "Hall" "empty" F_Hall_empty) (EQ : EqR P w K mg base 5 [("Hall", F_Hall_eq), ("LenientHall", F_Hall_eq)] [("LenientHall", "Hall")]) : FnOk P w K mg base CX0 6 f fd ["long"] (spP ⟨P, w, K⟩ F_law_same_bookings) :=
  fn_ok F sc_law_same_bookings fun cdv A outer s H E hr => der_law_same_bookings rfl rfl sc_law_same_bookings.nd rfl (room_hu hr) (fun _ => rfl) PassesOwn.never (M_attempt.ok hr) (M_book.ok hr) (M_cancel.ok hr) (M_undo.ok hr) (P_rows.ok hr) (CM_Hall_empty.ok hr) (EQ.ok hr)
theorem sc_law : FnScope N_law ["script"] (defScope s_law) := ⟨rfl, rfl, rfl, by decide +kernel, rfl, by decide +kernel, by decide +kernel⟩
theorem ok_law {f : Addr} {fd : FuncData} (F : Fun K "law" "law" s_law f fd) {f__law_any_value : Addr} (G__law_any_value : FnR P w K mg base CX0 9 f__law_any_value (spP ⟨P, w, K⟩ F_law_any_value)) (g__law_any_value : mg "_law_any_value" = some (.ref f__law_any_value)) (k__law_any_value : PySem.W.keepIn K (.ref f__law_any_value) = true) {f__law_digits : Addr} (G__law_digits : FnR P w K mg base CX0 2 f__law_digits (spP ⟨P, w, K⟩ F_law_digits)) (g__law_digits : mg "_law_digits" = some (.ref f__law_digits)) (k__law_digits : PySem.W.keepIn K (.ref f__law_digits) = true) {f__law_made : Addr} (G__law_made : FnR P w K mg base CX0 4 f__law_made (spP ⟨P, w, K⟩ F_law_made)) (g__law_made : mg "_law_made" = some (.ref f__law_made)) (k__law_made : PySem.W.keepIn K (.ref f__law_made) = true) {f__law_row : Addr} (G__law_row : FnR P w K mg base CX0 1 f__law_row (spP ⟨P, w, K⟩ F_law_row)) (g__law_row : mg "_law_row" = some (.ref f__law_row)) (k__law_row : PySem.W.keepIn K (.ref f__law_row) = true) {f__law_same_bookings : Addr} (G__law_same_bookings : FnR P w K mg base CX0 6 f__law_same_bookings (spP ⟨P, w, K⟩ F_law_same_bookings)) (g__law_same_bookings : mg "_law_same_bookings" = some (.ref f__law_same_bookings)) (k__law_same_bookings : PySem.W.keepIn K (.ref f__law_same_bookings) = true) (m_enumerate : mg "enumerate" = none) (m_range : mg "range" = none) (M_book : MetR P w K mg base 9 [("Hall", F_Hall_book), ("LenientHall", F_Hall_book)] "book") (M_cancel : MetR P w K mg base 9 [("Hall", F_Hall_cancel), ("LenientHall", F_Hall_cancel)] "cancel") (P_rows : PropR P w K mg base 9 [("Hall", F_Hall_rows), ("LenientHall", F_Hall_rows)] "rows") (MK_Hall : MakR P w K mg base 9 "Hall" F_Hall_init) (EQ : EqR P w K mg base 9 [("Hall", F_Hall_eq), ("LenientHall", F_Hall_eq)] [("LenientHall", "Hall")]) : FnOk P w K mg base CX0 10 f fd ["script"] (spP ⟨P, w, K⟩ F_law) :=
  fn_ok F sc_law fun cdv A outer s H E hr => der_law rfl rfl sc_law.nd rfl (room_hu hr) (fun _ => rfl) PassesOwn.never ⟨⟨9, f__law_any_value, G__law_any_value, hr.mono (by decide), g__law_any_value, k__law_any_value⟩⟩ ⟨⟨2, f__law_digits, G__law_digits, hr.mono (by decide), g__law_digits, k__law_digits⟩⟩ ⟨⟨4, f__law_made, G__law_made, hr.mono (by decide), g__law_made, k__law_made⟩⟩ ⟨⟨1, f__law_row, G__law_row, hr.mono (by decide), g__law_row, k__law_row⟩⟩ ⟨⟨6, f__law_same_bookings, G__law_same_bookings, hr.mono (by decide), g__law_same_bookings, k__law_same_bookings⟩⟩ m_enumerate m_range (M_book.ok hr) (M_cancel.ok hr) (P_rows.ok hr) (MK_Hall.ok hr) (EQ.ok hr)
end
theorem all_mk {l : PySem.W.OpenLaw} {w : World} {K : PySem.W.Frag} {h : Heap} {mg : Str → Option Value} {fa : Addr} (X : K.In h) (G : h.Ns mainGlobals mg) (hfa : mg "law" = some (.ref fa))
    {C_Hall : Addr}
    (aC_Hall : PySem.W.nsIn K mainGlobals "Hall" = some (some (.ref C_Hall)))
    (pg_Hall : PySem.W.plainGet K C_Hall Str.empty = true)
    (hd_Hall : PySem.W.hasDictIn K C_Hall = true)
    (po_Hall : PySem.W.plainOver K C_Hall = true)
    (sa_Hall : PySem.W.findIn K (.ref C_Hall) "__setattr__" = some (some (.builtin "object.__setattr__")))
    (mk_Hall : PySem.W.makesIn K C_Hall = true)
    (kc_Hall : PySem.W.keepIn K (.ref C_Hall) = true)
    (nf_Hall_book_list : PySem.W.findIn K (.ref C_Hall) "book_list" = some none)
    (nf_Hall_earlier : PySem.W.findIn K (.ref C_Hall) "earlier" = some none)
    (nf_Hall_lines : PySem.W.findIn K (.ref C_Hall) "lines" = some none)
    (nf_Hall_next_number : PySem.W.findIn K (.ref C_Hall) "next_number" = some none)
    {C_LenientHall : Addr}
    (aC_LenientHall : PySem.W.nsIn K mainGlobals "LenientHall" = some (some (.ref C_LenientHall)))
    (pg_LenientHall : PySem.W.plainGet K C_LenientHall Str.empty = true)
    (hd_LenientHall : PySem.W.hasDictIn K C_LenientHall = true)
    (po_LenientHall : PySem.W.plainOver K C_LenientHall = true)
    (sa_LenientHall : PySem.W.findIn K (.ref C_LenientHall) "__setattr__" = some (some (.builtin "object.__setattr__")))
    (mk_LenientHall : PySem.W.makesIn K C_LenientHall = true)
    (kc_LenientHall : PySem.W.keepIn K (.ref C_LenientHall) = true)
    (nf_LenientHall_book_list : PySem.W.findIn K (.ref C_LenientHall) "book_list" = some none)
    (nf_LenientHall_earlier : PySem.W.findIn K (.ref C_LenientHall) "earlier" = some none)
    (nf_LenientHall_lines : PySem.W.findIn K (.ref C_LenientHall) "lines" = some none)
    (nf_LenientHall_next_number : PySem.W.findIn K (.ref C_LenientHall) "next_number" = some none)
    {od__law_cell an__law_cell : Option Addr} {sl__law_cell : Array (Option Value)} {oc__law_cell kV__law_cell dc__law_cell pm__law_cell cd__law_cell ct__law_cell : Value} {f__law_cell : Addr}
    (a__law_cell : PySem.W.nsIn K mainGlobals "_law_cell" = some (some (.ref f__law_cell)))
    (l__law_cell : K.lookup f__law_cell = some ⟨oc__law_cell, od__law_cell, .func (PySem.W.fnOf "_law_cell" "_law_cell" (defArgs s_law_cell) (defBody s_law_cell) (defScope s_law_cell) .none kV__law_cell dc__law_cell pm__law_cell an__law_cell cd__law_cell ct__law_cell), sl__law_cell⟩)
    (c__law_cell : PySem.W.codeIn K cd__law_cell "_law_cell" = true)
    (k__law_cell : PySem.W.keepIn K (.ref f__law_cell) = true)
    {od__law_digits an__law_digits : Option Addr} {sl__law_digits : Array (Option Value)} {oc__law_digits kV__law_digits dc__law_digits pm__law_digits cd__law_digits ct__law_digits : Value} {f__law_digits : Addr}
    (a__law_digits : PySem.W.nsIn K mainGlobals "_law_digits" = some (some (.ref f__law_digits)))
    (l__law_digits : K.lookup f__law_digits = some ⟨oc__law_digits, od__law_digits, .func (PySem.W.fnOf "_law_digits" "_law_digits" (defArgs s_law_digits) (defBody s_law_digits) (defScope s_law_digits) .none kV__law_digits dc__law_digits pm__law_digits an__law_digits cd__law_digits ct__law_digits), sl__law_digits⟩)
    (c__law_digits : PySem.W.codeIn K cd__law_digits "_law_digits" = true)
    (k__law_digits : PySem.W.keepIn K (.ref f__law_digits) = true)
    {od__law_row an__law_row : Option Addr} {sl__law_row : Array (Option Value)} {oc__law_row kV__law_row dc__law_row pm__law_row cd__law_row ct__law_row : Value} {f__law_row : Addr}
    (a__law_row : PySem.W.nsIn K mainGlobals "_law_row" = some (some (.ref f__law_row)))
    (l__law_row : K.lookup f__law_row = some ⟨oc__law_row, od__law_row, .func (PySem.W.fnOf "_law_row" "_law_row" (defArgs s_law_row) (defBody s_law_row) (defScope s_law_row) .none kV__law_row dc__law_row pm__law_row an__law_row cd__law_row ct__law_row), sl__law_row⟩)
    (c__law_row : PySem.W.codeIn K cd__law_row "_law_row" = true)
    (k__law_row : PySem.W.keepIn K (.ref f__law_row) = true)
    {od_is_row an_is_row : Option Addr} {sl_is_row : Array (Option Value)} {oc_is_row kV_is_row dc_is_row pm_is_row cd_is_row ct_is_row : Value} {f_is_row : Addr}
    (a_is_row : PySem.W.nsIn K mainGlobals "is_row" = some (some (.ref f_is_row)))
    (l_is_row : K.lookup f_is_row = some ⟨oc_is_row, od_is_row, .func (PySem.W.fnOf "is_row" "is_row" (defArgs s_is_row) (defBody s_is_row) (defScope s_is_row) .none kV_is_row dc_is_row pm_is_row an_is_row cd_is_row ct_is_row), sl_is_row⟩)
    (c_is_row : PySem.W.codeIn K cd_is_row "is_row" = true)
    (k_is_row : PySem.W.keepIn K (.ref f_is_row) = true)
    {od_Hall_init an_Hall_init : Option Addr} {sl_Hall_init : Array (Option Value)} {oc_Hall_init kV_Hall_init dc_Hall_init pm_Hall_init cd_Hall_init ct_Hall_init : Value} {f_Hall_init : Addr}
    (me_Hall_Hall_init : PySem.W.findIn K (.ref C_Hall) "__init__" = some (some (.ref f_Hall_init)))
    (me_LenientHall_Hall_init : PySem.W.findIn K (.ref C_LenientHall) "__init__" = some (some (.ref f_Hall_init)))
    (if_Hall_init : PySem.W.isFn K (.ref f_Hall_init) = true)
    (l_Hall_init : K.lookup f_Hall_init = some ⟨oc_Hall_init, od_Hall_init, .func (PySem.W.fnOf "__init__" "Hall.__init__" (defArgs s_Hall_init) (defBody s_Hall_init) (defScope s_Hall_init) .none kV_Hall_init dc_Hall_init pm_Hall_init an_Hall_init cd_Hall_init ct_Hall_init), sl_Hall_init⟩)
    (c_Hall_init : PySem.W.codeIn K cd_Hall_init "Hall.__init__" = true)
    (k_Hall_init : PySem.W.keepIn K (.ref f_Hall_init) = true)
    {od__law_made an__law_made : Option Addr} {sl__law_made : Array (Option Value)} {oc__law_made kV__law_made dc__law_made pm__law_made cd__law_made ct__law_made : Value} {f__law_made : Addr}
    (a__law_made : PySem.W.nsIn K mainGlobals "_law_made" = some (some (.ref f__law_made)))
    (l__law_made : K.lookup f__law_made = some ⟨oc__law_made, od__law_made, .func (PySem.W.fnOf "_law_made" "_law_made" (defArgs s_law_made) (defBody s_law_made) (defScope s_law_made) .none kV__law_made dc__law_made pm__law_made an__law_made cd__law_made ct__law_made), sl__law_made⟩)
    (c__law_made : PySem.W.codeIn K cd__law_made "_law_made" = true)
    (k__law_made : PySem.W.keepIn K (.ref f__law_made) = true)
    {od__law_any_value an__law_any_value : Option Addr} {sl__law_any_value : Array (Option Value)} {oc__law_any_value kV__law_any_value dc__law_any_value pm__law_any_value cd__law_any_value ct__law_any_value : Value} {f__law_any_value : Addr}
    (a__law_any_value : PySem.W.nsIn K mainGlobals "_law_any_value" = some (some (.ref f__law_any_value)))
    (l__law_any_value : K.lookup f__law_any_value = some ⟨oc__law_any_value, od__law_any_value, .func (PySem.W.fnOf "_law_any_value" "_law_any_value" (defArgs s_law_any_value) (defBody s_law_any_value) (defScope s_law_any_value) .none kV__law_any_value dc__law_any_value pm__law_any_value an__law_any_value cd__law_any_value ct__law_any_value), sl__law_any_value⟩)
    (c__law_any_value : PySem.W.codeIn K cd__law_any_value "_law_any_value" = true)
    (k__law_any_value : PySem.W.keepIn K (.ref f__law_any_value) = true)
    {od_is_integer an_is_integer : Option Addr} {sl_is_integer : Array (Option Value)} {oc_is_integer kV_is_integer dc_is_integer pm_is_integer cd_is_integer ct_is_integer : Value} {f_is_integer : Addr}
    (a_is_integer : PySem.W.nsIn K mainGlobals "is_integer" = some (some (.ref f_is_integer)))
    (l_is_integer : K.lookup f_is_integer = some ⟨oc_is_integer, od_is_integer, .func (PySem.W.fnOf "is_integer" "is_integer" (defArgs s_is_integer) (defBody s_is_integer) (defScope s_is_integer) .none kV_is_integer dc_is_integer pm_is_integer an_is_integer cd_is_integer ct_is_integer), sl_is_integer⟩)
    (c_is_integer : PySem.W.codeIn K cd_is_integer "is_integer" = true)
    (k_is_integer : PySem.W.keepIn K (.ref f_is_integer) = true)
    {od_is_booking an_is_booking : Option Addr} {sl_is_booking : Array (Option Value)} {oc_is_booking kV_is_booking dc_is_booking pm_is_booking cd_is_booking ct_is_booking : Value} {f_is_booking : Addr}
    (a_is_booking : PySem.W.nsIn K mainGlobals "is_booking" = some (some (.ref f_is_booking)))
    (l_is_booking : K.lookup f_is_booking = some ⟨oc_is_booking, od_is_booking, .func (PySem.W.fnOf "is_booking" "is_booking" (defArgs s_is_booking) (defBody s_is_booking) (defScope s_is_booking) .none kV_is_booking dc_is_booking pm_is_booking an_is_booking cd_is_booking ct_is_booking), sl_is_booking⟩)
    (c_is_booking : PySem.W.codeIn K cd_is_booking "is_booking" = true)
    (k_is_booking : PySem.W.keepIn K (.ref f_is_booking) = true)
    {od_is_free an_is_free : Option Addr} {sl_is_free : Array (Option Value)} {oc_is_free kV_is_free dc_is_free pm_is_free cd_is_free ct_is_free : Value} {f_is_free : Addr}
    (a_is_free : PySem.W.nsIn K mainGlobals "is_free" = some (some (.ref f_is_free)))
    (l_is_free : K.lookup f_is_free = some ⟨oc_is_free, od_is_free, .func (PySem.W.fnOf "is_free" "is_free" (defArgs s_is_free) (defBody s_is_free) (defScope s_is_free) .none kV_is_free dc_is_free pm_is_free an_is_free cd_is_free ct_is_free), sl_is_free⟩)
    (c_is_free : PySem.W.codeIn K cd_is_free "is_free" = true)
    (k_is_free : PySem.W.keepIn K (.ref f_is_free) = true)
    {od_gaps an_gaps : Option Addr} {sl_gaps : Array (Option Value)} {oc_gaps kV_gaps dc_gaps pm_gaps cd_gaps ct_gaps : Value} {f_gaps : Addr}
    (a_gaps : PySem.W.nsIn K mainGlobals "gaps" = some (some (.ref f_gaps)))
    (l_gaps : K.lookup f_gaps = some ⟨oc_gaps, od_gaps, .func (PySem.W.fnOf "gaps" "gaps" (defArgs s_gaps) (defBody s_gaps) (defScope s_gaps) .none kV_gaps dc_gaps pm_gaps an_gaps cd_gaps ct_gaps), sl_gaps⟩)
    (c_gaps : PySem.W.codeIn K cd_gaps "gaps" = true)
    (k_gaps : PySem.W.keepIn K (.ref f_gaps) = true)
    {od_leaves_single an_leaves_single : Option Addr} {sl_leaves_single : Array (Option Value)} {oc_leaves_single kV_leaves_single dc_leaves_single pm_leaves_single cd_leaves_single ct_leaves_single : Value} {f_leaves_single : Addr}
    (a_leaves_single : PySem.W.nsIn K mainGlobals "leaves_single" = some (some (.ref f_leaves_single)))
    (l_leaves_single : K.lookup f_leaves_single = some ⟨oc_leaves_single, od_leaves_single, .func (PySem.W.fnOf "leaves_single" "leaves_single" (defArgs s_leaves_single) (defBody s_leaves_single) (defScope s_leaves_single) .none kV_leaves_single dc_leaves_single pm_leaves_single an_leaves_single cd_leaves_single ct_leaves_single), sl_leaves_single⟩)
    (c_leaves_single : PySem.W.codeIn K cd_leaves_single "leaves_single" = true)
    (k_leaves_single : PySem.W.keepIn K (.ref f_leaves_single) = true)
    {od_Hall_refuses an_Hall_refuses : Option Addr} {sl_Hall_refuses : Array (Option Value)} {oc_Hall_refuses kV_Hall_refuses dc_Hall_refuses pm_Hall_refuses cd_Hall_refuses ct_Hall_refuses : Value} {f_Hall_refuses : Addr}
    (me_Hall_Hall_refuses : PySem.W.findIn K (.ref C_Hall) "refuses" = some (some (.ref f_Hall_refuses)))
    (if_Hall_refuses : PySem.W.isFn K (.ref f_Hall_refuses) = true)
    (l_Hall_refuses : K.lookup f_Hall_refuses = some ⟨oc_Hall_refuses, od_Hall_refuses, .func (PySem.W.fnOf "refuses" "Hall.refuses" (defArgs s_Hall_refuses) (defBody s_Hall_refuses) (defScope s_Hall_refuses) .none kV_Hall_refuses dc_Hall_refuses pm_Hall_refuses an_Hall_refuses cd_Hall_refuses ct_Hall_refuses), sl_Hall_refuses⟩)
    (c_Hall_refuses : PySem.W.codeIn K cd_Hall_refuses "Hall.refuses" = true)
    (k_Hall_refuses : PySem.W.keepIn K (.ref f_Hall_refuses) = true)
    {od_Hall_check an_Hall_check : Option Addr} {sl_Hall_check : Array (Option Value)} {oc_Hall_check kV_Hall_check dc_Hall_check pm_Hall_check cd_Hall_check ct_Hall_check : Value} {f_Hall_check : Addr}
    (me_Hall_Hall_check : PySem.W.findIn K (.ref C_Hall) "check" = some (some (.ref f_Hall_check)))
    (me_LenientHall_Hall_check : PySem.W.findIn K (.ref C_LenientHall) "check" = some (some (.ref f_Hall_check)))
    (if_Hall_check : PySem.W.isFn K (.ref f_Hall_check) = true)
    (l_Hall_check : K.lookup f_Hall_check = some ⟨oc_Hall_check, od_Hall_check, .func (PySem.W.fnOf "check" "Hall.check" (defArgs s_Hall_check) (defBody s_Hall_check) (defScope s_Hall_check) .none kV_Hall_check dc_Hall_check pm_Hall_check an_Hall_check cd_Hall_check ct_Hall_check), sl_Hall_check⟩)
    (c_Hall_check : PySem.W.codeIn K cd_Hall_check "Hall.check" = true)
    (k_Hall_check : PySem.W.keepIn K (.ref f_Hall_check) = true)
    {od_taken an_taken : Option Addr} {sl_taken : Array (Option Value)} {oc_taken kV_taken dc_taken pm_taken cd_taken ct_taken : Value} {f_taken : Addr}
    (a_taken : PySem.W.nsIn K mainGlobals "taken" = some (some (.ref f_taken)))
    (l_taken : K.lookup f_taken = some ⟨oc_taken, od_taken, .func (PySem.W.fnOf "taken" "taken" (defArgs s_taken) (defBody s_taken) (defScope s_taken) .none kV_taken dc_taken pm_taken an_taken cd_taken ct_taken), sl_taken⟩)
    (c_taken : PySem.W.codeIn K cd_taken "taken" = true)
    (k_taken : PySem.W.keepIn K (.ref f_taken) = true)
    {od_Hall_put an_Hall_put : Option Addr} {sl_Hall_put : Array (Option Value)} {oc_Hall_put kV_Hall_put dc_Hall_put pm_Hall_put cd_Hall_put ct_Hall_put : Value} {f_Hall_put : Addr}
    (me_Hall_Hall_put : PySem.W.findIn K (.ref C_Hall) "put" = some (some (.ref f_Hall_put)))
    (me_LenientHall_Hall_put : PySem.W.findIn K (.ref C_LenientHall) "put" = some (some (.ref f_Hall_put)))
    (if_Hall_put : PySem.W.isFn K (.ref f_Hall_put) = true)
    (l_Hall_put : K.lookup f_Hall_put = some ⟨oc_Hall_put, od_Hall_put, .func (PySem.W.fnOf "put" "Hall.put" (defArgs s_Hall_put) (defBody s_Hall_put) (defScope s_Hall_put) .none kV_Hall_put dc_Hall_put pm_Hall_put an_Hall_put cd_Hall_put ct_Hall_put), sl_Hall_put⟩)
    (c_Hall_put : PySem.W.codeIn K cd_Hall_put "Hall.put" = true)
    (k_Hall_put : PySem.W.keepIn K (.ref f_Hall_put) = true)
    {od_Hall_attempt an_Hall_attempt : Option Addr} {sl_Hall_attempt : Array (Option Value)} {oc_Hall_attempt kV_Hall_attempt dc_Hall_attempt pm_Hall_attempt cd_Hall_attempt ct_Hall_attempt : Value} {f_Hall_attempt : Addr}
    (me_Hall_Hall_attempt : PySem.W.findIn K (.ref C_Hall) "attempt" = some (some (.ref f_Hall_attempt)))
    (me_LenientHall_Hall_attempt : PySem.W.findIn K (.ref C_LenientHall) "attempt" = some (some (.ref f_Hall_attempt)))
    (if_Hall_attempt : PySem.W.isFn K (.ref f_Hall_attempt) = true)
    (l_Hall_attempt : K.lookup f_Hall_attempt = some ⟨oc_Hall_attempt, od_Hall_attempt, .func (PySem.W.fnOf "attempt" "Hall.attempt" (defArgs s_Hall_attempt) (defBody s_Hall_attempt) (defScope s_Hall_attempt) .none kV_Hall_attempt dc_Hall_attempt pm_Hall_attempt an_Hall_attempt cd_Hall_attempt ct_Hall_attempt), sl_Hall_attempt⟩)
    (c_Hall_attempt : PySem.W.codeIn K cd_Hall_attempt "Hall.attempt" = true)
    (k_Hall_attempt : PySem.W.keepIn K (.ref f_Hall_attempt) = true)
    {od_Hall_keep an_Hall_keep : Option Addr} {sl_Hall_keep : Array (Option Value)} {oc_Hall_keep kV_Hall_keep dc_Hall_keep pm_Hall_keep cd_Hall_keep ct_Hall_keep : Value} {f_Hall_keep : Addr}
    (me_Hall_Hall_keep : PySem.W.findIn K (.ref C_Hall) "keep" = some (some (.ref f_Hall_keep)))
    (me_LenientHall_Hall_keep : PySem.W.findIn K (.ref C_LenientHall) "keep" = some (some (.ref f_Hall_keep)))
    (if_Hall_keep : PySem.W.isFn K (.ref f_Hall_keep) = true)
    (l_Hall_keep : K.lookup f_Hall_keep = some ⟨oc_Hall_keep, od_Hall_keep, .func (PySem.W.fnOf "keep" "Hall.keep" (defArgs s_Hall_keep) (defBody s_Hall_keep) (defScope s_Hall_keep) .none kV_Hall_keep dc_Hall_keep pm_Hall_keep an_Hall_keep cd_Hall_keep ct_Hall_keep), sl_Hall_keep⟩)
    (c_Hall_keep : PySem.W.codeIn K cd_Hall_keep "Hall.keep" = true)
    (k_Hall_keep : PySem.W.keepIn K (.ref f_Hall_keep) = true)
    {od_Hall_book an_Hall_book : Option Addr} {sl_Hall_book : Array (Option Value)} {oc_Hall_book kV_Hall_book dc_Hall_book pm_Hall_book cd_Hall_book ct_Hall_book : Value} {f_Hall_book : Addr}
    (me_Hall_Hall_book : PySem.W.findIn K (.ref C_Hall) "book" = some (some (.ref f_Hall_book)))
    (me_LenientHall_Hall_book : PySem.W.findIn K (.ref C_LenientHall) "book" = some (some (.ref f_Hall_book)))
    (if_Hall_book : PySem.W.isFn K (.ref f_Hall_book) = true)
    (l_Hall_book : K.lookup f_Hall_book = some ⟨oc_Hall_book, od_Hall_book, .func (PySem.W.fnOf "book" "Hall.book" (defArgs s_Hall_book) (defBody s_Hall_book) (defScope s_Hall_book) .none kV_Hall_book dc_Hall_book pm_Hall_book an_Hall_book cd_Hall_book ct_Hall_book), sl_Hall_book⟩)
    (c_Hall_book : PySem.W.codeIn K cd_Hall_book "Hall.book" = true)
    (k_Hall_book : PySem.W.keepIn K (.ref f_Hall_book) = true)
    {od_Hall_cancel an_Hall_cancel : Option Addr} {sl_Hall_cancel : Array (Option Value)} {oc_Hall_cancel kV_Hall_cancel dc_Hall_cancel pm_Hall_cancel cd_Hall_cancel ct_Hall_cancel : Value} {f_Hall_cancel : Addr}
    (me_Hall_Hall_cancel : PySem.W.findIn K (.ref C_Hall) "cancel" = some (some (.ref f_Hall_cancel)))
    (me_LenientHall_Hall_cancel : PySem.W.findIn K (.ref C_LenientHall) "cancel" = some (some (.ref f_Hall_cancel)))
    (if_Hall_cancel : PySem.W.isFn K (.ref f_Hall_cancel) = true)
    (l_Hall_cancel : K.lookup f_Hall_cancel = some ⟨oc_Hall_cancel, od_Hall_cancel, .func (PySem.W.fnOf "cancel" "Hall.cancel" (defArgs s_Hall_cancel) (defBody s_Hall_cancel) (defScope s_Hall_cancel) .none kV_Hall_cancel dc_Hall_cancel pm_Hall_cancel an_Hall_cancel cd_Hall_cancel ct_Hall_cancel), sl_Hall_cancel⟩)
    (c_Hall_cancel : PySem.W.codeIn K cd_Hall_cancel "Hall.cancel" = true)
    (k_Hall_cancel : PySem.W.keepIn K (.ref f_Hall_cancel) = true)
    {od_Hall_undo an_Hall_undo : Option Addr} {sl_Hall_undo : Array (Option Value)} {oc_Hall_undo kV_Hall_undo dc_Hall_undo pm_Hall_undo cd_Hall_undo ct_Hall_undo : Value} {f_Hall_undo : Addr}
    (me_Hall_Hall_undo : PySem.W.findIn K (.ref C_Hall) "undo" = some (some (.ref f_Hall_undo)))
    (me_LenientHall_Hall_undo : PySem.W.findIn K (.ref C_LenientHall) "undo" = some (some (.ref f_Hall_undo)))
    (if_Hall_undo : PySem.W.isFn K (.ref f_Hall_undo) = true)
    (l_Hall_undo : K.lookup f_Hall_undo = some ⟨oc_Hall_undo, od_Hall_undo, .func (PySem.W.fnOf "undo" "Hall.undo" (defArgs s_Hall_undo) (defBody s_Hall_undo) (defScope s_Hall_undo) .none kV_Hall_undo dc_Hall_undo pm_Hall_undo an_Hall_undo cd_Hall_undo ct_Hall_undo), sl_Hall_undo⟩)
    (c_Hall_undo : PySem.W.codeIn K cd_Hall_undo "Hall.undo" = true)
    (k_Hall_undo : PySem.W.keepIn K (.ref f_Hall_undo) = true)
    {od_Hall_rows an_Hall_rows : Option Addr} {sl_Hall_rows : Array (Option Value)} {oc_Hall_rows kV_Hall_rows dc_Hall_rows pm_Hall_rows cd_Hall_rows ct_Hall_rows : Value} {f_Hall_rows : Addr}
    {p_Hall_rows : Addr} {rs_Hall_rows : List Value}
    (me_Hall_Hall_rows : PySem.W.findIn K (.ref C_Hall) "rows" = some (some (.ref p_Hall_rows)))
    (me_LenientHall_Hall_rows : PySem.W.findIn K (.ref C_LenientHall) "rows" = some (some (.ref p_Hall_rows)))
    (pget_Hall_rows : PySem.W.specialIn K (.ref p_Hall_rows) "__get__" = some (some (.builtin "property.__get__")))
    (ptak_Hall_rows : PySem.W.takesIn K (.ref p_Hall_rows) = some true)
    (prec_Hall_rows : PySem.W.recIn K p_Hall_rows "property" = some (.ref f_Hall_rows :: rs_Hall_rows))
    (l_Hall_rows : K.lookup f_Hall_rows = some ⟨oc_Hall_rows, od_Hall_rows, .func (PySem.W.fnOf "rows" "Hall.rows" (defArgs s_Hall_rows) (defBody s_Hall_rows) (defScope s_Hall_rows) .none kV_Hall_rows dc_Hall_rows pm_Hall_rows an_Hall_rows cd_Hall_rows ct_Hall_rows), sl_Hall_rows⟩)
    (c_Hall_rows : PySem.W.codeIn K cd_Hall_rows "Hall.rows" = true)
    (k_Hall_rows : PySem.W.keepIn K (.ref f_Hall_rows) = true)
    {od_Hall_empty an_Hall_empty : Option Addr} {sl_Hall_empty : Array (Option Value)} {oc_Hall_empty kV_Hall_empty dc_Hall_empty pm_Hall_empty cd_Hall_empty ct_Hall_empty : Value} {f_Hall_empty : Addr}
    {p_Hall_empty : Addr} {rs_Hall_empty : List Value}
    (fc_Hall_Hall_empty : PySem.W.findCls K (.ref C_Hall) (.type "type") "empty" = some (.get (.builtin "classmethod.__get__") (.ref p_Hall_empty) .none (.ref C_Hall)))
    (crec_Hall_empty : PySem.W.recIn K p_Hall_empty "classmethod" = some (.ref f_Hall_empty :: rs_Hall_empty))
    (cfn_Hall_empty : PySem.W.fnIn K f_Hall_empty = true)
    (l_Hall_empty : K.lookup f_Hall_empty = some ⟨oc_Hall_empty, od_Hall_empty, .func (PySem.W.fnOf "empty" "Hall.empty" (defArgs s_Hall_empty) (defBody s_Hall_empty) (defScope s_Hall_empty) .none kV_Hall_empty dc_Hall_empty pm_Hall_empty an_Hall_empty cd_Hall_empty ct_Hall_empty), sl_Hall_empty⟩)
    (c_Hall_empty : PySem.W.codeIn K cd_Hall_empty "Hall.empty" = true)
    (k_Hall_empty : PySem.W.keepIn K (.ref f_Hall_empty) = true)
    {od_Hall_marks an_Hall_marks : Option Addr} {sl_Hall_marks : Array (Option Value)} {oc_Hall_marks kV_Hall_marks dc_Hall_marks pm_Hall_marks cd_Hall_marks ct_Hall_marks : Value} {f_Hall_marks : Addr}
    (me_Hall_Hall_marks : PySem.W.findIn K (.ref C_Hall) "marks" = some (some (.ref f_Hall_marks)))
    (me_LenientHall_Hall_marks : PySem.W.findIn K (.ref C_LenientHall) "marks" = some (some (.ref f_Hall_marks)))
    (if_Hall_marks : PySem.W.isFn K (.ref f_Hall_marks) = true)
    (l_Hall_marks : K.lookup f_Hall_marks = some ⟨oc_Hall_marks, od_Hall_marks, .func (PySem.W.fnOf "marks" "Hall.marks" (defArgs s_Hall_marks) (defBody s_Hall_marks) (defScope s_Hall_marks) .none kV_Hall_marks dc_Hall_marks pm_Hall_marks an_Hall_marks cd_Hall_marks ct_Hall_marks), sl_Hall_marks⟩)
    (c_Hall_marks : PySem.W.codeIn K cd_Hall_marks "Hall.marks" = true)
    (k_Hall_marks : PySem.W.keepIn K (.ref f_Hall_marks) = true)
    {od_Hall_kind an_Hall_kind : Option Addr} {sl_Hall_kind : Array (Option Value)} {oc_Hall_kind kV_Hall_kind dc_Hall_kind pm_Hall_kind cd_Hall_kind ct_Hall_kind : Value} {f_Hall_kind : Addr}
    (me_Hall_Hall_kind : PySem.W.findIn K (.ref C_Hall) "kind" = some (some (.ref f_Hall_kind)))
    (if_Hall_kind : PySem.W.isFn K (.ref f_Hall_kind) = true)
    (l_Hall_kind : K.lookup f_Hall_kind = some ⟨oc_Hall_kind, od_Hall_kind, .func (PySem.W.fnOf "kind" "Hall.kind" (defArgs s_Hall_kind) (defBody s_Hall_kind) (defScope s_Hall_kind) .none kV_Hall_kind dc_Hall_kind pm_Hall_kind an_Hall_kind cd_Hall_kind ct_Hall_kind), sl_Hall_kind⟩)
    (c_Hall_kind : PySem.W.codeIn K cd_Hall_kind "Hall.kind" = true)
    (k_Hall_kind : PySem.W.keepIn K (.ref f_Hall_kind) = true)
    {od_LenientHall_kind an_LenientHall_kind : Option Addr} {sl_LenientHall_kind : Array (Option Value)} {oc_LenientHall_kind kV_LenientHall_kind dc_LenientHall_kind pm_LenientHall_kind cd_LenientHall_kind ct_LenientHall_kind : Value} {f_LenientHall_kind : Addr}
    (me_LenientHall_LenientHall_kind : PySem.W.findIn K (.ref C_LenientHall) "kind" = some (some (.ref f_LenientHall_kind)))
    (if_LenientHall_kind : PySem.W.isFn K (.ref f_LenientHall_kind) = true)
    (l_LenientHall_kind : K.lookup f_LenientHall_kind = some ⟨oc_LenientHall_kind, od_LenientHall_kind, .func (PySem.W.fnOf "kind" "LenientHall.kind" (defArgs s_LenientHall_kind) (defBody s_LenientHall_kind) (defScope s_LenientHall_kind) .none kV_LenientHall_kind dc_LenientHall_kind pm_LenientHall_kind an_LenientHall_kind cd_LenientHall_kind ct_LenientHall_kind), sl_LenientHall_kind⟩)
    (c_LenientHall_kind : PySem.W.codeIn K cd_LenientHall_kind "LenientHall.kind" = true)
    (k_LenientHall_kind : PySem.W.keepIn K (.ref f_LenientHall_kind) = true)
    {od_Hall_eq an_Hall_eq : Option Addr} {sl_Hall_eq : Array (Option Value)} {oc_Hall_eq kV_Hall_eq dc_Hall_eq pm_Hall_eq cd_Hall_eq ct_Hall_eq : Value} {f_Hall_eq : Addr}
    (me_Hall_Hall_eq : PySem.W.findIn K (.ref C_Hall) "__eq__" = some (some (.ref f_Hall_eq)))
    (me_LenientHall_Hall_eq : PySem.W.findIn K (.ref C_LenientHall) "__eq__" = some (some (.ref f_Hall_eq)))
    (if_Hall_eq : PySem.W.isFn K (.ref f_Hall_eq) = true)
    (l_Hall_eq : K.lookup f_Hall_eq = some ⟨oc_Hall_eq, od_Hall_eq, .func (PySem.W.fnOf "__eq__" "Hall.__eq__" (defArgs s_Hall_eq) (defBody s_Hall_eq) (defScope s_Hall_eq) .none kV_Hall_eq dc_Hall_eq pm_Hall_eq an_Hall_eq cd_Hall_eq ct_Hall_eq), sl_Hall_eq⟩)
    (c_Hall_eq : PySem.W.codeIn K cd_Hall_eq "Hall.__eq__" = true)
    (k_Hall_eq : PySem.W.keepIn K (.ref f_Hall_eq) = true)
    {od__law_same_bookings an__law_same_bookings : Option Addr} {sl__law_same_bookings : Array (Option Value)} {oc__law_same_bookings kV__law_same_bookings dc__law_same_bookings pm__law_same_bookings cd__law_same_bookings ct__law_same_bookings : Value} {f__law_same_bookings : Addr}
    (a__law_same_bookings : PySem.W.nsIn K mainGlobals "_law_same_bookings" = some (some (.ref f__law_same_bookings)))
    (l__law_same_bookings : K.lookup f__law_same_bookings = some ⟨oc__law_same_bookings, od__law_same_bookings, .func (PySem.W.fnOf "_law_same_bookings" "_law_same_bookings" (defArgs s_law_same_bookings) (defBody s_law_same_bookings) (defScope s_law_same_bookings) .none kV__law_same_bookings dc__law_same_bookings pm__law_same_bookings an__law_same_bookings cd__law_same_bookings ct__law_same_bookings), sl__law_same_bookings⟩)
    (c__law_same_bookings : PySem.W.codeIn K cd__law_same_bookings "_law_same_bookings" = true)
    (k__law_same_bookings : PySem.W.keepIn K (.ref f__law_same_bookings) = true)
    {od_law an_law : Option Addr} {sl_law : Array (Option Value)} {oc_law kV_law dc_law pm_law cd_law ct_law : Value} {f_law : Addr}
    (a_law : PySem.W.nsIn K mainGlobals "law" = some (some (.ref f_law)))
    (l_law : K.lookup f_law = some ⟨oc_law, od_law, .func (PySem.W.fnOf "law" "law" (defArgs s_law) (defBody s_law) (defScope s_law) .none kV_law dc_law pm_law an_law cd_law ct_law), sl_law⟩)
    (c_law : PySem.W.codeIn K cd_law "law" = true)
    (k_law : PySem.W.keepIn K (.ref f_law) = true)
    (a_is_row_rows : PySem.W.nsIn K mainGlobals "is_row_rows" = some (some (.ref f_is_row)))
    (rd_Hall : PySem.W.readsIn K C_Hall (.type "type") = true)
    (ga_Hall : PySem.W.specialIn K (.ref C_Hall) "__getattribute__" = some (some (.builtin "type.__getattribute__")))
    {t_Hall_MOST : Tok}
    (cv_Hall_MOST : PySem.W.findCls K (.ref C_Hall) (.type "type") "MOST" = some (.val (.int 10 t_Hall_MOST)))
    (ha_Hall : PySem.W.findIn K (.ref C_Hall) "__class__" = some (some (.builtin "object.__class__")))
    (hm_Hall : PySem.W.mroIn K C_Hall (.type "object") = some true)
    (ha_LenientHall : PySem.W.findIn K (.ref C_LenientHall) "__class__" = some (some (.builtin "object.__class__")))
    (hm_LenientHall : PySem.W.mroIn K C_LenientHall (.type "object") = some true)
    (hn : PySem.W.specialIn K (.builtin "object.__class__") "__get__" = some (some (.builtin "getset_descriptor.__get__")))
    (htk : PySem.W.takesIn K (.builtin "object.__class__") = some true)
    (ki_Hall : PySem.W.isClsIn K C_Hall = true)
    (kj_Hall : PySem.W.typeIn K (.ref C_Hall) = some (.type "type"))
    (kt_Hall_NoneType : PySem.W.subIn K (.type "NoneType") (.ref C_Hall) = some false)
    (kt_Hall_bool : PySem.W.subIn K (.type "bool") (.ref C_Hall) = some false)
    (kt_Hall_int : PySem.W.subIn K (.type "int") (.ref C_Hall) = some false)
    (kt_Hall_str : PySem.W.subIn K (.type "str") (.ref C_Hall) = some false)
    (kt_Hall_tuple : PySem.W.subIn K (.type "tuple") (.ref C_Hall) = some false)
    (kt_Hall_list : PySem.W.subIn K (.type "list") (.ref C_Hall) = some false)
    (kk_Hall_LenientHall : PySem.W.subIn K (.ref C_LenientHall) (.ref C_Hall) = some true)
    (nt_Hall_NoneType : PySem.W.notFirst K C_Hall (.type "NoneType") = true)
    (nt_Hall_bool : PySem.W.notFirst K C_Hall (.type "bool") = true)
    (nt_Hall_int : PySem.W.notFirst K C_Hall (.type "int") = true)
    (nt_Hall_str : PySem.W.notFirst K C_Hall (.type "str") = true)
    (nt_Hall_tuple : PySem.W.notFirst K C_Hall (.type "tuple") = true)
    (nt_Hall_list : PySem.W.notFirst K C_Hall (.type "list") = true)
    (nt_LenientHall_NoneType : PySem.W.notFirst K C_LenientHall (.type "NoneType") = true)
    (nt_LenientHall_bool : PySem.W.notFirst K C_LenientHall (.type "bool") = true)
    (nt_LenientHall_int : PySem.W.notFirst K C_LenientHall (.type "int") = true)
    (nt_LenientHall_str : PySem.W.notFirst K C_LenientHall (.type "str") = true)
    (nt_LenientHall_tuple : PySem.W.notFirst K C_LenientHall (.type "tuple") = true)
    (nt_LenientHall_list : PySem.W.notFirst K C_LenientHall (.type "list") = true)
    (su_LenientHall_Hall : PySem.W.subIn K (.ref C_LenientHall) (.ref C_Hall) = some true)
    (sv_LenientHall_Hall : PySem.W.subIn K (.ref C_Hall) (.ref C_LenientHall) = some false)
    (z_all : PySem.W.nsIn K mainGlobals "all" = some none)
    (z_bool : PySem.W.nsIn K mainGlobals "bool" = some none)
    (z_enumerate : PySem.W.nsIn K mainGlobals "enumerate" = some none)
    (z_int : PySem.W.nsIn K mainGlobals "int" = some none)
    (z_isinstance : PySem.W.nsIn K mainGlobals "isinstance" = some none)
    (z_len : PySem.W.nsIn K mainGlobals "len" = some none)
    (z_range : PySem.W.nsIn K mainGlobals "range" = some none)
    (z_str : PySem.W.nsIn K mainGlobals "str" = some none)
    (z_tuple : PySem.W.nsIn K mainGlobals "tuple" = some none)
    : ∃ fd : FuncData, (∀ (s : Shared) (v : Value), BindsTo s fd ⟨[v], []⟩ [("script", v)]) ∧ ∀ base : Heap, K.In base → base.Ns mainGlobals mg → FnOk l.prog w K mg base CX0 10 fa fd ["script"] (spLaw K) := by
  have e := hfa.symm.trans (PySem.W.mg_of X G a_law)
  cases e
  have hC_Hall : clsA K "Hall" = C_Hall := by unfold clsA; rw [aC_Hall]
  subst hC_Hall
  have cl_Hall : Cls K (clsA K "Hall") := ⟨pg_Hall, hd_Hall, po_Hall, sa_Hall⟩
  have gC_Hall := PySem.W.mg_of X G aC_Hall
  have hC_LenientHall : clsA K "LenientHall" = C_LenientHall := by unfold clsA; rw [aC_LenientHall]
  subst hC_LenientHall
  have cl_LenientHall : Cls K (clsA K "LenientHall") := ⟨pg_LenientHall, hd_LenientHall, po_LenientHall, sa_LenientHall⟩
  have gC_LenientHall := PySem.W.mg_of X G aC_LenientHall
  have F__law_cell := fun_mk (st := s_law_cell) l__law_cell c__law_cell k__law_cell
  have b__law_cell := F__law_cell.binds (ps := ["script", "index"]) fun _ _ _ _ _ _ us hl => match us, hl with | [_, _], _ => rfl
  have g__law_cell := PySem.W.mg_of X G a__law_cell
  have F__law_digits := fun_mk (st := s_law_digits) l__law_digits c__law_digits k__law_digits
  have b__law_digits := F__law_digits.binds (ps := ["script", "index", "count", "base"]) fun _ _ _ _ _ _ us hl => match us, hl with | [_, _, _, _], _ => rfl
  have g__law_digits := PySem.W.mg_of X G a__law_digits
  have F__law_row := fun_mk (st := s_law_row) l__law_row c__law_row k__law_row
  have b__law_row := F__law_row.binds (ps := ["digits", "most"]) fun _ _ _ _ _ _ us hl => match us, hl with | [_, _], _ => rfl
  have g__law_row := PySem.W.mg_of X G a__law_row
  have F_is_row := fun_mk (st := s_is_row) l_is_row c_is_row k_is_row
  have b_is_row := F_is_row.binds (ps := ["value"]) fun _ _ _ _ _ _ us hl => match us, hl with | [_], _ => rfl
  have g_is_row := PySem.W.mg_of X G a_is_row
  have F_Hall_init := fun_mk (st := s_Hall_init) l_Hall_init c_Hall_init k_Hall_init
  have F__law_made := fun_mk (st := s_law_made) l__law_made c__law_made k__law_made
  have b__law_made := F__law_made.binds (ps := ["row"]) fun _ _ _ _ _ _ us hl => match us, hl with | [_], _ => rfl
  have g__law_made := PySem.W.mg_of X G a__law_made
  have F__law_any_value := fun_mk (st := s_law_any_value) l__law_any_value c__law_any_value k__law_any_value
  have b__law_any_value := F__law_any_value.binds (ps := ["digits", "depth"]) fun _ _ _ _ _ _ us hl => match us, hl with | [_, _], _ => rfl
  have g__law_any_value := PySem.W.mg_of X G a__law_any_value
  have F_is_integer := fun_mk (st := s_is_integer) l_is_integer c_is_integer k_is_integer
  have b_is_integer := F_is_integer.binds (ps := ["value", "low", "high"]) fun _ _ _ _ _ _ us hl => match us, hl with | [_, _, _], _ => rfl
  have g_is_integer := PySem.W.mg_of X G a_is_integer
  have F_is_booking := fun_mk (st := s_is_booking) l_is_booking c_is_booking k_is_booking
  have b_is_booking := F_is_booking.binds (ps := ["row", "value"]) fun _ _ _ _ _ _ us hl => match us, hl with | [_, _], _ => rfl
  have g_is_booking := PySem.W.mg_of X G a_is_booking
  have F_is_free := fun_mk (st := s_is_free) l_is_free c_is_free k_is_free
  have b_is_free := F_is_free.binds (ps := ["row", "booking"]) fun _ _ _ _ _ _ us hl => match us, hl with | [_, _], _ => rfl
  have g_is_free := PySem.W.mg_of X G a_is_free
  have F_gaps := fun_mk (st := s_gaps) l_gaps c_gaps k_gaps
  have b_gaps := F_gaps.binds (ps := ["row"]) fun _ _ _ _ _ _ us hl => match us, hl with | [_], _ => rfl
  have g_gaps := PySem.W.mg_of X G a_gaps
  have F_leaves_single := fun_mk (st := s_leaves_single) l_leaves_single c_leaves_single k_leaves_single
  have b_leaves_single := F_leaves_single.binds (ps := ["row", "booking"]) fun _ _ _ _ _ _ us hl => match us, hl with | [_, _], _ => rfl
  have g_leaves_single := PySem.W.mg_of X G a_leaves_single
  have F_Hall_refuses := fun_mk (st := s_Hall_refuses) l_Hall_refuses c_Hall_refuses k_Hall_refuses
  have b_Hall_refuses := F_Hall_refuses.binds (ps := ["self", "row", "booking"]) fun _ _ _ _ _ _ us hl => match us, hl with | [_, _, _], _ => rfl
  have F_Hall_check := fun_mk (st := s_Hall_check) l_Hall_check c_Hall_check k_Hall_check
  have b_Hall_check := F_Hall_check.binds (ps := ["self", "row", "start", "size"]) fun _ _ _ _ _ _ us hl => match us, hl with | [_, _, _, _], _ => rfl
  have F_taken := fun_mk (st := s_taken) l_taken c_taken k_taken
  have b_taken := F_taken.binds (ps := ["row", "booking"]) fun _ _ _ _ _ _ us hl => match us, hl with | [_, _], _ => rfl
  have g_taken := PySem.W.mg_of X G a_taken
  have F_Hall_put := fun_mk (st := s_Hall_put) l_Hall_put c_Hall_put k_Hall_put
  have b_Hall_put := F_Hall_put.binds (ps := ["self", "row", "start", "size"]) fun _ _ _ _ _ _ us hl => match us, hl with | [_, _, _, _], _ => rfl
  have F_Hall_attempt := fun_mk (st := s_Hall_attempt) l_Hall_attempt c_Hall_attempt k_Hall_attempt
  have F_Hall_keep := fun_mk (st := s_Hall_keep) l_Hall_keep c_Hall_keep k_Hall_keep
  have b_Hall_keep := F_Hall_keep.binds (ps := ["self"]) fun _ _ _ _ _ _ us hl => match us, hl with | [_], _ => rfl
  have F_Hall_book := fun_mk (st := s_Hall_book) l_Hall_book c_Hall_book k_Hall_book
  have b_Hall_book := F_Hall_book.binds (ps := ["self", "row", "start", "size"]) fun _ _ _ _ _ _ us hl => match us, hl with | [_, _, _, _], _ => rfl
  have F_Hall_cancel := fun_mk (st := s_Hall_cancel) l_Hall_cancel c_Hall_cancel k_Hall_cancel
  have b_Hall_cancel := F_Hall_cancel.binds (ps := ["self", "number"]) fun _ _ _ _ _ _ us hl => match us, hl with | [_, _], _ => rfl
  have F_Hall_undo := fun_mk (st := s_Hall_undo) l_Hall_undo c_Hall_undo k_Hall_undo
  have b_Hall_undo := F_Hall_undo.binds (ps := ["self"]) fun _ _ _ _ _ _ us hl => match us, hl with | [_], _ => rfl
  have F_Hall_rows := fun_mk (st := s_Hall_rows) l_Hall_rows c_Hall_rows k_Hall_rows
  have b_Hall_rows := F_Hall_rows.binds (ps := ["self"]) fun _ _ _ _ _ _ us hl => match us, hl with | [_], _ => rfl
  have F_Hall_empty := fun_mk (st := s_Hall_empty) l_Hall_empty c_Hall_empty k_Hall_empty
  have F_Hall_marks := fun_mk (st := s_Hall_marks) l_Hall_marks c_Hall_marks k_Hall_marks
  have b_Hall_marks := F_Hall_marks.binds (ps := ["self"]) fun _ _ _ _ _ _ us hl => match us, hl with | [_], _ => rfl
  have F_Hall_kind := fun_mk (st := s_Hall_kind) l_Hall_kind c_Hall_kind k_Hall_kind
  have b_Hall_kind := F_Hall_kind.binds (ps := ["self"]) fun _ _ _ _ _ _ us hl => match us, hl with | [_], _ => rfl
  have F_LenientHall_kind := fun_mk (st := s_LenientHall_kind) l_LenientHall_kind c_LenientHall_kind k_LenientHall_kind
  have b_LenientHall_kind := F_LenientHall_kind.binds (ps := ["self"]) fun _ _ _ _ _ _ us hl => match us, hl with | [_], _ => rfl
  have F_Hall_eq := fun_mk (st := s_Hall_eq) l_Hall_eq c_Hall_eq k_Hall_eq
  have b_Hall_eq := F_Hall_eq.binds (ps := ["self", "other"]) fun _ _ _ _ _ _ us hl => match us, hl with | [_, _], _ => rfl
  have F__law_same_bookings := fun_mk (st := s_law_same_bookings) l__law_same_bookings c__law_same_bookings k__law_same_bookings
  have b__law_same_bookings := F__law_same_bookings.binds (ps := ["long"]) fun _ _ _ _ _ _ us hl => match us, hl with | [_], _ => rfl
  have g__law_same_bookings := PySem.W.mg_of X G a__law_same_bookings
  have F_law := fun_mk (st := s_law) l_law c_law k_law
  have b_law := F_law.binds (ps := ["script"]) fun _ _ _ _ _ _ us hl => match us, hl with | [_], _ => rfl
  have g_law := PySem.W.mg_of X G a_law
  have g_is_row_rows := PySem.W.mg_of X G a_is_row_rows
  have m_all := PySem.W.mg_none_of X G z_all
  have m_bool := PySem.W.mg_none_of X G z_bool
  have m_enumerate := PySem.W.mg_none_of X G z_enumerate
  have m_int := PySem.W.mg_none_of X G z_int
  have m_isinstance := PySem.W.mg_none_of X G z_isinstance
  have m_len := PySem.W.mg_none_of X G z_len
  have m_range := PySem.W.mg_none_of X G z_range
  have m_str := PySem.W.mg_none_of X G z_str
  have m_tuple := PySem.W.mg_none_of X G z_tuple
  have fl_book_list : FldR K ["Hall", "LenientHall"] "book_list" := .cons cl_Hall nf_Hall_book_list (.cons cl_LenientHall nf_LenientHall_book_list (.nil))
  have fl_earlier : FldR K ["Hall", "LenientHall"] "earlier" := .cons cl_Hall nf_Hall_earlier (.cons cl_LenientHall nf_LenientHall_earlier (.nil))
  have fl_lines : FldR K ["Hall", "LenientHall"] "lines" := .cons cl_Hall nf_Hall_lines (.cons cl_LenientHall nf_LenientHall_lines (.nil))
  have fl_next_number : FldR K ["Hall", "LenientHall"] "next_number" := .cons cl_Hall nf_Hall_next_number (.cons cl_LenientHall nf_LenientHall_next_number (.nil))
  have con_Hall_MOST : ConR K mg "Hall" "MOST" 10 := ⟨gC_Hall, .type "type", _, ⟨rd_Hall, ga_Hall⟩, cv_Hall_MOST⟩
  have ins_Hall : C8.InsC K (clsA K "Hall") := ⟨cl_Hall, ha_Hall, hn, htk, hm_Hall, kit_self⟩
  have ins_LenientHall : C8.InsC K (clsA K "LenientHall") := ⟨cl_LenientHall, ha_LenientHall, hn, htk, hm_LenientHall, kit_self⟩
  have IC_Hall : IsCR K mg "Hall" [("Hall", true), ("LenientHall", true)] := ⟨gC_Hall, by simp only [tns, List.all_cons, List.all_nil, kit_one ki_Hall kj_Hall kt_Hall_NoneType (fun z => nomatch z), kit_one ki_Hall kj_Hall kt_Hall_bool (fun z => nomatch z), kit_one ki_Hall kj_Hall kt_Hall_int (fun z => nomatch z), kit_one ki_Hall kj_Hall kt_Hall_str (fun z => nomatch z), kit_one ki_Hall kj_Hall kt_Hall_tuple (fun z => nomatch z), kit_one ki_Hall kj_Hall kt_Hall_list (fun z => nomatch z)]; rfl, look_cons ⟨ins_Hall, kit_self⟩ (look_cons ⟨ins_LenientHall, kit_one ki_Hall kj_Hall kk_Hall_LenientHall (fun _ => rfl)⟩ (look_nil))⟩
  refine ⟨PySem.W.fnOf "law" "law" (defArgs s_law) (defBody s_law) (defScope s_law) .none kV_law dc_law pm_law an_law cd_law ct_law, fun s v => .of_eq rfl, fun base _ _ => ?_⟩
  have G__law_cell := ok_law_cell (P := l.prog) (w := w) (mg := mg) (base := base) F__law_cell m_len
  have R__law_cell := FnOk.toR G__law_cell b__law_cell
  have G__law_digits := ok_law_digits (P := l.prog) (w := w) (mg := mg) (base := base) F__law_digits R__law_cell g__law_cell k__law_cell m_range
  have R__law_digits := FnOk.toR G__law_digits b__law_digits
  have G__law_row := ok_law_row (P := l.prog) (w := w) (mg := mg) (base := base) F__law_row 
  have R__law_row := FnOk.toR G__law_row b__law_row
  have G_is_row := ok_is_row (P := l.prog) (w := w) (mg := mg) (base := base) F_is_row m_all m_isinstance m_len m_str
  have R_is_row := FnOk.toR G_is_row b_is_row
  have R_Hall_init := ok_Hall_init (P := l.prog) (w := w) (mg := mg) (base := base) F_Hall_init R_is_row g_is_row_rows k_is_row m_all m_len fl_book_list fl_earlier fl_lines fl_next_number con_Hall_MOST
  have G__law_made := ok_law_made (P := l.prog) (w := w) (mg := mg) (base := base) F__law_made ⟨⟨_, _, ⟨mk_Hall, me_Hall_Hall_init, if_Hall_init, kc_Hall⟩, R_Hall_init, by decide, gC_Hall⟩⟩ ⟨⟨_, _, ⟨mk_LenientHall, me_LenientHall_Hall_init, if_Hall_init, kc_LenientHall⟩, R_Hall_init, by decide, gC_LenientHall⟩⟩
  have R__law_made := FnOk.toR G__law_made b__law_made
  have Q0__law_any_value := FnOk.toR (fn_bad (P := l.prog) (w := w) (mg := mg) (base := base) (k := 0) F__law_any_value sc_law_any_value) b__law_any_value
  have Q1__law_any_value := FnOk.toR (ok_law_any_value (P := l.prog) (w := w) (mg := mg) (base := base) F__law_any_value m_range m_tuple (n := 1) (by decide) Q0__law_any_value g__law_any_value k__law_any_value) b__law_any_value
  have Q2__law_any_value := FnOk.toR (ok_law_any_value (P := l.prog) (w := w) (mg := mg) (base := base) F__law_any_value m_range m_tuple (n := 2) (by decide) Q1__law_any_value g__law_any_value k__law_any_value) b__law_any_value
  have Q3__law_any_value := FnOk.toR (ok_law_any_value (P := l.prog) (w := w) (mg := mg) (base := base) F__law_any_value m_range m_tuple (n := 3) (by decide) Q2__law_any_value g__law_any_value k__law_any_value) b__law_any_value
  have Q4__law_any_value := FnOk.toR (ok_law_any_value (P := l.prog) (w := w) (mg := mg) (base := base) F__law_any_value m_range m_tuple (n := 4) (by decide) Q3__law_any_value g__law_any_value k__law_any_value) b__law_any_value
  have Q5__law_any_value := FnOk.toR (ok_law_any_value (P := l.prog) (w := w) (mg := mg) (base := base) F__law_any_value m_range m_tuple (n := 5) (by decide) Q4__law_any_value g__law_any_value k__law_any_value) b__law_any_value
  have Q6__law_any_value := FnOk.toR (ok_law_any_value (P := l.prog) (w := w) (mg := mg) (base := base) F__law_any_value m_range m_tuple (n := 6) (by decide) Q5__law_any_value g__law_any_value k__law_any_value) b__law_any_value
  have Q7__law_any_value := FnOk.toR (ok_law_any_value (P := l.prog) (w := w) (mg := mg) (base := base) F__law_any_value m_range m_tuple (n := 7) (by decide) Q6__law_any_value g__law_any_value k__law_any_value) b__law_any_value
  have Q8__law_any_value := FnOk.toR (ok_law_any_value (P := l.prog) (w := w) (mg := mg) (base := base) F__law_any_value m_range m_tuple (n := 8) (by decide) Q7__law_any_value g__law_any_value k__law_any_value) b__law_any_value
  have R__law_any_value : FnR l.prog w K mg base CX0 9 f__law_any_value (spP ⟨l.prog, w, K⟩ F_law_any_value) := Q8__law_any_value
  have G_is_integer := ok_is_integer (P := l.prog) (w := w) (mg := mg) (base := base) F_is_integer m_bool m_int m_isinstance
  have R_is_integer := FnOk.toR G_is_integer b_is_integer
  have G_is_booking := ok_is_booking (P := l.prog) (w := w) (mg := mg) (base := base) F_is_booking R_is_integer g_is_integer k_is_integer m_isinstance m_len m_tuple
  have R_is_booking := FnOk.toR G_is_booking b_is_booking
  have G_is_free := ok_is_free (P := l.prog) (w := w) (mg := mg) (base := base) F_is_free 
  have R_is_free := FnOk.toR G_is_free b_is_free
  have G_gaps := ok_gaps (P := l.prog) (w := w) (mg := mg) (base := base) F_gaps m_enumerate
  have R_gaps := FnOk.toR G_gaps b_gaps
  have G_leaves_single := ok_leaves_single (P := l.prog) (w := w) (mg := mg) (base := base) F_leaves_single R_gaps g_gaps k_gaps
  have R_leaves_single := FnOk.toR G_leaves_single b_leaves_single
  have G_Hall_refuses := ok_Hall_refuses (P := l.prog) (w := w) (mg := mg) (base := base) F_Hall_refuses R_leaves_single g_leaves_single k_leaves_single
  have R_Hall_refuses := FnOk.toR G_Hall_refuses b_Hall_refuses
  have G_Hall_check := ok_Hall_check (P := l.prog) (w := w) (mg := mg) (base := base) F_Hall_check R_is_booking g_is_booking k_is_booking R_is_free g_is_free k_is_free R_is_integer g_is_integer k_is_integer m_len fl_lines (.cons cl_Hall ⟨me_Hall_Hall_refuses, if_Hall_refuses, k_Hall_refuses⟩ R_Hall_refuses (.nil))
  have R_Hall_check := FnOk.toR G_Hall_check b_Hall_check
  have G_taken := ok_taken (P := l.prog) (w := w) (mg := mg) (base := base) F_taken 
  have R_taken := FnOk.toR G_taken b_taken
  have G_Hall_put := ok_Hall_put (P := l.prog) (w := w) (mg := mg) (base := base) F_Hall_put R_taken g_taken k_taken fl_book_list fl_lines fl_next_number
  have R_Hall_put := FnOk.toR G_Hall_put b_Hall_put
  have R_Hall_attempt := ok_Hall_attempt (P := l.prog) (w := w) (mg := mg) (base := base) F_Hall_attempt m_isinstance m_len m_tuple fl_book_list fl_earlier fl_lines fl_next_number (.cons cl_Hall ⟨me_Hall_Hall_check, if_Hall_check, k_Hall_check⟩ R_Hall_check (.cons cl_LenientHall ⟨me_LenientHall_Hall_check, if_Hall_check, k_Hall_check⟩ R_Hall_check (.nil))) (.cons cl_Hall ⟨me_Hall_Hall_put, if_Hall_put, k_Hall_put⟩ R_Hall_put (.cons cl_LenientHall ⟨me_LenientHall_Hall_put, if_Hall_put, k_Hall_put⟩ R_Hall_put (.nil)))
  have G_Hall_keep := ok_Hall_keep (P := l.prog) (w := w) (mg := mg) (base := base) F_Hall_keep fl_book_list fl_earlier fl_lines fl_next_number
  have R_Hall_keep := FnOk.toR G_Hall_keep b_Hall_keep
  have G_Hall_book := ok_Hall_book (P := l.prog) (w := w) (mg := mg) (base := base) F_Hall_book (.cons cl_Hall ⟨me_Hall_Hall_check, if_Hall_check, k_Hall_check⟩ R_Hall_check (.cons cl_LenientHall ⟨me_LenientHall_Hall_check, if_Hall_check, k_Hall_check⟩ R_Hall_check (.nil))) (.cons cl_Hall ⟨me_Hall_Hall_keep, if_Hall_keep, k_Hall_keep⟩ R_Hall_keep (.cons cl_LenientHall ⟨me_LenientHall_Hall_keep, if_Hall_keep, k_Hall_keep⟩ R_Hall_keep (.nil))) (.cons cl_Hall ⟨me_Hall_Hall_put, if_Hall_put, k_Hall_put⟩ R_Hall_put (.cons cl_LenientHall ⟨me_LenientHall_Hall_put, if_Hall_put, k_Hall_put⟩ R_Hall_put (.nil)))
  have R_Hall_book := FnOk.toR G_Hall_book b_Hall_book
  have G_Hall_cancel := ok_Hall_cancel (P := l.prog) (w := w) (mg := mg) (base := base) F_Hall_cancel R_is_integer g_is_integer k_is_integer m_tuple fl_book_list fl_lines (.cons cl_Hall ⟨me_Hall_Hall_keep, if_Hall_keep, k_Hall_keep⟩ R_Hall_keep (.cons cl_LenientHall ⟨me_LenientHall_Hall_keep, if_Hall_keep, k_Hall_keep⟩ R_Hall_keep (.nil)))
  have R_Hall_cancel := FnOk.toR G_Hall_cancel b_Hall_cancel
  have G_Hall_undo := ok_Hall_undo (P := l.prog) (w := w) (mg := mg) (base := base) F_Hall_undo fl_book_list fl_earlier fl_lines fl_next_number
  have R_Hall_undo := FnOk.toR G_Hall_undo b_Hall_undo
  have G_Hall_rows := ok_Hall_rows (P := l.prog) (w := w) (mg := mg) (base := base) F_Hall_rows fl_lines
  have R_Hall_rows := FnOk.toR G_Hall_rows b_Hall_rows
  have R_Hall_empty := ok_Hall_empty (P := l.prog) (w := w) (mg := mg) (base := base) F_Hall_empty R_is_integer g_is_integer k_is_integer m_all (.cons ⟨⟨_, _, ⟨mk_Hall, me_Hall_Hall_init, if_Hall_init, kc_Hall⟩, R_Hall_init, by decide, gC_Hall⟩⟩ (.cons ⟨⟨_, _, ⟨mk_LenientHall, me_LenientHall_Hall_init, if_Hall_init, kc_LenientHall⟩, R_Hall_init, by decide, gC_LenientHall⟩⟩ (.nil)))
  have G_Hall_marks := ok_Hall_marks (P := l.prog) (w := w) (mg := mg) (base := base) F_Hall_marks fl_book_list fl_lines
  have R_Hall_marks := FnOk.toR G_Hall_marks b_Hall_marks
  have G_Hall_kind := ok_Hall_kind (P := l.prog) (w := w) (mg := mg) (base := base) F_Hall_kind 
  have R_Hall_kind := FnOk.toR G_Hall_kind b_Hall_kind
  have G_LenientHall_kind := ok_LenientHall_kind (P := l.prog) (w := w) (mg := mg) (base := base) F_LenientHall_kind 
  have R_LenientHall_kind := FnOk.toR G_LenientHall_kind b_LenientHall_kind
  have G_Hall_eq := ok_Hall_eq (P := l.prog) (w := w) (mg := mg) (base := base) F_Hall_eq m_isinstance (.cons cl_Hall ⟨me_Hall_Hall_kind, if_Hall_kind, k_Hall_kind⟩ R_Hall_kind (.cons cl_LenientHall ⟨me_LenientHall_LenientHall_kind, if_LenientHall_kind, k_LenientHall_kind⟩ R_LenientHall_kind (.nil))) (.cons cl_Hall ⟨me_Hall_Hall_marks, if_Hall_marks, k_Hall_marks⟩ R_Hall_marks (.cons cl_LenientHall ⟨me_LenientHall_Hall_marks, if_Hall_marks, k_Hall_marks⟩ R_Hall_marks (.nil))) IC_Hall
  have R_Hall_eq := FnOk.toR G_Hall_eq b_Hall_eq
  have G__law_same_bookings := ok_law_same_bookings (P := l.prog) (w := w) (mg := mg) (base := base) F__law_same_bookings (.cons cl_Hall ⟨me_Hall_Hall_attempt, if_Hall_attempt, k_Hall_attempt⟩ R_Hall_attempt (.cons cl_LenientHall ⟨me_LenientHall_Hall_attempt, if_Hall_attempt, k_Hall_attempt⟩ R_Hall_attempt (.nil))) (.cons cl_Hall ⟨me_Hall_Hall_book, if_Hall_book, k_Hall_book⟩ R_Hall_book (.cons cl_LenientHall ⟨me_LenientHall_Hall_book, if_Hall_book, k_Hall_book⟩ R_Hall_book (.nil))) (.cons cl_Hall ⟨me_Hall_Hall_cancel, if_Hall_cancel, k_Hall_cancel⟩ R_Hall_cancel (.cons cl_LenientHall ⟨me_LenientHall_Hall_cancel, if_Hall_cancel, k_Hall_cancel⟩ R_Hall_cancel (.nil))) (.cons cl_Hall ⟨me_Hall_Hall_undo, if_Hall_undo, k_Hall_undo⟩ R_Hall_undo (.cons cl_LenientHall ⟨me_LenientHall_Hall_undo, if_Hall_undo, k_Hall_undo⟩ R_Hall_undo (.nil))) (.cons cl_Hall ⟨me_Hall_Hall_rows, pget_Hall_rows, ptak_Hall_rows, _, prec_Hall_rows⟩ R_Hall_rows (.cons cl_LenientHall ⟨me_LenientHall_Hall_rows, pget_Hall_rows, ptak_Hall_rows, _, prec_Hall_rows⟩ R_Hall_rows (.nil))) ⟨⟨_, .type "type", _, _, ⟨rd_Hall, ga_Hall⟩, ⟨fc_Hall_Hall_empty, ⟨_, crec_Hall_empty⟩, cfn_Hall_empty⟩, R_Hall_empty, by decide⟩, gC_Hall⟩ ⟨look_cons ⟨_, _, me_Hall_Hall_eq, if_Hall_eq, R_Hall_eq, by decide, by simp only [tns, List.all_cons, List.all_nil, nt_Hall_NoneType, nt_Hall_bool, nt_Hall_int, nt_Hall_str, nt_Hall_tuple, nt_Hall_list]; rfl⟩ (look_cons ⟨_, _, me_LenientHall_Hall_eq, if_Hall_eq, R_Hall_eq, by decide, by simp only [tns, List.all_cons, List.all_nil, nt_LenientHall_NoneType, nt_LenientHall_bool, nt_LenientHall_int, nt_LenientHall_str, nt_LenientHall_tuple, nt_LenientHall_list]; rfl⟩ (look_nil)), sub_cons su_LenientHall_Hall sv_LenientHall_Hall (fun _ _ h => nomatch h)⟩
  have R__law_same_bookings := FnOk.toR G__law_same_bookings b__law_same_bookings
  have G_law := ok_law (P := l.prog) (w := w) (mg := mg) (base := base) F_law R__law_any_value g__law_any_value k__law_any_value R__law_digits g__law_digits k__law_digits R__law_made g__law_made k__law_made R__law_row g__law_row k__law_row R__law_same_bookings g__law_same_bookings k__law_same_bookings m_enumerate m_range (.cons cl_Hall ⟨me_Hall_Hall_book, if_Hall_book, k_Hall_book⟩ R_Hall_book (.cons cl_LenientHall ⟨me_LenientHall_Hall_book, if_Hall_book, k_Hall_book⟩ R_Hall_book (.nil))) (.cons cl_Hall ⟨me_Hall_Hall_cancel, if_Hall_cancel, k_Hall_cancel⟩ R_Hall_cancel (.cons cl_LenientHall ⟨me_LenientHall_Hall_cancel, if_Hall_cancel, k_Hall_cancel⟩ R_Hall_cancel (.nil))) (.cons cl_Hall ⟨me_Hall_Hall_rows, pget_Hall_rows, ptak_Hall_rows, _, prec_Hall_rows⟩ R_Hall_rows (.cons cl_LenientHall ⟨me_LenientHall_Hall_rows, pget_Hall_rows, ptak_Hall_rows, _, prec_Hall_rows⟩ R_Hall_rows (.nil))) ⟨⟨_, _, ⟨mk_Hall, me_Hall_Hall_init, if_Hall_init, kc_Hall⟩, R_Hall_init, by decide, gC_Hall⟩⟩ ⟨look_cons ⟨_, _, me_Hall_Hall_eq, if_Hall_eq, R_Hall_eq, by decide, by simp only [tns, List.all_cons, List.all_nil, nt_Hall_NoneType, nt_Hall_bool, nt_Hall_int, nt_Hall_str, nt_Hall_tuple, nt_Hall_list]; rfl⟩ (look_cons ⟨_, _, me_LenientHall_Hall_eq, if_Hall_eq, R_Hall_eq, by decide, by simp only [tns, List.all_cons, List.all_nil, nt_LenientHall_NoneType, nt_LenientHall_bool, nt_LenientHall_int, nt_LenientHall_str, nt_LenientHall_tuple, nt_LenientHall_list]; rfl⟩ (look_nil)), sub_cons su_LenientHall_Hall sv_LenientHall_Hall (fun _ _ h => nomatch h)⟩
  exact law_fn G_law law_true
end DL
open PySem PySem.W PyProof.Rows
set_option maxHeartbeats 0 in
theorem PySem.Challenge.cw_seatgaps_k17_equal_halls_holds : PySem.Challenge.rw_seatgaps_k17_equal_halls.Holds := by
  w_on; o_law; k_head; (case hw => w_witness2)
  k_fill
  refine L2.walk_of (l := PySem.Challenge.rw_seatgaps_k17_equal_halls) (n := 63) (k := 10) (x := "script") (CX := fun _ => L2.CX0) (sp := fun w => DL.spLaw _) rfl (by decide) rfl ⟨rfl, by decide, by decide⟩ (fun w h Y => PySem.W.kIn_of Y) ?F (fun _ _ a ns hl _ hS => ⟨a, ns, rfl, hS, hl, fun _ => rfl⟩) (fun _ _ _ _ _ h => h)
  case F =>
    intro w mg fa h KX G hmg
    refine' DL.all_mk KX G hmg ?aC_Hall ?pg_Hall ?hd_Hall ?po_Hall ?sa_Hall ?mk_Hall ?kc_Hall ?nf_Hall_book_list ?nf_Hall_earlier ?nf_Hall_lines ?nf_Hall_next_number ?aC_LenientHall ?pg_LenientHall ?hd_LenientHall ?po_LenientHall ?sa_LenientHall ?mk_LenientHall ?kc_LenientHall ?nf_LenientHall_book_list ?nf_LenientHall_earlier ?nf_LenientHall_lines ?nf_LenientHall_next_number ?a__law_cell ?l__law_cell ?c__law_cell ?k__law_cell ?a__law_digits ?l__law_digits ?c__law_digits ?k__law_digits ?a__law_row ?l__law_row ?c__law_row ?k__law_row ?a_is_row ?l_is_row ?c_is_row ?k_is_row ?me_Hall_Hall_init ?me_LenientHall_Hall_init ?if_Hall_init ?l_Hall_init ?c_Hall_init ?k_Hall_init ?a__law_made ?l__law_made ?c__law_made ?k__law_made ?a__law_any_value ?l__law_any_value ?c__law_any_value ?k__law_any_value ?a_is_integer ?l_is_integer ?c_is_integer ?k_is_integer ?a_is_booking ?l_is_booking ?c_is_booking ?k_is_booking ?a_is_free ?l_is_free ?c_is_free ?k_is_free ?a_gaps ?l_gaps ?c_gaps ?k_gaps ?a_leaves_single ?l_leaves_single ?c_leaves_single ?k_leaves_single ?me_Hall_Hall_refuses ?if_Hall_refuses ?l_Hall_refuses ?c_Hall_refuses ?k_Hall_refuses ?me_Hall_Hall_check ?me_LenientHall_Hall_check ?if_Hall_check ?l_Hall_check ?c_Hall_check ?k_Hall_check ?a_taken ?l_taken ?c_taken ?k_taken ?me_Hall_Hall_put ?me_LenientHall_Hall_put ?if_Hall_put ?l_Hall_put ?c_Hall_put ?k_Hall_put ?me_Hall_Hall_attempt ?me_LenientHall_Hall_attempt ?if_Hall_attempt ?l_Hall_attempt ?c_Hall_attempt ?k_Hall_attempt ?me_Hall_Hall_keep ?me_LenientHall_Hall_keep ?if_Hall_keep ?l_Hall_keep ?c_Hall_keep ?k_Hall_keep ?me_Hall_Hall_book ?me_LenientHall_Hall_book ?if_Hall_book ?l_Hall_book ?c_Hall_book ?k_Hall_book ?me_Hall_Hall_cancel ?me_LenientHall_Hall_cancel ?if_Hall_cancel ?l_Hall_cancel ?c_Hall_cancel ?k_Hall_cancel ?me_Hall_Hall_undo ?me_LenientHall_Hall_undo ?if_Hall_undo ?l_Hall_undo ?c_Hall_undo ?k_Hall_undo ?me_Hall_Hall_rows ?me_LenientHall_Hall_rows ?pget_Hall_rows ?ptak_Hall_rows ?prec_Hall_rows ?l_Hall_rows ?c_Hall_rows ?k_Hall_rows ?fc_Hall_Hall_empty ?crec_Hall_empty ?cfn_Hall_empty ?l_Hall_empty ?c_Hall_empty ?k_Hall_empty ?me_Hall_Hall_marks ?me_LenientHall_Hall_marks ?if_Hall_marks ?l_Hall_marks ?c_Hall_marks ?k_Hall_marks ?me_Hall_Hall_kind ?if_Hall_kind ?l_Hall_kind ?c_Hall_kind ?k_Hall_kind ?me_LenientHall_LenientHall_kind ?if_LenientHall_kind ?l_LenientHall_kind ?c_LenientHall_kind ?k_LenientHall_kind ?me_Hall_Hall_eq ?me_LenientHall_Hall_eq ?if_Hall_eq ?l_Hall_eq ?c_Hall_eq ?k_Hall_eq ?a__law_same_bookings ?l__law_same_bookings ?c__law_same_bookings ?k__law_same_bookings ?a_law ?l_law ?c_law ?k_law ?a_is_row_rows ?rd_Hall ?ga_Hall ?cv_Hall_MOST ?ha_Hall ?hm_Hall ?ha_LenientHall ?hm_LenientHall ?hn ?htk ?ki_Hall ?kj_Hall ?kt_Hall_NoneType ?kt_Hall_bool ?kt_Hall_int ?kt_Hall_str ?kt_Hall_tuple ?kt_Hall_list ?kk_Hall_LenientHall ?nt_Hall_NoneType ?nt_Hall_bool ?nt_Hall_int ?nt_Hall_str ?nt_Hall_tuple ?nt_Hall_list ?nt_LenientHall_NoneType ?nt_LenientHall_bool ?nt_LenientHall_int ?nt_LenientHall_str ?nt_LenientHall_tuple ?nt_LenientHall_list ?su_LenientHall_Hall ?sv_LenientHall_Hall ?z_all ?z_bool ?z_enumerate ?z_int ?z_isinstance ?z_len ?z_range ?z_str ?z_tuple
    (case aC_Hall => k_is); (case pg_Hall => k_is); (case hd_Hall => k_is); (case po_Hall => k_is); (case sa_Hall => k_is); (case mk_Hall => k_is); (case kc_Hall => k_is); (case nf_Hall_book_list => k_is); (case nf_Hall_earlier => k_is); (case nf_Hall_lines => k_is); (case nf_Hall_next_number => k_is); (case aC_LenientHall => k_is); (case pg_LenientHall => k_is); (case hd_LenientHall => k_is); (case po_LenientHall => k_is); (case sa_LenientHall => k_is); (case mk_LenientHall => k_is); (case kc_LenientHall => k_is); (case nf_LenientHall_book_list => k_is); (case nf_LenientHall_earlier => k_is); (case nf_LenientHall_lines => k_is); (case nf_LenientHall_next_number => k_is); (case a__law_cell => k_is); (case l__law_cell => k_is); (case c__law_cell => k_is); (case k__law_cell => k_is); (case a__law_digits => k_is); (case l__law_digits => k_is); (case c__law_digits => k_is); (case k__law_digits => k_is); (case a__law_row => k_is); (case l__law_row => k_is); (case c__law_row => k_is); (case k__law_row => k_is); (case a_is_row => k_is); (case l_is_row => k_is); (case c_is_row => k_is); (case k_is_row => k_is); (case me_Hall_Hall_init => k_is); (case me_LenientHall_Hall_init => k_is); (case if_Hall_init => k_is); (case l_Hall_init => k_is); (case c_Hall_init => k_is); (case k_Hall_init => k_is); (case a__law_made => k_is); (case l__law_made => k_is); (case c__law_made => k_is); (case k__law_made => k_is); (case a__law_any_value => k_is); (case l__law_any_value => k_is); (case c__law_any_value => k_is); (case k__law_any_value => k_is); (case a_is_integer => k_is); (case l_is_integer => k_is); (case c_is_integer => k_is); (case k_is_integer => k_is); (case a_is_booking => k_is); (case l_is_booking => k_is); (case c_is_booking => k_is); (case k_is_booking => k_is); (case a_is_free => k_is); (case l_is_free => k_is); (case c_is_free => k_is); (case k_is_free => k_is); (case a_gaps => k_is); (case l_gaps => k_is); (case c_gaps => k_is); (case k_gaps => k_is); (case a_leaves_single => k_is); (case l_leaves_single => k_is); (case c_leaves_single => k_is); (case k_leaves_single => k_is); (case me_Hall_Hall_refuses => k_is); (case if_Hall_refuses => k_is); (case l_Hall_refuses => k_is); (case c_Hall_refuses => k_is); (case k_Hall_refuses => k_is); (case me_Hall_Hall_check => k_is); (case me_LenientHall_Hall_check => k_is); (case if_Hall_check => k_is); (case l_Hall_check => k_is); (case c_Hall_check => k_is); (case k_Hall_check => k_is); (case a_taken => k_is); (case l_taken => k_is); (case c_taken => k_is); (case k_taken => k_is); (case me_Hall_Hall_put => k_is); (case me_LenientHall_Hall_put => k_is); (case if_Hall_put => k_is); (case l_Hall_put => k_is); (case c_Hall_put => k_is); (case k_Hall_put => k_is); (case me_Hall_Hall_attempt => k_is); (case me_LenientHall_Hall_attempt => k_is); (case if_Hall_attempt => k_is); (case l_Hall_attempt => k_is); (case c_Hall_attempt => k_is); (case k_Hall_attempt => k_is); (case me_Hall_Hall_keep => k_is); (case me_LenientHall_Hall_keep => k_is); (case if_Hall_keep => k_is); (case l_Hall_keep => k_is); (case c_Hall_keep => k_is); (case k_Hall_keep => k_is); (case me_Hall_Hall_book => k_is); (case me_LenientHall_Hall_book => k_is); (case if_Hall_book => k_is); (case l_Hall_book => k_is); (case c_Hall_book => k_is); (case k_Hall_book => k_is); (case me_Hall_Hall_cancel => k_is); (case me_LenientHall_Hall_cancel => k_is); (case if_Hall_cancel => k_is); (case l_Hall_cancel => k_is); (case c_Hall_cancel => k_is); (case k_Hall_cancel => k_is); (case me_Hall_Hall_undo => k_is); (case me_LenientHall_Hall_undo => k_is); (case if_Hall_undo => k_is); (case l_Hall_undo => k_is); (case c_Hall_undo => k_is); (case k_Hall_undo => k_is); (case me_Hall_Hall_rows => k_is); (case me_LenientHall_Hall_rows => k_is); (case pget_Hall_rows => k_is); (case ptak_Hall_rows => k_is); (case prec_Hall_rows => k_is); (case l_Hall_rows => k_is); (case c_Hall_rows => k_is); (case k_Hall_rows => k_is); (case fc_Hall_Hall_empty => k_is); (case crec_Hall_empty => k_is); (case cfn_Hall_empty => k_is); (case l_Hall_empty => k_is); (case c_Hall_empty => k_is); (case k_Hall_empty => k_is); (case me_Hall_Hall_marks => k_is); (case me_LenientHall_Hall_marks => k_is); (case if_Hall_marks => k_is); (case l_Hall_marks => k_is); (case c_Hall_marks => k_is); (case k_Hall_marks => k_is); (case me_Hall_Hall_kind => k_is); (case if_Hall_kind => k_is); (case l_Hall_kind => k_is); (case c_Hall_kind => k_is); (case k_Hall_kind => k_is); (case me_LenientHall_LenientHall_kind => k_is); (case if_LenientHall_kind => k_is); (case l_LenientHall_kind => k_is); (case c_LenientHall_kind => k_is); (case k_LenientHall_kind => k_is); (case me_Hall_Hall_eq => k_is); (case me_LenientHall_Hall_eq => k_is); (case if_Hall_eq => k_is); (case l_Hall_eq => k_is); (case c_Hall_eq => k_is); (case k_Hall_eq => k_is); (case a__law_same_bookings => k_is); (case l__law_same_bookings => k_is); (case c__law_same_bookings => k_is); (case k__law_same_bookings => k_is); (case a_law => k_is); (case l_law => k_is); (case c_law => k_is); (case k_law => k_is); (case a_is_row_rows => k_is); (case rd_Hall => k_is); (case ga_Hall => k_is); (case cv_Hall_MOST => k_is); (case ha_Hall => k_is); (case hm_Hall => k_is); (case ha_LenientHall => k_is); (case hm_LenientHall => k_is); (case hn => k_is); (case htk => k_is); (case ki_Hall => k_is); (case kj_Hall => k_is); (case kt_Hall_NoneType => k_is); (case kt_Hall_bool => k_is); (case kt_Hall_int => k_is); (case kt_Hall_str => k_is); (case kt_Hall_tuple => k_is); (case kt_Hall_list => k_is); (case kk_Hall_LenientHall => k_is); (case nt_Hall_NoneType => k_is); (case nt_Hall_bool => k_is); (case nt_Hall_int => k_is); (case nt_Hall_str => k_is); (case nt_Hall_tuple => k_is); (case nt_Hall_list => k_is); (case nt_LenientHall_NoneType => k_is); (case nt_LenientHall_bool => k_is); (case nt_LenientHall_int => k_is); (case nt_LenientHall_str => k_is); (case nt_LenientHall_tuple => k_is); (case nt_LenientHall_list => k_is); (case su_LenientHall_Hall => k_is); (case sv_LenientHall_Hall => k_is); (case z_all => k_is); (case z_bool => k_is); (case z_enumerate => k_is); (case z_int => k_is); (case z_isinstance => k_is); (case z_len => k_is); (case z_range => k_is); (case z_str => k_is); (case z_tuple => k_is)
end
