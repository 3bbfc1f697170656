import PyProof.Rows.All
import HandS.ForMost
import HandS.Wide
import HandS.TupAny
import HandS.TupMul
import HandS.Exc
import HandS.ExcOwn
import HandS.Deep
import HandS.Property
import HandS.Conv
import HandS.Zip
import HandS.FStr
import HandS.IsInst
import HandS.Style
import KE.GoesNew
import KE.DataMinMax
import KE.SortData
import HandS.RaiseMore
import HandS.More
import HandS.SetFor
import HandS.Defaults
import HandS.Head0
import HandS.Head1
import HandS.Head2
import HandS.HeadEnd
import HandS.HeadHook1
import HandS.HeadHook2
import PySem.Challenge.RW_lotbridge_k04_whole_amounts_or_weights
section
set_option Elab.async false
set_option linter.all false
set_option maxRecDepth 100000
/-! Ri, part 1: the slim syntax and its meaning (a predicate transformer over a small heap). -/
namespace Ri
open PySem

/-- the classes of the program whose instances are carried -/
inductive Cl where
  | web | table | lab
  deriving DecidableEq

/-- a value: tuples, lists that are not changed any more and objects that are not changed any more by content; loc: what may still change -/
inductive W where
  | non | bl (b : Bool) | int (i : Int) | str (s : Str)
  | tup (ws : List W) | lst (ws : List W) | obj (c : Cl) (ws : List W)
  | exc (c : String) (ws : List W)
  | scr (ws : List W)
  | loc (a : Addr)

/-- what stands at a place of the small heap -/
inductive O where
  | lst (ws : List W) | ins (c : Cl) (ws : List W)

abbrev Hw := Addr → Option O
def hset (h : Hw) (a : Addr) (o : O) : Hw := fun b => if b = a then some o else h b
def hdel (h : Hw) (a : Addr) : Hw := fun b => if b = a then none else h b

abbrev En := List (Option W)
abbrev KW := W → Hw → Prop
abbrev XW := String → List W → Hw → Prop
abbrev Calls := String → List W → Hw → KW → XW → Prop

inductive Bop where
  | add | sub | mul | fdiv | mod | pow
inductive Cop where
  | eq | ne | lt | le | gt | ge | inn | nin
inductive Kd where
  | int | bool | str | tuple | list | cls (c : Cl) | err
  deriving DecidableEq
inductive Blt where
  | len | int | abs | max2 | min2 | maxL | minL | tuple | list | listR1 | all | str | sorted
inductive Met where
  | split | join | replace | index
inductive ItK where
  | seq | rng1 | rng2 | enm (k : Int) | zip | own

/-- a target: a slot, or a tuple of targets -/
inductive Tg where
  | nm (i : Nat) | tp (ts : List Tg)

inductive Ex where
  | var (i : Nat) | int (i : Int) | bl (b : Bool) | non | str (s : Str) | cst (x : String) (w : W)
  | bin (o : Bop) (a b : Ex) | neg (a : Ex)
  | cmp (o : Cop) (a b : Ex) | isN (ng : Bool) (a : Ex) | chn (o p : Cop) (a b c : Ex)
  | and (a b : Ex) | or (a b : Ex) | not (a : Ex) | ite (c a b : Ex)
  | tup (es : List Ex) | lst (es : List Ex)
  | sub (a i : Ex) | sli (a lo hi : Ex) | rev (a : Ex)
  | call (f : String) (es : List Ex) | new (c : Cl) (es : List Ex)
  | mth (c : Cl) (at_ m : String) (o : Ex) (es : List Ex) | prp (c : Cl) (at_ m : String) (o : Ex) | fld (c : Cl) (k : Nat) (o : Ex)
  | blt (f : Blt) (es : List Ex) | met (m : Met) (o : Ex) (es : List Ex)
  | eqo (ng : Bool) (c : Cl) (m : String) (a b : Ex)
  | fmt (es : List Ex)
  | isi (cl : List Cl) (ks : List Kd) (a : Ex)
  | itr (k : ItK) (es : List Ex)
  | lcm (tg : Tg) (own : List Nat) (src cond elt : Ex)
  | lcm2 (tg1 : Tg) (own : List Nat) (src1 : Ex) (tg2 : Tg) (own2 : List Nat) (src2 elt : Ex)
  | xfl (k : Nat) (e : Ex)
  | frz (e : Ex) | own (e : Ex) | del (e : Ex) (es : List Ex)

inductive Sm where
  | set (i : Nat) (e : Ex) | unp (ts : List Tg) (e : Ex) | par (is : List Nat) (es : List Ex)
  | setI (o i e : Ex) | augI (p : Bop) (o i e : Ex) | aug (p : Bop) (i : Nat) (e : Ex)
  | ext (i : Nat) (e : Ex) | setF (c : Cl) (k : Nat) (o e : Ex)
  | setII (o1 i1 o2 i2 e1 e2 : Ex) | setIN (o1 i1 : Ex) (n : Nat) (e1 e2 : Ex)
  | ex (e : Ex)
  | app (o e : Ex) | ins (o i e : Ex) | rem (o e : Ex) | revI (o : Ex)
  | ret (e : Ex) | retN
  | ite (c : Ex) (a b : List Sm) | whl (c : Ex) (b : List Sm) | for_ (tg : Tg) (src : Ex) (b : List Sm)
  | brk | pass | nev
  | raise (c : String) (es : List Ex)
  | tryX (b : List Sm) (hs : List (String × Nat × List Sm))
  | frz (i : Nat)

structure Df where
  ps : Nat
  ns : Nat
  body : List Sm

/-! ### slots, targets -/
def slot : En → Nat → Option W
  | [], _ => none
  | x :: _, 0 => x
  | _ :: r, n + 1 => slot r n
def put : En → Nat → W → En
  | [], _, _ => []
  | _ :: r, 0, w => some w :: r
  | x :: r, n + 1, w => x :: put r n w
def clr : En → Nat → En
  | [], _ => []
  | _ :: r, 0 => none :: r
  | x :: r, n + 1 => x :: clr r n
def clrs (τ : En) : List Nat → En
  | [] => τ
  | v :: vs => clr (clrs τ vs) v
mutual
def bindT : Tg → W → En → Option En
  | .nm i, w, τ => some (put τ i w)
  | .tp ts, .tup ws, τ => bindTs ts ws τ
  | .tp _, _, _ => none
def bindTs : List Tg → List W → En → Option En
  | [], [], τ => some τ
  | t :: ts, w :: ws, τ => (bindT t w τ).bind fun τ' => bindTs ts ws τ'
  | _, _, _ => none
end

/-! ### values -/
/-- a list in the heap is read as its content -/
def vw (h : Hw) : W → W
  | .loc a => match h a with
    | some (.lst ws) => .lst ws
    | _ => .loc a
  | w => w
mutual
def toD : W → Option PyData
  | .non => some .none
  | .bl b => some (.bool b)
  | .int i => some (.int i)
  | .str s => some (.str s)
  | .tup ws => (toDs ws).map .tuple
  | .lst ws => (toDs ws).map .list
  | .obj _ _ => none
  | .exc _ _ => none
  | .scr _ => none
  | .loc _ => none
def toDs : List W → Option (List PyData)
  | [] => some []
  | w :: ws => (toD w).bind fun d => (toDs ws).map fun ds => d :: ds
end
/-- a most general length that is far below the model's line -/
def lim : Nat := 1000000
def MulOk (i j : Int) : Prop := ((-(2 ^ 64) < i ∧ i < 2 ^ 64) ∨ (-(2 ^ 64) < j ∧ j < 2 ^ 64)) ∨ (i.natAbs < 2 ^ 400000 ∧ j.natAbs < 2 ^ 400000)

def rep {α : Type} (n : Nat) (xs : List α) : List α := (List.replicate n xs).flatten

def binW : Bop → W → W → (W → Prop) → Prop
  | .add, .int i, .int j, P => P (.int (i + j))
  | .add, .str s, .str t, P => s.length + t.length ≤ lim ∧ P (.str (s ++ t))
  | .add, .tup a, .tup b, P => a.length + b.length ≤ lim ∧ P (.tup (a ++ b))
  | .add, .lst a, .lst b, P => a.length + b.length ≤ lim ∧ P (.lst (a ++ b))
  | .sub, .int i, .int j, P => P (.int (i - j))
  | .mul, .int i, .int j, P => MulOk i j ∧ P (.int (i * j))
  | .mul, .lst a, .int n, P => (-1000 ≤ n ∧ n ≤ 1000 ∧ a.length ≤ 1000) ∧ P (.lst (rep n.toNat a))
  | .mul, .tup a, .int n, P => (2 ≤ n ∧ n ≤ 1000 ∧ a ≠ [] ∧ a.length ≤ 1000) ∧ P (.tup (rep n.toNat a))
  | .mul, .str s, .int n, P => (0 ≤ n ∧ n ≤ 1000 ∧ s.length ≤ 1000) ∧ P (.str ⟨(rep n.toNat s.cps.toList).toArray⟩)
  | .fdiv, .int i, .int j, P => if 0 < j then j.natAbs < 2 ^ 8999 ∧ P (.int (i / j)) else (j < 0 ∧ -(2 ^ 30) < j) ∧ P (.int (i.fdiv j))
  | .mod, .int i, .int j, P => 0 < j ∧ P (.int (i % j))
  | .pow, .int i, .int j, P => (0 ≤ j ∧ j ≤ 100 ∧ -(2 ^ 64) < i ∧ i < 2 ^ 64) ∧ P (.int (i ^ j.toNat))
  | _, _, _, _ => False

def eqD (x y : W) (P : Bool → Prop) : Prop :=
  match toD x, toD y with
  | some d, some e => (SeqAt.shaped d = true ∧ SeqAt.shaped e = true) ∧ P (PyData.eqv d e)
  | _, _ => False
def eqW (x y : W) (P : Bool → Prop) : Prop :=
  match x, y with
  | .int i, .int j => P (decide (i = j))
  | .str s, .str t => P (decide (s = t))
  | .bl a, .bl b => P (decide (a = b))
  | x, y => eqD x y P
def flatW : W → Bool
  | .non => true
  | .bl _ => true
  | .int _ => true
  | .str _ => true
  | _ => false
def eqF : W → W → Bool
  | .non, .non => true
  | .bl a, .bl b => a == b
  | .bl a, .int b => (if a then 1 else 0) == b
  | .int a, .bl b => a == (if b then 1 else 0)
  | .int a, .int b => a == b
  | .str a, .str b => a == b
  | _, _ => false
/-- x in y -/
def inW (x y : W) (P : Bool → Prop) : Prop :=
  match y with
  | .str t => match x with
    | .str ⟨⟨[c]⟩⟩ => P (decide (c ∈ t.cps.toList))
    | _ => False
  | .tup ws => (flatW x = true ∧ ws.all flatW = true) ∧ P (ws.any fun y => eqF y x)
  | .lst ws => if (flatW x && ws.all flatW) = true then P (ws.any fun y => eqF y x) else match toD x, toDs ws with
    | some d, some ds => (SeqAt.shaped d = true ∧ SeqAt.shaped (.list ds) = true) ∧ P (ds.any fun z => PyData.eqv z d)
    | _, _ => False
  | _ => False
def cmpW : Cop → W → W → (Bool → Prop) → Prop
  | .lt, .int i, .int j, P => P (decide (i < j))
  | .le, .int i, .int j, P => P (decide (i ≤ j))
  | .gt, .int i, .int j, P => P (decide (j < i))
  | .ge, .int i, .int j, P => P (decide (j ≤ i))
  | .eq, x, y, P => eqW x y P
  | .ne, x, y, P => eqW x y fun b => P (!b)
  | .inn, x, y, P => inW x y P
  | .nin, x, y, P => inW x y fun b => P (!b)
  | _, _, _, _ => False
def isNon : W → Bool
  | .non => true
  | _ => false
def atW : W → W → (W → Prop) → Prop
  | .lst ws, .int i, P => match L2.atI ws i with
    | some v => P v
    | none => False
  | .tup ws, .int i, P => match L2.atI ws i with
    | some v => P v
    | none => False
  | .str s, .int i, P => s.length ≤ lim ∧ match L2.atI s.cps.toList i with
    | some c => P (.str ⟨#[c]⟩)
    | none => False
  | _, _, _ => False
def cutL {α : Type} (xs : List α) (lo hi : Option Int) : List α := (xs.drop (HT.sIx xs.length 0 lo)).take (HT.sIx xs.length xs.length hi - HT.sIx xs.length 0 lo)
def slW : W → W → W → (W → Prop) → Prop
  | .lst ws, lo, hi, P => match lo, hi with
    | .int i, .int j => P (.lst (cutL ws (some i) (some j)))
    | .int i, .non => P (.lst (cutL ws (some i) none))
    | .non, .int j => P (.lst (cutL ws none (some j)))
    | .non, .non => P (.lst (cutL ws none none))
    | _, _ => False
  | .tup ws, lo, hi, P => match lo, hi with
    | .int i, .int j => P (.tup (cutL ws (some i) (some j)))
    | .int i, .non => P (.tup (cutL ws (some i) none))
    | .non, .int j => P (.tup (cutL ws none (some j)))
    | .non, .non => P (.tup (cutL ws none none))
    | _, _ => False
  | _, _, _, _ => False
def revW : W → (W → Prop) → Prop
  | .lst ws, P => P (.lst ws.reverse)
  | _, _ => False
def kdW : Kd → W → Bool
  | .int, .int _ => true
  | .int, .bl _ => true
  | .bool, .bl _ => true
  | .str, .str _ => true
  | .tuple, .tup _ => true
  | .list, .lst _ => true
  | .cls c, .obj d _ => decide (c = d)
  | .err, .exc _ _ => true
  | _, _ => false
/-- its type is known -/
def isiOk (cl : List Cl) : W → Bool
  | .loc _ => false
  | .scr _ => false
  | .exc _ _ => false
  | .obj c _ => cl.contains c
  | _ => true
/-- ints of a list -/
def intsOf : List W → Option (List Int)
  | [] => some []
  | .int i :: ws => (intsOf ws).map fun is => i :: is
  | _ => none
/-- pairs of ints of a list -/
def prsOf : List W → Option (List (Int × Int))
  | [] => some []
  | .tup [.int i, .int j] :: ws => (prsOf ws).map fun is => (i, j) :: is
  | _ => none
def blsOf : List W → Option (List Bool)
  | [] => some []
  | .bl b :: ws => (blsOf ws).map fun is => b :: is
  | _ => none
def strsOf : List W → Option (List Str)
  | [] => some []
  | .str b :: ws => (strsOf ws).map fun is => b :: is
  | _ => none
def leP (p q : Int × Int) : Prop := p.1 < q.1 ∨ (p.1 = q.1 ∧ p.2 ≤ q.2)
def rngW (a b : Int) : List W := (List.range (b - a).toNat).map fun k => .int (a + (k : Nat))

def bltW : Blt → List W → (W → Prop) → Prop
  | .len, [.lst ws], P => P (.int ws.length)
  | .len, [.tup ws], P => P (.int ws.length)
  | .len, [.str s], P => s.length ≤ lim ∧ P (.int s.length)
  | .int, [.int i], P => P (.int i)
  | .int, [.str s], P => s.length ≤ 600 ∧ match PySem.intText? s with
    | some n => P (.int n)
    | none => False
  | .abs, [.int i], P => P (.int (if i < 0 then -i else i))
  | .max2, [.int i, .int j], P => P (.int (if j > i then j else i))
  | .min2, [.int i, .int j], P => P (.int (if j < i then j else i))
  | .maxL, [.lst ws], P => match intsOf ws with
    | some is => is ≠ [] ∧ ∀ m, m ∈ is → (∀ k ∈ is, k ≤ m) → P (.int m)
    | none => False
  | .minL, [.lst ws], P => match prsOf ws with
    | some is => is ≠ [] ∧ ∀ m, m ∈ is → (∀ k ∈ is, leP m k) → P (.tup [.int m.1, .int m.2])
    | none => False
  | .tuple, [.lst ws], P => P (.tup ws)
  | .tuple, [.tup ws], P => P (.tup ws)
  | .list, [.lst ws], P => P (.lst ws)
  | .list, [.tup ws], P => P (.lst ws)
  | .list, [.scr ws], P => P (.lst ws)
  | .listR1, [.int n], P => (-1000 ≤ n ∧ n ≤ 1000) ∧ P (.lst (rngW 0 n))
  | .all, [.lst ws], P => match blsOf ws with
    | some bs => P (.bl (bs.all id))
    | none => False
  | .str, [.int i], P => i.natAbs.log2 < 1920 ∧ P (.str (toString i))
  | .str, [.str s], P => P (.str s)
  | _, _, _ => False

def metTy : Met → W → Bool
  | .index, .tup _ => true
  | .index, _ => false
  | _, .str _ => true
  | _, _ => false
def metW : Met → W → List W → (W → Prop) → Prop
  | .split, .str s, [.str t], P => ((t.length == 0) = false ∧ s.length ≤ lim ∧ (Txt.split s t).length ≤ lim) ∧ P (.lst ((Txt.split s t).map .str))
  | .join, .str s, [.lst ws], P => match strsOf ws with
    | some ys => (ys.length ≤ 1000 ∧ s.length ≤ 1000 ∧ ∀ y ∈ ys, y.length ≤ 1000) ∧ P (.str (Txt.join s ys))
    | none => False
  | _, _, _, _ => False

/-- a value in an f-string -/
def fmtV : W → (Str → Prop) → Prop
  | .str s, P => s.length ≤ lim ∧ P s
  | .int i, P => i.natAbs.log2 < 1920 ∧ P (toString i)
  | _, _ => False

def enmW : Int → List W → List W
  | _, [] => []
  | k, w :: ws => .tup [.int k, w] :: enmW (k + 1) ws
def zipW : List W → List W → List W
  | x :: xs, y :: ys => .tup [x, y] :: zipW xs ys
  | _, _ => []
def seqW : W → Option (List W)
  | .lst ws => some ws
  | .tup ws => some ws
  | .scr ws => some ws
  | _ => none
/-- what is walked, as a list of items -/
def itrW : ItK → List W → (List W → Prop) → Prop
  | .seq, [w], P => match seqW w with
    | some ws => P ws
    | none => False
  | .rng1, [.int n], P => (-1000000 ≤ n ∧ n ≤ 1000000) ∧ P (rngW 0 n)
  | .rng2, [.int a, .int b], P => (-1000000 ≤ a ∧ a ≤ 1000000 ∧ -1000000 ≤ b ∧ b ≤ 1000000) ∧ P (rngW a b)
  | .enm k, [w], P => match seqW w with
    | some ws => P (enmW k ws)
    | none => False
  | .zip, [v, w], P => match seqW v, seqW w with
    | some vs, some ws => P (zipW vs ws)
    | _, _ => False
  | _, _, _ => False

/-- what is walked, as a value: a list that stays in the heap goes with its place -/
def itrV (h : Hw) : ItK → List W → (W → Prop) → Prop
  | .own, ws, P => match ws with
    | [.loc a] => match h a with
      | some (.lst us) => P (.tup [.lst us, .loc a])
      | _ => False
    | _ => False
  | k, ws, P => itrW k ws fun r => P (.lst r)
/-- the items, and what must hold at each turn -/
def itsOf : W → Option (List W × (Hw → Prop))
  | .lst items => some (items, fun _ => True)
  | .tup [.lst items, .loc a] => some (items, fun h => h a = some (.lst items))
  | _ => none

/-- a field of an object -/
def fldW (h : Hw) (c : Cl) (k : Nat) : W → Option W
  | .obj d ws => if c = d then ws[k]? else none
  | .loc a => match h a with
    | some (.ins d ws) => if c = d then ws[k]? else none
    | _ => none
  | _ => none
/-- an instance of a class -/
def isCls (h : Hw) (c : Cl) : W → Bool
  | .obj d _ => decide (c = d)
  | .loc a => match h a with
    | some (.ins d _) => decide (c = d)
    | _ => false
  | _ => false
/-- the place is taken out of the heap: what stood there, by content -/
def frzW (h : Hw) : W → (W → Hw → Prop) → Prop
  | .loc a, P => match h a with
    | some (.lst ws) => P (.lst ws) (hdel h a)
    | some (.ins c ws) => P (.obj c ws) (hdel h a)
    | none => False
  | _, _ => False
def delW : List W → Hw → (Hw → Prop) → Prop
  | [], h, P => P h
  | .loc a :: ws, h, P => delW ws (hdel h a) P
  | _, _, _ => False

/-- an end of a slice: left out, or an int -/
def isEnd : Ex → W → Bool
  | .non, .non => true
  | .non, _ => false
  | _, .int _ => true
  | _, _ => false
def initOf : Cl → String
  | .web => "Web.__init__"
  | .table => "Table.__init__"
  | .lab => "Lab.__init__"
def nmOf : Cl → String
  | .web => "Web"
  | .table => "Table"
  | .lab => "Lab"
/-! ### the meaning of an expression -/
/-- the turns of a comprehension -/
def lcL (gd : Hw → Prop) (tg : Tg) (τ : En) (cond elt : En → Hw → KW → Prop) : List W → List W → Hw → (List W → Hw → Prop) → Prop
  | [], acc, h, P => gd h ∧ P acc h
  | w :: items, acc, h, P => gd h ∧ match bindT tg w τ with
    | some τ2 => cond τ2 h fun b h1 => match b with
      | .bl true => elt τ2 h1 fun y h2 => lcL gd tg τ cond elt items (acc ++ [y]) h2 P
      | .bl false => lcL gd tg τ cond elt items acc h1 P
      | _ => False
    | none => False
/-- the turns of a comprehension of two fors -/
def lcL2 (gd : Hw → Prop) (tg : Tg) (τ : En) (inner : En → Hw → List W → (List W → Hw → Prop) → Prop) : List W → List W → Hw → (List W → Hw → Prop) → Prop
  | [], acc, h, P => gd h ∧ P acc h
  | w :: items, acc, h, P => gd h ∧ match bindT tg w τ with
    | some τ2 => inner τ2 h acc fun acc2 h2 => acc2.length ≤ lim ∧ lcL2 gd tg τ inner items acc2 h2 P
    | none => False
mutual
def wpE (C : Calls) : Ex → En → Hw → KW → XW → Prop
  | .var i, τ, h, P, _ => match slot τ i with
    | some w => P w h
    | none => False
  | .int i, _, h, P, _ => P (.int i) h
  | .bl b, _, h, P, _ => P (.bl b) h
  | .non, _, h, P, _ => P .non h
  | .str s, _, h, P, _ => P (.str s) h
  | .cst _ w, _, h, P, _ => P w h
  | .bin o a b, τ, h, P, E => wpE C a τ h (fun x h1 => wpE C b τ h1 (fun y h2 => binW o (vw h2 x) (vw h2 y) fun z => P z h2) E) E
  | .neg a, τ, h, P, E => wpE C a τ h (fun x h1 => match x with
    | .int i => P (.int (-i)) h1
    | _ => False) E
  | .cmp o a b, τ, h, P, E => wpE C a τ h (fun x h1 => wpE C b τ h1 (fun y h2 => cmpW o (vw h2 x) (vw h2 y) fun z => P (.bl z) h2) E) E
  | .isN ng a, τ, h, P, E => wpE C a τ h (fun x h1 => P (.bl (if ng then !isNon x else isNon x)) h1) E
  | .chn o p a b c, τ, h, P, E => wpE C a τ h (fun x h1 => wpE C b τ h1 (fun y h2 => cmpW o (vw h2 x) (vw h2 y) fun r =>
      if r then wpE C c τ h2 (fun z h3 => cmpW p (vw h3 y) (vw h3 z) fun q => P (.bl q) h3) E else P (.bl false) h2) E) E
  | .and a b, τ, h, P, E => wpE C a τ h (fun x h1 => match x with
    | .bl true => wpE C b τ h1 P E
    | .bl false => P (.bl false) h1
    | _ => False) E
  | .or a b, τ, h, P, E => wpE C a τ h (fun x h1 => match x with
    | .bl true => P (.bl true) h1
    | .bl false => wpE C b τ h1 P E
    | _ => False) E
  | .not a, τ, h, P, E => wpE C a τ h (fun x h1 => match x with
    | .bl b => P (.bl (!b)) h1
    | _ => False) E
  | .ite c a b, τ, h, P, E => wpE C c τ h (fun x h1 => match x with
    | .bl true => wpE C a τ h1 P E
    | .bl false => wpE C b τ h1 P E
    | _ => False) E
  | .tup es, τ, h, P, E => wpEs C es τ h (fun ws h1 => ws.length ≤ 1000 ∧ P (.tup ws) h1) E
  | .lst es, τ, h, P, E => wpEs C es τ h (fun ws h1 => ws.length ≤ 1000 ∧ P (.lst ws) h1) E
  | .sub a i, τ, h, P, E => wpE C a τ h (fun x h1 => wpE C i τ h1 (fun y h2 => atW (vw h2 x) y fun z => P z h2) E) E
  | .sli a lo hi, τ, h, P, E => wpE C a τ h (fun x h1 => wpE C lo τ h1 (fun y h2 => isEnd lo y = true ∧ wpE C hi τ h2 (fun z h3 => isEnd hi z = true ∧ slW (vw h3 x) y z fun r => P r h3) E) E) E
  | .rev a, τ, h, P, E => wpE C a τ h (fun x h1 => revW (vw h1 x) fun r => P r h1) E
  | .call f es, τ, h, P, E => wpEs C es τ h (fun ws h1 => C f ws h1 P E) E
  | .new c es, τ, h, P, E => wpEs C es τ h (fun ws h1 => ∀ a, h1 a = none → C (initOf c) (.loc a :: ws) (hset h1 a (.ins c [])) (fun v h2 => isNon v = true ∧ P (.loc a) h2) E) E
  | .mth c _ m o es, τ, h, P, E => wpE C o τ h (fun x h1 => isCls h1 c x = true ∧ wpEs C es τ h1 (fun ws h2 => C m (x :: ws) h2 P E) E) E
  | .prp c _ m o, τ, h, P, E => wpE C o τ h (fun x h1 => isCls h1 c x = true ∧ C m [x] h1 P fun _ _ _ => False) E
  | .eqo ng c m a b, τ, h, P, E => wpE C a τ h (fun x h1 => wpE C b τ h1 (fun y h2 => (isCls h2 c x = true ∧ isCls h2 c y = true) ∧ C m [x, y] h2 (fun r h3 => match r with
    | .bl z => P (.bl (if ng then !z else z)) h3
    | _ => False) fun _ _ _ => False) E) E
  | .fld c k o, τ, h, P, E => wpE C o τ h (fun x h1 => match fldW h1 c k x with
    | some w => P w h1
    | none => False) E
  | .blt f es, τ, h, P, E => wpEs C es τ h (fun ws h1 => bltW f (ws.map (vw h1)) fun r => P r h1) E
  | .met m o es, τ, h, P, E => wpE C o τ h (fun x h1 => metTy m x = true ∧ wpEs C es τ h1 (fun ws h2 => metW m x (ws.map (vw h2)) fun r => P r h2) E) E
  | .fmt es, τ, h, P, E => wpJ C es Str.empty τ h (fun s h1 => P (.str s) h1) E
  | .isi cl ks a, τ, h, P, E => wpE C a τ h (fun x h1 => isiOk cl (vw h1 x) = true ∧ P (.bl (ks.any fun k => kdW k (vw h1 x))) h1) E
  | .itr k es, τ, h, P, E => wpEs C es τ h (fun ws h1 => itrV h1 k ws fun r => P r h1) E
  | .lcm tg own src cond elt, τ, h, P, E => wpE C src τ h (fun s h1 => match itsOf s with
    | some (items, gd) => items.length ≤ lim ∧ lcL gd tg (clrs τ own) (fun τ2 h2 K => wpE C cond τ2 h2 K fun _ _ _ => False) (fun τ2 h2 K => wpE C elt τ2 h2 K fun _ _ _ => False) items [] h1 fun ws h2 => P (.lst ws) h2
    | none => False) E
  | .lcm2 tg1 own src1 tg2 own2 src2 elt, τ, h, P, E => wpE C src1 τ h (fun s h1 => match itsOf s with
    | some (items, gd) => lcL2 gd tg1 (clrs τ own) (fun τ2 h2 acc K => wpE C src2 τ2 h2 (fun s2 h3 => match itsOf s2 with
      | some (items2, gd2) => items2.length ≤ lim ∧ lcL gd2 tg2 (clrs τ2 own2) (fun _ h4 K => K (.bl true) h4) (fun τ3 h4 K => wpE C elt τ3 h4 K fun _ _ _ => False) items2 acc h3 K
      | none => False) fun _ _ _ => False) items [] h1 fun ws h2 => P (.lst ws) h2
    | none => False) E
  | .xfl k e, τ, h, P, E => wpE C e τ h (fun x h1 => match x with
    | .exc _ ws => match ws[k]? with
      | some w => P w h1
      | none => False
    | _ => False) E
  | .frz e, τ, h, P, E => wpE C e τ h (fun x h1 => frzW h1 x P) E
  | .own e, τ, h, P, E => wpE C e τ h (fun x h1 => match x with
    | .lst ws => ∀ a, h1 a = none → P (.loc a) (hset h1 a (.lst ws))
    | _ => False) E
  | .del e es, τ, h, P, E => wpE C e τ h (fun x h1 => wpEs C es τ h1 (fun ws h2 => delW ws h2 fun h3 => P x h3) E) E
def wpEs (C : Calls) : List Ex → En → Hw → (List W → Hw → Prop) → XW → Prop
  | [], _, h, P, _ => P [] h
  | e :: es, τ, h, P, E => wpE C e τ h (fun w h1 => wpEs C es τ h1 (fun ws h2 => P (w :: ws) h2) E) E
/-- the parts of an f-string -/
def wpJ (C : Calls) : List Ex → Str → En → Hw → (Str → Hw → Prop) → XW → Prop
  | [], acc, _, h, P, _ => P acc h
  | e :: es, acc, τ, h, P, E => wpE C e τ h (fun w h1 => fmtV w fun s => (acc ++ s).length ≤ lim ∧ wpJ C es (acc ++ s) τ h1 P E) E
end

/-! ### the meaning of a statement -/
structure Dn where
  nx : En → Hw → Prop
  rt : KW
  bk : En → Hw → Prop
  ct : En → Hw → Prop
  ex : En → XW

def puts : En → List Nat → List W → En
  | τ, i :: is, w :: ws => puts (put τ i w) is ws
  | τ, _, _ => τ
def setW (h : Hw) (o i v : W) (P : Hw → Prop) : Prop :=
  match o, i with
  | .loc a, .int k => match h a with
    | some (.lst ws) => match L2.ixN ws.length k with
      | some j => P (hset h a (.lst (ws.set j v)))
      | none => False
    | _ => False
  | _, _ => False
/-- an int of a list -/
def atLI : W → W → (Int → Prop) → Prop
  | .lst ws, .int i, P => match L2.atI ws i with
    | some (.int n) => P n
    | _ => False
  | _, _, _ => False
/-- an augmented operator on ints -/
def augW : Bop → W → W → (Int → Prop) → Prop
  | .add, .int i, .int j, P => P (i + j)
  | .sub, .int i, .int j, P => P (i - j)
  | _, _, _, _ => False
def storeF (h : Hw) (c : Cl) (k : Nat) (o v : W) (P : Hw → Prop) : Prop :=
  match o with
  | .loc a => match h a with
    | some (.ins d ws) => c = d ∧ (if k < ws.length then P (hset h a (.ins d (ws.set k v))) else k = ws.length ∧ P (hset h a (.ins d (ws ++ [v]))))
    | _ => False
  | _ => False
def lstAt (h : Hw) (o : W) (P : Addr → List W → Prop) : Prop :=
  match o with
  | .loc a => match h a with
    | some (.lst ws) => P a ws
    | _ => False
  | _ => False
/-- a list in the heap -/
def isLoL (h : Hw) : W → Bool
  | .loc a => match h a with
    | some (.lst _) => true
    | _ => false
  | _ => false
def insAt {α : Type} (xs : List α) (k : Int) (x : α) : List α := xs.take k.toNat ++ [x] ++ xs.drop k.toNat
def handle (hs : List (String × Nat × (En → Hw → Dn → Prop))) (D : Dn) (τ : En) (c : String) (ws : List W) (h : Hw) : Prop :=
  match hs with
  | [] => D.ex τ c ws h
  | (x, i, k) :: r => if c = x then k (put τ i (.exc c ws)) h { D with nx := fun τ' h' => D.nx (clr τ' i) h', bk := fun τ' h' => D.bk (clr τ' i) h', ct := fun τ' h' => D.ct (clr τ' i) h', ex := fun _ _ _ _ => False } else handle r D τ c ws h
def forL (gd : Hw → Prop) (tg : Tg) (body : En → Hw → Dn → Prop) (D : Dn) : List W → En → Hw → Prop
  | [], τ, h => gd h ∧ D.nx τ h
  | w :: ws, τ, h => gd h ∧ match bindT tg w τ with
    | some τ2 => body τ2 h { D with nx := fun τ' h' => forL gd tg body D ws τ' h', ct := fun τ' h' => forL gd tg body D ws τ' h', bk := D.nx }
    | none => False
def whlP (test : En → Hw → KW → XW → Prop) (body : En → Hw → Dn → Prop) (D : Dn) (τ : En) (h : Hw) : Prop :=
  ∃ I : Nat → En → Hw → Prop, (∃ m, I m τ h) ∧ ∀ m τ h, I m τ h → test τ h (fun b h1 => match b with
    | .bl true => body τ h1 { D with nx := fun τ' h' => ∃ m', m' < m ∧ I m' τ' h', ct := fun τ' h' => ∃ m', m' < m ∧ I m' τ' h', bk := D.nx }
    | .bl false => D.nx τ h1
    | _ => False) (D.ex τ)

mutual
def wpS (C : Calls) : Sm → En → Hw → Dn → Prop
  | .set i e, τ, h, D => wpE C e τ h (fun w h1 => D.nx (put τ i w) h1) (D.ex τ)
  | .unp ts e, τ, h, D => wpE C e τ h (fun w h1 => match w with
    | .tup ws => match bindTs ts ws τ with
      | some τ2 => D.nx τ2 h1
      | none => False
    | _ => False) (D.ex τ)
  | .par is es, τ, h, D => wpEs C es τ h (fun ws h1 => ws.length = is.length ∧ D.nx (puts τ is ws) h1) (D.ex τ)
  | .setI o i e, τ, h, D => wpE C e τ h (fun v h1 => wpE C o τ h1 (fun x h2 => wpE C i τ h2 (fun y h3 => setW h3 x y v fun h4 => D.nx τ h4) (D.ex τ)) (D.ex τ)) (D.ex τ)
  | .augI p o i e, τ, h, D => wpE C o τ h (fun x h1 => wpE C i τ h1 (fun y h2 => atLI (vw h2 x) y fun z => wpE C e τ h2 (fun v h3 => augW p (.int z) (vw h3 v) fun r => setW h3 x y (.int r) fun h4 => D.nx τ h4) (D.ex τ)) (D.ex τ)) (D.ex τ)
  | .aug p i e, τ, h, D => match slot τ i with
    | some z => wpE C e τ h (fun v h1 => augW p z (vw h1 v) fun r => D.nx (put τ i (.int r)) h1) (D.ex τ)
    | none => False
  | .ext i e, τ, h, D => match slot τ i with
    | some z => wpE C e τ h (fun v h1 => match vw h1 v with
      | .lst us => lstAt h1 z fun a ws => ws.length + us.length ≤ lim ∧ D.nx τ (hset h1 a (.lst (ws ++ us)))
      | _ => False) (D.ex τ)
    | none => False
  | .setF c k o e, τ, h, D => wpE C e τ h (fun v h1 => wpE C o τ h1 (fun x h2 => storeF h2 c k x v fun h3 => D.nx τ h3) (D.ex τ)) (D.ex τ)
  | .setII o1 i1 o2 i2 e1 e2, τ, h, D => wpE C e1 τ h (fun v1 h1 => wpE C e2 τ h1 (fun v2 h2 =>
      wpE C o1 τ h2 (fun x h3 => wpE C i1 τ h3 (fun y h4 => setW h4 x y v1 fun h5 => wpE C o2 τ h5 (fun x2 h6 => wpE C i2 τ h6 (fun y2 h7 => setW h7 x2 y2 v2 fun h8 => D.nx τ h8) (D.ex τ)) (D.ex τ)) (D.ex τ)) (D.ex τ)) (D.ex τ)) (D.ex τ)
  | .setIN o1 i1 n e1 e2, τ, h, D => wpE C e1 τ h (fun v1 h1 => wpE C e2 τ h1 (fun v2 h2 =>
      wpE C o1 τ h2 (fun x h3 => wpE C i1 τ h3 (fun y h4 => setW h4 x y v1 fun h5 => D.nx (put τ n v2) h5) (D.ex τ)) (D.ex τ)) (D.ex τ)) (D.ex τ)
  | .ex e, τ, h, D => wpE C e τ h (fun _ h1 => D.nx τ h1) (D.ex τ)
  | .app o e, τ, h, D => wpE C o τ h (fun x h1 => isLoL h1 x = true ∧ wpE C e τ h1 (fun v h2 => lstAt h2 x fun a ws => ws.length < lim ∧ D.nx τ (hset h2 a (.lst (ws ++ [v])))) (D.ex τ)) (D.ex τ)
  | .ins o i e, τ, h, D => wpE C o τ h (fun x h1 => isLoL h1 x = true ∧ wpE C i τ h1 (fun y h2 => wpE C e τ h2 (fun v h3 => lstAt h3 x fun a ws => match y with
    | .int k => (ws.length < lim ∧ 0 ≤ k ∧ k ≤ ws.length) ∧ D.nx τ (hset h3 a (.lst (insAt ws k v)))
    | _ => False) (D.ex τ)) (D.ex τ)) (D.ex τ)
  | .rem o e, τ, h, D => wpE C o τ h (fun x h1 => isLoL h1 x = true ∧ wpE C e τ h1 (fun v h2 => lstAt h2 x fun a ws => match v, intsOf ws with
    | .int k, some is => k ∈ is ∧ D.nx τ (hset h2 a (.lst ((is.erase k).map .int)))
    | _, _ => False) (D.ex τ)) (D.ex τ)
  | .revI o, τ, h, D => wpE C o τ h (fun x h1 => lstAt h1 x fun a ws => D.nx τ (hset h1 a (.lst ws.reverse))) (D.ex τ)
  | .ret e, τ, h, D => wpE C e τ h D.rt (D.ex τ)
  | .retN, _, h, D => D.rt .non h
  | .ite c a b, τ, h, D => wpE C c τ h (fun w h1 => match w with
    | .bl true => wpSs C a τ h1 D
    | .bl false => wpSs C b τ h1 D
    | _ => False) (D.ex τ)
  | .whl c b, τ, h, D => whlP (fun τ h P E => wpE C c τ h P E) (fun τ h D => wpSs C b τ h D) D τ h
  | .for_ tg src b, τ, h, D => wpE C src τ h (fun w h1 => match itsOf w with
    | some (items, gd) => forL gd tg (fun τ h D => wpSs C b τ h D) D items τ h1
    | none => False) (D.ex τ)
  | .brk, τ, h, D => D.bk τ h
  | .pass, τ, h, D => D.nx τ h
  | .nev, _, _, _ => False
  | .raise c es, τ, h, D => wpEs C es τ h (fun ws h1 => D.ex τ c ws h1) (D.ex τ)
  | .tryX b hs, τ, h, D => wpSs C b τ h { D with ex := fun τ' c ws h' => handle (wpHs C hs) D τ' c ws h' }
  | .frz i, τ, h, D => match slot τ i with
    | some w => frzW h w fun v h1 => D.nx (put τ i v) h1
    | none => False
def wpSs (C : Calls) : List Sm → En → Hw → Dn → Prop
  | [], τ, h, D => D.nx τ h
  | s :: ss, τ, h, D => wpS C s τ h { D with nx := fun τ1 h1 => wpSs C ss τ1 h1 D }
def wpHs (C : Calls) : List (String × Nat × List Sm) → List (String × Nat × (En → Hw → Dn → Prop))
  | [] => []
  | (x, i, b) :: r => (x, i, fun τ h D => wpSs C b τ h D) :: wpHs C r
end

def start (n : Nat) (ws : List W) : En := ws.map some ++ List.replicate (n - ws.length) none
/-- the call of a def -/
def wpF (C : Calls) (d : Df) (ws : List W) (h : Hw) (P : KW) (E : XW) : Prop :=
  ws.length = d.ps ∧ wpSs C d.body (start d.ns ws) h { nx := fun _ h' => P .non h', rt := P, bk := fun _ _ => False, ct := fun _ _ => False, ex := fun _ => E }
/-- calls to a depth -/
def callD (T : List (String × Df)) : Nat → Calls
  | 0, _, _, _, _, _ => False
  | n + 1, f, ws, h, P, E => match T.lookup f with
    | some d => wpF (callD T n) d ws h P E
    | none => False
example (C : Calls) (τ : En) (h : Hw) (P : KW) (E : XW) : wpE C (.bin .add (.int 3) (.int 4)) τ h P E = P (.int 7) h := rfl
example (C : Calls) (h : Hw) (D : Dn) : wpSs C [.set 1 (.bin .add (.var 0) (.int 4)), .ret (.tup [.var 1, .var 0])] [some (.int 5), none] h D = (2 ≤ 1000 ∧ D.rt (.tup [.int 9, .int 5]) h) := rfl
end Ri
end
section
set_option Elab.async false
set_option linter.all false
set_option maxRecDepth 100000
/-! Ri, part 2: how the small heap and the values by content lie in the hand layer's heap. -/
namespace Ri
open PySem L2

/-- what the written part tells: where the classes stand -/
structure Gd where
  K : PySem.W.Frag
  CA : Cl → Addr
  XA : String → Addr
  /-- lists that are being made by a comprehension: no value is one of them -/
  R : Addr → Prop
def Gd.at (g : Gd) (R : Addr → Prop) : Gd := { g with R := R }
def flds : Cl → List Str
  | .web => ["way", "many_lots", "many_samples", "rows"]
  | .table => ["many", "rows", "base", "heads", "parts"]
  | .lab => ["held", "tellings"]
def xflds : String → List Str
  | "InvalidReading" => ["index"]
  | "InvalidText" => ["line", "word"]
  | _ => []
abbrev H0 : Hp := fun _ => none
def TupR (K : PySem.W.Frag) (h : Hw) (H : Hp) (a : Addr) (vs : List V) : Prop := ((Rd H a (.tup vs) ∧ h a = none) ∨ SqT K H0 a vs) ∧ vs.length ≤ sizeLine
def LstR (R : Addr → Prop) (h : Hw) (H : Hp) (a : Addr) (vs : List V) : Prop := (H a = some (.lst vs) ∧ h a = none) ∧ vs.length ≤ sizeLine ∧ ¬ R a
def ScrR (K : PySem.W.Frag) (R : Addr → Prop) (h : Hw) (H : Hp) (a : Addr) (vs : List V) : Prop := ((Rd H a (.lst vs) ∧ h a = none ∧ ¬ R a) ∨ SqL K H0 a vs) ∧ vs.length ≤ sizeLine
mutual
def Rep (g : Gd) (h : Hw) (H : Hp) : W → V → Prop
  | .non, v => v = .non
  | .bl b, v => v = .bl b
  | .int i, v => v = .int i
  | .str s, v => v = .str s
  | .tup ws, v => ∃ a vs, v = .ref a ∧ TupR g.K h H a vs ∧ Reps g h H ws vs
  | .lst ws, v => ∃ a vs, v = .ref a ∧ LstR g.R h H a vs ∧ Reps g h H ws vs
  | .obj c ws, v => ∃ a dx vs, v = .ref a ∧ h a = none ∧ H a = some (.ins (g.CA c) dx ((flds c).zip vs)) ∧ ws.length ≤ (flds c).length ∧ Reps g h H ws vs
  | .exc _ _, _ => False
  | .scr ws, v => ∃ a vs, v = .ref a ∧ ScrR g.K g.R h H a vs ∧ Reps g h H ws vs
  | .loc a, v => v = .ref a
def Reps (g : Gd) (h : Hw) (H : Hp) : List W → List V → Prop
  | [], vs => vs = []
  | w :: ws, vs => ∃ v vs', vs = v :: vs' ∧ Rep g h H w v ∧ Reps g h H ws vs'
end
def ORep (g : Gd) (h : Hw) (H : Hp) (a : Addr) : O → Prop
  | .lst ws => ∃ vs, H a = some (.lst vs) ∧ Reps g h H ws vs ∧ vs.length ≤ sizeLine
  | .ins c ws => ∃ dx vs, H a = some (.ins (g.CA c) dx ((flds c).zip vs)) ∧ ws.length ≤ (flds c).length ∧ Reps g h H ws vs
structure HRel (g : Gd) (h : Hw) (H : Hp) : Prop where
  own : ∀ a o, h a = some o → ORep g h H a o
  rsv : ∀ a, g.R a → h a = none ∧ ∃ vs, H a = some (.lst vs)
/-- what is tracked and not ours stays -/
def Grow (h : Hw) (H : Hp) (h' : Hw) (H' : Hp) : Prop := ∀ a o, H a = some o → h a = none → H' a = some o ∧ h' a = none
def SRel (g : Gd) (h : Hw) (H : Hp) (τ : En) (σ : L2.St) : Prop := τ.length = σ.length ∧ ∀ i w, slot τ i = some w → ∃ v, σ[i]? = some (some v) ∧ Rep g h H w v

section
variable {g : Gd} {h h' h1 h2 : Hw} {H H' H1 H2 : Hp} {a p : Addr} {o : O} {u : HO}
theorem Grow.refl : Grow h H h H := fun _ _ e n => ⟨e, n⟩
theorem Grow.trans (x : Grow h H h1 H1) (y : Grow h1 H1 h2 H2) : Grow h H h2 H2 := fun a o e n => let ⟨e1, n1⟩ := x a o e n; y a o e1 n1
theorem Rd.grow {vs : HO} (x : Grow h H h' H') (r : Rd H a vs) (n : h a = none) : Rd H' a vs ∧ h' a = none := by
  rcases r with r | ⟨o, r⟩
  · exact ⟨.inl (x a _ r n).1, (x a _ r n).2⟩
  · exact ⟨.inr ⟨o, (x a _ r n).1⟩, (x a _ r n).2⟩
theorem TupR.grow {K : PySem.W.Frag} {vs : List V} (x : Grow h H h' H') (r : TupR K h H a vs) : TupR K h' H' a vs := by
  obtain ⟨r | r, z⟩ := r
  · exact ⟨.inl (Rd.grow x r.1 r.2), z⟩
  · exact ⟨.inr r, z⟩
theorem LstR.grow {R : Addr → Prop} {vs : List V} (x : Grow h H h' H') (r : LstR R h H a vs) : LstR R h' H' a vs := ⟨x a _ r.1.1 r.1.2, r.2⟩
theorem ScrR.grow {K : PySem.W.Frag} {R : Addr → Prop} {vs : List V} (x : Grow h H h' H') (r : ScrR K R h H a vs) : ScrR K R h' H' a vs := by
  obtain ⟨r | r, z⟩ := r
  · obtain ⟨r1, r2⟩ := Rd.grow x r.1 r.2.1
    exact ⟨.inl ⟨r1, r2, r.2.2⟩, z⟩
  · exact ⟨.inr r, z⟩
theorem ScrR.sq {K : PySem.W.Frag} {R : Addr → Prop} {vs : List V} (r : ScrR K R h H a vs) : SqL K H a vs := by
  rcases r.1 with r | r
  · exact .inl r.1
  · rcases r with (r | ⟨_, r⟩) | r
    · cases r
    · cases r
    · exact .inr r
mutual
theorem Rep.grow (x : Grow h H h' H') : ∀ (w : W) (v : V), Rep g h H w v → Rep g h' H' w v
  | .non, _, r => by simpa only [Rep] using r
  | .bl _, _, r => by simpa only [Rep] using r
  | .int _, _, r => by simpa only [Rep] using r
  | .str _, _, r => by simpa only [Rep] using r
  | .tup ws, v, r => by
    simp only [Rep] at r ⊢
    obtain ⟨a, vs, e, t, q⟩ := r
    exact ⟨a, vs, e, t.grow x, Reps.grow x ws vs q⟩
  | .lst ws, v, r => by
    simp only [Rep] at r ⊢
    obtain ⟨a, vs, e, t, q⟩ := r
    exact ⟨a, vs, e, t.grow x, Reps.grow x ws vs q⟩
  | .obj c ws, v, r => by
    simp only [Rep] at r ⊢
    obtain ⟨a, dx, vs, e, n, t, l, q⟩ := r
    exact ⟨a, dx, vs, e, (x a _ t n).2, (x a _ t n).1, l, Reps.grow x ws vs q⟩
  | .exc _ _, _, r => by simp only [Rep] at r
  | .scr ws, v, r => by
    simp only [Rep] at r ⊢
    obtain ⟨a, vs, e, t, q⟩ := r
    exact ⟨a, vs, e, t.grow x, Reps.grow x ws vs q⟩
  | .loc _, _, r => by simpa only [Rep] using r
theorem Reps.grow (x : Grow h H h' H') : ∀ (ws : List W) (vs : List V), Reps g h H ws vs → Reps g h' H' ws vs
  | [], _, r => by simpa only [Reps] using r
  | w :: ws, _, r => by
    simp only [Reps] at r ⊢
    obtain ⟨v, vs', e, r1, r2⟩ := r
    exact ⟨v, vs', e, Rep.grow x w v r1, Reps.grow x ws vs' r2⟩
end
theorem SRel.grow {τ : En} {σ : L2.St} (x : Grow h H h' H') (s : SRel g h H τ σ) : SRel g h' H' τ σ := ⟨s.1, fun i w e => let ⟨v, e1, r⟩ := s.2 i w e; ⟨v, e1, Rep.grow x w v r⟩⟩
theorem Reps.length : ∀ {ws : List W} {vs : List V}, Reps g h H ws vs → ws.length = vs.length
  | [], _, r => by
    simp only [Reps] at r
    subst r; rfl
  | _ :: _, _, r => by
    simp only [Reps] at r
    obtain ⟨_, _, e, _, r2⟩ := r
    subst e
    simp only [List.length_cons, Reps.length r2]
theorem Reps.get : ∀ {ws : List W} {vs : List V} {i : Nat} {w : W}, Reps g h H ws vs → ws[i]? = some w → ∃ v, vs[i]? = some v ∧ Rep g h H w v
  | [], _, _, _, _, e => by simp at e
  | _ :: _, _, 0, _, r, e => by
    simp only [Reps] at r
    obtain ⟨v, _, e1, r1, _⟩ := r
    subst e1
    simp at e; subst e
    exact ⟨v, rfl, r1⟩
  | _ :: _, _, i + 1, _, r, e => by
    simp only [Reps] at r
    obtain ⟨_, _, e1, _, r2⟩ := r
    subst e1
    simp at e ⊢
    exact Reps.get r2 e
theorem Reps.append : ∀ {ws us : List W} {vs ys : List V}, Reps g h H ws vs → Reps g h H us ys → Reps g h H (ws ++ us) (vs ++ ys)
  | [], _, _, _, r, q => by
    simp only [Reps] at r
    subst r; exact q
  | _ :: _, _, _, _, r, q => by
    simp only [Reps] at r
    obtain ⟨v, vs', e, r1, r2⟩ := r
    subst e
    simp only [List.cons_append, Reps]
    exact ⟨v, _, rfl, r1, Reps.append r2 q⟩
theorem Reps.take : ∀ {ws : List W} {vs : List V} (n : Nat), Reps g h H ws vs → Reps g h H (ws.take n) (vs.take n)
  | _, _, 0, _ => by simp [Reps]
  | [], _, n + 1, r => by
    simp only [Reps] at r
    subst r; simp [Reps]
  | _ :: _, _, n + 1, r => by
    simp only [Reps] at r
    obtain ⟨v, vs', e, r1, r2⟩ := r
    subst e
    simp only [List.take_succ_cons, Reps]
    exact ⟨v, _, rfl, r1, Reps.take n r2⟩
theorem Reps.drop : ∀ {ws : List W} {vs : List V} (n : Nat), Reps g h H ws vs → Reps g h H (ws.drop n) (vs.drop n)
  | _, _, 0, r => by simpa using r
  | [], _, n + 1, r => by
    simp only [Reps] at r
    subst r; simp [Reps]
  | _ :: _, _, n + 1, r => by
    simp only [Reps] at r
    obtain ⟨v, vs', e, r1, r2⟩ := r
    subst e
    simp only [List.drop_succ_cons]
    exact Reps.drop n r2
theorem Reps.set {w : W} {v : V} (q : Rep g h H w v) : ∀ {ws : List W} {vs : List V} (i : Nat), Reps g h H ws vs → Reps g h H (ws.set i w) (vs.set i v)
  | [], _, _, r => by
    simp only [Reps] at r
    subst r; simp [Reps]
  | _ :: _, _, 0, r => by
    simp only [Reps] at r
    obtain ⟨v', vs', e, r1, r2⟩ := r
    subst e
    simp only [List.set_cons_zero, Reps]
    exact ⟨v, _, rfl, q, r2⟩
  | _ :: _, _, i + 1, r => by
    simp only [Reps] at r
    obtain ⟨v', vs', e, r1, r2⟩ := r
    subst e
    simp only [List.set_cons_succ, Reps]
    exact ⟨v', _, rfl, r1, Reps.set q i r2⟩
theorem Reps.reverse : ∀ {ws : List W} {vs : List V}, Reps g h H ws vs → Reps g h H ws.reverse vs.reverse
  | [], _, r => by
    simp only [Reps] at r
    subst r; simp [Reps]
  | _ :: _, _, r => by
    simp only [Reps] at r
    obtain ⟨v, vs', e, r1, r2⟩ := r
    subst e
    rw [List.reverse_cons, List.reverse_cons]
    exact Reps.append (Reps.reverse r2) (by simp only [Reps]; exact ⟨v, [], rfl, r1, rfl⟩)
theorem Reps.one {w : W} {v : V} (r : Rep g h H w v) : Reps g h H [w] [v] := by
  simp only [Reps]
  exact ⟨v, [], rfl, r, rfl⟩

theorem HRel.free (r : HRel g h H) (hp : H p = none) : h p = none := by
  cases e : h p with
  | none => rfl
  | some o =>
    have q := r.own p o e
    cases o with
    | lst ws =>
      obtain ⟨vs, e1, _⟩ := q
      rw [hp] at e1; cases e1
    | ins c ws =>
      obtain ⟨dx, vs, e1, _⟩ := q
      rw [hp] at e1; cases e1
theorem Grow.new (hp : H p = none) : Grow h H h (upd H p u) := fun a o e n => ⟨by rw [upd_ne (ne_of_none e hp)]; exact e, n⟩
theorem Grow.ext (x : ∀ a o, H a = some o → H' a = some o) : Grow h H h H' := fun a o e n => ⟨x a o e, n⟩
theorem ORep.grow (x : Grow h H h' H') (e : H' a = H a) (r : ORep g h H a o) : ORep g h' H' a o := by
  cases o with
  | lst ws =>
    obtain ⟨vs, e1, r1, z⟩ := r
    exact ⟨vs, e.trans e1, Reps.grow x _ _ r1, z⟩
  | ins c ws =>
    obtain ⟨dx, vs, e1, l, r1⟩ := r
    exact ⟨dx, vs, e.trans e1, l, Reps.grow x _ _ r1⟩
theorem HRel.dom (r : HRel g h H) (e : h a = some o) : ∃ u, H a = some u := by
  have q := r.own a o e
  cases o with
  | lst ws => exact let ⟨vs, e1, _⟩ := q; ⟨_, e1⟩
  | ins c ws => exact let ⟨dx, vs, e1, _⟩ := q; ⟨_, e1⟩
theorem HRel.ext (r : HRel g h H) (x : ∀ a o, H a = some o → H' a = some o) : HRel g h H' := ⟨fun a o e => by
  obtain ⟨u, hu⟩ := r.dom e
  exact ORep.grow (Grow.ext x) (by rw [hu, x a u hu]) (r.own a o e), fun a ra => let ⟨n, vs, e⟩ := r.rsv a ra; ⟨n, vs, x _ _ e⟩⟩
theorem HRel.noR (r : HRel g h H) (hp : H p = none) : ¬ g.R p := fun z => by
  obtain ⟨_, vs, e⟩ := r.rsv p z
  rw [hp] at e; cases e
theorem HRel.noR' (r : HRel g h H) (ha : h a = some o) : ¬ g.R a := fun z => by
  have e := (r.rsv a z).1
  rw [ha] at e; cases e
theorem upd_ext (hp : H p = none) : ∀ a o, H a = some o → upd H p u a = some o := fun a o e => by
  rw [upd_ne (ne_of_none e hp)]; exact e
theorem HRel.new (r : HRel g h H) (hp : H p = none) : HRel g h (upd H p u) := r.ext (upd_ext hp)
theorem hset_same : hset h a o a = some o := by unfold hset; rw [if_pos rfl]
theorem hset_ne {b : Addr} (e : b ≠ a) : hset h a o b = h b := by unfold hset; rw [if_neg e]
theorem hdel_same : hdel h a a = none := by unfold hdel; rw [if_pos rfl]
theorem hdel_ne {b : Addr} (e : b ≠ a) : hdel h a b = h b := by unfold hdel; rw [if_neg e]
theorem hdel_hset (e : h a = none) : hdel (hset h a o) a = h := by
  funext b
  unfold hdel hset
  split
  · rename_i e1
    rw [e1, e]
  · rfl
/-- a new object of ours -/
theorem Grow.newO (hp : H p = none) : Grow h H (hset h p o) (upd H p u) := fun a w e n => by
  have ne := ne_of_none e hp
  exact ⟨by rw [upd_ne ne]; exact e, by rw [hset_ne ne]; exact n⟩
theorem HRel.newO (r : HRel g h H) (hp : H p = none) (q : ORep g (hset h p o) (upd H p u) p o) : HRel g (hset h p o) (upd H p u) := by
  refine ⟨fun a w e => ?_, fun a ra => ?_⟩
  · by_cases ea : a = p
    · subst ea
      rw [hset_same] at e; cases e
      exact q
    · rw [hset_ne ea] at e
      exact ORep.grow (Grow.newO hp) (upd_ne ea) (r.own a w e)
  · obtain ⟨n, vs, e⟩ := r.rsv a ra
    have ne := ne_of_none e hp
    exact ⟨by rw [hset_ne ne]; exact n, vs, by rw [upd_ne ne]; exact e⟩
/-- one of ours is changed -/
theorem Grow.chg {o' : O} (ha : h a = some o') : Grow h H (hset h a o) (upd H a u) := fun b w e n => by
  have ne : b ≠ a := fun z => by rw [z, ha] at n; cases n
  exact ⟨by rw [upd_ne ne]; exact e, by rw [hset_ne ne]; exact n⟩
theorem HRel.chg {o' : O} (r : HRel g h H) (ha : h a = some o') (q : ORep g (hset h a o) (upd H a u) a o) : HRel g (hset h a o) (upd H a u) := by
  refine ⟨fun b w e => ?_, fun b rb => ?_⟩
  · by_cases ea : b = a
    · subst ea
      rw [hset_same] at e; cases e
      exact q
    · rw [hset_ne ea] at e
      exact ORep.grow (Grow.chg ha) (upd_ne ea) (r.own b w e)
  · obtain ⟨n, vs, e⟩ := r.rsv b rb
    have ne : b ≠ a := fun z => by rw [z, ha] at n; cases n
    exact ⟨by rw [hset_ne ne]; exact n, vs, by rw [upd_ne ne]; exact e⟩
/-- one of ours is given up -/
theorem Grow.del : Grow h H (hdel h a) H := fun b w e n => ⟨e, by
  by_cases ea : b = a
  · rw [ea]; exact hdel_same
  · rw [hdel_ne ea]; exact n⟩
theorem HRel.del (r : HRel g h H) : HRel g (hdel h a) H := by
  refine ⟨fun b w e => ?_, fun b rb => ?_⟩
  · by_cases ea : b = a
    · rw [ea, hdel_same] at e; cases e
    · rw [hdel_ne ea] at e
      exact ORep.grow Grow.del rfl (r.own b w e)
  · obtain ⟨n, vs, e⟩ := r.rsv b rb
    refine ⟨?_, vs, e⟩
    by_cases ea : b = a
    · rw [ea]; exact hdel_same
    · rw [hdel_ne ea]; exact n

/-! ### a list, a tuple as it is read -/
theorem TupR.sq {K : PySem.W.Frag} {vs : List V} (r : TupR K h H a vs) : SqT K H a vs := by
  rcases r.1 with r | r
  · exact .inl r.1
  · rcases r with (r | ⟨_, r⟩) | r
    · cases r
    · cases r
    · exact .inr r
/-- what a viewed list is -/
theorem vw_lst {w : W} {v : V} {ws : List W} (hr : HRel g h H) (r : Rep g h H w v) (e : vw h w = .lst ws) : ∃ a vs, v = .ref a ∧ H a = some (.lst vs) ∧ Reps g h H ws vs ∧ vs.length ≤ sizeLine := by
  cases w with
  | lst us =>
    simp only [vw, W.lst.injEq] at e
    subst e
    simp only [Rep] at r
    obtain ⟨a, vs, e1, l, q⟩ := r
    exact ⟨a, vs, e1, l.1.1, q, l.2.1⟩
  | loc a =>
    simp only [vw] at e
    split at e
    · rename_i us e1
      cases e
      simp only [Rep] at r
      obtain ⟨vs, e2, q, z⟩ := hr.own a _ e1
      exact ⟨a, vs, r, e2, q, z⟩
    · cases e
  | _ => simp [vw] at e
theorem vw_tup {w : W} {v : V} {ws : List W} (r : Rep g h H w v) (e : vw h w = .tup ws) : ∃ a vs, v = .ref a ∧ SqT g.K H a vs ∧ Reps g h H ws vs ∧ vs.length ≤ sizeLine := by
  cases w with
  | tup us =>
    simp only [vw, W.tup.injEq] at e
    subst e
    simp only [Rep] at r
    obtain ⟨a, vs, e1, l, q⟩ := r
    exact ⟨a, vs, e1, l.sq, q, l.2⟩
  | loc a =>
    simp only [vw] at e
    split at e <;> cases e
  | _ => simp [vw] at e
theorem vw_int {w : W} {v : V} {i : Int} (r : Rep g h H w v) (e : vw h w = .int i) : v = .int i := by
  cases w with
  | int j =>
    simp only [vw, W.int.injEq] at e
    subst e
    simpa only [Rep] using r
  | loc a =>
    simp only [vw] at e
    split at e <;> cases e
  | _ => simp [vw] at e
theorem vw_str {w : W} {v : V} {i : Str} (r : Rep g h H w v) (e : vw h w = .str i) : v = .str i := by
  cases w with
  | str j =>
    simp only [vw, W.str.injEq] at e
    subst e
    simpa only [Rep] using r
  | loc a =>
    simp only [vw] at e
    split at e <;> cases e
  | _ => simp [vw] at e
theorem vw_bl {w : W} {v : V} {i : Bool} (r : Rep g h H w v) (e : vw h w = .bl i) : v = .bl i := by
  cases w with
  | bl j =>
    simp only [vw, W.bl.injEq] at e
    subst e
    simpa only [Rep] using r
  | loc a =>
    simp only [vw] at e
    split at e <;> cases e
  | _ => simp [vw] at e
theorem vw_non {w : W} {v : V} (r : Rep g h H w v) (e : vw h w = .non) : v = .non := by
  cases w with
  | non => simpa only [Rep] using r
  | loc a =>
    simp only [vw] at e
    split at e <;> cases e
  | _ => simp [vw] at e
/-- a new list of content -/
theorem rep_lst {ws : List W} {vs : List V} (hr : HRel g h H) (hp : H p = none) (q : Reps g h H ws vs) (z : vs.length ≤ sizeLine) : Rep g h (upd H p (.lst vs)) (.lst ws) (.ref p) := by
  simp only [Rep]
  exact ⟨p, vs, rfl, ⟨⟨upd_same, hr.free hp⟩, z, hr.noR hp⟩, Reps.grow (Grow.new hp) _ _ q⟩
theorem rep_tup {ws : List W} {vs : List V} (hr : HRel g h H) (hp : H p = none) (q : Reps g h H ws vs) (z : vs.length ≤ sizeLine) : Rep g h (upd H p (.tup vs)) (.tup ws) (.ref p) := by
  simp only [Rep]
  exact ⟨p, vs, rfl, ⟨.inl ⟨.inl upd_same, hr.free hp⟩, z⟩, Reps.grow (Grow.new hp) _ _ q⟩
end
/-! ### slots -/
theorem slot_put_same : ∀ {τ : En} {i : Nat} {w : W}, i < τ.length → slot (put τ i w) i = some w
  | [], _, _, h => by simp at h
  | _ :: _, 0, _, _ => rfl
  | _ :: r, i + 1, w, h => by
    simp only [put, slot]
    exact slot_put_same (by simpa using h)
theorem slot_put_ne : ∀ {τ : En} {i j : Nat} {w : W}, i ≠ j → slot (put τ i w) j = slot τ j
  | [], _, _, _, _ => rfl
  | _ :: _, 0, 0, _, h => absurd rfl h
  | _ :: _, 0, j + 1, _, _ => rfl
  | _ :: _, i + 1, 0, _, _ => rfl
  | _ :: r, i + 1, j + 1, w, h => by
    simp only [put, slot]
    exact slot_put_ne (by omega)
theorem put_length : ∀ {τ : En} {i : Nat} {w : W}, (put τ i w).length = τ.length
  | [], _, _ => rfl
  | _ :: _, 0, _ => rfl
  | _ :: r, i + 1, w => by simp only [put, List.length_cons, put_length]
theorem slot_clr_same : ∀ {τ : En} {i : Nat}, slot (clr τ i) i = none
  | [], _ => rfl
  | _ :: _, 0 => rfl
  | _ :: r, i + 1 => by
    simp only [clr, slot]
    exact slot_clr_same
theorem slot_clr_ne : ∀ {τ : En} {i j : Nat}, i ≠ j → slot (clr τ i) j = slot τ j
  | [], _, _, _ => rfl
  | _ :: _, 0, 0, h => absurd rfl h
  | _ :: _, 0, j + 1, _ => rfl
  | _ :: _, i + 1, 0, _ => rfl
  | _ :: r, i + 1, j + 1, h => by
    simp only [clr, slot]
    exact slot_clr_ne (by omega)
theorem clr_length : ∀ {τ : En} {i : Nat}, (clr τ i).length = τ.length
  | [], _ => rfl
  | _ :: _, 0 => rfl
  | _ :: r, i + 1 => by simp only [clr, List.length_cons, clr_length]
section
variable {g : Gd} {h : Hw} {H : Hp} {τ : En} {σ : L2.St}
theorem SRel.put {i : Nat} {w : W} {v : V} (s : SRel g h H τ σ) (r : Rep g h H w v) : SRel g h H (put τ i w) (σ.set i (some v)) := by
  refine ⟨by rw [put_length, List.length_set]; exact s.1, fun j u e => ?_⟩
  by_cases hij : i = j
  · subst hij
    by_cases hl : i < τ.length
    · rw [slot_put_same hl] at e; cases e
      refine ⟨v, ?_, r⟩
      rw [List.getElem?_set_self (by rw [← s.1]; exact hl)]
    · exfalso
      have : ∀ {τ : En} {i : Nat} {w : W}, τ.length ≤ i → slot τ i = none := by
        intro τ
        induction τ with
        | nil => intros; rfl
        | cons x r ih =>
          intro i w hh
          cases i with
          | zero => simp at hh
          | succ i =>
            simp only [slot]
            exact ih (w := w) (by simpa using hh)
      rw [this (w := w) (by rw [put_length]; omega)] at e; cases e
  · rw [slot_put_ne hij] at e
    obtain ⟨v', e1, r1⟩ := s.2 j u e
    exact ⟨v', by rw [List.getElem?_set_ne hij]; exact e1, r1⟩
theorem SRel.clr {i : Nat} (s : SRel g h H τ σ) : SRel g h H (clr τ i) (σ.set i none) := by
  refine ⟨by rw [clr_length, List.length_set]; exact s.1, fun j u e => ?_⟩
  by_cases hij : i = j
  · subst hij
    rw [slot_clr_same] at e; cases e
  · rw [slot_clr_ne hij] at e
    obtain ⟨v', e1, r1⟩ := s.2 j u e
    exact ⟨v', by rw [List.getElem?_set_ne hij]; exact e1, r1⟩
theorem SRel.clrs (s : SRel g h H τ σ) : ∀ vs : List Nat, SRel g h H (clrs τ vs) (wipe σ vs)
  | [] => s
  | v :: vs => (SRel.clrs s vs).clr
end
end Ri
end
section
set_option Elab.async false
set_option linter.all false
set_option maxRecDepth 100000
/-! Ri, part 3: operators, comparisons, subscripts by values. -/
namespace Ri
open PySem L2
theorem lim_le {n : Nat} (h : n ≤ lim) : n ≤ sizeLine := Nat.le_trans h (by decide)
theorem lim_lt {n : Nat} (h : n < lim) : n < sizeLine := Nat.lt_of_lt_of_le h (by decide)
def Bop.op : Bop → Operator
  | .add => .Add | .sub => .Sub | .mul => .Mult | .fdiv => .FloorDiv | .mod => .Mod | .pow => .Pow
def Cop.op : Cop → CmpOp
  | .eq => .Eq | .ne => .NotEq | .lt => .Lt | .le => .LtE | .gt => .Gt | .ge => .GtE | .inn => .In | .nin => .NotIn
/-- what follows, the heap of ours as it was -/
abbrev PostH (g : Gd) (h : Hw) (H : Hp) (P : W → Prop) (Q : VK) : Prop := ∀ z v H', P z → Grow h H h H' → HRel g h H' → Rep g h H' z v → Q v H'
theorem rep_length {α : Type} (xs : List α) : ∀ n : Nat, (rep n xs).length = n * xs.length
  | 0 => by simp [rep]
  | n + 1 => by
    have ih := rep_length xs n
    simp only [rep, List.replicate_succ, List.flatten_cons, List.length_append] at ih ⊢
    rw [ih, Nat.succ_mul, Nat.add_comm]
theorem rep_reps {g : Gd} {h : Hw} {H : Hp} {ws : List W} {vs : List V} (r : Reps g h H ws vs) : ∀ m : Nat, Reps g h H (rep m ws) (rep m vs)
  | 0 => by simp [rep, Reps]
  | m + 1 => by
    have ih := rep_reps r m
    simp only [rep, List.replicate_succ, List.flatten_cons] at ih ⊢
    exact r.append ih
def isLst : W → Bool
  | .lst _ => true
  | _ => false
/-- what follows where a list that comes is new -/
def FrH (g : Gd) (h : Hw) (H : Hp) (P : W → Prop) (Q : VK) : Prop :=
  (∀ ws, P (.lst ws) → ∀ vs p H1, Grow h H h H1 → HRel g h H1 → H1 p = none → Reps g h H1 ws vs → vs.length ≤ sizeLine → Q (.ref p) (upd H1 p (.lst vs))) ∧
  ∀ z v H', P z → isLst z = false → Grow h H h H' → HRel g h H' → Rep g h H' z v → Q v H'
def rBin (g : Gd) (o : Bop) : R2 := fun x y H Q => ∃ h w1 w2 P, HRel g h H ∧ Rep g h H w1 x ∧ Rep g h H w2 y ∧ binW o (vw h w1) (vw h w2) P ∧ FrH g h H P Q
/-- a reading by values, whatever is being made -/
def exR (r : Gd → R2) (g : Gd) : R2 := fun x y H Q => ∃ R, r (g.at R) x y H Q
section
variable {g : Gd} {X : Cx}
theorem opR_ex {f : Value → Value → Sem Value} {r : Gd → R2} (h : ∀ R, OpR X f (r (g.at R))) : OpR X f (exR r g) := fun pins s σ H x y v u Q I rx ry ⟨R, q⟩ => h R pins s σ H x y v u Q I rx ry q
theorem rep_int {h : Hw} {H : Hp} {i : Int} : Rep g h H (.int i) (.int i) := by simp only [Rep]
theorem rep_bl {h : Hw} {H : Hp} {i : Bool} : Rep g h H (.bl i) (.bl i) := by simp only [Rep]
theorem rep_str {h : Hw} {H : Hp} {i : Str} : Rep g h H (.str i) (.str i) := by simp only [Rep]
theorem rep_non {h : Hw} {H : Hp} : Rep g h H .non .non := by simp only [Rep]
theorem opStrMul : OpR X (binaryOp .Mult) (fun x y H Q => ∃ (s : Str) (n : Int), x = .str s ∧ y = .int n ∧ (0 ≤ n ∧ n ≤ 1000 ∧ s.length ≤ 1000) ∧ Q (.str ⟨(rep n.toNat s.cps.toList).toArray⟩) H) := by
  intro pins st σ H x y v u Q I rx ry q
  obtain ⟨s, n, rfl, rfl, ⟨h1, h2, h3⟩, q⟩ := q
  obtain ⟨t, rfl⟩ := rx
  obtain ⟨t', rfl⟩ := ry
  have fl : ∀ m : Nat, (List.replicate m s.cps).foldl (· ++ ·) #[] = (rep m s.cps.toList).toArray := by
    intro m
    have gen : ∀ (m : Nat) (acc : Array Nat), (List.replicate m s.cps).foldl (· ++ ·) acc = acc ++ (rep m s.cps.toList).toArray := by
      intro m
      induction m with
      | zero => intro acc; simp [rep]
      | succ m ih =>
        intro acc
        rw [List.replicate_succ, List.foldl_cons, ih]
        simp only [rep, List.replicate_succ, List.flatten_cons]
        apply Array.ext'
        simp
    have := gen m #[]
    simpa using this
  refine PySem.P.mul_str ?_ (fun _ _ => ?_) (fun _ _ => ?_) ?_
  · have e1 : ¬ n < -(2 ^ 63 : Int) := by omega
    have e2 : ¬ n ≥ 2 ^ 63 := by omega
    rw [decide_eq_false e1, decide_eq_false e2]; rfl
  · have hn : 0 < n := by omega
    have : (s.length : Int) ≤ (2 ^ 63 - 1) / n := by
      refine Int.le_ediv_of_mul_le hn ?_
      have : (s.length : Int) * n ≤ 1000 * 1000 := Int.mul_le_mul (by omega) h2 h1 (by omega)
      omega
    omega
  · have : s.length * n.toNat ≤ 1000 * 1000 := Nat.mul_le_mul h3 (by omega)
    unfold Builtin.Str.tooLong
    first
      | exact decide_eq_false (by rw [sizeLine_eq]; omega)
      | (simp only [sizeLine_eq]; simp; omega)
  · split
    · rename_i hn
      have : n.toNat = 0 := by omega
      have e : (⟨(rep n.toNat s.cps.toList).toArray⟩ : Str) = Str.empty := by rw [this]; rfl
      rw [e] at q
      exact ⟨by decide, .str _, H, I.tok _, ⟨_, rfl⟩, q⟩
    · split
      · rename_i hn hc
        have e : (⟨(rep n.toNat s.cps.toList).toArray⟩ : Str) = s := by
          simp only [Bool.or_eq_true, beq_iff_eq] at hc
          rcases hc with hc | hc
          · subst hc
            simp [rep]
          · have : s.cps = #[] := by
              apply Array.eq_empty_of_size_eq_zero
              exact hc
            cases s
            simp only at this
            subst this
            simp [rep]
        rw [e] at q
        exact ⟨.str _, H, I, ⟨_, rfl⟩, q⟩
      · rw [fl]
        refine ⟨?_, .str _, H, I.tok _, ⟨_, rfl⟩, q⟩
        show _ ≤ _
        have : (rep n.toNat s.cps.toList).length ≤ 1000 * 1000 := by
          rw [rep_length]
          exact Nat.mul_le_mul (by omega) h3
        refine Nat.le_trans ?_ (Nat.le_trans this (by decide))
        show (rep n.toNat s.cps.toList).toArray.size ≤ _
        simp
theorem opBin (hK : X.K = g.K) (o : Bop) : OpR X (binaryOp o.op) (rBin g o) := by
  rintro pins s σ H x y v u Q I rx ry ⟨h, w1, w2, P, hr, r1, r2, q, post⟩
  cases o with
  | add =>
    cases e1 : vw h w1 <;> cases e2 : vw h w2 <;> rw [e1, e2] at q <;> first | exact False.elim q | skip
    · exact op_add pins s σ H x y v u Q I rx ry ⟨_, _, vw_int r1 e1, vw_int r2 e2, post.2 _ _ _ q rfl Grow.refl hr rep_int⟩
    · exact op_add_str pins s σ H x y v u Q I rx ry ⟨_, _, vw_str r1 e1, vw_str r2 e2, lim_le q.1, post.2 _ _ _ q.2 rfl Grow.refl hr rep_str⟩
    · obtain ⟨a, xs, ea, ha, ra, lza⟩ := vw_tup r1 e1
      obtain ⟨b, ys, eb, hb, rb, lzb⟩ := vw_tup r2 e2
      have la := ra.length
      have lb := rb.length
      have hz : xs.length + ys.length ≤ sizeLine := by rw [← la, ← lb]; exact lim_le q.1
      rw [← hK] at ha hb
      subst ea eb
      refine op_catA pins s σ H _ _ v u Q I rx ry ⟨a, b, xs, ys, rfl, rfl, ha, hb, hz, fun z => ?_, fun _ z => ?_, fun _ _ p hp => ?_⟩
      · subst z
        have : _ = ([] : List W) := List.eq_nil_of_length_eq_zero la
        subst this
        exact post.2 _ _ _ q.2 rfl Grow.refl hr (by simp only [Rep, List.nil_append]; cases w2 with
          | tup us =>
            simp only [vw, W.tup.injEq] at e2
            subst e2
            simpa only [Rep] using r2
          | loc a =>
            simp only [vw] at e2
            split at e2 <;> cases e2
          | _ => simp [vw] at e2)
      · subst z
        have : _ = ([] : List W) := List.eq_nil_of_length_eq_zero lb
        subst this
        exact post.2 _ _ _ q.2 rfl Grow.refl hr (by simp only [Rep, List.append_nil]; cases w1 with
          | tup us =>
            simp only [vw, W.tup.injEq] at e1
            subst e1
            simpa only [Rep] using r1
          | loc a =>
            simp only [vw] at e1
            split at e1 <;> cases e1
          | _ => simp [vw] at e1)
      · exact post.2 _ _ _ q.2 rfl (Grow.new hp) (hr.new hp) (rep_tup hr hp (ra.append rb) (by rw [List.length_append]; exact hz))
    · obtain ⟨a, xs, ea, ha, ra, lza⟩ := vw_lst hr r1 e1
      obtain ⟨b, ys, eb, hb, rb, lzb⟩ := vw_lst hr r2 e2
      have la := ra.length
      have lb := rb.length
      have hz : xs.length + ys.length ≤ sizeLine := by rw [← la, ← lb]; exact lim_le q.1
      subst ea eb
      exact op_cat pins s σ H _ _ v u Q I rx ry ⟨a, b, xs, ys, rfl, rfl, ha, hb, hz, fun p hp => post.1 _ q.2 _ _ _ Grow.refl hr hp (ra.append rb) (by rw [List.length_append]; exact hz)⟩
  | sub =>
    cases e1 : vw h w1 <;> cases e2 : vw h w2 <;> rw [e1, e2] at q <;> first | exact False.elim q | skip
    exact op_sub pins s σ H x y v u Q I rx ry ⟨_, _, vw_int r1 e1, vw_int r2 e2, post.2 _ _ _ q rfl Grow.refl hr rep_int⟩
  | mul =>
    cases e1 : vw h w1 <;> cases e2 : vw h w2 <;> rw [e1, e2] at q <;> first | exact False.elim q | skip
    · obtain ⟨q1, q⟩ := q
      rcases q1 with q1 | ⟨q1, q2⟩
      · exact op_mul pins s σ H x y v u Q I rx ry ⟨_, _, vw_int r1 e1, vw_int r2 e2, q1, post.2 _ _ _ q rfl Grow.refl hr rep_int⟩
      · exact op_mulW pins s σ H x y v u Q I rx ry ⟨_, _, vw_int r1 e1, vw_int r2 e2, wide_mul q1 q2 (by decide) (by decide) (by decide), post.2 _ _ _ q rfl Grow.refl hr rep_int⟩
    · exact opStrMul pins s σ H x y v u Q I rx ry ⟨_, _, vw_str r1 e1, vw_int r2 e2, q.1, post.2 _ _ _ q.2 rfl Grow.refl hr rep_str⟩
    · obtain ⟨a, xs, ea, ha, ra, lza⟩ := vw_tup r1 e1
      have la := ra.length
      rw [← hK] at ha
      subst ea
      obtain ⟨⟨q1, q2, q3, q4⟩, q⟩ := q
      rename_i i
      have hz : (rep i.toNat xs).length ≤ sizeLine := by
        rw [rep_length]
        exact Nat.le_trans (Nat.mul_le_mul (show i.toNat ≤ 1000 by omega) (show xs.length ≤ 1000 by omega)) (by decide)
      refine op_repT pins s σ H _ _ v u Q I rx ry ⟨a, _, xs, rfl, vw_int r2 e2, ha, fun z => ?_, q1, q2, by omega, fun p hp => post.2 _ _ _ q rfl (Grow.new hp) (hr.new hp) (rep_tup hr hp (rep_reps ra _) hz)⟩
      subst z
      exact q3 (List.eq_nil_of_length_eq_zero la)
    · obtain ⟨a, xs, ea, ha, ra, lza⟩ := vw_lst hr r1 e1
      have la := ra.length
      subst ea
      obtain ⟨⟨q0, q1, q4⟩, q⟩ := q
      rename_i i
      by_cases hi : i < 0
      · have e0 : i.toNat = 0 := by omega
        by_cases hlow : -(2 ^ 63) ≤ i
        · have hz : xs.length * i.toNat ≤ sizeLine := by rw [e0]; exact Nat.zero_le _
          exact op_rep pins s σ H _ _ v u Q I rx ry ⟨a, _, xs, rfl, vw_int r2 e2, ha, hlow, by omega, hz, fun p hp => post.1 _ q _ _ _ Grow.refl hr hp (rep_reps ra _) (by show (rep i.toNat xs).length ≤ _; rw [rep_length, e0, Nat.zero_mul]; exact Nat.zero_le _)⟩
        · omega
      · have hm : xs.length * i.toNat ≤ 1000 * 1000 := Nat.mul_le_mul (show xs.length ≤ 1000 by omega) (show i.toNat ≤ 1000 by omega)
        have hz : xs.length * i.toNat ≤ sizeLine := Nat.le_trans hm (by decide)
        exact op_rep pins s σ H _ _ v u Q I rx ry ⟨a, _, xs, rfl, vw_int r2 e2, ha, by omega, by omega, hz, fun p hp => post.1 _ q _ _ _ Grow.refl hr hp (rep_reps ra _) (by show (rep i.toNat xs).length ≤ _; rw [rep_length, Nat.mul_comm]; exact hz)⟩
  | fdiv =>
    cases e1 : vw h w1 <;> cases e2 : vw h w2 <;> rw [e1, e2] at q <;> first | exact False.elim q | skip
    simp only [binW] at q
    split at q
    · rename_i hj
      exact op_fdivW pins s σ H x y v u Q I rx ry ⟨_, _, vw_int r1 e1, vw_int r2 e2, wide_div hj q.1 (by decide) (by decide), post.2 _ _ _ q.2 rfl Grow.refl hr rep_int⟩
    · exact op_fdivN pins s σ H x y v u Q I rx ry ⟨_, _, vw_int r1 e1, vw_int r2 e2, ⟨by omega, by omega⟩, post.2 _ _ _ q.2 rfl Grow.refl hr rep_int⟩
  | mod =>
    cases e1 : vw h w1 <;> cases e2 : vw h w2 <;> rw [e1, e2] at q <;> first | exact False.elim q | skip
    exact op_mod pins s σ H x y v u Q I rx ry ⟨_, _, vw_int r1 e1, vw_int r2 e2, q.1, post.2 _ _ _ q.2 rfl Grow.refl hr rep_int⟩
  | pow =>
    cases e1 : vw h w1 <;> cases e2 : vw h w2 <;> rw [e1, e2] at q <;> first | exact False.elim q | skip
    exact op_pow pins s σ H x y v u Q I rx ry ⟨_, _, vw_int r1 e1, vw_int r2 e2, ⟨q.1.1, (by have := q.1.2.1; omega), (by have := q.1.2.2; omega)⟩, post.2 _ _ _ q.2 rfl Grow.refl hr rep_int⟩

/-! ### comparisons -/
mutual
theorem toD_dp {h : Hw} {H : Hp} : ∀ (w : W) (v : V) (d : PyData), Rep g h H w v → toD w = some d → Dp g.K H v d
  | .non, v, d, r, e => by
    simp only [Rep] at r
    simp only [toD, Option.some.injEq] at e
    subst r e; exact .non
  | .bl b, v, d, r, e => by
    simp only [Rep] at r
    simp only [toD, Option.some.injEq] at e
    subst r e; exact .bl _
  | .int b, v, d, r, e => by
    simp only [Rep] at r
    simp only [toD, Option.some.injEq] at e
    subst r e; exact .int _
  | .str b, v, d, r, e => by
    simp only [Rep] at r
    simp only [toD, Option.some.injEq] at e
    subst r e; exact .str _
  | .tup ws, v, d, r, e => by
    simp only [Rep] at r
    obtain ⟨a, vs, e1, t, q⟩ := r
    simp only [toD] at e
    cases e2 : toDs ws with
    | none => rw [e2] at e; cases e
    | some ds =>
      rw [e2] at e
      simp only [Option.map_some, Option.some.injEq] at e
      subst e1 e
      exact .tup t.sq (toDs_dp ws vs ds q e2)
  | .lst ws, v, d, r, e => by
    simp only [Rep] at r
    obtain ⟨a, vs, e1, t, q⟩ := r
    simp only [toD] at e
    cases e2 : toDs ws with
    | none => rw [e2] at e; cases e
    | some ds =>
      rw [e2] at e
      simp only [Option.map_some, Option.some.injEq] at e
      subst e1 e
      exact .lst (.inl (.inl t.1.1)) (toDs_dp ws vs ds q e2)
  | .obj _ _, _, _, _, e => by simp only [toD] at e; cases e
  | .exc _ _, _, _, _, e => by simp only [toD] at e; cases e
  | .scr _, _, _, _, e => by simp only [toD] at e; cases e
  | .loc _, _, _, _, e => by simp only [toD] at e; cases e
theorem toDs_dp {h : Hw} {H : Hp} : ∀ (ws : List W) (vs : List V) (ds : List PyData), Reps g h H ws vs → toDs ws = some ds → DpAll g.K H vs ds
  | [], vs, ds, r, e => by
    simp only [Reps] at r
    simp only [toDs, Option.some.injEq] at e
    subst r e; exact .nil
  | w :: ws, vs, ds, r, e => by
    simp only [Reps] at r
    obtain ⟨v, vs', e1, r1, r2⟩ := r
    simp only [toDs] at e
    cases e2 : toD w with
    | none => rw [e2] at e; cases e
    | some d =>
      rw [e2] at e
      cases e3 : toDs ws with
      | none => rw [e3] at e; cases e
      | some ds' =>
        rw [e3] at e
        simp only [Option.bind_some, Option.map_some, Option.some.injEq] at e
        subst e1 e
        exact .cons (toD_dp w v d r1 e2) (toDs_dp ws vs' ds' r2 e3)
end
end
section
variable {g : Gd} {X : Cx}
/-- a view's data is the value's -/
theorem vw_dp {h : Hw} {H : Hp} {w : W} {v : V} {d : PyData} (hr : HRel g h H) (r : Rep g h H w v) (e : toD (vw h w) = some d) : Dp g.K H v d := by
  cases w with
  | loc a =>
    simp only [vw] at e
    split at e
    · rename_i ws e1
      simp only [Rep] at r
      obtain ⟨vs, e2, q, z⟩ := hr.own a _ e1
      simp only [toD] at e
      cases e3 : toDs ws with
      | none => rw [e3] at e; cases e
      | some ds =>
        rw [e3] at e
        simp only [Option.map_some, Option.some.injEq] at e
        subst e r
        exact .lst (.inl (.inl e2)) (toDs_dp ws vs ds q e3)
    · simp only [toD] at e; cases e
  | _ => exact toD_dp _ v d r (by simpa only [vw] using e)
def rEqW (g : Gd) (neg : Bool) : R2 := fun x y H Q => ∃ h w1 w2 P, HRel g h H ∧ Rep g h H w1 x ∧ Rep g h H w2 y ∧ eqW (vw h w1) (vw h w2) P ∧ ∀ b, P b → Q (.bl (if neg then !b else b)) H
theorem opEqW (hK : X.K = g.K) (hu : X.A.units + 64 < cLine) : OpR X (compareOp .Eq) (rEqW g false) := by
  rintro pins s σ H x y v u Q I rx ry ⟨h, w1, w2, P, hr, r1, r2, q, post⟩
  have dat : eqD (vw h w1) (vw h w2) P → wpAny (model X.prog X.w) X.A (compareOp .Eq v u) (EP X pins σ Q) X.xe s := fun q => by
    unfold eqD at q
    split at q
    · rename_i d e e1 e2
      exact op_eqD hu pins s σ H x y v u Q I rx ry ⟨d, e, by rw [hK]; exact vw_dp hr r1 e1, by rw [hK]; exact vw_dp hr r2 e2, q.1.1, q.1.2, post _ q.2⟩
    · exact False.elim q
  unfold eqW at q
  split at q
  · rename_i i j e1 e2
    have a1 := vw_int r1 e1
    have a2 := vw_int r2 e2
    subst a1 a2
    refine op_eq pins s σ H _ _ v u Q I rx ry ⟨rfl, ?_⟩
    have e : decide (V.int i = V.int j) = decide (i = j) := by simp
    rw [e]
    exact post _ q
  · rename_i i j e1 e2
    have a1 := vw_str r1 e1
    have a2 := vw_str r2 e2
    subst a1 a2
    refine op_eq pins s σ H _ _ v u Q I rx ry ⟨rfl, ?_⟩
    have e : decide (V.str i = V.str j) = decide (i = j) := by simp
    rw [e]
    exact post _ q
  · rename_i i j e1 e2
    have a1 := vw_bl r1 e1
    have a2 := vw_bl r2 e2
    subst a1 a2
    refine op_eq pins s σ H _ _ v u Q I rx ry ⟨rfl, ?_⟩
    have e : decide (V.bl i = V.bl j) = decide (i = j) := by simp
    rw [e]
    exact post _ q
  · exact dat q
theorem opNeW (hK : X.K = g.K) (hu : X.A.units + 64 < cLine) : OpR X (compareOp .NotEq) (rEqW g true) := by
  rintro pins s σ H x y v u Q I rx ry ⟨h, w1, w2, P, hr, r1, r2, q, post⟩
  have dat : eqD (vw h w1) (vw h w2) P → wpAny (model X.prog X.w) X.A (compareOp .NotEq v u) (EP X pins σ Q) X.xe s := fun q => by
    unfold eqD at q
    split at q
    · rename_i d e e1 e2
      exact op_neD hu pins s σ H x y v u Q I rx ry ⟨d, e, by rw [hK]; exact vw_dp hr r1 e1, by rw [hK]; exact vw_dp hr r2 e2, q.1.1, q.1.2, post _ q.2⟩
    · exact False.elim q
  unfold eqW at q
  split at q
  · rename_i i j e1 e2
    have a1 := vw_int r1 e1
    have a2 := vw_int r2 e2
    subst a1 a2
    refine op_ne pins s σ H _ _ v u Q I rx ry ⟨rfl, ?_⟩
    have e : decide (V.int i = V.int j) = decide (i = j) := by simp
    rw [e]
    exact post _ q
  · rename_i i j e1 e2
    have a1 := vw_str r1 e1
    have a2 := vw_str r2 e2
    subst a1 a2
    refine op_ne pins s σ H _ _ v u Q I rx ry ⟨rfl, ?_⟩
    have e : decide (V.str i = V.str j) = decide (i = j) := by simp
    rw [e]
    exact post _ q
  · rename_i i j e1 e2
    have a1 := vw_bl r1 e1
    have a2 := vw_bl r2 e2
    subst a1 a2
    refine op_ne pins s σ H _ _ v u Q I rx ry ⟨rfl, ?_⟩
    have e : decide (V.bl i = V.bl j) = decide (i = j) := by simp
    rw [e]
    exact post _ q
  · exact dat q
theorem flat_rep {h : Hw} {H : Hp} {w : W} {v : V} (r : Rep g h H w v) (f : flatW w = true) : flatV v = true := by
  cases w <;> simp only [flatW, Bool.false_eq_true] at f <;> (simp only [Rep] at r; subst r; rfl)
theorem eqF_rep {h : Hw} {H : Hp} {w z : W} {v u : V} (r : Rep g h H w v) (q : Rep g h H z u) (f : flatW w = true) (f2 : flatW z = true) : eqV v u = eqF w z := by
  cases w <;> simp only [flatW, Bool.false_eq_true] at f <;> cases z <;> simp only [flatW, Bool.false_eq_true] at f2 <;> (simp only [Rep] at r q; subst r q; rfl)
theorem flats_rep {h : Hw} {H : Hp} : ∀ {ws : List W} {vs : List V}, Reps g h H ws vs → ws.all flatW = true → vs.all flatV = true
  | [], _, r, _ => by
    simp only [Reps] at r
    subst r; rfl
  | w :: ws, _, r, f => by
    simp only [Reps] at r
    obtain ⟨v, vs', e, r1, r2⟩ := r
    subst e
    simp only [List.all_cons, Bool.and_eq_true] at f ⊢
    exact ⟨flat_rep r1 f.1, flats_rep r2 f.2⟩
theorem inF_rep {h : Hw} {H : Hp} {x : W} {xv : V} (rx : Rep g h H x xv) (fx : flatW x = true) : ∀ {ws : List W} {vs : List V}, Reps g h H ws vs → ws.all flatW = true → inV xv vs = ws.any fun y => eqF y x
  | [], _, r, _ => by
    simp only [Reps] at r
    subst r; rfl
  | w :: ws, _, r, f => by
    simp only [Reps] at r
    obtain ⟨v, vs', e, r1, r2⟩ := r
    subst e
    simp only [List.all_cons, Bool.and_eq_true] at f
    have ih := inF_rep rx fx r2 f.2
    unfold inV at ih ⊢
    simp only [List.any_cons, ih, eqF_rep r1 rx f.1 fx]
theorem vw_flat {h : Hw} {w : W} (f : flatW (vw h w) = true) : vw h w = w := by
  cases w with
  | loc a =>
    exfalso
    simp only [vw] at f
    split at f <;> simp [flatW] at f
  | _ => simp only [vw]
def rInW (g : Gd) (neg : Bool) : R2 := fun x y H Q => ∃ h w1 w2 P, HRel g h H ∧ Rep g h H w1 x ∧ Rep g h H w2 y ∧ inW (vw h w1) (vw h w2) P ∧ ∀ b, P b → Q (.bl (if neg then !b else b)) H
theorem opInW (hK : X.K = g.K) (hu : X.A.units + 65 < cLine) : OpR X (compareOp .In) (rInW g false) := by
  rintro pins s σ H x y v u Q I rx ry ⟨h, w1, w2, P, hr, r1, r2, q, post⟩
  cases e2 : vw h w2 <;> rw [e2] at q <;> first | exact False.elim q | skip
  · simp only [inW] at q
    split at q
    · rename_i t w' c e1
      exact op_in_sign pins s σ H x y v u Q I rx ry ⟨c, t, vw_str r1 e1, vw_str r2 e2, post _ q⟩
    · exact False.elim q
  · simp only [inW] at q
    obtain ⟨a, xs, ea, ha, ra, lza⟩ := vw_tup r2 e2
    subst ea
    have ev := vw_flat q.1.1
    rw [ev] at q
    refine op_in_seq pins s σ H x _ v u Q I rx ry ⟨a, xs, rfl, .inr (by rw [hK]; exact ha), flat_rep r1 q.1.1, flats_rep ra q.1.2, ?_⟩
    have e := inF_rep r1 q.1.1 ra q.1.2
    rw [if_neg Bool.false_ne_true, e]
    exact post _ q.2
  · simp only [inW] at q
    split at q
    · rename_i hf
      simp only [Bool.and_eq_true] at hf
      obtain ⟨a, xs, ea, ha, ra, lza⟩ := vw_lst hr r2 e2
      subst ea
      have ev := vw_flat hf.1
      rw [ev] at q hf
      refine op_in_seq pins s σ H x _ v u Q I rx ry ⟨a, xs, rfl, .inl (.inl (.inl ha)), flat_rep r1 hf.1, flats_rep ra hf.2, ?_⟩
      have e := inF_rep r1 hf.1 ra hf.2
      rw [if_neg Bool.false_ne_true, e]
      exact post _ q
    · split at q
      · rename_i d ds e1 e3
        exact op_inD hu pins s σ H x y v u Q I rx ry ⟨d, ds, by rw [hK]; exact vw_dp hr r1 e1, by rw [hK]; exact vw_dp hr r2 (by rw [e2]; simp only [toD, e3]; rfl), q.1.1, q.1.2, post _ q.2⟩
      · exact False.elim q
theorem opNotInW (hK : X.K = g.K) (hu : X.A.units + 65 < cLine) : OpR X (compareOp .NotIn) (rInW g true) := by
  rintro pins s σ H x y v u Q I rx ry ⟨h, w1, w2, P, hr, r1, r2, q, post⟩
  cases e2 : vw h w2 <;> rw [e2] at q <;> first | exact False.elim q | skip
  · simp only [inW] at q
    split at q
    · rename_i t w' c e1
      exact op_notIn_sign pins s σ H x y v u Q I rx ry ⟨c, t, vw_str r1 e1, vw_str r2 e2, post _ q⟩
    · exact False.elim q
  · simp only [inW] at q
    obtain ⟨a, xs, ea, ha, ra, lza⟩ := vw_tup r2 e2
    subst ea
    have ev := vw_flat q.1.1
    rw [ev] at q
    refine op_notIn_seq pins s σ H x _ v u Q I rx ry ⟨a, xs, rfl, .inr (by rw [hK]; exact ha), flat_rep r1 q.1.1, flats_rep ra q.1.2, ?_⟩
    have e := inF_rep r1 q.1.1 ra q.1.2
    rw [if_pos rfl, e]
    exact post _ q.2
  · simp only [inW] at q
    split at q
    · rename_i hf
      simp only [Bool.and_eq_true] at hf
      obtain ⟨a, xs, ea, ha, ra, lza⟩ := vw_lst hr r2 e2
      subst ea
      have ev := vw_flat hf.1
      rw [ev] at q hf
      refine op_notIn_seq pins s σ H x _ v u Q I rx ry ⟨a, xs, rfl, .inl (.inl (.inl ha)), flat_rep r1 hf.1, flats_rep ra hf.2, ?_⟩
      have e := inF_rep r1 hf.1 ra hf.2
      rw [if_pos rfl, e]
      exact post _ q
    · split at q
      · rename_i d ds e1 e3
        exact op_notInD hu pins s σ H x y v u Q I rx ry ⟨d, ds, by rw [hK]; exact vw_dp hr r1 e1, by rw [hK]; exact vw_dp hr r2 (by rw [e2]; simp only [toD, e3]; rfl), q.1.1, q.1.2, post _ q.2⟩
      · exact False.elim q
/-- a comparison, whatever it is -/
def rCmp (g : Gd) (o : Cop) : R2 := fun x y H Q => ∃ h w1 w2 P, HRel g h H ∧ Rep g h H w1 x ∧ Rep g h H w2 y ∧ cmpW o (vw h w1) (vw h w2) P ∧ ∀ b, P b → Q (.bl b) H
theorem opCmp (hK : X.K = g.K) (hu : X.A.units + 65 < cLine) (o : Cop) : OpR X (compareOp o.op) (rCmp g o) := by
  rintro pins s σ H x y v u Q I rx ry ⟨h, w1, w2, P, hr, r1, r2, q, post⟩
  cases o with
  | eq => exact opEqW hK (by omega) pins s σ H x y v u Q I rx ry ⟨h, w1, w2, P, hr, r1, r2, q, fun b => post b⟩
  | ne => exact opNeW hK (by omega) pins s σ H x y v u Q I rx ry ⟨h, w1, w2, fun b => P (!b), hr, r1, r2, q, fun b hb => post _ hb⟩
  | inn => exact opInW hK hu pins s σ H x y v u Q I rx ry ⟨h, w1, w2, P, hr, r1, r2, q, fun b => post b⟩
  | nin => exact opNotInW hK hu pins s σ H x y v u Q I rx ry ⟨h, w1, w2, fun b => P (!b), hr, r1, r2, q, fun b hb => post _ hb⟩
  | lt =>
    cases e1 : vw h w1 <;> cases e2 : vw h w2 <;> rw [e1, e2] at q <;> first | exact False.elim q | skip
    exact op_lt pins s σ H x y v u Q I rx ry ⟨_, _, vw_int r1 e1, vw_int r2 e2, post _ q⟩
  | le =>
    cases e1 : vw h w1 <;> cases e2 : vw h w2 <;> rw [e1, e2] at q <;> first | exact False.elim q | skip
    exact op_le pins s σ H x y v u Q I rx ry ⟨_, _, vw_int r1 e1, vw_int r2 e2, post _ q⟩
  | gt =>
    cases e1 : vw h w1 <;> cases e2 : vw h w2 <;> rw [e1, e2] at q <;> first | exact False.elim q | skip
    exact op_gt pins s σ H x y v u Q I rx ry ⟨_, _, vw_int r1 e1, vw_int r2 e2, post _ q⟩
  | ge =>
    cases e1 : vw h w1 <;> cases e2 : vw h w2 <;> rw [e1, e2] at q <;> first | exact False.elim q | skip
    exact op_ge pins s σ H x y v u Q I rx ry ⟨_, _, vw_int r1 e1, vw_int r2 e2, post _ q⟩
end
end Ri
end
section
set_option Elab.async false
set_option linter.all false
set_option maxRecDepth 100000
/-! Ri, part 4: the context of a body, what an expression's wp gives for the hand layer's judgements. -/
namespace Ri
open PySem L2
/-- an exception's class and own dict, by its name and fields -/
def RepX (g : Gd) (h : Hw) (H : Hp) (c : String) (ws : List W) (cls : Value) (d : Option Addr) : Prop :=
  cls = .ref (g.XA c) ∧ ((ws = [] ∧ d = none) ∨ ∃ dd vs, d = some dd ∧ h dd = none ∧ H dd = some (.xd ((xflds c).zip vs)) ∧ ws.length ≤ (xflds c).length ∧ Reps g h H ws vs)
def PostE (g : Gd) (h : Hw) (H : Hp) (P : KW) (Q : VK) : Prop := ∀ w h' v H', P w h' → Grow h H h' H' → HRel g h' H' → Rep g h' H' w v → Q v H'
def PostA (g : Gd) (h : Hw) (H : Hp) (P : List W → Hw → Prop) (Q : List V → Hp → Prop) : Prop := ∀ ws h' vs H', P ws h' → Grow h H h' H' → HRel g h' H' → Reps g h' H' ws vs → Q vs H'
def PostX (g : Gd) (h : Hw) (H : Hp) (E : XW) (Q : XK) : Prop := ∀ c ws h' cls d H', E c ws h' → Grow h H h' H' → HRel g h' H' → RepX g h' H' c ws cls d → Q cls d H'
/-- a def's promise, by its meaning -/
def spR (g : Gd) (C : Calls) (f : String) : Sp := fun vs H Q E => ∃ R h ws P E', HRel (g.at R) h H ∧ Reps (g.at R) h H ws vs ∧ C f ws h P E' ∧ PostE (g.at R) h H P Q ∧ PostX (g.at R) h H E' E
def TR (g : Gd) (C : Calls) (W' : WX) (e : Ex) : TE := fun σ H Q => ∃ R τ h P E, HRel (g.at R) h H ∧ SRel (g.at R) h H τ σ ∧ wpE C e τ h P E ∧ PostE (g.at R) h H P Q ∧ PostX (g.at R) h H E fun cls d H' => W' cls d σ H'
def TRs (g : Gd) (C : Calls) (W' : WX) (es : List Ex) : TA := fun σ H Q => ∃ R τ h P E, HRel (g.at R) h H ∧ SRel (g.at R) h H τ σ ∧ wpEs C es τ h P E ∧ PostA (g.at R) h H P Q ∧ PostX (g.at R) h H E fun cls d H' => W' cls d σ H'

/-- the static side of a body: its scope, its names by slot; which defs, methods, classes, builtins, constants it may use -/
structure Sx where
  sc : Scope
  N : List Str
  fs : List String
  ms : List (Cl × String × String)
  cl : List Cl
  nc : List Cl
  free : List String
  cs : List (String × W)
  kd : List Kd
  ms1 : List (Cl × String × String)
  fc : Option Scope

/-- what a value is, for isinstance -/
inductive Tag where
  | non | bl | int | str | tup | lst | obj (c : Cl)
  deriving DecidableEq
def tagV (g : Gd) : Tag → Value
  | .non => .type "NoneType"
  | .bl => .type "bool"
  | .int => .type "int"
  | .str => .type "str"
  | .tup => .type "tuple"
  | .lst => .type "list"
  | .obj c => .ref (g.CA c)
def kdS : Kd → String
  | .int => "int"
  | .bool => "bool"
  | .str => "str"
  | .tuple => "tuple"
  | .list => "list"
  | .cls c => nmOf c
  | .err => ""
def kdU (g : Gd) : Kd → Value
  | .cls c => .ref (g.CA c)
  | k => .type (kdS k)
def kdV (g : Gd) : Kd → V
  | .cls c => .ref (g.CA c)
  | k => .ty (kdS k)
def kdT : Kd → Tag → Bool
  | .int, .int => true
  | .int, .bl => true
  | .bool, .bl => true
  | .str, .str => true
  | .tuple, .tup => true
  | .list, .lst => true
  | .cls c, .obj d => decide (c = d)
  | _, _ => false
def tagIn (S : Sx) : Tag → Bool
  | .obj c => S.cl.contains c
  | _ => true

/-- the context of a body, as the rules want it -/
structure Xk (g : Gd) (C : Calls) (W' : WX) (S : Sx) (X : Cx) : Prop where
  k : X.K = g.K
  n : X.N = S.N
  nd : S.N.Nodup
  s : X.env.scope = S.sc
  calm : X.calm = true
  fn : match S.fc with
    | none => ∀ x, X.fn x = true
    | some sc => ∀ x, X.fn x = (sc.names.lookup x == some .cell)
  kf : S.sc.kind = .function
  room : Room 1 X.A
  po : PassesOwn (model X.prog X.w) X.A X.env X.xe
  tk : Takes X W'
  callf : ∀ f ∈ S.fs, ∃ k fa fd ps, FnOk X.prog X.w X.K X.mg X.base (L2.CX X.prog X.w) k fa fd ps (spR g C f) ∧ Room k X.A ∧ X.mg (Str.ofString f) = some (.ref fa) ∧ PySem.W.keepIn X.K (.ref fa) = true ∧ Binds X.K fd ps []
  methf : ∀ p ∈ S.ms, ∃ k fa fd ps, FnOk X.prog X.w X.K X.mg X.base (L2.CX X.prog X.w) k fa fd ps (spR g C p.2.2) ∧ Room k X.A ∧ Meth X.K (g.CA p.1) (Str.ofString p.2.1) fa ∧ Binds X.K fd ps [] ∧ Str.ofString p.2.1 ∉ flds p.1
  newf : ∀ c ∈ S.nc, ∃ k fa fd ps, Mk X.K (g.CA c) fa ∧ FnOk X.prog X.w X.K X.mg X.base (L2.CX X.prog X.w) k fa fd ps (spR g C (initOf c)) ∧ Room (k + 1) X.A ∧ X.mg (Str.ofString (nmOf c)) = some (.ref (g.CA c)) ∧ Binds X.K fd ps []
  clf : ∀ c ∈ S.cl, Cls X.K (g.CA c) ∧ ∀ f ∈ flds c, NoAttr X.K (g.CA c) f
  fr : ∀ x ∈ S.free, X.mg (Str.ofString x) = none
  kit : ∀ k ∈ S.kd, ∀ t : Tag, tagIn S t = true → PySem.W.kitOne X.K (tagV g t) (kdU g k) = some (kdT k t)
  kin : ∀ k ∈ S.kd, (∃ c, k = .cls c ∧ X.mg (Str.ofString (nmOf c)) = some (.ref (g.CA c))) ∨ (k ≠ .err ∧ (∀ c, k ≠ .cls c) ∧ X.mg (Str.ofString (kdS k)) = none)
  cty : ∀ c ∈ S.cl, PySem.W.findIn X.K (.ref (g.CA c)) "__class__" = some (some (.builtin "object.__class__")) ∧ PySem.W.specialIn X.K (.builtin "object.__class__") "__get__" = some (some (.builtin "getset_descriptor.__get__")) ∧ PySem.W.takesIn X.K (.builtin "object.__class__") = some true ∧ PySem.W.mroIn X.K (g.CA c) (.type "object") = some true
  /-- properties, and == -/
  prf : ∀ p ∈ S.ms1, ∃ k fa fd ps, FnOk X.prog X.w X.K X.mg X.base (L2.CX X.prog X.w) k fa fd ps (spR g C p.2.2) ∧ Room (k + 1) X.A ∧ Binds X.K fd ps [] ∧
    ((p.2.1 ≠ "__eq__" ∧ ∃ pa, PropOf X.K (g.CA p.1) (Str.ofString p.2.1) pa fa) ∨ p.2.1 = "__eq__" ∧ PySem.W.findIn X.K (.ref (g.CA p.1)) "__eq__" = some (some (.ref fa)) ∧ PySem.W.isFn X.K (.ref fa) = true)
  cst : ∀ p ∈ S.cs, ∃ v u, X.mg (Str.ofString p.1) = some u ∧ RelV v u ∧ ∀ R h H, Rep (g.at R) h H p.2 v

theorem pe_imp {X : Cx} {e : Expr} {t t' : TE} (h : PE X e t) (k : ∀ σ H Q, t' σ H Q → t σ H Q) : PE X e t' := ⟨fun pins s σ H Q I q => h.run pins s σ H Q I (k σ H Q q)⟩
theorem pt_imp {X : Cx} {e : Expr} {t t' : TT} (h : PT X e t) (k : ∀ σ H Q, t' σ H Q → t σ H Q) : PT X e t' := ⟨fun pins s σ H Q I q => h.run pins s σ H Q I (k σ H Q q)⟩
theorem pa_imp {X : Cx} {e : List Expr} {t t' : TA} (h : PA X e t) (k : ∀ σ H Q, t' σ H Q → t σ H Q) : PA X e t' := ⟨fun pos pins s σ H Q I q => h.run pos pins s σ H Q I (k σ H Q q)⟩
theorem ps_imp {X : Cx} {e : Stmt} {t t' : TS} (h : PS X e t) (k : ∀ D σ H, t' D σ H → t D σ H) : PS X e t' := ⟨fun pins s σ H Q I q => h.run pins s σ H Q I (k Q σ H q)⟩

section
variable {g : Gd} {C : Calls} {W' : WX} {S : Sx} {X : Cx}
/-- a part's reading, from its wp and what follows -/
theorem tr_mk {R : Addr → Prop} {e : Ex} {τ : En} {h : Hw} {P : KW} {E : XW} {σ : L2.St} {H : Hp} {Q : VK} (hr : HRel (g.at R) h H) (sr : SRel (g.at R) h H τ σ) (hx : PostX (g.at R) h H E fun cls d H' => W' cls d σ H') (hw : wpE C e τ h P E) (k : PostE (g.at R) h H P Q) : TR g C W' e σ H Q := ⟨R, τ, h, P, E, hr, sr, hw, k, hx⟩
theorem trs_mk {R : Addr → Prop} {e : List Ex} {τ : En} {h : Hw} {P : List W → Hw → Prop} {E : XW} {σ : L2.St} {H : Hp} {Q : List V → Hp → Prop} (hr : HRel (g.at R) h H) (sr : SRel (g.at R) h H τ σ) (hx : PostX (g.at R) h H E fun cls d H' => W' cls d σ H') (hw : wpEs C e τ h P E) (k : PostA (g.at R) h H P Q) : TRs g C W' e σ H Q := ⟨R, τ, h, P, E, hr, sr, hw, k, hx⟩
theorem PostX.grow {h h' : Hw} {H H' : Hp} {E : XW} {Q : XK} (x : Grow h H h' H') (p : PostX g h H E Q) : PostX g h' H' E Q := fun c ws h2 cls d H2 e y hr r => p c ws h2 cls d H2 e (x.trans y) hr r
theorem PostE.grow {h h' : Hw} {H H' : Hp} {P : KW} {Q : VK} (x : Grow h H h' H') (p : PostE g h H P Q) : PostE g h' H' P Q := fun w h2 v H2 e y r q => p w h2 v H2 e (x.trans y) r q

/-! ### names and constants -/
theorem s_var {i : Nat} {x : Str} {pos : Pos} (hN : X.N[i]? = some x) (hv : Vis X.env.scope x) (hd : (x == ("__debug__" : Str)) = false) (hcd : (x == ("__classdict__" : Str)) = false) : PE X (.Name x pos) (TR g C W' (.var i)) := by
  refine pe_imp (pe_var (i := i) hN hv hd hcd) ?_
  rintro σ H Q ⟨R, τ, h, P, E, hr, sr, hw, post, hx⟩
  simp only [wpE] at hw
  split at hw
  · rename_i w e
    obtain ⟨v, e1, r⟩ := sr.2 i w e
    exact ⟨v, e1, post w h v H hw Grow.refl hr r⟩
  · exact hw.elim
theorem s_int {i : Int} {j : Nat} {pos : Pos} : PE X (.Constant (.int i) j pos) (TR g C W' (.int i)) := by
  refine pe_imp pe_int ?_
  rintro σ H Q ⟨R, τ, h, P, E, hr, sr, hw, post, hx⟩
  exact post _ h _ H hw Grow.refl hr rep_int
theorem s_bl {i : Bool} {j : Nat} {pos : Pos} : PE X (.Constant (.bool i) j pos) (TR g C W' (.bl i)) := by
  refine pe_imp pe_bl ?_
  rintro σ H Q ⟨R, τ, h, P, E, hr, sr, hw, post, hx⟩
  exact post _ h _ H hw Grow.refl hr rep_bl
theorem s_non {j : Nat} {pos : Pos} : PE X (.Constant .none j pos) (TR g C W' .non) := by
  refine pe_imp pe_non ?_
  rintro σ H Q ⟨R, τ, h, P, E, hr, sr, hw, post, hx⟩
  exact post _ h _ H hw Grow.refl hr rep_non
theorem s_str {s : Str} {j : Nat} {pos : Pos} : PE X (.Constant (.str s) j pos) (TR g C W' (.str s)) := by
  refine pe_imp pe_str ?_
  rintro σ H Q ⟨R, τ, h, P, E, hr, sr, hw, post, hx⟩
  exact post _ h _ H hw Grow.refl hr rep_str
theorem s_cst {x : String} {w : W} {pos : Pos} (hX : Xk g C W' S X) (hm : (x, w) ∈ S.cs) (hg : Gl X (Str.ofString x)) (hd : (Str.ofString x == ("__debug__" : Str)) = false) : PE X (.Name (Str.ofString x) pos) (TR g C W' (.cst x w)) := by
  obtain ⟨v, u, e, r, rp⟩ := hX.cst _ hm
  refine pe_imp (pe_glob hg e r hd) ?_
  rintro σ H Q ⟨R, τ, h, P, E, hr, sr, hw, post, hx⟩
  exact post _ h _ H hw Grow.refl hr (rp R h H)

/-! ### operators -/
variable {a b c : Expr} {a' b' c' : Ex} {pos : Pos}
/-- what follows where a list that comes is new -/
def FrP (g : Gd) (h : Hw) (H : Hp) (P : KW) (Q : VK) : Prop :=
  (∀ ws h', P (.lst ws) h' → ∀ vs p H1, Grow h H h' H1 → HRel g h' H1 → H1 p = none → Reps g h' H1 ws vs → vs.length ≤ sizeLine → Q (.ref p) (upd H1 p (.lst vs))) ∧
  ∀ z h' v H', P z h' → isLst z = false → Grow h H h' H' → HRel g h' H' → Rep g h' H' z v → Q v H'
def TF (g : Gd) (C : Calls) (W' : WX) (e : Ex) : TE := fun σ H Q => ∃ R τ h P E, HRel (g.at R) h H ∧ SRel (g.at R) h H τ σ ∧ wpE C e τ h P E ∧ FrP (g.at R) h H P Q ∧ PostX (g.at R) h H E fun cls d H' => W' cls d σ H'
theorem FrP.grow {h h' : Hw} {H H' : Hp} {P : KW} {Q : VK} (x : Grow h H h' H') (p : FrP g h H P Q) : FrP g h' H' P Q :=
  ⟨fun ws h2 e vs pp H1 y => p.1 ws h2 e vs pp H1 (x.trans y), fun z h2 v H2 e n y => p.2 z h2 v H2 e n (x.trans y)⟩
theorem PostE.fr {h : Hw} {H : Hp} {P : KW} {Q : VK} (p : PostE g h H P Q) : FrP g h H P Q :=
  ⟨fun ws h' e vs pp H1 y hr hp r z => p _ h' _ _ e (y.trans (Grow.new hp)) (hr.new hp) (rep_lst hr hp r z), fun z h' v H' e _ y hr r => p z h' v H' e y hr r⟩
theorem FrP.frH {h : Hw} {H : Hp} {P : KW} {Q : VK} (p : FrP g h H P Q) : FrH g h H (fun z => P z h) Q := ⟨fun ws e => p.1 ws h e, fun z v H' e => p.2 z h v H' e⟩
/-- by content -/
theorem tf_tr {e : Ex} {σ : L2.St} {H : Hp} {Q : VK} (q : TR g C W' e σ H Q) : TF g C W' e σ H Q := by
  obtain ⟨R, τ, h, P, E, hr, sr, hw, post, hx⟩ := q
  exact ⟨R, τ, h, P, E, hr, sr, hw, post.fr, hx⟩
/-- kept in the heap -/
theorem tf_own {e : Ex} {σ : L2.St} {H : Hp} {Q : VK} (q : TR g C W' (.own e) σ H Q) : TF g C W' e σ H Q := by
  obtain ⟨R, τ, h, P, E, hr, sr, hw, post, hx⟩ := q
  refine ⟨R, τ, h, _, E, hr, sr, hw, ⟨fun ws h' q vs p H1 y hr1 hp r z => ?_, fun z h' v H' q n y hr1 r => ?_⟩, hx⟩
  · have hn := hr1.free hp
    refine post (.loc p) _ _ _ (q p hn) (y.trans (Grow.newO hp)) (hr1.newO hp ⟨vs, upd_same, Reps.grow (Grow.newO hp) _ _ r, z⟩) (by simp only [Rep])
  · cases z <;> first | exact False.elim q | cases n
theorem opBinX (hX : Xk g C W' S X) (o : Bop) : OpR X (binaryOp o.op) (exR (rBin · o) g) := opR_ex fun R => opBin (g := g.at R) hX.k o
theorem s_binF (hX : Xk g C W' S X) (o : Bop) (ha : PE X a (TR g C W' a')) (hb : PE X b (TR g C W' b')) : PE X (.BinOp a o.op b pos) (TF g C W' (.bin o a' b')) := by
  refine pe_imp (pe_op (opBinX hX o) ha hb) ?_
  rintro σ H Q ⟨R, τ, h, P, E, hr, sr, hw, post, hx⟩
  refine tr_mk hr sr hx hw fun w1 h1 v1 H1 q1 g1 hr1 r1 => ?_
  refine tr_mk hr1 (sr.grow g1) (hx.grow g1) q1 fun w2 h2 v2 H2 q2 g2 hr2 r2 => ?_
  exact ⟨R, h2, w1, w2, _, hr2, Rep.grow g2 _ _ r1, r2, q2, (post.grow (g1.trans g2)).frH⟩
theorem s_bin (hX : Xk g C W' S X) (o : Bop) (ha : PE X a (TR g C W' a')) (hb : PE X b (TR g C W' b')) : PE X (.BinOp a o.op b pos) (TR g C W' (.bin o a' b')) := pe_imp (s_binF hX o ha hb) fun _ _ _ => tf_tr
theorem s_neg (ha : PE X a (TR g C W' a')) : PE X (.UnaryOp .USub a pos) (TR g C W' (.neg a')) := by
  refine pe_imp (pe_un un_neg ha) ?_
  rintro σ H Q ⟨R, τ, h, P, E, hr, sr, hw, post, hx⟩
  refine tr_mk hr sr hx hw fun w1 h1 v1 H1 q1 g1 hr1 r1 => ?_
  cases w1 <;> first | exact False.elim q1 | skip
  simp only [Rep] at r1
  exact ⟨_, r1, post _ h1 _ H1 q1 g1 hr1 rep_int⟩
theorem units65 (hX : Xk g C W' S X) : X.A.units + 65 < cLine := by have := hX.room.un; omega
theorem opCmpX (hX : Xk g C W' S X) (o : Cop) : OpR X (compareOp o.op) (exR (rCmp · o) g) := opR_ex fun R => opCmp (g := g.at R) hX.k (units65 hX) o
theorem t_cmp (hX : Xk g C W' S X) (o : Cop) {σ : L2.St} {H : Hp} {Q : VK} (q : TR g C W' (.cmp o a' b') σ H Q) : tOp (exR (rCmp · o) g) (TR g C W' a') (TR g C W' b') σ H Q := by
  obtain ⟨R, τ, h, P, E, hr, sr, hw, post, hx⟩ := q
  refine tr_mk hr sr hx hw fun w1 h1 v1 H1 q1 g1 hr1 r1 => ?_
  refine tr_mk hr1 (sr.grow g1) (hx.grow g1) q1 fun w2 h2 v2 H2 q2 g2 hr2 r2 => ?_
  exact ⟨R, h2, w1, w2, _, hr2, Rep.grow g2 _ _ r1, r2, q2, fun z q => post _ h2 _ H2 q (g1.trans g2) hr2 rep_bl⟩
theorem s_cmp (hX : Xk g C W' S X) (o : Cop) (ha : PE X a (TR g C W' a')) (hb : PE X b (TR g C W' b')) (hm : behindInMarks o.op b = false) : PE X (.Compare a [o.op] [b] pos) (TR g C W' (.cmp o a' b')) :=
  pe_imp (pe_cmpR (opCmpX hX o) ha hb hm) fun σ H Q q => t_cmp hX o q
theorem c_cmp (hX : Xk g C W' S X) (o : Cop) (ha : PE X a (TR g C W' a')) (hb : PE X b (TR g C W' b')) (hm : behindInMarks o.op b = false) : PT X (.Compare a [o.op] [b] pos) (tB (TR g C W' (.cmp o a' b'))) :=
  pt_imp (pt_cmpR (opCmpX hX o) ha hb hm) fun σ H Q q => t_cmp hX o q
theorem isNon_rep {h : Hw} {H : Hp} {w : W} {v : V} (r : Rep g h H w v) : decide (v = .non) = isNon w := by
  cases w with
  | non => simp only [Rep] at r; subst r; rfl
  | exc _ _ => simp only [Rep] at r
  | tup _ => simp only [Rep] at r; obtain ⟨_, _, e, _⟩ := r; subst e; rfl
  | lst _ => simp only [Rep] at r; obtain ⟨_, _, e, _⟩ := r; subst e; rfl
  | scr _ => simp only [Rep] at r; obtain ⟨_, _, e, _⟩ := r; subst e; rfl
  | obj _ _ => simp only [Rep] at r; obtain ⟨_, _, _, e, _⟩ := r; subst e; rfl
  | _ => simp only [Rep] at r; subst r; rfl
def nonOp : Bool → CmpOp
  | true => .IsNot
  | false => .Is
theorem s_isN (ng : Bool) {j : Nat} {p2 : Pos} (ha : PE X a (TR g C W' a')) : PE X (.Compare a [nonOp ng] [.Constant .none j p2] pos) (TR g C W' (.isN ng a')) := by
  cases ng with
  | true =>
    refine pe_imp (pe_cmpR op_notN ha pe_non (nomark _)) ?_
    rintro σ H Q ⟨R, τ, h, P, E, hr, sr, hw, post, hx⟩
    refine tr_mk hr sr hx hw fun w1 h1 v1 H1 q1 g1 hr1 r1 => ?_
    exact ⟨rfl, by rw [isNon_rep r1]; exact post _ h1 _ H1 q1 g1 hr1 rep_bl⟩
  | false =>
    refine pe_imp (pe_cmpR op_isN ha pe_non (nomark _)) ?_
    rintro σ H Q ⟨R, τ, h, P, E, hr, sr, hw, post, hx⟩
    refine tr_mk hr sr hx hw fun w1 h1 v1 H1 q1 g1 hr1 r1 => ?_
    exact ⟨rfl, by rw [isNon_rep r1]; exact post _ h1 _ H1 q1 g1 hr1 rep_bl⟩
theorem c_isN (ng : Bool) {j : Nat} {p2 : Pos} (ha : PE X a (TR g C W' a')) : PT X (.Compare a [nonOp ng] [.Constant .none j p2] pos) (tB (TR g C W' (.isN ng a'))) := by
  cases ng with
  | true =>
    refine pt_imp (pt_cmpR op_notN ha pe_non (nomark _)) ?_
    rintro σ H Q ⟨R, τ, h, P, E, hr, sr, hw, post, hx⟩
    refine tr_mk hr sr hx hw fun w1 h1 v1 H1 q1 g1 hr1 r1 => ?_
    exact ⟨rfl, by rw [isNon_rep r1]; exact post _ h1 _ H1 q1 g1 hr1 rep_bl⟩
  | false =>
    refine pt_imp (pt_cmpR op_isN ha pe_non (nomark _)) ?_
    rintro σ H Q ⟨R, τ, h, P, E, hr, sr, hw, post, hx⟩
    refine tr_mk hr sr hx hw fun w1 h1 v1 H1 q1 g1 hr1 r1 => ?_
    exact ⟨rfl, by rw [isNon_rep r1]; exact post _ h1 _ H1 q1 g1 hr1 rep_bl⟩
theorem t_chn (hX : Xk g C W' S X) (o p : Cop) {σ : L2.St} {H : Hp} {Q : VK} (q : TR g C W' (.chn o p a' b' c') σ H Q) : tChain (exR (rCmp · o) g) (exR (rCmp · p) g) (TR g C W' a') (TR g C W' b') (TR g C W' c') σ H Q := by
  obtain ⟨R, τ, h, P, E, hr, sr, hw, post, hx⟩ := q
  refine tr_mk hr sr hx hw fun w1 h1 v1 H1 q1 g1 hr1 r1 => ?_
  refine tr_mk hr1 (sr.grow g1) (hx.grow g1) q1 fun w2 h2 v2 H2 q2 g2 hr2 r2 => ?_
  refine ⟨R, h2, w1, w2, _, hr2, Rep.grow g2 _ _ r1, r2, q2, fun z q3 => ⟨z, rfl, ?_⟩⟩
  cases z with
  | true =>
    refine iteT (tr_mk hr2 (sr.grow (g1.trans g2)) (hx.grow (g1.trans g2)) q3 fun w3 h3 v3 H3 q4 g3 hr3 r3 => ?_)
    exact ⟨R, h3, w2, w3, _, hr3, Rep.grow g3 _ _ r2, r3, q4, fun z q => post _ h3 _ H3 q ((g1.trans g2).trans g3) hr3 rep_bl⟩
  | false => exact iteF (post _ h2 _ H2 q3 (g1.trans g2) hr2 rep_bl)
theorem s_chn (hX : Xk g C W' S X) (o p : Cop) (ha : PE X a (TR g C W' a')) (hb : PE X b (TR g C W' b')) (hc : PE X c (TR g C W' c')) (hm : lastMarks [o.op, p.op] [b, c] = false) : PE X (.Compare a [o.op, p.op] [b, c] pos) (TR g C W' (.chn o p a' b' c')) :=
  pe_imp (pe_chain (opCmpX hX o) (opCmpX hX p) ha hb hc hm) fun σ H Q q => t_chn hX o p q
theorem c_chn (hX : Xk g C W' S X) (o p : Cop) (ha : PE X a (TR g C W' a')) (hb : PE X b (TR g C W' b')) (hc : PE X c (TR g C W' c')) (hm : lastMarks [o.op, p.op] [b, c] = false) : PT X (.Compare a [o.op, p.op] [b, c] pos) (tB (TR g C W' (.chn o p a' b' c'))) :=
  pt_imp (pt_chain (opCmpX hX o) (opCmpX hX p) ha hb hc hm) fun σ H Q q => t_chn hX o p q

/-! ### and, or, not, if -/
variable {rest : List Expr}
theorem s_and (ha : PE X a (TR g C W' a')) (hb : PE X (.BoolOp .And (b :: rest) pos) (TR g C W' b')) : PE X (.BoolOp .And (a :: b :: rest) pos) (TR g C W' (.and a' b')) := by
  refine pe_imp (pe_and ha hb) ?_
  rintro σ H Q ⟨R, τ, h, P, E, hr, sr, hw, post, hx⟩
  refine tr_mk hr sr hx hw fun w1 h1 v1 H1 q1 g1 hr1 r1 => ?_
  cases w1 <;> first | exact False.elim q1 | skip
  rename_i k
  simp only [Rep] at r1
  refine ⟨k, r1, ?_⟩
  cases k with
  | true => exact iteT (tr_mk hr1 (sr.grow g1) (hx.grow g1) q1 (post.grow g1))
  | false => exact iteF (post _ h1 _ H1 q1 g1 hr1 rep_bl)
theorem s_or (ha : PE X a (TR g C W' a')) (hb : PE X (.BoolOp .Or (b :: rest) pos) (TR g C W' b')) : PE X (.BoolOp .Or (a :: b :: rest) pos) (TR g C W' (.or a' b')) := by
  refine pe_imp (pe_or ha hb) ?_
  rintro σ H Q ⟨R, τ, h, P, E, hr, sr, hw, post, hx⟩
  refine tr_mk hr sr hx hw fun w1 h1 v1 H1 q1 g1 hr1 r1 => ?_
  cases w1 <;> first | exact False.elim q1 | skip
  rename_i k
  simp only [Rep] at r1
  refine ⟨k, r1, ?_⟩
  cases k with
  | true => exact iteT (post _ h1 _ H1 q1 g1 hr1 rep_bl)
  | false => exact iteF (tr_mk hr1 (sr.grow g1) (hx.grow g1) q1 (post.grow g1))
theorem s_not (ha : PE X a (TR g C W' a')) : PE X (.UnaryOp .Not a pos) (TR g C W' (.not a')) := by
  refine pe_imp (pe_not ha) ?_
  rintro σ H Q ⟨R, τ, h, P, E, hr, sr, hw, post, hx⟩
  refine tr_mk hr sr hx hw fun w1 h1 v1 H1 q1 g1 hr1 r1 => ?_
  cases w1 <;> first | exact False.elim q1 | skip
  simp only [Rep] at r1
  exact ⟨_, r1, post _ h1 _ H1 q1 g1 hr1 rep_bl⟩
theorem s_ite (hc : PT X c (tB (TR g C W' c'))) (ha : PE X a (TR g C W' a')) (hb : PE X b (TR g C W' b')) : PE X (.IfExp c a b pos) (TR g C W' (.ite c' a' b')) := by
  refine pe_imp (pe_ifExp hc ha hb) ?_
  rintro σ H Q ⟨R, τ, h, P, E, hr, sr, hw, post, hx⟩
  refine tr_mk hr sr hx hw fun w1 h1 v1 H1 q1 g1 hr1 r1 => ?_
  cases w1 <;> first | exact False.elim q1 | skip
  rename_i k
  simp only [Rep] at r1
  refine ⟨k, r1, ?_⟩
  cases k with
  | true => exact iteT (tr_mk hr1 (sr.grow g1) (hx.grow g1) q1 (post.grow g1))
  | false => exact iteF (tr_mk hr1 (sr.grow g1) (hx.grow g1) q1 (post.grow g1))
theorem c_and (ha : PT X a (tB (TR g C W' a'))) (hb : PW X (.BoolOp .And (b :: rest) pos) (tB (TR g C W' b'))) : PW X (.BoolOp .And (a :: b :: rest) pos) (tB (TR g C W' (.and a' b'))) := by
  have p := pw_and ha hb
  refine ⟨fun wh pins s σ H Q I q => p.run wh pins s σ H Q I ?_⟩
  obtain ⟨R, τ, h, P, E, hr, sr, hw, post, hx⟩ := q
  refine tr_mk hr sr hx hw fun w1 h1 v1 H1 q1 g1 hr1 r1 => ?_
  cases w1 <;> first | exact False.elim q1 | skip
  rename_i k
  simp only [Rep] at r1
  refine ⟨k, r1, ?_⟩
  cases k with
  | true => exact iteT (tr_mk hr1 (sr.grow g1) (hx.grow g1) q1 (post.grow g1))
  | false =>
    obtain ⟨d, e, q⟩ := post _ h1 _ H1 q1 g1 hr1 rep_bl
    cases e
    exact iteF q
theorem c_or (ha : PT X a (tB (TR g C W' a'))) (hb : PW X (.BoolOp .Or (b :: rest) pos) (tB (TR g C W' b'))) : PW X (.BoolOp .Or (a :: b :: rest) pos) (tB (TR g C W' (.or a' b'))) := by
  have p := pw_or ha hb
  refine ⟨fun wh pins s σ H Q I q => p.run wh pins s σ H Q I ?_⟩
  obtain ⟨R, τ, h, P, E, hr, sr, hw, post, hx⟩ := q
  refine tr_mk hr sr hx hw fun w1 h1 v1 H1 q1 g1 hr1 r1 => ?_
  cases w1 <;> first | exact False.elim q1 | skip
  rename_i k
  simp only [Rep] at r1
  refine ⟨k, r1, ?_⟩
  cases k with
  | true =>
    obtain ⟨d, e, q⟩ := post _ h1 _ H1 q1 g1 hr1 rep_bl
    cases e
    exact iteT q
  | false => exact iteF (tr_mk hr1 (sr.grow g1) (hx.grow g1) q1 (post.grow g1))
theorem c_not (ha : PT X a (tB (TR g C W' a'))) : PT X (.UnaryOp .Not a pos) (tB (TR g C W' (.not a'))) := by
  refine pt_imp (pt_not ha) ?_
  rintro σ H Q ⟨R, τ, h, P, E, hr, sr, hw, post, hx⟩
  refine tr_mk hr sr hx hw fun w1 h1 v1 H1 q1 g1 hr1 r1 => ?_
  cases w1 <;> first | exact False.elim q1 | skip
  simp only [Rep] at r1
  refine ⟨_, r1, ?_⟩
  obtain ⟨d, e, q⟩ := post _ h1 _ H1 q1 g1 hr1 rep_bl
  cases e
  exact q

/-! ### arguments, displays -/
theorem s_nil : PA X [] (TRs g C W' []) := by
  refine pa_imp pa_nil ?_
  rintro σ H Q ⟨R, τ, h, P, E, hr, sr, hw, post, hx⟩
  exact post [] h [] H hw Grow.refl hr (by simp only [Reps])
theorem s_cons {e : Expr} {es : List Expr} {e' : Ex} {es' : List Ex} (ha : PE X e (TR g C W' e')) (hb : PA X es (TRs g C W' es')) (hs : starEach (e :: es) X.env = (false, eval e X.env) :: starEach es X.env) : PA X (e :: es) (TRs g C W' (e' :: es')) := by
  refine pa_imp (pa_cons ha hb hs) ?_
  rintro σ H Q ⟨R, τ, h, P, E, hr, sr, hw, post, hx⟩
  refine tr_mk hr sr hx hw fun w1 h1 v1 H1 q1 g1 hr1 r1 => ?_
  refine trs_mk hr1 (sr.grow g1) (hx.grow g1) q1 fun ws2 h2 vs2 H2 q2 g2 hr2 r2 => ?_
  exact post (w1 :: ws2) h2 (v1 :: vs2) H2 q2 (g1.trans g2) hr2 (by simp only [Reps]; exact ⟨v1, vs2, rfl, Rep.grow g2 _ _ r1, r2⟩)
theorem le1000 {n : Nat} (h : n ≤ 1000) : n ≤ sizeLine := Nat.le_trans h (by decide)
theorem s_tup {es : List Expr} {es' : List Ex} {x1 : Nat} (ha : PA X es (TRs g C W' es')) : PE X (.Tuple es x1 pos) (TR g C W' (.tup es')) := by
  refine pe_imp (pe_tup ha) ?_
  rintro σ H Q ⟨R, τ, h, P, E, hr, sr, hw, post, hx⟩
  refine trs_mk hr sr hx hw fun ws h1 vs H1 q g1 hr1 r => ?_
  have l := r.length
  exact ⟨le1000 (by rw [← l]; exact q.1), fun p hp => post _ h1 _ _ q.2 (g1.trans (Grow.new hp)) (hr1.new hp) (rep_tup hr1 hp r (le1000 (by rw [← l]; exact q.1)))⟩
end
end Ri
end
section
set_option Elab.async false
set_option linter.all false
set_option maxRecDepth 100000
set_option maxHeartbeats 2000000
/-! Ri, part 5: what a loop or a comprehension walks: lists and tuples, ranges, enumerate from any start, zip of any two. -/
namespace Ri
open PySem L2
/-- a list (false) or a tuple (true) as it is read -/
def Src (K : PySem.W.Frag) (H : Hp) (tp : Bool) (a : Addr) (xs : List V) : Prop := match tp with
  | true => SqT K H a xs
  | false => SqL K H a xs
def Coll (h : Heap) (tp : Bool) (a : Addr) (its : Array Value) : Prop := match tp with
  | true => h.IsTuple a its
  | false => h.IsList a its
def IterAt (h : Heap) (tp : Bool) (it a : Addr) (i : Nat) : Prop := match tp with
  | true => h.IsTupleIter it a i
  | false => h.IsListIter it a i
def itO (tp : Bool) (a : Addr) : Obj := match tp with
  | true => { cls := .type "tuple_iterator", data := .fields #[.ref a, .int 0 0] }
  | false => { cls := .type "list_iterator", data := .fields #[.ref a, .int 0 0] }
section
variable {X : Cx} {pins : List (Addr × Obj)} {σ : L2.St} {H : Hp} {s : Shared}
theorem src_coll {tp : Bool} {a : Addr} {xs : List V} (I : Inv X pins σ H s) (q : Src X.K H tp a xs) : ∃ its : List Value, Vals xs its ∧ Coll s.heap tp a its.toArray := by
  cases tp with
  | true => exact let ⟨its, r, p, _⟩ := I.tuple q; ⟨its, r, p⟩
  | false => exact let ⟨its, r, p, _⟩ := I.list q; ⟨its, r, p.isList⟩
theorem src_inj {tp : Bool} {a : Addr} {xs ys : List V} (I : Inv X pins σ H s) (q : Src X.K H tp a xs) (q' : Src X.K H tp a ys) : xs = ys := by
  cases tp with
  | true => exact I.tuple_inj q q'
  | false => exact I.list_inj q q'
theorem coll_lt {h : Heap} {tp : Bool} {a : Addr} {its : Array Value} (q : Coll h tp a its) : a < h.objs.size := by
  cases tp with
  | true => exact let ⟨_, e, _⟩ := q; Heap.lt_size e
  | false => exact let ⟨_, e, _⟩ := q; Heap.lt_size e
theorem iter_obj {h : Heap} {tp : Bool} {it a : Addr} {i : Nat} (q : IterAt h tp it a i) : ∃ o, h.get? it = some o ∧ ∀ v, o.data ≠ .cell v := by
  cases tp with
  | true => exact let ⟨o, e, _, d⟩ := q; ⟨o, e, fun v z => by rw [d] at z; cases z⟩
  | false => exact let ⟨o, e, _, d⟩ := q; ⟨o, e, fun v z => by rw [d] at z; cases z⟩
theorem iter_keep {h h' : Heap} {tp : Bool} {it a : Addr} {i : Nat} (q : IterAt h tp it a i) (k : ∀ o, h.get? it = some o → h'.get? it = some o) : IterAt h' tp it a i := by
  cases tp with
  | true => exact Heap.IsTupleIter.at q fun o e => k o e
  | false => exact Heap.IsListIter.at q fun o e => k o e
theorem coll_begins (tp : Bool) (a : Addr) (its : Array Value) : Begins (.ref a) (itO tp a) fun h => Coll h tp a its := by
  cases tp with
  | true => exact begins_tuple a its
  | false => exact begins_list a its
theorem coll_draws {prog : Program} {w : World} {A : Around} (hh : A.handled = none) (tp : Bool) (it a : Addr) (hne : a ≠ it) (its : Array Value) :
    Draws prog w A it [it, a] its.size (fun i v => its[i]? = some v) (fun i h => IterAt h tp it a i ∧ Coll h tp a its) := by
  cases tp with
  | true => exact Draws.tuple hh it a hne its
  | false => exact Draws.list hh it a hne its
theorem iter_new {h : Heap} {tp : Bool} {it a : Addr} (e : h.get? it = some (itO tp a)) : IterAt h tp it a 0 := by
  cases tp with
  | true => exact ⟨_, e, rfl, rfl⟩
  | false => exact ⟨_, e, rfl, rfl⟩
end
/-- zip of two -/
def ItZ (K : PySem.W.Frag) (t1 t2 : Bool) (a b : Addr) : It where
  go := fun i H => ∃ (xs ys : List V) (x y : V), Src K H t1 a xs ∧ Src K H t2 b ys ∧ xs[i]? = some x ∧ ys[i]? = some y
  yld := fun i H v H' => ∃ T x y, v = .ref T ∧ H T = none ∧ H' = upd H T (.tup [x, y]) ∧ (∀ xs, Src K H t1 a xs → xs[i]? = some x) ∧ ∀ ys, Src K H t2 b ys → ys[i]? = some y
  stop := fun i H => ∃ xs ys : List V, Src K H t1 a xs ∧ Src K H t2 b ys ∧ i = min xs.length ys.length
/-- enumerate from k -/
def ItE (K : PySem.W.Frag) (k : Int) (tp : Bool) (a : Addr) : It where
  go := fun i H => ∃ (xs : List V) (x : V), Src K H tp a xs ∧ xs[i]? = some x
  yld := fun i H v H' => ∃ T x, v = .ref T ∧ H T = none ∧ H' = upd H T (.tup [.int (k + (i : Nat)), x]) ∧ ∀ xs, Src K H tp a xs → xs[i]? = some x
  stop := fun i H => ∃ xs : List V, Src K H tp a xs ∧ i = xs.length

/-- a Turn of any GoesN whose cells are the iterator's own and things that are read -/
theorem vals_at {xs : List V} {its : List Value} (r : Vals xs its) {i : Nat} {u : Value} (e : its.toArray[i]? = some u) : ∃ x, xs[i]? = some x ∧ RelV x u := by
  have e' : its[i]? = some u := by simpa using e
  have hl := r.length
  have hi : i < its.length := (List.getElem?_eq_some_iff.mp e').1
  have ex : xs[i]? = some xs[i] := by rw [List.getElem?_eq_getElem (by omega)]
  obtain ⟨u', e1, r1⟩ := r.get ex
  rw [e'] at e1; cases e1
  exact ⟨_, ex, r1⟩
section
variable {P : Program} {w : World} {K : PySem.W.Frag} {elts : List Expr} {kk : Nat} {tpos : Pos}
theorem turn_zipB {t1 t2 : Bool} {a b : Addr} {N : Nat} (ha : a < N) (hb : b < N) :
    Turn P w K (.Tuple elts kk tpos) (ItZ K t1 t2 a b) [N + 4, N + 2, N + 3, N, N + 1] (N + 4) (fun i h => IsZip h (N + 4) (N + 2) (N + 3) .none ∧ IsTupOf2 h (N + 2) (.ref N) (.ref (N + 1)) ∧ (∃ x y, IsTupOf2 h (N + 3) x y) ∧ IterAt h t1 N a i ∧ IterAt h t2 (N + 1) b i) where
  mem := by simp
  obj := fun i h st c hc => by
    obtain ⟨hz, hTI, ⟨x, y, hTO⟩, q1, q2⟩ := st
    simp only [List.mem_cons, List.not_mem_nil, or_false] at hc
    rcases hc with e | e | e | e | e <;> subst e
    · exact ⟨_, hz, fun v z => nomatch z⟩
    · exact ⟨_, hTI, fun v z => nomatch z⟩
    · exact ⟨_, hTO, fun v z => nomatch z⟩
    · exact iter_obj q1
    · exact iter_obj q2
  keep := fun i h h' st k => by
    obtain ⟨hz, hTI, ⟨x, y, hTO⟩, q1, q2⟩ := st
    exact ⟨k _ (by simp) _ hz, k _ (by simp) _ hTI, ⟨x, y, k _ (by simp) _ hTO⟩, iter_keep q1 fun o e => k _ (by simp) o e, iter_keep q2 fun o e => k _ (by simp) o e⟩
  item := by
    intro X e1 e2 e3 hc i pins s σ H E I hf st hg
    subst e1 e2 e3
    obtain ⟨hz, hTI, hTO, q1, q2⟩ := st
    obtain ⟨xs, ys, x, y, sx, sy, gx, gy⟩ := hg
    obtain ⟨its, rv, c1⟩ := src_coll I sx
    obtain ⟨its2, rv2, c2⟩ := src_coll I sy
    have hd : X.A.in1.handled = none := I.ok.hd hc
    have ne1 : a ≠ N := Nat.ne_of_lt ha
    have ne2 : b ≠ N + 1 := Nat.ne_of_lt (Nat.lt_succ_of_lt hb)
    have S := zip_sep2 (N := N) (fp1 := [a]) (fp2 := [b]) (by simpa using ha) (by simpa using hb)
    have G := GoesN.zip2 (prog := X.prog) (w := X.w) (A := X.A) (elts := elts) (x1 := kk) (pos := tpos) S (coll_draws hd t1 N a ne1 its.toArray) (coll_draws hd t2 (N + 1) b ne2 its2.toArray)
    have l1 := rv.length
    have l2 := rv2.length
    have i1 : i < xs.length := (List.getElem?_eq_some_iff.mp gx).1
    have i2 : i < ys.length := (List.getElem?_eq_some_iff.mp gy).1
    refine wpAny_mono (G.goes i s (fun u s2 => ∃ x H', Inv X pins σ H' s2 ∧ RelV x u ∧ (ItZ X.K t1 t2 a b).yld i H x H' ∧ (IsZip s2.heap (N + 4) (N + 2) (N + 3) .none ∧ IsTupOf2 s2.heap (N + 2) (.ref N) (.ref (N + 1)) ∧ (∃ x y, IsTupOf2 s2.heap (N + 3) x y) ∧ IterAt s2.heap t1 N a (i + 1) ∧ IterAt s2.heap t2 (N + 1) b (i + 1)) ∧ ∀ b ∈ [N + 4, N + 2, N + 3, N, N + 1], H' b = none) E
      (by simp; omega) ⟨hz, hTI, hTO, ⟨q1, c1⟩, q2, c2⟩ fun v h' tk hy st' hk _ => ?_) (fun r s1 hr => hr) fun _ _ z => z
    obtain ⟨T, u, u2, ev, hT, hu, hu2, hTup⟩ := hy
    subst ev
    obtain ⟨x', ex, rx⟩ := vals_at rv hu
    obtain ⟨y', ey, ry⟩ := vals_at rv2 hu2
    have new : ObjOk X.prog X.w (upd H T (.tup [x', y'])) h' T (.tup [x', y']) := ⟨by show 2 ≤ sizeLine; decide, [u, u2], .cons rx (.cons ry .nil), hTup⟩
    have I1 : Inv X pins σ (upd H T (.tup [x', y'])) { s with heap := h', toks := tk } := I.turnedNew (ch := [N + 4, N + 2, N + 3, N, N + 1]) (fun c o hc' e => hk c o (fun z => hc' (by
      simp only [List.mem_cons, List.not_mem_nil, or_false] at z ⊢
      rcases z with z | z | z | z <;> simp [z])) e) hf hT new
    refine ⟨.ref T, _, I1, rfl, ⟨T, x', y', rfl, I.hok.fresh hT, rfl, fun l hl => by rw [src_inj I hl sx]; exact ex, fun l hl => by rw [src_inj I hl sy]; exact ey⟩, ⟨st'.1, st'.2.1, st'.2.2.1, st'.2.2.2.1.1, st'.2.2.2.2.1⟩, fun c hcm => ?_⟩
    obtain ⟨o, e, _⟩ := (show ∃ o, s.heap.get? c = some o ∧ ∀ v, o.data ≠ .cell v from by
      simp only [List.mem_cons, List.not_mem_nil, or_false] at hcm
      rcases hcm with e | e | e | e | e <;> subst e
      · exact ⟨_, hz, fun v z => nomatch z⟩
      · exact ⟨_, hTI, fun v z => nomatch z⟩
      · exact let ⟨_, _, q⟩ := hTO; ⟨_, q, fun v z => nomatch z⟩
      · exact iter_obj q1
      · exact iter_obj q2)
    rw [upd_ne (Nat.ne_of_lt (Nat.lt_of_lt_of_le (Heap.lt_size e) hT))]
    exact (hf c hcm).1
  done := by
    intro X e1 e2 e3 hc i pins s σ H E I hf st hg
    subst e1 e2 e3
    obtain ⟨hz, hTI, hTO, q1, q2⟩ := st
    obtain ⟨xs, ys, sx, sy, hi⟩ := hg
    obtain ⟨its, rv, c1⟩ := src_coll I sx
    obtain ⟨its2, rv2, c2⟩ := src_coll I sy
    have hd : X.A.in1.handled = none := I.ok.hd hc
    have ne1 : a ≠ N := Nat.ne_of_lt ha
    have ne2 : b ≠ N + 1 := Nat.ne_of_lt (Nat.lt_succ_of_lt hb)
    have S := zip_sep2 (N := N) (fp1 := [a]) (fp2 := [b]) (by simpa using ha) (by simpa using hb)
    have G := GoesN.zip2 (prog := X.prog) (w := X.w) (A := X.A) (elts := elts) (x1 := kk) (pos := tpos) S (coll_draws hd t1 N a ne1 its.toArray) (coll_draws hd t2 (N + 1) b ne2 its2.toArray)
    have l1 := rv.length
    have l2 := rv2.length
    have en : i = min its.toArray.size its2.toArray.size := by simp; omega
    rw [en] at q1 q2
    exact wpAny_mono (G.stops s (fun s1 => Inv X pins σ H s1) E ⟨hz, hTI, hTO, ⟨q1, c1⟩, q2, c2⟩ fun h' tk hk _ => I.turnedL (ch := [N + 4, N + 2, N + 3, N, N + 1]) (fun c o hc' e => hk c o (fun z => hc' (by
      simp only [List.mem_cons, List.not_mem_nil, or_false] at z ⊢
      rcases z with z | z | z | z <;> simp [z])) e) hf) (fun r s1 hr => hr) fun _ _ z => z
  self := fun A i s Q E st q => wpAny_pyIter_zip st.1 q
theorem turn_enumB {k : Int} {tp : Bool} {a : Addr} {N : Nat} (ha : a < N) :
    Turn P w K (.Tuple elts kk tpos) (ItE K k tp a) [N + 1, N] (N + 1) (fun i h => (∃ old, IsEnum h (N + 1) N (k + (i : Int)) old) ∧ IterAt h tp N a i) where
  mem := by simp
  obj := fun i h st c hc => by
    obtain ⟨⟨old, hz⟩, q1⟩ := st
    simp only [List.mem_cons, List.not_mem_nil, or_false] at hc
    rcases hc with e | e <;> subst e
    · exact ⟨_, hz, fun v z => nomatch z⟩
    · exact iter_obj q1
  keep := fun i h h' st kp => by
    obtain ⟨⟨old, hz⟩, q1⟩ := st
    exact ⟨⟨old, kp _ (by simp) _ hz⟩, iter_keep q1 fun o e => kp _ (by simp) o e⟩
  item := by
    intro X e1 e2 e3 hc i pins s σ H E I hf st hg
    subst e1 e2 e3
    obtain ⟨hz, q1⟩ := st
    obtain ⟨xs, x, sx, gx⟩ := hg
    obtain ⟨its, rv, c1⟩ := src_coll I sx
    have hd : X.A.in1.handled = none := I.ok.hd hc
    have ne1 : a ≠ N := Nat.ne_of_lt ha
    have G := GoesN.enumFrom (prog := X.prog) (w := X.w) (A := X.A) (elts := elts) (x1 := kk) (pos := tpos) k (coll_draws hd tp N a ne1 its.toArray) (N + 1) (Nat.succ_ne_self N) (by
      simp only [List.mem_cons, List.not_mem_nil, or_false, not_or]
      exact ⟨Nat.succ_ne_self N, Nat.ne_of_gt (Nat.lt_succ_of_lt ha)⟩) (by simp)
    have l1 := rv.length
    have i1 : i < xs.length := (List.getElem?_eq_some_iff.mp gx).1
    refine wpAny_mono (G.goes i s (fun u s2 => ∃ x H', Inv X pins σ H' s2 ∧ RelV x u ∧ (ItE X.K k tp a).yld i H x H' ∧ ((∃ old, IsEnum s2.heap (N + 1) N (k + ((i + 1 : Nat) : Int)) old) ∧ IterAt s2.heap tp N a (i + 1)) ∧ ∀ b ∈ [N + 1, N], H' b = none) E
      (by simp; omega) ⟨hz, q1, c1⟩ fun v h' tk hy st' hk _ => ?_) (fun r s1 hr => hr) fun _ _ z => z
    obtain ⟨T, t, u, ev, hT, hu, hTup⟩ := hy
    subst ev
    obtain ⟨x', ex, rx⟩ := vals_at rv hu
    have new : ObjOk X.prog X.w (upd H T (.tup [.int (k + (i : Nat)), x'])) h' T (.tup [.int (k + (i : Nat)), x']) := ⟨by show 2 ≤ sizeLine; decide, [_, u], .cons ⟨t, rfl⟩ (.cons rx .nil), hTup⟩
    have I1 : Inv X pins σ (upd H T (.tup [.int (k + (i : Nat)), x'])) { s with heap := h', toks := tk } := I.turnedNew (ch := [N + 1, N]) (fun c o hc' e => hk c o hc' e) hf hT new
    refine ⟨.ref T, _, I1, rfl, ⟨T, x', rfl, I.hok.fresh hT, rfl, fun l hl => by rw [src_inj I hl sx]; exact ex⟩, ⟨st'.1, st'.2.1⟩, fun c hcm => ?_⟩
    obtain ⟨o, e, _⟩ := (show ∃ o, s.heap.get? c = some o ∧ ∀ v, o.data ≠ .cell v from by
      simp only [List.mem_cons, List.not_mem_nil, or_false] at hcm
      rcases hcm with e | e <;> subst e
      · obtain ⟨old, q⟩ := hz
        exact ⟨_, q, fun v z => nomatch z⟩
      · exact iter_obj q1)
    rw [upd_ne (Nat.ne_of_lt (Nat.lt_of_lt_of_le (Heap.lt_size e) hT))]
    exact (hf c hcm).1
  done := by
    intro X e1 e2 e3 hc i pins s σ H E I hf st hg
    subst e1 e2 e3
    obtain ⟨hz, q1⟩ := st
    obtain ⟨xs, sx, hi⟩ := hg
    obtain ⟨its, rv, c1⟩ := src_coll I sx
    have hd : X.A.in1.handled = none := I.ok.hd hc
    have ne1 : a ≠ N := Nat.ne_of_lt ha
    have G := GoesN.enumFrom (prog := X.prog) (w := X.w) (A := X.A) (elts := elts) (x1 := kk) (pos := tpos) k (coll_draws hd tp N a ne1 its.toArray) (N + 1) (Nat.succ_ne_self N) (by
      simp only [List.mem_cons, List.not_mem_nil, or_false, not_or]
      exact ⟨Nat.succ_ne_self N, Nat.ne_of_gt (Nat.lt_succ_of_lt ha)⟩) (by simp)
    have l1 := rv.length
    have en : i = its.toArray.size := by simp; omega
    rw [en] at q1 hz
    exact wpAny_mono (G.stops s (fun s1 => Inv X pins σ H s1) E ⟨hz, q1, c1⟩ fun h' tk hk _ => I.turnedL (ch := [N + 1, N]) (fun c o hc' e => hk c o hc' e) hf) (fun r s1 hr => hr) fun _ _ z => z
  self := fun A i s Q E st q => by
    obtain ⟨⟨old, hz⟩, _⟩ := st
    exact wpAny_pyIter_enum hz q
end
end Ri
end
section
set_option Elab.async false
set_option linter.all false
set_option maxRecDepth 100000
set_option maxHeartbeats 2000000
/-! Ri, part 6: the walked things by their meaning. -/
namespace PySem
theorem ri_enum1 {v : Value} {o : Obj} {H : Heap → Prop} (B : Begins v o H) :
    Meets (Builtin.«enumerate.__new__» ⟨[.type "enumerate", v], []⟩) (fun _ R s => H s.heap ∧
      R (.ok (.ret (.ref (s.heap.push o).objs.size))) { s with heap := (s.heap.push o).push { cls := .type "enumerate", data := .fields #[.none, .bool false, .ref s.heap.objs.size, rawInt 0, .none, .none] } }) := by
  refine .of_wp fun prog w A R s hh => ?_
  obtain ⟨hp, gg, dd, tk, os⟩ := s
  obtain ⟨h1, h⟩ := hh
  have hsub := sub_enumerate
  have q1 : ∀ {A' : Around} {E : Value → Shared → Prop} {Q : Value → Shared → Prop}, Q (.ref hp.objs.size) ⟨hp.push o, gg, dd, tk, os⟩ → wpAny (model prog w) A' (pyIter v) Q E ⟨hp, gg, dd, tk, os⟩ :=
    fun z => B.iter prog w _ _ ⟨hp, gg, dd, tk, os⟩ _ h1 z
  wp_walk using q1
  refine wpAny_stack_any (fun st => wpAny_pure ?_)
  split
  · rename_i c _ _ _ _ _
    cases (c == Value.type "enumerate") <;> (wp_walk using q1; exact ⟨_, rfl, h⟩)
  · wp_walk using q1
    exact ⟨_, rfl, h⟩
theorem ri_enum_begins1 {prog : Program} {w : World} {A : Around} {E : Value → Shared → Prop} {s : Shared} {v : Value} {o : Obj} {H : Heap → Prop} {Q : Value → Shared → Prop} (B : Begins v o H) (h1 : H s.heap)
    (h : ∀ h', IsEnum h' (s.heap.objs.size + 1) s.heap.objs.size 0 .none → h'.get? s.heap.objs.size = some o → (∀ b o, s.heap.get? b = some o → h'.get? b = some o) → Q (.ref (s.heap.objs.size + 1)) { s with heap := h' }) :
    wpAny (model prog w) A (call (.type "enumerate") [v]) Q E s := by
  refine callType_new F.called_enumerate (by decide) (F.typeCall_enumerate_1 _) (F.newCall_enumerate_1 _) (fun obj => F.args_object_init_2 obj _) F.entry_enumerate_new (ri_enum1 B) ⟨h1, ?_⟩
  have hz : (s.heap.push o).objs.size = s.heap.objs.size + 1 := Heap.size_push ..
  show _ ∧ _
  rw [hz]
  have he : IsEnum ((s.heap.push o).push { cls := .type "enumerate", data := .fields #[.none, .bool false, .ref s.heap.objs.size, rawInt 0, .none, .none] }) (s.heap.objs.size + 1) s.heap.objs.size 0 .none := by
    have q := Heap.get?_push_size (s.heap.push o) (o := { cls := .type "enumerate", data := .fields #[.none, .bool false, .ref s.heap.objs.size, rawInt 0, .none, .none] }) rfl
    rw [hz] at q
    exact q
  exact ⟨⟨_, he, rfl⟩, h _ he (Heap.get?_push_of_some _ (Heap.get?_push_size _ B.free)) fun b o' x => Heap.get?_push_of_some _ (Heap.get?_push_of_some _ x)⟩
end PySem
namespace Ri
open PySem L2
def ItS (K : PySem.W.Frag) (tp : Bool) (a : Addr) : It := match tp with
  | true => Itt K a
  | false => Itl K a
/-- the items that are walked, by content -/
def ItR (g : Gd) (J : It) (items : List W) (gd : Hw → Prop) (h0 : Hw) (H0 : Hp) : Prop := ∀ (R : Addr → Prop) i h H, gd h → (∀ w v, Rep g h0 H0 w v → Rep (g.at R) h H w v) → HRel (g.at R) h H →
  (∀ w, items[i]? = some w → J.go i H ∧ ∀ x H', J.yld i H x H' → Grow h H h H' ∧ HRel (g.at R) h H' ∧ Rep (g.at R) h H' w x) ∧ (i = items.length → J.stop i H)
def TRi (g : Gd) (C : Calls) (W' : WX) (k : ItK) (es : List Ex) : TI := fun σ H Q => ∃ R τ h P E, HRel (g.at R) h H ∧ SRel (g.at R) h H τ σ ∧ wpE C (.itr k es) τ h P E ∧
  (∀ r items gd h' J H', P r h' → itsOf r = some (items, gd) → Grow h H h' H' → HRel (g.at R) h' H' → ItR (g.at R) J items gd h' H' → Q J H') ∧ PostX (g.at R) h H E fun cls d H' => W' cls d σ H'
theorem pi_imp {X : Cx} {tg it : Expr} {t t' : TI} (h : PI X tg it t) (k : ∀ σ H Q, t' σ H Q → t σ H Q) : PI X tg it t' := ⟨fun pins s σ H Q I q => h.run pins s σ H Q I (k σ H Q q)⟩
section
variable {g : Gd} {C : Calls} {W' : WX} {S : Sx} {X : Cx} {tg l l2 : Expr} {a' b' : Ex} {p pos : Pos}
/-- what is walked stays what it is, by content -/
def SrcR (g : Gd) (gd : Hw → Prop) (h : Hw) (H : Hp) (tp : Bool) (a : Addr) (ws : List W) : Prop := ∀ (R : Addr → Prop) h' H', gd h' → (∀ w v, Rep g h H w v → Rep (g.at R) h' H' w v) → HRel (g.at R) h' H' → ∃ xs, Src g.K H' tp a xs ∧ Reps (g.at R) h' H' ws xs
theorem SrcR.here {gd : Hw → Prop} {h : Hw} {H : Hp} {tp : Bool} {a : Addr} {ws : List W} (s : SrcR g gd h H tp a ws) (hr : HRel g h H) (q : gd h) : ∃ xs, Src g.K H tp a xs := let ⟨xs, z, _⟩ := s g.R h H q (fun _ _ r => r) hr; ⟨xs, z⟩
/-- a list or a tuple by its content -/
theorem seq_src {h : Hw} {H : Hp} {w : W} {v : V} {ws : List W} (r : Rep g h H w v) (e : seqW w = some ws) : ∃ tp a, v = .ref a ∧ SrcR g (fun _ => True) h H tp a ws := by
  cases w <;> simp only [seqW, Option.some.injEq, reduceCtorEq] at e
  · subst e
    have r0 := r
    simp only [Rep] at r
    obtain ⟨a, vs, e1, l, q⟩ := r
    refine ⟨true, a, e1, fun R h' H' _ cv _ => ?_⟩
    have r1 := cv _ _ r0
    simp only [Rep] at r1
    obtain ⟨a1, vs1, e2, l1, q1⟩ := r1
    rw [e1] at e2
    cases e2
    exact ⟨vs1, l1.sq, q1⟩
  · subst e
    have r0 := r
    simp only [Rep] at r
    obtain ⟨a, vs, e1, l, q⟩ := r
    refine ⟨false, a, e1, fun R h' H' _ cv _ => ?_⟩
    have r1 := cv _ _ r0
    simp only [Rep] at r1
    obtain ⟨a1, vs1, e2, l1, q1⟩ := r1
    rw [e1] at e2
    cases e2
    exact ⟨vs1, .inl (.inl l1.1.1), q1⟩
  · subst e
    have r0 := r
    simp only [Rep] at r
    obtain ⟨a, vs, e1, l, q⟩ := r
    refine ⟨false, a, e1, fun R h' H' _ cv _ => ?_⟩
    have r1 := cv _ _ r0
    simp only [Rep] at r1
    obtain ⟨a1, vs1, e2, l1, q1⟩ := r1
    rw [e1] at e2
    cases e2
    exact ⟨vs1, l1.sq, q1⟩
/-- a list that stays in the heap -/
theorem loc_src {h : Hw} {H : Hp} {a : Addr} {ws : List W} : SrcR g (fun h => h a = some (.lst ws)) h H false a ws := fun R h' H' e _ hr => by
  obtain ⟨vs, e1, r1, _⟩ := hr.own a _ e
  exact ⟨vs, .inl (.inl e1), r1⟩
theorem itS_R {gd : Hw → Prop} {tp : Bool} {a : Addr} {ws : List W} {h : Hw} {H : Hp} (sr : SrcR g gd h H tp a ws) : ItR g (ItS g.K tp a) ws gd h H := fun R i h1 H1 qd cv hr1 => by
  obtain ⟨xs, s1, q⟩ := sr R h1 H1 qd cv hr1
  have l := q.length
  refine ⟨fun w e => ?_, fun e => ?_⟩
  · obtain ⟨v, e2, r2⟩ := q.get e
    cases tp with
    | true =>
      refine ⟨⟨xs, v, s1, e2⟩, fun x H' y => ?_⟩
      obtain ⟨y1, y2⟩ := y
      have z := y2 xs s1
      rw [e2] at z; cases z
      subst y1
      exact ⟨Grow.refl, hr1, r2⟩
    | false =>
      refine ⟨⟨xs, v, s1, e2⟩, fun x H' y => ?_⟩
      obtain ⟨y1, y2⟩ := y
      have z := y2 xs s1
      rw [e2] at z; cases z
      subst y1
      exact ⟨Grow.refl, hr1, r2⟩
  · cases tp with
    | true => exact ⟨xs, s1, by omega⟩
    | false => exact ⟨xs, s1, by omega⟩
theorem i_any {k : ItK} {t : TE} (ha : PE X l t) (hk : ∀ (pins : List (Addr × Obj)) (s : Shared) (σ : L2.St) (H : Hp) (R : It → Hp → Prop), TRi g C W' k [a'] σ H R → t σ H fun v H1 => ∃ tp a xs, v = .ref a ∧ Src X.K H1 tp a xs ∧ R (ItS X.K tp a) H1) : PI X tg l (TRi g C W' k [a']) := by
  refine ⟨fun pins s σ H R I q => ?_⟩
  refine thn (ha.run pins s σ H _ I (hk pins s σ H R q)) fun u s1 hu => ?_
  obtain ⟨v, H1, I1, rv, tp, a, xs, ev, sq, q⟩ := hu
  subst ev
  cases rv
  cases tp with
  | true =>
    obtain ⟨its, rr, pt, _⟩ := I1.tuple sq
    refine wpAny_pyIter_tuple (show s1.heap.IsTuple a its.toArray from pt) ⟨s1.heap.objs.size, [s1.heap.objs.size], _, _, H1, rfl, ?_, turn_tuple a _, ⟨_, Heap.get?_push_size _ rfl, rfl, rfl⟩, ?_, q⟩
    · exact I1.kept (t' := s1.toks) (fun b o e => Heap.get?_push_of_some _ e)
    · intro b hb
      have e : b = s1.heap.objs.size := List.mem_singleton.mp hb
      subst e
      exact I1.fpOk (Nat.le_refl _) (I1.hok.fresh (Nat.le_refl _))
  | false =>
    obtain ⟨its, rr, pt, _⟩ := I1.list sq
    refine wpAny_pyIter_list pt.isList ⟨s1.heap.objs.size, [s1.heap.objs.size], _, _, H1, rfl, ?_, turn_list a _, ⟨_, Heap.get?_push_size _ rfl, rfl, rfl⟩, ?_, q⟩
    · exact I1.kept (t' := s1.toks) (fun b o e => Heap.get?_push_of_some _ e)
    · intro b hb
      have e : b = s1.heap.objs.size := List.mem_singleton.mp hb
      subst e
      exact I1.fpOk (Nat.le_refl _) (I1.hok.fresh (Nat.le_refl _))
theorem i_seq (hK : X.K = g.K) (ha : PE X l (TR g C W' a')) : PI X tg l (TRi g C W' .seq [a']) := by
  refine i_any ha fun pins s σ H R q => ?_
  obtain ⟨R0, τ, h, P, E, hr, sr, hw, post, hx⟩ := q
  refine tr_mk hr sr hx hw fun w h1 v H1 q1 g1 hr1 r1 => ?_
  have q1 : itrW .seq [w] (fun r => P (.lst r) h1) := q1
  simp only [itrW] at q1
  split at q1
  · rename_i ws e
    obtain ⟨tp, a, e1, s0⟩ := seq_src r1 e
    obtain ⟨xs, sx⟩ := s0.here hr1 trivial
    exact ⟨tp, a, xs, e1, by rw [hK]; exact sx, by rw [hK]; exact post (.lst ws) ws _ h1 _ H1 q1 rfl g1 hr1 (itS_R s0)⟩
  · exact q1.elim
theorem i_own (hK : X.K = g.K) (ha : PE X l (TR g C W' a')) : PI X tg l (TRi g C W' .own [a']) := by
  refine i_any ha fun pins s σ H R q => ?_
  obtain ⟨R0, τ, h, P, E, hr, sr, hw, post, hx⟩ := q
  refine tr_mk hr sr hx hw fun w h1 v H1 q1 g1 hr1 r1 => ?_
  replace q1 : itrV h1 .own [w] (fun r => P r h1) := q1
  cases w <;> first | exact False.elim q1 | skip
  rename_i a
  simp only [itrV] at q1
  split at q1
  · rename_i ws e
    simp only [Rep] at r1
    have s0 := loc_src (g := g.at R0) (h := h1) (H := H1) (a := a) (ws := ws)
    obtain ⟨xs, sx⟩ := s0.here hr1 e
    exact ⟨false, a, xs, r1, by rw [hK]; exact sx, by rw [hK]; exact post (.tup [.lst ws, .loc a]) ws _ h1 _ H1 q1 rfl g1 hr1 (itS_R s0)⟩
  · exact q1.elim
theorem rngW_get {a b : Int} {i : Nat} {w : W} (e : (rngW a b)[i]? = some w) : i < (b - a).toNat ∧ w = .int (a + (i : Nat)) := by
  unfold rngW at e
  rw [List.getElem?_map] at e
  cases e1 : (List.range (b - a).toNat)[i]? with
  | none => rw [e1] at e; cases e
  | some k =>
    rw [e1] at e
    have hi : i < (List.range (b - a).toNat).length := (List.getElem?_eq_some_iff.mp e1).1
    rw [List.length_range] at hi
    rw [List.getElem?_range hi] at e1
    cases e1
    simp only [Option.map_some, Option.some.injEq] at e
    exact ⟨hi, e.symm⟩
theorem rngW_len {a b : Int} : (rngW a b).length = (b - a).toNat := by unfold rngW; rw [List.length_map, List.length_range]
theorem itr_R {a b : Int} {h : Hw} {H : Hp} : ItR g (Itr a (b - a).toNat) (rngW a b) (fun _ => True) h H := fun R i h1 H1 _ cv hr1 => by
  refine ⟨fun w e => ?_, fun e => ?_⟩
  · obtain ⟨hi, ew⟩ := rngW_get e
    subst ew
    refine ⟨hi, fun x H' y => ?_⟩
    obtain ⟨y1, y2⟩ := y
    subst y1 y2
    exact ⟨Grow.refl, hr1, rep_int⟩
  · rw [rngW_len] at e
    exact Nat.le_of_eq e.symm
theorem itr_rng1 {ws : List W} {P : List W → Prop} (q : itrW .rng1 ws P) : ∃ n : Int, ws = [.int n] ∧ (-1000000 ≤ n ∧ n ≤ 1000000) ∧ P (rngW 0 n) :=
  match ws, q with
  | [.int n], q => ⟨n, rfl, q⟩
theorem itr_rng2 {ws : List W} {P : List W → Prop} (q : itrW .rng2 ws P) : ∃ a b : Int, ws = [.int a, .int b] ∧ (-1000000 ≤ a ∧ a ≤ 1000000 ∧ -1000000 ≤ b ∧ b ≤ 1000000) ∧ P (rngW a b) :=
  match ws, q with
  | [.int a, .int b], q => ⟨a, b, rfl, q⟩
theorem itr_enm {k : Int} {ws : List W} {P : List W → Prop} (q : itrW (.enm k) ws P) : ∃ w xs, ws = [w] ∧ seqW w = some xs ∧ P (enmW k xs) := by
  match ws, q with
  | [w], q =>
    simp only [itrW] at q
    split at q
    · rename_i xs e
      exact ⟨w, xs, rfl, e, q⟩
    · exact q.elim
theorem itr_zip {ws : List W} {P : List W → Prop} (q : itrW .zip ws P) : ∃ v w xs ys, ws = [v, w] ∧ seqW v = some xs ∧ seqW w = some ys ∧ P (zipW xs ys) := by
  match ws, q with
  | [v, w], q =>
    simp only [itrW] at q
    split at q
    · rename_i xs ys e1 e2
      exact ⟨v, w, xs, ys, rfl, e1, e2, q⟩
    · exact q.elim
theorem reps1 {h : Hw} {H : Hp} {w : W} {vs : List V} (r : Reps g h H [w] vs) : ∃ v, vs = [v] ∧ Rep g h H w v := by
  simp only [Reps] at r
  obtain ⟨v, vs', e1, e2, e3⟩ := r
  subst e3
  exact ⟨v, e1, e2⟩
theorem reps2 {h : Hw} {H : Hp} {w z : W} {vs : List V} (r : Reps g h H [w, z] vs) : ∃ v u, vs = [v, u] ∧ Rep g h H w v ∧ Rep g h H z u := by
  simp only [Reps] at r
  obtain ⟨v, vs', e1, e2, u, us, e3, e4, e5⟩ := r
  subst e5 e3
  exact ⟨v, u, e1, e2, e4⟩
theorem i_rng1 (hX : Xk g C W' S X) (hm : "range" ∈ S.free) (hg : Gl X "range") (ha : PA X [l] (TRs g C W' [a'])) (hs : starEach [l] X.env = [(false, eval l X.env)]) : PI X tg (.Call (.Name "range" p) [l] [] pos) (TRi g C W' .rng1 [a']) := by
  refine pi_imp (pi_range1 hg (hX.fr _ hm) ha hs) ?_
  rintro σ H R ⟨R0, τ, h, P, E, hr, sr, hw, post, hx⟩
  refine trs_mk hr sr hx hw fun ws h1 vs H1 q g1 hr1 r => ?_
  obtain ⟨n, e, q1, q2⟩ := itr_rng1 q
  subst e
  obtain ⟨v, e, r1⟩ := reps1 r
  simp only [Rep] at r1
  subst e r1
  have e0 : (n - 0).toNat = n.toNat := by simp
  refine ⟨n, rfl, by omega, by omega, post _ _ _ h1 _ H1 q2 rfl g1 hr1 ?_⟩
  have z := itr_R (g := g.at R0) (a := 0) (b := n) (h := h1) (H := H1)
  rw [e0] at z
  exact z
theorem i_rng2 (hX : Xk g C W' S X) (hm : "range" ∈ S.free) (hg : Gl X "range") (ha : PA X [l, l2] (TRs g C W' [a', b'])) (hs : starEach [l, l2] X.env = [(false, eval l X.env), (false, eval l2 X.env)]) (hs2 : starEach [l2] X.env = [(false, eval l2 X.env)]) :
    PI X tg (.Call (.Name "range" p) [l, l2] [] pos) (TRi g C W' .rng2 [a', b']) := by
  refine pi_imp (pi_range2 hg (hX.fr _ hm) ha hs hs2) ?_
  rintro σ H R ⟨R0, τ, h, P, E, hr, sr, hw, post, hx⟩
  refine trs_mk hr sr hx hw fun ws h1 vs H1 q g1 hr1 r => ?_
  obtain ⟨n, m, e, q1, q2⟩ := itr_rng2 q
  subst e
  obtain ⟨v, u, e, r1, r2⟩ := reps2 r
  simp only [Rep] at r1 r2
  subst e r1 r2
  exact ⟨n, m, rfl, by omega, post _ _ _ h1 _ H1 q2 rfl g1 hr1 itr_R⟩

theorem enm_get : ∀ {k : Int} {ws : List W} {i : Nat} {w : W}, (enmW k ws)[i]? = some w → ∃ x, ws[i]? = some x ∧ w = .tup [.int (k + (i : Nat)), x]
  | _, [], _, _, e => by simp [enmW] at e
  | k, x :: ws, 0, w, e => by
    simp only [enmW, List.getElem?_cons_zero, Option.some.injEq] at e
    refine ⟨x, rfl, ?_⟩
    rw [← e]; simp
  | k, x :: ws, i + 1, w, e => by
    simp only [enmW, List.getElem?_cons_succ] at e
    obtain ⟨y, e1, e2⟩ := enm_get e
    refine ⟨y, by simpa using e1, ?_⟩
    rw [e2]
    have : k + 1 + (i : Int) = k + ((i + 1 : Nat) : Int) := by omega
    rw [this]
theorem enm_len : ∀ {k : Int} {ws : List W}, (enmW k ws).length = ws.length
  | _, [] => rfl
  | k, _ :: ws => by simp only [enmW, List.length_cons, enm_len]
theorem zip_get : ∀ {xs ys : List W} {i : Nat} {w : W}, (zipW xs ys)[i]? = some w → ∃ x y, xs[i]? = some x ∧ ys[i]? = some y ∧ w = .tup [x, y]
  | [], _, _, _, e => by simp [zipW] at e
  | _ :: _, [], _, _, e => by simp [zipW] at e
  | x :: xs, y :: ys, 0, w, e => by
    simp only [zipW, List.getElem?_cons_zero, Option.some.injEq] at e
    exact ⟨x, y, rfl, rfl, e.symm⟩
  | x :: xs, y :: ys, i + 1, w, e => by
    simp only [zipW, List.getElem?_cons_succ] at e
    obtain ⟨a, b, e1, e2, e3⟩ := zip_get e
    exact ⟨a, b, by simpa using e1, by simpa using e2, e3⟩
theorem zip_len : ∀ {xs ys : List W}, (zipW xs ys).length = min xs.length ys.length
  | [], _ => by simp [zipW]
  | _ :: _, [] => by simp [zipW]
  | _ :: xs, _ :: ys => by simp only [zipW, List.length_cons, zip_len]; omega
theorem itE_R {k : Int} {tp : Bool} {a : Addr} {ws : List W} {h : Hw} {H : Hp} (sr : SrcR g (fun _ => True) h H tp a ws) : ItR g (ItE g.K k tp a) (enmW k ws) (fun _ => True) h H := fun R i h1 H1 _ cv hr1 => by
  obtain ⟨xs, s1, q⟩ := sr R h1 H1 trivial cv hr1
  have l := q.length
  refine ⟨fun w e => ?_, fun e => ?_⟩
  · obtain ⟨x, e1, ew⟩ := enm_get e
    obtain ⟨v, e2, r2⟩ := q.get e1
    refine ⟨⟨xs, v, s1, e2⟩, fun y H' z => ?_⟩
    obtain ⟨T, x', e3, hT, eH, z⟩ := z
    have zz := z xs s1
    rw [e2] at zz; cases zz
    subst e3 eH ew
    refine ⟨Grow.new hT, hr1.new hT, rep_tup hr1 hT ?_ (by show 2 ≤ sizeLine; decide)⟩
    simp only [Reps]
    exact ⟨_, _, rfl, rep_int, _, _, rfl, r2, rfl⟩
  · rw [enm_len] at e
    exact ⟨xs, s1, by omega⟩
theorem itZ_R {t1 t2 : Bool} {a b : Addr} {ws us : List W} {h : Hw} {H : Hp} (sx : SrcR g (fun _ => True) h H t1 a ws) (sy : SrcR g (fun _ => True) h H t2 b us) :
    ItR g (ItZ g.K t1 t2 a b) (zipW ws us) (fun _ => True) h H := fun R i h1 H1 _ cv hr1 => by
  obtain ⟨xs, s1, q1⟩ := sx R h1 H1 trivial cv hr1
  obtain ⟨ys, s2, q2⟩ := sy R h1 H1 trivial cv hr1
  have l1 := q1.length
  have l2 := q2.length
  refine ⟨fun w e => ?_, fun e => ?_⟩
  · obtain ⟨x, y, e1, e2, ew⟩ := zip_get e
    obtain ⟨v, e3, r3⟩ := q1.get e1
    obtain ⟨u, e4, r4⟩ := q2.get e2
    refine ⟨⟨xs, ys, v, u, s1, s2, e3, e4⟩, fun z H' zz => ?_⟩
    obtain ⟨T, x', y', e5, hT, eH, z1, z2⟩ := zz
    have z1 := z1 xs s1
    have z2 := z2 ys s2
    rw [e3] at z1; cases z1
    rw [e4] at z2; cases z2
    subst e5 eH ew
    refine ⟨Grow.new hT, hr1.new hT, rep_tup hr1 hT ?_ (by show 2 ≤ sizeLine; decide)⟩
    simp only [Reps]
    exact ⟨_, _, rfl, r3, _, _, rfl, r4, rfl⟩
  · rw [zip_len] at e
    exact ⟨xs, ys, s1, s2, by omega⟩
theorem fresh_fp {pins : List (Addr × Obj)} {σ : L2.St} {H : Hp} {s : Shared} (I : Inv X pins σ H s) {l : List Addr} (hl : ∀ b ∈ l, s.heap.objs.size ≤ b) : ∀ b ∈ l, FpOk X pins H b := fun b hb => I.fpOk (hl b hb) (I.hok.fresh (hl b hb))
theorem i_zip (hX : Xk g C W' S X) {elts : List Expr} {kk : Nat} {tpos : Pos} (hm : "zip" ∈ S.free) (hg : Gl X "zip") (ha : PA X [l, l2] (TRs g C W' [a', b'])) (hs : starEach [l, l2] X.env = (false, eval l X.env) :: starEach [l2] X.env) (hpl : (backTo pos (starEach [l2] X.env)).any (·.1) = false) :
    PI X (.Tuple elts kk tpos) (.Call (.Name "zip" p) [l, l2] [] pos) (TRi g C W' .zip [a', b']) := by
  refine ⟨fun pins s σ H R I q => ?_⟩
  obtain ⟨R0, τ, h, P, E, hr, sr, hw, post, hx⟩ := q
  refine PyProof.Rows.Call_ (ld_blt I hg (hX.fr _ hm) PyProof.Rows.boot_zip (PyProof.Rows.callWith_type1 (thn (ha.run pos pins s σ H (fun vs H1 => ∃ t1 t2 a b xs ys, vs = [.ref a, .ref b] ∧ Src X.K H1 t1 a xs ∧ Src X.K H1 t2 b ys ∧ R (ItZ X.K t1 t2 a b) H1) I
    (trs_mk hr sr hx hw fun ws h1 vs H1 q g1 hr1 r => ?_)) fun us s1 hu => ?_) hs hpl))
  · obtain ⟨v, w, xs, ys, e, e1, e2, q3⟩ := itr_zip q
    subst e
    obtain ⟨y, z, e, r1, r2⟩ := reps2 r
    obtain ⟨t1, a, ea, sa⟩ := seq_src r1 e1
    obtain ⟨t2, b, eb, sb⟩ := seq_src r2 e2
    obtain ⟨vx, kx⟩ := sa.here hr1 trivial
    obtain ⟨vy, ky⟩ := sb.here hr1 trivial
    subst e ea eb
    rw [hX.k]
    exact ⟨t1, t2, a, b, vx, vy, rfl, kx, ky, post _ _ _ h1 _ H1 q3 rfl g1 hr1 (itZ_R sa sb)⟩
  · obtain ⟨vs, H1, I1, rv, t1, t2, a, b, xs, ys, ev, sx, sy, q⟩ := hu
    subst ev
    cases rv with
    | cons r rr =>
      cases rr with
      | cons r' rr =>
        cases rr
        cases r
        cases r'
        obtain ⟨its, rv, c1⟩ := src_coll I1 sx
        obtain ⟨its2, rv2, c2⟩ := src_coll I1 sy
        refine zip_begins2 (coll_begins t1 a its.toArray) (coll_begins t2 b its2.toArray) c1 c2 fun h' hz hTI hTO e1 e2 _ hk => wpAny_pyIter_zip hz ?_
        exact ⟨s1.heap.objs.size + 4, [s1.heap.objs.size + 4, s1.heap.objs.size + 2, s1.heap.objs.size + 3, s1.heap.objs.size, s1.heap.objs.size + 1], _, _, H1, rfl, I1.kept (t' := s1.toks) hk, turn_zipB (coll_lt c1) (coll_lt c2), ⟨hz, hTI, ⟨_, _, hTO⟩, iter_new e1, iter_new e2⟩, fresh_fp I1 (fun c hc => by
          simp only [List.mem_cons, List.not_mem_nil, or_false] at hc
          rcases hc with e | e | e | e | e <;> rw [e] <;> first | exact Nat.le_add_right _ _ | exact Nat.le_refl _), q⟩
theorem i_enm0 (hX : Xk g C W' S X) {elts : List Expr} {kk : Nat} {tpos : Pos} (hm : "enumerate" ∈ S.free) (hg : Gl X "enumerate") (ha : PA X [l] (TRs g C W' [a'])) (hs : starEach [l] X.env = (false, eval l X.env) :: starEach [] X.env) (hpl : (backTo pos (starEach [] X.env)).any (·.1) = false) :
    PI X (.Tuple elts kk tpos) (.Call (.Name "enumerate" p) [l] [] pos) (TRi g C W' (.enm 0) [a']) := by
  refine ⟨fun pins s σ H R I q => ?_⟩
  obtain ⟨R0, τ, h, P, E, hr, sr, hw, post, hx⟩ := q
  refine PyProof.Rows.Call_ (ld_blt I hg (hX.fr _ hm) PyProof.Rows.boot_enumerate (PyProof.Rows.callWith_type1 (thn (ha.run pos pins s σ H (fun vs H1 => ∃ tp a xs, vs = [.ref a] ∧ Src X.K H1 tp a xs ∧ R (ItE X.K 0 tp a) H1) I
    (trs_mk hr sr hx hw fun ws h1 vs H1 q g1 hr1 r => ?_)) fun us s1 hu => ?_) hs hpl))
  · obtain ⟨w, xs, e, e1, q3⟩ := itr_enm q
    subst e
    obtain ⟨y, e, r1⟩ := reps1 r
    obtain ⟨tp, a, ea, sa⟩ := seq_src r1 e1
    obtain ⟨vx, kx⟩ := sa.here hr1 trivial
    subst e ea
    rw [hX.k]
    exact ⟨tp, a, vx, rfl, kx, post _ _ _ h1 _ H1 q3 rfl g1 hr1 (itE_R sa)⟩
  · obtain ⟨vs, H1, I1, rv, tp, a, xs, ev, sx, q⟩ := hu
    subst ev
    cases rv with
    | cons r rr =>
      cases rr
      cases r
      obtain ⟨its, rv, c1⟩ := src_coll I1 sx
      refine ri_enum_begins1 (coll_begins tp a its.toArray) c1 fun h' hz e1 hk => wpAny_pyIter_enum hz ?_
      refine ⟨s1.heap.objs.size + 1, [s1.heap.objs.size + 1, s1.heap.objs.size], _, _, H1, rfl, I1.kept (t' := s1.toks) hk, turn_enumB (coll_lt c1), ⟨⟨Value.none, ?_⟩, iter_new e1⟩, fresh_fp I1 (fun c hc => by
          simp only [List.mem_cons, List.not_mem_nil, or_false] at hc
          rcases hc with e | e <;> rw [e] <;> first | exact Nat.le_add_right _ _ | exact Nat.le_refl _), q⟩
      exact hz
theorem i_enmk (hX : Xk g C W' S X) {elts : List Expr} {kk : Nat} {tpos kp : Pos} {k : Int} {kj : Nat} (hk0 : -(2 ^ 63) ≤ k) (hk1 : k < 2 ^ 63) (hm : "enumerate" ∈ S.free) (hg : Gl X "enumerate") (ha : PA X [l] (TRs g C W' [a']))
    (hs : starEach [l, .Constant (.int k) kj kp] X.env = (false, eval l X.env) :: starEach [.Constant (.int k) kj kp] X.env) (hpl : (backTo pos (starEach [.Constant (.int k) kj kp] X.env)).any (·.1) = false) (he : PE X l (TR g C W' a')) :
    PI X (.Tuple elts kk tpos) (.Call (.Name "enumerate" p) [l, .Constant (.int k) kj kp] [] pos) (TRi g C W' (.enm k) [a']) := by
  refine ⟨fun pins s σ H R I q => ?_⟩
  obtain ⟨R0, τ, h, P, E, hr, sr, hw, post, hx⟩ := q
  have ha2 := pa_cons he (pa_cons (pe_int (X := X) (i := k) (j := kj) (pos := kp)) pa_nil) hs
  refine PyProof.Rows.Call_ (ld_blt I hg (hX.fr _ hm) PyProof.Rows.boot_enumerate (PyProof.Rows.callWith_type1 (thn (ha2.run pos pins s σ H (fun vs H1 => ∃ tp a xs, vs = [.ref a, .int k] ∧ Src X.K H1 tp a xs ∧ R (ItE X.K k tp a) H1) I
    (tr_mk hr sr hx hw fun w h1 v H1 q g1 hr1 r1 => ?_)) fun us s1 hu => ?_) hs hpl))
  · have q3 : itrW (.enm k) [w] (fun r => P (.lst r) h1) := q
    obtain ⟨w', xs, e, e1, q3⟩ := itr_enm q3
    simp only [List.cons.injEq, and_true] at e
    subst e
    obtain ⟨tp, a, ea, sa⟩ := seq_src r1 e1
    obtain ⟨vx, kx⟩ := sa.here hr1 trivial
    subst ea
    rw [hX.k]
    exact ⟨tp, a, vx, rfl, kx, post _ _ _ h1 _ H1 q3 rfl g1 hr1 (itE_R sa)⟩
  · obtain ⟨vs, H1, I1, rv, tp, a, xs, ev, sx, q⟩ := hu
    subst ev
    cases rv with
    | cons r rr =>
      cases rr with
      | cons r' rr =>
        cases rr
        cases r
        obtain ⟨t, r'⟩ := r'
        subst r'
        obtain ⟨its, rv, c1⟩ := src_coll I1 sx
        refine enum_begins (coll_begins tp a its.toArray) c1 hk0 hk1 fun h' hz e1 _ hk => wpAny_pyIter_enum hz ?_
        refine ⟨s1.heap.objs.size + 1, [s1.heap.objs.size + 1, s1.heap.objs.size], _, _, H1, rfl, I1.kept (t' := s1.toks) hk, turn_enumB (coll_lt c1), ⟨⟨Value.none, ?_⟩, iter_new e1⟩, fresh_fp I1 (fun c hc => by
          simp only [List.mem_cons, List.not_mem_nil, or_false] at hc
          rcases hc with e | e <;> rw [e] <;> first | exact Nat.le_add_right _ _ | exact Nat.le_refl _), q⟩
        have e0 : k + ((0 : Nat) : Int) = k := by simp
        rw [e0]
        exact hz
end
end Ri
end
section
set_option Elab.async false
set_option linter.all false
set_option maxRecDepth 100000
set_option maxHeartbeats 2000000
/-! Ri, part 7: built-in functions and methods by values. -/
namespace Ri
open PySem PySem.W L2
def rBlt (g : Gd) (f : Blt) : List V → Hp → VK → Prop := fun vs H Q => ∃ h ws P, HRel g h H ∧ Reps g h H ws vs ∧ bltW f (ws.map (vw h)) P ∧ FrH g h H P Q
section
variable {g : Gd} {X : Cx}
theorem reps0 {h : Hw} {H : Hp} {vs : List V} (r : Reps g h H [] vs) : vs = [] := by simpa only [Reps] using r
theorem blt_1 {h : Hw} {ws : List W} {x : W} (e : ws.map (vw h) = [x]) : ∃ w, ws = [w] ∧ vw h w = x := by
  match ws, e with
  | [w], e => exact ⟨w, rfl, by simpa using e⟩
theorem blt_2 {h : Hw} {ws : List W} {x y : W} (e : ws.map (vw h) = [x, y]) : ∃ w z, ws = [w, z] ∧ vw h w = x ∧ vw h z = y := by
  match ws, e with
  | [w, z], e => exact ⟨w, z, rfl, by simpa using e⟩
theorem ints_reps {h : Hw} {H : Hp} : ∀ {ws : List W} {is : List Int} {vs : List V}, intsOf ws = some is → Reps g h H ws vs → vs = is.map V.int
  | [], is, vs, e, r => by
    simp only [intsOf, Option.some.injEq] at e
    subst e
    exact reps0 r
  | w :: ws, is, vs, e, r => by
    cases w <;> simp only [intsOf, reduceCtorEq] at e
    cases e2 : intsOf ws with
    | none => rw [e2] at e; cases e
    | some js =>
      rw [e2] at e
      simp only [Option.map_some, Option.some.injEq] at e
      simp only [Reps, Rep] at r
      obtain ⟨v, vs', e3, e4, r2⟩ := r
      subst e e3 e4
      rw [ints_reps e2 r2]; rfl
theorem bls_reps {h : Hw} {H : Hp} : ∀ {ws : List W} {is : List Bool} {vs : List V}, blsOf ws = some is → Reps g h H ws vs → vs = is.map V.bl
  | [], is, vs, e, r => by
    simp only [blsOf, Option.some.injEq] at e
    subst e
    exact reps0 r
  | w :: ws, is, vs, e, r => by
    cases w <;> simp only [blsOf, reduceCtorEq] at e
    cases e2 : blsOf ws with
    | none => rw [e2] at e; cases e
    | some js =>
      rw [e2] at e
      simp only [Option.map_some, Option.some.injEq] at e
      simp only [Reps, Rep] at r
      obtain ⟨v, vs', e3, e4, r2⟩ := r
      subst e e3 e4
      rw [bls_reps e2 r2]; rfl
theorem strs_reps {h : Hw} {H : Hp} : ∀ {ws : List W} {is : List Str} {vs : List V}, strsOf ws = some is → Reps g h H ws vs → vs = is.map V.str
  | [], is, vs, e, r => by
    simp only [strsOf, Option.some.injEq] at e
    subst e
    exact reps0 r
  | w :: ws, is, vs, e, r => by
    cases w <;> simp only [strsOf, reduceCtorEq] at e
    cases e2 : strsOf ws with
    | none => rw [e2] at e; cases e
    | some js =>
      rw [e2] at e
      simp only [Option.map_some, Option.some.injEq] at e
      simp only [Reps, Rep] at r
      obtain ⟨v, vs', e3, e4, r2⟩ := r
      subst e e3 e4
      rw [strs_reps e2 r2]; rfl
theorem strs_rep {h : Hw} {H : Hp} : ∀ ys : List Str, Reps g h H (ys.map W.str) (ys.map V.str)
  | [] => by simp only [List.map_nil, Reps]
  | y :: ys => by
    simp only [List.map_cons, Reps]
    exact ⟨_, _, rfl, rep_str, strs_rep ys⟩
/-- pairs of ints as data -/
def prD (p : Int × Int) : PyData := .tuple [.int p.1, .int p.2]
theorem prs_map : ∀ {ws : List W} {is : List (Int × Int)}, prsOf ws = some is → ws = is.map fun p => W.tup [.int p.1, .int p.2]
  | [], is, e => by
    simp only [prsOf, Option.some.injEq] at e
    subst e; rfl
  | w :: ws, is, e => by
    unfold prsOf at e
    split at e
    · cases ‹_ :: _ = []›
    · rename_i i j ws' e0
      injection e0 with e0 e1
      subst e0 e1
      cases e2 : prsOf ws with
      | none => rw [e2] at e; cases e
      | some js =>
        rw [e2] at e
        simp only [Option.map_some, Option.some.injEq] at e
        subst e
        rw [prs_map e2]; rfl
    · cases e
theorem prs_dp {h : Hw} {H : Hp} : ∀ {is : List (Int × Int)} {vs : List V}, Reps g h H (is.map fun p => W.tup [.int p.1, .int p.2]) vs → DpAll g.K H vs (is.map prD)
  | [], vs, r => by
    have e := reps0 r
    subst e; exact .nil
  | p :: is, vs, r => by
    simp only [List.map_cons, Reps] at r
    obtain ⟨v, vs', e, r1, r2⟩ := r
    subst e
    exact .cons (toD_dp _ v _ r1 rfl) (prs_dp r2)
theorem prD_lt (p q : Int × Int) : dataLt (prD p) (prD q) = decide (p.1 < q.1 ∨ (p.1 = q.1 ∧ p.2 < q.2)) := by
  unfold prD
  rw [dataLt_pair (by simp [alike]) (by simp [alike]), dataLt_int, dataLt_int]
  have e1 : PyData.eqv (.int p.1) (.int q.1) = (p.1 == q.1) := by simp [PyData.eqv]
  have e2 : PyData.eqv (.int p.2) (.int q.2) = (p.2 == q.2) := by simp [PyData.eqv]
  rw [e1, e2]
  by_cases h1 : p.1 = q.1
  · by_cases h2 : p.2 = q.2
    · simp [h1, h2]
    · simp [h1, h2]
  · simp [h1]
theorem prD_inj {p q : Int × Int} (e : prD p = prD q) : p = q := by
  unfold prD at e
  injection e with e
  injection e with e1 e
  injection e with e2 _
  injection e1 with e1
  injection e2 with e2
  exact Prod.ext e1 e2
theorem minD_prs : ∀ (is : List (Int × Int)) (x : Int × Int), ∃ m, minD (prD x) (is.map prD) = prD m ∧ m ∈ x :: is ∧ ∀ k ∈ x :: is, leP m k
  | [], x => ⟨x, rfl, List.mem_cons_self, fun k hk => by
    have e := List.mem_singleton.mp hk
    subst e; exact .inr ⟨rfl, Int.le_refl _⟩⟩
  | y :: is, x => by
    unfold minD
    rw [List.map_cons, List.foldl_cons, prD_lt]
    by_cases c : y.1 < x.1 ∨ (y.1 = x.1 ∧ y.2 < x.2)
    · rw [if_pos (decide_eq_true c)]
      obtain ⟨m, e, hm, hl⟩ := minD_prs is y
      refine ⟨m, e, List.mem_cons_of_mem _ hm, fun k hk => ?_⟩
      rcases List.mem_cons.mp hk with z | z
      · subst z
        have := hl y List.mem_cons_self
        unfold leP at this ⊢
        omega
      · exact hl k z
    · rw [if_neg (by simpa using c)]
      obtain ⟨m, e, hm, hl⟩ := minD_prs is x
      refine ⟨m, e, ?_, fun k hk => ?_⟩
      · rcases List.mem_cons.mp hm with z | z
        · exact List.mem_cons.mpr (.inl z)
        · exact List.mem_cons_of_mem _ (List.mem_cons_of_mem _ z)
      · rcases List.mem_cons.mp hk with z | z
        · exact hl k (List.mem_cons.mpr (.inl z))
        · rcases List.mem_cons.mp z with z | z
          · subst z
            have := hl x List.mem_cons_self
            unfold leP at this ⊢
            omega
          · exact hl k (List.mem_cons_of_mem _ z)
theorem cb_len (hK : X.K = g.K) : CallR X (.builtin "len") (rBlt g .len) := by
  rintro pins s σ H vs us Q I r ⟨h, ws, P, hr, rr, q, post⟩
  generalize hm : ws.map (vw h) = l at q
  match l, hm, q with
  | [.lst xs], hm, q =>
    obtain ⟨w, e, ev⟩ := blt_1 hm
    subst e
    obtain ⟨v, e, r1⟩ := reps1 rr
    obtain ⟨a, ys, ea, ha, ra, _⟩ := vw_lst hr r1 ev
    subst e ea
    have l := ra.length
    exact call_len pins s σ H _ us Q I r ⟨_, xs.length, rfl, .inl ⟨ys, .inl (.inl ha), l⟩, post.2 _ _ _ q rfl Grow.refl hr rep_int⟩
  | [.tup xs], hm, q =>
    obtain ⟨w, e, ev⟩ := blt_1 hm
    subst e
    obtain ⟨v, e, r1⟩ := reps1 rr
    obtain ⟨a, ys, ea, ha, ra, _⟩ := vw_tup r1 ev
    subst e ea
    have l := ra.length
    rw [← hK] at ha
    exact call_len pins s σ H _ us Q I r ⟨_, xs.length, rfl, .inr ⟨ys, ha, l⟩, post.2 _ _ _ q rfl Grow.refl hr rep_int⟩
  | [.str x], hm, q =>
    obtain ⟨w, e, ev⟩ := blt_1 hm
    subst e
    obtain ⟨v, e, r1⟩ := reps1 rr
    have e2 := vw_str r1 ev
    subst e e2
    exact call_len pins s σ H _ us Q I r ⟨_, x.length, rfl, ⟨lim_le q.1, rfl⟩, post.2 _ _ _ q.2 rfl Grow.refl hr rep_int⟩
theorem cb_abs : CallR X (.builtin "abs") (rBlt g .abs) := by
  rintro pins s σ H vs us Q I r ⟨h, ws, P, hr, rr, q, post⟩
  generalize hm : ws.map (vw h) = l at q
  match l, hm, q with
  | [.int i], hm, q =>
    obtain ⟨w, e, ev⟩ := blt_1 hm
    subst e
    obtain ⟨v, e, r1⟩ := reps1 rr
    have e2 := vw_int r1 ev
    subst e e2
    exact call_abs pins s σ H _ us Q I r ⟨i, rfl, post.2 _ _ _ q rfl Grow.refl hr rep_int⟩
theorem cb_max2 (hc : X.calm = true) : CallR X (.builtin "max") (rBlt g .max2) := by
  rintro pins s σ H vs us Q I r ⟨h, ws, P, hr, rr, q, post⟩
  generalize hm : ws.map (vw h) = l at q
  match l, hm, q with
  | [.int i, .int j], hm, q =>
    obtain ⟨w, z, e, ev, ez⟩ := blt_2 hm
    subst e
    obtain ⟨v, u, e, r1, r2⟩ := reps2 rr
    have e1 := vw_int r1 ev
    have e2 := vw_int r2 ez
    subst e e1 e2
    exact call_max2 hc pins s σ H _ us Q I r ⟨i, j, rfl, post.2 _ _ _ q rfl Grow.refl hr rep_int⟩
theorem cb_min2 (hc : X.calm = true) : CallR X (.builtin "min") (rBlt g .min2) := by
  rintro pins s σ H vs us Q I r ⟨h, ws, P, hr, rr, q, post⟩
  generalize hm : ws.map (vw h) = l at q
  match l, hm, q with
  | [.int i, .int j], hm, q =>
    obtain ⟨w, z, e, ev, ez⟩ := blt_2 hm
    subst e
    obtain ⟨v, u, e, r1, r2⟩ := reps2 rr
    have e1 := vw_int r1 ev
    have e2 := vw_int r2 ez
    subst e e1 e2
    exact call_min2 hc pins s σ H _ us Q I r ⟨i, j, rfl, post.2 _ _ _ q rfl Grow.refl hr rep_int⟩
theorem cb_int : CallR X (.type "int") (rBlt g .int) := by
  rintro pins s σ H vs us Q I r ⟨h, ws, P, hr, rr, q, post⟩
  generalize hm : ws.map (vw h) = l at q
  match l, hm, q with
  | [.int i], hm, q =>
    obtain ⟨w, e, ev⟩ := blt_1 hm
    subst e
    obtain ⟨v, e, r1⟩ := reps1 rr
    have e2 := vw_int r1 ev
    subst e e2
    exact call_int1 pins s σ H _ us Q I r (.inl ⟨i, rfl, post.2 _ _ _ q rfl Grow.refl hr rep_int⟩)
  | [.str x], hm, q =>
    obtain ⟨w, e, ev⟩ := blt_1 hm
    subst e
    obtain ⟨v, e, r1⟩ := reps1 rr
    have e2 := vw_str r1 ev
    subst e e2
    obtain ⟨q1, q⟩ := q
    split at q
    · rename_i n en
      exact call_int_str pins s σ H _ us Q I r ⟨x, n, rfl, en, by omega, post.2 _ _ _ q rfl Grow.refl hr rep_int⟩
    · exact q.elim
theorem cb_str : CallR X (.type "str") (rBlt g .str) := by
  rintro pins s σ H vs us Q I r ⟨h, ws, P, hr, rr, q, post⟩
  generalize hm : ws.map (vw h) = l at q
  match l, hm, q with
  | [.int i], hm, q =>
    obtain ⟨w, e, ev⟩ := blt_1 hm
    subst e
    obtain ⟨v, e, r1⟩ := reps1 rr
    have e2 := vw_int r1 ev
    subst e e2
    exact call_str_int pins s σ H _ us Q I r ⟨i, rfl, q.1, post.2 _ _ _ q.2 rfl Grow.refl hr rep_str⟩
  | [.str x], hm, q =>
    obtain ⟨w, e, ev⟩ := blt_1 hm
    subst e
    obtain ⟨v, e, r1⟩ := reps1 rr
    have e2 := vw_str r1 ev
    subst e e2
    exact SkE.call_str_str pins s σ H _ us Q I r ⟨x, rfl, post.2 _ _ _ q rfl Grow.refl hr rep_str⟩
theorem cb_maxL (hc : X.calm = true) : CallR X (.builtin "max") (rBlt g .maxL) := by
  rintro pins s σ H vs us Q I r ⟨h, ws, P, hr, rr, q, post⟩
  generalize hm : ws.map (vw h) = l at q
  match l, hm, q with
  | [.lst xs], hm, q =>
    obtain ⟨w, e, ev⟩ := blt_1 hm
    subst e
    obtain ⟨v, e, r1⟩ := reps1 rr
    obtain ⟨a, ys, ea, ha, ra, _⟩ := vw_lst hr r1 ev
    subst e ea
    dsimp only [bltW] at q
    split at q
    · rename_i is ei
      have ey := ints_reps ei ra
      subst ey
      exact cr_max hc pins s σ H _ us Q I r ⟨a, is, rfl, .inl (.inl ha), List.length_pos_iff.mpr q.1, fun m h1 h2 => post.2 _ _ _ (q.2 m h1 h2) rfl Grow.refl hr rep_int⟩
    · exact q.elim
theorem cb_all (hc : X.calm = true) : CallR X (.builtin "all") (rBlt g .all) := by
  rintro pins s σ H vs us Q I r ⟨h, ws, P, hr, rr, q, post⟩
  generalize hm : ws.map (vw h) = l at q
  match l, hm, q with
  | [.lst xs], hm, q =>
    obtain ⟨w, e, ev⟩ := blt_1 hm
    subst e
    obtain ⟨v, e, r1⟩ := reps1 rr
    obtain ⟨a, ys, ea, ha, ra, _⟩ := vw_lst hr r1 ev
    subst e ea
    dsimp only [bltW] at q
    split at q
    · rename_i is ei
      have ey := bls_reps ei ra
      subst ey
      exact cr_all hc pins s σ H _ us Q I r ⟨a, is, rfl, .inl (.inl ha), post.2 _ _ _ q rfl Grow.refl hr rep_bl⟩
    · exact q.elim
theorem cb_tuple (hK : X.K = g.K) : CallR X (.type "tuple") (rBlt g .tuple) := by
  rintro pins s σ H vs us Q I r ⟨h, ws, P, hr, rr, q, post⟩
  generalize hm : ws.map (vw h) = l at q
  match l, hm, q with
  | [.lst xs], hm, q =>
    obtain ⟨w, e, ev⟩ := blt_1 hm
    subst e
    obtain ⟨v, e, r1⟩ := reps1 rr
    obtain ⟨a, ys, ea, ha, ra, lz⟩ := vw_lst hr r1 ev
    subst e ea
    exact call_tuple_of pins s σ H _ us Q I r ⟨a, ys, rfl, .inl ⟨.inl (.inl ha), fun l hl => post.2 _ _ _ q rfl (Grow.new hl) (hr.new hl) (rep_tup hr hl ra lz)⟩⟩
  | [.tup xs], hm, q =>
    obtain ⟨w, e, ev⟩ := blt_1 hm
    subst e
    obtain ⟨v, e, r1⟩ := reps1 rr
    obtain ⟨a, ys, ea, ha, ra, lz⟩ := vw_tup r1 ev
    have rt : Rep g h H (.tup xs) v := by
      cases w with
      | tup us =>
        simp only [vw, W.tup.injEq] at ev
        subst ev
        exact r1
      | loc a =>
        simp only [vw] at ev
        split at ev <;> cases ev
      | _ => simp [vw] at ev
    subst e ea
    rw [← hK] at ha
    exact call_tuple_of pins s σ H _ us Q I r ⟨a, ys, rfl, .inr ⟨ha, post.2 _ _ _ q rfl Grow.refl hr rt⟩⟩
theorem cb_list (hK : X.K = g.K) : CallR X (.type "list") (rBlt g .list) := by
  rintro pins s σ H vs us Q I r ⟨h, ws, P, hr, rr, q, post⟩
  generalize hm : ws.map (vw h) = l at q
  match l, hm, q with
  | [.lst xs], hm, q =>
    obtain ⟨w, e, ev⟩ := blt_1 hm
    subst e
    obtain ⟨v, e, r1⟩ := reps1 rr
    obtain ⟨a, ys, ea, ha, ra, lz⟩ := vw_lst hr r1 ev
    subst e ea
    exact call_list_of pins s σ H _ us Q I r ⟨a, ys, rfl, .inl (.inl (.inl ha)), fun l hl => post.1 _ q _ _ _ Grow.refl hr hl ra lz⟩
  | [.tup xs], hm, q =>
    obtain ⟨w, e, ev⟩ := blt_1 hm
    subst e
    obtain ⟨v, e, r1⟩ := reps1 rr
    obtain ⟨a, ys, ea, ha, ra, lz⟩ := vw_tup r1 ev
    subst e ea
    rw [← hK] at ha
    exact call_list_of pins s σ H _ us Q I r ⟨a, ys, rfl, .inr ha, fun l hl => post.1 _ q _ _ _ Grow.refl hr hl ra lz⟩
  | [.scr xs], hm, q =>
    obtain ⟨w, e, ev⟩ := blt_1 hm
    subst e
    obtain ⟨v, e, r1⟩ := reps1 rr
    have e2 : w = .scr xs := by
      cases w with
      | scr us => simpa only [vw] using ev
      | loc a =>
        simp only [vw] at ev
        split at ev <;> cases ev
      | _ => simp [vw] at ev
    subst e e2
    simp only [Rep] at r1
    obtain ⟨a, ys, ea, ha, ra⟩ := r1
    subst ea
    exact call_list_of pins s σ H _ us Q I r ⟨a, ys, rfl, .inl (by rw [hK]; exact ha.sq), fun l hl => post.1 _ q _ _ _ Grow.refl hr hl ra ha.2⟩
theorem cb_minL (hK : X.K = g.K) (hc : X.calm = true) (hu : X.A.units + 65 < cLine) : CallR X (.builtin "min") (rBlt g .minL) := by
  rintro pins s σ H vs us Q I r ⟨h, ws, P, hr, rr, q, post⟩
  generalize hm : ws.map (vw h) = l at q
  match l, hm, q with
  | [.lst xs], hm, q =>
    obtain ⟨w, e, ev⟩ := blt_1 hm
    subst e
    obtain ⟨v, e, r1⟩ := reps1 rr
    obtain ⟨a, ys, ea, ha, ra, _⟩ := vw_lst hr r1 ev
    subst e ea
    dsimp only [bltW] at q
    split at q
    · rename_i is ei
      obtain ⟨q0, q⟩ := q
      have ex := prs_map ei
      subst ex
      have dp := prs_dp ra
      rw [← hK] at dp
      obtain ⟨its, rv, hl, _⟩ := I.list (X := X) (.inl (.inl ha) : SqL X.K H a ys)
      obtain ⟨as, rd⟩ := Dp.readsAll I _ ys its dp rv
      obtain ⟨u, eu, ru⟩ := vals1 r
      obtain rfl : u = Value.ref a := ru
      subst eu
      cases is with
      | nil => exact absurd rfl q0
      | cons p is =>
        obtain ⟨m, em, hmem, hle⟩ := minD_prs is p
        have ha0 : AlikeAll (prD p :: is.map prD) := by
          have e : prD p :: is.map prD = (p :: is).map prD := rfl
          rw [e]
          refine ⟨fun x hx y hy => ?_, fun x hx z => ?_⟩
          · obtain ⟨x', _, e1⟩ := List.mem_map.mp hx
            obtain ⟨y', _, e2⟩ := List.mem_map.mp hy
            subst e1 e2
            simp [prD, alike, alikeAll]
          · obtain ⟨x', _, e1⟩ := List.mem_map.mp hx
            subst e1
            unfold prD at z; cases z
        have dep : PyData.depthAll (prD p :: is.map prD) ≤ 1 := by
          have gen : ∀ l : List (Int × Int), PyData.depthAll (l.map prD) ≤ 1 := fun l => by
            induction l with
            | nil => simp [PyData.depthAll]
            | cons y l ih => simp only [List.map_cons, PyData.depthAll, prD, PyData.depth]; omega
          exact gen (p :: is)
        refine min_list_data (I.ok.hd hc) hl.isList (by simpa using rd) ha0 (by omega) fun i v' h' tk bs hv hrd hk => ?_
        obtain ⟨x', ex', rx'⟩ := vals_at rv hv
        have hi : i < ys.length := (List.getElem?_eq_some_iff.mp ex').1
        have l := ra.length
        obtain ⟨w', ew'⟩ : ∃ w', ((p :: is).map fun p => W.tup [.int p.1, .int p.2])[i]? = some w' := ⟨_, List.getElem?_eq_getElem (by omega)⟩
        obtain ⟨x'', ex'', rp⟩ := ra.get ew'
        rw [ex'] at ex''; cases ex''
        rw [List.getElem?_map] at ew'
        obtain ⟨k, ek, ew'⟩ := Option.map_eq_some_iff.mp ew'
        subst ew'
        have I' : Inv X pins σ H { s with heap := h', toks := tk } := I.kept hk
        -- what is read there is the pair itself
        have dk : Dp X.K H x' (prD k) := by rw [hK]; exact toD_dp _ x' _ rp rfl
        obtain ⟨as2, rd2⟩ := Dp.reads I' _ x' v' dk rx'
        have same : prD k = minD (prD p) (is.map prD) := (Reads.unique rd2 _ _ hrd).1
        have ekm : k = m := prD_inj (same.trans em)
        subst ekm
        exact ⟨x', H, I', rx', post.2 _ x' H (q k hmem hle) rfl Grow.refl hr rp⟩
    · exact q.elim
end
end Ri
end
section
set_option Elab.async false
set_option linter.all false
set_option maxRecDepth 100000
set_option maxHeartbeats 2000000
/-! Ri, part 8: subscripts, slices, displays, calls, fields, comprehensions, ghosts. -/
namespace Ri
open PySem PySem.W L2
section
variable {g : Gd} {C : Calls} {W' : WX} {S : Sx} {X : Cx} {a b c : Expr} {a' b' c' : Ex} {pos : Pos}
theorem s_lstF {es : List Expr} {es' : List Ex} (ha : PA X es (TRs g C W' es')) : PE X (.List es pos) (TF g C W' (.lst es')) := by
  refine pe_imp (pe_lst ha) ?_
  rintro σ H Q ⟨R, τ, h, P, E, hr, sr, hw, post, hx⟩
  refine trs_mk hr sr hx hw fun ws h1 vs H1 q g1 hr1 r => ?_
  have l := r.length
  exact ⟨le1000 (by rw [← l]; exact q.1), fun p hp => post.1 _ h1 q.2 vs p H1 g1 hr1 hp r (le1000 (by rw [← l]; exact q.1))⟩
/-! ### subscripts -/
theorem atI_rep {h : Hw} {H : Hp} {ws : List W} {vs : List V} {i : Int} {w : W} (r : Reps g h H ws vs) (e : atI ws i = some w) : ∃ v, atI vs i = some v ∧ Rep g h H w v := by
  unfold atI at e ⊢
  rw [← r.length]
  cases e1 : ixN ws.length i with
  | none => rw [e1] at e; cases e
  | some j =>
    rw [e1] at e
    exact r.get e
def rAt (g : Gd) : R2 := fun x y H Q => ∃ h w1 w2 P, HRel g h H ∧ Rep g h H w1 x ∧ Rep g h H w2 y ∧ atW (vw h w1) w2 P ∧ PostH g h H P Q
theorem atW_of {x y : W} {P : W → Prop} (q : atW x y P) : ∃ i, y = .int i ∧ ((∃ ws w, x = .lst ws ∧ atI ws i = some w ∧ P w) ∨ (∃ ws w, x = .tup ws ∧ atI ws i = some w ∧ P w) ∨ ∃ s c, x = .str s ∧ s.length ≤ lim ∧ atI s.cps.toList i = some c ∧ P (.str ⟨#[c]⟩)) := by
  cases x <;> first | exact False.elim q | skip
  all_goals (cases y <;> first | exact False.elim q | skip)
  all_goals (simp only [atW] at q)
  · obtain ⟨q0, q⟩ := q
    split at q
    · rename_i c e
      exact ⟨_, rfl, .inr (.inr ⟨_, c, rfl, q0, e, q⟩)⟩
    · exact q.elim
  · split at q
    · rename_i c e
      exact ⟨_, rfl, .inr (.inl ⟨_, c, rfl, e, q⟩)⟩
    · exact q.elim
  · split at q
    · rename_i c e
      exact ⟨_, rfl, .inl ⟨_, c, rfl, e, q⟩⟩
    · exact q.elim
theorem ixAt (hK : X.K = g.K) : IxR X (rAt g) := by
  rintro value slice pins s σ H x y v u Q I rx ry ⟨h, w1, w2, P, hr, r1, r2, q, post⟩ hs
  obtain ⟨i, e2, q'⟩ := atW_of q
  subst e2
  simp only [Rep] at r2
  rcases q' with ⟨ws, w, e1, e, q⟩ | ⟨ws, w, e1, e, q⟩ | ⟨z, c, e1, q0, e, q⟩
  · obtain ⟨a, xs, ea, ha, ra, _⟩ := vw_lst hr r1 e1
    obtain ⟨v', e', rv⟩ := atI_rep ra e
    exact ix_list value slice pins s σ H x y v u Q I rx ry ⟨a, xs, i, v', ea, r2, .inl (.inl ha), e', post _ _ _ q Grow.refl hr rv⟩ hs
  · obtain ⟨a, xs, ea, ha, ra, _⟩ := vw_tup r1 e1
    obtain ⟨v', e', rv⟩ := atI_rep ra e
    rw [← hK] at ha
    exact ix_tup value slice pins s σ H x y v u Q I rx ry ⟨a, xs, i, v', ea, r2, ha, e', post _ _ _ q Grow.refl hr rv⟩ hs
  · have ez := vw_str r1 e1
    exact ix_str value slice pins s σ H x y v u Q I rx ry ⟨z, i, c, ez, r2, lim_le q0, e, post _ _ _ q Grow.refl hr rep_str⟩ hs
theorem ixAtX (hX : Xk g C W' S X) : IxR X (exR rAt g) := fun value slice pins s σ H x y v u Q I rx ry ⟨R, q⟩ hs => ixAt (g := g.at R) hX.k value slice pins s σ H x y v u Q I rx ry q hs
theorem s_sub (hX : Xk g C W' S X) (ha : PE X a (TR g C W' a')) (hb : PE X b (TR g C W' b')) (hs : PlainIx b) : PE X (.Subscript a b pos) (TR g C W' (.sub a' b')) := by
  refine pe_imp (pe_ix (ixAtX hX) ha hb hs) ?_
  rintro σ H Q ⟨R, τ, h, P, E, hr, sr, hw, post, hx⟩
  refine tr_mk hr sr hx hw fun w1 h1 v1 H1 q1 g1 hr1 r1 => ?_
  refine tr_mk hr1 (sr.grow g1) (hx.grow g1) q1 fun w2 h2 v2 H2 q2 g2 hr2 r2 => ?_
  exact ⟨R, h2, w1, w2, _, hr2, Rep.grow g2 _ _ r1, r2, q2, fun z v H' q gr hr' r => post z h2 v H' q ((g1.trans g2).trans gr) hr' r⟩
/-! ### slices -/
/-- an end of a slice -/
def endOf : W → Option (Option Int)
  | .int i => some (some i)
  | .non => some none
  | _ => none
theorem slW_of {x lo hi : W} {P : W → Prop} (q : slW x lo hi P) : ∃ i j, endOf lo = some i ∧ endOf hi = some j ∧ ((∃ ws, x = .lst ws ∧ P (.lst (cutL ws i j))) ∨ ∃ ws, x = .tup ws ∧ P (.tup (cutL ws i j))) := by
  cases x <;> first | exact False.elim q | skip
  all_goals (cases lo <;> first | exact False.elim q | skip)
  all_goals (cases hi <;> first | exact False.elim q | skip)
  · exact ⟨_, _, rfl, rfl, .inr ⟨_, rfl, q⟩⟩
  · exact ⟨_, _, rfl, rfl, .inr ⟨_, rfl, q⟩⟩
  · exact ⟨_, _, rfl, rfl, .inr ⟨_, rfl, q⟩⟩
  · exact ⟨_, _, rfl, rfl, .inr ⟨_, rfl, q⟩⟩
  · exact ⟨_, _, rfl, rfl, .inl ⟨_, rfl, q⟩⟩
  · exact ⟨_, _, rfl, rfl, .inl ⟨_, rfl, q⟩⟩
  · exact ⟨_, _, rfl, rfl, .inl ⟨_, rfl, q⟩⟩
  · exact ⟨_, _, rfl, rfl, .inl ⟨_, rfl, q⟩⟩
theorem cut_reps {h : Hw} {H : Hp} {ws : List W} {vs : List V} (r : Reps g h H ws vs) (i j : Option Int) : Reps g h H (cutL ws i j) (cutV vs i j) := by
  unfold cutL cutV
  rw [r.length]
  exact (r.drop _).take _
theorem cut_whole {α : Type} (xs : List α) (i j : Option Int) (e : HT.sIx xs.length 0 i = 0 ∧ HT.sIx xs.length xs.length j = xs.length) : cutL xs i j = xs := by
  unfold cutL
  rw [e.1, e.2]
  simp
/-- a part of a slice: written, or left out -/
def ToE (g : Gd) (C : Calls) (W' : WX) (e : Ex) : TO := fun σ H Q => ∃ R τ h P E, HRel (g.at R) h H ∧ SRel (g.at R) h H τ σ ∧ wpE C e τ h P E ∧
  (∀ w h' H', P w h' → Grow h H h' H' → HRel (g.at R) h' H' → ∃ i, endOf w = some i ∧ Q i H') ∧ PostX (g.at R) h H E fun cls d H' => W' cls d σ H'
theorem po_imp {e : Option Expr} {t t' : TO} (h : PO X e t) (k : ∀ σ H Q, t' σ H Q → t σ H Q) : PO X e t' := ⟨fun pins s σ H Q I q => h.run pins s σ H Q I (k σ H Q q)⟩
theorem o_none : PO X none (ToE g C W' .non) := by
  refine po_imp po_none ?_
  rintro σ H Q ⟨R, τ, h, P, E, hr, sr, hw, post, hx⟩
  obtain ⟨i, e, q⟩ := post _ h H hw Grow.refl hr
  simp only [endOf, Option.some.injEq] at e
  subst e
  exact q
/-- a slice by values -/
def rSlW (g : Gd) : V → Option Int → Option Int → Hp → VK → Prop := fun x i j H Q => ∃ h w P, HRel g h H ∧ Rep g h H w x ∧
  ((∃ ws, vw h w = .lst ws ∧ P (.lst (cutL ws i j))) ∨ ∃ ws, vw h w = .tup ws ∧ P (.tup (cutL ws i j))) ∧ FrH g h H P Q
theorem vw_tup_rep {h : Hw} {H : Hp} {w : W} {v : V} {ws : List W} (r : Rep g h H w v) (e : vw h w = .tup ws) : Rep g h H (.tup ws) v := by
  cases w with
  | tup us =>
    simp only [vw, W.tup.injEq] at e
    subst e
    exact r
  | loc a =>
    simp only [vw] at e
    split at e <;> cases e
  | _ => simp [vw] at e
theorem slRw (hK : X.K = g.K) : SlR X (rSlW g) := by
  have both := SlR.or (sl_list (X := X)) (sl_tupA (X := X))
  intro pins s σ H x v vl vu i j sl Q I rx hs pl pu q
  refine both pins s σ H x v vl vu i j sl Q I rx hs pl pu ?_
  obtain ⟨h, w, P, hr, r1, q, post⟩ := q
  rcases q with ⟨ws, e, q⟩ | ⟨ws, e, q⟩
  · obtain ⟨a, xs, ea, ha, ra, lz⟩ := vw_lst hr r1 e
    exact .inl ⟨a, xs, ea, .inl (.inl ha), fun p hp => post.1 _ q _ _ _ Grow.refl hr hp (cut_reps ra i j) (Nat.le_trans (cutV_length xs i j) lz)⟩
  · obtain ⟨a, xs, ea, ha, ra, lz⟩ := vw_tup r1 e
    have rt := vw_tup_rep r1 e
    have l := ra.length
    rw [← hK] at ha
    refine .inr ⟨a, xs, ea, ha, fun z => ?_, fun _ p hp => ?_⟩
    · subst ea
      rw [← l] at z
      rw [cut_whole ws i j z] at q
      exact post.2 _ _ _ q rfl Grow.refl hr rt
    · exact post.2 _ _ _ q rfl (Grow.new hp) (hr.new hp) (rep_tup hr hp (cut_reps ra i j) (Nat.le_trans (cutV_length xs i j) lz))
theorem slRwX (hX : Xk g C W' S X) : SlR X (fun x i j H Q => ∃ R, rSlW (g.at R) x i j H Q) := fun pins s σ H x v vl vu i j sl Q I rx hs pl pu ⟨R, q⟩ => slRw (g := g.at R) hX.k pins s σ H x v vl vu i j sl Q I rx hs pl pu q
/-- a part that is an int where it is written -/
def ToI (g : Gd) (C : Calls) (W' : WX) (e : Ex) : TO := fun σ H Q => ∃ R τ h P E, HRel (g.at R) h H ∧ SRel (g.at R) h H τ σ ∧ wpE C e τ h P E ∧
  (∀ w h' H', P w h' → Grow h H h' H' → HRel (g.at R) h' H' → isEnd e w = true ∧ ∀ i, endOf w = some i → Q i H') ∧ PostX (g.at R) h H E fun cls d H' => W' cls d σ H'
theorem i_none : PO X none (ToI g C W' .non) := by
  refine po_imp po_none ?_
  rintro σ H Q ⟨R, τ, h, P, E, hr, sr, hw, post, hx⟩
  exact (post _ h H hw Grow.refl hr).2 none rfl
theorem i_some (ha : PE X a (TR g C W' a')) (hn : (match a' with
    | .non => false
    | _ => true) = true) : PO X (some a) (ToI g C W' a') := by
  refine po_imp (po_some ha) ?_
  rintro σ H Q ⟨R, τ, h, P, E, hr, sr, hw, post, hx⟩
  refine tr_mk hr sr hx hw fun w1 h1 v1 H1 q1 g1 hr1 r1 => ?_
  obtain ⟨e1, q⟩ := post _ h1 H1 q1 g1 hr1
  have e2 : ∃ i, w1 = .int i := by
    cases a' with
    | non => cases hn
    | _ => cases w1 <;> first | exact ⟨_, rfl⟩ | cases e1
  obtain ⟨i, e2⟩ := e2
  subst e2
  simp only [Rep] at r1
  exact ⟨i, r1, q _ rfl⟩
theorem s_sliF (hX : Xk g C W' S X) {lo hi : Option Expr} {l' h' : Ex} {p2 : Pos} (ha : PE X a (TR g C W' a')) (hl : PO X lo (ToI g C W' l')) (hh : PO X hi (ToI g C W' h')) : PE X (.Subscript a (.Slice lo hi none p2) pos) (TF g C W' (.sli a' l' h')) := by
  refine pe_imp (pe_slice (slRwX hX) ha hl hh) ?_
  rintro σ H Q ⟨R, τ, h, P, E, hr, sr, hw, post, hx⟩
  refine tr_mk hr sr hx hw fun w1 h1 v1 H1 q1 g1 hr1 r1 => ?_
  refine ⟨R, τ, h1, _, E, hr1, sr.grow g1, q1, fun w2 h2 H2 q2 g2 hr2 => ⟨q2.1, fun i e2 => ?_⟩, hx.grow g1⟩
  refine ⟨R, τ, h2, _, E, hr2, (sr.grow g1).grow g2, q2.2, fun w3 h3 H3 q3 g3 hr3 => ⟨q3.1, fun j e4 => ?_⟩, (hx.grow g1).grow g2⟩
  obtain ⟨i', j', e3, e5, q4⟩ := slW_of q3.2
  rw [e2] at e3
  cases e3
  rw [e4] at e5
  cases e5
  exact ⟨R, h3, w1, _, hr3, Rep.grow g3 _ _ (Rep.grow g2 _ _ r1), q4, (((post.grow g1).grow g2).grow g3).frH⟩
theorem s_sli (hX : Xk g C W' S X) {lo hi : Option Expr} {l' h' : Ex} {p2 : Pos} (ha : PE X a (TR g C W' a')) (hl : PO X lo (ToI g C W' l')) (hh : PO X hi (ToI g C W' h')) : PE X (.Subscript a (.Slice lo hi none p2) pos) (TR g C W' (.sli a' l' h')) := pe_imp (s_sliF hX ha hl hh) fun _ _ _ => tf_tr

/-! ### calls -/
theorem spR_of {R : Addr → Prop} {h h1 : Hw} {H H1 : Hp} {P : KW} {E : XW} {Q : VK} {σ : L2.St} {f : String} {ws : List W} {vs : List V} (post : PostE (g.at R) h H P Q) (hx : PostX (g.at R) h H E fun cls d H' => W' cls d σ H') (g1 : Grow h H h1 H1) (hr1 : HRel (g.at R) h1 H1) (r : Reps (g.at R) h1 H1 ws vs) (q : C f ws h1 P E) :
    spR g C f vs H1 Q (WE W' σ) := ⟨R, h1, ws, P, E, hr1, r, q, post.grow g1, hx.grow g1⟩
theorem s_call (hX : Xk g C W' S X) {f : String} {es : List Expr} {es' : List Ex} {p : Pos} (hf : f ∈ S.fs) (hg : Gl X (Str.ofString f)) (ha : PA X (a :: es) (TRs g C W' es')) (hd : (Str.ofString f == ("__debug__" : Str)) = false)
    (he : starEach (a :: es) X.env = (false, eval a X.env) :: starEach es X.env) (hpl : (backTo pos (starEach es X.env)).any (·.1) = false) : PE X (.Call (.Name (Str.ofString f) p) (a :: es) [] pos) (TR g C W' (.call f es')) := by
  obtain ⟨k, fa, fd, ps, F, hr, hm, hk, hb⟩ := hX.callf f hf
  refine pe_imp (pe_callS F hr hg hm hk hb (fun σ => passAt hX.tk σ) ha hd he hpl) ?_
  rintro σ H Q ⟨R, τ, h, P, E, hr, sr, hw, post, hx⟩
  exact trs_mk hr sr hx hw fun ws h1 vs H1 q g1 hr1 r => spR_of post hx g1 hr1 r q
theorem isCls_rep {h : Hw} {H : Hp} {w : W} {v : V} {c : Cl} (hr : HRel g h H) (r : Rep g h H w v) (e : isCls h c w = true) : ∃ a dx vs, v = .ref a ∧ H a = some (.ins (g.CA c) dx ((flds c).zip vs)) ∧ vs.length ≤ (flds c).length := by
  cases w <;> simp only [isCls, Bool.false_eq_true] at e
  · have e := of_decide_eq_true e
    subst e
    simp only [Rep] at r
    obtain ⟨a, dx, vs, e1, _, e2, l, q⟩ := r
    exact ⟨a, dx, vs, e1, e2, by rw [← q.length]; exact l⟩
  · split at e
    · rename_i d ws e1
      have e := of_decide_eq_true e
      subst e
      simp only [Rep] at r
      obtain ⟨dx, vs, e2, l, q⟩ := hr.own _ _ e1
      exact ⟨_, dx, vs, r, e2, by rw [← q.length]; exact l⟩
    · cases e
theorem zip_lookup_none {m : Str} : ∀ {xs : List Str} {vs : List V}, m ∉ xs → (xs.zip vs).lookup m = none
  | [], _, _ => rfl
  | _ :: _, [], _ => rfl
  | x :: xs, v :: vs, h => by
    simp only [List.zip_cons_cons, List.lookup]
    have e : (m == x) = false := by
      simp only [List.mem_cons, not_or] at h
      simpa using h.1
    rw [e]
    exact zip_lookup_none fun z => h (List.mem_cons_of_mem _ z)
/-- o.m(e, ..): what is raised is wished for at the caller's slots -/
theorem run_meth {k : Nat} {f : Addr} {fd : FuncData} {ps : List Str} {sp : Sp} {pins : List (Addr × Obj)} {σ : L2.St} {H : Hp} {s : Shared} {Q : VK} {us : List Value} {vs : List V} (hX : Xk g C W' S X) (F : FnOk X.prog X.w X.K X.mg X.base (L2.CX X.prog X.w) k f fd ps sp) (hr : Room k X.A) (hb : Binds X.K fd ps [])
    (I : Inv X pins σ H s) (r : Vals vs us) (q : sp vs H Q (WE W' σ)) : wpAny (model X.prog X.w) X.A (call (.ref f) us) (EP X pins σ Q) X.xe s := run_fnS F hr hb (E := WE W') (passAt hX.tk σ) I r q
theorem s_mth (hX : Xk g C W' S X) {cl : Cl} {m key : String} {es : List Expr} {es' : List Ex} {apos : Pos} {pl : Sem Bool} (hc : cl ∈ S.cl) (hf : (cl, m, key) ∈ S.ms) (ho : PE X b (TR g C W' b')) (ha : PA X (a :: es) (TRs g C W' es'))
    (hst : starEach (a :: es) X.env = (false, eval a X.env) :: starEach es X.env) (hpl : (backTo pos (starEach es X.env)).any (·.1) = false)
    (ht : eval (.Call (.Attribute b (Str.ofString m) apos) (a :: es) [] pos) X.env = (do
      let ov ← eval b X.env
      standAt apos.atName
      let (f, first) ← holding [ov] (getMethod ov (Str.ofString m) pl)
      callWith pos f first (backTo pos (starEach (a :: es) X.env)) (backToKw pos (keywordEach [] X.env)))) :
    PE X (.Call (.Attribute b (Str.ofString m) apos) (a :: es) [] pos) (TR g C W' (.mth cl m key b' es')) := by
  obtain ⟨k, fa, fd, ps, F, hr, hm, hb, hn⟩ := hX.methf _ hf
  obtain ⟨c, _⟩ := hX.clf _ hc
  refine ⟨fun pins s σ H Q I q => ?_⟩
  obtain ⟨R, τ, h, P, E, hr0, sr, hw, post, hx⟩ := q
  refine PySem.W.methodCall_KW (pl := pl) (thn (ho.run pins s σ H (fun v H1 => ∃ w h1, v ∈ [v] ∧ HRel (g.at R) h1 H1 ∧ Grow h H h1 H1 ∧ Rep (g.at R) h1 H1 w v ∧ isCls h1 cl w = true ∧ wpEs C es' τ h1 (fun ws h2 => C key (w :: ws) h2 P E) E) I
    (tr_mk hr0 sr hx hw fun w1 h1 v1 H1 q1 g1 hr1 r1 => ⟨w1, h1, List.mem_singleton.mpr rfl, hr1, g1, r1, q1.1, q1.2⟩)) fun u s1 hu => ?_) ht
  obtain ⟨v, H1, I1, rv, w, h1, _, hr1, g1, r1, ic, q1⟩ := hu
  obtain ⟨ad, dx, vs, ev, eh, _⟩ := isCls_rep hr1 r1 ic
  subst ev
  obtain rfl : u = Value.ref ad := rv
  refine getmeth_ok I1 eh c hm (zip_lookup_none hn) ?_
  refine PySem.W.callWith_K (first := [.ref ad]) (h₀ := X.base) I.ok.mod.kin hm.kp (thn (ha.run pos pins s1 σ H1 (fun vs H2 => spR g C key (.ref ad :: vs) H2 Q (WE W' σ)) I1 (trs_mk hr1 (sr.grow g1) (hx.grow g1) q1 fun ws h2 vs H2 q2 g2 hr2 r2 => ?_)) fun us s2 hu2 => ?_) hst hpl
  · exact spR_of post hx (g1.trans g2) hr2 (by simp only [Reps]; exact ⟨_, _, rfl, Rep.grow g2 _ _ r1, r2⟩) q2
  · obtain ⟨vs2, H2, I2, r2, q2⟩ := hu2
    exact ⟨I2.kIn, run_meth (us := .ref ad :: us) (vs := .ref ad :: vs2) hX F hr hb I2 (.cons rfl r2) q2⟩
theorem s_mth0 (hX : Xk g C W' S X) {cl : Cl} {m key : String} {apos : Pos} {pl : Sem Bool} (hc : cl ∈ S.cl) (hf : (cl, m, key) ∈ S.ms) (ho : PE X b (TR g C W' b'))
    (ht : eval (.Call (.Attribute b (Str.ofString m) apos) [] [] pos) X.env = (do
      let ov ← eval b X.env
      standAt apos.atName
      let (f, first) ← holding [ov] (getMethod ov (Str.ofString m) pl)
      callWith pos f first (backTo pos (starEach [] X.env)) (backToKw pos (keywordEach [] X.env)))) :
    PE X (.Call (.Attribute b (Str.ofString m) apos) [] [] pos) (TR g C W' (.mth cl m key b' [])) := by
  obtain ⟨k, fa, fd, ps, F, hr, hm, hb, hn⟩ := hX.methf _ hf
  obtain ⟨c, _⟩ := hX.clf _ hc
  refine ⟨fun pins s σ H Q I q => ?_⟩
  obtain ⟨R, τ, h, P, E, hr0, sr, hw, post, hx⟩ := q
  refine PySem.W.methodCall_KW (pl := pl) (thn (ho.run pins s σ H (fun v H1 => ∃ w h1, v ∈ [v] ∧ HRel (g.at R) h1 H1 ∧ Grow h H h1 H1 ∧ Rep (g.at R) h1 H1 w v ∧ isCls h1 cl w = true ∧ C key [w] h1 P E) I
    (tr_mk hr0 sr hx hw fun w1 h1 v1 H1 q1 g1 hr1 r1 => ⟨w1, h1, List.mem_singleton.mpr rfl, hr1, g1, r1, q1.1, q1.2⟩)) fun u s1 hu => ?_) ht
  obtain ⟨v, H1, I1, rv, w, h1, _, hr1, g1, r1, ic, q1⟩ := hu
  obtain ⟨ad, dx, vs, ev, eh, _⟩ := isCls_rep hr1 r1 ic
  subst ev
  obtain rfl : u = Value.ref ad := rv
  refine getmeth_ok I1 eh c hm (zip_lookup_none hn) ?_
  exact PySem.W.callWith_K0 (first := [.ref ad]) I1.kIn hm.kp (run_meth (us := [.ref ad]) (vs := [.ref ad]) hX F hr hb I1 (.cons rfl .nil) (spR_of post hx g1 hr1 (Reps.one r1) q1))
theorem isNon_of {h : Hw} {H : Hp} {w : W} {v : V} (r : Rep g h H w v) (e : isNon w = true) : v = .non := by
  cases w <;> simp only [isNon, Bool.false_eq_true] at e
  simpa only [Rep] using r
/-- C(e, ..) -/
theorem s_new (hX : Xk g C W' S X) {cl : Cl} {es : List Expr} {es' : List Ex} {p : Pos} (hc : cl ∈ S.nc) (hg : Gl X (Str.ofString (nmOf cl))) (ha : PA X (a :: es) (TRs g C W' es')) (hd : (Str.ofString (nmOf cl) == ("__debug__" : Str)) = false)
    (he : starEach (a :: es) X.env = (false, eval a X.env) :: starEach es X.env) (hpl : (backTo pos (starEach es X.env)).any (·.1) = false) : PE X (.Call (.Name (Str.ofString (nmOf cl)) p) (a :: es) [] pos) (TR g C W' (.new cl es')) := by
  obtain ⟨k, fa, fd, ps, M, F, hr, hm, hb⟩ := hX.newf cl hc
  refine ⟨fun pins s σ H Q I q => ?_⟩
  obtain ⟨R, τ, h, P, E, hr0, sr, hw, post, hx⟩ := q
  refine wpAny_Call_Name_kw (ld_glob I hg hm ?_ hd)
  refine PySem.W.callWith_K (h₀ := X.base) I.ok.mod.kin M.kp (thn (ha.run pos pins s σ H (fun vs H1 => ∃ h1 ws, HRel (g.at R) h1 H1 ∧ Grow h H h1 H1 ∧ Reps (g.at R) h1 H1 ws vs ∧ ∀ a, h1 a = none → C (initOf cl) (.loc a :: ws) (hset h1 a (.ins cl [])) (fun v h2 => isNon v = true ∧ P (.loc a) h2) E) I
    (trs_mk hr0 sr hx hw fun ws h1 vs H1 q1 g1 hr1 r1 => ⟨h1, ws, hr1, g1, r1, q1⟩)) fun us s1 hu => ?_) he hpl
  obtain ⟨vs, H1, I1, rv, h1, ws, hr1, g1, r1, q1⟩ := hu
  refine ⟨I1.kIn, ?_⟩
  show wpAny _ _ (call (.ref (g.CA cl)) us) _ _ _
  have fr1 := I1.hok.fresh (Nat.le_succ s1.heap.objs.size)
  have fr0 := I1.hok.fresh (Nat.le_refl s1.heap.objs.size)
  have ne : s1.heap.objs.size ≠ s1.heap.objs.size + 1 := Nat.ne_of_lt (Nat.lt_succ_self _)
  have I2 := Inv.made (C := g.CA cl) I1
  have hx1 : (upd H1 s1.heap.objs.size (.own (s1.heap.objs.size + 1))) (s1.heap.objs.size + 1) = none := by rw [upd_ne ne.symm]; exact fr1
  have hrA : HRel (g.at R) h1 (upd H1 s1.heap.objs.size (.own (s1.heap.objs.size + 1))) := hr1.new fr0
  have gA : Grow h1 H1 h1 (upd H1 s1.heap.objs.size (.own (s1.heap.objs.size + 1))) := Grow.new fr0
  have gB := Grow.newO (h := h1) (o := .ins cl []) (u := .ins (g.CA cl) s1.heap.objs.size []) hx1
  have hrB : HRel (g.at R) (hset h1 (s1.heap.objs.size + 1) (.ins cl [])) (upd (upd H1 s1.heap.objs.size (.own (s1.heap.objs.size + 1))) (s1.heap.objs.size + 1) (.ins (g.CA cl) s1.heap.objs.size [])) :=
    hrA.newO hx1 ⟨s1.heap.objs.size, [], by rw [upd_same, List.zip_nil_right]; rfl, Nat.zero_le _, by simp only [Reps]⟩
  have q2 := q1 (s1.heap.objs.size + 1) (hr1.free fr1)
  have r2 : Vals (V.ref (s1.heap.objs.size + 1) :: vs) (Value.ref (s1.heap.objs.size + 1) :: us) := .cons rfl rv
  have sp : spR g C (initOf cl) (V.ref (s1.heap.objs.size + 1) :: vs) (upd (upd H1 s1.heap.objs.size (.own (s1.heap.objs.size + 1))) (s1.heap.objs.size + 1) (.ins (g.CA cl) s1.heap.objs.size [])) (fun v H2 => v = .non ∧ Q (.ref (s1.heap.objs.size + 1)) H2) (WE W' σ) := by
    refine ⟨R, _, .loc (s1.heap.objs.size + 1) :: ws, _, E, hrB, by simp only [Reps, Rep]; exact ⟨_, _, rfl, rfl, Reps.grow (gA.trans gB) _ _ r1⟩, q2, fun w h3 v H3 q3 g3 hr3 r3 => ⟨isNon_of r3 q3.1, ?_⟩, hx.grow (g1.trans (gA.trans gB))⟩
    exact post _ h3 _ H3 q3.2 ((g1.trans (gA.trans gB)).trans g3) hr3 (by simp only [Rep])
  have hl : (Value.ref (s1.heap.objs.size + 1) :: us).length = ps.length := by rw [← r2.length]; exact F.len _ _ _ _ sp
  refine wpAny_call (make_map (f := fa) I1.kIn M.makes M.init (beq_iff_eq.mp M.fn) (codeAny_mono (F.run _ X.stack _ _ ⟨Value.ref (s1.heap.objs.size + 1) :: us, []⟩ (Value.ref (s1.heap.objs.size + 1) :: us) _ _ (WE W' σ) (hr.make (g.CA cl) us [])
    (I2.env0.make (g.CA cl) us []) ?_ r2 sp) fun r s' hq' => ?_))
  · have b := hb ⟨(s1.heap.push PySem.W.emptyDict).push (PySem.W.instObj (g.CA cl) s1.heap.objs.size), s1.gens, s1.drawn, s1.toks, s1.os⟩ (Value.ref (s1.heap.objs.size + 1) :: us) I2.kIn (by rw [List.append_nil]; exact hl)
    rw [List.append_nil] at b
    exact b
  · cases r with
    | error e => exact passAt hX.tk σ pins _ _ e s' I2 hq'
    | ok fl =>
      cases fl with
      | ret u =>
        obtain ⟨v, H', I3, rv, ev, q3⟩ := I2.after hq'
        subst ev
        exact ⟨rv, ⟨V.ref (s1.heap.objs.size + 1), H', I3, rfl, q3⟩⟩
      | next => exact False.elim hq'
      | brk => exact False.elim hq'
      | cont => exact False.elim hq'

/-! ### fields -/
theorem zip_lookup {f : Str} {k : Nat} {v : V} : ∀ {xs : List Str} {vs : List V} {k : Nat}, xs.Nodup → xs[k]? = some f → vs[k]? = some v → (xs.zip vs).lookup f = some v
  | [], _, _, _, e, _ => by simp at e
  | _ :: _, [], _, _, _, e => by simp at e
  | x :: xs, u :: vs, 0, nd, e1, e2 => by
    simp at e1 e2
    subst e1 e2
    simp [List.lookup]
  | x :: xs, u :: vs, k + 1, nd, e1, e2 => by
    simp at e1 e2
    have hn : f ≠ x := fun z => by
      subst z
      exact (List.nodup_cons.mp nd).1 (List.mem_of_getElem? e1)
    have e : (f == x) = false := by simpa using hn
    simp only [List.zip_cons_cons, List.lookup, e]
    exact zip_lookup (k := k) (List.nodup_cons.mp nd).2 e1 e2
theorem flds_nd : ∀ c : Cl, (flds c).Nodup
  | .web => by decide +kernel
  | .table => by decide +kernel
  | .lab => by decide +kernel
theorem fld_rep {h : Hw} {H : Hp} {w x : W} {v : V} {c : Cl} {k : Nat} (hr : HRel g h H) (r : Rep g h H w v) (e : fldW h c k w = some x) : ∃ a dx vs u, v = .ref a ∧ H a = some (.ins (g.CA c) dx ((flds c).zip vs)) ∧ vs[k]? = some u ∧ Rep g h H x u ∧ vs.length ≤ (flds c).length := by
  cases w <;> simp only [fldW, reduceCtorEq] at e
  · split at e
    · rename_i e0
      subst e0
      simp only [Rep] at r
      obtain ⟨a, dx, vs, e1, _, e2, l, q⟩ := r
      obtain ⟨u, e3, r3⟩ := q.get e
      exact ⟨a, dx, vs, u, e1, e2, e3, r3, by rw [← q.length]; exact l⟩
    · cases e
  · split at e
    · rename_i d ws e1
      split at e
      · rename_i e0
        subst e0
        simp only [Rep] at r
        obtain ⟨dx, vs, e2, l, q⟩ := hr.own _ _ e1
        obtain ⟨u, e3, r3⟩ := q.get e
        exact ⟨_, dx, vs, u, r, e2, e3, r3, by rw [← q.length]; exact l⟩
      · cases e
    · cases e
theorem s_fld (hX : Xk g C W' S X) {cl : Cl} {k : Nat} {f : Str} (hc : cl ∈ S.cl) (hf : (flds cl)[k]? = some f) (ha : PE X a (TR g C W' a')) (hab : attributeBase a f X.env (eval a X.env) = eval a X.env) : PE X (.Attribute a f pos) (TR g C W' (.fld cl k a')) := by
  obtain ⟨c, hn⟩ := hX.clf _ hc
  refine pe_imp (pe_fld ha hab) ?_
  rintro σ H Q ⟨R, τ, h, P, E, hr, sr, hw, post, hx⟩
  refine tr_mk hr sr hx hw fun w1 h1 v1 H1 q1 g1 hr1 r1 => ?_
  split at q1
  · rename_i w e
    obtain ⟨ad, dx, vs, u, ev, eh, eu, ru, _⟩ := fld_rep hr1 r1 e
    exact ⟨ad, _, dx, _, u, ev, eh, c, hn f (List.mem_of_getElem? hf), zip_lookup (k := k) (flds_nd cl) hf eu, post _ h1 _ H1 q1 g1 hr1 ru⟩
  · exact q1.elim

/-! ### ghosts -/
theorem s_frz (ha : PE X a (TR g C W' a')) : PE X a (TR g C W' (.frz a')) := by
  refine pe_imp ha ?_
  rintro σ H Q ⟨R, τ, h, P, E, hr, sr, hw, post, hx⟩
  refine tr_mk hr sr hx hw fun w1 h1 v1 H1 q1 g1 hr1 r1 => ?_
  cases w1 <;> first | exact False.elim q1 | skip
  rename_i ad
  simp only [frzW] at q1
  simp only [Rep] at r1
  subst r1
  split at q1
  · rename_i ws e
    obtain ⟨vs, e1, r2, z⟩ := hr1.own _ _ e
    exact post _ _ _ H1 q1 (g1.trans Grow.del) hr1.del (by simp only [Rep]; exact ⟨ad, vs, rfl, ⟨⟨e1, hdel_same⟩, z, hr1.noR' e⟩, Reps.grow Grow.del _ _ r2⟩)
  · rename_i c ws e
    obtain ⟨dx, vs, e1, l, r2⟩ := hr1.own _ _ e
    exact post _ _ _ H1 q1 (g1.trans Grow.del) hr1.del (by simp only [Rep]; exact ⟨ad, dx, vs, rfl, hdel_same, e1, l, Reps.grow Grow.del _ _ r2⟩)
  · exact q1.elim
end
end Ri
end
section
set_option Elab.async false
set_option linter.all false
set_option maxRecDepth 100000
set_option maxHeartbeats 2000000
/-! Ri, part 9: targets, comprehensions. -/
namespace Ri
open PySem PySem.W L2
/-! ### a list that is being made is no value -/
section
variable {g : Gd} {h : Hw} {H H' : Hp} {D : Addr}
mutual
theorem Rep.off {l : List V} (hR : g.R D) (hD : H D = some (.lst l)) (e : ∀ a, a ≠ D → H' a = H a) : ∀ (w : W) (v : V), Rep g h H w v → Rep g h H' w v
  | .non, _, r => by simpa only [Rep] using r
  | .bl _, _, r => by simpa only [Rep] using r
  | .int _, _, r => by simpa only [Rep] using r
  | .str _, _, r => by simpa only [Rep] using r
  | .tup ws, v, r => by
    simp only [Rep] at r ⊢
    obtain ⟨a, vs, e1, t, q⟩ := r
    refine ⟨a, vs, e1, ⟨?_, t.2⟩, Reps.off hR hD e ws vs q⟩
    rcases t.1 with ⟨rd, n⟩ | k
    · have ne : a ≠ D := fun z => by
        subst z
        rcases rd with rd | ⟨_, rd⟩ <;> (rw [hD] at rd; cases rd)
      refine .inl ⟨?_, n⟩
      rcases rd with rd | ⟨o, rd⟩
      · exact .inl ((e a ne).trans rd)
      · exact .inr ⟨o, (e a ne).trans rd⟩
    · exact .inr k
  | .lst ws, v, r => by
    simp only [Rep] at r ⊢
    obtain ⟨a, vs, e1, t, q⟩ := r
    have ne : a ≠ D := fun z => t.2.2 (z ▸ hR)
    exact ⟨a, vs, e1, ⟨⟨(e a ne).trans t.1.1, t.1.2⟩, t.2⟩, Reps.off hR hD e ws vs q⟩
  | .obj c ws, v, r => by
    simp only [Rep] at r ⊢
    obtain ⟨a, dx, vs, e1, n, t, l, q⟩ := r
    have ne : a ≠ D := fun z => by
      subst z
      rw [hD] at t; cases t
    exact ⟨a, dx, vs, e1, n, (e a ne).trans t, l, Reps.off hR hD e ws vs q⟩
  | .exc _ _, _, r => by simp only [Rep] at r
  | .scr ws, v, r => by
    simp only [Rep] at r ⊢
    obtain ⟨a, vs, e1, t, q⟩ := r
    refine ⟨a, vs, e1, ⟨?_, t.2⟩, Reps.off hR hD e ws vs q⟩
    rcases t.1 with ⟨rd, n, nR⟩ | k
    · have ne : a ≠ D := fun z => nR (z ▸ hR)
      refine .inl ⟨?_, n, nR⟩
      rcases rd with rd | ⟨o, rd⟩
      · exact .inl ((e a ne).trans rd)
      · exact .inr ⟨o, (e a ne).trans rd⟩
    · exact .inr k
  | .loc _, _, r => by simpa only [Rep] using r
theorem Reps.off {l : List V} (hR : g.R D) (hD : H D = some (.lst l)) (e : ∀ a, a ≠ D → H' a = H a) : ∀ (ws : List W) (vs : List V), Reps g h H ws vs → Reps g h H' ws vs
  | [], _, r => by simpa only [Reps] using r
  | w :: ws, _, r => by
    simp only [Reps] at r ⊢
    obtain ⟨v, vs', e1, r1, r2⟩ := r
    exact ⟨v, vs', e1, Rep.off hR hD e w v r1, Reps.off hR hD e ws vs' r2⟩
end
mutual
/-- other lists are being made -/
theorem Rep.res {R' : Addr → Prop} (hh : ∀ a l, Rd H a (.lst l) → ¬ g.R a → ¬ R' a) : ∀ (w : W) (v : V), Rep g h H w v → Rep (g.at R') h H w v
  | .non, _, r => by simpa only [Rep] using r
  | .bl _, _, r => by simpa only [Rep] using r
  | .int _, _, r => by simpa only [Rep] using r
  | .str _, _, r => by simpa only [Rep] using r
  | .tup ws, v, r => by
    simp only [Rep] at r ⊢
    obtain ⟨a, vs, e1, t, q⟩ := r
    exact ⟨a, vs, e1, t, Reps.res hh ws vs q⟩
  | .lst ws, v, r => by
    simp only [Rep] at r ⊢
    obtain ⟨a, vs, e1, t, q⟩ := r
    exact ⟨a, vs, e1, ⟨t.1, t.2.1, hh a vs (.inl t.1.1) t.2.2⟩, Reps.res hh ws vs q⟩
  | .obj c ws, v, r => by
    simp only [Rep] at r ⊢
    obtain ⟨a, dx, vs, e1, n, t, l, q⟩ := r
    exact ⟨a, dx, vs, e1, n, t, l, Reps.res hh ws vs q⟩
  | .exc _ _, _, r => by simp only [Rep] at r
  | .scr ws, v, r => by
    simp only [Rep] at r ⊢
    obtain ⟨a, vs, e1, t, q⟩ := r
    refine ⟨a, vs, e1, ⟨?_, t.2⟩, Reps.res hh ws vs q⟩
    rcases t.1 with ⟨rd, n, nR⟩ | k
    · exact .inl ⟨rd, n, hh a vs rd nR⟩
    · exact .inr k
  | .loc _, _, r => by simpa only [Rep] using r
theorem Reps.res {R' : Addr → Prop} (hh : ∀ a l, Rd H a (.lst l) → ¬ g.R a → ¬ R' a) : ∀ (ws : List W) (vs : List V), Reps g h H ws vs → Reps (g.at R') h H ws vs
  | [], _, r => by simpa only [Reps] using r
  | w :: ws, _, r => by
    simp only [Reps] at r ⊢
    obtain ⟨v, vs', e1, r1, r2⟩ := r
    exact ⟨v, vs', e1, Rep.res hh w v r1, Reps.res hh ws vs' r2⟩
end
theorem ORep.off {l : List V} (hR : g.R D) (hD : H D = some (.lst l)) (e : ∀ a, a ≠ D → H' a = H a) {a : Addr} {o : O} (ne : a ≠ D) (r : ORep g h H a o) : ORep g h H' a o := by
  cases o with
  | lst ws =>
    obtain ⟨vs, e1, r1, z⟩ := r
    exact ⟨vs, (e a ne).trans e1, Reps.off hR hD e _ _ r1, z⟩
  | ins c ws =>
    obtain ⟨dx, vs, e1, z, r1⟩ := r
    exact ⟨dx, vs, (e a ne).trans e1, z, Reps.off hR hD e _ _ r1⟩
theorem ORep.res {R' : Addr → Prop} (hh : ∀ a l, Rd H a (.lst l) → ¬ g.R a → ¬ R' a) {a : Addr} {o : O} (r : ORep g h H a o) : ORep (g.at R') h H a o := by
  cases o with
  | lst ws =>
    obtain ⟨vs, e1, r1, z⟩ := r
    exact ⟨vs, e1, Reps.res hh _ _ r1, z⟩
  | ins c ws =>
    obtain ⟨dx, vs, e1, z, r1⟩ := r
    exact ⟨dx, vs, e1, z, Reps.res hh _ _ r1⟩
theorem SRel.map {g2 : Gd} {h2 : Hw} {H2 : Hp} {τ : En} {σ : L2.St} (k : ∀ w v, Rep g h H w v → Rep g2 h2 H2 w v) (s : SRel g h H τ σ) : SRel g2 h2 H2 τ σ := ⟨s.1, fun i w e => let ⟨v, e1, r⟩ := s.2 i w e; ⟨v, e1, k w v r⟩⟩
/-- D, a new list, is being made -/
abbrev orD (R : Addr → Prop) (D : Addr) : Addr → Prop := fun a => R a ∨ a = D
theorem HRel.begin {R : Addr → Prop} {l : List V} (r : HRel (g.at R) h H) (hD : H D = none) : HRel (g.at (orD R D)) h (upd H D (.lst l)) ∧ (∀ w v, Rep (g.at R) h H w v → Rep (g.at (orD R D)) h (upd H D (.lst l)) w v) := by
  have hh : ∀ a l, Rd H a (.lst l) → ¬ (g.at R).R a → ¬ orD R D a := fun a l rd n z => by
    rcases z with z | z
    · exact n z
    · subst z
      rcases rd with rd | ⟨_, rd⟩ <;> (rw [hD] at rd; cases rd)
  have k1 : ∀ w v, Rep (g.at R) h H w v → Rep (g.at (orD R D)) h (upd H D (.lst l)) w v := fun w v q => Rep.grow (Grow.new hD) w v (Rep.res (g := g.at R) hh w v q)
  refine ⟨⟨fun a o e => ?_, fun a ra => ?_⟩, k1⟩
  · have ne : a ≠ D := fun z => by
      subst z
      rw [r.free hD] at e; cases e
    exact ORep.grow (Grow.new hD) (upd_ne ne) (ORep.res (g := g.at R) hh (r.own a o e))
  · rcases ra with ra | ra
    · obtain ⟨n, vs, e⟩ := r.rsv a ra
      exact ⟨n, vs, by rw [upd_ne (ne_of_none e hD)]; exact e⟩
    · subst ra
      exact ⟨r.free hD, l, upd_same⟩
/-- it is changed -/
theorem HRel.more {l l' : List V} (r : HRel g h H) (hR : g.R D) (hD : H D = some (.lst l)) : HRel g h (upd H D (.lst l')) ∧ (∀ w v, Rep g h H w v → Rep g h (upd H D (.lst l')) w v) := by
  have e : ∀ a, a ≠ D → upd H D (.lst l') a = H a := fun a ne => upd_ne ne
  refine ⟨⟨fun a o q => ORep.off hR hD e (fun z => ?_) (r.own a o q), fun a ra => ?_⟩, fun w v => Rep.off hR hD e w v⟩
  · subst z
    rw [(r.rsv a hR).1] at q; cases q
  · obtain ⟨n, vs, e1⟩ := r.rsv a ra
    by_cases ne : a = D
    · subst ne
      exact ⟨n, l', upd_same⟩
    · exact ⟨n, vs, by rw [upd_ne ne]; exact e1⟩
def hpDel (H : Hp) (D : Addr) : Hp := fun a => if a = D then none else H a
theorem hpDel_same : hpDel H D D = none := by unfold hpDel; rw [if_pos rfl]
theorem hpDel_ne {a : Addr} (n : a ≠ D) : hpDel H D a = H a := by unfold hpDel; rw [if_neg n]
theorem hpDel_upd {o : HO} (e : H D = some o) : upd (hpDel H D) D o = H := by
  funext a
  by_cases n : a = D
  · subst n; rw [upd_same, e]
  · rw [upd_ne n, hpDel_ne n]
/-- it is done -/
theorem HRel.done {R : Addr → Prop} {l : List V} (r : HRel (g.at (orD R D)) h H) (nR : ¬ R D) (hD : H D = some (.lst l)) : HRel (g.at R) h (hpDel H D) ∧ (∀ w v, Rep (g.at (orD R D)) h H w v → Rep (g.at R) h (hpDel H D) w v) := by
  have e : ∀ a, a ≠ D → hpDel H D a = H a := fun a ne => hpDel_ne ne
  have hR : (g.at (orD R D)).R D := .inr rfl
  have hh : ∀ a l, Rd (hpDel H D) a (.lst l) → ¬ (g.at (orD R D)).R a → ¬ R a := fun a l _ n z => n (.inl z)
  have k : ∀ w v, Rep (g.at (orD R D)) h H w v → Rep (g.at R) h (hpDel H D) w v := fun w v q => Rep.res (g := g.at (orD R D)) hh w v (Rep.off hR hD e w v q)
  refine ⟨⟨fun a o q => ?_, fun a ra => ?_⟩, k⟩
  · have ne : a ≠ D := fun z => by
      subst z
      rw [(r.rsv a hR).1] at q; cases q
    exact ORep.res (g := g.at (orD R D)) hh (ORep.off hR hD e ne (r.own a o q))
  · obtain ⟨n, vs, e1⟩ := r.rsv a (.inl ra)
    have ne : a ≠ D := fun z => nR (z ▸ ra)
    exact ⟨n, vs, by rw [hpDel_ne ne]; exact e1⟩
end

/-! ### targets -/
mutual
def slotsT : Tg → List Nat
  | .nm i => [i]
  | .tp ts => slotsTs ts
def slotsTs : List Tg → List Nat
  | [] => []
  | t :: ts => slotsT t ++ slotsTs ts
end
def Off (σ σ2 : L2.St) (l : List Nat) : Prop := σ2.length = σ.length ∧ ∀ i, i ∉ l → σ2[i]? = σ[i]?
theorem Off.trans {σ σ1 σ2 : L2.St} {l l' : List Nat} (a : Off σ σ1 l) (b : Off σ1 σ2 l') : Off σ σ2 (l ++ l') := ⟨b.1.trans a.1, fun i n => by
  simp only [List.mem_append, not_or] at n
  exact (b.2 i n.2).trans (a.2 i n.1)⟩
/-- a target by its meaning -/
def TGt (g : Gd) (t : Tg) : TG := fun v σ H Q => ∃ R τ h w τ2, HRel (g.at R) h H ∧ SRel (g.at R) h H τ σ ∧ Rep (g.at R) h H w v ∧ bindT t w τ = some τ2 ∧ ∀ σ2, SRel (g.at R) h H τ2 σ2 → Off σ σ2 (slotsT t) → Q σ2 H
def TGss (g : Gd) (ts : List Tg) : TGs := fun vs σ H Q => ∃ R τ h ws τ2, HRel (g.at R) h H ∧ SRel (g.at R) h H τ σ ∧ Reps (g.at R) h H ws vs ∧ bindTs ts ws τ = some τ2 ∧ ∀ σ2, SRel (g.at R) h H τ2 σ2 → Off σ σ2 (slotsTs ts) → Q σ2 H
theorem pg_imp {X : Cx} {tg : Expr} {t t' : TG} (h : PG X tg t) (k : ∀ v σ H Q, t' v σ H Q → t v σ H Q) : PG X tg t' := ⟨fun pins s σ H v u Q I r q => h.run pins s σ H v u Q I r (k v σ H Q q)⟩
theorem pgs_imp {X : Cx} {tg : List Expr} {t t' : TGs} (h : PGs X tg t) (k : ∀ v σ H Q, t' v σ H Q → t v σ H Q) : PGs X tg t' := ⟨fun pins s σ H v u Q I r q => h.run pins s σ H v u Q I r (k v σ H Q q)⟩
section
variable {g : Gd} {C : Calls} {W' : WX} {S : Sx} {X : Cx} {pos : Pos}
theorem g_nm {i : Nat} {x : Str} (hN : X.N.Nodup) (hi : X.N[i]? = some x) (hx : Loc X.env.scope x) (hf : X.fn x = true ∨ X.env.scope.names.lookup x = some .local) : PG X (.Name x pos) (TGt g (.nm i)) := by
  refine pg_imp (pg_name hN hi hx hf) ?_
  rintro v σ H Q ⟨R, τ, h, w, τ2, hr, sr, r, e, k⟩
  simp only [bindT, Option.some.injEq] at e
  subst e
  refine k _ (sr.put r) ⟨List.length_set, fun j n => ?_⟩
  simp only [slotsT, List.mem_singleton] at n
  exact List.getElem?_set_ne (fun z => n z.symm)
theorem g_nil : PGs X [] (TGss g []) := by
  refine pgs_imp pgs_nil ?_
  rintro vs σ H Q ⟨R, τ, h, ws, τ2, hr, sr, r, e, k⟩
  cases ws with
  | nil =>
    simp only [bindTs, Option.some.injEq] at e
    subst e
    exact ⟨reps0 r, k _ sr ⟨rfl, fun _ _ => rfl⟩⟩
  | cons w ws => simp only [bindTs] at e; cases e
theorem g_cons {e : Expr} {es : List Expr} {t : Tg} {ts : List Tg} (h1 : PG X e (TGt g t)) (h2 : PGs X es (TGss g ts)) (hs : (assignEach (e :: es) X.env).map (·.2) = assign e X.env :: (assignEach es X.env).map (·.2)) : PGs X (e :: es) (TGss g (t :: ts)) := by
  refine pgs_imp (pgs_cons h1 h2 hs) ?_
  rintro vs σ H Q ⟨R, τ, h, ws, τ2, hr, sr, r, e, k⟩
  cases ws with
  | nil => simp only [bindTs] at e; cases e
  | cons w ws =>
    simp only [bindTs] at e
    simp only [Reps] at r
    obtain ⟨v, vs', ev, r1, r2⟩ := r
    cases e1 : bindT t w τ with
    | none => rw [e1] at e; cases e
    | some τ1 =>
      rw [e1] at e
      refine ⟨v, vs', ev, R, τ, h, w, τ1, hr, sr, r1, e1, fun σ1 s1 o1 => ⟨R, τ1, h, ws, τ2, hr, s1, r2, e, fun σ2 s2 o2 => k σ2 s2 ?_⟩⟩
      simp only [slotsTs]
      exact o1.trans o2
theorem g_tp {es : List Expr} {kk n : Nat} {ts : List Tg} (hK : X.K = g.K) (hc : X.calm = true) (hp : PGs X es (TGss g ts)) (hn : (assignEach es X.env).length = n) (hl : ts.length = n) (hst : (assignEach es X.env).findIdx? (·.1) = none) : PG X (.Tuple es kk pos) (TGt g (.tp ts)) := by
  refine pg_imp (pg_tup hc hp hn hst) ?_
  rintro v σ H Q ⟨R, τ, h, w, τ2, hr, sr, r, e, k⟩
  cases w <;> simp only [bindT, reduceCtorEq] at e
  rename_i ws
  simp only [Rep] at r
  obtain ⟨a, vs, ev, t, q⟩ := r
  have gen : ∀ {ts : List Tg} {ws : List W} {τ τ2 : En}, bindTs ts ws τ = some τ2 → ws.length = ts.length := by
    intro ts
    induction ts with
    | nil =>
      intro ws τ τ2 e
      cases ws with
      | nil => rfl
      | cons => simp only [bindTs] at e; cases e
    | cons t ts ih =>
      intro ws τ τ2 e
      cases ws with
      | nil => simp only [bindTs] at e; cases e
      | cons w ws =>
        simp only [bindTs] at e
        cases e1 : bindT t w τ with
        | none => rw [e1] at e; cases e
        | some τ1 =>
          rw [e1] at e
          simp only [List.length_cons, ih e]
  refine ⟨a, vs, ev, by rw [hK]; exact t.sq, by rw [← q.length, gen e, hl], R, τ, h, ws, τ2, hr, sr, q, e, fun σ2 s2 o2 => k σ2 s2 ?_⟩
  simpa only [slotsT] using o2

/-! ### comprehensions -/
theorem wipe_in {σ : L2.St} {i : Nat} : ∀ {vs : List Nat}, i ∈ vs → (wipe σ vs)[i]? = if i < σ.length then some none else none
  | [], h => by cases h
  | v :: vs, h => by
    unfold wipe
    by_cases e : v = i
    · subst e
      by_cases hl : v < σ.length
      · rw [if_pos hl, List.getElem?_set_self (by rw [wipe_length]; exact hl)]
      · rw [if_neg hl, List.getElem?_eq_none (by rw [List.length_set, wipe_length]; omega)]
    · rw [List.getElem?_set_ne e]
      have h' : i ∈ vs := by
        rcases List.mem_cons.mp h with z | z
        · exact absurd z.symm e
        · exact z
      exact wipe_in h'
theorem wipe_off {σ σ2 : L2.St} {vs l : List Nat} (o : Off (wipe σ vs) σ2 l) (hl : ∀ i ∈ l, i ∈ vs) : wipe σ2 vs = wipe σ vs := by
  apply List.ext_getElem?
  intro i
  have len : σ2.length = σ.length := by rw [o.1, wipe_length]
  by_cases hi : i ∈ vs
  · rw [wipe_in hi, wipe_in hi, len]
  · rw [wipe_out hi]
    exact o.2 i fun z => hi (hl i z)
/-- no exception leaves a comprehension's turns -/
abbrev WF : WX := fun _ _ _ _ => False
theorem wp_lcm {C : Calls} {tg : Tg} {own : List Nat} {src cond elt : Ex} {τ : En} {h : Hw} {P : KW} {E : XW} : wpE C (.lcm tg own src cond elt) τ h P E = wpE C src τ h (fun s h1 => match itsOf s with
    | some (items, gd) => items.length ≤ lim ∧ lcL gd tg (clrs τ own) (fun τ2 h2 K => wpE C cond τ2 h2 K fun _ _ _ => False) (fun τ2 h2 K => wpE C elt τ2 h2 K fun _ _ _ => False) items [] h1 fun ws h2 => P (.lst ws) h2
    | none => False) E := rfl
theorem t_lcmF {own : List (Str × Nat)} {k : ItK} {es' : List Ex} {t : Tg} {c' e' : Ex} (hsl : ∀ i ∈ slotsT t, i ∈ own.map (·.2)) : ∀ (σ : L2.St) (H : Hp) (Q : VK), TF g C W' (.lcm t (own.map (·.2)) (.itr k es') c' e') σ H Q → tLc (TRi g C W' k es') (TGt g t) (tB (TR g C WF c')) (TR g C WF e') (own.map (·.2)) σ H Q := by
  rintro σ H Q ⟨R, τ, h, P, E, hr, sr, hw, post, hx⟩
  rw [wp_lcm] at hw
  refine ⟨R, τ, h, _, E, hr, sr, hw, fun r items gd h1 J H1 q1 eit g1 hr1 hJ => ?_, hx⟩
  rw [eit] at q1
  obtain ⟨hlim, q1⟩ := q1
  intro D hD
  generalize hvs : own.map (·.2) = vs at hsl q1
  obtain ⟨hrD, cv⟩ := hr1.begin (l := []) hD
  have nR : ¬ R D := hr1.noR hD
  have s0 : SRel (g.at (orD R D)) h1 (upd H1 D (.lst [])) (clrs τ vs) (wipe σ vs) := SRel.map cv ((sr.grow g1).clrs vs)
  let Pf : List W → Hw → Prop := fun ws h2 => P (.lst ws) h2
  let Ln : List W → List W → Hw → Prop := fun its acc h2 => lcL gd t (clrs τ vs) (fun τ2 h2 K => wpE C c' τ2 h2 K fun _ _ _ => False) (fun τ2 h2 K => wpE C e' τ2 h2 K fun _ _ _ => False) its acc h2 Pf
  let St : Nat → Hp → Prop := fun i H2 => ∃ acc vacc h2, Ln (items.drop i) acc h2 ∧ H2 D = some (.lst vacc) ∧ HRel (g.at (orD R D)) h2 H2 ∧ Reps (g.at (orD R D)) h2 H2 acc vacc ∧ acc.length ≤ i ∧ Grow h1 H1 h2 H2 ∧
    (∀ w v, Rep (g.at R) h1 H1 w v → Rep (g.at (orD R D)) h2 H2 w v) ∧ SRel (g.at (orD R D)) h2 H2 (clrs τ vs) (wipe σ vs)
  refine ⟨fun i m H2 => m = items.length - i ∧ i ≤ items.length ∧ St i H2, ⟨items.length, by simp, Nat.zero_le _, [], [], h1, q1, upd_same, hrD, by simp only [Reps], Nat.le_refl _, Grow.new hD, cv, s0⟩, ?_⟩
  rintro i m H2 ⟨rfl, hi2, acc, vacc, h2, ln, hD2, hr2, ra, hacc, g2, cv2, s2⟩
  have hRD : (g.at (orD R D)).R D := .inr rfl
  have gdh : gd h2 := by
    generalize items.drop i = l at ln
    cases l with
    | nil => exact And.left ln
    | cons _ _ => exact And.left ln
  have base := hJ (orD R D) i h2 H2 gdh cv2 hr2
  by_cases hlt : i < items.length
  · obtain ⟨w, ew⟩ : ∃ w, items[i]? = some w := ⟨_, List.getElem?_eq_getElem hlt⟩
    obtain ⟨go, yl⟩ := base.1 w ew
    refine .inr ⟨go, St (i + 1), fun H' st => ⟨items.length - (i + 1), by omega, rfl, by omega, st⟩, fun x H3 y => ?_⟩
    obtain ⟨g3, hr3, rx⟩ := yl x H3 y
    have dr : items.drop i = w :: items.drop (i + 1) := by
      rw [List.drop_eq_getElem_cons hlt]
      rw [List.getElem?_eq_getElem hlt] at ew
      cases ew; rfl
    have ln' : Ln (w :: items.drop (i + 1)) acc h2 := dr ▸ ln
    have ln2 : (match bindT t w (clrs τ vs) with
      | some τ2 => wpE C c' τ2 h2 (fun b h1 => match b with
        | .bl true => wpE C e' τ2 h1 (fun y h2 => Ln (items.drop (i + 1)) (acc ++ [y]) h2) fun _ _ _ => False
        | .bl false => Ln (items.drop (i + 1)) acc h1
        | _ => False) fun _ _ _ => False
      | none => False) := And.right ln'
    split at ln2
    · rename_i τ2 eb
      refine ⟨orD R D, clrs τ vs, h2, w, τ2, hr3, s2.grow g3, rx, eb, fun σ2 sσ off => ⟨?_, ?_⟩⟩
      · exact wipe_off off hsl
      · refine ⟨orD R D, τ2, h2, _, fun _ _ _ => False, hr3, sσ, ln2, fun b h4 bv H4 qb g4 hr4 rb => ?_, fun _ _ _ _ _ _ z => False.elim z⟩
        have hD3 : H3 D = some (.lst vacc) := (g3 D _ hD2 (hr2.rsv D hRD).1).1
        have hD4 : H4 D = some (.lst vacc) := (g4 D _ hD3 (hr3.rsv D hRD).1).1
        have gg := (g2.trans g3).trans g4
        cases b <;> first | exact False.elim qb | skip
        rename_i bb
        simp only [Rep] at rb
        refine ⟨bb, rb, ?_⟩
        cases bb with
        | true =>
          refine iteT ⟨orD R D, τ2, h4, _, fun _ _ _ => False, hr4, sσ.grow g4, qb, fun y h5 yv H5 qy g5 hr5 ry => ?_, fun _ _ _ _ _ _ z => False.elim z⟩
          have hD5 : H5 D = some (.lst vacc) := (g5 D _ hD4 (hr4.rsv D hRD).1).1
          have rA : Reps (g.at (orD R D)) h5 H5 acc vacc := Reps.grow ((g3.trans g4).trans g5) _ _ ra
          have la := rA.length
          have hl : vacc.length < sizeLine := by
            have : items.length ≤ lim := hlim
            have l2 : lim < sizeLine := by decide
            omega
          obtain ⟨hr6, cv6⟩ := hr5.more (l' := vacc ++ [yv]) hRD hD5
          have off5 : ∀ (ws : List W) (vs : List V), Reps (g.at (orD R D)) h5 H5 ws vs → Reps (g.at (orD R D)) h5 (upd H5 D (.lst (vacc ++ [yv]))) ws vs := Reps.off hRD hD5 fun a ne => upd_ne ne
          refine ⟨vacc, hD5, hl, acc ++ [y], vacc ++ [yv], h5, qy, upd_same, hr6, (off5 _ _ rA).append (Reps.one (cv6 _ _ ry)), by simp; omega, fun a o e n => ?_, fun w v q => ?_, ?_⟩
          · obtain ⟨e5, n5⟩ := (gg.trans g5) a o e n
            exact ⟨by rw [upd_ne (ne_of_none e hD)]; exact e5, n5⟩
          · exact cv6 _ _ (Rep.grow ((g3.trans g4).trans g5) _ _ (cv2 w v q))
          · exact SRel.map cv6 (s2.grow ((g3.trans g4).trans g5))
        | false =>
          refine iteF ⟨acc, vacc, h4, qb, hD4, hr4, Reps.grow (g3.trans g4) _ _ ra, by omega, gg, fun w v q => Rep.grow (g3.trans g4) _ _ (cv2 w v q), s2.grow (g3.trans g4)⟩
    · exact ln2.elim
  · have ei : i = items.length := by omega
    subst ei
    refine .inl ⟨base.2 rfl, ?_⟩
    have ln' : Pf acc h2 := by
      have e : items.drop items.length = [] := List.drop_length
      have z : Ln [] acc h2 := e ▸ ln
      exact And.right z
    obtain ⟨hrE, cvE⟩ := hr2.done nR hD2
    have la := ra.length
    have gE : Grow h H h2 (hpDel H2 D) := fun a o e n => by
      obtain ⟨e1, n1⟩ := g1 a o e n
      obtain ⟨e2, n2⟩ := g2 a o e1 n1
      exact ⟨by rw [hpDel_ne (ne_of_none e1 hD)]; exact e2, n2⟩
    have rE : Reps (g.at R) h2 (hpDel H2 D) acc vacc := by
      have gen : ∀ (ws : List W) (vs : List V), Reps (g.at (orD R D)) h2 H2 ws vs → Reps (g.at R) h2 (hpDel H2 D) ws vs := by
        intro ws
        induction ws with
        | nil => intro vs r; simpa only [Reps] using r
        | cons w ws ih =>
          intro vs r
          simp only [Reps] at r ⊢
          obtain ⟨v, vs', e1, r1, r2⟩ := r
          exact ⟨v, vs', e1, cvE _ _ r1, ih _ r2⟩
      exact gen _ _ ra
    have key := post.1 acc h2 ln' vacc D (hpDel H2 D) gE hrE hpDel_same rE (by
      have : items.length ≤ lim := hlim
      have l2 : lim < sizeLine := by decide
      omega)
    rw [hpDel_upd hD2] at key
    exact key
theorem s_lcmF (hX : Xk g C W' S X) {elt tg iter : Expr} {ifs : List Expr} {scope : Scope} {own : List (Str × Nat)} {k : ItK} {es' : List Ex} {t : Tg} {c' e' : Ex} (hi : PI X tg iter (TRi g C W' k es')) (ok : BlkOk X.N X.env.scope scope own)
    (hg : ∀ (s : Shared) (H : Hp) (A : Addr) (cl : List (Str × Addr)) (fp : List Addr), PG (X.blk s H scope (compEnvC scope cl A X.env) fp) tg (TGt g t))
    (ht : ∀ (s : Shared) (H : Hp) (A : Addr) (cl : List (Str × Addr)) (fp : List Addr), PTs (X.blk s H scope (compEnvC scope cl A X.env) fp) ifs (tB (TR g C WF c')))
    (he : ∀ (s : Shared) (H : Hp) (A : Addr) (cl : List (Str × Addr)) (fp : List Addr), PE (X.blk s H scope (compEnvC scope cl A X.env) fp) elt (TR g C WF e')) (hs : ∀ x, foldedSetIterable iter X.env x = pure x) (hsl : ∀ i ∈ slotsT t, i ∈ own.map (·.2)) :
    PE X (.ListComp elt [⟨tg, iter, ifs, 0⟩] scope pos) (TF g C W' (.lcm t (own.map (·.2)) (.itr k es') c' e')) := by
  exact pe_imp (pe_lc hX.calm (by rw [hX.n]; exact hX.nd) hi ok hg ht he hs) (t_lcmF hsl)
end
end Ri
end
section
set_option Elab.async false
set_option linter.all false
set_option maxRecDepth 100000
set_option maxHeartbeats 2000000
/-! Ri, part 10: built-in functions and methods as expressions, f-strings, isinstance, reversed slices, ghosts. -/
namespace Ri
open PySem PySem.W L2
/-- the name of a built-in; whether it is a type -/
def bltNm : Blt → String × Bool
  | .len => ("len", false)
  | .int => ("int", true)
  | .abs => ("abs", false)
  | .max2 => ("max", false)
  | .min2 => ("min", false)
  | .maxL => ("max", false)
  | .minL => ("min", false)
  | .tuple => ("tuple", true)
  | .list => ("list", true)
  | .listR1 => ("list", true)
  | .all => ("all", false)
  | .str => ("str", true)
  | .sorted => ("sorted", false)
def bltOk : Blt → Bool
  | .listR1 => false
  | .sorted => false
  | _ => true
section
variable {g : Gd} {C : Calls} {W' : WX} {S : Sx} {X : Cx} {a b c : Expr} {a' b' c' : Ex} {pos : Pos}
theorem t_blt {f : Blt} {es : List Ex} {σ : L2.St} {H : Hp} {Q : VK} (q : TF g C W' (.blt f es) σ H Q) : tCB (fun vs H Q => ∃ R, rBlt (g.at R) f vs H Q) (TRs g C W' es) σ H Q := by
  obtain ⟨R, τ, h, P, E, hr, sr, hw, post, hx⟩ := q
  refine trs_mk hr sr hx hw fun ws h1 vs H1 q g1 hr1 r => ?_
  exact ⟨R, h1, ws, _, hr1, r, q, (post.grow g1).frH⟩
theorem s_bltB {id : String} {x : Str} {f : Blt} {es : List Expr} {es' : List Ex} {p : Pos} (hc : ∀ R, CallR X (.builtin id) (rBlt (g.at R) f)) (hg : Gl X x) (hm : X.mg x = none) (hv : bootBuiltins x = some (.builtin id)) (ha : PA X (a :: es) (TRs g C W' es')) (hn : x ≠ "__name__") (hdb : (x == ("__debug__" : Str)) = false)
    (he : starEach (a :: es) X.env = (false, eval a X.env) :: starEach es X.env) (hpl : (backTo pos (starEach es X.env)).any (·.1) = false) : PE X (.Call (.Name x p) (a :: es) [] pos) (TF g C W' (.blt f es')) := by
  refine pe_imp (pe_callB (r := fun vs H Q => ∃ R, rBlt (g.at R) f vs H Q) (fun pins s σ H vs us Q I r ⟨R, q⟩ => hc R pins s σ H vs us Q I r q) hg hm hv ha hn hdb he hpl) fun σ H Q q => t_blt q
theorem s_bltT {id : String} {x : Str} {f : Blt} {es : List Expr} {es' : List Ex} {p : Pos} (hc : ∀ R, CallR X (.type id) (rBlt (g.at R) f)) (hg : Gl X x) (hm : X.mg x = none) (hv : bootBuiltins x = some (.type id)) (ha : PA X (a :: es) (TRs g C W' es')) (hn : x ≠ "__name__") (hdb : (x == ("__debug__" : Str)) = false)
    (he : starEach (a :: es) X.env = (false, eval a X.env) :: starEach es X.env) (hpl : (backTo pos (starEach es X.env)).any (·.1) = false) : PE X (.Call (.Name x p) (a :: es) [] pos) (TF g C W' (.blt f es')) := by
  refine pe_imp (pe_callTy (r := fun vs H Q => ∃ R, rBlt (g.at R) f vs H Q) (fun pins s σ H vs us Q I r ⟨R, q⟩ => hc R pins s σ H vs us Q I r q) hg hm hv ha hn hdb he hpl) fun σ H Q q => t_blt q
theorem s_bltF (hX : Xk g C W' S X) {f : Blt} {es : List Expr} {es' : List Ex} {p : Pos} (ok : bltOk f = true) (hg : Gl X (Str.ofString (bltNm f).1)) (hm : (bltNm f).1 ∈ S.free) (ha : PA X (a :: es) (TRs g C W' es'))
    (he : starEach (a :: es) X.env = (false, eval a X.env) :: starEach es X.env) (hpl : (backTo pos (starEach es X.env)).any (·.1) = false) : PE X (.Call (.Name (Str.ofString (bltNm f).1) p) (a :: es) [] pos) (TF g C W' (.blt f es')) := by
  have m0 := hX.fr _ hm
  cases f <;> first | (cases ok; done) | skip
  · exact s_bltB (id := "len") (fun R => cb_len (g := g.at R) hX.k) hg m0 (by decide +kernel) ha (by decide +kernel) (by decide +kernel) he hpl
  · exact s_bltT (id := "int") (fun R => cb_int) hg m0 (by decide +kernel) ha (by decide +kernel) (by decide +kernel) he hpl
  · exact s_bltB (id := "abs") (fun R => cb_abs) hg m0 (by decide +kernel) ha (by decide +kernel) (by decide +kernel) he hpl
  · exact s_bltB (id := "max") (fun R => cb_max2 hX.calm) hg m0 (by decide +kernel) ha (by decide +kernel) (by decide +kernel) he hpl
  · exact s_bltB (id := "min") (fun R => cb_min2 hX.calm) hg m0 (by decide +kernel) ha (by decide +kernel) (by decide +kernel) he hpl
  · exact s_bltB (id := "max") (fun R => cb_maxL hX.calm) hg m0 (by decide +kernel) ha (by decide +kernel) (by decide +kernel) he hpl
  · exact s_bltB (id := "min") (fun R => cb_minL (g := g.at R) hX.k hX.calm (units65 hX)) hg m0 (by decide +kernel) ha (by decide +kernel) (by decide +kernel) he hpl
  · exact s_bltT (id := "tuple") (fun R => cb_tuple (g := g.at R) hX.k) hg m0 (by decide +kernel) ha (by decide +kernel) (by decide +kernel) he hpl
  · exact s_bltT (id := "list") (fun R => cb_list (g := g.at R) hX.k) hg m0 (by decide +kernel) ha (by decide +kernel) (by decide +kernel) he hpl
  · exact s_bltB (id := "all") (fun R => cb_all hX.calm) hg m0 (by decide +kernel) ha (by decide +kernel) (by decide +kernel) he hpl
  · exact s_bltT (id := "str") (fun R => cb_str) hg m0 (by decide +kernel) ha (by decide +kernel) (by decide +kernel) he hpl

/-! ### split, join -/
theorem lim2 {n : Nat} (h : n ≤ lim) : n + 2 ≤ sizeLine := by
  have : lim + 2 ≤ sizeLine := by decide
  omega
theorem met_str {m : Met} {w : W} {g : Gd} {h : Hw} {H : Hp} {v : V} (hm : m ≠ .index) (e : metTy m w = true) (r : Rep g h H w v) : ∃ s, w = .str s ∧ v = .str s := by
  cases m <;> first | (exact absurd rfl hm; done) | skip
  all_goals (cases w <;> first | (cases e; done) | skip)
  all_goals (simp only [Rep] at r; exact ⟨_, rfl, r⟩)
theorem s_splitF {e : Expr} {p2 : Pos} (ha : PE X a (TR g C W' a')) (hb : PE X e (TR g C W' b')) (hs : starEach [e] X.env = [(false, eval e X.env)]) (hba : attributeBase a "split" X.env (eval a X.env) = eval a X.env) (hl : (p2.endLine == pos.line) = true) :
    PE X (.Call (.Attribute a "split" p2) [e] [] pos) (TF g C W' (.met .split a' [b'])) := by
  refine pe_imp (pe_split ha hb hs hba hl) ?_
  rintro σ H Q ⟨R, τ, h, P, E, hr, sr, hw, post, hx⟩
  refine tr_mk hr sr hx hw fun w1 h1 v1 H1 q1 g1 hr1 r1 => ?_
  obtain ⟨ty, q1⟩ := q1
  obtain ⟨s, ew, ev⟩ := met_str (by intro z; cases z) ty r1
  subst ew ev
  refine ⟨⟨_, rfl⟩, tr_mk hr1 (sr.grow g1) (hx.grow g1) q1 fun w2 h2 v2 H2 q2 g2 hr2 r2 => ?_⟩
  have q2 : metW .split (.str s) [vw h2 w2] fun r => P r h2 := q2
  generalize e2 : vw h2 w2 = y at q2
  cases y <;> first | exact False.elim q2 | skip
  rename_i t
  obtain ⟨⟨z0, z1, z2⟩, q⟩ := q2
  have x2 := vw_str r2 e2
  subst x2
  refine ⟨s, t, rfl, rfl, z0, lim2 z1, ?_⟩
  intro p hp
  have el : ((Txt.split s t).map W.str).length = (Txt.split s t).length := List.length_map ..
  exact post.1 _ h2 q _ p H2 (g1.trans g2) hr2 hp (strs_rep _) (by rw [List.length_map]; exact lim_le z2)
theorem sum_le {n : Nat} : ∀ {ys : List Str}, (∀ y ∈ ys, y.length ≤ n) → (ys.map (·.length)).sum ≤ ys.length * n
  | [], _ => by simp
  | y :: ys, h => by
    have h1 := h y List.mem_cons_self
    have h2 := sum_le (ys := ys) fun z hz => h z (List.mem_cons_of_mem _ hz)
    simp only [List.map_cons, List.sum_cons, List.length_cons, Nat.succ_mul]
    omega
theorem s_join {e : Expr} {p2 : Pos} (ha : PE X a (TR g C W' a')) (hb : PE X e (TR g C W' b')) (hs : starEach [e] X.env = [(false, eval e X.env)]) (hba : attributeBase a "join" X.env (eval a X.env) = eval a X.env) (hl : (p2.endLine == pos.line) = true) :
    PE X (.Call (.Attribute a "join" p2) [e] [] pos) (TR g C W' (.met .join a' [b'])) := by
  refine pe_imp (pe_join ha hb hs hba hl) ?_
  rintro σ H Q ⟨R, τ, h, P, E, hr, sr, hw, post, hx⟩
  refine tr_mk hr sr hx hw fun w1 h1 v1 H1 q1 g1 hr1 r1 => ?_
  obtain ⟨ty, q1⟩ := q1
  obtain ⟨s, ew, ev⟩ := met_str (by intro z; cases z) ty r1
  subst ew ev
  refine ⟨⟨_, rfl⟩, tr_mk hr1 (sr.grow g1) (hx.grow g1) q1 fun w2 h2 v2 H2 q2 g2 hr2 r2 => ?_⟩
  have q2 : metW .join (.str s) [vw h2 w2] fun r => P r h2 := q2
  generalize e2 : vw h2 w2 = y at q2
  cases y <;> first | exact False.elim q2 | skip
  rename_i ws
  obtain ⟨p, ys, ea, hp, ra, _⟩ := vw_lst hr2 r2 e2
  dsimp only [metW] at q2
  split at q2
  · rename_i zs ez
    obtain ⟨⟨z1, z2, z3⟩, q⟩ := q2
    have ey := strs_reps ez ra
    subst ey ea
    refine ⟨s, p, zs, rfl, rfl, .inl (.inl (.inl hp)), ?_, post _ h2 _ H2 q (g1.trans g2) hr2 rep_str⟩
    have k1 := sum_le z3
    have k2 : zs.length * 1000 ≤ 1000 * 1000 := Nat.mul_le_mul z1 (Nat.le_refl _)
    have k3 : zs.length * s.length ≤ 1000 * 1000 := Nat.mul_le_mul z1 z2
    omega
  · exact q2.elim

/-! ### f-strings -/
theorem s_fpart (ha : PE X a (TR g C W' a')) {p2 : Pos} : PE X (.FormattedValue a (-1) none p2) (tFmt (TR g C W' a')) := pe_fmt ha
theorem s_fconst {s : Str} {j : Nat} {p2 : Pos} : PE X (.Constant (.str s) j p2) (tFmt (TR g C W' (.str s))) := by
  refine pe_imp pe_str ?_
  intro σ H Q q
  obtain ⟨R, τ, h, P, E, hr, sr, hw, post, hx⟩ := q
  rcases post _ h _ H hw Grow.refl hr rep_str with ⟨y, e, hz, q⟩ | ⟨i, e, _⟩
  · cases e
    exact q
  · cases e
theorem t_fmt : ∀ (es : List Ex) (R : Addr → Prop) (τ : En) (h : Hw) (P : Str → Hw → Prop) (E : XW) (acc : Str) (σ : L2.St) (H : Hp) (Q : Str → Hp → Prop), HRel (g.at R) h H → SRel (g.at R) h H τ σ →
    wpJ C es acc τ h P E → (∀ s h' H', P s h' → Grow h H h' H' → HRel (g.at R) h' H' → Q s H') → PostX (g.at R) h H E (fun cls d H' => W' cls d σ H') → tJs (es.map fun e => tFmt (TR g C W' e)) acc σ H Q
  | [], R, τ, h, P, E, acc, σ, H, Q, hr, sr, hw, post, hx => post _ h H hw Grow.refl hr
  | e :: es, R, τ, h, P, E, acc, σ, H, Q, hr, sr, hw, post, hx => by
    refine tr_mk hr sr hx hw fun w1 h1 v1 H1 q1 g1 hr1 r1 => ?_
    cases w1 <;> first | exact False.elim q1 | skip
    · rename_i i
      simp only [Rep] at r1
      exact .inr ⟨i, r1, q1.1, _, rfl, lim_le q1.2.1, t_fmt es R τ h1 P E _ σ H1 Q hr1 (sr.grow g1) q1.2.2 (fun s h' H' p y => post s h' H' p (g1.trans y)) (hx.grow g1)⟩
    · rename_i y
      simp only [Rep] at r1
      exact .inl ⟨y, r1, lim_le q1.1, _, rfl, lim_le q1.2.1, t_fmt es R τ h1 P E _ σ H1 Q hr1 (sr.grow g1) q1.2.2 (fun s h' H' p y => post s h' H' p (g1.trans y)) (hx.grow g1)⟩
theorem s_fmt {v1 v2 : Expr} {rest : List Expr} {es : List Ex} (h : PJ X (v1 :: v2 :: rest) (es.map fun e => tFmt (TR g C W' e))) : PE X (.JoinedStr (v1 :: v2 :: rest) pos) (TR g C W' (.fmt es)) := by
  refine pe_imp (pe_joined h) ?_
  rintro σ H Q ⟨R, τ, h, P, E, hr, sr, hw, post, hx⟩
  exact t_fmt es R τ h _ E _ σ H _ hr sr hw (fun s h' H' p y z => post _ h' _ H' p y z rep_str) hx
theorem pj_cons {e : Expr} {e' : Ex} {es : List Expr} {es' : List Ex} (h : PE X e (tFmt (TR g C W' e'))) (r : PJ X es (es'.map fun e => tFmt (TR g C W' e))) : PJ X (e :: es) ((e' :: es').map fun e => tFmt (TR g C W' e)) := .cons h r

/-! ### isinstance -/
theorem tag_of (hX : Xk g C W' S X) {R : Addr → Prop} {h : Hw} {H : Hp} {w : W} {v : V} (hr : HRel (g.at R) h H) {cl : List Cl} (r : Rep (g.at R) h H w v) (e : isiOk cl (vw h w) = true) (hcl : ∀ c ∈ cl, c ∈ S.cl) :
    ∃ t, tagIn S t = true ∧ TyX X.K H v (tagV g t) ∧ ∀ k, k ≠ .err → kdW k (vw h w) = kdT k t := by
  generalize ex : vw h w = x at e
  cases x <;> first | (cases e; done) | skip
  · have ew : w = .non := by
      cases w <;> first | rfl | (simp only [vw] at ex; first | cases ex | (split at ex <;> cases ex))
    subst ew
    simp only [Rep] at r
    subst r
    exact ⟨.non, rfl, .base .non, fun k _ => by cases k <;> rfl⟩
  · rename_i b
    have ew : w = .bl b := by
      cases w <;> first | (simpa only [vw] using ex) | (simp only [vw] at ex; first | cases ex | (split at ex <;> cases ex))
    subst ew
    simp only [Rep] at r
    subst r
    exact ⟨.bl, rfl, .base (.bl b), fun k _ => by cases k <;> rfl⟩
  · rename_i b
    have ew := vw_int r ex
    subst ew
    exact ⟨.int, rfl, .base (.int b), fun k _ => by cases k <;> rfl⟩
  · rename_i b
    have ew := vw_str r ex
    subst ew
    exact ⟨.str, rfl, .base (.str b), fun k _ => by cases k <;> rfl⟩
  · rename_i ws
    obtain ⟨a, xs, ea, ha, ra, _⟩ := vw_tup r ex
    subst ea
    refine ⟨.tup, rfl, ?_, fun k _ => by cases k <;> rfl⟩
    rcases ha with (ha | ⟨o, ha⟩) | ⟨o, its, n, ho, hc, _⟩
    · exact .base (.tup ha)
    · exact .fTuple ha
    · exact .kTuple (by rw [hX.k]; exact ho) hc
  · rename_i ws
    obtain ⟨a, xs, ea, ha, ra, _⟩ := vw_lst hr r ex
    subst ea
    exact ⟨.lst, rfl, .base (.lst ha), fun k _ => by cases k <;> rfl⟩
  · rename_i c ws
    have ew : w = .obj c ws := by
      cases w <;> first | (simpa only [vw] using ex) | (simp only [vw] at ex; first | cases ex | (split at ex <;> cases ex))
    subst ew
    simp only [Rep] at r
    obtain ⟨a, dx, vs, e1, _, e2, _⟩ := r
    subst e1
    have hc := hcl c (by simpa [isiOk] using e)
    obtain ⟨f1, f2, f3, f4⟩ := hX.cty c hc
    refine ⟨.obj c, by simpa [tagIn] using hc, .base (.ins e2 (hX.clf c hc).1 f1 f2 f3 f4), fun k hk => by cases k <;> first | rfl | (exact absurd rfl hk) | (simp only [kdW, kdT]; rfl)⟩
theorem clsV_kd (k : Kd) : ClsV (kdV g k) (kdU g k) := by cases k <;> constructor
/-- the name of a class -/
theorem s_kd (hX : Xk g C W' S X) {k : Kd} (hk : k ∈ S.kd) (hg : Gl X (Str.ofString (kdS k))) : PE X (.Name (Str.ofString (kdS k)) pos) (tC (kdV g k)) := by
  rcases hX.kin k hk with ⟨c, e, m⟩ | ⟨n1, n2, m⟩
  · subst e
    exact pe_glob hg m rfl (by cases c <;> decide +kernel)
  · cases k with
    | cls c => exact absurd rfl (n2 c)
    | err => exact absurd rfl n1
    | int => exact pe_bltn (u := .type "int") hg m (by decide +kernel) rfl (by decide +kernel) (by decide +kernel)
    | bool => exact pe_bltn (u := .type "bool") hg m (by decide +kernel) rfl (by decide +kernel) (by decide +kernel)
    | str => exact pe_bltn (u := .type "str") hg m (by decide +kernel) rfl (by decide +kernel) (by decide +kernel)
    | tuple => exact pe_bltn (u := .type "tuple") hg m (by decide +kernel) rfl (by decide +kernel) (by decide +kernel)
    | list => exact pe_bltn (u := .type "list") hg m (by decide +kernel) rfl (by decide +kernel) (by decide +kernel)
theorem s_isi1 (hX : Xk g C W' S X) {cl : List Cl} {k : Kd} {p p1 : Pos} (hcl : ∀ c ∈ cl, c ∈ S.cl) (hk : k ∈ S.kd) (hne : k ≠ .err) (hg : Gl X (Str.ofString (kdS k))) (hgi : Gl X "isinstance") (hmi : "isinstance" ∈ S.free) (ha : PE X a (TR g C W' a'))
    (hs1 : starEach [a, .Name (Str.ofString (kdS k)) p1] X.env = (false, eval a X.env) :: starEach [.Name (Str.ofString (kdS k)) p1] X.env) (hpl : (backTo pos (starEach [.Name (Str.ofString (kdS k)) p1] X.env)).any (·.1) = false) :
    PE X (.Call (.Name "isinstance" p) [a, .Name (Str.ofString (kdS k)) p1] [] pos) (TR g C W' (.isi cl [k] a')) := by
  refine pe_imp (pe_callB (id := "isinstance") call_isi hgi (hX.fr _ hmi) (by decide +kernel) (pa_cons ha (pa_cons (s_kd hX hk hg) pa_nil rfl) hs1) (by decide +kernel) (by decide +kernel) hs1 hpl) ?_
  rintro σ H Q ⟨R, τ, h, P, E, hr, sr, hw, post, hx⟩
  refine tr_mk hr sr hx hw fun w1 h1 v1 H1 q1 g1 hr1 r1 => ?_
  obtain ⟨ok, q1⟩ := q1
  obtain ⟨t, ti, ty, ek⟩ := tag_of hX hr1 r1 ok hcl
  refine ⟨v1, kdV g k, tagV g t, kdU g k, kdT k t, rfl, clsV_kd k, ty, hX.kit k hk t ti, ?_⟩
  rw [← ek k hne]
  exact post _ h1 _ H1 (by simpa using q1) g1 hr1 rep_bl
theorem s_isi2 (hX : Xk g C W' S X) {cl : List Cl} {k l : Kd} {p p1 p2 p3 : Pos} {x1 : Nat} (hcl : ∀ c ∈ cl, c ∈ S.cl) (hk : k ∈ S.kd) (hl : l ∈ S.kd) (hne : k ≠ .err) (hne2 : l ≠ .err) (hg : Gl X (Str.ofString (kdS k))) (hg2 : Gl X (Str.ofString (kdS l))) (hgi : Gl X "isinstance") (hmi : "isinstance" ∈ S.free) (ha : PE X a (TR g C W' a'))
    (hs1 : starEach [a, .Tuple [.Name (Str.ofString (kdS k)) p1, .Name (Str.ofString (kdS l)) p2] x1 p3] X.env = (false, eval a X.env) :: starEach [.Tuple [.Name (Str.ofString (kdS k)) p1, .Name (Str.ofString (kdS l)) p2] x1 p3] X.env)
    (hpl : (backTo pos (starEach [.Tuple [.Name (Str.ofString (kdS k)) p1, .Name (Str.ofString (kdS l)) p2] x1 p3] X.env)).any (·.1) = false) :
    PE X (.Call (.Name "isinstance" p) [a, .Tuple [.Name (Str.ofString (kdS k)) p1, .Name (Str.ofString (kdS l)) p2] x1 p3] [] pos) (TR g C W' (.isi cl [k, l] a')) := by
  refine pe_imp (pe_callB (id := "isinstance") call_isiT hgi (hX.fr _ hmi) (by decide +kernel) (pa_cons ha (pa_cons (pe_tup (pa_cons (s_kd hX hk hg) (pa_cons (s_kd hX hl hg2) pa_nil rfl) rfl)) pa_nil rfl) hs1) (by decide +kernel) (by decide +kernel) hs1 hpl) ?_
  rintro σ H Q ⟨R, τ, h, P, E, hr, sr, hw, post, hx⟩
  refine tr_mk hr sr hx hw fun w1 h1 v1 H1 q1 g1 hr1 r1 => ?_
  obtain ⟨ok, q1⟩ := q1
  refine ⟨(show 2 ≤ sizeLine by decide), fun tp htp => ?_⟩
  have g2 : Grow h1 H1 h1 (upd H1 tp (.tup [kdV g k, kdV g l])) := Grow.new htp
  have hr2 := hr1.new (u := .tup [kdV g k, kdV g l]) htp
  obtain ⟨t, ti, ty, ek⟩ := tag_of hX hr2 (Rep.grow g2 _ _ r1) ok hcl
  refine ⟨v1, tp, [kdV g k, kdV g l], tagV g t, [kdU g k, kdU g l], kdT k t || kdT l t, rfl, upd_same, .cons (clsV_kd k) (.cons (clsV_kd l) .nil), ty, ?_, ?_⟩
  · refine kitAny_cons (hX.kit k hk t ti) (fun e => ?_) (fun e => by rw [e]; rfl)
    rw [e, Bool.false_or]
    exact kitAny_cons (hX.kit l hl t ti) (fun e => by rw [e]; rfl) (fun e => e)
  · rw [← ek k hne, ← ek l hne2]
    exact post _ h1 _ _ (by simpa using q1) (g1.trans g2) hr2 rep_bl

/-! ### xs[::-1], properties, ==, ghosts -/
theorem s_revF {k : Nat} {p1 p2 p3 : Pos} (ha : PE X a (TR g C W' a')) : PE X (.Subscript a (.Slice none none (some (.UnaryOp .USub (.Constant (.int 1) k p1) p2)) p3) pos) (TF g C W' (.rev a')) := by
  refine pe_imp (pe_revL ha) ?_
  rintro σ H Q ⟨R, τ, h, P, E, hr, sr, hw, post, hx⟩
  refine tr_mk hr sr hx hw fun w1 h1 v1 H1 q1 g1 hr1 r1 => ?_
  generalize e1 : vw h1 w1 = x at q1
  cases x <;> first | exact False.elim q1 | skip
  rename_i ws
  obtain ⟨ad, xs, ea, ha, ra, lz⟩ := vw_lst hr1 r1 e1
  exact ⟨ad, xs, ea, .inl (.inl ha), fun p hp => post.1 _ h1 q1 _ p H1 g1 hr1 hp ra.reverse (by rw [List.length_reverse]; exact lz)⟩
theorem s_prp (hX : Xk g C W' S X) {c : Cl} {m key : String} (hc : c ∈ S.cl) (hp : (c, m, key) ∈ S.ms1) (hne : m ≠ "__eq__") (ha : PE X a (TR g C W' a')) (hab : attributeBase a (Str.ofString m) X.env (eval a X.env) = eval a X.env) : PE X (.Attribute a (Str.ofString m) pos) (TR g C W' (.prp c m key a')) := by
  obtain ⟨k, fa, fd, ps, F, hr, hb, z⟩ := hX.prf _ hp
  rcases z with ⟨_, pa, hpo⟩ | ⟨z, _⟩
  · refine pe_imp (pe_prop (E := fun _ _ _ => False) ha (hX.clf c hc).1 hpo F hr hb .nil (fun pins σ H s e s' I cx => ?_) hab) ?_
    · obtain ⟨_, _, _, _, _, _, _, _, _, _, _, _, z⟩ := cx
      exact z.elim
    · rintro σ H Q ⟨R, τ, h, P, E, hr, sr, hw, post, hx⟩
      refine tr_mk hr sr hx hw fun w1 h1 v1 H1 q1 g1 hr1 r1 => ?_
      obtain ⟨ad, dx, vs, e1, e2, _⟩ := isCls_rep hr1 r1 q1.1
      exact ⟨ad, dx, _, e1, e2, R, h1, [w1], P, _, hr1, by subst e1; exact Reps.one r1, q1.2, post.grow g1, fun _ _ _ _ _ _ z => False.elim z⟩
  · exact absurd z hne
/-- two objects of a class that has its own == -/
def rEqO (g : Gd) (C : Calls) (cl : Cl) (m : String) : R2 := fun x y H Q => ∃ R h w1 w2 P, HRel (g.at R) h H ∧ Rep (g.at R) h H w1 x ∧ Rep (g.at R) h H w2 y ∧ (isCls h cl w1 = true ∧ isCls h cl w2 = true) ∧
  C m [w1, w2] h P (fun _ _ _ => False) ∧ ∀ w h' H', P w h' → Grow h H h' H' → HRel (g.at R) h' H' → ∃ z, w = .bl z ∧ Q (.bl z) H'
theorem opEqO (hX : Xk g C W' S X) {c : Cl} {key : String} (hc : c ∈ S.cl) (hp : (c, "__eq__", key) ∈ S.ms1) : OpR X (compareOp .Eq) (rEqO g C c key) := by
  obtain ⟨k, fa, fd, ps, F, hrm, hb, z⟩ := hX.prf _ hp
  intro pins s σ H x y v u Q I rx ry hq
  obtain ⟨R, h, w1, w2, P, hr, r1, r2, ⟨c1, c2⟩, q, post⟩ := hq
  obtain ⟨a, dx, vs, e1, ha, _⟩ := isCls_rep hr r1 c1
  obtain ⟨b, dy, us, e2, hb2, _⟩ := isCls_rep hr r2 c2
  subst e1 e2
  cases rx
  cases ry
  rcases z with ⟨z, _⟩ | ⟨_, hs, hf⟩
  · exact absurd rfl z
  obtain ⟨mA, J, _⟩ := ins_get I.hok ha
  obtain ⟨mB, J', _⟩ := ins_get I.hok hb2
  obtain ⟨od, J, _⟩ := J.look
  obtain ⟨od', J', _⟩ := J'.look
  obtain ⟨m, hF⟩ := I.fr
  show wpAny (model X.prog X.w) X.A (richCompare .Eq (.ref a) (.ref b)) (EP X pins σ Q) X.xe s
  refine PySem.W.cmp_K (op := .Eq) (tb := .ref (g.CA c)) (by have := hX.room.un; omega) hF I.ok.mod.kin J J'.type (by simp [PySem.W.notFirst]; exact .inl rfl) hs hf ?_
  have pe : PostE (g.at R) h H P (fun v H' => ∃ z, v = .bl z ∧ Q (.bl z) H') := fun w h' v H' p y hr' rr => by
    obtain ⟨z, e, q⟩ := post w h' H' p y hr'
    subst e
    simp only [Rep] at rr
    exact ⟨z, rr, q⟩
  have hsp : spR g C key [.ref a, .ref b] H (fun v H' => ∃ z, v = .bl z ∧ Q (.bl z) H') (fun _ _ _ => False) := ⟨R, h, [w1, w2], P, fun _ _ _ => False, hr, by exact Reps.append (Reps.one r1) (Reps.one r2), q, pe, fun _ _ _ _ _ _ z => False.elim z⟩
  have r2 : Vals [V.ref a, V.ref b] [Value.ref a, Value.ref b] := .cons rfl (.cons rfl .nil)
  refine wpAny_mono (run_fn (X := X) F (hrm.mono (Nat.le_succ k)) hb .nil (fun pins σ H s e s' I cx => ?_) I r2 hsp) (fun u s' hu => ?_) fun _ _ x => x
  · obtain ⟨_, _, _, _, _, _, _, _, _, _, _, _, z⟩ := cx
    exact z.elim
  · obtain ⟨v, H', I', rv, z, e, q⟩ := hu
    subst e
    cases rv
    exact ⟨.bl z, H', I', rfl, q⟩
theorem t_eqo {c : Cl} {key : String} {σ : L2.St} {H : Hp} {Q : VK} (q : TR g C W' (.eqo false c key a' b') σ H Q) : tOp (rEqO g C c key) (TR g C W' a') (TR g C W' b') σ H Q := by
  obtain ⟨R, τ, h, P, E, hr, sr, hw, post, hx⟩ := q
  refine tr_mk hr sr hx hw fun w1 h1 v1 H1 q1 g1 hr1 r1 => ?_
  refine tr_mk hr1 (sr.grow g1) (hx.grow g1) q1 fun w2 h2 v2 H2 q2 g2 hr2 r2 => ?_
  refine ⟨R, h2, w1, w2, _, hr2, Rep.grow g2 _ _ r1, r2, q2.1, q2.2, fun w h3 H3 p y hr3 => ?_⟩
  cases w <;> first | exact False.elim p | skip
  exact ⟨_, rfl, post _ h3 _ H3 p ((g1.trans g2).trans y) hr3 rep_bl⟩
theorem s_eqo (hX : Xk g C W' S X) {c : Cl} {key : String} (hc : c ∈ S.cl) (hp : (c, "__eq__", key) ∈ S.ms1) (ha : PE X a (TR g C W' a')) (hb : PE X b (TR g C W' b')) (hm : behindInMarks .Eq b = false) : PE X (.Compare a [.Eq] [b] pos) (TR g C W' (.eqo false c key a' b')) :=
  pe_imp (pe_cmpR (opEqO hX hc hp) ha hb hm) fun σ H Q q => t_eqo q
theorem c_eqo (hX : Xk g C W' S X) {c : Cl} {key : String} (hc : c ∈ S.cl) (hp : (c, "__eq__", key) ∈ S.ms1) (ha : PE X a (TR g C W' a')) (hb : PE X b (TR g C W' b')) (hm : behindInMarks .Eq b = false) : PT X (.Compare a [.Eq] [b] pos) (tB (TR g C W' (.eqo false c key a' b'))) :=
  pt_imp (pt_cmpR (opEqO hX hc hp) ha hb hm) fun σ H Q q => t_eqo q
/-! ### ghosts -/
theorem wp_del {e : Ex} {es : List Ex} {τ : En} {h : Hw} {P : KW} {E : XW} : wpE C (.del e es) τ h P E = wpE C e τ h (fun x h1 => wpEs C es τ h1 (fun ws h2 => delW ws h2 fun h3 => P x h3) E) E := rfl
/-- variables alone -/
def varsOf : List Ex → Option (List Nat)
  | [] => some []
  | .var i :: es => (varsOf es).map fun is => i :: is
  | _ => none
theorem t_vars {R : Addr → Prop} {τ : En} {σ : L2.St} {H : Hp} {Q : Hw → Prop} : ∀ (es : List Ex) (is : List Nat) (h h0 : Hw) (P : List W → Hw → Prop) (E : XW), varsOf es = some is → wpEs C es τ h P E → ∃ ws, P ws h
  | [], is, h, h0, P, E, e, hw => ⟨[], hw⟩
  | x :: es, is, h, h0, P, E, e, hw => by
    cases x <;> simp only [varsOf, reduceCtorEq] at e
    cases e2 : varsOf es with
    | none => rw [e2] at e; cases e
    | some js =>
      have hw : (match slot τ _ with
        | some w => wpEs C es τ h (fun ws h2 => P (w :: ws) h2) E
        | none => False) := hw
      split at hw
      · obtain ⟨ws, q⟩ := t_vars (R := R) (σ := σ) (H := H) (Q := Q) es js h h0 _ E e2 hw
        exact ⟨_, q⟩
      · exact hw.elim
theorem del_hrel {R : Addr → Prop} {H : Hp} : ∀ (ws : List W) (h : Hw) (P : Hw → Prop), HRel (g.at R) h H → delW ws h P → ∃ h', P h' ∧ HRel (g.at R) h' H ∧ Grow h H h' H
  | [], h, P, hr, q => ⟨h, q, hr, Grow.refl⟩
  | w :: ws, h, P, hr, q => by
    cases w <;> first | exact False.elim q | skip
    obtain ⟨h', p, hr', y⟩ := del_hrel ws _ P hr.del q
    exact ⟨h', p, hr', Grow.del.trans y⟩
theorem s_del {es : List Ex} {is : List Nat} (ha : PE X a (TR g C W' a')) (hv : varsOf es = some is) : PE X a (TR g C W' (.del a' es)) := by
  refine pe_imp ha ?_
  rintro σ H Q ⟨R, τ, h, P, E, hr, sr, hw, post, hx⟩
  rw [wp_del] at hw
  refine tr_mk hr sr hx hw fun w1 h1 v1 H1 q1 g1 hr1 r1 => ?_
  obtain ⟨ws, q⟩ := t_vars (R := R) (σ := σ) (H := H1) (Q := fun _ => True) es is h1 h1 _ E hv q1
  obtain ⟨h2, p, hr2, y⟩ := del_hrel ws h1 _ hr1 q
  exact post _ h2 _ H1 p (g1.trans y) hr2 (Rep.grow y _ _ r1)
end
end Ri
end
section
set_option Elab.async false
set_option linter.all false
set_option maxRecDepth 100000
set_option maxHeartbeats 2000000
/-! Ri, part 11: statements. -/
namespace Ri
open PySem PySem.W L2
/-- what follows a statement, on both sides -/
structure EndR (g : Gd) (W' : WX) (h : Hw) (H : Hp) (d : Dn) (D : Ends) : Prop where
  nx : ∀ τ' h' σ' H', d.nx τ' h' → Grow h H h' H' → HRel g h' H' → SRel g h' H' τ' σ' → D.nx σ' H'
  rt : PostE g h H d.rt D.rt
  bk : ∀ τ' h' σ' H', d.bk τ' h' → Grow h H h' H' → HRel g h' H' → SRel g h' H' τ' σ' → D.bk σ' H'
  ct : ∀ τ' h' σ' H', d.ct τ' h' → Grow h H h' H' → HRel g h' H' → SRel g h' H' τ' σ' → D.ct σ' H'
  ex : ∀ τ' c ws h' cls x σ' H', d.ex τ' c ws h' → Grow h H h' H' → HRel g h' H' → SRel g h' H' τ' σ' → RepX g h' H' c ws cls x → W' cls x σ' H'
theorem EndR.grow {g : Gd} {W' : WX} {h h1 : Hw} {H H1 : Hp} {d : Dn} {D : Ends} (e : EndR g W' h H d D) (y : Grow h H h1 H1) : EndR g W' h1 H1 d D :=
  ⟨fun τ' h' σ' H' a b => e.nx τ' h' σ' H' a (y.trans b), e.rt.grow y, fun τ' h' σ' H' a b => e.bk τ' h' σ' H' a (y.trans b), fun τ' h' σ' H' a b => e.ct τ' h' σ' H' a (y.trans b),
    fun τ' c ws h' cls x σ' H' a b => e.ex τ' c ws h' cls x σ' H' a (y.trans b)⟩
theorem EndR.px {g : Gd} {W' : WX} {h : Hw} {H : Hp} {d : Dn} {D : Ends} {τ : En} {σ : L2.St} (e : EndR g W' h H d D) (sr : SRel g h H τ σ) :
    PostX g h H (d.ex τ) fun cls x H' => W' cls x σ H' := fun c ws h' cls x H' a b hr r => e.ex τ c ws h' cls x σ H' a b hr (sr.grow b) r
/-- a statement's reading, from its wp -/
def TM (g : Gd) (W' : WX) (m : En → Hw → Dn → Prop) : TS := fun D σ H => ∃ R τ h d, HRel (g.at R) h H ∧ SRel (g.at R) h H τ σ ∧ m τ h d ∧ EndR (g.at R) W' h H d D
abbrev TMs (g : Gd) (C : Calls) (W' : WX) (ss : List Sm) : TS := TM g W' (wpSs C ss)
abbrev TM1 (g : Gd) (C : Calls) (W' : WX) (s : Sm) : TS := TM g W' (wpS C s)
section
variable {g : Gd} {C : Calls} {W' : WX} {S : Sx} {X : Cx} {a b c : Expr} {a' b' c' : Ex} {pos : Pos}
theorem pss_imp {e : List Stmt} {t t' : TS} (h : PSs X e t) (k : ∀ D σ H, t' D σ H → t D σ H) : PSs X e t' := ⟨fun pins s σ H Q I q => h.run pins s σ H Q I (k Q σ H q)⟩
theorem tm_mk {R : Addr → Prop} {m : En → Hw → Dn → Prop} {τ : En} {h : Hw} {d : Dn} {D : Ends} {σ : L2.St} {H : Hp} (hr : HRel (g.at R) h H) (sr : SRel (g.at R) h H τ σ) (hw : m τ h d) (e : EndR (g.at R) W' h H d D) : TM g W' m D σ H := ⟨R, τ, h, d, hr, sr, hw, e⟩
theorem m_nil : PSs X [] (TMs g C W' []) := by
  refine pss_imp pss_nil ?_
  rintro D σ H ⟨R, τ, h, d, hr, sr, hw, e⟩
  exact e.nx τ h σ H hw Grow.refl hr sr
theorem m_cons {st : Stmt} {rest : List Stmt} {s : Sm} {ss : List Sm} (h1 : PS X st (TM1 g C W' s)) (h2 : PSs X rest (TMs g C W' ss)) : PSs X (st :: rest) (TMs g C W' (s :: ss)) := by
  refine pss_imp (pss_cons h1 h2) ?_
  rintro D σ H ⟨R, τ, h, d, hr, sr, hw, e⟩
  refine tm_mk hr sr (d := { d with nx := fun τ1 h1 => wpSs C ss τ1 h1 d }) hw ⟨fun τ' h' σ' H' q y hr' sr' => tm_mk hr' sr' q (e.grow y), e.rt, e.bk, e.ct, e.ex⟩
/-- a statement that leaves no trace -/
theorem m_skip {st : Stmt} {rest : List Stmt} {ss : List Sm} (h1 : PS X st tNext) (h2 : PSs X rest (TMs g C W' ss)) : PSs X (st :: rest) (TMs g C W' ss) := by
  refine pss_imp (pss_cons h1 h2) ?_
  intro D σ H q
  exact q
theorem m_doc {x : Str} {j : Nat} {p1 p2 : Pos} : PS X (.Expr (.Constant (.str x) j p1) p2) tNext := ps_doc
theorem m_pass : PS X (.Pass pos) (TM1 g C W' .pass) := by
  refine ps_imp ps_pass ?_
  rintro D σ H ⟨R, τ, h, d, hr, sr, hw, e⟩
  exact e.nx τ h σ H hw Grow.refl hr sr
theorem m_brk : PS X (.Break pos) (TM1 g C W' .brk) := by
  refine ps_imp ps_break ?_
  rintro D σ H ⟨R, τ, h, d, hr, sr, hw, e⟩
  exact e.bk τ h σ H hw Grow.refl hr sr
theorem m_nev {st : Stmt} : PS X st (TM1 g C W' .nev) := by
  refine ps_imp ps_never ?_
  rintro D σ H ⟨R, τ, h, d, hr, sr, hw, e⟩
  exact hw
theorem m_ret (ha : PE X a (TR g C W' a')) : PS X (.Return (some a) pos) (TM1 g C W' (.ret a')) := by
  refine ps_imp (ps_ret ha) ?_
  rintro D σ H ⟨R, τ, h, d, hr, sr, hw, e⟩
  exact ⟨R, τ, h, _, _, hr, sr, hw, e.rt, e.px sr⟩
theorem m_retN : PS X (.Return none pos) (TM1 g C W' .retN) := by
  refine ps_imp ps_retN ?_
  rintro D σ H ⟨R, τ, h, d, hr, sr, hw, e⟩
  exact e.rt _ h _ H hw Grow.refl hr rep_non
theorem m_ex (ha : PE X a (TR g C W' a')) (hs : swapsWith a none pos.line X.env = pure false) : PS X (.Expr a pos) (TM1 g C W' (.ex a')) := by
  refine ps_imp (ps_expr ha hs) ?_
  rintro D σ H ⟨R, τ, h, d, hr, sr, hw, e⟩
  exact tr_mk hr sr (e.px sr) hw fun w h1 v H1 q y hr1 r => e.nx τ h1 σ H1 q y hr1 (sr.grow y)
theorem m_if {p q : List Stmt} {s t : List Sm} (hc : PT X c (tB (TR g C W' c'))) (hp : PSs X p (TMs g C W' s)) (hq : PSs X q (TMs g C W' t)) : PS X (.If c p q pos) (TM1 g C W' (.ite c' s t)) := by
  refine ps_imp (ps_if hc hp hq) ?_
  rintro D σ H ⟨R, τ, h, d, hr, sr, hw, e⟩
  refine tr_mk hr sr (e.px sr) hw fun w h1 v H1 q1 y hr1 r => ?_
  cases w <;> first | exact False.elim q1 | skip
  rename_i k
  simp only [Rep] at r
  refine ⟨k, r, ?_⟩
  cases k with
  | true => exact iteT (tm_mk hr1 (sr.grow y) q1 (e.grow y))
  | false => exact iteF (tm_mk hr1 (sr.grow y) q1 (e.grow y))
/-! ### assignments -/
theorem m_set {i : Nat} {x : Str} {p2 : Pos} (hX : Xk g C W' S X) (hi : X.N[i]? = some x) (hx : Loc X.env.scope x) (hf : X.fn x = true ∨ X.env.scope.names.lookup x = some .local) (ha : PE X a (TR g C W' a')) (hs : swapsWith a (some (.Name x p2)) pos.line X.env = pure false) :
    PS X (.Assign [.Name x p2] a pos) (TM1 g C W' (.set i a')) := by
  refine ps_imp (ps_set (by rw [hX.n]; exact hX.nd) hi hx ha hs hf) ?_
  rintro D σ H ⟨R, τ, h, d, hr, sr, hw, e⟩
  exact tr_mk hr sr (e.px sr) hw fun w h1 v H1 q y hr1 r => e.nx _ h1 _ H1 q y hr1 ((sr.grow y).put r)
/-- a target that is a tuple, by its meaning -/
theorem m_unp {es : List Expr} {kk n : Nat} {p2 : Pos} {ts : List Tg} (hX : Xk g C W' S X) (hp : PGs X es (TGss g ts)) (hn : (assignEach es X.env).length = n) (hl : ts.length = n) (hst : (assignEach es X.env).findIdx? (·.1) = none) (ha : PE X a (TR g C W' a'))
    (hs : swapsWithSole [.Tuple es kk p2] a pos.line X.env = pure false) (hw : swappedStores [.Tuple es kk p2] a X.env = pure none) : PS X (.Assign [.Tuple es kk p2] a pos) (TM1 g C W' (.unp ts a')) := by
  refine ps_imp (ps_asg ha (g_tp hX.k hX.calm hp hn hl hst) hs hw rfl) ?_
  rintro D σ H ⟨R, τ, h, d, hr, sr, hw, e⟩
  refine tr_mk hr sr (e.px sr) hw fun w h1 v H1 q y hr1 r => ?_
  cases w <;> first | exact False.elim q | skip
  rename_i ws
  dsimp only at q
  generalize e2 : bindTs ts ws τ = o at q
  cases o with
  | some τ2 => exact ⟨R, τ, h1, .tup ws, τ2, hr1, sr.grow y, r, by simpa only [bindT] using e2, fun σ2 s2 _ => e.nx τ2 h1 σ2 H1 q y hr1 s2⟩
  | none => exact q.elim
/-! ### stores into lists and fields -/
/-- a list's item is set -/
theorem setW_of {h : Hw} {o i v : W} {P : Hw → Prop} (q : setW h o i v P) : ∃ a ws k j, o = .loc a ∧ i = .int k ∧ h a = some (.lst ws) ∧ ixN ws.length k = some j ∧ P (hset h a (.lst (ws.set j v))) := by
  cases o <;> first | exact False.elim q | skip
  cases i <;> first | exact False.elim q | skip
  rename_i a k
  dsimp only [setW] at q
  split at q
  · rename_i ws e
    split at q
    · rename_i j e2
      exact ⟨a, ws, k, j, rfl, rfl, e, e2, q⟩
    · exact q.elim
  · exact q.elim
theorem set_rel {R : Addr → Prop} {h : Hw} {H : Hp} {a : Addr} {ws : List W} {w : W} {v : V} {k : Int} {j : Nat} {Q : Hp → Prop} (hr : HRel (g.at R) h H) (e : h a = some (.lst ws)) (ek : ixN ws.length k = some j) (r : Rep (g.at R) h H w v)
    (q : ∀ H', Grow h H (hset h a (.lst (ws.set j w))) H' → HRel (g.at R) (hset h a (.lst (ws.set j w))) H' → Q H') : rSetL (.ref a) (.int k) v H Q := by
  obtain ⟨vs, e1, r1, z⟩ := hr.own a _ e
  have l := r1.length
  refine ⟨a, vs, k, j, rfl, rfl, e1, by rw [← l]; exact ek, q _ (Grow.chg e) (hr.chg e ⟨vs.set j v, upd_same, Reps.grow (Grow.chg e) _ _ (r1.set r j), by rw [List.length_set]; exact z⟩)⟩
def notSlice : Expr → Bool
  | .Slice .. => false
  | _ => true
theorem plainSub {o i : Expr} (hp : notSlice i = true) (v : Value) {env : Env} : assign (.Subscript o i pos) env v = (do
      let ov ← holding [v] (eval o env)
      let iv ← holding [v, ov] (eval i env)
      standAt pos
      holding [v, ov, iv] (setItem ov iv v)
      release [v, ov, iv] []) := by
  cases i <;> first | rfl | cases hp
theorem m_setI {o i : Expr} {o' i' : Ex} {p2 : Pos} (ho : PE X o (TR g C W' o')) (hi : PE X i (TR g C W' i')) (ha : PE X a (TR g C W' a')) (hs : swapsWithSole [.Subscript o i p2] a pos.line X.env = pure false) (hw : swappedStores [.Subscript o i p2] a X.env = pure none)
    (hp : notSlice i = true) : PS X (.Assign [.Subscript o i p2] a pos) (TM1 g C W' (.setI o' i' a')) := by
  refine ps_imp (ps_asg ha (pg_sub ho hi set_list fun v => plainSub hp v) hs hw rfl) ?_
  rintro D σ H ⟨R, τ, h, d, hr, sr, hw, e⟩
  refine tr_mk hr sr (e.px sr) hw fun w h1 v H1 q y hr1 r => ?_
  refine tr_mk hr1 (sr.grow y) ((e.grow y).px (sr.grow y)) q fun w2 h2 v2 H2 q2 y2 hr2 r2 => ?_
  refine tr_mk hr2 ((sr.grow y).grow y2) (((e.grow y).grow y2).px ((sr.grow y).grow y2)) q2 fun w3 h3 v3 H3 q3 y3 hr3 r3 => ?_
  obtain ⟨ad, ws, k, j, e1, e2, e3, e4, q4⟩ := setW_of q3
  subst e1 e2
  have r2' := Rep.grow y3 _ _ r2
  simp only [Rep] at r2' r3
  subst r2' r3
  exact set_rel hr3 e3 e4 (Rep.grow y3 _ _ (Rep.grow y2 _ _ r)) fun H' y4 hr4 => e.nx τ _ σ H' q4 (((y.trans y2).trans y3).trans y4) hr4 ((((sr.grow y).grow y2).grow y3).grow y4)
/-- xs[i], by values, as PGet wants it -/
theorem get_list : PGet X (rIxL X.K) := by
  intro pins s σ H x yy v u Q I rx ry h
  obtain ⟨p, xs, i, z, rfl, rfl, hq, he, q⟩ := h
  cases rx
  obtain ⟨t, rfl⟩ := ry
  obtain ⟨its, r, pl, hz⟩ := I.list hq
  obtain ⟨j, h1, h2, h3, h4, h5⟩ := atI_get he
  obtain ⟨w, ew, rw'⟩ := r.get h2
  have hl := r.length
  have hn := line63
  have fin : EP X pins σ Q w s := ⟨z, H, I, rw', q⟩
  by_cases h0 : 0 ≤ i
  · have hj : i.toNat = j := by
      rw [seqIndex_of h0 h5] at h1
      exact Option.some.inj h1
    exact wpAny_getItem_list (Q := fun r s' => EP X pins σ Q r s') pl.isList h0 (by omega) (by rw [hj]; simpa using ew) fin
  · have hj : (i + (its.toArray.size : Int)).toNat = j := by
      rw [seqIndex_neg (by omega) h4] at h1
      rw [List.size_toArray, ← hl]
      exact Option.some.inj h1
    exact wpAny_getItem_list_neg (Q := fun r s' => EP X pins σ Q r s') pl.isList (by omega) (by rw [List.size_toArray] <;> omega) (by omega) (by rw [hj]; simpa using ew) fin
/-- two ints, one operator -/
def inpI (p : Bop) : TIp := fun x y H Q => ∃ i j, x = .int i ∧ y = .int j ∧ ((p = .add ∧ Q (.int (i + j)) H) ∨ (p = .sub ∧ Q (.int (i - j)) H))
theorem ip_int (p : Bop) : PIp X p.op (inpI p) := by
  intro pins s σ H x y v u Q I rx ry q
  obtain ⟨i, j, e1, e2, ⟨e3, q⟩ | ⟨e3, q⟩⟩ := q
  · subst e3
    exact ip_add pins s σ H x y v u Q I rx ry ⟨i, j, e1, e2, q⟩
  · subst e3
    exact ip_sub pins s σ H x y v u Q I rx ry ⟨i, j, e1, e2, q⟩
theorem plainAug {i : Expr} (hp : notSlice i = true) (ov iv new : Value) : augStore i ov iv new = (do holding [new, ov, iv] (setItem ov iv new); release [new, ov, iv] []; pure .next) := by
  cases i <;> first | rfl | cases hp
theorem augW_of {p : Bop} {x y : W} {P : Int → Prop} (q : augW p x y P) : ∃ i j, x = .int i ∧ y = .int j ∧ ((p = .add ∧ P (i + j)) ∨ (p = .sub ∧ P (i - j))) := by
  cases p <;> first | exact False.elim q | skip
  all_goals (cases x <;> first | exact False.elim q | skip)
  all_goals (cases y <;> first | exact False.elim q | skip)
  · exact ⟨_, _, rfl, rfl, .inl ⟨rfl, q⟩⟩
  · exact ⟨_, _, rfl, rfl, .inr ⟨rfl, q⟩⟩
theorem atLI_of {x y : W} {P : Int → Prop} (q : atLI x y P) : ∃ ws i n, x = .lst ws ∧ y = .int i ∧ atI ws i = some (.int n) ∧ P n := by
  cases x <;> first | exact False.elim q | skip
  cases y <;> first | exact False.elim q | skip
  dsimp only [atLI] at q
  split at q
  · rename_i n e
    exact ⟨_, _, n, rfl, rfl, e, q⟩
  · exact q.elim
theorem m_augI {p : Bop} {o i : Expr} {o' i' : Ex} {p2 : Pos} (ho : PE X o (TR g C W' o')) (hi : PE X i (TR g C W' i')) (ha : PE X a (TR g C W' a')) (hn : notSlice i = true) : PS X (.AugAssign (.Subscript o i p2) p.op a pos) (TM1 g C W' (.augI p o' i' a')) := by
  refine ps_imp (ps_augS ho hi get_list ha (ip_int p) set_list (plainAug hn)) ?_
  rintro D σ H ⟨R, τ, h, d, hr, sr, hw, e⟩
  refine tr_mk hr sr (e.px sr) hw fun w h1 v H1 q y hr1 r => ?_
  refine tr_mk hr1 (sr.grow y) ((e.grow y).px (sr.grow y)) q fun w2 h2 v2 H2 q2 y2 hr2 r2 => ?_
  obtain ⟨ws, k, n, ew, ek, ez, q2⟩ := atLI_of q2
  subst ek
  simp only [Rep] at r2
  subst r2
  have r1 := Rep.grow y2 _ _ r
  have sr2 := (sr.grow y).grow y2
  have e2 := (e.grow y).grow y2
  obtain ⟨ad, xs, ea, ha2, ra, _⟩ := vw_lst hr2 r1 ew
  obtain ⟨z', ez', rz⟩ := atI_rep ra ez
  simp only [Rep] at rz
  subst rz ea
  refine ⟨ad, xs, k, _, rfl, rfl, .inl (.inl ha2), ez', ?_⟩
  refine tr_mk hr2 sr2 (e2.px sr2) q2 fun w3 h3 v3 H3 q3 y3 hr3 r3 => ?_
  obtain ⟨i0, j0, e5, e6, q3⟩ := augW_of q3
  cases e5
  have r3' := vw_int r3 e6
  subst r3'
  have fin : ∀ r : Int, setW h3 w (.int k) (.int r) (fun h4 => d.nx τ h4) → rSetL (.ref ad) (.int k) (.int r) H3 fun H6 => D.nx σ H6 := fun r q4 => by
    obtain ⟨ad2, ws2, k2, j, f1, f2, f3, f4, q5⟩ := setW_of q4
    subst f1
    cases f2
    simp only [Rep] at r1
    cases r1
    exact set_rel hr3 f3 f4 rep_int fun H' y4 hr4 => e.nx τ _ σ H' q5 (((y.trans y2).trans y3).trans y4) hr4 ((sr2.grow y3).grow y4)
  rcases q3 with ⟨e7, q3⟩ | ⟨e7, q3⟩
  · exact ⟨_, _, rfl, rfl, .inl ⟨e7, fin _ q3⟩⟩
  · exact ⟨_, _, rfl, rfl, .inr ⟨e7, fin _ q3⟩⟩
theorem m_aug {p : Bop} {i : Nat} {x : Str} {p2 : Pos} (hX : Xk g C W' S X) (hi : X.N[i]? = some x) (hx : Loc X.env.scope x) (hf : X.fn x = true ∨ X.env.scope.names.lookup x = some .local) (ha : PE X a (TR g C W' a')) : PS X (.AugAssign (.Name x p2) p.op a pos) (TM1 g C W' (.aug p i a')) := by
  refine ps_imp (ps_aug (by rw [hX.n]; exact hX.nd) hi hx ha (ip_int p) hf) ?_
  rintro D σ H ⟨R, τ, h, d, hr, sr, hw, e⟩
  have hw : (match slot τ i with
    | some z => wpE C a' τ h (fun v h1 => augW p z (vw h1 v) fun r => d.nx (put τ i (.int r)) h1) (d.ex τ)
    | none => False) := hw
  split at hw
  · rename_i z ez
    obtain ⟨v, ev, rv⟩ := sr.2 i z ez
    refine ⟨v, ev, tr_mk hr sr (e.px sr) hw fun w h1 v1 H1 q y hr1 r => ?_⟩
    obtain ⟨i0, j0, e5, e6, q3⟩ := augW_of q
    subst e5
    simp only [Rep] at rv
    subst rv
    have r3' := vw_int r e6
    subst r3'
    have fin : ∀ k : Int, d.nx (put τ i (.int k)) h1 → D.nx (σ.set i (some (.int k))) H1 := fun k q => e.nx _ h1 _ H1 q y hr1 ((sr.grow y).put rep_int)
    rcases q3 with ⟨e7, q3⟩ | ⟨e7, q3⟩
    · exact ⟨_, _, rfl, rfl, .inl ⟨e7, fin _ q3⟩⟩
    · exact ⟨_, _, rfl, rfl, .inr ⟨e7, fin _ q3⟩⟩
  · exact hw.elim
theorem lstAt_of {h : Hw} {o : W} {P : Addr → List W → Prop} (q : lstAt h o P) : ∃ a ws, o = .loc a ∧ h a = some (.lst ws) ∧ P a ws := by
  cases o <;> first | exact False.elim q | skip
  dsimp only [lstAt] at q
  split at q
  · rename_i ws e
    exact ⟨_, ws, rfl, e, q⟩
  · exact q.elim
/-- a list in the heap gets other items -/
theorem lst_chg {R : Addr → Prop} {h : Hw} {H : Hp} {a : Addr} {ws ws' : List W} {vs' : List V} (hr : HRel (g.at R) h H) (e : h a = some (.lst ws)) (r : Reps (g.at R) h H ws' vs') (z : vs'.length ≤ sizeLine) :
    Grow h H (hset h a (.lst ws')) (upd H a (.lst vs')) ∧ HRel (g.at R) (hset h a (.lst ws')) (upd H a (.lst vs')) :=
  ⟨Grow.chg e, hr.chg e ⟨vs', upd_same, Reps.grow (Grow.chg e) _ _ r, z⟩⟩
theorem m_ext {i : Nat} {x : Str} {p2 : Pos} (hX : Xk g C W' S X) (hi : X.N[i]? = some x) (hx : Loc X.env.scope x) (hf : X.fn x = true ∨ X.env.scope.names.lookup x = some .local) (ha : PE X a (TR g C W' a')) : PS X (.AugAssign (.Name x p2) .Add a pos) (TM1 g C W' (.ext i a')) := by
  refine ps_imp (ps_aug (by rw [hX.n]; exact hX.nd) hi hx ha (ti := rExt2) iop_ext hf) ?_
  rintro D σ H ⟨R, τ, h, d, hr, sr, hw, e⟩
  have hw : (match slot τ i with
    | some z => wpE C a' τ h (fun v h1 => match vw h1 v with
      | .lst us => lstAt h1 z fun a ws => ws.length + us.length ≤ lim ∧ d.nx τ (hset h1 a (.lst (ws ++ us)))
      | _ => False) (d.ex τ)
    | none => False) := hw
  split at hw
  · rename_i z ez
    obtain ⟨v, ev, rv⟩ := sr.2 i z ez
    refine ⟨v, ev, tr_mk hr sr (e.px sr) hw fun w h1 v1 H1 q y hr1 r => ?_⟩
    generalize ew : vw h1 w = u at q
    cases u <;> first | exact False.elim q | skip
    rename_i us
    obtain ⟨a, ws, ea, eh, q1, q2⟩ := lstAt_of q
    subst ea
    simp only [Rep] at rv
    subst rv
    obtain ⟨b, zs, eb, hb, rb, lb⟩ := vw_lst hr1 r ew
    obtain ⟨xs, hxs, rxs, lx⟩ := hr1.own a _ eh
    have l1 := rxs.length
    have l2 := rb.length
    have hl : xs.length + zs.length ≤ sizeLine := by rw [← l1, ← l2]; exact lim_le q1
    obtain ⟨y2, hr2⟩ := lst_chg hr1 eh (rxs.append rb) (by rw [List.length_append]; exact hl)
    refine ⟨a, b, xs, zs, rfl, eb, hxs, hb, hl, ?_⟩
    have es : σ.set i (some (V.ref a)) = σ := by
      apply List.ext_getElem?
      intro j
      by_cases ej : i = j
      · subst ej
        have hlt := (List.getElem?_eq_some_iff.mp ev).1
        rw [List.getElem?_set_self hlt, ev]
      · rw [List.getElem?_set_ne ej]
    show D.nx (σ.set i (some (V.ref a))) _
    rw [es]
    exact e.nx τ _ σ _ q2 (y.trans y2) hr2 ((sr.grow y).grow y2)
  · exact hw.elim
/-! ### methods of lists -/
theorem isLoL_of {h : Hw} {o : W} (q : isLoL h o = true) : ∃ a ws, o = .loc a ∧ h a = some (.lst ws) := by
  cases o <;> first | (cases q; done) | skip
  dsimp only [isLoL] at q
  split at q
  · rename_i ws e
    exact ⟨_, ws, rfl, e⟩
  · cases q
theorem isLoL_ty {R : Addr → Prop} {h : Hw} {H : Hp} {o : W} {v : V} (hr : HRel (g.at R) h H) (r : Rep (g.at R) h H o v) (q : isLoL h o = true) : tyV X.K "list" v H := by
  obtain ⟨a, ws, e1, e2⟩ := isLoL_of q
  subst e1
  simp only [Rep] at r
  subst r
  obtain ⟨vs, e3, _⟩ := hr.own a _ e2
  exact .inl ⟨rfl, vs, .inl (.inl e3)⟩
theorem m_app {o : Expr} {o' : Ex} {p2 p3 : Pos} (ho : PE X o (TR g C W' o')) (ha : PE X a (TR g C W' a')) (hb : attributeBase o "append" X.env (eval o X.env) = eval o X.env) (hl : (p2.endLine == p3.line) = true) (hs : starEach [a] X.env = [(false, eval a X.env)]) : PS X (.Expr (.Call (.Attribute o "append" p2) [a] [] p3) pos) (TM1 g C W' (.app o' a')) := by
  refine ps_imp (ps_expr (pe_bm F.plainAttrs_list F.slot_list_append F.type_list_append mt_append ho (pa_cons ha pa_nil hs) hb (by rw [hs]; rfl) hl hs rfl) rfl) ?_
  rintro D σ H ⟨R, τ, h, d, hr, sr, hw, e⟩
  refine tr_mk hr sr (e.px sr) hw fun w h1 v H1 q y hr1 r => ?_
  refine ⟨isLoL_ty hr1 r q.1, tr_mk hr1 (sr.grow y) ((e.grow y).px (sr.grow y)) q.2 fun w2 h2 v2 H2 q2 y2 hr2 r2 => ?_⟩
  obtain ⟨ad, ws, ea, eh, q3, q4⟩ := lstAt_of q2
  subst ea
  have r1 := Rep.grow y2 _ _ r
  simp only [Rep] at r1
  subst r1
  obtain ⟨xs, hxs, rxs, lx⟩ := hr2.own ad _ eh
  have l1 := rxs.length
  have hlim : lim < sizeLine := by decide
  obtain ⟨y3, hr3⟩ := lst_chg hr2 eh (rxs.append (Reps.one r2)) (by rw [List.length_append]; show xs.length + 1 ≤ sizeLine; omega)
  exact ⟨ad, xs, v2, rfl, rfl, hxs, by omega, e.nx τ _ σ _ q4 ((y.trans y2).trans y3) hr3 (((sr.grow y).grow y2).grow y3)⟩
theorem m_ins {o i : Expr} {o' i' : Ex} {p2 p3 : Pos} (ho : PE X o (TR g C W' o')) (hi : PE X i (TR g C W' i')) (ha : PE X a (TR g C W' a')) (hb : attributeBase o "insert" X.env (eval o X.env) = eval o X.env) (hl : (p2.endLine == p3.line) = true)
    (hs : starEach [i, a] X.env = (false, eval i X.env) :: starEach [a] X.env) (hs2 : starEach [a] X.env = [(false, eval a X.env)]) : PS X (.Expr (.Call (.Attribute o "insert" p2) [i, a] [] p3) pos) (TM1 g C W' (.ins o' i' a')) := by
  refine ps_imp (ps_expr (pe_bm F.plainAttrs_list F.slot_list_insert F.type_list_insert mt_insert ho (pa_cons hi (pa_cons ha pa_nil hs2) hs) hb (by rw [hs, hs2]; rfl) hl hs (by rw [hs2]; rfl)) rfl) ?_
  rintro D σ H ⟨R, τ, h, d, hr, sr, hw, e⟩
  refine tr_mk hr sr (e.px sr) hw fun w h1 v H1 q y hr1 r => ?_
  refine ⟨isLoL_ty hr1 r q.1, tr_mk hr1 (sr.grow y) ((e.grow y).px (sr.grow y)) q.2 fun w2 h2 v2 H2 q2 y2 hr2 r2 => ?_⟩
  refine tr_mk hr2 ((sr.grow y).grow y2) (((e.grow y).grow y2).px ((sr.grow y).grow y2)) q2 fun w3 h3 v3 H3 q3 y3 hr3 r3 => ?_
  obtain ⟨ad, ws, ea, eh, q4⟩ := lstAt_of q3
  subst ea
  cases w2 <;> first | exact False.elim q4 | skip
  rename_i k
  obtain ⟨⟨z1, z2, z3⟩, q4⟩ := q4
  have r1 := Rep.grow y3 _ _ (Rep.grow y2 _ _ r)
  simp only [Rep] at r1 r2
  subst r1 r2
  obtain ⟨xs, hxs, rxs, lx⟩ := hr3.own ad _ eh
  have l1 := rxs.length
  have hlim : lim < sizeLine := by decide
  have h24 : lim < 2 ^ 62 := by decide
  obtain ⟨y4, hr4⟩ := lst_chg hr3 eh (((rxs.take k.toNat).append (Reps.one r3)).append (rxs.drop k.toNat)) (by rw [List.length_append, List.length_append, List.length_take, List.length_drop]; show min k.toNat xs.length + 1 + (xs.length - k.toNat) ≤ sizeLine; omega)
  exact ⟨ad, xs, k, v3, rfl, rfl, hxs, by omega, z2, by omega, e.nx τ _ σ _ q4 (((y.trans y2).trans y3).trans y4) hr4 ((((sr.grow y).grow y2).grow y3).grow y4)⟩
theorem m_revI {o : Expr} {o' : Ex} {p2 p3 : Pos} (ho : PE X o (TR g C W' o')) (hb : attributeBase o "reverse" X.env (eval o X.env) = eval o X.env) (hl : (p2.endLine == p3.line) = true) : PS X (.Expr (.Call (.Attribute o "reverse" p2) [] [] p3) pos) (TM1 g C W' (.revI o')) := by
  refine ps_imp (ps_expr (pe_bm0 F.plainAttrs_list F.slot_list_reverse F.type_list_reverse mt_reverse ho hb hl) rfl) ?_
  rintro D σ H ⟨R, τ, h, d, hr, sr, hw, e⟩
  refine tr_mk hr sr (e.px sr) hw fun w h1 v H1 q y hr1 r => ?_
  obtain ⟨ad, ws, ea, eh, q4⟩ := lstAt_of q
  subst ea
  simp only [Rep] at r
  subst r
  obtain ⟨xs, hxs, rxs, lx⟩ := hr1.own ad _ eh
  obtain ⟨y4, hr4⟩ := lst_chg hr1 eh rxs.reverse (by rw [List.length_reverse]; exact lx)
  exact ⟨.inl ⟨rfl, xs, .inl (.inl hxs)⟩, ad, xs, rfl, rfl, hxs, e.nx τ _ σ _ q4 (y.trans y4) hr4 ((sr.grow y).grow y4)⟩
/-! ### fields -/
theorem putF_zip {f : Str} {v : V} : ∀ {xs : List Str} {vs : List V} {k : Nat}, xs.Nodup → xs[k]? = some f → k < vs.length → putF f v (xs.zip vs) = xs.zip (vs.set k v)
  | [], _, _, _, e, _ => by simp at e
  | _ :: _, [], _, _, _, e => by simp at e
  | x :: xs, u :: vs, 0, nd, e1, e2 => by
    simp at e1
    subst e1
    simp [putF]
  | x :: xs, u :: vs, k + 1, nd, e1, e2 => by
    simp at e1 e2
    have hn : x ≠ f := fun z => by
      subst z
      exact (List.nodup_cons.mp nd).1 (List.mem_of_getElem? e1)
    simp only [List.zip_cons_cons, putF, List.set_cons_succ]
    rw [if_neg hn, putF_zip (List.nodup_cons.mp nd).2 e1 e2]
theorem putF_zip_new {f : Str} {v : V} : ∀ {xs : List Str} {vs : List V}, xs.Nodup → xs[vs.length]? = some f → putF f v (xs.zip vs) = xs.zip (vs ++ [v])
  | [], _, _, e => by simp at e
  | x :: xs, [], nd, e => by
    simp at e
    subst e
    simp [putF]
  | x :: xs, u :: vs, nd, e1 => by
    simp at e1
    have hn : x ≠ f := fun z => by
      subst z
      exact (List.nodup_cons.mp nd).1 (List.mem_of_getElem? e1)
    simp only [List.zip_cons_cons, putF, List.cons_append]
    rw [if_neg hn, putF_zip_new (List.nodup_cons.mp nd).2 e1]
theorem flds_le : ∀ c : Cl, (flds c).length ≤ 10
  | .web => by decide +kernel
  | .table => by decide +kernel
  | .lab => by decide +kernel
theorem storeF_of {h : Hw} {cl : Cl} {k : Nat} {o v : W} {P : Hw → Prop} (q : storeF h cl k o v P) : ∃ a ws, o = .loc a ∧ h a = some (.ins cl ws) ∧ ((k < ws.length ∧ P (hset h a (.ins cl (ws.set k v)))) ∨ (k = ws.length ∧ P (hset h a (.ins cl (ws ++ [v]))))) := by
  cases o <;> first | exact False.elim q | skip
  dsimp only [storeF] at q
  split at q
  · rename_i d ws e
    obtain ⟨e1, q⟩ := q
    subst e1
    refine ⟨_, ws, rfl, e, ?_⟩
    split at q
    · rename_i hl
      exact .inl ⟨hl, q⟩
    · exact .inr q
  · exact q.elim
theorem m_setF {o : Expr} {o' : Ex} {cl : Cl} {k : Nat} {f : Str} {p2 : Pos} (hX : Xk g C W' S X) (hc : cl ∈ S.cl) (hf : (flds cl)[k]? = some f) (ho : PE X o (TR g C W' o')) (ha : PE X a (TR g C W' a')) (hs : swapsWith a (some (.Attribute o f p2)) pos.line X.env = pure false) :
    PS X (.Assign [.Attribute o f p2] a pos) (TM1 g C W' (.setF cl k o' a')) := by
  refine ps_imp (ps_fld ho ha hs) ?_
  rintro D σ H ⟨R, τ, h, d, hr, sr, hw, e⟩
  refine tr_mk hr sr (e.px sr) hw fun w h1 v H1 q y hr1 r => ?_
  refine tr_mk hr1 (sr.grow y) ((e.grow y).px (sr.grow y)) q fun w2 h2 v2 H2 q2 y2 hr2 r2 => ?_
  obtain ⟨ad, ws, ea, eh, q3⟩ := storeF_of q2
  subst ea
  simp only [Rep] at r2
  subst r2
  obtain ⟨dx, vs, e1, l, rv⟩ := hr2.own ad _ eh
  have lv := rv.length
  obtain ⟨c, hn⟩ := hX.clf _ hc
  have l10 := flds_le cl
  have lz : ((flds cl).zip vs).length < 1000 := by rw [List.length_zip]; omega
  have r1 := Rep.grow y2 _ _ r
  refine ⟨ad, _, dx, _, rfl, e1, c, hn f (List.mem_of_getElem? hf), lz, ?_⟩
  rcases q3 with ⟨hl, q3⟩ | ⟨hl, q3⟩
  · rw [putF_zip (flds_nd cl) hf (by omega)]
    refine e.nx τ _ σ _ q3 ((y.trans y2).trans (Grow.chg eh)) (hr2.chg eh ⟨dx, vs.set k v, upd_same, by rw [List.length_set]; exact l, Reps.grow (Grow.chg eh) _ _ (rv.set r1 k)⟩) (((sr.grow y).grow y2).grow (Grow.chg eh))
  · have hk : k < (flds cl).length := (List.getElem?_eq_some_iff.mp hf).1
    have e4 : putF f v ((flds cl).zip vs) = (flds cl).zip (vs ++ [v]) := putF_zip_new (flds_nd cl) (by rw [← lv, ← hl]; exact hf)
    show D.nx σ (upd H2 ad (.ins _ dx (putF f v ((flds cl).zip vs))))
    rw [e4]
    refine e.nx τ _ σ _ q3 ((y.trans y2).trans (Grow.chg eh)) (hr2.chg eh ⟨dx, vs ++ [v], upd_same, by rw [List.length_append]; show ws.length + 1 ≤ _; omega, Reps.grow (Grow.chg eh) _ _ (rv.append (Reps.one r1))⟩) (((sr.grow y).grow y2).grow (Grow.chg eh))
/-! ### a list is taken out of the heap -/
theorem m_frz {rest : List Stmt} {i : Nat} {ss : List Sm} (h2 : PSs X rest (TMs g C W' ss)) : PSs X rest (TMs g C W' (.frz i :: ss)) := by
  refine pss_imp h2 ?_
  rintro D σ H ⟨R, τ, h, d, hr, sr, hw, e⟩
  have hw : (match slot τ i with
    | some w => frzW h w fun v h1 => wpSs C ss (put τ i v) h1 d
    | none => False) := hw
  split at hw
  · rename_i z ez
    obtain ⟨v, ev, rv⟩ := sr.2 i z ez
    cases z <;> first | exact False.elim hw | skip
    rename_i ad
    simp only [Rep] at rv
    subst rv
    have es : σ.set i (some (V.ref ad)) = σ := by
      apply List.ext_getElem?
      intro j
      by_cases ej : i = j
      · subst ej
        have hlt := (List.getElem?_eq_some_iff.mp ev).1
        rw [List.getElem?_set_self hlt, ev]
      · rw [List.getElem?_set_ne ej]
    have y : Grow h H (hdel h ad) H := Grow.del
    dsimp only [frzW] at hw
    split at hw
    · rename_i ws eh
      obtain ⟨vs, e1, r2, z⟩ := hr.own _ _ eh
      refine tm_mk hr.del ?_ hw (e.grow y)
      have q := (sr.grow y).put (i := i) (w := .lst ws) (v := .ref ad) (by simp only [Rep]; exact ⟨ad, vs, rfl, ⟨⟨e1, hdel_same⟩, z, hr.noR' eh⟩, Reps.grow y _ _ r2⟩)
      rw [es] at q
      exact q
    · rename_i c ws eh
      obtain ⟨dx, vs, e1, l, r2⟩ := hr.own _ _ eh
      refine tm_mk hr.del ?_ hw (e.grow y)
      have q := (sr.grow y).put (i := i) (w := .obj c ws) (v := .ref ad) (by simp only [Rep]; exact ⟨ad, dx, vs, rfl, hdel_same, e1, l, Reps.grow y _ _ r2⟩)
      rw [es] at q
      exact q
    · exact hw.elim
  · exact hw.elim
/-! ### loops -/
theorem m_whl {c : Expr} {body : List Stmt} {ss : List Sm} (hX : Xk g C W' S X) (hc : PT X c (tB (TR g C W' c'))) (hb : PSs X body (TMs g C W' ss)) : PS X (.While c body [] pos) (TM1 g C W' (.whl c' ss)) := by
  refine ps_imp (ps_while hX.po hc hb) ?_
  rintro D σ H ⟨R, τ, h, d, hr, sr, hw, e⟩
  obtain ⟨I, ⟨m0, i0⟩, turn⟩ := hw
  refine ⟨fun m σ' H' => ∃ τ' h', I m τ' h' ∧ Grow h H h' H' ∧ HRel (g.at R) h' H' ∧ SRel (g.at R) h' H' τ' σ', ⟨m0, τ, h, i0, Grow.refl, hr, sr⟩, ?_⟩
  rintro m σ1 H1 ⟨τ1, h1, i1, y1, hr1, sr1⟩
  have e1 := e.grow y1
  refine tr_mk hr1 sr1 (e1.px sr1) (turn m τ1 h1 i1) fun w h2 v H2 q y2 hr2 r => ?_
  have sr2 := sr1.grow y2
  cases w <;> first | exact False.elim q | skip
  rename_i k
  simp only [Rep] at r
  refine ⟨k, r, ?_⟩
  cases k with
  | true =>
    refine iteT ⟨_, fun _ _ z => z, tm_mk hr2 sr2 q ⟨?_, e1.rt.grow y2, ?_, ?_, ?_⟩⟩
    · rintro τ' h' σ' H' ⟨m', lt, i'⟩ y hr' sr'
      exact ⟨m', lt, τ', h', i', (y1.trans y2).trans y, hr', sr'⟩
    · exact fun τ' h' σ' H' q y hr' sr' => e1.nx τ' h' σ' H' q (y2.trans y) hr' sr'
    · rintro τ' h' σ' H' ⟨m', lt, i'⟩ y hr' sr'
      exact ⟨m', lt, τ', h', i', (y1.trans y2).trans y, hr', sr'⟩
    · exact (e1.grow y2).ex
  | false => exact iteF (e1.nx τ1 h2 σ1 H2 q y2 hr2 sr2)
theorem m_for {tg iter : Expr} {body : List Stmt} {t : Tg} {k : ItK} {es : List Ex} {ss : List Sm} (hX : Xk g C W' S X) (hi : PI X tg iter (TRi g C W' k es)) (hg : PG X tg (TGt g t)) (hb : PSs X body (TMs g C W' ss)) (hs : ∀ x, foldedSetIterable iter X.env x = pure x) :
    PS X (.For tg iter body [] pos) (TM1 g C W' (.for_ t (.itr k es) ss)) := by
  refine ps_imp (ps_for hX.po hX.calm hi hg hb hs) ?_
  rintro D σ H ⟨R, τ, h, d, hr, sr, hw, e⟩
  unfold tFor
  have hw : wpE C (.itr k es) τ h (fun w h1 => match itsOf w with
    | some (items, gd) => forL gd t (fun τ h D => wpSs C ss τ h D) d items τ h1
    | none => False) (d.ex τ) := hw
  refine ⟨R, τ, h, _, _, hr, sr, hw, fun r items gd h1 J H1 q1 eit y1 hr1 hJ => ?_, e.px sr⟩
  rw [eit] at q1
  have q1 : forL gd t (fun τ h D => wpSs C ss τ h D) d items τ h1 := q1
  have sr1 := sr.grow y1
  have e1 := e.grow y1
  refine ⟨fun i m σ2 H2 => m = items.length - i ∧ i ≤ items.length ∧ ∃ τ2 h2, forL gd t (fun τ h D => wpSs C ss τ h D) d (items.drop i) τ2 h2 ∧ Grow h1 H1 h2 H2 ∧ HRel (g.at R) h2 H2 ∧ SRel (g.at R) h2 H2 τ2 σ2, ⟨items.length, by simp, Nat.zero_le _, τ, h1, q1, Grow.refl, hr1, sr1⟩, ?_⟩
  rintro i m σ2 H2 ⟨rfl, hi2, τ2, h2, ln, y2, hr2, sr2⟩
  have gdh : gd h2 := by
    generalize items.drop i = l at ln
    cases l with
    | nil => exact And.left ln
    | cons _ _ => exact And.left ln
  have base := hJ R i h2 H2 gdh (fun w v r => Rep.grow y2 w v r) hr2
  by_cases hlt : i < items.length
  · obtain ⟨w, ew⟩ : ∃ w, items[i]? = some w := ⟨_, List.getElem?_eq_getElem hlt⟩
    obtain ⟨go, yl⟩ := base.1 w ew
    have dr : items.drop i = w :: items.drop (i + 1) := by
      rw [List.drop_eq_getElem_cons hlt]
      rw [List.getElem?_eq_getElem hlt] at ew
      cases ew; rfl
    rw [dr] at ln
    simp only [forL] at ln
    replace ln := And.right ln
    refine .inr ⟨go, _, fun _ _ z => z, fun x H3 yy => ?_⟩
    obtain ⟨y3, hr3, rx⟩ := yl x H3 yy
    generalize eb : bindT t w τ2 = o at ln
    cases o with
    | none => exact ln.elim
    | some τ3 =>
      have e3 := e1.grow (y2.trans y3)
      refine ⟨R, τ2, h2, w, τ3, hr3, sr2.grow y3, rx, eb, fun σ3 s3 _ => tm_mk hr3 s3 ln ⟨?_, e3.rt, ?_, ?_, e3.ex⟩⟩
      · exact fun τ' h' σ' H' q y hr' sr' => ⟨items.length - (i + 1), by omega, rfl, by omega, τ', h', q, (y2.trans y3).trans y, hr', sr'⟩
      · exact fun τ' h' σ' H' q y hr' sr' => e3.nx τ' h' σ' H' q y hr' sr'
      · exact fun τ' h' σ' H' q y hr' sr' => ⟨items.length - (i + 1), by omega, rfl, by omega, τ', h', q, (y2.trans y3).trans y, hr', sr'⟩
  · have ei : i = items.length := by omega
    subst ei
    have e0 : items.drop items.length = [] := List.drop_length
    rw [e0] at ln
    exact .inl ⟨base.2 rfl, e1.nx τ2 h2 σ2 H2 (And.right ln) y2 hr2 sr2⟩
/-! ### several targets -/
theorem m_par2 {i j : Nat} {x y : Str} {a b : Expr} {es : List Ex} {px py pt pt2 : Pos} {kt k2 : Nat} (hX : Xk g C W' S X) (hi : X.N[i]? = some x) (hj : X.N[j]? = some y) (hij : i ≠ j) (hx : X.env.scope.names.lookup x = some .local) (hy : X.env.scope.names.lookup y = some .local)
    (ha : PA X [a, b] (TRs g C W' es)) (hw : swappedStores [.Tuple [.Name x px, .Name y py] kt pt] (.Tuple [a, b] k2 pt2) X.env = pure (some [x, y])) : PS X (.Assign [.Tuple [.Name x px, .Name y py] kt pt] (.Tuple [a, b] k2 pt2) pos) (TM1 g C W' (.par [i, j] es)) := by
  refine ps_imp (ps_par hX.calm (by rw [hX.n]; exact hX.nd) hi hj hij hx hy ha hw rfl) ?_
  rintro D σ H ⟨R, τ, h, d, hr, sr, hw, e⟩
  refine trs_mk hr sr (e.px sr) hw fun ws h1 vs H1 q y1 hr1 r => ?_
  obtain ⟨hl, q⟩ := q
  match ws, hl with
  | [w1, w2], _ =>
    obtain ⟨v1, v2, ev, r1, r2⟩ := reps2 r
    exact ⟨v1, v2, ev, e.nx _ h1 _ H1 q y1 hr1 (((sr.grow y1).put r1).put r2)⟩
theorem reps3 {h : Hw} {H : Hp} {w1 w2 w3 : W} {vs : List V} (r : Reps g h H [w1, w2, w3] vs) : ∃ v1 v2 v3, vs = [v1, v2, v3] ∧ Rep g h H w1 v1 ∧ Rep g h H w2 v2 ∧ Rep g h H w3 v3 := by
  simp only [Reps] at r
  obtain ⟨v1, vs', e, r1, v2, vs2, e2, r2, v3, vs3, e3, r3, e4⟩ := r
  subst e e2 e3 e4
  exact ⟨v1, v2, v3, rfl, r1, r2, r3⟩
theorem m_par3 {i j l : Nat} {x y z : Str} {a b c : Expr} {es : List Ex} {px py pz pt pt2 : Pos} {kt k2 : Nat} (hX : Xk g C W' S X) (hi : X.N[i]? = some x) (hj : X.N[j]? = some y) (hk : X.N[l]? = some z) (hij : i ≠ j) (hil : i ≠ l) (hjl : j ≠ l)
    (hx : X.env.scope.names.lookup x = some .local) (hy : X.env.scope.names.lookup y = some .local) (hz : X.env.scope.names.lookup z = some .local) (ha : PA X [a, b, c] (TRs g C W' es))
    (hw : swappedStores [.Tuple [.Name x px, .Name y py, .Name z pz] kt pt] (.Tuple [a, b, c] k2 pt2) X.env = pure (some [x, y, z])) : PS X (.Assign [.Tuple [.Name x px, .Name y py, .Name z pz] kt pt] (.Tuple [a, b, c] k2 pt2) pos) (TM1 g C W' (.par [i, j, l] es)) := by
  refine ps_imp (ps_par3 hX.calm (by rw [hX.n]; exact hX.nd) hi hj hk hij hil hjl hx hy hz ha hw rfl) ?_
  rintro D σ H ⟨R, τ, h, d, hr, sr, hw, e⟩
  refine trs_mk hr sr (e.px sr) hw fun ws h1 vs H1 q y1 hr1 r => ?_
  obtain ⟨hl, q⟩ := q
  match ws, hl with
  | [w1, w2, w3], _ =>
    obtain ⟨v1, v2, v3, ev, r1, r2, r3⟩ := reps3 r
    exact ⟨v1, v2, v3, ev, e.nx _ h1 _ H1 q y1 hr1 ((((sr.grow y1).put r1).put r2).put r3)⟩
theorem bindTs_puts : ∀ {is : List Nat} {ws : List W} {τ : En}, ws.length = is.length → bindTs (is.map .nm) ws τ = some (puts τ is ws)
  | [], [], _, _ => rfl
  | i :: is, w :: ws, τ, h => by
    simp only [List.map_cons, bindTs, bindT, Option.bind_some, puts]
    exact bindTs_puts (by simpa using h)
/-- names and a tuple display whose stores are not swapped -/
theorem m_parT {es vs : List Expr} {es' : List Ex} {kk n k2 : Nat} {p2 p3 : Pos} {is : List Nat} (hX : Xk g C W' S X) (hp : PGs X es (TGss g (is.map .nm))) (hn : (assignEach es X.env).length = n) (hl : is.length = n) (hle : is.length ≤ 1000) (hst : (assignEach es X.env).findIdx? (·.1) = none)
    (ha : PA X vs (TRs g C W' es')) (hw : swappedStores [.Tuple es kk p2] (.Tuple vs k2 p3) X.env = pure none) : PS X (.Assign [.Tuple es kk p2] (.Tuple vs k2 p3) pos) (TM1 g C W' (.par is es')) := by
  refine ps_imp (ps_asg (pe_tup ha) (g_tp hX.k hX.calm hp hn (by rw [List.length_map]; exact hl) hst) rfl hw rfl) ?_
  rintro D σ H ⟨R, τ, h, d, hr, sr, hw, e⟩
  refine trs_mk hr sr (e.px sr) hw fun ws h1 vs H1 q y hr1 r => ?_
  obtain ⟨hl2, q⟩ := q
  have l := r.length
  have z : vs.length ≤ sizeLine := le1000 (by omega)
  refine ⟨z, fun p hp => ⟨R, τ, h1, .tup ws, puts τ is ws, hr1.new hp, (sr.grow y).grow (Grow.new hp), rep_tup hr1 hp r z, by simp only [bindT]; exact bindTs_puts hl2, fun σ2 s2 _ => e.nx _ h1 σ2 _ q (y.trans (Grow.new hp)) (hr1.new hp) s2⟩⟩
end
end Ri
end
section
set_option Elab.async false
set_option linter.all false
set_option maxRecDepth 100000
set_option maxHeartbeats 4000000
/-! Ri, part 12: comprehensions of two fors, comprehensions stored on one line, pairs of stores. -/
namespace Ri
open PySem PySem.W L2
section
variable {g : Gd} {C : Calls} {W' : WX} {S : Sx} {X : Cx} {a b c : Expr} {a' b' c' : Ex} {pos : Pos}
theorem wp_lcm2 {C : Calls} {tg1 tg2 : Tg} {own own2 : List Nat} {src1 src2 elt : Ex} {τ : En} {h : Hw} {P : KW} {E : XW} : wpE C (.lcm2 tg1 own src1 tg2 own2 src2 elt) τ h P E = wpE C src1 τ h (fun s h1 => match itsOf s with
    | some (items, gd) => lcL2 gd tg1 (clrs τ own) (fun τ2 h2 acc K => wpE C src2 τ2 h2 (fun s2 h3 => match itsOf s2 with
      | some (items2, gd2) => items2.length ≤ lim ∧ lcL gd2 tg2 (clrs τ2 own2) (fun _ h4 K => K (.bl true) h4) (fun τ3 h4 K => wpE C elt τ3 h4 K fun _ _ _ => False) items2 acc h3 K
      | none => False) fun _ _ _ => False) items [] h1 fun ws h2 => P (.lst ws) h2
    | none => False) E := rfl
theorem t_lcm2F {own own2 : List Nat} {k k2 : ItK} {es es2 : List Ex} {t t2 : Tg} {e' : Ex} (hsl : ∀ i ∈ slotsT t, i ∈ own) (hsl2 : ∀ i ∈ slotsT t2, i ∈ own2) : ∀ (σ : L2.St) (H : Hp) (Q : VK), TF g C W' (.lcm2 t own (.itr k es) t2 own2 (.itr k2 es2) e') σ H Q →
    tLc2 (TRi g C W' k es) (TGt g t) tYes (TRi g C WF k2 es2) (TGt g t2) tYes (TR g C WF e') own own2 σ H Q := by
  rintro σ H Q ⟨R, τ, h, P, E, hr, sr, hw, post, hx⟩
  rw [wp_lcm2] at hw
  refine ⟨R, τ, h, _, E, hr, sr, hw, fun r items gd h1 J H1 q1 eit g1 hr1 hJ => ?_, hx⟩
  rw [eit] at q1
  intro D hD
  obtain ⟨hrD, cv⟩ := hr1.begin (l := []) hD
  have nR : ¬ R D := hr1.noR hD
  have s0 : SRel (g.at (orD R D)) h1 (upd H1 D (.lst [])) (clrs τ own) (wipe σ own) := SRel.map cv ((sr.grow g1).clrs own)
  have hRD : (g.at (orD R D)).R D := .inr rfl
  let Pf : List W → Hw → Prop := fun ws h2 => P (.lst ws) h2
  let el : En → Hw → KW → Prop := fun τ3 h4 K => wpE C e' τ3 h4 K fun _ _ _ => False
  let tr : En → Hw → KW → Prop := fun _ h4 K => K (.bl true) h4
  let inn : En → Hw → List W → (List W → Hw → Prop) → Prop := fun τ2 h2 acc K => wpE C (.itr k2 es2) τ2 h2 (fun s2 h3 => match itsOf s2 with
      | some (items2, gd2) => items2.length ≤ lim ∧ lcL gd2 t2 (clrs τ2 own2) tr el items2 acc h3 K
      | none => False) fun _ _ _ => False
  let Ln : List W → List W → Hw → Prop := fun its acc h2 => lcL2 gd t (clrs τ own) inn its acc h2 Pf
  -- what holds between the turns, but for what is still to be done
  let Ev : List W → List V → Hw → Hp → Prop := fun acc vacc h2 H2 => H2 D = some (.lst vacc) ∧ HRel (g.at (orD R D)) h2 H2 ∧ Reps (g.at (orD R D)) h2 H2 acc vacc ∧ Grow h1 H1 h2 H2 ∧
    (∀ w v, Rep (g.at R) h1 H1 w v → Rep (g.at (orD R D)) h2 H2 w v) ∧ SRel (g.at (orD R D)) h2 H2 (clrs τ own) (wipe σ own)
  have evG : ∀ {acc vacc h2 H2 h3 H3}, Ev acc vacc h2 H2 → Grow h2 H2 h3 H3 → HRel (g.at (orD R D)) h3 H3 → Ev acc vacc h3 H3 := fun {acc vacc h2 H2 h3 H3} ⟨e1, e2, e3, e4, e5, e6⟩ y hr3 =>
    ⟨(y D _ e1 (e2.rsv D hRD).1).1, hr3, Reps.grow y _ _ e3, e4.trans y, fun w v q => Rep.grow y _ _ (e5 w v q), e6.grow y⟩
  let St : Nat → Hp → Prop := fun i H2 => ∃ acc vacc h2, Ln (items.drop i) acc h2 ∧ acc.length ≤ lim ∧ Ev acc vacc h2 H2
  refine ⟨fun i m H2 => m = items.length - i ∧ i ≤ items.length ∧ St i H2, ⟨items.length, by simp, Nat.zero_le _, [], [], h1, q1, Nat.zero_le _, upd_same, hrD, by simp only [Reps], Grow.new hD, cv, s0⟩, ?_⟩
  rintro i m H2 ⟨rfl, hi2, acc, vacc, h2, ln, hacc, ev⟩
  obtain ⟨hD2, hr2, ra, g2, cv2, s2⟩ := id ev
  have gdh : gd h2 := by
    generalize items.drop i = l at ln
    cases l with
    | nil => exact And.left ln
    | cons _ _ => exact And.left ln
  have base := hJ (orD R D) i h2 H2 gdh cv2 hr2
  by_cases hlt : i < items.length
  · obtain ⟨w, ew⟩ : ∃ w, items[i]? = some w := ⟨_, List.getElem?_eq_getElem hlt⟩
    obtain ⟨go, yl⟩ := base.1 w ew
    refine .inr ⟨go, St (i + 1), fun H' st => ⟨items.length - (i + 1), by omega, rfl, by omega, st⟩, fun x H3 y => ?_⟩
    obtain ⟨g3, hr3, rx⟩ := yl x H3 y
    have dr : items.drop i = w :: items.drop (i + 1) := by
      rw [List.drop_eq_getElem_cons hlt]
      rw [List.getElem?_eq_getElem hlt] at ew
      cases ew; rfl
    have ln' : Ln (w :: items.drop (i + 1)) acc h2 := dr ▸ ln
    have ln2 : (match bindT t w (clrs τ own) with
      | some τ2 => inn τ2 h2 acc fun acc2 h2 => acc2.length ≤ lim ∧ Ln (items.drop (i + 1)) acc2 h2
      | none => False) := And.right ln'
    have ev3 := evG ev g3 hr3
    split at ln2
    · rename_i τ2 eb
      refine ⟨orD R D, clrs τ own, h2, w, τ2, hr3, s2.grow g3, rx, eb, fun σ2 sσ off => ⟨?_, ?_⟩⟩
      · exact wipe_off off hsl
      unfold tYes
      try dsimp only
      first | rw [if_pos rfl] | skip
      refine ⟨orD R D, τ2, h2, _, fun _ _ _ => False, hr3, sσ, ln2, fun r2 items2 gd2 h4 J1 H4 q4 eit2 g4 hr4 hJ1 => ?_, fun _ _ _ _ _ _ z => False.elim z⟩
      rw [eit2] at q4
      obtain ⟨hlim, q4⟩ := q4
      have ev4 := evG ev3 g4 hr4
      have s4 : SRel (g.at (orD R D)) h4 H4 (clrs τ2 own2) (wipe σ2 own2) := (sσ.grow g4).clrs own2
      let St1 : Nat → Hp → Prop := fun j H5 => ∃ acc vacc h5, lcL gd2 t2 (clrs τ2 own2) tr el (items2.drop j) acc h5 (fun acc2 h2 => acc2.length ≤ lim ∧ Ln (items.drop (i + 1)) acc2 h2) ∧ acc.length ≤ lim + j ∧ Ev acc vacc h5 H5 ∧
        (∀ w v, Rep (g.at (orD R D)) h4 H4 w v → Rep (g.at (orD R D)) h5 H5 w v) ∧ SRel (g.at (orD R D)) h5 H5 (clrs τ2 own2) (wipe σ2 own2)
      refine ⟨fun j n H5 => n = items2.length - j ∧ j ≤ items2.length ∧ St1 j H5, ⟨items2.length, by simp, Nat.zero_le _, acc, vacc, h4, q4, by omega, ev4, fun _ _ r => r, s4⟩, ?_⟩
      rintro j n H5 ⟨rfl, hj2, acc, vacc, h5, lj, hacc5, ev5, cv5, s5⟩
      obtain ⟨hD5, hr5, ra5, g5, cw5, t5⟩ := id ev5
      have gdh5 : gd2 h5 := by
        generalize items2.drop j = l at lj
        cases l with
        | nil => exact And.left lj
        | cons _ _ => exact And.left lj
      have base1 := hJ1 (orD R D) j h5 H5 gdh5 cv5 hr5
      by_cases hjt : j < items2.length
      · obtain ⟨w2, ew2⟩ : ∃ w, items2[j]? = some w := ⟨_, List.getElem?_eq_getElem hjt⟩
        obtain ⟨go1, yl1⟩ := base1.1 w2 ew2
        refine .inr ⟨go1, St1 (j + 1), fun H' st => ⟨items2.length - (j + 1), by omega, rfl, by omega, st⟩, fun x2 H6 y2 => ?_⟩
        obtain ⟨g6, hr6, rx2⟩ := yl1 x2 H6 y2
        have dr2 : items2.drop j = w2 :: items2.drop (j + 1) := by
          rw [List.drop_eq_getElem_cons hjt]
          rw [List.getElem?_eq_getElem hjt] at ew2
          cases ew2; rfl
        rw [dr2] at lj
        have lj2 : (match bindT t2 w2 (clrs τ2 own2) with
          | some τ3 => el τ3 h5 fun y h2 => lcL gd2 t2 (clrs τ2 own2) tr el (items2.drop (j + 1)) (acc ++ [y]) h2 (fun acc2 h2 => acc2.length ≤ lim ∧ Ln (items.drop (i + 1)) acc2 h2)
          | none => False) := And.right lj
        split at lj2
        · rename_i τ3 eb2
          refine ⟨orD R D, clrs τ2 own2, h5, w2, τ3, hr6, s5.grow g6, rx2, eb2, fun σ3 sσ3 off3 => ⟨wipe_off off3 hsl2, ?_⟩⟩
          try dsimp only
          first | rw [if_pos rfl] | skip
          refine ⟨orD R D, τ3, h5, _, fun _ _ _ => False, hr6, sσ3, lj2, fun y h7 yv H7 qy g7 hr7 ry => ?_, fun _ _ _ _ _ _ z => False.elim z⟩
          have ev7 := evG (evG ev5 g6 hr6) g7 hr7
          obtain ⟨hD7, _, rA, g7', cw7, t7⟩ := ev7
          have la := rA.length
          have hl : vacc.length < sizeLine := by
            have l2 : lim + lim < sizeLine := by decide
            omega
          obtain ⟨hr8, cv8⟩ := hr7.more (l' := vacc ++ [yv]) hRD hD7
          have off7 : ∀ (ws : List W) (vs : List V), Reps (g.at (orD R D)) h7 H7 ws vs → Reps (g.at (orD R D)) h7 (upd H7 D (.lst (vacc ++ [yv]))) ws vs := Reps.off hRD hD7 fun a ne => upd_ne ne
          refine ⟨vacc, hD7, hl, acc ++ [y], vacc ++ [yv], h7, qy, by simp; omega, ⟨upd_same, hr8, (off7 _ _ rA).append (Reps.one (cv8 _ _ ry)), fun a o e n => ?_, fun w v q => cv8 _ _ (cw7 w v q), SRel.map cv8 t7⟩, fun w v q => ?_, ?_⟩
          · obtain ⟨e5, n5⟩ := g7' a o e n
            exact ⟨by rw [upd_ne (ne_of_none e hD)]; exact e5, n5⟩
          · exact cv8 _ _ (Rep.grow (g6.trans g7) _ _ (cv5 w v q))
          · exact SRel.map cv8 (s5.grow (g6.trans g7))
        · exact lj2.elim
      · have ei : j = items2.length := by omega
        subst ei
        have e0 : items2.drop items2.length = [] := List.drop_length
        rw [e0] at lj
        have lj : acc.length ≤ lim ∧ Ln (items.drop (i + 1)) acc h5 := And.right lj
        exact .inl ⟨base1.2 rfl, acc, vacc, h5, lj.2, lj.1, ev5⟩
    · exact ln2.elim
  · have ei : i = items.length := by omega
    subst ei
    refine .inl ⟨base.2 rfl, ?_⟩
    have ln' : Pf acc h2 := by
      have e : items.drop items.length = [] := List.drop_length
      have z : Ln [] acc h2 := e ▸ ln
      exact And.right z
    obtain ⟨hrE, cvE⟩ := hr2.done nR hD2
    have la := ra.length
    have gE : Grow h H h2 (hpDel H2 D) := fun a o e n => by
      obtain ⟨e1, n1⟩ := g1 a o e n
      obtain ⟨e2, n2⟩ := g2 a o e1 n1
      exact ⟨by rw [hpDel_ne (ne_of_none e1 hD)]; exact e2, n2⟩
    have rE : Reps (g.at R) h2 (hpDel H2 D) acc vacc := by
      have gen : ∀ (ws : List W) (vs : List V), Reps (g.at (orD R D)) h2 H2 ws vs → Reps (g.at R) h2 (hpDel H2 D) ws vs := by
        intro ws
        induction ws with
        | nil => intro vs r; simpa only [Reps] using r
        | cons w ws ih =>
          intro vs r
          simp only [Reps] at r ⊢
          obtain ⟨v, vs', e1, r1, r2⟩ := r
          exact ⟨v, vs', e1, cvE _ _ r1, ih _ r2⟩
      exact gen _ _ ra
    have key := post.1 acc h2 ln' vacc D (hpDel H2 D) gE hrE hpDel_same rE (by
      have l2 : lim < sizeLine := by decide
      omega)
    rw [hpDel_upd hD2] at key
    exact key
theorem s_lcm2F (hX : Xk g C W' S X) {elt tg iter tg1 iter1 : Expr} {scope : Scope} {own : List (Str × Nat)} {own2 : List Nat} {k k2 : ItK} {es es2 : List Ex} {t t2 : Tg} {e' : Ex} (hi : PI X tg iter (TRi g C W' k es)) (ok : BlkOk X.N X.env.scope scope own) (hv : ∀ i ∈ own2, i ∈ own.map (·.2))
    (hg : ∀ (s : Shared) (H : Hp) (A : Addr) (cl : List (Str × Addr)) (fp : List Addr), PG (X.blk s H scope (compEnvC scope cl A X.env) fp) tg (TGt g t))
    (hi1 : ∀ (s : Shared) (H : Hp) (A : Addr) (cl : List (Str × Addr)) (fp : List Addr), PI (X.blk s H scope (compEnvC scope cl A X.env) fp) tg1 iter1 (TRi g C WF k2 es2))
    (hg1 : ∀ (s : Shared) (H : Hp) (A : Addr) (cl : List (Str × Addr)) (fp : List Addr), PG (X.blk s H scope (compEnvC scope cl A X.env) fp) tg1 (TGt g t2))
    (he : ∀ (s : Shared) (H : Hp) (A : Addr) (cl : List (Str × Addr)) (fp : List Addr), PE (X.blk s H scope (compEnvC scope cl A X.env) fp) elt (TR g C WF e')) (hs : ∀ x, foldedSetIterable iter X.env x = pure x) (hs1 : ∀ env x, foldedSetIterable iter1 env x = pure x) (hsl : ∀ i ∈ slotsT t, i ∈ own.map (·.2)) (hsl2 : ∀ i ∈ slotsT t2, i ∈ own2) :
    PE X (.ListComp elt [⟨tg, iter, [], 0⟩, ⟨tg1, iter1, [], 0⟩] scope pos) (TF g C W' (.lcm2 t (own.map (·.2)) (.itr k es) t2 own2 (.itr k2 es2) e')) :=
  pe_imp (pe_lc2 hX.calm (by rw [hX.n]; exact hX.nd) hi ok hv hg (fun _ _ _ _ _ => pts_nil) hi1 hg1 (fun _ _ _ _ _ => pts_nil) he hs hs1) (t_lcm2F hsl hsl2)
/-- a name gets what a comprehension makes -/
theorem m_setT {st : Stmt} {i : Nat} {t : TE} (hp : PS X st (tAsg t (gName i))) (ht : ∀ σ H Q, TR g C W' a' σ H Q → t σ H Q) : PS X st (TM1 g C W' (.set i a')) := by
  refine ps_imp hp ?_
  rintro D σ H ⟨R, τ, h, d, hr, sr, hw, e⟩
  exact ht _ _ _ (tr_mk hr sr (e.px sr) hw fun w h1 v H1 q y hr1 r => e.nx _ h1 _ H1 q y hr1 ((sr.grow y).put r))
theorem q_lcm {i : Nat} {y : Str} {py : Pos} {elt tg iter : Expr} {ifs : List Expr} {scope : Scope} {own : List (Str × Nat)} {spos : Pos} {k : ItK} {es : List Ex} {t : Tg} {c' e' : Ex} (hX : Xk g C W' S X) (hy : X.N[i]? = some y) (hyl : X.env.scope.names.lookup y = some .local)
    (hsw : swapsWith (.ListComp elt [⟨tg, iter, ifs, 0⟩] scope pos) (some (.Name y py)) spos.line X.env = pure true) (hi : PI X tg iter (TRi g C W' k es)) (ok : BlkOk X.N X.env.scope scope own)
    (hg : ∀ (s : Shared) (H : Hp) (A : Addr) (cl : List (Str × Addr)) (fp : List Addr), PG (X.blk s H scope (compEnvC scope cl A X.env) fp) tg (TGt g t))
    (ht : ∀ (s : Shared) (H : Hp) (A : Addr) (cl : List (Str × Addr)) (fp : List Addr), PTs (X.blk s H scope (compEnvC scope cl A X.env) fp) ifs (tB (TR g C WF c')))
    (he : ∀ (s : Shared) (H : Hp) (A : Addr) (cl : List (Str × Addr)) (fp : List Addr), PE (X.blk s H scope (compEnvC scope cl A X.env) fp) elt (TR g C WF e')) (hs : ∀ x, foldedSetIterable iter X.env x = pure x) (hsl : ∀ i ∈ slotsT t, i ∈ own.map (·.2)) :
    PS X (.Assign [.Name y py] (.ListComp elt [⟨tg, iter, ifs, 0⟩] scope pos) spos) (tAsg (TF g C W' (.lcm t (own.map (·.2)) (.itr k es) c' e')) (gName i)) :=
  ps_imp (ps_setLc hX.calm (by rw [hX.n]; exact hX.nd) hy hyl hsw hi ok hg ht he hs) fun D σ H q => t_lcmF hsl _ _ _ q
theorem q_lcm2 {i : Nat} {y : Str} {py : Pos} {elt tg iter tg1 iter1 : Expr} {scope : Scope} {own : List (Str × Nat)} {own2 : List Nat} {spos : Pos} {k k2 : ItK} {es es2 : List Ex} {t t2 : Tg} {e' : Ex} (hX : Xk g C W' S X) (hy : X.N[i]? = some y) (hyl : X.env.scope.names.lookup y = some .local)
    (hsw : swapsWith (.ListComp elt [⟨tg, iter, [], 0⟩, ⟨tg1, iter1, [], 0⟩] scope pos) (some (.Name y py)) spos.line X.env = pure true) (hi : PI X tg iter (TRi g C W' k es)) (ok : BlkOk X.N X.env.scope scope own) (hv : ∀ i ∈ own2, i ∈ own.map (·.2))
    (hg : ∀ (s : Shared) (H : Hp) (A : Addr) (cl : List (Str × Addr)) (fp : List Addr), PG (X.blk s H scope (compEnvC scope cl A X.env) fp) tg (TGt g t))
    (hi1 : ∀ (s : Shared) (H : Hp) (A : Addr) (cl : List (Str × Addr)) (fp : List Addr), PI (X.blk s H scope (compEnvC scope cl A X.env) fp) tg1 iter1 (TRi g C WF k2 es2))
    (hg1 : ∀ (s : Shared) (H : Hp) (A : Addr) (cl : List (Str × Addr)) (fp : List Addr), PG (X.blk s H scope (compEnvC scope cl A X.env) fp) tg1 (TGt g t2))
    (he : ∀ (s : Shared) (H : Hp) (A : Addr) (cl : List (Str × Addr)) (fp : List Addr), PE (X.blk s H scope (compEnvC scope cl A X.env) fp) elt (TR g C WF e')) (hs : ∀ x, foldedSetIterable iter X.env x = pure x) (hs1 : ∀ env x, foldedSetIterable iter1 env x = pure x) (hsl : ∀ i ∈ slotsT t, i ∈ own.map (·.2)) (hsl2 : ∀ i ∈ slotsT t2, i ∈ own2) :
    PS X (.Assign [.Name y py] (.ListComp elt [⟨tg, iter, [], 0⟩, ⟨tg1, iter1, [], 0⟩] scope pos) spos) (tAsg (TF g C W' (.lcm2 t (own.map (·.2)) (.itr k es) t2 own2 (.itr k2 es2) e')) (gName i)) :=
  ps_imp (ps_setLc2 hX.calm (by rw [hX.n]; exact hX.nd) hy hyl hsw hi ok hv hg (fun _ _ _ _ _ => pts_nil) hi1 hg1 (fun _ _ _ _ _ => pts_nil) he hs hs1) fun D σ H q => t_lcm2F hsl hsl2 _ _ _ q

/-! ### two stores -/
theorem gSub_ok {R : Addr → Prop} {τ : En} {h : Hw} {H : Hp} {σ : L2.St} {o' i' : Ex} {w : W} {v : V} {P : Hw → Prop} {E : XW} {Q : L2.St → Hp → Prop} (hr : HRel (g.at R) h H) (sr : SRel (g.at R) h H τ σ) (hx : PostX (g.at R) h H E fun cls d H' => W' cls d σ H') (r : Rep (g.at R) h H w v)
    (hw : wpE C o' τ h (fun x h3 => wpE C i' τ h3 (fun y h4 => setW h4 x y w P) E) E) (k : ∀ h' H', P h' → Grow h H h' H' → HRel (g.at R) h' H' → Q σ H') : gSub (TR g C W' o') (TR g C W' i') rSetL v σ H Q := by
  refine tr_mk hr sr hx hw fun w2 h2 v2 H2 q2 y2 hr2 r2 => ?_
  refine tr_mk hr2 (sr.grow y2) (hx.grow y2) q2 fun w3 h3 v3 H3 q3 y3 hr3 r3 => ?_
  obtain ⟨ad, ws, kk, j, e1, e2, e3, e4, q4⟩ := setW_of q3
  subst e1 e2
  have r2' := Rep.grow y3 _ _ r2
  simp only [Rep] at r2' r3
  subst r2' r3
  exact set_rel hr3 e3 e4 (Rep.grow y3 _ _ (Rep.grow y2 _ _ r)) fun H' y4 hr4 => k _ H' q4 ((y2.trans y3).trans y4) hr4
theorem m_setII {o1 i1 o2 i2 e1 e2 : Expr} {o1' i1' o2' i2' e1' e2' : Ex} {kk k2 : Nat} {p1 p2 p3 p4 : Pos} (hX : Xk g C W' S X) (ho1 : PE X o1 (TR g C W' o1')) (hi1 : PE X i1 (TR g C W' i1')) (ho2 : PE X o2 (TR g C W' o2')) (hi2 : PE X i2 (TR g C W' i2')) (hn1 : notSlice i1 = true) (hn2 : notSlice i2 = true)
    (h1 : PE X e1 (TR g C W' e1')) (h2 : PE X e2 (TR g C W' e2')) (s1 : starEach [e1, e2] X.env = (false, eval e1 X.env) :: starEach [e2] X.env) (s2 : starEach [e2] X.env = [(false, eval e2 X.env)]) (hw : swappedStores [.Tuple [.Subscript o1 i1 p1, .Subscript o2 i2 p2] kk p3] (.Tuple [e1, e2] k2 p4) X.env = pure none) :
    PS X (.Assign [.Tuple [.Subscript o1 i1 p1, .Subscript o2 i2 p2] kk p3] (.Tuple [e1, e2] k2 p4) pos) (TM1 g C W' (.setII o1' i1' o2' i2' e1' e2')) := by
  refine ps_imp (ps_asg (pe_tup (pa_cons h1 (pa_cons h2 pa_nil s2) s1)) (pg_tup hX.calm (pgs_cons (pg_sub ho1 hi1 set_list fun v => plainSub hn1 v) (pgs_cons (pg_sub ho2 hi2 set_list fun v => plainSub hn2 v) pgs_nil rfl) rfl) rfl rfl) rfl hw rfl) ?_
  rintro D σ H ⟨R, τ, h, d, hr, sr, hw, e⟩
  refine tr_mk hr sr (e.px sr) hw fun w1 h1 v1 H1 q1 y1 hr1 r1 => ?_
  refine tr_mk hr1 (sr.grow y1) ((e.grow y1).px (sr.grow y1)) q1 fun w2 h2 v2 H2 q2 y2 hr2 r2 => ?_
  refine ⟨(show 2 ≤ sizeLine by decide), fun p hp => ?_⟩
  have y3 : Grow h2 H2 h2 (upd H2 p (.tup [v1, v2])) := Grow.new hp
  have hr3 := hr2.new (u := .tup [v1, v2]) hp
  have yy := (y1.trans y2).trans y3
  refine ⟨p, [v1, v2], rfl, .inl (.inl upd_same), rfl, v1, [v2], rfl, ?_⟩
  refine gSub_ok hr3 (sr.grow yy) ((e.grow yy).px (sr.grow yy)) (Rep.grow y3 _ _ (Rep.grow y2 _ _ r1)) q2 fun h4 H4 q4 y4 hr4 => ?_
  refine ⟨v2, [], rfl, gSub_ok hr4 ((sr.grow yy).grow y4) (((e.grow yy).grow y4).px ((sr.grow yy).grow y4)) (Rep.grow y4 _ _ (Rep.grow y3 _ _ r2)) q4 fun h5 H5 q5 y5 hr5 => ⟨rfl, e.nx τ h5 σ H5 q5 ((yy.trans y4).trans y5) hr5 (((sr.grow yy).grow y4).grow y5)⟩⟩
theorem m_setIN {o1 i1 e1 e2 : Expr} {o1' i1' e1' e2' : Ex} {n : Nat} {x : Str} {kk k2 : Nat} {p1 p2 p3 p4 : Pos} (hX : Xk g C W' S X) (ho1 : PE X o1 (TR g C W' o1')) (hi1 : PE X i1 (TR g C W' i1')) (hn1 : notSlice i1 = true) (hi : X.N[n]? = some x) (hx : Loc X.env.scope x) (hf : X.fn x = true ∨ X.env.scope.names.lookup x = some .local)
    (h1 : PE X e1 (TR g C W' e1')) (h2 : PE X e2 (TR g C W' e2')) (s1 : starEach [e1, e2] X.env = (false, eval e1 X.env) :: starEach [e2] X.env) (s2 : starEach [e2] X.env = [(false, eval e2 X.env)]) (hw : swappedStores [.Tuple [.Subscript o1 i1 p1, .Name x p2] kk p3] (.Tuple [e1, e2] k2 p4) X.env = pure none) :
    PS X (.Assign [.Tuple [.Subscript o1 i1 p1, .Name x p2] kk p3] (.Tuple [e1, e2] k2 p4) pos) (TM1 g C W' (.setIN o1' i1' n e1' e2')) := by
  refine ps_imp (ps_asg (pe_tup (pa_cons h1 (pa_cons h2 pa_nil s2) s1)) (pg_tup hX.calm (pgs_cons (pg_sub ho1 hi1 set_list fun v => plainSub hn1 v) (pgs_cons (pg_name (by rw [hX.n]; exact hX.nd) hi hx hf) pgs_nil rfl) rfl) rfl rfl) rfl hw rfl) ?_
  rintro D σ H ⟨R, τ, h, d, hr, sr, hw, e⟩
  refine tr_mk hr sr (e.px sr) hw fun w1 h1 v1 H1 q1 y1 hr1 r1 => ?_
  refine tr_mk hr1 (sr.grow y1) ((e.grow y1).px (sr.grow y1)) q1 fun w2 h2 v2 H2 q2 y2 hr2 r2 => ?_
  refine ⟨(show 2 ≤ sizeLine by decide), fun p hp => ?_⟩
  have y3 : Grow h2 H2 h2 (upd H2 p (.tup [v1, v2])) := Grow.new hp
  have hr3 := hr2.new (u := .tup [v1, v2]) hp
  have yy := (y1.trans y2).trans y3
  refine ⟨p, [v1, v2], rfl, .inl (.inl upd_same), rfl, v1, [v2], rfl, ?_⟩
  refine gSub_ok hr3 (sr.grow yy) ((e.grow yy).px (sr.grow yy)) (Rep.grow y3 _ _ (Rep.grow y2 _ _ r1)) q2 fun h4 H4 q4 y4 hr4 => ?_
  exact ⟨v2, [], rfl, rfl, e.nx _ h4 _ H4 q4 (yy.trans y4) hr4 (((sr.grow yy).grow y4).put (Rep.grow y4 _ _ (Rep.grow y3 _ _ r2)))⟩

/-! ### list(range(n)) -/
theorem rng_reps {h : Hw} {H : Hp} (a b : Int) : Reps g h H (rngW a b) (rgV a b) := by
  unfold rngW rgV
  generalize List.range (b - a).toNat = l
  induction l with
  | nil => simp only [List.map_nil, Reps]
  | cons x l ih =>
    simp only [List.map_cons, Reps]
    exact ⟨_, _, rfl, rep_int, ih⟩
theorem s_listR1F (hX : Xk g C W' S X) {p p2 : Pos} (hg : Gl X "list") (hm : "list" ∈ S.free) (hg2 : Gl X "range") (hm2 : "range" ∈ S.free) (ha : PE X a (TR g C W' a')) (na : starEach [a] X.env = (false, eval a X.env) :: starEach [] X.env) {pc : Pos}
    (nb : starEach [.Call (.Name "range" p2) [a] [] pc] X.env = (false, eval (.Call (.Name "range" p2) [a] [] pc) X.env) :: starEach [] X.env) : PE X (.Call (.Name "list" p) [.Call (.Name "range" p2) [a] [] pc] [] pos) (TF g C W' (.blt .listR1 [a'])) := by
  refine pe_imp (pe_listRg hX.calm hg (hX.fr _ hm) (prg_1 hg2 (hX.fr _ hm2) ha na) nb) ?_
  rintro σ H Q ⟨R, τ, h, P, E, hr, sr, hw, post, hx⟩
  refine tr_mk hr sr hx hw fun w1 h1 v1 H1 q1 g1 hr1 r1 => ?_
  have q1 : bltW .listR1 [vw h1 w1] (fun r => P r h1) := q1
  generalize ex : vw h1 w1 = x at q1
  cases x <;> first | exact False.elim q1 | skip
  rename_i n
  have ev := vw_int r1 ex
  subst ev
  obtain ⟨⟨z1, z2⟩, q1⟩ := q1
  refine ⟨n, rfl, ⟨by decide, by decide, by omega, by omega, ?_⟩, fun q hq => post.1 _ h1 q1 _ q H1 g1 hr1 hq (rng_reps 0 n) ?_⟩
  · have : (n - 0).toNat ≤ 1000 := by omega
    exact Nat.le_trans this (by decide)
  · rw [rgV_length]
    have : (n - 0).toNat ≤ 1000 := by omega
    exact le1000 this
end
end Ri
end
section
set_option Elab.async false
set_option linter.all false
set_option maxRecDepth 100000
set_option maxHeartbeats 4000000
/-! Ri, part 13: the checker: the slim syntax against the row's syntax. -/
namespace Ri
open PySem PySem.W L2
def Sx.blk (S : Sx) (sc : Scope) : Sx := { S with sc := relS sc S.sc, fc := some sc }
section
variable {g : Gd} {C : Calls} {W' : WX} {S : Sx} {X : Cx}
theorem Xk.blk (hX : Xk g C W' S X) (s : Shared) (H : Hp) (sc : Scope) (A : Addr) (cl : List (Str × Addr)) (fp : List Addr) (hk : sc.kind = .function) : Xk g C WF (S.blk sc) (X.blk s H sc (compEnvC sc cl A X.env) fp) where
  k := hX.k
  n := hX.n
  nd := hX.nd
  s := by
    show relabel sc X.env = relS sc S.sc
    rw [← hX.s]; rfl
  calm := hX.calm
  fn := fun _ => rfl
  kf := hk
  room := hX.room
  po := fun _ _ h => h.elim
  tk := fun u s' h => by
    obtain ⟨_, _, _, _, _, _, _, _, _, _, _, _, _, _, _, _, z⟩ := h
    exact z.elim
  callf := hX.callf
  methf := hX.methf
  newf := hX.newf
  clf := hX.clf
  fr := hX.fr
  kit := hX.kit
  kin := hX.kin
  cty := hX.cty
  prf := hX.prf
  cst := hX.cst
end
/-! ### the forms -/
def plainE : Expr → Bool
  | .Name .. => true
  | .Constant .. => true
  | .BinOp .. => true
  | .UnaryOp .. => true
  | .Compare .. => true
  | .BoolOp .. => true
  | .IfExp .. => true
  | .Tuple .. => true
  | .List .. => true
  | .Subscript .. => true
  | .Call .. => true
  | .Attribute .. => true
  | .JoinedStr .. => true
  | .ListComp .. => true
  | _ => false
def plainT : Expr → Bool
  | .Name .. => true
  | .Constant .. => true
  | .Subscript .. => true
  | .Call .. => true
  | .Attribute .. => true
  | _ => false
def notComp : Expr → Bool
  | .ListComp .. => false
  | .SetComp .. => false
  | .DictComp .. => false
  | _ => true
def notCall0 : Expr → Bool
  | .Call _ [] _ _ => false
  | _ => true
section
variable {env : Env} {x : Expr} {xs : List Expr}
theorem star_plain (h : plainE x = true) : starEach (x :: xs) env = (false, eval x env) :: starEach xs env := by
  cases x <;> first | rfl | cases h
theorem star_any : ∀ {xs : List Expr} {pos : Pos}, xs.all plainE = true → (backTo pos (starEach xs env)).any (·.1) = false
  | [], _, _ => rfl
  | x :: xs, pos, h => by
    simp only [List.all_cons, Bool.and_eq_true] at h
    rw [star_plain h.1]
    show (false || (backTo pos (starEach xs env)).any (·.1)) = false
    rw [star_any h.2]; rfl
theorem star_all : ∀ {xs : List Expr} {pos : Pos}, xs.all plainE = true → (backTo pos (starEach xs env)).all (fun y => !y.1) = true
  | [], _, _ => rfl
  | x :: xs, pos, h => by
    simp only [List.all_cons, Bool.and_eq_true] at h
    rw [star_plain h.1]
    show (true && (backTo pos (starEach xs env)).all (fun y => !y.1)) = true
    rw [star_all h.2]; rfl
theorem assign_plain (h : plainE x = true) : assignEach (x :: xs) env = (false, assign x env) :: assignEach xs env := by
  cases x <;> first | rfl | cases h
theorem assign_len : ∀ {xs : List Expr}, xs.all plainE = true → (assignEach xs env).length = xs.length ∧ (assignEach xs env).findIdx? (·.1) = none
  | [], _ => ⟨rfl, rfl⟩
  | x :: xs, h => by
    simp only [List.all_cons, Bool.and_eq_true] at h
    rw [assign_plain h.1]
    obtain ⟨a, b⟩ := assign_len h.2
    refine ⟨by simp only [List.length_cons, a], ?_⟩
    rw [List.findIdx?_cons, b]; rfl
theorem base_plain {m : Str} (h : notCall0 x = true) : attributeBase x m env (eval x env) = eval x env := by
  cases x <;> first | rfl | skip
  rename_i f args kw pos
  cases args with
  | nil => cases h
  | cons a as =>
    cases f <;> rfl
theorem behind_plain {o : CmpOp} (h : plainE x = true) : behindInMarks o x = false := by
  cases x <;> first | rfl | cases h
theorem fold_plain {v : Value} (h : plainE x = true) : foldedSetIterable x env v = pure v := by
  cases x <;> first | rfl | cases h
theorem slice_plain (h : plainE x = true) : notSlice x = true := by
  cases x <;> first | rfl | cases h
theorem ix_plain (h : plainE x = true) : PlainIx x := by
  intro o i
  cases x <;> first | rfl | cases h
theorem sw_plain {t : Option Expr} {l : Nat} (h : notComp x = true) : swapsWith x t l env = pure false := by
  cases x <;> first | rfl | cases h
theorem true_plain (h : plainT x = true) (whole : Sem Value) : isTrue x env whole = (do let v ← whole; standAt x.pos; holding [v] (truthy v)) := by
  cases x <;> first | rfl | cases h
theorem ht_of {o : Expr} {m : Str} {apos pos : Pos} (hb : notCall0 o = true) (hs : xs.all plainE = true) (hn : xs.length < 30) (hl : (apos.endLine == pos.line) = true) : eval (.Call (.Attribute o m apos) xs [] pos) env = (do
      let ov ← eval o env
      standAt apos.atName
      let (f, first) ← holding [ov] (getMethod ov m (do return (← importBound o env).getD true))
      callWith pos f first (backTo pos (starEach xs env)) (backToKw pos (keywordEach [] env))) := by
  have few : methodCallForm (xs.length + 0) (backTo pos (starEach xs env)) (backToKw pos (keywordEach [] env)) = true := by
    unfold methodCallForm
    rw [star_all hs]
    show (true && true && decide (xs.length + 0 + 0 < 30)) = true
    simpa using hn
  show (do
    let ov ← attributeBase o m env (eval o env)
    standAt apos.atName
    methodCall o m apos pos env ov (xs.length + 0) (backTo pos (starEach xs env)) (backToKw pos (keywordEach [] env))) = _
  rw [base_plain hb]
  unfold methodCall
  rw [few]
  unfold calleeOf methodCallPos
  simp only [hl, Bool.not_true, Bool.false_or, if_true, pure_bind]
end
/-! ### the checker -/
mutual
def beqW : W → W → Bool
  | .non, .non => true
  | .bl a, .bl b => a == b
  | .int a, .int b => a == b
  | .str a, .str b => a == b
  | .tup a, .tup b => beqWs a b
  | _, _ => false
def beqWs : List W → List W → Bool
  | [], [] => true
  | a :: as, b :: bs => beqW a b && beqWs as bs
  | _, _ => false
end
mutual
theorem beqW_eq : ∀ (a b : W), beqW a b = true → a = b
  | .non, b, h => by cases b <;> first | rfl | cases h
  | .bl x, b, h => by
    cases b <;> first | cases h | skip
    simp only [beqW, beq_iff_eq] at h
    rw [h]
  | .int x, b, h => by
    cases b <;> first | (cases h; done) | skip
    simp only [beqW, beq_iff_eq] at h
    rw [h]
  | .str x, b, h => by
    cases b <;> first | (cases h; done) | skip
    simp only [beqW, beq_iff_eq] at h
    rw [h]
  | .tup x, b, h => by
    cases b <;> first | (cases h; done) | skip
    simp only [beqW] at h
    rw [beqWs_eq _ _ h]
  | .lst _, _, h => by simp [beqW] at h
  | .obj _ _, _, h => by simp [beqW] at h
  | .exc _ _, _, h => by simp [beqW] at h
  | .scr _, _, h => by simp [beqW] at h
  | .loc _, _, h => by simp [beqW] at h
theorem beqWs_eq : ∀ (a b : List W), beqWs a b = true → a = b
  | [], b, h => by cases b <;> first | rfl | cases h
  | x :: xs, b, h => by
    cases b with
    | nil => cases h
    | cons y ys =>
      simp only [beqWs, Bool.and_eq_true] at h
      rw [beqW_eq _ _ h.1, beqWs_eq _ _ h.2]
end
def visB (sc : Scope) (x : Str) : Bool := match sc.names.lookup x with
  | some .local => true
  | some .cell => true
  | some .free => true
  | _ => false
def locB (sc : Scope) (x : Str) : Bool := match sc.names.lookup x with
  | some .local => true
  | some .cell => true
  | _ => false
def glB (sc : Scope) (x : Str) : Bool := sc.names.lookup x == some .globalImplicit
def dbg (x : Str) : Bool := !(x == ("__debug__" : Str)) && !(x == ("__classdict__" : Str))
def fnB (S : Sx) (x : Str) : Bool := match S.fc with
  | none => true
  | some sc => (sc.names.lookup x == some .cell) || (S.sc.names.lookup x == some .local)
mutual
def chkT (S : Sx) : Tg → Expr → Bool
  | .nm i, x => match x with
    | .Name y _ => (S.N[i]? == some y) && (locB S.sc y && fnB S y)
    | _ => false
  | .tp ts, x => match x with
    | .Tuple es _ _ => chkTs S ts es
    | _ => false
def chkTs (S : Sx) : List Tg → List Expr → Bool
  | [], es => es.isEmpty
  | t :: ts, es => match es with
    | e :: es => plainE e && (chkT S t e && chkTs S ts es)
    | [] => false
end
def ownOf (S : Sx) (own : List Nat) : List (Str × Nat) := own.map fun i => ((S.N[i]?).getD Str.empty, i)
def chkB (S : Sx) (own : List Nat) (sc : Scope) : Bool :=
  decide (sc.kind = .function) && (sc.names.all (fun y => sc.names.lookup y.1 == some y.2) && (own.all (fun i => (S.N[i]?).isSome) &&
    (sc.names.all (fun y => !(y.2 == .free) || ((S.sc.names.lookup y.1 == some .cell) || (S.sc.names.lookup y.1 == some .free))) &&
      sc.names.all (fun y => !((y.2 == .local) || (y.2 == .cell)) || (((ownOf S own).map (·.1)).contains y.1 || !(S.N.contains y.1))))))
def subB (l own : List Nat) : Bool := l.all fun i => own.contains i
def fresh : Ex → Bool
  | .bin .. => true
  | .lst _ => true
  | .sli .. => true
  | .rev _ => true
  | .blt .. => true
  | .met .split _ _ => true
  | .lcm .. => true
  | .lcm2 .. => true
  | _ => false
def isYes : Ex → Bool
  | .bl true => true
  | _ => false
def notNon : Ex → Bool
  | .non => false
  | _ => true
def kdOk (S : Sx) (k : Kd) (z : Str) : Bool := S.kd.contains k && (decide (k ≠ .err) && ((z == Str.ofString (kdS k)) && glB S.sc z))
mutual
/-- an expression -/
def chkE : Nat → Sx → Ex → Expr → Bool
  | 0, _, _, _ => false
  | n + 1, S, e, x => plainE x && match e with
    | .var i => match x with
      | .Name y _ => (S.N[i]? == some y) && (visB S.sc y && dbg y)
      | _ => false
    | .int i => match x with
      | .Constant (.int j) _ _ => i == j
      | _ => false
    | .bl b => match x with
      | .Constant (.bool c) _ _ => b == c
      | _ => false
    | .non => match x with
      | .Constant .none _ _ => true
      | _ => false
    | .str s => match x with
      | .Constant (.str t) _ _ => s == t
      | _ => false
    | .cst z w => match x with
      | .Name y _ => (y == Str.ofString z) && (S.cs.any (fun p => (p.1 == z) && beqW p.2 w) && (glB S.sc y && dbg y))
      | _ => false
    | .bin o a b => match x with
      | .BinOp p o' q _ => decide (o' = o.op) && (chkE n S a p && chkE n S b q)
      | _ => false
    | .neg a => match x with
      | .UnaryOp .USub p _ => chkE n S a p
      | _ => false
    | .cmp o a b => match x with
      | .Compare p [o'] [q] _ => decide (o' = o.op) && (chkE n S a p && (plainE q && chkE n S b q))
      | _ => false
    | .isN ng a => match x with
      | .Compare p [o'] [.Constant .none _ _] _ => decide (o' = nonOp ng) && chkE n S a p
      | _ => false
    | .eqo ng c m a b => match x with
      | .Compare p [.Eq] [q] _ => !ng && ((S.cl.contains c && S.ms1.contains (c, "__eq__", m)) && (chkE n S a p && (plainE q && chkE n S b q)))
      | _ => false
    | .chn o1 o2 a b c => match x with
      | .Compare p [q1, q2] [q, r] _ => (decide (q1 = o1.op) && decide (q2 = o2.op)) && (chkE n S a p && (chkE n S b q && (plainE r && chkE n S c r)))
      | _ => false
    | .and a b => match x with
      | .BoolOp .And (p :: q :: r) _ => chkE n S a p && chkA n S b (q :: r)
      | _ => false
    | .or a b => match x with
      | .BoolOp .Or (p :: q :: r) _ => chkE n S a p && chkR n S b (q :: r)
      | _ => false
    | .not a => match x with
      | .UnaryOp .Not p _ => chkE n S a p
      | _ => false
    | .ite c a b => match x with
      | .IfExp p q r _ => chkC n S c p && (chkE n S a q && chkE n S b r)
      | _ => false
    | .tup es => match x with
      | .Tuple xs _ _ => chkEs n S es xs
      | _ => false
    | .lst es => match x with
      | .List xs _ => chkEs n S es xs
      | _ => false
    | .sub a i => match x with
      | .Subscript p q _ => chkE n S a p && (plainE q && chkE n S i q)
      | _ => false
    | .sli a lo hi => match x with
      | .Subscript p (.Slice l h none _) _ => chkE n S a p && (chkO n S lo l && chkO n S hi h)
      | _ => false
    | .rev a => match x with
      | .Subscript p (.Slice none none (some (.UnaryOp .USub (.Constant (.int j) _ _) _)) _) _ => (j == 1) && chkE n S a p
      | _ => false
    | .call f es => match x with
      | .Call (.Name y _) (p :: ps) [] _ => (y == Str.ofString f) && ((S.fs.contains f && (glB S.sc y && dbg y)) && chkEs n S es (p :: ps))
      | _ => false
    | .new c es => match x with
      | .Call (.Name y _) (p :: ps) [] _ => (y == Str.ofString (nmOf c)) && ((S.nc.contains c && (glB S.sc y && dbg y)) && chkEs n S es (p :: ps))
      | _ => false
    | .mth c m key o es => match x with
      | .Call (.Attribute p y p2) args [] p3 => ((y == Str.ofString m) && ((S.cl.contains c && S.ms.contains (c, m, key)) && (notCall0 p && ((p2.endLine == p3.line) && decide (args.length < 30))))) && (chkE n S o p && chkEs n S es args)
      | _ => false
    | .prp c m key o => match x with
      | .Attribute p y _ => ((y == Str.ofString m) && ((S.cl.contains c && S.ms1.contains (c, m, key)) && (notCall0 p && decide (m ≠ "__eq__")))) && chkE n S o p
      | _ => false
    | .fld c k o => match x with
      | .Attribute p y _ => (((flds c)[k]? == some y) && (S.cl.contains c && notCall0 p)) && chkE n S o p
      | _ => false
    | .blt f es => match x with
      | .Call (.Name y _) (p :: ps) [] _ => if bltOk f then (y == Str.ofString (bltNm f).1) && ((S.free.contains (bltNm f).1 && glB S.sc y) && chkEs n S es (p :: ps)) else
        match f with
        | .listR1 => match p with
          | .Call (.Name z _) [q] [] _ => match es with
            | [a] => ((y == ("list" : Str)) && ((z == ("range" : Str)) && ((S.free.contains "list" && S.free.contains "range") && (glB S.sc y && (glB S.sc z && ps.isEmpty))))) && (plainE q && chkE n S a q)
            | _ => false
          | _ => false
        | _ => false
      | _ => false
    | .met m o es => match x with
      | .Call (.Attribute p y p2) [q] [] p3 => match es with
        | [e] => (notCall0 p && ((p2.endLine == p3.line) && plainE q)) && ((chkE n S o p && chkE n S e q) && match m with
          | .split => y == ("split" : Str)
          | .join => y == ("join" : Str)
          | _ => false)
        | _ => false
      | _ => false
    | .fmt es => match x with
      | .JoinedStr (p :: q :: r) _ => chkJ n S es (p :: q :: r)
      | _ => false
    | .isi cl ks a => match x with
      | .Call (.Name y _) [q, k] [] _ => ((y == ("isinstance" : Str)) && (glB S.sc y && (S.free.contains "isinstance" && cl.all fun c => S.cl.contains c))) && ((plainE q && chkE n S a q) && match ks with
        | [k1] => match k with
          | .Name z _ => kdOk S k1 z
          | _ => false
        | [k1, k2] => match k with
          | .Tuple [.Name z1 _, .Name z2 _] _ _ => kdOk S k1 z1 && kdOk S k2 z2
          | _ => false
        | _ => false)
      | _ => false
    | .lcm tg own src cond elt => chkL n S (.lcm tg own src cond elt) x
    | .lcm2 tg own src tg2 own2 src2 elt => chkL n S (.lcm2 tg own src tg2 own2 src2 elt) x
    | .frz e => chkE n S e x
    | .own e => fresh e && chkE n S e x
    | .del e es => (varsOf es).isSome && chkE n S e x
    | _ => false
/-- arguments -/
def chkEs : Nat → Sx → List Ex → List Expr → Bool
  | 0, _, _, _ => false
  | n + 1, S, es, xs => match es with
    | [] => xs.isEmpty
    | e :: es => match xs with
      | x :: xs => plainE x && (chkE n S e x && chkEs n S es xs)
      | [] => false
/-- the parts of an f-string -/
def chkJ : Nat → Sx → List Ex → List Expr → Bool
  | 0, _, _, _ => false
  | n + 1, S, es, xs => match es with
    | [] => xs.isEmpty
    | e :: es => match xs with
      | .FormattedValue y k none _ :: xs => (k == -1) && (chkE n S e y && chkJ n S es xs)
      | .Constant (.str t) _ _ :: xs => (match e with
        | .str s => s == t
        | _ => false) && chkJ n S es xs
      | _ => false
/-- what follows an and, as a value -/
def chkA : Nat → Sx → Ex → List Expr → Bool
  | 0, _, _, _ => false
  | n + 1, S, e, xs => match xs with
    | [x] => chkE n S e x
    | x :: y :: r => match e with
      | .and a b => chkE n S a x && chkA n S b (y :: r)
      | _ => false
    | [] => false
def chkR : Nat → Sx → Ex → List Expr → Bool
  | 0, _, _, _ => false
  | n + 1, S, e, xs => match xs with
    | [x] => chkE n S e x
    | x :: y :: r => match e with
      | .or a b => chkE n S a x && chkR n S b (y :: r)
      | _ => false
    | [] => false
/-- a test -/
def chkC : Nat → Sx → Ex → Expr → Bool
  | 0, _, _, _ => false
  | n + 1, S, e, x => match e with
    | .and a b => match x with
      | .BoolOp .And (p :: q :: r) _ => chkC n S a p && chkCA n S b (q :: r)
      | _ => false
    | .or a b => match x with
      | .BoolOp .Or (p :: q :: r) _ => chkC n S a p && chkCR n S b (q :: r)
      | _ => false
    | .not a => match x with
      | .UnaryOp .Not p _ => chkC n S a p
      | _ => false
    | .cmp o a b => match x with
      | .Compare p [o'] [q] _ => decide (o' = o.op) && (chkE n S a p && (plainE q && chkE n S b q))
      | _ => false
    | .isN ng a => match x with
      | .Compare p [o'] [.Constant .none _ _] _ => decide (o' = nonOp ng) && chkE n S a p
      | _ => false
    | .eqo ng c m a b => match x with
      | .Compare p [.Eq] [q] _ => !ng && ((S.cl.contains c && S.ms1.contains (c, "__eq__", m)) && (chkE n S a p && (plainE q && chkE n S b q)))
      | _ => false
    | .chn o1 o2 a b c => match x with
      | .Compare p [q1, q2] [q, r] _ => (decide (q1 = o1.op) && decide (q2 = o2.op)) && (chkE n S a p && (chkE n S b q && (plainE r && chkE n S c r)))
      | _ => false
    | e => plainT x && chkE n S e x
def chkCA : Nat → Sx → Ex → List Expr → Bool
  | 0, _, _, _ => false
  | n + 1, S, e, xs => match xs with
    | [x] => chkC n S e x
    | x :: y :: r => match e with
      | .and a b => chkC n S a x && chkCA n S b (y :: r)
      | _ => false
    | [] => false
def chkCR : Nat → Sx → Ex → List Expr → Bool
  | 0, _, _, _ => false
  | n + 1, S, e, xs => match xs with
    | [x] => chkC n S e x
    | x :: y :: r => match e with
      | .or a b => chkC n S a x && chkCR n S b (y :: r)
      | _ => false
    | [] => false
/-- an end of a slice -/
def chkO : Nat → Sx → Ex → Option Expr → Bool
  | 0, _, _, _ => false
  | n + 1, S, e, x => match x with
    | none => !(notNon e)
    | some x => notNon e && chkE n S e x
/-- what is walked -/
def chkI : Nat → Sx → Ex → Expr → Expr → Bool
  | 0, _, _, _, _ => false
  | n + 1, S, e, t, x => match e with
    | .itr k es => match k with
      | .seq => chkEs n S es [x]
      | .own => chkEs n S es [x]
      | .rng1 => match x with
        | .Call (.Name y _) [p] [] _ => ((y == ("range" : Str)) && (glB S.sc y && S.free.contains "range")) && chkEs n S es [p]
        | _ => false
      | .rng2 => match x with
        | .Call (.Name y _) [p, q] [] _ => ((y == ("range" : Str)) && (glB S.sc y && S.free.contains "range")) && chkEs n S es [p, q]
        | _ => false
      | .zip => match x with
        | .Call (.Name y _) [p, q] [] _ => match t with
          | .Tuple _ _ _ => ((y == ("zip" : Str)) && (glB S.sc y && S.free.contains "zip")) && chkEs n S es [p, q]
          | _ => false
        | _ => false
      | .enm k => match x with
        | .Call (.Name y _) [p] [] _ => match t with
          | .Tuple _ _ _ => ((y == ("enumerate" : Str)) && (glB S.sc y && (S.free.contains "enumerate" && (k == 0)))) && chkEs n S es [p]
          | _ => false
        | .Call (.Name y _) [p, .Constant (.int j) _ _] [] _ => match t with
          | .Tuple _ _ _ => ((y == ("enumerate" : Str)) && (glB S.sc y && (S.free.contains "enumerate" && ((k == j) && (decide (-1000 ≤ k) && decide (k ≤ 1000)))))) && chkEs n S es [p]
          | _ => false
        | _ => false
    | _ => false
/-- a comprehension -/
def chkL : Nat → Sx → Ex → Expr → Bool
  | 0, _, _, _ => false
  | n + 1, S, e, x => match e with
    | .lcm tg own src cond elt => match x with
      | .ListComp y [⟨t, it, ifs, k⟩] sc _ => ((k == 0) && (chkB S own sc && (plainE it && (subB (slotsT tg) own && chkT (S.blk sc) tg t)))) && (chkI n S src t it && (chkE n (S.blk sc) elt y && match ifs with
        | [] => isYes cond
        | [c] => chkC n (S.blk sc) cond c
        | _ => false))
      | _ => false
    | .lcm2 tg own src tg2 own2 src2 elt => match x with
      | .ListComp y [⟨t, it, [], k⟩, ⟨t2, it2, [], k2⟩] sc _ => ((k == 0) && ((k2 == 0) && (chkB S own sc && ((plainE it && plainE it2) && ((subB (slotsT tg) own && subB (slotsT tg2) own2) && (subB own2 own && (chkT (S.blk sc) tg t && chkT (S.blk sc) tg2 t2))))))) &&
        (chkI n S src t it && (chkI n (S.blk sc) src2 t2 it2 && chkE n (S.blk sc) elt y))
      | _ => false
    | _ => false
end
end Ri
end
section
set_option Elab.async false
set_option linter.all false
set_option maxRecDepth 100000
set_option maxHeartbeats 8000000
/-! Ri, part 14: the checker is sound for expressions. -/
namespace Ri
open PySem PySem.W L2
theorem and1 {a b : Bool} (h : (a && b) = true) : a = true ∧ b = true := by simpa using h
def LcR (g : Gd) (C : Calls) (W' : WX) (X : Cx) (e : Ex) (x : Expr) : Prop := PE X x (TF g C W' e) ∧ ∀ (i : Nat) (y : Str) (py spos : Pos), X.N[i]? = some y → X.env.scope.names.lookup y = some .local →
  swapsWith x (some (.Name y py)) spos.line X.env = pure true → PS X (.Assign [.Name y py] x spos) (tAsg (TF g C W' e) (gName i))
structure Snd (g : Gd) (C : Calls) (n : Nat) : Prop where
  e : ∀ {W' : WX} {S : Sx} {X : Cx}, Xk g C W' S X → ∀ (e : Ex) (x : Expr), chkE n S e x = true → plainE x = true ∧ (fresh e = true → PE X x (TF g C W' e)) ∧ PE X x (TR g C W' e)
  es : ∀ {W' : WX} {S : Sx} {X : Cx}, Xk g C W' S X → ∀ (es : List Ex) (xs : List Expr), chkEs n S es xs = true → PA X xs (TRs g C W' es) ∧ xs.all plainE = true ∧ es.length = xs.length
  e1 : ∀ {W' : WX} {S : Sx} {X : Cx}, Xk g C W' S X → ∀ (a : Ex) (p : Expr), chkEs n S [a] [p] = true → PE X p (TR g C W' a)
  j : ∀ {W' : WX} {S : Sx} {X : Cx}, Xk g C W' S X → ∀ (es : List Ex) (xs : List Expr), chkJ n S es xs = true → PJ X xs (es.map fun e => tFmt (TR g C W' e))
  a : ∀ {W' : WX} {S : Sx} {X : Cx}, Xk g C W' S X → ∀ (e : Ex) (xs : List Expr) (pos : Pos), chkA n S e xs = true → PE X (.BoolOp .And xs pos) (TR g C W' e)
  r : ∀ {W' : WX} {S : Sx} {X : Cx}, Xk g C W' S X → ∀ (e : Ex) (xs : List Expr) (pos : Pos), chkR n S e xs = true → PE X (.BoolOp .Or xs pos) (TR g C W' e)
  c : ∀ {W' : WX} {S : Sx} {X : Cx}, Xk g C W' S X → ∀ (e : Ex) (x : Expr), chkC n S e x = true → PT X x (tB (TR g C W' e))
  ca : ∀ {W' : WX} {S : Sx} {X : Cx}, Xk g C W' S X → ∀ (e : Ex) (xs : List Expr) (pos : Pos), chkCA n S e xs = true → PW X (.BoolOp .And xs pos) (tB (TR g C W' e))
  cr : ∀ {W' : WX} {S : Sx} {X : Cx}, Xk g C W' S X → ∀ (e : Ex) (xs : List Expr) (pos : Pos), chkCR n S e xs = true → PW X (.BoolOp .Or xs pos) (tB (TR g C W' e))
  o : ∀ {W' : WX} {S : Sx} {X : Cx}, Xk g C W' S X → ∀ (e : Ex) (x : Option Expr), chkO n S e x = true → PO X x (ToI g C W' e)
  i : ∀ {W' : WX} {S : Sx} {X : Cx}, Xk g C W' S X → ∀ (e : Ex) (t x : Expr), chkI n S e t x = true → ∃ k es, e = .itr k es ∧ PI X t x (TRi g C W' k es)
  l : ∀ {W' : WX} {S : Sx} {X : Cx}, Xk g C W' S X → ∀ (e : Ex) (x : Expr), chkL n S e x = true → LcR g C W' X e x
section
variable {g : Gd} {C : Calls} {W' : WX} {S : Sx} {X : Cx} {n : Nat}
theorem snd0 : Snd g C 0 where
  e := fun _ _ _ h => by cases h
  es := fun _ _ _ h => by cases h
  e1 := fun _ _ _ h => by cases h
  j := fun _ _ _ h => by cases h
  a := fun _ _ _ _ h => by cases h
  r := fun _ _ _ _ h => by cases h
  c := fun _ _ _ h => by cases h
  ca := fun _ _ _ _ h => by cases h
  cr := fun _ _ _ _ h => by cases h
  o := fun _ _ _ h => by cases h
  i := fun _ _ _ _ h => by cases h
  l := fun _ _ _ h => by cases h
/-! ### names -/
theorem vis_of (hX : Xk g C W' S X) {x : Str} (h : visB S.sc x = true) : Vis X.env.scope x := by
  rw [hX.s]
  unfold visB at h
  unfold Vis
  split at h <;> first | (cases h; done) | simp_all
theorem loc_of (hX : Xk g C W' S X) {x : Str} (h : locB S.sc x = true) : L2.Loc X.env.scope x := by
  rw [hX.s]
  unfold locB at h
  unfold L2.Loc
  split at h <;> first | (cases h; done) | simp_all
theorem gl_of (hX : Xk g C W' S X) {x : Str} (h : glB S.sc x = true) : Gl X x := by
  unfold glB at h
  show X.env.scope.names.lookup x = _
  rw [hX.s]
  exact beq_iff_eq.mp h
theorem fn_of' (hX : Xk g C W' S X) {x : Str} (h : fnB S x = true) : X.fn x = true ∨ X.env.scope.names.lookup x = some .local := by
  have f := hX.fn
  rw [hX.s]
  unfold fnB at h
  split at f
  · exact .inl (f x)
  · rename_i sc e
    rw [e] at h
    dsimp only at h
    rw [Bool.or_eq_true] at h
    rcases h with h | h
    · exact .inl (by rw [f x]; exact h)
    · exact .inr (beq_iff_eq.mp h)
theorem dbg_of {x : Str} (h : dbg x = true) : (x == ("__debug__" : Str)) = false ∧ (x == ("__classdict__" : Str)) = false := by
  unfold dbg at h
  simpa using h
theorem con_of {α : Type} [BEq α] [LawfulBEq α] {l : List α} {x : α} (h : l.contains x = true) : x ∈ l := List.contains_iff_mem.mp h
mutual
theorem chkT_ok (hX : Xk g C W' S X) : ∀ (t : Tg) (x : Expr), chkT S t x = true → PG X x (TGt g t)
  | .nm i, x, h => by
    unfold chkT at h
    try dsimp only at h
    split at h
    · rename_i y pos
      obtain ⟨h1, h⟩ := and1 h
      obtain ⟨h2, h3⟩ := and1 h
      exact g_nm (by rw [hX.n]; exact hX.nd) (by rw [hX.n]; exact beq_iff_eq.mp h1) (loc_of hX h2) (fn_of' hX h3)
    · cases h
  | .tp ts, x, h => by
    unfold chkT at h
    try dsimp only at h
    split at h
    · rename_i es k pos
      obtain ⟨h1, h2, h3⟩ := chkTs_ok hX ts es h
      obtain ⟨l1, l2⟩ := assign_len (env := X.env) h2
      exact g_tp hX.k hX.calm h1 l1 h3 l2
    · cases h
theorem chkTs_ok (hX : Xk g C W' S X) : ∀ (ts : List Tg) (xs : List Expr), chkTs S ts xs = true → PGs X xs (TGss g ts) ∧ xs.all plainE = true ∧ ts.length = xs.length
  | [], xs, h => by
    cases xs with
    | nil => exact ⟨g_nil, rfl, rfl⟩
    | cons => cases h
  | t :: ts, xs, h => by
    cases xs with
    | nil => cases h
    | cons x xs =>
      unfold chkTs at h
      dsimp only at h
      obtain ⟨h1, h⟩ := and1 h
      obtain ⟨h2, h3⟩ := and1 h
      obtain ⟨k1, k2, k3⟩ := chkTs_ok hX ts xs h3
      exact ⟨g_cons (chkT_ok hX t x h2) k1 (by rw [assign_plain h1]; rfl), by rw [List.all_cons, h1, k2]; rfl, by simp [k3]⟩
end
/-! ### expressions -/
theorem snd_es (ih : Snd g C n) (hX : Xk g C W' S X) (es : List Ex) (xs : List Expr) (h : chkEs (n + 1) S es xs = true) : PA X xs (TRs g C W' es) ∧ xs.all plainE = true ∧ es.length = xs.length := by
  unfold chkEs at h
  cases es with
  | nil =>
    cases xs with
    | nil => exact ⟨s_nil, rfl, rfl⟩
    | cons => cases h
  | cons e es =>
    cases xs with
    | nil => cases h
    | cons x xs =>
      dsimp only at h
      obtain ⟨h1, h⟩ := and1 h
      obtain ⟨h2, h3⟩ := and1 h
      obtain ⟨k1, k2, k3⟩ := ih.es hX es xs h3
      exact ⟨s_cons (ih.e hX e x h2).2.2 k1 (star_plain h1), by rw [List.all_cons, h1, k2]; rfl, by simp [k3]⟩
theorem snd_j (ih : Snd g C n) (hX : Xk g C W' S X) (es : List Ex) (xs : List Expr) (h : chkJ (n + 1) S es xs = true) : PJ X xs (es.map fun e => tFmt (TR g C W' e)) := by
  unfold chkJ at h
  cases es with
  | nil =>
    cases xs with
    | nil => exact .nil
    | cons => cases h
  | cons e es =>
    dsimp only at h
    split at h
    · rename_i y k pos xs
      obtain ⟨h1, h⟩ := and1 h
      obtain ⟨h2, h3⟩ := and1 h
      have hk := beq_iff_eq.mp h1
      subst hk
      exact pj_cons (s_fpart (ih.e hX e y h2).2.2) (ih.j hX es xs h3)
    · rename_i t k pos xs
      obtain ⟨h1, h2⟩ := and1 h
      split at h1
      · rename_i s
        have hs := beq_iff_eq.mp h1
        subst hs
        exact pj_cons s_fconst (ih.j hX es xs h2)
      · cases h1
    · cases h
theorem snd_a (ih : Snd g C n) (hX : Xk g C W' S X) (e : Ex) (xs : List Expr) (pos : Pos) (h : chkA (n + 1) S e xs = true) : PE X (.BoolOp .And xs pos) (TR g C W' e) := by
  unfold chkA at h
  split at h
  · exact pe_one (ih.e hX e _ h).2.2
  · split at h
    · obtain ⟨h1, h2⟩ := and1 h
      exact s_and (ih.e hX _ _ h1).2.2 (ih.a hX _ _ pos h2)
    · cases h
  · cases h
theorem snd_r (ih : Snd g C n) (hX : Xk g C W' S X) (e : Ex) (xs : List Expr) (pos : Pos) (h : chkR (n + 1) S e xs = true) : PE X (.BoolOp .Or xs pos) (TR g C W' e) := by
  unfold chkR at h
  split at h
  · exact pe_one (ih.e hX e _ h).2.2
  · split at h
    · obtain ⟨h1, h2⟩ := and1 h
      exact s_or (ih.e hX _ _ h1).2.2 (ih.r hX _ _ pos h2)
    · cases h
  · cases h
theorem snd_ca (ih : Snd g C n) (hX : Xk g C W' S X) (e : Ex) (xs : List Expr) (pos : Pos) (h : chkCA (n + 1) S e xs = true) : PW X (.BoolOp .And xs pos) (tB (TR g C W' e)) := by
  unfold chkCA at h
  split at h
  · exact pw_and1 (ih.c hX e _ h)
  · split at h
    · obtain ⟨h1, h2⟩ := and1 h
      exact c_and (ih.c hX _ _ h1) (ih.ca hX _ _ pos h2)
    · cases h
  · cases h
theorem snd_cr (ih : Snd g C n) (hX : Xk g C W' S X) (e : Ex) (xs : List Expr) (pos : Pos) (h : chkCR (n + 1) S e xs = true) : PW X (.BoolOp .Or xs pos) (tB (TR g C W' e)) := by
  unfold chkCR at h
  split at h
  · exact pw_or1 (ih.c hX e _ h)
  · split at h
    · obtain ⟨h1, h2⟩ := and1 h
      exact c_or (ih.c hX _ _ h1) (ih.cr hX _ _ pos h2)
    · cases h
  · cases h
theorem snd_o (ih : Snd g C n) (hX : Xk g C W' S X) (e : Ex) (x : Option Expr) (h : chkO (n + 1) S e x = true) : PO X x (ToI g C W' e) := by
  unfold chkO at h
  cases x with
  | none =>
    cases e <;> first | (cases h; done) | exact i_none
  | some x =>
    dsimp only at h
    obtain ⟨h1, h2⟩ := and1 h
    refine i_some (ih.e hX e x h2).2.2 ?_
    cases e <;> first | rfl | cases h1
theorem last_plain {o p : CmpOp} {a b : Expr} (h : plainE b = true) : lastMarks [o, p] [a, b] = false := by
  show behindInMarks p b = false
  exact behind_plain h
theorem snd_c (ih : Snd g C n) (hX : Xk g C W' S X) (e : Ex) (x : Expr) (h : chkC (n + 1) S e x = true) : PT X x (tB (TR g C W' e)) := by
  have rest : plainT x = true → chkE n S e x = true → PT X x (tB (TR g C W' e)) := fun h1 h2 => pt_val (ih.e hX e x h2).2.2 fun w => true_plain h1 w
  unfold chkC at h
  cases e
  case and a b =>
    dsimp only at h
    split at h
    · obtain ⟨h1, h2⟩ := and1 h
      exact (c_and (ih.c hX _ _ h1) (ih.ca hX _ _ _ h2)).pt
    · cases h
  case or a b =>
    dsimp only at h
    split at h
    · obtain ⟨h1, h2⟩ := and1 h
      exact (c_or (ih.c hX _ _ h1) (ih.cr hX _ _ _ h2)).pt
    · cases h
  case not a =>
    dsimp only at h
    split at h
    · exact c_not (ih.c hX _ _ h)
    · cases h
  case cmp o a b =>
    dsimp only at h
    split at h
    · obtain ⟨h1, h⟩ := and1 h
      obtain ⟨h2, h⟩ := and1 h
      obtain ⟨h3, h4⟩ := and1 h
      have e1 := of_decide_eq_true h1
      subst e1
      exact c_cmp hX o (ih.e hX _ _ h2).2.2 (ih.e hX _ _ h4).2.2 (behind_plain h3)
    · cases h
  case isN ng a =>
    dsimp only at h
    split at h
    · obtain ⟨h1, h2⟩ := and1 h
      have e1 := of_decide_eq_true h1
      subst e1
      exact c_isN ng (ih.e hX _ _ h2).2.2
    · cases h
  case eqo ng c m a b =>
    dsimp only at h
    split at h
    · obtain ⟨h1, h⟩ := and1 h
      obtain ⟨h2, h⟩ := and1 h
      obtain ⟨h2a, h2b⟩ := and1 h2
      obtain ⟨h3, h⟩ := and1 h
      obtain ⟨h4, h5⟩ := and1 h
      cases ng with
      | true => cases h1
      | false => exact c_eqo hX (con_of h2a) (con_of h2b) (ih.e hX _ _ h3).2.2 (ih.e hX _ _ h5).2.2 (behind_plain h4)
    · cases h
  case chn o p a b c =>
    dsimp only at h
    split at h
    · obtain ⟨h1, h⟩ := and1 h
      obtain ⟨h1a, h1b⟩ := and1 h1
      obtain ⟨h2, h⟩ := and1 h
      obtain ⟨h3, h⟩ := and1 h
      obtain ⟨h4, h5⟩ := and1 h
      have e1 := of_decide_eq_true h1a
      have e2 := of_decide_eq_true h1b
      subst e1 e2
      exact c_chn hX o p (ih.e hX _ _ h2).2.2 (ih.e hX _ _ h3).2.2 (ih.e hX _ _ h5).2.2 (last_plain h4)
    · cases h
  all_goals
    dsimp only at h
    obtain ⟨h1, h2⟩ := and1 h
    exact rest h1 h2
theorem len1 {es : List Ex} {p : Expr} (h : es.length = [p].length) : ∃ a, es = [a] := by
  match es, h with
  | [a], _ => exact ⟨a, rfl⟩
theorem len2 {es : List Ex} {p q : Expr} (h : es.length = [p, q].length) : ∃ a b, es = [a, b] := by
  match es, h with
  | [a, b], _ => exact ⟨a, b, rfl⟩
/-- of one argument: its own reading -/
theorem snd_es1 (ih : Snd g C n) (hX : Xk g C W' S X) (a : Ex) (p : Expr) (h : chkEs (n + 1) S [a] [p] = true) : PE X p (TR g C W' a) := by
  unfold chkEs at h
  dsimp only at h
  obtain ⟨h1, h⟩ := and1 h
  obtain ⟨h2, h3⟩ := and1 h
  exact (ih.e hX a p h2).2.2
theorem snd_i (ih : Snd g C n) (hX : Xk g C W' S X) (e : Ex) (t x : Expr) (h : chkI (n + 1) S e t x = true) : ∃ k es, e = .itr k es ∧ PI X t x (TRi g C W' k es) := by
  unfold chkI at h
  cases e <;> first | (cases h; done) | skip
  rename_i k es
  refine ⟨k, es, rfl, ?_⟩
  dsimp only at h
  split at h
  · obtain ⟨k1, k2, k3⟩ := ih.es hX es _ h
    obtain ⟨a, ea⟩ := len1 k3
    subst ea
    exact i_seq hX.k (ih.e1 hX a x h)
  · obtain ⟨k1, k2, k3⟩ := ih.es hX es _ h
    obtain ⟨a, ea⟩ := len1 k3
    subst ea
    exact i_own hX.k (ih.e1 hX a x h)
  · split at h
    · rename_i y p1 p pos
      obtain ⟨h1, h2⟩ := and1 h
      obtain ⟨h1, h3⟩ := and1 h1
      obtain ⟨h3, h4⟩ := and1 h3
      obtain ⟨k1, k2, k3⟩ := ih.es hX es _ h2
      obtain ⟨a, ea⟩ := len1 k3
      subst ea
      have ey := beq_iff_eq.mp h1
      subst ey
      simp only [List.all_cons, List.all_nil, Bool.and_true] at k2
      exact i_rng1 hX (con_of h4) (gl_of hX h3) k1 (star_plain k2)
    · cases h
  · split at h
    · rename_i y p1 p q pos
      obtain ⟨h1, h2⟩ := and1 h
      obtain ⟨h1, h3⟩ := and1 h1
      obtain ⟨h3, h4⟩ := and1 h3
      obtain ⟨k1, k2, k3⟩ := ih.es hX es _ h2
      obtain ⟨a, b, ea⟩ := len2 k3
      subst ea
      have ey := beq_iff_eq.mp h1
      subst ey
      simp only [List.all_cons, List.all_nil, Bool.and_true, Bool.and_eq_true] at k2
      exact i_rng2 hX (con_of h4) (gl_of hX h3) k1 (by rw [star_plain k2.1, star_plain k2.2]; rfl) (star_plain k2.2)
    · cases h
  · split at h
    · split at h
      · rename_i y p1 p q pos _ ts k tp
        obtain ⟨h1, h2⟩ := and1 h
        obtain ⟨h1, h3⟩ := and1 h1
        obtain ⟨h3, h4⟩ := and1 h3
        obtain ⟨k1, k2, k3⟩ := ih.es hX es _ h2
        obtain ⟨a, b, ea⟩ := len2 k3
        subst ea
        have ey := beq_iff_eq.mp h1
        subst ey
        have k2' := k2
        simp only [List.all_cons, List.all_nil, Bool.and_true, Bool.and_eq_true] at k2
        exact i_zip hX (con_of h4) (gl_of hX h3) k1 (star_plain k2.1) (star_any (by simp [k2.2]))
      · cases h
    · cases h
  · split at h
    · split at h
      · rename_i y p1 p pos _ ts k tp
        simp only [Bool.and_eq_true] at h
        obtain ⟨⟨h1, h3, h4, h5⟩, h2⟩ := h
        obtain ⟨k1, k2, k3⟩ := ih.es hX es _ h2
        obtain ⟨a, ea⟩ := len1 k3
        subst ea
        have ey := beq_iff_eq.mp h1
        have ek := beq_iff_eq.mp h5
        subst ey ek
        simp only [List.all_cons, List.all_nil, Bool.and_true] at k2
        exact i_enm0 hX (con_of h4) (gl_of hX h3) k1 (star_plain k2) rfl
      · cases h
    · split at h
      · rename_i y p1 p j kj kp pos _ ts k tp
        simp only [Bool.and_eq_true] at h
        obtain ⟨⟨h1, h3, h4, h5, h6, h7⟩, h2⟩ := h
        obtain ⟨k1, k2, k3⟩ := ih.es hX es _ h2
        obtain ⟨a, ea⟩ := len1 k3
        subst ea
        have ey := beq_iff_eq.mp h1
        have ek := beq_iff_eq.mp h5
        have e6 := of_decide_eq_true h6
        have e7 := of_decide_eq_true h7
        subst ey ek
        simp only [List.all_cons, List.all_nil, Bool.and_true] at k2
        exact i_enmk hX (by omega) (by omega) (con_of h4) (gl_of hX h3) k1 (star_plain k2) rfl (ih.e1 hX _ _ h2)
      · cases h
    · cases h
/-! ### comprehensions -/
theorem own_map (own : List Nat) : (ownOf S own).map (·.2) = own := by
  unfold ownOf
  rw [List.map_map]
  exact List.map_id own
theorem blk_ok (hX : Xk g C W' S X) {own : List Nat} {sc : Scope} (h : chkB S own sc = true) : BlkOk X.N X.env.scope sc (ownOf S own) := by
  unfold chkB at h
  simp only [Bool.and_eq_true] at h
  obtain ⟨h1, h2, h3, h4, h5⟩ := h
  refine ⟨of_decide_eq_true h1, fun y hy => beq_iff_eq.mp (List.all_eq_true.mp h2 y hy), fun p hp => ?_, fun y hy e => ?_, fun y hy e => ?_⟩
  · unfold ownOf at hp
    obtain ⟨i, hi, ep⟩ := List.mem_map.mp hp
    subst ep
    have z := List.all_eq_true.mp h3 i hi
    rw [hX.n]
    cases e : S.N[i]? with
    | none => rw [e] at z; cases z
    | some x => rfl
  · have z := List.all_eq_true.mp h4 y hy
    rw [hX.s]
    rw [e] at z
    simpa using z
  · have z := List.all_eq_true.mp h5 y hy
    rw [hX.n]
    have e2 : ((y.2 == NameKind.local) || (y.2 == NameKind.cell)) = true := by
      rcases e with e | e <;> rw [e] <;> rfl
    rw [e2] at z
    simp only [Bool.not_true, Bool.false_or, Bool.or_eq_true, Bool.not_eq_true'] at z
    rcases z with z | z
    · exact .inl (con_of z)
    · refine .inr fun m => ?_
      rw [List.contains_iff_mem.mpr m] at z
      cases z
theorem sub_of {l own : List Nat} (h : subB l own = true) : ∀ i ∈ l, i ∈ own := fun i hi => con_of (List.all_eq_true.mp h i hi)
theorem blk_kind {own : List Nat} {sc : Scope} (h : chkB S own sc = true) : sc.kind = .function := by
  unfold chkB at h
  exact of_decide_eq_true (and1 h).1
theorem yes_of {e : Ex} (h : isYes e = true) : e = .bl true := by
  cases e <;> first | (cases h; done) | skip
  rename_i b
  cases b <;> first | rfl | cases h
theorem pts_yes : PTs X [] (tB (TR g C W' (.bl true))) := by
  refine ⟨fun pins s' σ H' Q I q => (pts_nil (X := X)).run pins s' σ H' Q I ?_⟩
  obtain ⟨R, τ, h, P, E, hr, sr, hw, post, hx⟩ := q
  obtain ⟨d, ed, q⟩ := post _ h _ H' hw Grow.refl hr rep_bl
  cases ed
  exact q
theorem snd_l (ih : Snd g C n) (hX : Xk g C W' S X) (e : Ex) (x : Expr) (h : chkL (n + 1) S e x = true) : LcR g C W' X e x := by
  unfold chkL at h
  cases e <;> first | (cases h; done) | skip
  · rename_i tg own src cond elt
    dsimp only at h
    split at h
    · rename_i y t it ifs k sc pos
      obtain ⟨ha, h⟩ := and1 h
      obtain ⟨hi, h⟩ := and1 h
      obtain ⟨he, hc⟩ := and1 h
      simp only [Bool.and_eq_true] at ha
      obtain ⟨hk, hb, hpl, hsub, ht⟩ := ha
      have ek := beq_iff_eq.mp hk
      subst ek
      obtain ⟨kk, es, esrc, pi⟩ := ih.i hX src t it hi
      subst esrc
      have bk := blk_kind hb
      have tests : ∀ (s : Shared) (H : Hp) (A : Addr) (cl : List (Str × Addr)) (fp : List Addr), PTs (X.blk s H sc (compEnvC sc cl A X.env) fp) ifs (tB (TR g C WF cond)) := by
        intro s H A cl fp
        have hB := hX.blk s H sc A cl fp bk
        split at hc
        · have ey := yes_of hc
          clear hc
          subst ey
          exact pts_yes
        · exact pts_one (ih.c hB cond _ hc)
        · cases hc
      have tgt : ∀ (s : Shared) (H : Hp) (A : Addr) (cl : List (Str × Addr)) (fp : List Addr), PG (X.blk s H sc (compEnvC sc cl A X.env) fp) t (TGt g tg) := fun s H A cl fp => chkT_ok (hX.blk s H sc A cl fp bk) tg t ht
      have elm : ∀ (s : Shared) (H : Hp) (A : Addr) (cl : List (Str × Addr)) (fp : List Addr), PE (X.blk s H sc (compEnvC sc cl A X.env) fp) y (TR g C WF elt) := fun s H A cl fp => (ih.e (hX.blk s H sc A cl fp bk) elt y he).2.2
      have sl : ∀ i ∈ slotsT tg, i ∈ (ownOf S own).map (·.2) := by rw [own_map]; exact sub_of hsub
      have k1 := s_lcmF (pos := pos) hX pi (blk_ok hX hb) tgt tests elm (fun v => fold_plain hpl) sl
      rw [own_map] at k1
      refine ⟨k1, fun i z py spos hz hl hsw => ?_⟩
      have k2 := q_lcm hX hz hl hsw pi (blk_ok hX hb) tgt tests elm (fun v => fold_plain hpl) sl
      rw [own_map] at k2
      exact k2
    · cases h
  · rename_i tg own src tg2 own2 src2 elt
    dsimp only at h
    split at h
    · rename_i y t it k t2 it2 k2 sc pos
      obtain ⟨ha, h⟩ := and1 h
      obtain ⟨hi, h⟩ := and1 h
      obtain ⟨hi2, he⟩ := and1 h
      simp only [Bool.and_eq_true] at ha
      obtain ⟨hk, hk2, hb, ⟨hpl, hpl2⟩, ⟨hsub, hsub2⟩, hown, ht, ht2⟩ := ha
      have ek := beq_iff_eq.mp hk
      have ek2 := beq_iff_eq.mp hk2
      subst ek ek2
      obtain ⟨kk, es, esrc, pi⟩ := ih.i hX src t it hi
      subst esrc
      have bk := blk_kind hb
      have tgt : ∀ (s : Shared) (H : Hp) (A : Addr) (cl : List (Str × Addr)) (fp : List Addr), PG (X.blk s H sc (compEnvC sc cl A X.env) fp) t (TGt g tg) := fun s H A cl fp => chkT_ok (hX.blk s H sc A cl fp bk) tg t ht
      have tgt2 : ∀ (s : Shared) (H : Hp) (A : Addr) (cl : List (Str × Addr)) (fp : List Addr), PG (X.blk s H sc (compEnvC sc cl A X.env) fp) t2 (TGt g tg2) := fun s H A cl fp => chkT_ok (hX.blk s H sc A cl fp bk) tg2 t2 ht2
      have elm : ∀ (s : Shared) (H : Hp) (A : Addr) (cl : List (Str × Addr)) (fp : List Addr), PE (X.blk s H sc (compEnvC sc cl A X.env) fp) y (TR g C WF elt) := fun s H A cl fp => (ih.e (hX.blk s H sc A cl fp bk) elt y he).2.2
      have sl : ∀ i ∈ slotsT tg, i ∈ (ownOf S own).map (·.2) := by rw [own_map]; exact sub_of hsub
      have sl2 : ∀ i ∈ slotsT tg2, i ∈ own2 := sub_of hsub2
      have so : ∀ i ∈ own2, i ∈ (ownOf S own).map (·.2) := by rw [own_map]; exact sub_of hown
      have e2 : ∃ k es, src2 = .itr k es := by
        cases src2 <;> first | exact ⟨_, _, rfl⟩ | (exfalso; cases n <;> (simp [chkI] at hi2))
      obtain ⟨kk2, es2, esrc2⟩ := e2
      subst esrc2
      have pi2 : ∀ (s : Shared) (H : Hp) (A : Addr) (cl : List (Str × Addr)) (fp : List Addr), PI (X.blk s H sc (compEnvC sc cl A X.env) fp) t2 it2 (TRi g C WF kk2 es2) := fun s H A cl fp => by
        obtain ⟨k3, es3, e3, p3⟩ := ih.i (hX.blk s H sc A cl fp bk) (.itr kk2 es2) t2 it2 hi2
        cases e3
        exact p3
      have k1 := s_lcm2F (pos := pos) hX pi (blk_ok hX hb) so tgt pi2 tgt2 elm (fun v => fold_plain hpl) (fun env v => fold_plain hpl2) sl sl2
      rw [own_map] at k1
      refine ⟨k1, fun i z py spos hz hl hsw => ?_⟩
      have k2 := q_lcm2 hX hz hl hsw pi (blk_ok hX hb) so tgt pi2 tgt2 elm (fun v => fold_plain hpl) (fun env v => fold_plain hpl2) sl sl2
      rw [own_map] at k2
      exact k2
    · cases h
/-! ### all forms -/
def Res (g : Gd) (C : Calls) (W' : WX) (X : Cx) (e : Ex) (x : Expr) : Prop := (fresh e = true → PE X x (TF g C W' e)) ∧ PE X x (TR g C W' e)
theorem Res.f {e : Ex} {x : Expr} (h : PE X x (TF g C W' e)) : Res g C W' X e x := ⟨fun _ => h, pe_imp h fun _ _ _ => tf_tr⟩
theorem Res.r {e : Ex} {x : Expr} (hf : fresh e = false) (h : PE X x (TR g C W' e)) : Res g C W' X e x := ⟨fun z => by (rw [hf] at z; cases z), h⟩
theorem kd_of (hX : Xk g C W' S X) {k : Kd} {z : Str} (h : kdOk S k z = true) : k ∈ S.kd ∧ k ≠ .err ∧ z = Str.ofString (kdS k) ∧ Gl X z := by
  unfold kdOk at h
  simp only [Bool.and_eq_true] at h
  obtain ⟨h1, h2, h3, h4⟩ := h
  exact ⟨con_of h1, of_decide_eq_true h2, beq_iff_eq.mp h3, gl_of hX h4⟩
theorem snd_e (ih : Snd g C n) (hX : Xk g C W' S X) (e : Ex) (x : Expr) (h : chkE (n + 1) S e x = true) : plainE x = true ∧ (fresh e = true → PE X x (TF g C W' e)) ∧ PE X x (TR g C W' e) := by
  unfold chkE at h
  have hh := and1 h
  clear h
  obtain ⟨hp, h⟩ := hh
  refine ⟨hp, show Res g C W' X e x from ?_⟩
  cases e
  case var i =>
    dsimp only at h
    split at h
    · simp only [Bool.and_eq_true] at h
      obtain ⟨h1, h2, h3⟩ := h
      obtain ⟨d1, d2⟩ := dbg_of h3
      exact .r rfl (s_var (by rw [hX.n]; exact beq_iff_eq.mp h1) (vis_of hX h2) d1 d2)
    · cases h
  case int i =>
    dsimp only at h
    split at h
    · have e1 := beq_iff_eq.mp h
      subst e1
      exact .r rfl s_int
    · cases h
  case bl i =>
    dsimp only at h
    split at h
    · have e1 := beq_iff_eq.mp h
      subst e1
      exact .r rfl s_bl
    · cases h
  case non =>
    dsimp only at h
    split at h
    · exact .r rfl s_non
    · cases h
  case str i =>
    dsimp only at h
    split at h
    · have e1 := beq_iff_eq.mp h
      subst e1
      exact .r rfl s_str
    · cases h
  case cst z w =>
    dsimp only at h
    split at h
    · simp only [Bool.and_eq_true] at h
      obtain ⟨h1, h2, h3, h4⟩ := h
      have e1 := beq_iff_eq.mp h1
      subst e1
      obtain ⟨p, pm, pe⟩ := List.any_eq_true.mp h2
      have pe2 := and1 pe
      have q1 := beq_iff_eq.mp pe2.1
      have q2 := beqW_eq _ _ pe2.2
      have em : (z, w) ∈ S.cs := by
        rw [← q1, ← q2]
        exact pm
      exact .r rfl (s_cst hX em (gl_of hX h3) (dbg_of h4).1)
    · cases h
  case bin o a b =>
    dsimp only at h
    split at h
    · simp only [Bool.and_eq_true] at h
      obtain ⟨h1, h2, h3⟩ := h
      have e1 := of_decide_eq_true h1
      subst e1
      exact .f (s_binF hX o (ih.e hX _ _ h2).2.2 (ih.e hX _ _ h3).2.2)
    · cases h
  case neg a =>
    dsimp only at h
    split at h
    · exact .r rfl (s_neg (ih.e hX _ _ h).2.2)
    · cases h
  case cmp o a b =>
    dsimp only at h
    split at h
    · simp only [Bool.and_eq_true] at h
      obtain ⟨h1, h2, h3, h4⟩ := h
      have e1 := of_decide_eq_true h1
      subst e1
      exact .r rfl (s_cmp hX o (ih.e hX _ _ h2).2.2 (ih.e hX _ _ h4).2.2 (behind_plain h3))
    · cases h
  case isN ng a =>
    dsimp only at h
    split at h
    · obtain ⟨h1, h2⟩ := and1 h
      have e1 := of_decide_eq_true h1
      subst e1
      exact .r rfl (s_isN ng (ih.e hX _ _ h2).2.2)
    · cases h
  case eqo ng c m a b =>
    dsimp only at h
    split at h
    · simp only [Bool.and_eq_true] at h
      obtain ⟨h1, ⟨h2, h3⟩, h4, h5, h6⟩ := h
      cases ng with
      | true => cases h1
      | false => exact .r rfl (s_eqo hX (con_of h2) (con_of h3) (ih.e hX _ _ h4).2.2 (ih.e hX _ _ h6).2.2 (behind_plain h5))
    · cases h
  case chn o p a b c =>
    dsimp only at h
    split at h
    · simp only [Bool.and_eq_true] at h
      obtain ⟨⟨h1, h2⟩, h3, h4, h5, h6⟩ := h
      have e1 := of_decide_eq_true h1
      have e2 := of_decide_eq_true h2
      subst e1 e2
      exact .r rfl (s_chn hX o p (ih.e hX _ _ h3).2.2 (ih.e hX _ _ h4).2.2 (ih.e hX _ _ h6).2.2 (last_plain h5))
    · cases h
  case and a b =>
    dsimp only at h
    split at h
    · obtain ⟨h1, h2⟩ := and1 h
      exact .r rfl (s_and (ih.e hX _ _ h1).2.2 (ih.a hX _ _ _ h2))
    · cases h
  case or a b =>
    dsimp only at h
    split at h
    · obtain ⟨h1, h2⟩ := and1 h
      exact .r rfl (s_or (ih.e hX _ _ h1).2.2 (ih.r hX _ _ _ h2))
    · cases h
  case not a =>
    dsimp only at h
    split at h
    · exact .r rfl (s_not (ih.e hX _ _ h).2.2)
    · cases h
  case ite c a b =>
    dsimp only at h
    split at h
    · simp only [Bool.and_eq_true] at h
      obtain ⟨h1, h2, h3⟩ := h
      exact .r rfl (s_ite (ih.c hX _ _ h1) (ih.e hX _ _ h2).2.2 (ih.e hX _ _ h3).2.2)
    · cases h
  case tup es =>
    dsimp only at h
    split at h
    · exact .r rfl (s_tup (ih.es hX _ _ h).1)
    · cases h
  case lst es =>
    dsimp only at h
    split at h
    · exact .f (s_lstF (ih.es hX _ _ h).1)
    · cases h
  case sub a i =>
    dsimp only at h
    split at h
    · simp only [Bool.and_eq_true] at h
      obtain ⟨h1, h2, h3⟩ := h
      exact .r rfl (s_sub hX (ih.e hX _ _ h1).2.2 (ih.e hX _ _ h3).2.2 (ix_plain h2))
    · cases h
  case sli a lo hi =>
    dsimp only at h
    split at h
    · simp only [Bool.and_eq_true] at h
      obtain ⟨h1, h2, h3⟩ := h
      exact .f (s_sliF hX (ih.e hX _ _ h1).2.2 (ih.o hX _ _ h2) (ih.o hX _ _ h3))
    · cases h
  case rev a =>
    dsimp only at h
    split at h
    · obtain ⟨h1, h2⟩ := and1 h
      have e1 := beq_iff_eq.mp h1
      subst e1
      exact .f (s_revF (ih.e hX _ _ h2).2.2)
    · cases h
  case call f es =>
    dsimp only at h
    split at h
    · simp only [Bool.and_eq_true] at h
      obtain ⟨h1, ⟨h2, h3, h4⟩, h5⟩ := h
      have e1 := beq_iff_eq.mp h1
      subst e1
      obtain ⟨k1, k2, k3⟩ := ih.es hX _ _ h5
      simp only [List.all_cons, Bool.and_eq_true] at k2
      exact .r rfl (s_call hX (con_of h2) (gl_of hX h3) k1 (dbg_of h4).1 (star_plain k2.1) (star_any k2.2))
    · cases h
  case new c es =>
    dsimp only at h
    split at h
    · simp only [Bool.and_eq_true] at h
      obtain ⟨h1, ⟨h2, h3, h4⟩, h5⟩ := h
      have e1 := beq_iff_eq.mp h1
      subst e1
      obtain ⟨k1, k2, k3⟩ := ih.es hX _ _ h5
      simp only [List.all_cons, Bool.and_eq_true] at k2
      exact .r rfl (s_new hX (con_of h2) (gl_of hX h3) k1 (dbg_of h4).1 (star_plain k2.1) (star_any k2.2))
    · cases h
  case mth c m key o es =>
    dsimp only at h
    split at h
    · rename_i p y p2 args p3
      simp only [Bool.and_eq_true] at h
      obtain ⟨⟨h1, ⟨h2, h3⟩, h4, h5, h6⟩, h7, h8⟩ := h
      have e1 := beq_iff_eq.mp h1
      subst e1
      obtain ⟨k1, k2, k3⟩ := ih.es hX _ _ h8
      have ht := ht_of (env := X.env) (m := Str.ofString m) (apos := p2) (pos := p3) h4 k2 (of_decide_eq_true h6) h5
      cases args with
      | nil =>
        cases es with
        | nil => exact .r rfl (s_mth0 hX (con_of h2) (con_of h3) (ih.e hX _ _ h7).2.2 ht)
        | cons => cases k3
      | cons a as =>
        simp only [List.all_cons, Bool.and_eq_true] at k2
        exact .r rfl (s_mth hX (con_of h2) (con_of h3) (ih.e hX _ _ h7).2.2 k1 (star_plain k2.1) (star_any k2.2) ht)
    · cases h
  case prp c m key o =>
    dsimp only at h
    split at h
    · simp only [Bool.and_eq_true] at h
      obtain ⟨⟨h1, ⟨h2, h3⟩, h4, h5⟩, h6⟩ := h
      have e1 := beq_iff_eq.mp h1
      subst e1
      exact .r rfl (s_prp hX (con_of h2) (con_of h3) (of_decide_eq_true h5) (ih.e hX _ _ h6).2.2 (base_plain h4))
    · cases h
  case fld c k o =>
    dsimp only at h
    split at h
    · simp only [Bool.and_eq_true] at h
      obtain ⟨⟨h1, h2, h4⟩, h6⟩ := h
      exact .r rfl (s_fld hX (con_of h2) (beq_iff_eq.mp h1) (ih.e hX _ _ h6).2.2 (base_plain h4))
    · cases h
  case blt f es =>
    dsimp only at h
    split at h
    · split at h
      · rename_i y p1 p ps pos hb
        simp only [Bool.and_eq_true] at h
        obtain ⟨h1, ⟨h2, h3⟩, h4⟩ := h
        have e1 := beq_iff_eq.mp h1
        subst e1
        obtain ⟨k1, k2, k3⟩ := ih.es hX _ _ h4
        simp only [List.all_cons, Bool.and_eq_true] at k2
        exact .f (s_bltF hX hb (gl_of hX h3) (con_of h2) k1 (star_plain k2.1) (star_any k2.2))
      · split at h
        · split at h
          · split at h
            · rename_i y p1 ps pos _ z p2 q p3 a
              simp only [Bool.and_eq_true] at h
              obtain ⟨⟨h1, h2, ⟨h3, h4⟩, h5, h6, h7⟩, h8, h9⟩ := h
              have e1 := beq_iff_eq.mp h1
              have e2 := beq_iff_eq.mp h2
              subst e1 e2
              have e3 := List.isEmpty_iff.mp h7
              subst e3
              exact .f (s_listR1F hX (gl_of hX h5) (con_of h3) (gl_of hX h6) (con_of h4) (ih.e hX _ _ h9).2.2 (star_plain h8) (star_plain rfl))
            · cases h
          · cases h
        · cases h
    · cases h
  case met m o es =>
    dsimp only at h
    split at h
    · split at h
      · rename_i p y p2 q p3 _ e
        simp only [Bool.and_eq_true] at h
        obtain ⟨⟨h1, h2, h3⟩, ⟨h4, h5⟩, h6⟩ := h
        cases m
        case split =>
          have e1 := beq_iff_eq.mp h6
          subst e1
          exact .f (s_splitF (ih.e hX _ _ h4).2.2 (ih.e hX _ _ h5).2.2 (star_plain h3) (base_plain h1) h2)
        case join =>
          have e1 := beq_iff_eq.mp h6
          subst e1
          exact .r rfl (s_join (ih.e hX _ _ h4).2.2 (ih.e hX _ _ h5).2.2 (star_plain h3) (base_plain h1) h2)
        all_goals cases h6
      · cases h
    · cases h
  case fmt es =>
    dsimp only at h
    split at h
    · exact .r rfl (s_fmt (ih.j hX _ _ h))
    · cases h
  case isi cl ks a =>
    dsimp only at h
    split at h
    · rename_i y p1 q k pos
      simp only [Bool.and_eq_true] at h
      obtain ⟨⟨h1, h2, h3, h4⟩, ⟨h5, h6⟩, h7⟩ := h
      have e1 := beq_iff_eq.mp h1
      subst e1
      have hcl : ∀ c ∈ cl, c ∈ S.cl := fun c hc => con_of (List.all_eq_true.mp h4 c hc)
      split at h7
      · split at h7
        · obtain ⟨k1, k2, k3, k4⟩ := kd_of hX h7
          subst k3
          exact .r rfl (s_isi1 hX hcl k1 k2 k4 (gl_of hX h2) (con_of h3) (ih.e hX _ _ h6).2.2 (star_plain h5) rfl)
        · cases h7
      · split at h7
        · obtain ⟨h8, h9⟩ := and1 h7
          obtain ⟨k1, k2, k3, k4⟩ := kd_of hX h8
          obtain ⟨l1, l2, l3, l4⟩ := kd_of hX h9
          subst k3 l3
          exact .r rfl (s_isi2 hX hcl k1 l1 k2 l2 k4 l4 (gl_of hX h2) (con_of h3) (ih.e hX _ _ h6).2.2 (star_plain h5) rfl)
        · cases h7
      · cases h7
    · cases h
  case lcm tg own src cond elt => exact .f (ih.l hX _ _ h).1
  case lcm2 tg own src tg2 own2 src2 elt => exact .f (ih.l hX _ _ h).1
  case frz e => exact .r rfl (s_frz (ih.e hX _ _ h).2.2)
  case own e =>
    obtain ⟨h1, h2⟩ := and1 h
    exact .r rfl (pe_imp ((ih.e hX _ _ h2).2.1 h1) fun _ _ _ => tf_own)
  case del e es =>
    obtain ⟨h1, h2⟩ := and1 h
    obtain ⟨is, e1⟩ := Option.isSome_iff_exists.mp h1
    exact .r rfl (s_del (ih.e hX _ _ h2).2.2 e1)
  all_goals cases h
theorem snd_all (g : Gd) (C : Calls) : ∀ n, Snd g C n
  | 0 => snd0
  | n + 1 => by
    have ih := snd_all g C n
    exact ⟨fun hX => snd_e ih hX, fun hX => snd_es ih hX, fun hX => snd_es1 ih hX, fun hX => snd_j ih hX, fun hX => snd_a ih hX, fun hX => snd_r ih hX, fun hX => snd_c ih hX, fun hX => snd_ca ih hX, fun hX => snd_cr ih hX, fun hX => snd_o ih hX, fun hX => snd_i ih hX, fun hX => snd_l ih hX⟩
end
end Ri
end
section
set_option Elab.async false
set_option linter.all false
set_option maxRecDepth 100000
set_option maxHeartbeats 8000000
/-! Ri, part 15: the checker for statements, and that it is sound. -/
namespace Ri
open PySem PySem.W L2
/-- which names the stores of a pair are swapped for: none: it cannot be told -/
def swN (sc : Scope) (ts vs : List Expr) : Option (Option (List Str)) :=
  if (!(ts.length == 2 || ts.length == 3) || vs.length != ts.length) = true then some none
  else if (vs.any fun | .Starred .. => true | _ => false) = true then some none
  else
    let line := (ts.head?.map (·.pos.line)).getD 0
    let names := ts.filterMap fun
      | .Name id pos => if (sc.names.lookup id == some .local && pos.line == line) = true then some id else none
      | _ => none
    if (names.length != ts.length || names.eraseDups.length != names.length) = true then some none
    else if vs.all (foldedForSure 8) = true then some none
    else if vs.all (constantsAlone 8) = true then none
    else some (some names)
def notTup : Expr → Bool
  | .Tuple .. => false
  | _ => true
/-- a store of a comprehension that the name's own place takes part in -/
def swC (S : Sx) (y : Str) (pl : Nat) : Expr → Bool
  | .ListComp _ _ sc pos => (S.sc.names.lookup y == some .local) && ((pl == pos.line) && !(sc.names.any fun (n, k) => n == y && (k == .local || k == .cell)))
  | .SetComp .. => true
  | .DictComp .. => true
  | _ => false
def isLcm : Ex → Bool
  | .lcm .. => true
  | .lcm2 .. => true
  | _ => false
def lcmOf : Ex → Ex
  | .own e => e
  | e => e
/-- a name of a slot that can be stored -/
def nmB (S : Sx) (i : Nat) (y : Str) : Bool := (S.N[i]? == some y) && (locB S.sc y && fnB S y)
def isLocal (S : Sx) (y : Str) : Bool := S.sc.names.lookup y == some .local
mutual
def chkS : Nat → Sx → Sm → Stmt → Bool
  | 0, _, _, _ => false
  | n + 1, S, s, st => match s with
    | .set i e => match st with
      | .Assign [.Name y p2] v _ => nmB S i y && (if swC S y p2.line v then isLcm (lcmOf e) && chkL n S (lcmOf e) v else chkE n S e v)
      | _ => false
    | .unp ts e => match st with
      | .Assign [.Tuple es _ _] v _ => chkTs S ts es && ((notTup v && notComp v) && chkE n S e v)
      | _ => false
    | .par is es => match st with
      | .Assign [.Tuple ts _ _] (.Tuple vs _ _) _ => chkEs n S es vs && match swN S.sc ts vs with
        | some none => chkTs S (is.map .nm) ts && decide (is.length ≤ 1000)
        | some (some nms) => match is with
          | [i, j] => match ts with
            | [.Name x _, .Name y _] => match vs with
              | [_, _] => (nmB S i x && nmB S j y) && ((isLocal S x && isLocal S y) && (decide (i ≠ j) && (nms == [x, y])))
              | _ => false
            | _ => false
          | [i, j, l] => match ts with
            | [.Name x _, .Name y _, .Name z _] => match vs with
              | [_, _, _] => ((nmB S i x && nmB S j y) && nmB S l z) && ((isLocal S x && (isLocal S y && isLocal S z)) && (decide (i ≠ j) && (decide (i ≠ l) && (decide (j ≠ l) && (nms == [x, y, z])))))
              | _ => false
            | _ => false
          | _ => false
        | none => false
      | _ => false
    | .setI o i e => match st with
      | .Assign [.Subscript p q _] v _ => (plainE q && notComp v) && (chkE n S o p && (chkE n S i q && chkE n S e v))
      | _ => false
    | .augI b o i e => match st with
      | .AugAssign (.Subscript p q _) op v _ => (plainE q && decide (op = b.op)) && (chkE n S o p && (chkE n S i q && chkE n S e v))
      | _ => false
    | .aug b i e => match st with
      | .AugAssign (.Name y _) op v _ => (nmB S i y && decide (op = b.op)) && chkE n S e v
      | _ => false
    | .ext i e => match st with
      | .AugAssign (.Name y _) .Add v _ => nmB S i y && chkE n S e v
      | _ => false
    | .setF c k o e => match st with
      | .Assign [.Attribute p y _] v _ => (((flds c)[k]? == some y) && (S.cl.contains c && notComp v)) && (chkE n S o p && chkE n S e v)
      | _ => false
    | .setII o1 i1 o2 i2 e1 e2 => match st with
      | .Assign [.Tuple [.Subscript a b q1, .Subscript c d q2] _ _] (.Tuple [v, w] _ _) _ => ((plainE b && plainE d) && ((plainE v && plainE w) && (swN S.sc [.Subscript a b q1, .Subscript c d q2] [v, w] == some none))) &&
        ((chkE n S o1 a && chkE n S i1 b) && ((chkE n S o2 c && chkE n S i2 d) && (chkE n S e1 v && chkE n S e2 w)))
      | _ => false
    | .setIN o1 i1 k e1 e2 => match st with
      | .Assign [.Tuple [.Subscript a b q1, .Name y q2] _ _] (.Tuple [v, w] _ _) _ => ((plainE b && nmB S k y) && ((plainE v && plainE w) && (swN S.sc [.Subscript a b q1, .Name y q2] [v, w] == some none))) &&
        ((chkE n S o1 a && chkE n S i1 b) && (chkE n S e1 v && chkE n S e2 w))
      | _ => false
    | .ex e => match st with
      | .Expr v _ => notComp v && chkE n S e v
      | _ => false
    | .app o e => match st with
      | .Expr (.Call (.Attribute p y p2) [v] [] p3) _ => ((y == ("append" : Str)) && (notCall0 p && ((p2.endLine == p3.line) && plainE v))) && (chkE n S o p && chkE n S e v)
      | _ => false
    | .ins o i e => match st with
      | .Expr (.Call (.Attribute p y p2) [q, v] [] p3) _ => ((y == ("insert" : Str)) && (notCall0 p && ((p2.endLine == p3.line) && (plainE q && plainE v)))) && (chkE n S o p && (chkE n S i q && chkE n S e v))
      | _ => false
    | .revI o => match st with
      | .Expr (.Call (.Attribute p y p2) [] [] p3) _ => ((y == ("reverse" : Str)) && (notCall0 p && (p2.endLine == p3.line))) && chkE n S o p
      | _ => false
    | .ret e => match st with
      | .Return (some v) _ => chkE n S e v
      | _ => false
    | .retN => match st with
      | .Return none _ => true
      | _ => false
    | .ite c a b => match st with
      | .If x p q _ => chkC n S c x && (chkSs n S a p && chkSs n S b q)
      | _ => false
    | .whl c b => match st with
      | .While x p [] _ => chkC n S c x && chkSs n S b p
      | _ => false
    | .for_ tg src b => match st with
      | .For t it p [] _ => plainE it && (chkI n S src t it && (chkT S tg t && chkSs n S b p))
      | _ => false
    | .brk => match st with
      | .Break _ => true
      | _ => false
    | .pass => match st with
      | .Pass _ => true
      | _ => false
    | .nev => true
    | _ => false
def chkSs : Nat → Sx → List Sm → List Stmt → Bool
  | 0, _, _, _ => false
  | n + 1, S, ss, sts => match ss with
    | .frz _ :: r => chkSs n S r sts
    | .nev :: _ => true
    | _ => match sts with
      | .Expr (.Constant (.str _) _ _) _ :: sr => chkSs n S ss sr
      | st :: sr => match ss with
        | s :: r => chkS n S s st && chkSs n S r sr
        | [] => false
      | [] => ss.isEmpty
end
section
variable {g : Gd} {C : Calls} {W' : WX} {S : Sx} {X : Cx} {n : Nat}
theorem blockK (hX : Xk g C W' S X) : X.env.blockKind = .function := by
  have hk : X.env.scope.kind = .function := by rw [hX.s]; exact hX.kf
  unfold Env.blockKind
  rw [hk]; rfl
theorem swN_ok (hX : Xk g C W' S X) {ts vs : List Expr} {k k2 : Nat} {p p2 : Pos} {r : Option (List Str)} (h : swN S.sc ts vs = some r) : swappedStores [.Tuple ts k p] (.Tuple vs k2 p2) X.env = pure r := by
  have hb := blockK hX
  have hk : ∀ id, X.env.kindOf id = S.sc.names.lookup id := fun id => by
    show X.env.scope.names.lookup id = _
    rw [hX.s]
  unfold swN at h
  unfold swappedStores
  simp only [hb, hk]
  split at h
  · cases h
    rename_i c
    have c2 : (!(ts.length == 2 || ts.length == 3) || vs.length != ts.length || ScopeKind.function != ScopeKind.function) = true := by rw [c]; rfl
    exact if_pos c2
  · rename_i c
    have c2 : ¬ (!(ts.length == 2 || ts.length == 3) || vs.length != ts.length || ScopeKind.function != ScopeKind.function) = true := by
      intro z
      rw [Bool.or_eq_true] at z
      rcases z with z | z
      · exact c z
      · cases z
    refine (if_neg c2).trans ?_
    split at h
    · cases h
      rename_i c3
      exact if_pos c3
    · rename_i c3
      refine (if_neg c3).trans ?_
      dsimp only at h
      split at h
      · cases h
        rename_i c4
        exact if_pos c4
      · rename_i c4
        refine (if_neg c4).trans ?_
        split at h
        · cases h
          rename_i c5
          exact if_pos c5
        · rename_i c5
          refine (if_neg c5).trans ?_
          split at h
          · cases h
          · cases h
            rename_i c6
            exact if_neg c6
theorem sw_none {ts : List Expr} {v : Expr} {k : Nat} {p : Pos} {env : Env} (h : notTup v = true) : swappedStores [.Tuple ts k p] v env = pure none := by
  cases v <;> first | rfl | cases h
theorem sw_sub {t v : Expr} {env : Env} (h : notTup t = true) (hl : (match t with
    | .List .. => false
    | _ => true) = true) : swappedStores [t] v env = pure none := by
  cases t <;> first | rfl | (cases h; done) | (cases hl; done)
theorem swC_false (hX : Xk g C W' S X) {y : Str} {p2 : Pos} {l : Nat} {v : Expr} (h : swC S y p2.line v = false) : swapsWith v (some (.Name y p2)) l X.env = pure false := by
  cases v <;> first | rfl | (cases h; done) | skip
  rename_i elt gs sc pos
  have hb := blockK hX
  have hk : X.env.kindOf y = S.sc.names.lookup y := by
    show X.env.scope.names.lookup y = _
    rw [hX.s]
  unfold swC at h
  unfold swapsWith
  simp only [hb, hk, Expr.pos]
  have e : ((ScopeKind.function == ScopeKind.function) && (S.sc.names.lookup y == some .local) && (p2.line == pos.line) && !(sc.names.any fun (n, k) => n == y && (k == .local || k == .cell))) = false := by
    rw [← h]
    simp [Bool.and_assoc]
  exact congrArg pure e
theorem swC_true (hX : Xk g C W' S X) {y : Str} {p2 : Pos} {l : Nat} {elt : Expr} {gs : List Comprehension} {sc : Scope} {pos : Pos} (h : swC S y p2.line (.ListComp elt gs sc pos) = true) :
    X.env.scope.names.lookup y = some .local ∧ swapsWith (.ListComp elt gs sc pos) (some (.Name y p2)) l X.env = pure true := by
  unfold swC at h
  simp only [Bool.and_eq_true, Bool.not_eq_true'] at h
  obtain ⟨h1, h2, h3⟩ := h
  have hy : X.env.scope.names.lookup y = some .local := by rw [hX.s]; exact beq_iff_eq.mp h1
  exact ⟨hy, sw_true (by rw [hX.s]; exact hX.kf) hy h2 h3⟩
theorem sole_plain {t v : Expr} {l : Nat} {env : Env} (h : notComp v = true) : swapsWithSole [t] v l env = pure false := sw_plain h
structure SndS (g : Gd) (C : Calls) (n : Nat) : Prop where
  s : ∀ {W' : WX} {S : Sx} {X : Cx}, Xk g C W' S X → ∀ (s : Sm) (st : Stmt), chkS n S s st = true → PS X st (TM1 g C W' s)
  ss : ∀ {W' : WX} {S : Sx} {X : Cx}, Xk g C W' S X → ∀ (ss : List Sm) (sts : List Stmt), chkSs n S ss sts = true → PSs X sts (TMs g C W' ss)
theorem nm_of (hX : Xk g C W' S X) {i : Nat} {y : Str} (h : nmB S i y = true) : X.N[i]? = some y ∧ L2.Loc X.env.scope y ∧ (X.fn y = true ∨ X.env.scope.names.lookup y = some .local) := by
  unfold nmB at h
  simp only [Bool.and_eq_true] at h
  obtain ⟨h1, h2, h3⟩ := h
  exact ⟨by rw [hX.n]; exact beq_iff_eq.mp h1, loc_of hX h2, fn_of' hX h3⟩
theorem local_of (hX : Xk g C W' S X) {y : Str} (h : isLocal S y = true) : X.env.scope.names.lookup y = some .local := by
  rw [hX.s]
  exact beq_iff_eq.mp h
/-- of a comprehension: it is one -/
theorem lcm_form {e : Ex} {x : Expr} (h : chkL n S e x = true) : ∃ elt gs sc pos, x = .ListComp elt gs sc pos := by
  cases n with
  | zero => cases h
  | succ m =>
    unfold chkL at h
    cases e <;> first | (cases h; done) | skip
    all_goals
      dsimp only at h
      split at h
      · exact ⟨_, _, _, _, rfl⟩
      · cases h
theorem lcm_own {e : Ex} {σ : L2.St} {H : Hp} {Q : VK} (h : isLcm (lcmOf e) = true) (q : TR g C W' e σ H Q) : TF g C W' (lcmOf e) σ H Q := by
  cases e <;> first | exact tf_tr q | exact tf_own q
theorem snd_s (ih : SndS g C n) (hX : Xk g C W' S X) (s : Sm) (st : Stmt) (h : chkS (n + 1) S s st = true) : PS X st (TM1 g C W' s) := by
  have E := fun {e : Ex} {x : Expr} (h : chkE n S e x = true) => ((snd_all g C n).e hX e x h).2.2
  unfold chkS at h
  cases s
  case set i e =>
    dsimp only at h
    split at h
    · rename_i y p2 v pos
      obtain ⟨h1, h2⟩ := and1 h
      obtain ⟨k1, k2, k3⟩ := nm_of hX h1
      split at h2
      · rename_i hsw
        obtain ⟨h3, h4⟩ := and1 h2
        obtain ⟨elt, gs, sc, vp, ev⟩ := lcm_form h4
        subst ev
        obtain ⟨z1, z2⟩ := swC_true (l := pos.line) hX hsw
        exact m_setT (((snd_all g C n).l hX _ _ h4).2 i y p2 pos k1 z1 z2) fun σ H Q q => lcm_own h3 q
      · rename_i hsw
        exact m_set hX k1 k2 k3 (E h2) (swC_false hX (by simpa using hsw))
    · cases h
  case unp ts e =>
    dsimp only at h
    split at h
    · simp only [Bool.and_eq_true] at h
      obtain ⟨h1, ⟨h2, h3⟩, h4⟩ := h
      obtain ⟨k1, k2, k3⟩ := chkTs_ok hX _ _ h1
      obtain ⟨l1, l2⟩ := assign_len (env := X.env) k2
      exact m_unp hX k1 l1 k3 l2 (E h4) (sole_plain h3) (sw_none h2)
    · cases h
  case par is es =>
    dsimp only at h
    split at h
    · obtain ⟨h1, h2⟩ := and1 h
      obtain ⟨a1, a2, a3⟩ := (snd_all g C n).es hX _ _ h1
      split at h2
      · rename_i hsw
        obtain ⟨h3, h4⟩ := and1 h2
        obtain ⟨k1, k2, k3⟩ := chkTs_ok hX _ _ h3
        obtain ⟨l1, l2⟩ := assign_len (env := X.env) k2
        rw [List.length_map] at k3
        exact m_parT hX k1 l1 k3 (of_decide_eq_true h4) l2 a1 (swN_ok hX hsw)
      · rename_i nms hsw
        split at h2
        · split at h2
          · split at h2
            · simp only [Bool.and_eq_true] at h2
              obtain ⟨⟨b1, b2⟩, ⟨b3, b4⟩, b5, b6⟩ := h2
              have e6 := beq_iff_eq.mp b6
              rw [e6] at hsw
              exact m_par2 hX (nm_of hX b1).1 (nm_of hX b2).1 (of_decide_eq_true b5) (local_of hX b3) (local_of hX b4) a1 (swN_ok hX hsw)
            · cases h2
          · cases h2
        · split at h2
          · split at h2
            · simp only [Bool.and_eq_true] at h2
              obtain ⟨⟨⟨b1, b2⟩, b3⟩, ⟨b4, b5, b6⟩, b7, b8, b9, b10⟩ := h2
              have e6 := beq_iff_eq.mp b10
              rw [e6] at hsw
              exact m_par3 hX (nm_of hX b1).1 (nm_of hX b2).1 (nm_of hX b3).1 (of_decide_eq_true b7) (of_decide_eq_true b8) (of_decide_eq_true b9) (local_of hX b4) (local_of hX b5) (local_of hX b6) a1 (swN_ok hX hsw)
            · cases h2
          · cases h2
        · cases h2
      · cases h2
    · cases h
  case setI o i e =>
    dsimp only at h
    split at h
    · simp only [Bool.and_eq_true] at h
      obtain ⟨⟨h1, h2⟩, h3, h4, h5⟩ := h
      exact m_setI (E h3) (E h4) (E h5) (sole_plain h2) rfl (slice_plain h1)
    · cases h
  case augI b o i e =>
    dsimp only at h
    split at h
    · simp only [Bool.and_eq_true] at h
      obtain ⟨⟨h1, h2⟩, h3, h4, h5⟩ := h
      have e2 := of_decide_eq_true h2
      subst e2
      exact m_augI (E h3) (E h4) (E h5) (slice_plain h1)
    · cases h
  case aug b i e =>
    dsimp only at h
    split at h
    · simp only [Bool.and_eq_true] at h
      obtain ⟨⟨h1, h2⟩, h3⟩ := h
      have e2 := of_decide_eq_true h2
      subst e2
      obtain ⟨k1, k2, k3⟩ := nm_of hX h1
      exact m_aug hX k1 k2 k3 (E h3)
    · cases h
  case ext i e =>
    dsimp only at h
    split at h
    · obtain ⟨h1, h3⟩ := and1 h
      obtain ⟨k1, k2, k3⟩ := nm_of hX h1
      exact m_ext hX k1 k2 k3 (E h3)
    · cases h
  case setF c k o e =>
    dsimp only at h
    split at h
    · simp only [Bool.and_eq_true] at h
      obtain ⟨⟨h1, h2, h3⟩, h4, h5⟩ := h
      exact m_setF hX (con_of h2) (beq_iff_eq.mp h1) (E h4) (E h5) (sw_plain h3)
    · cases h
  case setII o1 i1 o2 i2 e1 e2 =>
    dsimp only at h
    split at h
    · simp only [Bool.and_eq_true] at h
      obtain ⟨⟨⟨h1, h2⟩, ⟨h3, h4⟩, h5⟩, ⟨h6, h7⟩, ⟨h8, h9⟩, h10, h11⟩ := h
      exact m_setII hX (E h6) (E h7) (E h8) (E h9) (slice_plain h1) (slice_plain h2) (E h10) (E h11) (star_plain h3) (star_plain h4) (swN_ok hX (beq_iff_eq.mp h5))
    · cases h
  case setIN o1 i1 k e1 e2 =>
    dsimp only at h
    split at h
    · simp only [Bool.and_eq_true] at h
      obtain ⟨⟨⟨h1, h2⟩, ⟨h3, h4⟩, h5⟩, ⟨h6, h7⟩, h10, h11⟩ := h
      obtain ⟨k1, k2, k3⟩ := nm_of hX h2
      exact m_setIN hX (E h6) (E h7) (slice_plain h1) k1 k2 k3 (E h10) (E h11) (star_plain h3) (star_plain h4) (swN_ok hX (beq_iff_eq.mp h5))
    · cases h
  case ex e =>
    dsimp only at h
    split at h
    · obtain ⟨h1, h2⟩ := and1 h
      exact m_ex (E h2) (sw_plain h1)
    · cases h
  case app o e =>
    dsimp only at h
    split at h
    · simp only [Bool.and_eq_true] at h
      obtain ⟨⟨h1, h2, h3, h4⟩, h5, h6⟩ := h
      have e1 := beq_iff_eq.mp h1
      subst e1
      exact m_app (E h5) (E h6) (base_plain h2) h3 (star_plain h4)
    · cases h
  case ins o i e =>
    dsimp only at h
    split at h
    · simp only [Bool.and_eq_true] at h
      obtain ⟨⟨h1, h2, h3, h4, h5⟩, h6, h7, h8⟩ := h
      have e1 := beq_iff_eq.mp h1
      subst e1
      exact m_ins (E h6) (E h7) (E h8) (base_plain h2) h3 (star_plain h4) (star_plain h5)
    · cases h
  case revI o =>
    dsimp only at h
    split at h
    · simp only [Bool.and_eq_true] at h
      obtain ⟨⟨h1, h2, h3⟩, h6⟩ := h
      have e1 := beq_iff_eq.mp h1
      subst e1
      exact m_revI (E h6) (base_plain h2) h3
    · cases h
  case ret e =>
    dsimp only at h
    split at h
    · exact m_ret (E h)
    · cases h
  case retN =>
    dsimp only at h
    split at h
    · exact m_retN
    · cases h
  case ite c a b =>
    dsimp only at h
    split at h
    · simp only [Bool.and_eq_true] at h
      obtain ⟨h1, h2, h3⟩ := h
      exact m_if ((snd_all g C n).c hX _ _ h1) (ih.ss hX _ _ h2) (ih.ss hX _ _ h3)
    · cases h
  case whl c b =>
    dsimp only at h
    split at h
    · obtain ⟨h1, h2⟩ := and1 h
      exact m_whl hX ((snd_all g C n).c hX _ _ h1) (ih.ss hX _ _ h2)
    · cases h
  case for_ tg src b =>
    dsimp only at h
    split at h
    · simp only [Bool.and_eq_true] at h
      obtain ⟨h1, h2, h3, h4⟩ := h
      obtain ⟨k, es, e1, p1⟩ := (snd_all g C n).i hX _ _ _ h2
      subst e1
      exact m_for hX p1 (chkT_ok hX _ _ h3) (ih.ss hX _ _ h4) fun v => fold_plain h1
    · cases h
  case brk =>
    dsimp only at h
    split at h
    · exact m_brk
    · cases h
  case pass =>
    dsimp only at h
    split at h
    · exact m_pass
    · cases h
  case nev => exact m_nev
  all_goals cases h
theorem ss_nev {sts : List Stmt} {r : List Sm} : PSs X sts (TMs g C W' (.nev :: r)) := by
  refine pss_imp pss_never ?_
  rintro D σ H ⟨R, τ, h, d, hr, sr, hw, e⟩
  exact hw
theorem snd_ss (ih : SndS g C n) (hX : Xk g C W' S X) (ss : List Sm) (sts : List Stmt) (h : chkSs (n + 1) S ss sts = true) : PSs X sts (TMs g C W' ss) := by
  unfold chkSs at h
  split at h
  · exact m_frz (ih.ss hX _ _ h)
  · exact ss_nev
  · split at h
    · exact m_skip m_doc (ih.ss hX _ _ h)
    · split at h
      · obtain ⟨h1, h2⟩ := and1 h
        exact m_cons (ih.s hX _ _ h1) (ih.ss hX _ _ h2)
      · cases h
    · have e := List.isEmpty_iff.mp h
      subst e
      exact m_nil
theorem snds_all (g : Gd) (C : Calls) : ∀ n, SndS g C n
  | 0 => ⟨fun _ _ _ h => (by cases h), fun _ _ _ h => (by cases h)⟩
  | n + 1 => by
    have ih := snds_all g C n
    exact ⟨fun hX => snd_s ih hX, fun hX => snd_ss ih hX⟩
end
end Ri
end
section
set_option Elab.async false
set_option linter.all false
set_option maxRecDepth 100000
set_option maxHeartbeats 4000000
/-! Ri, part 16: all defs keep what their slim bodies say, to any depth. -/
namespace Ri
open PySem PySem.W L2
/-- a def of the row, as it stands behind the top -/
structure Ent where
  key : String
  ps : List Str
  N : List Str
  x : Str
  qual : Str
  params : Arguments
  body : List Stmt
  scope : Scope
  f : Addr
  fd : FuncData
def Sx.of (S : Sx) (N : List Str) (sc : Scope) : Sx := { S with sc := sc, N := N, fc := none }
/-- what a def's text must satisfy -/
structure EntOk (K : PySem.W.Frag) (S : Sx) (T : List (String × Df)) (e : Ent) : Prop where
  fun_ : FunD K e.x e.qual e.params e.body e.scope [] [] e.f e.fd
  sc : FnScope e.N e.ps e.scope
  binds : Binds K e.fd e.ps []
  tab : ∃ d n, T.lookup e.key = some d ∧ d.ps = e.ps.length ∧ d.ns = e.N.length ∧ chkSs n (S.of e.N e.scope) d.body e.body = true
/-- what the heap behind the top says -/
structure Facts (g : Gd) (mg : Str → Option Value) (S : Sx) (es : List Ent) : Prop where
  callf : ∀ f ∈ S.fs, ∃ e ∈ es, e.key = f ∧ mg (Str.ofString f) = some (.ref e.f) ∧ PySem.W.keepIn g.K (.ref e.f) = true
  methf : ∀ p ∈ S.ms, ∃ e ∈ es, e.key = p.2.2 ∧ Meth g.K (g.CA p.1) (Str.ofString p.2.1) e.f ∧ Str.ofString p.2.1 ∉ flds p.1
  newf : ∀ c ∈ S.nc, ∃ e ∈ es, e.key = initOf c ∧ Mk g.K (g.CA c) e.f ∧ mg (Str.ofString (nmOf c)) = some (.ref (g.CA c))
  clf : ∀ c ∈ S.cl, Cls g.K (g.CA c) ∧ ∀ f ∈ flds c, NoAttr g.K (g.CA c) f
  fr : ∀ x ∈ S.free, mg (Str.ofString x) = none
  kit : ∀ k ∈ S.kd, ∀ t : Tag, tagIn S t = true → PySem.W.kitOne g.K (tagV g t) (kdU g k) = some (kdT k t)
  kin : ∀ k ∈ S.kd, (∃ c, k = .cls c ∧ mg (Str.ofString (nmOf c)) = some (.ref (g.CA c))) ∨ (k ≠ .err ∧ (∀ c, k ≠ .cls c) ∧ mg (Str.ofString (kdS k)) = none)
  cty : ∀ c ∈ S.cl, PySem.W.findIn g.K (.ref (g.CA c)) "__class__" = some (some (.builtin "object.__class__")) ∧ PySem.W.specialIn g.K (.builtin "object.__class__") "__get__" = some (some (.builtin "getset_descriptor.__get__")) ∧ PySem.W.takesIn g.K (.builtin "object.__class__") = some true ∧ PySem.W.mroIn g.K (g.CA c) (.type "object") = some true
  prf : ∀ p ∈ S.ms1, ∃ e ∈ es, e.key = p.2.2 ∧ ((p.2.1 ≠ "__eq__" ∧ ∃ pa, PropOf g.K (g.CA p.1) (Str.ofString p.2.1) pa e.f) ∨ p.2.1 = "__eq__" ∧ PySem.W.findIn g.K (.ref (g.CA p.1)) "__eq__" = some (some (.ref e.f)) ∧ PySem.W.isFn g.K (.ref e.f) = true)
  cst : ∀ p ∈ S.cs, ∃ v u, mg (Str.ofString p.1) = some u ∧ RelV v u ∧ ∀ R h H, Rep (g.at R) h H p.2 v
section
variable {P : Program} {w : World} {g : Gd} {mg : Str → Option Value} {base : Heap} {S : Sx} {T : List (String × Df)} {es : List Ent}
theorem srel_start {R : Addr → Prop} {h : Hw} {H : Hp} {N : List Str} : ∀ {ws : List W} {vs : List V}, Reps (g.at R) h H ws vs → SRel (g.at R) h H (Ri.start N.length ws) (L2.start N vs) := by
  have get : ∀ (k : Nat) {ws : List W} {vs : List V}, Reps (g.at R) h H ws vs → ∀ (i : Nat) (w : W), slot (ws.map some ++ List.replicate k none) i = some w → ∃ v, (vs.map some ++ List.replicate k none)[i]? = some (some v) ∧ Rep (g.at R) h H w v := by
    intro k ws
    induction ws with
    | nil =>
      intro vs r i w e
      exfalso
      simp only [List.map_nil, List.nil_append] at e
      induction k generalizing i with
      | zero => simp [slot] at e
      | succ k ih =>
        rw [List.replicate_succ] at e
        cases i with
        | zero => simp [slot] at e
        | succ i => exact ih i e
    | cons x xs ih =>
      intro vs r i w e
      simp only [Reps] at r
      obtain ⟨v, vs', e1, r1, r2⟩ := r
      subst e1
      cases i with
      | zero =>
        simp only [List.map_cons, List.cons_append, slot, Option.some.injEq] at e
        subst e
        exact ⟨v, rfl, r1⟩
      | succ i =>
        simp only [List.map_cons, List.cons_append, slot] at e
        obtain ⟨u, e2, r3⟩ := ih r2 i w e
        exact ⟨u, by simpa using e2, r3⟩
  intro ws vs r
  have l := r.length
  refine ⟨by simp [Ri.start, L2.start, l], fun i w e => ?_⟩
  unfold Ri.start at e
  unfold L2.start
  rw [← l]
  exact get _ r i w e
theorem callD_ps {d : Nat} {f : String} {df : Df} {ws : List W} {h : Hw} {P' : KW} {E : XW} (ht : T.lookup f = some df) (q : callD T (d + 1) f ws h P' E) : ws.length = df.ps ∧ wpSs (callD T d) df.body (Ri.start df.ns ws) h { nx := fun _ h' => P' .non h', rt := P', bk := fun _ _ => False, ct := fun _ _ => False, ex := fun _ => E } := by
  unfold callD at q
  rw [ht] at q
  exact q
theorem all_fn (F : Facts g mg S es) (ok : ∀ e ∈ es, EntOk g.K S T e) : ∀ d, ∀ e ∈ es, FnOk P w g.K mg base (L2.CX P w) (2 * d) e.f e.fd e.ps (spR g (callD T d) e.key)
  | 0, e, he => by
    have no : ∀ vs H Q E, ¬ spR g (callD T 0) e.key vs H Q E := fun vs H Q E ⟨R, h, ws, P', E', _, _, q, _⟩ => by
      unfold callD at q
      exact q
    exact ⟨fun vs H Q E q => (no _ _ _ _ q).elim, fun A outer s H args us vs Q E _ _ _ _ q => (no _ _ _ _ q).elim⟩
  | d + 1, e, he => by
    have ih := all_fn F ok d
    obtain ⟨df, n, ht, hps, hns, hchk⟩ := (ok e he).tab
    have hl : 2 * (d + 1) = (2 * d + 1) + 1 := by omega
    rw [hl]
    refine (ok e he).fun_.ok (ok e he).sc (fun vs H Q E q => ?_) (fun cdv A outer s H vs Q E hr q => ?_)
    · obtain ⟨R, h, ws, P', E', _, r, q, _⟩ := q
      rw [← r.length, (callD_ps ht q).1, hps]
    · have hX : Xk g (callD T d) (fun cls x _ H' => E cls x H') (S.of e.N e.scope) (cxOf (L2.CX P w) P w g.K mg base e.N e.qual e.scope e.f cdv A outer s H E) := {
        k := rfl
        n := rfl
        nd := (ok e he).sc.nd
        s := rfl
        calm := rfl
        fn := fun _ => rfl
        kf := (ok e he).sc.kind
        room := hr.mono (by omega)
        po := passes_of rfl
        tk := takes_of rfl rfl rfl rfl
        callf := fun f hf => by
          obtain ⟨e', he', k1, k2, k3⟩ := F.callf f hf
          have ff := ih e' he'
          rw [k1] at ff
          exact ⟨2 * d, e'.f, e'.fd, e'.ps, ff, hr.mono (by omega), k2, k3, (ok e' he').binds⟩
        methf := fun p hp => by
          obtain ⟨e', he', k1, k2, k3⟩ := F.methf p hp
          have ff := ih e' he'
          rw [k1] at ff
          exact ⟨2 * d, e'.f, e'.fd, e'.ps, ff, hr.mono (by omega), k2, (ok e' he').binds, k3⟩
        newf := fun c hc => by
          obtain ⟨e', he', k1, k2, k3⟩ := F.newf c hc
          have ff := ih e' he'
          rw [k1] at ff
          exact ⟨2 * d, e'.f, e'.fd, e'.ps, k2, ff, hr, k3, (ok e' he').binds⟩
        clf := F.clf
        fr := F.fr
        kit := F.kit
        kin := F.kin
        cty := F.cty
        prf := fun p hp => by
          obtain ⟨e', he', k1, k2⟩ := F.prf p hp
          have ff := ih e' he'
          rw [k1] at ff
          exact ⟨2 * d, e'.f, e'.fd, e'.ps, ff, hr, (ok e' he').binds, k2⟩
        cst := F.cst }
      refine ⟨TMs g (callD T d) (fun cls x _ H' => E cls x H') df.body, (snds_all g (callD T d) n).ss hX _ _ hchk, ?_⟩
      obtain ⟨R, h, ws, P', E', hr', r, q, pe, px⟩ := q
      obtain ⟨_, q⟩ := callD_ps ht q
      rw [hns] at q
      exact ⟨R, _, h, _, hr', srel_start r, q, ⟨fun τ' h' σ' H' q y hr sr => pe _ h' _ H' q y hr rep_non, pe, fun _ _ _ _ z => False.elim z, fun _ _ _ _ z => False.elim z, fun τ' c ws' h' cls x σ' H' q y hr sr rx => px c ws' h' cls x H' q y hr rx⟩⟩
end
end Ri
end
section
set_option Elab.async false
set_option linter.all false
set_option maxRecDepth 100000
set_option maxHeartbeats 4000000
/-! Ri, part 17: what is looked at behind the top; the end. -/
namespace Ri
open PySem PySem.W L2
/-- a def of the row, by name: a function; a method of a class; a property of a class -/
structure RD where
  key : String
  cls : Option Cl
  nm : String
  prop : Bool
  params : Arguments
  body : List Stmt
  scope : Scope
  qual : Str
  ps : List Str
  N : List Str
def caK (K : PySem.W.Frag) (c : Cl) : Addr := He.ga K (Str.ofString (nmOf c))
def adOf (K : PySem.W.Frag) (d : RD) : Addr := match d.cls with
  | none => He.ga K (Str.ofString d.nm)
  | some c => if d.prop then (match PySem.W.recIn K (He.ma K (caK K c) (Str.ofString d.nm)) "property" with
    | some (.ref a :: _) => a
    | _ => 0) else He.ma K (caK K c) (Str.ofString d.nm)
def fdOf (K : PySem.W.Frag) (d : RD) : FuncData := match K.lookup (adOf K d) with
  | some ⟨_, _, .func fd, _⟩ => fd
  | _ => default
def entOf (K : PySem.W.Frag) (d : RD) : Ent := ⟨d.key, d.ps, d.N, Str.ofString d.nm, d.qual, d.params, d.body, d.scope, adOf K d, fdOf K d⟩
/-- what of a def's record is compared with the row -/
abbrev FnV := Option (Str × Str × Arguments × FuncBody × Scope × Addr × List (Str × Addr) × Addr)
def fnV (K : PySem.W.Frag) (d : RD) : FnV := match K.lookup (adOf K d) with
  | some ⟨_, _, .func fd, _⟩ => some (fd.name, fd.qualname, fd.params, fd.body, fd.scope, fd.globals, fd.closure, fd.builtins)
  | _ => none
def RD.val (d : RD) : FnV := some (Str.ofString d.nm, d.qual, d.params, .stmts d.body, d.scope, mainGlobals, [], builtinsNs)
def RD.ok (K : PySem.W.Frag) (d : RD) : Bool := PySem.W.keepIn K (.ref (adOf K d)) && (match K.lookup (adOf K d) with
  | some ⟨_, _, .func fd, _⟩ => PySem.W.codeIn K fd.code d.qual && (He.dflB K fd.defaults [] && He.kwdB K fd.kwdefaults [])
  | _ => false)
theorem rd_fun {K : PySem.W.Frag} {d : RD} (e : fnV K d = d.val) (c : d.ok K = true) : FunD K (Str.ofString d.nm) d.qual d.params d.body d.scope [] [] (adOf K d) (fdOf K d) := by
  obtain ⟨kp, c2⟩ := and1 c
  unfold fnV at e
  unfold fdOf
  cases q : K.lookup (adOf K d) with
  | none =>
    rw [q] at c2
    cases c2
  | some o =>
    obtain ⟨oc, od, dt, osl⟩ := o
    rw [q] at c2 e
    cases dt with
    | func fd =>
      obtain ⟨n1, n2, n3, n4, n5, n6, n7, n8, n9, n10, n11, n12, n13, n14, n15⟩ := fd
      have e2 : (some (n1, n2, n3, n4, n5, n6, n7, n15) : FnV) = d.val := e
      unfold RD.val at e2
      simp only [Option.some.injEq, Prod.mk.injEq] at e2
      obtain ⟨h1, h2, h3, h4, h5, h6, h7, h8⟩ := e2
      subst h1 h2 h3 h4 h5 h6 h7 h8
      have c3 : (PySem.W.codeIn K n13 d.qual && (He.dflB K n8 [] && He.kwdB K n9 [])) = true := c2
      obtain ⟨k1, k2⟩ := and1 c3
      obtain ⟨k3, k4⟩ := and1 k2
      exact ⟨⟨oc, od, n8, n9, n10, n11, n12, n13, n14, osl, rfl, q, k1, He.dflB_ok k3, He.kwdB_ok k4⟩, kp⟩
    | _ => cases c2
/-! ### constants -/
mutual
def repB (K : PySem.W.Frag) : W → Value → Bool
  | .int i, u => match u with
    | .int j _ => i == j
    | _ => false
  | .str s, u => match u with
    | .str t _ => s == t
    | _ => false
  | .tup ws, u => match u with
    | .ref a => match K.lookup a with
      | some ⟨.type "tuple", _, .seq its _, _⟩ => decide (its.size ≤ 1000) && repsB K ws its.toList
      | _ => false
    | _ => false
  | _, _ => false
def repsB (K : PySem.W.Frag) : List W → List Value → Bool
  | [], us => us.isEmpty
  | w :: ws, us => match us with
    | u :: us => repB K w u && repsB K ws us
    | [] => false
end
section
variable {g : Gd}
mutual
theorem repB_ok : ∀ (w : W) (u : Value), repB g.K w u = true → ∃ v, RelV v u ∧ ∀ R h H, Rep (g.at R) h H w v
  | .int i, u, h => by
    unfold repB at h
    cases u <;> first | (cases h; done) | skip
    have e := beq_iff_eq.mp h
    subst e
    exact ⟨.int i, ⟨_, rfl⟩, fun _ _ _ => rep_int⟩
  | .str i, u, h => by
    unfold repB at h
    cases u <;> first | (cases h; done) | skip
    have e := beq_iff_eq.mp h
    subst e
    exact ⟨.str i, ⟨_, rfl⟩, fun _ _ _ => rep_str⟩
  | .tup ws, u, h => by
    unfold repB at h
    cases u <;> first | (cases h; done) | skip
    rename_i a
    dsimp only at h
    split at h
    · rename_i dd its n sl e
      obtain ⟨h1, h2⟩ := and1 h
      have hz := of_decide_eq_true h1
      obtain ⟨vs, rv, rr⟩ := repsB_ok ws _ h2
      refine ⟨.ref a, rfl, fun R h H => ?_⟩
      simp only [Rep]
      refine ⟨a, vs, rfl, ⟨.inr (.inr ⟨_, its, n, e, rfl, rfl, le1000 hz, rv⟩), ?_⟩, rr R h H⟩
      have l : vs.length = its.size := by
        rw [rv.length]
        exact Array.length_toList
      rw [l]
      exact le1000 hz
    · cases h
  | .non, _, h => by simp [repB] at h
  | .bl _, _, h => by simp [repB] at h
  | .lst _, _, h => by simp [repB] at h
  | .obj _ _, _, h => by simp [repB] at h
  | .exc _ _, _, h => by simp [repB] at h
  | .scr _, _, h => by simp [repB] at h
  | .loc _, _, h => by simp [repB] at h
theorem repsB_ok : ∀ (ws : List W) (us : List Value), repsB g.K ws us = true → ∃ vs, Vals vs us ∧ ∀ R h H, Reps (g.at R) h H ws vs
  | [], us, h => by
    cases us with
    | nil => exact ⟨[], .nil, fun _ _ _ => by simp only [Reps]⟩
    | cons => cases h
  | w :: ws, us, h => by
    cases us with
    | nil => cases h
    | cons u us =>
      unfold repsB at h
      dsimp only at h
      obtain ⟨h1, h2⟩ := and1 h
      obtain ⟨v, r, k⟩ := repB_ok w u h1
      obtain ⟨vs, rs, ks⟩ := repsB_ok ws us h2
      exact ⟨v :: vs, .cons r rs, fun R h H => by simp only [Reps]; exact ⟨v, vs, rfl, k R h H, ks R h H⟩⟩
end
end
/-! ### the facts -/
def gdOf (K : PySem.W.Frag) : Gd := { K := K, CA := caK K, XA := fun x => He.ga K (Str.ofString x), R := fun _ => False }
def tags (S : Sx) : List Tag := [.non, .bl, .int, .str, .tup, .lst] ++ S.cl.map .obj
def hasD (ds : List RD) (key nm : String) (c : Option Cl) (pr : Bool) : Bool := ds.any fun d => (d.key == key) && ((d.nm == nm) && (decide (d.cls = c) && (d.prop == pr)))
theorem hasD_ok {ds : List RD} {key nm : String} {c : Option Cl} {pr : Bool} (h : hasD ds key nm c pr = true) : ∃ d ∈ ds, d.key = key ∧ d.nm = nm ∧ d.cls = c ∧ d.prop = pr := by
  obtain ⟨d, m, e⟩ := List.any_eq_true.mp h
  simp only [Bool.and_eq_true] at e
  obtain ⟨h1, h2, h3, h4⟩ := e
  exact ⟨d, m, beq_iff_eq.mp h1, beq_iff_eq.mp h2, of_decide_eq_true h3, beq_iff_eq.mp h4⟩
def clB (K : PySem.W.Frag) (c : Cl) : Bool := (He.Fa.cls (Str.ofString (nmOf c))).ok K && ((flds c).all (fun f => (He.Fa.noat (Str.ofString (nmOf c)) f).ok K) &&
  (decide (PySem.W.findIn K (.ref (caK K c)) "__class__" = some (some (.builtin "object.__class__"))) && (decide (PySem.W.specialIn K (.builtin "object.__class__") "__get__" = some (some (.builtin "getset_descriptor.__get__"))) &&
    (decide (PySem.W.takesIn K (.builtin "object.__class__") = some true) && decide (PySem.W.mroIn K (caK K c) (.type "object") = some true)))))
def kdB (S : Sx) (K : PySem.W.Frag) (k : Kd) : Bool := (match k with
  | .cls c => (He.Fa.glo (Str.ofString (nmOf c))).ok K
  | .err => false
  | k => (He.Fa.free (Str.ofString (kdS k))).ok K) && (tags S).all fun t => decide (PySem.W.kitOne K (tagV (gdOf K) t) (kdU (gdOf K) k) = some (kdT k t))
def propB (K : PySem.W.Frag) (c : Cl) (m : String) : Bool :=
  let p := He.ma K (caK K c) (Str.ofString m)
  decide (PySem.W.findIn K (.ref (caK K c)) (Str.ofString m) = some (some (.ref p))) && (decide (PySem.W.specialIn K (.ref p) "__get__" = some (some (.builtin "property.__get__"))) && (decide (PySem.W.takesIn K (.ref p) = some true) &&
    match PySem.W.recIn K p "property" with
    | some (.ref _ :: _) => true
    | _ => false))
def m1B (ds : List RD) (K : PySem.W.Frag) (p : Cl × String × String) : Bool := if p.2.1 = "__eq__" then hasD ds p.2.2 p.2.1 (some p.1) false && (decide (PySem.W.findIn K (.ref (caK K p.1)) "__eq__" = some (some (.ref (He.ma K (caK K p.1) "__eq__")))) && PySem.W.isFn K (.ref (He.ma K (caK K p.1) "__eq__")))
  else hasD ds p.2.2 p.2.1 (some p.1) true && propB K p.1 p.2.1
def csB (K : PySem.W.Frag) (p : String × W) : Bool := match PySem.W.nsIn K mainGlobals (Str.ofString p.1) with
  | some (some u) => repB K p.2 u
  | _ => false
def okR (S : Sx) (ds : List RD) (K : PySem.W.Frag) : Bool :=
  S.fs.all (fun f => hasD ds f f none false && ((He.Fa.glo (Str.ofString f)).ok K && PySem.W.keepIn K (.ref (He.ga K (Str.ofString f))))) &&
  (S.ms.all (fun p => hasD ds p.2.2 p.2.1 (some p.1) false && ((He.Fa.meth (Str.ofString (nmOf p.1)) (Str.ofString p.2.1)).ok K && !((flds p.1).contains (Str.ofString p.2.1)))) &&
  (S.nc.all (fun c => hasD ds (initOf c) "__init__" (some c) false && ((He.Fa.mkr (Str.ofString (nmOf c))).ok K && (He.Fa.glo (Str.ofString (nmOf c))).ok K)) &&
  (S.cl.all (clB K) && (S.free.all (fun x => (He.Fa.free (Str.ofString x)).ok K) && (S.kd.all (kdB S K) && (S.ms1.all (m1B ds K) && S.cs.all (csB K)))))))
section
variable {S : Sx} {ds : List RD} {K : PySem.W.Frag} {h : Heap} {mg : Str → Option Value}
theorem ad_fn {d : RD} (h : d.cls = none) : adOf K d = He.ga K (Str.ofString d.nm) := by unfold adOf; rw [h]
theorem ad_me {d : RD} {c : Cl} (h : d.cls = some c) (hp : d.prop = false) : adOf K d = He.ma K (caK K c) (Str.ofString d.nm) := by unfold adOf; rw [h, hp]; rfl
theorem facts_of (X : K.In h) (G : h.Ns mainGlobals mg) (ok : okR S ds K = true) : Facts (gdOf K) mg S (ds.map (entOf K)) := by
  unfold okR at ok
  simp only [Bool.and_eq_true] at ok
  obtain ⟨k1, k2, k3, k4, k5, k6, k7, k8⟩ := ok
  have mem : ∀ {d : RD}, d ∈ ds → entOf K d ∈ ds.map (entOf K) := fun {d} m => List.mem_map.mpr ⟨d, m, rfl⟩
  refine { callf := fun f hf => ?_, methf := fun p hp => ?_, newf := fun c hc => ?_, clf := fun c hc => ?_, fr := fun x hx => ?_, kit := fun k hk t ht => ?_, kin := fun k hk => ?_, cty := fun c hc => ?_, prf := fun p hp => ?_, cst := fun p hp => ?_ }
  · have z := List.all_eq_true.mp k1 f hf
    simp only [Bool.and_eq_true] at z
    obtain ⟨z1, z2, z3⟩ := z
    obtain ⟨d, m, e1, e2, e3, e4⟩ := hasD_ok z1
    have ea : adOf K d = He.ga K (Str.ofString f) := by rw [ad_fn e3, e2]
    exact ⟨entOf K d, mem m, e1, by show mg _ = some (.ref (adOf K d)); rw [ea]; exact He.glo_ok X G z2, by show PySem.W.keepIn K (.ref (adOf K d)) = true; rw [ea]; exact z3⟩
  · have z := List.all_eq_true.mp k2 p hp
    simp only [Bool.and_eq_true] at z
    obtain ⟨z1, z2, z3⟩ := z
    obtain ⟨d, m, e1, e2, e3, e4⟩ := hasD_ok z1
    have ea : adOf K d = He.ma K (caK K p.1) (Str.ofString p.2.1) := by rw [ad_me e3 e4, e2]
    refine ⟨entOf K d, mem m, e1, by show Meth K (caK K p.1) _ (adOf K d); rw [ea]; exact He.meth_ok z2, fun q => ?_⟩
    rw [List.contains_iff_mem.mpr q] at z3
    cases z3
  · have z := List.all_eq_true.mp k3 c hc
    simp only [Bool.and_eq_true] at z
    obtain ⟨z1, z2, z3⟩ := z
    obtain ⟨d, m, e1, e2, e3, e4⟩ := hasD_ok z1
    have ea : adOf K d = He.ma K (caK K c) "__init__" := by rw [ad_me e3 e4, e2]
    exact ⟨entOf K d, mem m, e1, by show Mk K (caK K c) (adOf K d); rw [ea]; exact He.mkr_ok z2, He.glo_ok X G z3⟩
  · have z := List.all_eq_true.mp k4 c hc
    unfold clB at z
    simp only [Bool.and_eq_true] at z
    exact ⟨He.cls_ok z.1, fun f hf => He.noat_ok (List.all_eq_true.mp z.2.1 f hf)⟩
  · exact He.free_ok X G (List.all_eq_true.mp k5 x hx)
  · have z := List.all_eq_true.mp k6 k hk
    unfold kdB at z
    have z2 := (and1 z).2
    have mt : t ∈ tags S := by
      unfold tags
      cases t with
      | obj c =>
        have mc : c ∈ S.cl := by simpa [tagIn] using ht
        exact List.mem_append_right _ (List.mem_map.mpr ⟨c, mc, rfl⟩)
      | _ => simp
    exact of_decide_eq_true (List.all_eq_true.mp z2 t mt)
  · have z := (and1 (show (_ && _) = true from List.all_eq_true.mp k6 k hk)).1
    cases k with
    | cls c => exact .inl ⟨c, rfl, He.glo_ok X G z⟩
    | err => cases z
    | int => exact .inr ⟨by simp, by simp, He.free_ok X G z⟩
    | bool => exact .inr ⟨by simp, by simp, He.free_ok X G z⟩
    | str => exact .inr ⟨by simp, by simp, He.free_ok X G z⟩
    | tuple => exact .inr ⟨by simp, by simp, He.free_ok X G z⟩
    | list => exact .inr ⟨by simp, by simp, He.free_ok X G z⟩
  · have z := List.all_eq_true.mp k4 c hc
    unfold clB at z
    simp only [Bool.and_eq_true] at z
    obtain ⟨_, _, z1, z2, z3, z4⟩ := z
    exact ⟨of_decide_eq_true z1, of_decide_eq_true z2, of_decide_eq_true z3, of_decide_eq_true z4⟩
  · have z := List.all_eq_true.mp k7 p hp
    unfold m1B at z
    split at z
    · rename_i en
      simp only [Bool.and_eq_true] at z
      obtain ⟨z1, z2, z3⟩ := z
      obtain ⟨d, m, e1, e2, e3, e4⟩ := hasD_ok z1
      have ea : adOf K d = He.ma K (caK K p.1) "__eq__" := by rw [ad_me e3 e4, e2, en]
      refine ⟨entOf K d, mem m, e1, .inr ⟨en, ?_, ?_⟩⟩
      · show PySem.W.findIn K (.ref (caK K p.1)) "__eq__" = some (some (.ref (adOf K d)))
        rw [ea]
        exact of_decide_eq_true z2
      · show PySem.W.isFn K (.ref (adOf K d)) = true
        rw [ea]
        exact z3
    · rename_i en
      obtain ⟨z1, z2⟩ := and1 z
      obtain ⟨d, m, e1, e2, e3, e4⟩ := hasD_ok z1
      unfold propB at z2
      simp only [Bool.and_eq_true] at z2
      obtain ⟨y1, y2, y3, y4⟩ := z2
      refine ⟨entOf K d, mem m, e1, .inl ⟨en, He.ma K (caK K p.1) (Str.ofString p.2.1), of_decide_eq_true y1, of_decide_eq_true y2, of_decide_eq_true y3, ?_⟩⟩
      split at y4
      · rename_i a rest er
        refine ⟨rest, ?_⟩
        have ea : adOf K d = a := by
          unfold adOf
          rw [e3, e4, e2]
          dsimp only
          rw [if_pos rfl, er]
        show PySem.W.recIn K _ "property" = some (.ref (adOf K d) :: rest)
        rw [ea]
        exact er
      · cases y4
  · have z := List.all_eq_true.mp k8 p hp
    unfold csB at z
    split at z
    · rename_i u e
      obtain ⟨v, r, k⟩ := repB_ok (g := gdOf K) p.2 u z
      exact ⟨v, u, PySem.W.mg_of X G e, r, k⟩
    · cases z
end
end Ri
end
section
set_option Elab.async false
set_option linter.all false
set_option maxRecDepth 100000
set_option maxHeartbeats 4000000
/-! Ri, part 18: the end: a law holds if the slim call of its def answers True. -/
namespace Ri
open PySem PySem.W L2
abbrev AlR := Bool × List FnV
def obsR (S : Sx) (ds : List RD) (K : PySem.W.Frag) : AlR := (okR S ds K && ds.all (RD.ok K), ds.map (fnV K))
def valR (ds : List RD) : AlR := (true, ds.map RD.val)
def obsRG (n : Nat) (S : Sx) (ds : List RD) (q : Addr → Option Obj) : AlR := obsR S ds (He.frG q (He.asD q n))
def hookR (n : Nat) (S : Sx) (ds : List RD) : PySem.W.Hook where
  α := AlR
  obs := fun s => obsRG n S ds s.heap.get?
  val := fun _ => valR ds
  says := fun _ h => ∃ K : PySem.W.Frag, K.In h ∧ obsR S ds K = valR ds
  of := fun _ _ e => ⟨_, He.frG_in, e⟩
  keeps := fun _ _ _ ⟨K, hK, c⟩ k => ⟨K, PySem.W.Frag.In.keeps hK k, c⟩
theorem obsRG_eq {n : Nat} {S : Sx} {ds : List RD} {q : Addr → Option Obj} {s : Shared} (h : ∀ a, q a = s.heap.get? a) : obsRG n S ds q = (hookR n S ds).obs s := by
  have e : q = s.heap.get? := funext h
  subst e
  rfl
/-! ### what is checked of each def's text -/
def scB (N ps : List Str) (sc : Scope) : Bool := decide (sc.kind = .function) && ((!sc.isCoroutine && !sc.isGenerator) && (decide N.Nodup && (decide (N.take ps.length = ps) &&
  (ps.all (fun x => (sc.names.lookup x == some .local) || (sc.names.lookup x == some .cell)) && sc.names.all (fun y => !(y.2 == .free))))))
theorem scB_ok {N ps : List Str} {sc : Scope} (h : scB N ps sc = true) : FnScope N ps sc := by
  unfold scB at h
  simp only [Bool.and_eq_true] at h
  obtain ⟨h1, ⟨h2, h3⟩, h4, h5, h6, h7⟩ := h
  refine ⟨of_decide_eq_true h1, by simpa using h2, by simpa using h3, of_decide_eq_true h4, of_decide_eq_true h5, fun x hx => ?_, fun y hy e => ?_⟩
  · have z := List.all_eq_true.mp h6 x hx
    simpa using z
  · have z := List.all_eq_true.mp h7 y hy
    rw [e] at z
    cases z
/-- positional arguments stand for the names, one by one -/
def BindsP (d : RD) : Prop := ∀ (kV doc pm : Value) (an : Option Addr) (cdv ct : Value) (us : List Value), us.length = d.ps.length →
  bindArgs (PySem.W.fnOf (Str.ofString d.nm) d.qual d.params d.body d.scope .none kV doc pm an cdv ct) ⟨us, []⟩ = pure (d.ps.zip us)
def rdB (n : Nat) (S : Sx) (T : List (String × Df)) (d : RD) : Bool := scB d.N d.ps d.scope && (match T.lookup d.key with
  | some f => decide (f.ps = d.ps.length) && (decide (f.ns = d.N.length) && chkSs n (S.of d.N d.scope) f.body d.body)
  | none => false)
section
variable {P : Program} {w : World} {S : Sx} {T : List (String × Df)} {ds : List RD} {K : PySem.W.Frag} {h : Heap} {mg : Str → Option Value} {n : Nat}
theorem ent_ok {d : RD} (e : fnV K d = d.val) (c : d.ok K = true) (bp : BindsP d) (hb : rdB n S T d = true) : EntOk K S T (entOf K d) := by
  have F := rd_fun e c
  unfold rdB at hb
  simp only [Bool.and_eq_true] at hb
  obtain ⟨h1, h3⟩ := hb
  refine ⟨F, scB_ok h1, F.bindsN bp, ?_⟩
  split at h3
  · rename_i f ef
    simp only [Bool.and_eq_true] at h3
    obtain ⟨k1, k2, k3⟩ := h3
    exact ⟨f, n, ef, of_decide_eq_true k1, of_decide_eq_true k2, k3⟩
  · cases h3
theorem all_ent (c : obsR S ds K = valR ds) (bp : ∀ d ∈ ds, BindsP d) (hb : ds.all (rdB n S T) = true) : okR S ds K = true ∧ ∀ e ∈ ds.map (entOf K), EntOk K S T e := by
  have c1 : (okR S ds K && ds.all (RD.ok K)) = true := congrArg (fun z : AlR => z.1) c
  have c2 : ds.map (fnV K) = ds.map RD.val := congrArg (fun z : AlR => z.2) c
  obtain ⟨k1, k2⟩ := and1 c1
  refine ⟨k1, fun e he => ?_⟩
  obtain ⟨d, m, ed⟩ := List.mem_map.mp he
  subst ed
  exact ent_ok (List.map_inj_left.mp c2 d m) (List.all_eq_true.mp k2 d m) (bp d m) (List.all_eq_true.mp hb d m)
/-- what is to be shown of a law in the slim language -/
def LawD (T : List (String × Df)) (d : Nat) : Prop := ∀ ns : List Int, ns.length ≤ 63 → callD T d "law" [.scr (ns.map .int)] (fun _ => none) (fun w _ => w = .bl true) fun _ _ _ => False
theorem scr_reps {R : Addr → Prop} {hw : Hw} {H : Hp} : ∀ ns : List Int, Reps ((gdOf K).at R) hw H (ns.map .int) (ns.map .int)
  | [] => by simp only [List.map_nil, Reps]
  | n :: ns => by
    simp only [List.map_cons, Reps]
    exact ⟨_, _, rfl, rep_int, scr_reps ns⟩
theorem law_sp {d : Nat} (main : LawD T d) (H : Hp) (a : Addr) (ns : List Int) (hl : ns.length ≤ 63) (hS : SqL K H a (ns.map .int)) : spR (gdOf K) (callD T d) "law" [.ref a] H (fun v _ => v = .bl true) fun _ _ _ => False := by
  refine ⟨fun _ => False, fun _ => none, [.scr (ns.map .int)], _, _, ⟨fun _ _ z => (nomatch z), fun _ z => False.elim z⟩, Reps.one ?_, main ns hl, fun w h' v H' e y hr r => ?_, fun _ _ _ _ _ _ z => False.elim z⟩
  · simp only [Rep]
    refine ⟨a, ns.map .int, rfl, ⟨?_, ?_⟩, scr_reps ns⟩
    · rcases hS with z | z
      · exact .inl ⟨z, rfl, fun q => q⟩
      · exact .inr (.inr z)
    · rw [List.length_map]
      exact Nat.le_trans hl (by decide)
  · have e2 : w = .bl true := e
    subst e2
    simpa only [Rep] using r
theorem law_fn {f : Addr} {x : Str} {d : Nat} {dl : RD} (X : K.In h) (G : h.Ns mainGlobals mg) (hfa : mg ("law" : Str) = some (.ref f)) (c : obsR S ds K = valR ds) (bp : ∀ d ∈ ds, BindsP d) (hb : ds.all (rdB n S T) = true)
    (hd : dl ∈ ds) (hk : dl.key = "law") (hn : dl.nm = "law") (hc : dl.cls = none) (hp : dl.ps = [x]) (hfs : "law" ∈ S.fs) (main : LawD T d) :
    ∃ (fd : FuncData) (sp : Sp), (∀ (s : Shared) (u : Value), BindsTo s fd ⟨[u], []⟩ [(x, u)]) ∧ (∀ (H : Hp) (a : Addr) (ns : List Int), ns.length ≤ 63 → SqL K H a (ns.map .int) → sp [.ref a] H (fun v _ => v = .bl true) fun _ _ _ => False) ∧
      ∀ base : Heap, FnOk P w K mg base (L2.CX P w) (2 * d) f fd [x] sp := by
  obtain ⟨ok, ents⟩ := all_ent c bp hb
  have F := facts_of X G ok
  have me : entOf K dl ∈ ds.map (entOf K) := List.mem_map.mpr ⟨dl, hd, rfl⟩
  have E := ents _ me
  have ea : adOf K dl = f := by
    have z := ok
    unfold okR at z
    simp only [Bool.and_eq_true] at z
    have y := List.all_eq_true.mp z.1 "law" hfs
    simp only [Bool.and_eq_true] at y
    have q := hfa.symm.trans (He.glo_ok X G y.2.1)
    cases q
    rw [ad_fn hc, hn]
  have k := all_fn (P := P) (w := w) (base := h) F ents d _ me
  refine ⟨fdOf K dl, spR (gdOf K) (callD T d) "law", fun s u => ?_, fun H a ns hl hS => law_sp main H a ns hl hS, fun base => ?_⟩
  · have b := FunD.bindsA (ps := dl.ps) E.fun_ (bp dl hd) s [u] (by rw [hp]; rfl)
    rw [hp] at b
    exact b
  · have k := all_fn (P := P) (w := w) (base := base) F ents d _ me
    have k2 : FnOk P w K mg base (L2.CX P w) (2 * d) (adOf K dl) (fdOf K dl) dl.ps (spR (gdOf K) (callD T d) dl.key) := k
    rw [ea, hp, hk] at k2
    exact k2
theorem cx_none {H : Hp} {s : Shared} {e : Value} {s' : Shared} (c : L2.CX P w [] H s (fun _ _ _ => False) e s') : False := by
  obtain ⟨_, _, _, _, _, _, _, _, _, _, _, _, z⟩ := c
  exact z
/-- the end: as walk_ofE, but that what may fly depends on the world -/
theorem walk_ri {l : PySem.W.OpenLaw} {n k : Nat} {q : Program} {loose : List Str} {XP : (Str → Option Value) → Heap → Prop} {YP : World → Heap → Prop} {d : DefRec} {x : Str}
    (hn : l.most = some n) (hn2 : n ≤ sizeLine) (hdf : d.params.defaults = []) (hr : Room k callerA)
    (F : ∀ (w : World) (mg : Str → Option Value) (fa : Addr) (h : Heap), YP w h → h.Ns mainGlobals mg → mg d.name = some (.ref fa) →
      ∃ (K : PySem.W.Frag) (fd : FuncData) (sp : Sp), K.In h ∧ (∀ (s : Shared) (u : Value), BindsTo s fd ⟨[u], []⟩ [(x, u)]) ∧
        (∀ (H : Hp) (a : Addr) (ns : List Int), ns.length ≤ n → SqL K H a (ns.map .int) → sp [.ref a] H (fun v _ => v = .bl true) fun _ _ _ => False) ∧
        ∀ base : Heap, FnOk l.prog w K mg base (L2.CX l.prog w) k fa fd [x] sp) :
    PySem.W.WalkO q loose XP YP l.row.toRowW d [] (fun f vs => PySem.call f vs) := by
  refine Att.attach_call hn hdf fun w s₀ s₁ mg mb fa o pm cd doc a vs ns G Y ho hd hcd hmg hobj hints hlen hg => ?_
  obtain ⟨K, fd, sp, hin, hbind, hsp, hF⟩ := F w mg fa _ Y G.T.g hmg
  exact law_call hin G.T.g G.T.b G.T.builtins G.T.nolimit hg hobj hints (Nat.le_trans hlen hn2) hr (fun b _ _ => hF b) hbind (fun H _ hS => hsp H a ns hlen hS) fun H e s' => cx_none
end
end Ri
end
section
set_option Elab.async false
set_option linter.all false
set_option maxRecDepth 100000
set_option maxHeartbeats 1000000
/-! Ri, part 20: rules by which the slim meaning is rewritten; loops by invariants. -/
namespace Ri.Z
open PySem Ri
/-- branch on a bool -/
def brW (x : W) (A B : Prop) : Prop := match x with
  | .bl true => A
  | .bl false => B
  | _ => False
theorem brW_bl {b : Bool} {A B : Prop} : brW (.bl b) A B = if b = true then A else B := by cases b <;> rfl
def okW (x : Option W) (K : W → Prop) : Prop := match x with
  | some w => K w
  | none => False
theorem okW_some {w : W} {K : W → Prop} : okW (some w) K = K w := rfl
def blW (x : W) (K : Bool → Prop) : Prop := match x with
  | .bl b => K b
  | _ => False
theorem blW_bl {b : Bool} {K : Bool → Prop} : blW (.bl b) K = K b := rfl
def inW' (x : W) (K : Int → Prop) : Prop := match x with
  | .int b => K b
  | _ => False
theorem inW_int {b : Int} {K : Int → Prop} : inW' (.int b) K = K b := rfl
def okE (x : Option En) (K : En → Prop) : Prop := match x with
  | some w => K w
  | none => False
theorem okE_some {w : En} {K : En → Prop} : okE (some w) K = K w := rfl
def tpW (x : W) (K : List W → Prop) : Prop := match x with
  | .tup b => K b
  | _ => False
theorem tpW_tup {b : List W} {K : List W → Prop} : tpW (.tup b) K = K b := rfl
def lsW (x : W) (K : List W → Prop) : Prop := match x with
  | .lst b => K b
  | _ => False
theorem lsW_lst {b : List W} {K : List W → Prop} : lsW (.lst b) K = K b := rfl
def itW (x : W) (K : List W → (Hw → Prop) → Prop) : Prop := match itsOf x with
  | some (items, gd) => K items gd
  | none => False
theorem itW_lst {b : List W} {K : List W → (Hw → Prop) → Prop} : itW (.lst b) K = K b fun _ => True := rfl
theorem itW_loc {b : List W} {a : Addr} {K : List W → (Hw → Prop) → Prop} : itW (.tup [.lst b, .loc a]) K = K b fun h => h a = some (.lst b) := rfl
def aoLs (x : Option O) (K : List W → Prop) : Prop := match x with
  | some (.lst ws) => K ws
  | _ => False
theorem aoLs_lst {ws : List W} {K : List W → Prop} : aoLs (some (.lst ws)) K = K ws := rfl
theorem vw_loc {h : Hw} {a : Addr} {ws : List W} (e : h a = some (.lst ws)) : vw h (.loc a) = .lst ws := by simp only [vw, e]

section
variable {C : Calls} {τ : En} {h : Hw} {P : KW} {E : XW}
theorem r_var {i : Nat} : wpE C (.var i) τ h P E = okW (slot τ i) fun w => P w h := rfl
theorem r_int {i : Int} : wpE C (.int i) τ h P E = P (.int i) h := rfl
theorem r_bl {b : Bool} : wpE C (.bl b) τ h P E = P (.bl b) h := rfl
theorem r_non : wpE C .non τ h P E = P .non h := rfl
theorem r_str {s : Str} : wpE C (.str s) τ h P E = P (.str s) h := rfl
theorem r_cst {x : String} {w : W} : wpE C (.cst x w) τ h P E = P w h := rfl
theorem r_bin {o : Bop} {a b : Ex} : wpE C (.bin o a b) τ h P E = wpE C a τ h (fun x h1 => wpE C b τ h1 (fun y h2 => binW o (vw h2 x) (vw h2 y) fun z => P z h2) E) E := rfl
theorem r_neg {a : Ex} : wpE C (.neg a) τ h P E = wpE C a τ h (fun x h1 => inW' x fun i => P (.int (-i)) h1) E := rfl
theorem r_cmp {o : Cop} {a b : Ex} : wpE C (.cmp o a b) τ h P E = wpE C a τ h (fun x h1 => wpE C b τ h1 (fun y h2 => cmpW o (vw h2 x) (vw h2 y) fun z => P (.bl z) h2) E) E := rfl
theorem r_isN {ng : Bool} {a : Ex} : wpE C (.isN ng a) τ h P E = wpE C a τ h (fun x h1 => P (.bl (if ng then !isNon x else isNon x)) h1) E := rfl
theorem r_chn {o p : Cop} {a b c : Ex} : wpE C (.chn o p a b c) τ h P E = wpE C a τ h (fun x h1 => wpE C b τ h1 (fun y h2 => cmpW o (vw h2 x) (vw h2 y) fun r =>
      if r then wpE C c τ h2 (fun z h3 => cmpW p (vw h3 y) (vw h3 z) fun q => P (.bl q) h3) E else P (.bl false) h2) E) E := rfl
theorem r_and {a b : Ex} : wpE C (.and a b) τ h P E = wpE C a τ h (fun x h1 => brW x (wpE C b τ h1 P E) (P (.bl false) h1)) E := rfl
theorem r_or {a b : Ex} : wpE C (.or a b) τ h P E = wpE C a τ h (fun x h1 => brW x (P (.bl true) h1) (wpE C b τ h1 P E)) E := rfl
theorem r_not {a : Ex} : wpE C (.not a) τ h P E = wpE C a τ h (fun x h1 => blW x fun b => P (.bl (!b)) h1) E := rfl
theorem r_ite {c a b : Ex} : wpE C (.ite c a b) τ h P E = wpE C c τ h (fun x h1 => brW x (wpE C a τ h1 P E) (wpE C b τ h1 P E)) E := rfl
theorem r_tup {es : List Ex} : wpE C (.tup es) τ h P E = wpEs C es τ h (fun ws h1 => ws.length ≤ 1000 ∧ P (.tup ws) h1) E := rfl
theorem r_lst {es : List Ex} : wpE C (.lst es) τ h P E = wpEs C es τ h (fun ws h1 => ws.length ≤ 1000 ∧ P (.lst ws) h1) E := rfl
theorem r_sub {a i : Ex} : wpE C (.sub a i) τ h P E = wpE C a τ h (fun x h1 => wpE C i τ h1 (fun y h2 => atW (vw h2 x) y fun z => P z h2) E) E := rfl
theorem r_sli {a lo hi : Ex} : wpE C (.sli a lo hi) τ h P E = wpE C a τ h (fun x h1 => wpE C lo τ h1 (fun y h2 => isEnd lo y = true ∧ wpE C hi τ h2 (fun z h3 => isEnd hi z = true ∧ slW (vw h3 x) y z fun r => P r h3) E) E) E := rfl
theorem r_rev {a : Ex} : wpE C (.rev a) τ h P E = wpE C a τ h (fun x h1 => revW (vw h1 x) fun r => P r h1) E := rfl
theorem r_call {f : String} {es : List Ex} : wpE C (.call f es) τ h P E = wpEs C es τ h (fun ws h1 => C f ws h1 P E) E := rfl
theorem r_new {c : Cl} {es : List Ex} : wpE C (.new c es) τ h P E = wpEs C es τ h (fun ws h1 => ∀ a, h1 a = none → C (initOf c) (.loc a :: ws) (hset h1 a (.ins c [])) (fun v h2 => isNon v = true ∧ P (.loc a) h2) E) E := rfl
theorem r_mth {c : Cl} {n m : String} {o : Ex} {es : List Ex} : wpE C (.mth c n m o es) τ h P E = wpE C o τ h (fun x h1 => isCls h1 c x = true ∧ wpEs C es τ h1 (fun ws h2 => C m (x :: ws) h2 P E) E) E := rfl
theorem r_prp {c : Cl} {n m : String} {o : Ex} : wpE C (.prp c n m o) τ h P E = wpE C o τ h (fun x h1 => isCls h1 c x = true ∧ C m [x] h1 P fun _ _ _ => False) E := rfl
theorem r_eqo {ng : Bool} {c : Cl} {m : String} {a b : Ex} : wpE C (.eqo ng c m a b) τ h P E = wpE C a τ h (fun x h1 => wpE C b τ h1 (fun y h2 => (isCls h2 c x = true ∧ isCls h2 c y = true) ∧ C m [x, y] h2 (fun r h3 => blW r fun z => P (.bl (if ng then !z else z)) h3) fun _ _ _ => False) E) E := rfl
theorem r_fld {c : Cl} {k : Nat} {o : Ex} : wpE C (.fld c k o) τ h P E = wpE C o τ h (fun x h1 => okW (fldW h1 c k x) fun w => P w h1) E := rfl
theorem r_blt {f : Blt} {es : List Ex} : wpE C (.blt f es) τ h P E = wpEs C es τ h (fun ws h1 => bltW f (ws.map (vw h1)) fun r => P r h1) E := rfl
theorem r_met {m : Met} {o : Ex} {es : List Ex} : wpE C (.met m o es) τ h P E = wpE C o τ h (fun x h1 => metTy m x = true ∧ wpEs C es τ h1 (fun ws h2 => metW m x (ws.map (vw h2)) fun r => P r h2) E) E := rfl
theorem r_fmt {es : List Ex} : wpE C (.fmt es) τ h P E = wpJ C es Str.empty τ h (fun s h1 => P (.str s) h1) E := rfl
theorem r_isi {cl : List Cl} {ks : List Kd} {a : Ex} : wpE C (.isi cl ks a) τ h P E = wpE C a τ h (fun x h1 => isiOk cl (vw h1 x) = true ∧ P (.bl (ks.any fun k => kdW k (vw h1 x))) h1) E := rfl
theorem r_itr {k : ItK} {es : List Ex} : wpE C (.itr k es) τ h P E = wpEs C es τ h (fun ws h1 => itrV h1 k ws fun r => P r h1) E := rfl
theorem r_lcm {tg : Tg} {own : List Nat} {src cond elt : Ex} : wpE C (.lcm tg own src cond elt) τ h P E = wpE C src τ h (fun s h1 => itW s fun items gd =>
    items.length ≤ lim ∧ lcL gd tg (clrs τ own) (fun τ2 h2 K => wpE C cond τ2 h2 K fun _ _ _ => False) (fun τ2 h2 K => wpE C elt τ2 h2 K fun _ _ _ => False) items [] h1 fun ws h2 => P (.lst ws) h2) E := rfl
theorem r_lcm2 {tg1 tg2 : Tg} {own own2 : List Nat} {src1 src2 elt : Ex} : wpE C (.lcm2 tg1 own src1 tg2 own2 src2 elt) τ h P E = wpE C src1 τ h (fun s h1 => itW s fun items gd =>
    lcL2 gd tg1 (clrs τ own) (fun τ2 h2 acc K => wpE C src2 τ2 h2 (fun s2 h3 => itW s2 fun items2 gd2 =>
      items2.length ≤ lim ∧ lcL gd2 tg2 (clrs τ2 own2) (fun _ h4 K => K (.bl true) h4) (fun τ3 h4 K => wpE C elt τ3 h4 K fun _ _ _ => False) items2 acc h3 K) fun _ _ _ => False) items [] h1 fun ws h2 => P (.lst ws) h2) E := rfl
theorem r_frz {e : Ex} : wpE C (.frz e) τ h P E = wpE C e τ h (fun x h1 => frzW h1 x P) E := rfl
theorem r_own {e : Ex} : wpE C (.own e) τ h P E = wpE C e τ h (fun x h1 => lsW x fun ws => ∀ a, h1 a = none → P (.loc a) (hset h1 a (.lst ws))) E := rfl
theorem r_del {e : Ex} {es : List Ex} : wpE C (.del e es) τ h P E = wpE C e τ h (fun x h1 => wpEs C es τ h1 (fun ws h2 => delW ws h2 fun h3 => P x h3) E) E := rfl
theorem r_nil {P : List W → Hw → Prop} : wpEs C [] τ h P E = P [] h := rfl
theorem r_cons {e : Ex} {es : List Ex} {P : List W → Hw → Prop} : wpEs C (e :: es) τ h P E = wpE C e τ h (fun w h1 => wpEs C es τ h1 (fun ws h2 => P (w :: ws) h2) E) E := rfl
theorem r_jn {acc : Str} {P : Str → Hw → Prop} : wpJ C [] acc τ h P E = P acc h := rfl
theorem r_jc {e : Ex} {es : List Ex} {acc : Str} {P : Str → Hw → Prop} : wpJ C (e :: es) acc τ h P E = wpE C e τ h (fun w h1 => fmtV w fun s => (acc ++ s).length ≤ lim ∧ wpJ C es (acc ++ s) τ h1 P E) E := rfl
end
section
variable {C : Calls} {τ : En} {h : Hw} {D : Dn}
theorem v_set {i : Nat} {e : Ex} : wpS C (.set i e) τ h D = wpE C e τ h (fun w h1 => D.nx (put τ i w) h1) (D.ex τ) := rfl
theorem v_unp {ts : List Tg} {e : Ex} : wpS C (.unp ts e) τ h D = wpE C e τ h (fun w h1 => tpW w fun ws => okE (bindTs ts ws τ) fun τ2 => D.nx τ2 h1) (D.ex τ) := rfl
theorem v_par {is : List Nat} {es : List Ex} : wpS C (.par is es) τ h D = wpEs C es τ h (fun ws h1 => ws.length = is.length ∧ D.nx (puts τ is ws) h1) (D.ex τ) := rfl
theorem v_setI {o i e : Ex} : wpS C (.setI o i e) τ h D = wpE C e τ h (fun v h1 => wpE C o τ h1 (fun x h2 => wpE C i τ h2 (fun y h3 => setW h3 x y v fun h4 => D.nx τ h4) (D.ex τ)) (D.ex τ)) (D.ex τ) := rfl
theorem v_augI {p : Bop} {o i e : Ex} : wpS C (.augI p o i e) τ h D = wpE C o τ h (fun x h1 => wpE C i τ h1 (fun y h2 => atLI (vw h2 x) y fun z => wpE C e τ h2 (fun v h3 => augW p (.int z) (vw h3 v) fun r => setW h3 x y (.int r) fun h4 => D.nx τ h4) (D.ex τ)) (D.ex τ)) (D.ex τ) := rfl
theorem v_aug {p : Bop} {i : Nat} {e : Ex} : wpS C (.aug p i e) τ h D = okW (slot τ i) fun z => wpE C e τ h (fun v h1 => augW p z (vw h1 v) fun r => D.nx (put τ i (.int r)) h1) (D.ex τ) := rfl
theorem v_ext {i : Nat} {e : Ex} : wpS C (.ext i e) τ h D = okW (slot τ i) fun z => wpE C e τ h (fun v h1 => lsW (vw h1 v) fun us => lstAt h1 z fun a ws => ws.length + us.length ≤ lim ∧ D.nx τ (hset h1 a (.lst (ws ++ us)))) (D.ex τ) := rfl
theorem v_setF {c : Cl} {k : Nat} {o e : Ex} : wpS C (.setF c k o e) τ h D = wpE C e τ h (fun v h1 => wpE C o τ h1 (fun x h2 => storeF h2 c k x v fun h3 => D.nx τ h3) (D.ex τ)) (D.ex τ) := rfl
theorem v_setII {o1 i1 o2 i2 e1 e2 : Ex} : wpS C (.setII o1 i1 o2 i2 e1 e2) τ h D = wpE C e1 τ h (fun v1 h1 => wpE C e2 τ h1 (fun v2 h2 =>
      wpE C o1 τ h2 (fun x h3 => wpE C i1 τ h3 (fun y h4 => setW h4 x y v1 fun h5 => wpE C o2 τ h5 (fun x2 h6 => wpE C i2 τ h6 (fun y2 h7 => setW h7 x2 y2 v2 fun h8 => D.nx τ h8) (D.ex τ)) (D.ex τ)) (D.ex τ)) (D.ex τ)) (D.ex τ)) (D.ex τ) := rfl
theorem v_setIN {o1 i1 e1 e2 : Ex} {n : Nat} : wpS C (.setIN o1 i1 n e1 e2) τ h D = wpE C e1 τ h (fun v1 h1 => wpE C e2 τ h1 (fun v2 h2 =>
      wpE C o1 τ h2 (fun x h3 => wpE C i1 τ h3 (fun y h4 => setW h4 x y v1 fun h5 => D.nx (put τ n v2) h5) (D.ex τ)) (D.ex τ)) (D.ex τ)) (D.ex τ) := rfl
theorem v_ex {e : Ex} : wpS C (.ex e) τ h D = wpE C e τ h (fun _ h1 => D.nx τ h1) (D.ex τ) := rfl
theorem v_app {o e : Ex} : wpS C (.app o e) τ h D = wpE C o τ h (fun x h1 => isLoL h1 x = true ∧ wpE C e τ h1 (fun v h2 => lstAt h2 x fun a ws => ws.length < lim ∧ D.nx τ (hset h2 a (.lst (ws ++ [v])))) (D.ex τ)) (D.ex τ) := rfl
theorem v_ins {o i e : Ex} : wpS C (.ins o i e) τ h D = wpE C o τ h (fun x h1 => isLoL h1 x = true ∧ wpE C i τ h1 (fun y h2 => wpE C e τ h2 (fun v h3 => lstAt h3 x fun a ws => inW' y fun k =>
      (ws.length < lim ∧ 0 ≤ k ∧ k ≤ ws.length) ∧ D.nx τ (hset h3 a (.lst (insAt ws k v)))) (D.ex τ)) (D.ex τ)) (D.ex τ) := rfl
theorem v_revI {o : Ex} : wpS C (.revI o) τ h D = wpE C o τ h (fun x h1 => lstAt h1 x fun a ws => D.nx τ (hset h1 a (.lst ws.reverse))) (D.ex τ) := rfl
theorem v_ret {e : Ex} : wpS C (.ret e) τ h D = wpE C e τ h D.rt (D.ex τ) := rfl
theorem v_retN : wpS C .retN τ h D = D.rt .non h := rfl
theorem v_ite {c : Ex} {a b : List Sm} : wpS C (.ite c a b) τ h D = wpE C c τ h (fun w h1 => brW w (wpSs C a τ h1 D) (wpSs C b τ h1 D)) (D.ex τ) := rfl
theorem v_whl {c : Ex} {b : List Sm} : wpS C (.whl c b) τ h D = whlP (fun τ h P E => wpE C c τ h P E) (fun τ h D => wpSs C b τ h D) D τ h := rfl
theorem v_for {tg : Tg} {src : Ex} {b : List Sm} : wpS C (.for_ tg src b) τ h D = wpE C src τ h (fun w h1 => itW w fun items gd => forL gd tg (fun τ h D => wpSs C b τ h D) D items τ h1) (D.ex τ) := rfl
theorem v_brk : wpS C .brk τ h D = D.bk τ h := rfl
theorem v_pass : wpS C .pass τ h D = D.nx τ h := rfl
theorem v_frz {i : Nat} : wpS C (.frz i) τ h D = okW (slot τ i) fun w => frzW h w fun v h1 => D.nx (put τ i v) h1 := rfl
theorem v_nil : wpSs C [] τ h D = D.nx τ h := rfl
theorem v_cons {s : Sm} {ss : List Sm} : wpSs C (s :: ss) τ h D = wpS C s τ h { D with nx := fun τ1 h1 => wpSs C ss τ1 h1 D } := rfl
end
theorem z_cons {C : Calls} {τ : En} {h : Hw} {D : Dn} {s : Sm} {ss : List Sm} (q : wpS C s τ h { D with nx := fun τ1 h1 => wpSs C ss τ1 h1 D }) : wpSs C (s :: ss) τ h D := q
theorem z_seq {C : Calls} {τ : En} {h : Hw} {D : Dn} {s : Sm} {ss : List Sm} (J : En → Hw → Prop) (q1 : ∀ K : En → Hw → Prop, (∀ τ1 h1, J τ1 h1 → K τ1 h1) → wpS C s τ h { D with nx := K }) (q2 : ∀ τ1 h1, J τ1 h1 → wpSs C ss τ1 h1 D) : wpSs C (s :: ss) τ h D := q1 _ q2
theorem z_to {C : Calls} {τ : En} {h : Hw} {D : Dn} {s : Sm} {ss : List Sm} (τ0 : En) (h0 : Hw) (q1 : ∀ K : En → Hw → Prop, K τ0 h0 → wpS C s τ h { D with nx := K }) (q2 : wpSs C ss τ0 h0 D) : wpSs C (s :: ss) τ h D := q1 _ q2
/-! ### loops -/
theorem forL_inv {gd : Hw → Prop} {tg : Tg} {body : En → Hw → Dn → Prop} {D : Dn} (I : Nat → En → Hw → Prop) {ws : List W} {τ : En} {h : Hw} (h0 : I 0 τ h)
    (step : ∀ i τ h w, ws[i]? = some w → I i τ h → gd h ∧ okE (bindT tg w τ) fun τ2 => ∀ K : En → Hw → Prop, (∀ τ' h', I (i + 1) τ' h' → K τ' h') → body τ2 h { D with nx := K, ct := K, bk := D.nx })
    (fin : ∀ τ h, I ws.length τ h → gd h ∧ D.nx τ h) : forL gd tg body D ws τ h := by
  have key : ∀ m k τ h, m + k = ws.length → I k τ h → forL gd tg body D (ws.drop k) τ h := by
    intro m
    induction m with
    | zero =>
      intro k τ h e i
      have : ws.drop k = [] := by rw [List.drop_eq_nil_iff]; omega
      rw [this]
      have : k = ws.length := by omega
      subst this
      exact fin τ h i
    | succ m ih =>
      intro k τ h e i
      have hk : k < ws.length := by omega
      rw [List.drop_eq_getElem_cons hk]
      obtain ⟨g1, g2⟩ := step k τ h ws[k] (List.getElem?_eq_getElem hk) i
      refine ⟨g1, ?_⟩
      cases hb : bindT tg ws[k] τ with
      | none => rw [hb] at g2; exact g2.elim
      | some τ2 =>
        rw [hb] at g2
        exact g2 _ fun τ' h' i' => ih (k + 1) τ' h' (by omega) i'
  have := key ws.length 0 τ h rfl h0
  simpa using this
theorem forL_fold {α σ : Type} {gd : Hw → Prop} {tg : Tg} {body : En → Hw → Dn → Prop} {D : Dn} (xs : List α) (e : α → W) (f : σ → α → σ) (I : σ → En → Hw → Prop) (s0 : σ) {τ : En} {h : Hw} (h0 : I s0 τ h)
    (step : ∀ s x τ h, x ∈ xs → I s τ h → gd h ∧ okE (bindT tg (e x) τ) fun τ2 => ∀ K : En → Hw → Prop, (∀ τ' h', I (f s x) τ' h' → K τ' h') → body τ2 h { D with nx := K, ct := K, bk := D.nx })
    (fin : ∀ τ h, I (xs.foldl f s0) τ h → gd h ∧ D.nx τ h) : forL gd tg body D (xs.map e) τ h := by
  induction xs generalizing s0 τ h with
  | nil => exact fin τ h h0
  | cons x xs ih =>
    obtain ⟨g1, g2⟩ := step s0 x τ h (List.mem_cons_self ..) h0
    refine ⟨g1, ?_⟩
    cases hb : bindT tg (e x) τ with
    | none => rw [hb] at g2; exact g2.elim
    | some τ2 =>
      rw [hb] at g2
      exact g2 _ fun τ' h' i' => ih (f s0 x) i' (fun s y τ h m => step s y τ h (List.mem_cons_of_mem _ m)) fin
/-- a comprehension, K-style: what is wanted of each turn stays open -/
theorem lcL_invK {gd : Hw → Prop} {tg : Tg} {τ : En} {cond elt : En → Hw → KW → Prop} {P : List W → Hw → Prop} (I : Nat → List W → Hw → Prop) {ws acc : List W} {h : Hw} (h0 : I 0 acc h)
    (step : ∀ i acc h w, ws[i]? = some w → I i acc h → gd h ∧ okE (bindT tg w τ) fun τ2 => ∀ K : List W → Hw → Prop, (∀ acc' h', I (i + 1) acc' h' → K acc' h') → cond τ2 h fun b h1 => brW b (elt τ2 h1 fun y h2 => K (acc ++ [y]) h2) (K acc h1))
    (fin : ∀ acc h, I ws.length acc h → gd h ∧ P acc h) : lcL gd tg τ cond elt ws acc h P := by
  have key : ∀ m k acc h, m + k = ws.length → I k acc h → lcL gd tg τ cond elt (ws.drop k) acc h P := by
    intro m
    induction m with
    | zero =>
      intro k acc h e i
      have : ws.drop k = [] := by rw [List.drop_eq_nil_iff]; omega
      rw [this]
      have : k = ws.length := by omega
      subst this
      exact fin acc h i
    | succ m ih =>
      intro k acc h e i
      have hk : k < ws.length := by omega
      rw [List.drop_eq_getElem_cons hk]
      obtain ⟨g1, g2⟩ := step k acc h ws[k] (List.getElem?_eq_getElem hk) i
      refine ⟨g1, ?_⟩
      cases hb : bindT tg ws[k] τ with
      | none => rw [hb] at g2; exact g2.elim
      | some τ2 =>
        rw [hb] at g2
        exact g2 (fun acc' h' => lcL gd tg τ cond elt (ws.drop (k + 1)) acc' h' P) fun acc' h' q => ih (k + 1) _ _ (by omega) q
  have := key ws.length 0 acc h (by omega) h0
  simpa using this
/-- a comprehension with a test, the heap as it was -/
theorem lcL_fil {α : Type} {gd : Hw → Prop} {tg : Tg} {τ : En} {cond elt : En → Hw → KW → Prop} {P : List W → Hw → Prop} (xs : List α) (e f : α → W) (p : α → Bool) {acc : List W} {h : Hw} (hg : gd h)
    (step : ∀ x ∈ xs, okE (bindT tg (e x) τ) fun τ2 => ∀ (K : KW) (B : Hw → Prop), (p x = true → K (f x) h) → (p x = false → B h) → cond τ2 h fun b h1 => brW b (elt τ2 h1 K) (B h1))
    (fin : P (acc ++ (xs.filter p).map f) h) : lcL gd tg τ cond elt (xs.map e) acc h P := by
  induction xs generalizing acc with
  | nil => exact ⟨hg, by simpa using fin⟩
  | cons x xs ih =>
    have g2 := step x (List.mem_cons_self ..)
    refine ⟨hg, ?_⟩
    cases hb : bindT tg (e x) τ with
    | none => rw [hb] at g2; exact g2.elim
    | some τ2 =>
      rw [hb] at g2
      refine g2 (fun y h2 => lcL gd tg τ cond elt (xs.map e) (acc ++ [y]) h2 P) (fun h1 => lcL gd tg τ cond elt (xs.map e) acc h1 P) (fun hp => ?_) (fun hp => ?_)
      · exact ih (fun y m => step y (List.mem_cons_of_mem _ m)) (by simpa [List.filter_cons, hp] using fin)
      · exact ih (fun y m => step y (List.mem_cons_of_mem _ m)) (by simpa [List.filter_cons, hp] using fin)
/-- a comprehension without a test, the heap as it was -/
theorem lcL_map {α : Type} {gd : Hw → Prop} {tg : Tg} {τ : En} {cond elt : En → Hw → KW → Prop} {P : List W → Hw → Prop} (xs : List α) (e f : α → W) {acc : List W} {h : Hw} (hg : gd h)
    (step : ∀ x ∈ xs, okE (bindT tg (e x) τ) fun τ2 => ∀ (K : KW) (B : Hw → Prop), K (f x) h → cond τ2 h fun b h1 => brW b (elt τ2 h1 K) (B h1))
    (fin : P (acc ++ xs.map f) h) : lcL gd tg τ cond elt (xs.map e) acc h P := by
  induction xs generalizing acc with
  | nil => exact ⟨hg, by simpa using fin⟩
  | cons x xs ih =>
    have g2 := step x (List.mem_cons_self ..)
    refine ⟨hg, ?_⟩
    cases hb : bindT tg (e x) τ with
    | none => rw [hb] at g2; exact g2.elim
    | some τ2 =>
      rw [hb] at g2
      exact g2 (fun y h2 => lcL gd tg τ cond elt (xs.map e) (acc ++ [y]) h2 P) (fun h1 => lcL gd tg τ cond elt (xs.map e) acc h1 P) (ih (fun y m => step y (List.mem_cons_of_mem _ m)) (by simpa using fin))
/-- a comprehension of two fors, the heap as it was -/
theorem lcL2_map {α : Type} {gd : Hw → Prop} {tg : Tg} {τ : En} {inner : En → Hw → List W → (List W → Hw → Prop) → Prop} {P : List W → Hw → Prop} (xs : List α) (e : α → W) (f : α → List W) {acc : List W} {h : Hw} (hg : gd h)
    (step : ∀ x ∈ xs, okE (bindT tg (e x) τ) fun τ2 => ∀ (acc : List W) (K : List W → Hw → Prop), K (acc ++ f x) h → inner τ2 h acc K)
    (hl : acc.length + (xs.flatMap f).length ≤ lim) (fin : P (acc ++ xs.flatMap f) h) : lcL2 gd tg τ inner (xs.map e) acc h P := by
  induction xs generalizing acc with
  | nil => exact ⟨hg, by simpa using fin⟩
  | cons x xs ih =>
    have g2 := step x (List.mem_cons_self ..)
    refine ⟨hg, ?_⟩
    cases hb : bindT tg (e x) τ with
    | none => rw [hb] at g2; exact g2.elim
    | some τ2 =>
      rw [hb] at g2
      simp only [List.flatMap_cons, List.length_append] at hl
      refine g2 acc (fun acc2 h2 => acc2.length ≤ lim ∧ lcL2 gd tg τ inner (xs.map e) acc2 h2 P) ⟨by simp only [List.length_append]; omega, ih (fun y m => step y (List.mem_cons_of_mem _ m)) (by simp only [List.length_append]; omega) (by simpa [List.flatMap_cons] using fin)⟩
theorem whl_inv {test : En → Hw → KW → XW → Prop} {body : En → Hw → Dn → Prop} {D : Dn} {τ : En} {h : Hw} (I : Nat → En → Hw → Prop) (m : Nat) (h0 : I m τ h)
    (step : ∀ m τ h, I m τ h → test τ h (fun b h1 => brW b (body τ h1 { D with nx := fun τ' h' => ∃ m', m' < m ∧ I m' τ' h', ct := fun τ' h' => ∃ m', m' < m ∧ I m' τ' h', bk := D.nx }) (D.nx τ h1)) (D.ex τ)) : whlP test body D τ h := ⟨I, ⟨m, h0⟩, step⟩
end Ri.Z
end
section
set_option Elab.async false
set_option linter.all false
set_option maxRecDepth 100000
set_option maxHeartbeats 0

namespace K04
open PySem PySem.W L2 Ri Ri.Z
def top (i : Nat) : Stmt := PySem.Challenge.pw_lotbridge_k04_whole_amounts_or_weights.main.body.getD i (.Pass ⟨0, 0, 0, 0⟩)
def sub (s : Stmt) (j : Nat) : Stmt := match s with
  | .ClassDef _ _ _ b _ _ _ _ _ _ _ => b.getD j (.Pass ⟨0, 0, 0, 0⟩)
  | _ => .Pass ⟨0, 0, 0, 0⟩
def b_is_integer_0 : List Sm := [.ret (.and (.isi [.table, .web] [.int] (.var 0)) (.and (.not (.isi [.table, .web] [.bool] (.var 0))) (.chn .le .le (.var 1) (.var 0) (.var 2))))]
def df_is_integer : Df := ⟨3, 3, b_is_integer_0⟩
def b_is_reading_0 : List Sm := [.ret (.and (.call "is_integer" [.sub (.var 2) (.int 2), .int 0, .cst "MOST_LEVEL" (.int 9999)]) (.call "is_integer" [.sub (.var 2) (.int 3), .sub (.var 2) (.int 2), .cst "MOST_LEVEL" (.int 9999)]))]
def b_is_reading_4 : List Sm := [.ret (.and (.cmp .inn (.sub (.var 2) (.int 0)) (.tup [.str "at", .str "above"])) (.and (.call "is_integer" [.sub (.var 2) (.int 2), .int 0, .bin .sub (.var 0) (.int 1)]) (.call "is_integer" [.sub (.var 2) (.int 3), .int 0, .cst "MOST_VALUE" (.int 999)])))]
def b_is_reading_3 : List Sm := (.ite (.cmp .eq (.sub (.var 2) (.int 0)) (.str "told")) b_is_reading_0 []) :: b_is_reading_4
def b_is_reading_2 : List Sm := (.ite (.not (.call "is_integer" [.sub (.var 2) (.int 1), .int 0, .bin .sub (.var 1) (.int 1)])) [.ret (.bl false)] []) :: b_is_reading_3
def b_is_reading_1 : List Sm := (.ite (.or (.not (.isi [.table, .web] [.tuple] (.var 2))) (.or (.cmp .ne (.blt .len [.var 2]) (.int 4)) (.not (.isi [.table, .web] [.str] (.sub (.var 2) (.int 0)))))) [.ret (.bl false)] []) :: b_is_reading_2
def df_is_reading : Df := ⟨3, 3, b_is_reading_1⟩
def b_Web___init___0 : List Sm := [.ite (.not (.call "is_reading" [.var 2, .var 3, .var 6])) [.nev] []]
def b_Web___init___9 : List Sm := [.setF .web 3 (.var 0) (.var 4)]
def b_Web___init___8 : List Sm := (.setF .web 2 (.var 0) (.var 3)) :: b_Web___init___9
def b_Web___init___7 : List Sm := (.setF .web 1 (.var 0) (.var 2)) :: b_Web___init___8
def b_Web___init___6 : List Sm := (.setF .web 0 (.var 0) (.var 1)) :: b_Web___init___7
def b_Web___init___5 : List Sm := (.for_ (.tp [.nm 5, .nm 6]) (.itr (.enm 0) [.var 4]) b_Web___init___0) :: b_Web___init___6
def b_Web___init___4 : List Sm := (.ite (.or (.not (.isi [.table, .web] [.tuple] (.var 4))) (.cmp .gt (.blt .len [.var 4]) (.cst "MOST_READINGS" (.int 12)))) [.nev] []) :: b_Web___init___5
def b_Web___init___3 : List Sm := (.ite (.not (.call "is_integer" [.var 3, .int 1, .cst "MOST_SAMPLES" (.int 6)])) [.nev] []) :: b_Web___init___4
def b_Web___init___2 : List Sm := (.ite (.not (.call "is_integer" [.var 2, .int 1, .cst "MOST_LOTS" (.int 4)])) [.nev] []) :: b_Web___init___3
def b_Web___init___1 : List Sm := (.ite (.or (.not (.isi [.table, .web] [.str] (.var 1))) (.cmp .nin (.var 1) (.cst "MODES" (.tup [(.str "shift"), (.str "scale"), (.str "both")])))) [.nev] []) :: b_Web___init___2
def df_Web___init__ : Df := ⟨5, 7, b_Web___init___1⟩
def b_divisor_2 : List Sm := [.ret (.var 0)]
def b_divisor_1 : List Sm := (.whl (.cmp .gt (.var 1) (.int 0)) [.par [0, 1] [.var 1, .bin .mod (.var 0) (.var 1)]]) :: b_divisor_2
def b_divisor_0 : List Sm := (.par [0, 1] [.blt .abs [.var 0], .blt .abs [.var 1]]) :: b_divisor_1
def df_divisor : Df := ⟨2, 2, b_divisor_0⟩
def b_fraction_1 : List Sm := [.ret (.tup [.bin .fdiv (.var 0) (.var 2), .bin .fdiv (.var 1) (.var 2)])]
def b_fraction_0 : List Sm := (.set 2 (.ite (.cmp .gt (.var 1) (.int 0)) (.call "divisor" [.var 0, .var 1]) (.neg (.call "divisor" [.var 0, .var 1])))) :: b_fraction_1
def df_fraction : Df := ⟨2, 3, b_fraction_0⟩
def b_has_scale_0 : List Sm := [.ret (.and (.cmp .gt (.var 1) (.int 0)) (.cmp .ne (.fld .web 0 (.var 0)) (.str "shift")))]
def df_has_scale : Df := ⟨2, 2, b_has_scale_0⟩
def b_has_shift_0 : List Sm := [.ret (.and (.cmp .gt (.var 1) (.int 0)) (.cmp .ne (.fld .web 0 (.var 0)) (.str "scale")))]
def df_has_shift : Df := ⟨2, 2, b_has_shift_0⟩
def b_blank_0 : List Sm := [.ret (.own (.bin .mul (.lst [.int 0]) (.bin .add (.bin .add (.int 1) (.fld .web 2 (.var 0))) (.bin .mul (.int 2) (.fld .web 1 (.var 0))))))]
def df_blank : Df := ⟨1, 1, b_blank_0⟩
def b_put_level_900 : List Sm := [.augI .add (.var 0) (.bin .add (.int 1) (.var 1)) (.var 2)]
def df_put_level : Df := ⟨3, 3, b_put_level_900⟩
def b_put_result_0 : List Sm := [.augI .add (.var 1) (.bin .add (.bin .add (.int 1) (.fld .web 2 (.var 0))) (.var 2)) (.bin .mul (.var 4) (.var 3))]
def b_put_result_1 : List Sm := [.augI .add (.var 1) (.bin .add (.bin .add (.bin .add (.int 1) (.fld .web 2 (.var 0))) (.fld .web 1 (.var 0))) (.var 2)) (.var 4)]
def b_put_result_3 : List Sm := [.ite (.call "has_shift" [.var 0, .var 2]) b_put_result_1 []]
def b_put_result_2 : List Sm := (.ite (.call "has_scale" [.var 0, .var 2]) b_put_result_0 [.augI .add (.var 1) (.int 0) (.bin .mul (.var 4) (.var 3))]) :: b_put_result_3
def df_put_result : Df := ⟨5, 5, b_put_result_2⟩
def b_forms_of_2 : List Sm := [.ret (.del (.lst [.blt .tuple [.var 6], .blt .tuple [.var 7]]) [.var 6, .var 7])]
def b_forms_of_1 : List Sm := (.augI .add (.var 7) (.int 0) (.var 5)) :: b_forms_of_2
def b_forms_of_0 : List Sm := (.augI .sub (.var 6) (.int 0) (.var 4)) :: b_forms_of_1
def b_forms_of_12 : List Sm := [.ret (.ite (.cmp .eq (.var 2) (.str "above")) (.lst [.blt .tuple [.var 6]]) (.lst [.blt .tuple [.var 6], .blt .tuple [.var 7]]))]
def b_forms_of_11 : List Sm := (.frz 7) :: b_forms_of_12
def b_forms_of_10 : List Sm := (.ex (.call "put_result" [.var 0, .var 7, .var 4, .bin .add (.var 5) (.int 1), .int 1])) :: b_forms_of_11
def b_forms_of_9 : List Sm := (.frz 6) :: b_forms_of_10
def b_forms_of_8 : List Sm := (.ex (.call "put_result" [.var 0, .var 6, .var 4, .var 5, .neg (.int 1)])) :: b_forms_of_9
def b_forms_of_7 : List Sm := (.ite (.cmp .eq (.var 2) (.str "told")) b_forms_of_0 []) :: b_forms_of_8
def b_forms_of_6 : List Sm := (.ex (.call "put_level" [.var 7, .var 3, .neg (.int 1)])) :: b_forms_of_7
def b_forms_of_5 : List Sm := (.ex (.call "put_level" [.var 6, .var 3, .int 1])) :: b_forms_of_6
def b_forms_of_4 : List Sm := (.par [6, 7] [.call "blank" [.var 0], .call "blank" [.var 0]]) :: b_forms_of_5
def b_forms_of_3 : List Sm := (.unp [.nm 2, .nm 3, .nm 4, .nm 5] (.var 1)) :: b_forms_of_4
def df_forms_of : Df := ⟨2, 8, b_forms_of_3⟩
def b_forms_5 : List Sm := [.ext 1 (.lst [.blt .tuple [.var 5], .blt .tuple [.var 6]])]
def b_forms_4 : List Sm := (.frz 6) :: b_forms_5
def b_forms_3 : List Sm := (.setII (.var 6) (.int 0) (.var 6) (.bin .add (.bin .add (.int 1) (.fld .web 2 (.var 0))) (.var 2)) (.cst "SPAN" (.int 4)) (.neg (.int 1))) :: b_forms_4
def b_forms_2 : List Sm := (.frz 5) :: b_forms_3
def b_forms_1 : List Sm := (.setII (.var 5) (.int 0) (.var 5) (.bin .add (.bin .add (.int 1) (.fld .web 2 (.var 0))) (.var 2)) (.neg (.int 1)) (.cst "SPAN" (.int 4))) :: b_forms_2
def b_forms_0 : List Sm := (.par [5, 6] [.call "blank" [.var 0], .call "blank" [.var 0]]) :: b_forms_1
def b_forms_8 : List Sm := [.ret (.var 1)]
def b_forms_7 : List Sm := (.for_ (.nm 2) (.itr .rng2 [.int 1, .fld .web 1 (.var 0)]) [.ite (.call "has_scale" [.var 0, .var 2]) b_forms_0 []]) :: b_forms_8
def b_forms_6 : List Sm := (.set 1 (.own (.lcm2 (.nm 3) [3, 4] (.itr .seq [.fld .web 3 (.var 0)]) (.nm 4) [4] (.itr .seq [.call "forms_of" [.var 0, .var 3]]) (.var 4)))) :: b_forms_7
def df_forms : Df := ⟨1, 7, b_forms_6⟩
def b_Table___init___4 : List Sm := [.setF .table 4 (.var 0) (.int 1)]
def b_Table___init___3 : List Sm := (.setF .table 3 (.var 0) (.own (.blt .listR1 [.fld .table 0 (.var 0)]))) :: b_Table___init___4
def b_Table___init___2 : List Sm := (.setF .table 2 (.var 0) (.own (.bin .add (.lcm (.nm 4) [4] (.itr .rng1 [.blt .len [.var 1]]) (.bl true) (.bin .add (.fld .table 0 (.var 0)) (.var 4))) (.lst [.neg (.int 1)])))) :: b_Table___init___3
def b_Table___init___1 : List Sm := (.setF .table 1 (.var 0) (.bin .add (.lcm (.nm 3) [3] (.itr .seq [.var 1]) (.bl true) (.blt .list [.var 3])) (.lst [.blt .list [.var 2]]))) :: b_Table___init___2
def b_Table___init___0 : List Sm := (.setF .table 0 (.var 0) (.bin .sub (.blt .len [.var 2]) (.int 1))) :: b_Table___init___1
def df_Table___init__ : Df := ⟨3, 5, b_Table___init___0⟩
def b_Table_exchange_2 : List Sm := [.frz 8]
def b_Table_exchange_1 : List Sm := (.setI (.var 8) (.bin .add (.var 2) (.int 1)) (.fld .table 4 (.var 0))) :: b_Table_exchange_2
def b_Table_exchange_0 : List Sm := (.set 8 (.own (.lcm (.nm 11) [11] (.itr .seq [.var 3]) (.bl true) (.neg (.var 11))))) :: b_Table_exchange_1
def b_Table_exchange_6 : List Sm := [.frz 8]
def b_Table_exchange_5 : List Sm := (.setI (.var 8) (.bin .add (.var 2) (.int 1)) (.var 9)) :: b_Table_exchange_6
def b_Table_exchange_4 : List Sm := (.set 8 (.own (.lcm (.tp [.nm 10, .nm 12]) [10, 12] (.itr .zip [.var 7, .var 3]) (.bl true) (.bin .fdiv (.bin .sub (.bin .mul (.var 4) (.var 10)) (.bin .mul (.var 9) (.var 12))) (.fld .table 4 (.var 0)))))) :: b_Table_exchange_5
def b_Table_exchange_3 : List Sm := (.set 9 (.sub (.var 7) (.bin .add (.var 2) (.int 1)))) :: b_Table_exchange_4
def b_Table_exchange_8 : List Sm := [.app (.var 5) (.var 8)]
def b_Table_exchange_7 : List Sm := (.ite (.cmp .eq (.var 6) (.var 1)) b_Table_exchange_0 b_Table_exchange_3) :: b_Table_exchange_8
def b_Table_exchange_10 : List Sm := [.frz 5]
def b_Table_exchange_9 : List Sm := (.set 5 (.own (.lcm (.nm 10) [10] (.itr .seq [.var 5]) (.bl true) (.lcm (.nm 11) [11] (.itr .seq [.var 10]) (.bl true) (.neg (.var 11)))))) :: b_Table_exchange_10
def b_Table_exchange_19 : List Sm := [.setII (.fld .table 2 (.var 0)) (.var 1) (.fld .table 3 (.var 0)) (.var 2) (.sub (.fld .table 3 (.var 0)) (.var 2)) (.sub (.fld .table 2 (.var 0)) (.var 1))]
def b_Table_exchange_18 : List Sm := (.setF .table 4 (.var 0) (.blt .abs [.var 4])) :: b_Table_exchange_19
def b_Table_exchange_17 : List Sm := (.setF .table 1 (.var 0) (.var 5)) :: b_Table_exchange_18
def b_Table_exchange_16 : List Sm := (.ite (.cmp .lt (.var 4) (.int 0)) b_Table_exchange_9 []) :: b_Table_exchange_17
def b_Table_exchange_15 : List Sm := (.frz 5) :: b_Table_exchange_16
def b_Table_exchange_14 : List Sm := (.for_ (.tp [.nm 6, .nm 7]) (.itr (.enm 0) [.fld .table 1 (.var 0)]) b_Table_exchange_7) :: b_Table_exchange_15
def b_Table_exchange_13 : List Sm := (.set 5 (.own (.lst []))) :: b_Table_exchange_14
def b_Table_exchange_12 : List Sm := (.set 4 (.sub (.var 3) (.bin .add (.var 2) (.int 1)))) :: b_Table_exchange_13
def b_Table_exchange_11 : List Sm := (.set 3 (.sub (.fld .table 1 (.var 0)) (.var 1))) :: b_Table_exchange_12
def df_Table_exchange : Df := ⟨3, 13, b_Table_exchange_11⟩
def b_Table_bring_in_1 : List Sm := [.brk]
def b_Table_bring_in_0 : List Sm := (.ex (.mth .table "exchange" "Table.exchange" (.var 0) [.var 2, .var 1])) :: b_Table_bring_in_1
def b_Table_bring_in_2 : List Sm := [.ite (.and (.cmp .ge (.sub (.fld .table 2 (.var 0)) (.var 2)) (.fld .table 0 (.var 0))) (.cmp .ne (.sub (.sub (.fld .table 1 (.var 0)) (.var 2)) (.bin .add (.var 1) (.int 1))) (.int 0))) b_Table_bring_in_0 []]
def b_Table_bring_in_3 : List Sm := [.for_ (.nm 2) (.itr .rng1 [.blt .len [.fld .table 1 (.var 0)]]) b_Table_bring_in_2]
def b_Table_bring_in_4 : List Sm := [.for_ (.nm 1) (.itr .rng1 [.fld .table 0 (.var 0)]) b_Table_bring_in_3]
def df_Table_bring_in : Df := ⟨1, 3, b_Table_bring_in_4⟩
def b_Table_lacking_1 : List Sm := [.ret (.ite (.cmp .ne (.var 1) (.lst [])) (.sub (.blt .minL [.var 1]) (.int 1)) .non)]
def b_Table_lacking_0 : List Sm := (.set 1 (.lcm (.tp [.nm 2, .nm 3]) [2, 3] (.itr (.enm 0) [.fld .table 1 (.var 0)]) (.and (.cmp .ge (.sub (.fld .table 2 (.var 0)) (.var 2)) (.fld .table 0 (.var 0))) (.cmp .lt (.sub (.var 3) (.int 0)) (.int 0))) (.tup [.sub (.fld .table 2 (.var 0)) (.var 2), .var 2]))) :: b_Table_lacking_1
def df_Table_lacking : Df := ⟨1, 4, b_Table_lacking_0⟩
def b_Table_gaining_2 : List Sm := [.ret (.ite (.cmp .ne (.var 2) (.lst [])) (.sub (.blt .minL [.var 2]) (.int 1)) .non)]
def b_Table_gaining_1 : List Sm := (.set 2 (.lcm (.nm 3) [3] (.itr .rng1 [.fld .table 0 (.var 0)]) (.and (.cmp .ge (.sub (.fld .table 3 (.var 0)) (.var 3)) (.fld .table 0 (.var 0))) (.cmp .gt (.sub (.var 1) (.bin .add (.var 3) (.int 1))) (.int 0))) (.tup [.sub (.fld .table 3 (.var 0)) (.var 3), .var 3]))) :: b_Table_gaining_2
def b_Table_gaining_0 : List Sm := (.set 1 (.sub (.fld .table 1 (.var 0)) (.neg (.int 1)))) :: b_Table_gaining_1
def df_Table_gaining : Df := ⟨1, 4, b_Table_gaining_0⟩
def b_Table_raising_2 : List Sm := [.ret (.ite (.cmp .ne (.var 3) (.lst [])) (.sub (.blt .minL [.var 3]) (.int 1)) .non)]
def b_Table_raising_1 : List Sm := (.set 3 (.lcm (.nm 4) [4] (.itr .rng1 [.fld .table 0 (.var 0)]) (.and (.cmp .ge (.sub (.fld .table 3 (.var 0)) (.var 4)) (.fld .table 0 (.var 0))) (.cmp .gt (.sub (.var 2) (.bin .add (.var 4) (.int 1))) (.int 0))) (.tup [.sub (.fld .table 3 (.var 0)) (.var 4), .var 4]))) :: b_Table_raising_2
def b_Table_raising_0 : List Sm := (.set 2 (.sub (.fld .table 1 (.var 0)) (.var 1))) :: b_Table_raising_1
def df_Table_raising : Df := ⟨2, 5, b_Table_raising_0⟩
def b_Table_ending_0 : List Sm := [.app (.var 2) (.tup [.sub (.fld .table 2 (.var 0)) (.var 3), .var 3])]
def b_Table_ending_1 : List Sm := [.ite (.and (.cmp .ge (.sub (.fld .table 2 (.var 0)) (.var 3)) (.fld .table 0 (.var 0))) (.cmp .lt (.sub (.var 4) (.bin .add (.var 1) (.int 1))) (.int 0))) b_Table_ending_0 []]
def b_Table_ending_5 : List Sm := [.ret (.ite (.cmp .ne (.var 2) (.lst [])) (.sub (.blt .minL [.var 2]) (.int 1)) .non)]
def b_Table_ending_4 : List Sm := (.frz 2) :: b_Table_ending_5
def b_Table_ending_3 : List Sm := (.for_ (.tp [.nm 3, .nm 4]) (.itr (.enm 0) [.fld .table 1 (.var 0)]) b_Table_ending_1) :: b_Table_ending_4
def b_Table_ending_2 : List Sm := (.set 2 (.own (.lst []))) :: b_Table_ending_3
def df_Table_ending : Df := ⟨2, 5, b_Table_ending_2⟩
def b_Table_loose_0 : List Sm := [.ite (.and (.cmp .lt (.sub (.fld .table 3 (.var 0)) (.var 1)) (.fld .table 0 (.var 0))) (.cmp .ne (.sub (.sub (.fld .table 1 (.var 0)) (.neg (.int 1))) (.bin .add (.var 1) (.int 1))) (.int 0))) [.ret (.var 1)] []]
def b_Table_loose_2 : List Sm := [.ret (.non)]
def b_Table_loose_1 : List Sm := (.for_ (.nm 1) (.itr .rng1 [.fld .table 0 (.var 0)]) b_Table_loose_0) :: b_Table_loose_2
def df_Table_loose : Df := ⟨1, 2, b_Table_loose_1⟩
def b_Table_point_0 : List Sm := [.setI (.var 1) (.sub (.fld .table 2 (.var 0)) (.var 2)) (.call "fraction" [.sub (.var 3) (.int 0), .fld .table 4 (.var 0)])]
def b_Table_point_1 : List Sm := [.ite (.chn .le .lt (.int 0) (.sub (.fld .table 2 (.var 0)) (.var 2)) (.fld .table 0 (.var 0))) b_Table_point_0 []]
def b_Table_point_5 : List Sm := [.ret (.var 1)]
def b_Table_point_4 : List Sm := (.frz 1) :: b_Table_point_5
def b_Table_point_3 : List Sm := (.for_ (.tp [.nm 2, .nm 3]) (.itr (.enm 0) [.fld .table 1 (.var 0)]) b_Table_point_1) :: b_Table_point_4
def b_Table_point_2 : List Sm := (.set 1 (.own (.bin .mul (.lst [.tup [.int 0, .int 1]]) (.fld .table 0 (.var 0))))) :: b_Table_point_3
def df_Table_point : Df := ⟨1, 4, b_Table_point_2⟩
def b_Table_course_0 : List Sm := [.setI (.var 3) (.sub (.fld .table 3 (.var 0)) (.var 1)) (.tup [.var 2, .int 1])]
def b_Table_course_1 : List Sm := [.setI (.var 3) (.sub (.fld .table 2 (.var 0)) (.var 4)) (.call "fraction" [.bin .mul (.var 2) (.sub (.var 5) (.bin .add (.var 1) (.int 1))), .fld .table 4 (.var 0)])]
def b_Table_course_2 : List Sm := [.ite (.chn .le .lt (.int 0) (.sub (.fld .table 2 (.var 0)) (.var 4)) (.fld .table 0 (.var 0))) b_Table_course_1 []]
def b_Table_course_7 : List Sm := [.ret (.var 3)]
def b_Table_course_6 : List Sm := (.frz 3) :: b_Table_course_7
def b_Table_course_5 : List Sm := (.for_ (.tp [.nm 4, .nm 5]) (.itr (.enm 0) [.fld .table 1 (.var 0)]) b_Table_course_2) :: b_Table_course_6
def b_Table_course_4 : List Sm := (.ite (.cmp .lt (.sub (.fld .table 3 (.var 0)) (.var 1)) (.fld .table 0 (.var 0))) b_Table_course_0 []) :: b_Table_course_5
def b_Table_course_3 : List Sm := (.set 3 (.own (.bin .mul (.lst [.tup [.int 0, .int 1]]) (.fld .table 0 (.var 0))))) :: b_Table_course_4
def df_Table_course : Df := ⟨3, 6, b_Table_course_3⟩
def b_Table_weights_by_0 : List Sm := [.setI (.var 4) (.bin .sub (.sub (.fld .table 3 (.var 0)) (.var 5)) (.fld .table 0 (.var 0))) (.call "fraction" [.neg (.sub (.var 1) (.bin .add (.var 5) (.int 1))), .var 2])]
def b_Table_weights_by_1 : List Sm := [.ite (.cmp .ge (.sub (.fld .table 3 (.var 0)) (.var 5)) (.fld .table 0 (.var 0))) b_Table_weights_by_0 []]
def b_Table_weights_by_2 : List Sm := [.setI (.var 4) (.bin .sub (.var 3) (.fld .table 0 (.var 0))) (.call "fraction" [.fld .table 4 (.var 0), .var 2])]
def b_Table_weights_by_7 : List Sm := [.ret (.blt .tuple [.var 4])]
def b_Table_weights_by_6 : List Sm := (.frz 4) :: b_Table_weights_by_7
def b_Table_weights_by_5 : List Sm := (.ite (.cmp .ge (.var 3) (.fld .table 0 (.var 0))) b_Table_weights_by_2 []) :: b_Table_weights_by_6
def b_Table_weights_by_4 : List Sm := (.for_ (.nm 5) (.itr .rng1 [.fld .table 0 (.var 0)]) b_Table_weights_by_1) :: b_Table_weights_by_5
def b_Table_weights_by_3 : List Sm := (.set 4 (.own (.bin .mul (.lst [.tup [.int 0, .int 1]]) (.bin .sub (.blt .len [.fld .table 1 (.var 0)]) (.int 1))))) :: b_Table_weights_by_4
def df_Table_weights_by : Df := ⟨4, 6, b_Table_weights_by_3⟩
def b_solve_1 : List Sm := [.ret (.tup [.str "none", .mth .table "weights_by" "Table.weights_by" (.var 2) [.var 6, .neg (.sub (.var 6) (.int 0)), .sub (.fld .table 2 (.var 2)) (.var 3)]])]
def b_solve_0 : List Sm := (.set 6 (.sub (.fld .table 1 (.var 2)) (.var 3))) :: b_solve_1
def b_solve_5 : List Sm := [.set 3 (.mth .table "lacking" "Table.lacking" (.var 2) [])]
def b_solve_4 : List Sm := (.ex (.mth .table "exchange" "Table.exchange" (.var 2) [.var 3, .var 5])) :: b_solve_5
def b_solve_3 : List Sm := (.ite (.isN false (.var 5)) b_solve_0 []) :: b_solve_4
def b_solve_2 : List Sm := (.set 5 (.mth .table "raising" "Table.raising" (.var 2) [.var 3])) :: b_solve_3
def b_solve_6 : List Sm := [.ret (.tup [.str "free", .var 4, .mth .table "course" "Table.course" (.var 2) [.var 5, .ite (.cmp .gt (.sub (.sub (.fld .table 1 (.var 2)) (.neg (.int 1))) (.bin .add (.var 5) (.int 1))) (.int 0)) (.int 1) (.neg (.int 1))]])]
def b_solve_14 : List Sm := [.ret (.call "climb" [.var 2, .var 4])]
def b_solve_13 : List Sm := (.ite (.isN true (.var 5)) b_solve_6 []) :: b_solve_14
def b_solve_12 : List Sm := (.set 5 (.mth .table "loose" "Table.loose" (.var 2) [])) :: b_solve_13
def b_solve_11 : List Sm := (.set 4 (.mth .table "point" "Table.point" (.var 2) [])) :: b_solve_12
def b_solve_10 : List Sm := (.whl (.isN true (.var 3)) b_solve_2) :: b_solve_11
def b_solve_9 : List Sm := (.set 3 (.mth .table "lacking" "Table.lacking" (.var 2) [])) :: b_solve_10
def b_solve_8 : List Sm := (.ex (.mth .table "bring_in" "Table.bring_in" (.var 2) [])) :: b_solve_9
def b_solve_7 : List Sm := (.set 2 (.new .table [.var 0, .var 1])) :: b_solve_8
def df_solve : Df := ⟨2, 7, b_solve_7⟩
def b_climb_1 : List Sm := [.ret (.tup [.str "most", .call "fraction" [.sub (.var 4) (.int 0), .fld .table 4 (.var 0)], .mth .table "weights_by" "Table.weights_by" (.var 0) [.var 4, .fld .table 4 (.var 0), .neg (.int 1)], .mth .table "point" "Table.point" (.var 0) []])]
def b_climb_0 : List Sm := (.set 4 (.sub (.fld .table 1 (.var 0)) (.neg (.int 1)))) :: b_climb_1
def b_climb_2 : List Sm := [.ex (.mth .table "exchange" "Table.exchange" (.var 0) [.var 2, .mth .table "raising" "Table.raising" (.var 0) [.var 2]])]
def b_climb_3 : List Sm := [.ret (.tup [.str "free", .var 1, .mth .table "course" "Table.course" (.var 0) [.var 3, .int 1]])]
def b_climb_6 : List Sm := [.ex (.mth .table "exchange" "Table.exchange" (.var 0) [.var 5, .var 3])]
def b_climb_5 : List Sm := (.ite (.isN false (.var 5)) b_climb_3 []) :: b_climb_6
def b_climb_4 : List Sm := (.set 5 (.mth .table "ending" "Table.ending" (.var 0) [.var 3])) :: b_climb_5
def b_climb_9 : List Sm := [.ite (.or (.isN false (.var 3)) (.and (.isN true (.var 2)) (.cmp .lt (.sub (.fld .table 2 (.var 0)) (.var 2)) (.sub (.fld .table 3 (.var 0)) (.var 3))))) b_climb_2 b_climb_4]
def b_climb_8 : List Sm := (.ite (.and (.isN false (.var 2)) (.isN false (.var 3))) b_climb_0 []) :: b_climb_9
def b_climb_7 : List Sm := (.par [2, 3] [.mth .table "lacking" "Table.lacking" (.var 0) [], .mth .table "gaining" "Table.gaining" (.var 0) []]) :: b_climb_8
def b_climb_900 : List Sm := [.whl (.bl true) b_climb_7]
def df_climb : Df := ⟨2, 6, b_climb_900⟩
def b_amounts_of_3 : List Sm := [.ret (.tup [.blt .tuple [.var 4], .blt .tuple [.var 2], .blt .tuple [.var 3]])]
def b_amounts_of_2 : List Sm := (.set 3 (.lcm (.nm 6) [6] (.itr .seq [.var 5]) (.bl true) (.ite (.call "has_shift" [.var 0, .var 6]) (.sub (.var 1) (.bin .add (.bin .add (.fld .web 2 (.var 0)) (.fld .web 1 (.var 0))) (.var 6))) (.tup [.int 0, .int 1])))) :: b_amounts_of_3
def b_amounts_of_1 : List Sm := (.set 2 (.lcm (.nm 6) [6] (.itr .seq [.var 5]) (.bl true) (.ite (.call "has_scale" [.var 0, .var 6]) (.sub (.var 1) (.bin .add (.fld .web 2 (.var 0)) (.var 6))) (.tup [.int 1, .int 1])))) :: b_amounts_of_2
def b_amounts_of_0 : List Sm := (.par [4, 5] [.sli (.var 1) .non (.fld .web 2 (.var 0)), .blt .listR1 [.fld .web 1 (.var 0)]]) :: b_amounts_of_1
def df_amounts_of : Df := ⟨2, 7, b_amounts_of_0⟩
def b_find_amounts_1 : List Sm := [.ret (.ite (.cmp .eq (.sub (.var 1) (.int 0)) (.str "none")) .non (.call "amounts_of" [.var 0, .sub (.var 1) (.int 3)]))]
def b_find_amounts_0 : List Sm := (.set 1 (.call "solve" [.frz (.call "forms" [.var 0]), .frz (.call "blank" [.var 0])])) :: b_find_amounts_1
def df_find_amounts : Df := ⟨1, 2, b_find_amounts_0⟩
def b_against_1 : List Sm := [.ret (.ite (.cmp .eq (.sub (.var 1) (.int 0)) (.str "none")) (.sub (.var 1) (.int 1)) .non)]
def b_against_0 : List Sm := (.set 1 (.call "solve" [.frz (.call "forms" [.var 0]), .frz (.call "blank" [.var 0])])) :: b_against_1
def df_against : Df := ⟨1, 2, b_against_0⟩
def b__law_mix_0 : List Sm := [.set 2 (.bin .mod (.blt .int [.bin .add (.bin .add (.bin .mul (.var 2) (.int 48271)) (.bin .mod (.blt .int [.var 3]) (.int 2147483629))) (.int 1)]) (.int 2147483647))]
def b__law_mix_3 : List Sm := [.ret (.own (.lst [.var 2, .own (.blt .list [.var 0]), .int 0]))]
def b__law_mix_2 : List Sm := (.for_ (.nm 3) (.itr .seq [.var 0]) b__law_mix_0) :: b__law_mix_3
def b__law_mix_1 : List Sm := (.set 2 (.var 1)) :: b__law_mix_2
def df__law_mix : Df := ⟨2, 4, b__law_mix_1⟩
def b__law_next_1 : List Sm := [.ret (.bin .mod (.blt .int [.var 2]) (.var 1))]
def b__law_next_0 : List Sm := (.setI (.sub (.var 0) (.int 1)) (.bin .mod (.blt .int [.sub (.var 0) (.int 2)]) (.blt .len [.sub (.var 0) (.int 1)])) (.bin .fdiv (.var 2) (.var 1))) :: b__law_next_1
def b__law_next_6 : List Sm := [.ret (.bin .mod (.blt .int [.bin .fdiv (.sub (.var 0) (.int 0)) (.int 7)]) (.var 1))]
def b__law_next_5 : List Sm := (.setI (.var 0) (.int 2) (.bin .add (.sub (.var 0) (.int 2)) (.int 1))) :: b__law_next_6
def b__law_next_4 : List Sm := (.setI (.var 0) (.int 0) (.bin .mod (.blt .int [.bin .add (.bin .add (.bin .mul (.sub (.var 0) (.int 0)) (.int 48271)) (.bin .mul (.var 2) (.int 69621))) (.int 11)]) (.int 2147483647))) :: b__law_next_5
def b__law_next_3 : List Sm := (.ite (.cmp .ge (.var 2) (.bin .pow (.int 10) (.int 18))) b__law_next_0 []) :: b__law_next_4
def b__law_next_2 : List Sm := (.set 2 (.sub (.bin .add (.sub (.var 0) (.int 1)) (.lst [.int 0])) (.bin .mod (.blt .int [.sub (.var 0) (.int 2)]) (.blt .max2 [.int 1, .blt .len [.sub (.var 0) (.int 1)]])))) :: b__law_next_3
def df__law_next : Df := ⟨2, 3, b__law_next_2⟩
def b__law_pick_0 : List Sm := [.ret (.sub (.var 1) (.call "_law_next" [.var 0, .blt .len [.var 1]]))]
def df__law_pick : Df := ⟨2, 2, b__law_pick_0⟩
def b__law_frac_0 : List Sm := [.par [2, 3] [.var 3, .bin .mod (.blt .int [.var 2]) (.var 3)]]
def b__law_frac_4 : List Sm := [.ret (.tup [.bin .fdiv (.var 0) (.var 2), .bin .fdiv (.var 1) (.var 2)])]
def b__law_frac_3 : List Sm := (.ite (.cmp .lt (.var 1) (.int 0)) [.set 2 (.neg (.var 2))] []) :: b__law_frac_4
def b__law_frac_2 : List Sm := (.whl (.cmp .gt (.var 3) (.int 0)) b__law_frac_0) :: b__law_frac_3
def b__law_frac_1 : List Sm := (.par [2, 3] [.blt .abs [.var 0], .blt .abs [.var 1]]) :: b__law_frac_2
def df__law_frac : Df := ⟨2, 4, b__law_frac_1⟩
def b__law_is_frac_0 : List Sm := [.ite (.or (.not (.isi [.table, .web] [.int] (.var 1))) (.isi [.table, .web] [.bool] (.var 1))) [.ret (.bl false)] []]
def b__law_is_frac_3 : List Sm := [.ret (.and (.cmp .gt (.sub (.var 0) (.int 1)) (.int 0)) (.cmp .eq (.call "_law_frac" [.sub (.var 0) (.int 0), .sub (.var 0) (.int 1)]) (.var 0)))]
def b__law_is_frac_2 : List Sm := (.for_ (.nm 1) (.itr .seq [.var 0]) b__law_is_frac_0) :: b__law_is_frac_3
def b__law_is_frac_1 : List Sm := (.ite (.or (.not (.isi [.table, .web] [.tuple] (.var 0))) (.cmp .ne (.blt .len [.var 0]) (.int 2))) [.ret (.bl false)] []) :: b__law_is_frac_2
def df__law_is_frac : Df := ⟨1, 2, b__law_is_frac_1⟩
def b__law_stands_0 : List Sm := [.ret (.call "_law_frac" [.bin .add (.bin .mul (.bin .mul (.sub (.var 0) (.int 0)) (.var 2)) (.sub (.var 1) (.int 1))) (.bin .mul (.sub (.var 1) (.int 0)) (.sub (.var 0) (.int 1))), .bin .mul (.sub (.var 0) (.int 1)) (.sub (.var 1) (.int 1))])]
def df__law_stands : Df := ⟨3, 3, b__law_stands_0⟩
def b__law_most_0 : List Sm := [.ret (.cmp .le (.bin .mul (.sub (.var 0) (.int 0)) (.sub (.var 1) (.int 1))) (.bin .mul (.sub (.var 1) (.int 0)) (.sub (.var 0) (.int 1))))]
def df__law_most : Df := ⟨2, 2, b__law_most_0⟩
def b__law_are_0 : List Sm := [.ite (.or (.not (.isi [.table, .web] [.tuple] (.var 3))) (.or (.cmp .ne (.blt .len [.var 3]) (.var 4)) (.cmp .ne (.lcm (.nm 7) [7] (.itr .seq [.var 3]) (.not (.call "_law_is_frac" [.var 7])) (.var 7)) (.lst [])))) [.ret (.bl false)] []]
def b__law_are_4 : List Sm := [.ite (.and (.cmp .ne (.var 6) (.tup [.int 0, .int 1])) (.or (.cmp .eq (.var 2) (.int 0)) (.cmp .eq (.sub (.var 0) (.int 0)) (.str "scale")))) [.ret (.bl false)] []]
def b__law_are_3 : List Sm := (.ite (.and (.cmp .ne (.var 5) (.tup [.int 1, .int 1])) (.or (.cmp .eq (.var 2) (.int 0)) (.cmp .eq (.sub (.var 0) (.int 0)) (.str "shift")))) [.ret (.bl false)] []) :: b__law_are_4
def b__law_are_2 : List Sm := (.ite (.or (.cmp .gt (.sub (.var 5) (.int 1)) (.bin .mul (.int 4) (.sub (.var 5) (.int 0)))) (.cmp .gt (.sub (.var 5) (.int 0)) (.bin .mul (.int 4) (.sub (.var 5) (.int 1))))) [.ret (.bl false)] []) :: b__law_are_3
def b__law_are_1 : List Sm := (.par [5, 6] [.sub (.sub (.var 1) (.int 1)) (.var 2), .sub (.sub (.var 1) (.int 2)) (.var 2)]) :: b__law_are_2
def b__law_are_8 : List Sm := [.ret (.bl true)]
def b__law_are_7 : List Sm := (.for_ (.nm 2) (.itr .rng1 [.sub (.var 0) (.int 1)]) b__law_are_1) :: b__law_are_8
def b__law_are_6 : List Sm := (.for_ (.tp [.nm 3, .nm 4]) (.itr .zip [.var 1, .lst [.sub (.var 0) (.int 2), .sub (.var 0) (.int 1), .sub (.var 0) (.int 1)]]) b__law_are_0) :: b__law_are_7
def b__law_are_5 : List Sm := (.ite (.or (.not (.isi [.table, .web] [.tuple] (.var 1))) (.cmp .ne (.blt .len [.var 1]) (.int 3))) [.ret (.bl false)] []) :: b__law_are_6
def df__law_are : Df := ⟨2, 8, b__law_are_5⟩
def b__law_fit_1 : List Sm := [.set 8 (.call "_law_stands" [.sub (.sub (.var 1) (.int 1)) (.var 4), .sub (.sub (.var 1) (.int 2)) (.var 4), .bin .add (.var 5) (.int 1)])]
def b__law_fit_0 : List Sm := (.set 7 (.call "_law_stands" [.sub (.sub (.var 1) (.int 1)) (.var 4), .sub (.sub (.var 1) (.int 2)) (.var 4), .var 5])) :: b__law_fit_1
def b__law_fit_4 : List Sm := [.ite (.or (.not (.call "_law_most" [.var 7, .var 6])) (.and (.cmp .ne (.var 2) (.str "above")) (.not (.call "_law_most" [.var 6, .var 8])))) [.ret (.bl false)] []]
def b__law_fit_3 : List Sm := (.ite (.cmp .eq (.var 2) (.str "told")) [.par [7, 8] [.tup [.var 4, .int 1], .tup [.var 5, .int 1]]] b__law_fit_0) :: b__law_fit_4
def b__law_fit_2 : List Sm := (.set 6 (.sub (.sub (.var 1) (.int 0)) (.var 3))) :: b__law_fit_3
def b__law_fit_7 : List Sm := [.ret (.bl true)]
def b__law_fit_6 : List Sm := (.for_ (.tp [.nm 2, .nm 3, .nm 4, .nm 5]) (.itr .seq [.sub (.var 0) (.int 3)]) b__law_fit_2) :: b__law_fit_7
def b__law_fit_5 : List Sm := (.ite (.not (.call "_law_are" [.var 0, .var 1])) [.ret (.bl false)] []) :: b__law_fit_6
def df__law_fit : Df := ⟨2, 9, b__law_fit_5⟩
def b__law_line_0 : List Sm := [.setI (.var 3) (.bin .add (.int 1) (.var 4)) (.bin .add (.sub (.var 3) (.bin .add (.int 1) (.var 4))) (.var 5))]
def b__law_line_2 : List Sm := [.setI (.var 3) (.var 8) (.bin .add (.sub (.var 3) (.var 8)) (.var 5))]
def b__law_line_1 : List Sm := (.set 8 (.bin .add (.bin .add (.bin .add (.int 1) (.sub (.var 0) (.int 2))) (.sub (.var 0) (.int 1))) (.var 6))) :: b__law_line_2
def b__law_line_5 : List Sm := [.ite (.and (.cmp .gt (.var 6) (.int 0)) (.cmp .ne (.sub (.var 0) (.int 0)) (.str "scale"))) b__law_line_1 []]
def b__law_line_4 : List Sm := (.setI (.var 3) (.var 8) (.bin .add (.sub (.var 3) (.var 8)) (.bin .mul (.var 5) (.var 7)))) :: b__law_line_5
def b__law_line_3 : List Sm := (.set 8 (.ite (.or (.cmp .eq (.var 6) (.int 0)) (.cmp .eq (.sub (.var 0) (.int 0)) (.str "shift"))) (.int 0) (.bin .add (.bin .add (.int 1) (.sub (.var 0) (.int 2))) (.var 6)))) :: b__law_line_4
def b__law_line_9 : List Sm := [.ret (.var 3)]
def b__law_line_8 : List Sm := (.for_ (.tp [.nm 6, .nm 7, .nm 5]) (.itr .seq [.var 2]) b__law_line_3) :: b__law_line_9
def b__law_line_7 : List Sm := (.for_ (.tp [.nm 4, .nm 5]) (.itr .seq [.var 1]) b__law_line_0) :: b__law_line_8
def b__law_line_6 : List Sm := (.set 3 (.own (.bin .mul (.lst [.int 0]) (.bin .add (.bin .add (.int 1) (.sub (.var 0) (.int 2))) (.bin .mul (.int 2) (.sub (.var 0) (.int 1))))))) :: b__law_line_7
def df__law_line : Df := ⟨3, 9, b__law_line_6⟩
def b__law_forms_1 : List Sm := [.app (.var 1) (.frz (.call "_law_line" [.var 0, .lst [.tup [.var 4, .neg (.int 1)]], .lst [.tup [.int 0, .var 5, .int 1]]]))]
def b__law_forms_0 : List Sm := (.app (.var 1) (.frz (.call "_law_line" [.var 0, .lst [.tup [.var 4, .int 1]], .lst [.tup [.int 0, .var 2, .neg (.int 1)]]]))) :: b__law_forms_1
def b__law_forms_2 : List Sm := [.app (.var 1) (.frz (.call "_law_line" [.var 0, .lst [.tup [.var 4, .neg (.int 1)]], .lst [.tup [.var 2, .bin .add (.var 5) (.int 1), .int 1]]]))]
def b__law_forms_4 : List Sm := [.ite (.cmp .eq (.var 3) (.str "at")) b__law_forms_2 []]
def b__law_forms_3 : List Sm := (.app (.var 1) (.frz (.call "_law_line" [.var 0, .lst [.tup [.var 4, .int 1]], .lst [.tup [.var 2, .var 5, .neg (.int 1)]]]))) :: b__law_forms_4
def b__law_forms_5 : List Sm := [.ite (.cmp .eq (.var 3) (.str "told")) b__law_forms_0 b__law_forms_3]
def b__law_forms_12 : List Sm := [.frz 1]
def b__law_forms_11 : List Sm := (.set 1 (.own (.bin .add (.var 1) (.lst [.var 6, .var 7])))) :: b__law_forms_12
def b__law_forms_10 : List Sm := (.frz 7) :: b__law_forms_11
def b__law_forms_9 : List Sm := (.frz 6) :: b__law_forms_10
def b__law_forms_8 : List Sm := (.setII (.var 6) (.bin .add (.bin .add (.int 1) (.sub (.var 0) (.int 2))) (.var 2)) (.var 7) (.bin .add (.bin .add (.int 1) (.sub (.var 0) (.int 2))) (.var 2)) (.int 4) (.neg (.int 1))) :: b__law_forms_9
def b__law_forms_7 : List Sm := (.setII (.var 6) (.int 0) (.var 7) (.int 0) (.neg (.int 1)) (.int 4)) :: b__law_forms_8
def b__law_forms_6 : List Sm := (.par [6, 7] [.call "_law_line" [.var 0, .lst [], .lst []], .call "_law_line" [.var 0, .lst [], .lst []]]) :: b__law_forms_7
def b__law_forms_13 : List Sm := [.ite (.cmp .ne (.sub (.var 0) (.int 0)) (.str "shift")) b__law_forms_6 []]
def b__law_forms_18 : List Sm := [.ret (.var 1)]
def b__law_forms_17 : List Sm := (.for_ (.nm 2) (.itr .rng2 [.int 1, .sub (.var 0) (.int 1)]) b__law_forms_13) :: b__law_forms_18
def b__law_forms_16 : List Sm := (.frz 1) :: b__law_forms_17
def b__law_forms_15 : List Sm := (.for_ (.tp [.nm 3, .nm 4, .nm 2, .nm 5]) (.itr .seq [.sub (.var 0) (.int 3)]) b__law_forms_5) :: b__law_forms_16
def b__law_forms_14 : List Sm := (.set 1 (.own (.lst []))) :: b__law_forms_15
def df__law_forms : Df := ⟨1, 8, b__law_forms_14⟩
def b__law_gives_1 : List Sm := [.set 6 (.bin .mul (.var 6) (.sub (.var 8) (.int 1)))]
def b__law_gives_0 : List Sm := (.set 5 (.bin .add (.bin .mul (.var 5) (.sub (.var 8) (.int 1))) (.bin .mul (.bin .mul (.sub (.var 7) (.var 4)) (.sub (.var 8) (.int 0))) (.var 6)))) :: b__law_gives_1
def b__law_gives_4 : List Sm := [.ite (.cmp .ne (.bin .mul (.var 5) (.sub (.sub (.var 2) (.var 4)) (.int 1))) (.bin .mul (.sub (.sub (.var 2) (.var 4)) (.int 0)) (.var 6))) [.ret (.bl false)] []]
def b__law_gives_3 : List Sm := (.for_ (.tp [.nm 7, .nm 8]) (.itr .zip [.var 3, .var 1]) b__law_gives_0) :: b__law_gives_4
def b__law_gives_2 : List Sm := (.par [5, 6] [.int 0, .int 1]) :: b__law_gives_3
def b__law_gives_9 : List Sm := [.ret (.bl true)]
def b__law_gives_8 : List Sm := (.for_ (.nm 4) (.itr .rng1 [.blt .len [.var 2]]) b__law_gives_2) :: b__law_gives_9
def b__law_gives_7 : List Sm := (.ite (.cmp .ne (.lcm (.nm 9) [9] (.itr .seq [.var 1]) (.or (.not (.call "_law_is_frac" [.var 9])) (.cmp .lt (.sub (.var 9) (.int 0)) (.int 0))) (.var 9)) (.lst [])) [.ret (.bl false)] []) :: b__law_gives_8
def b__law_gives_6 : List Sm := (.ite (.or (.not (.isi [.table, .web] [.tuple] (.var 1))) (.cmp .ne (.blt .len [.var 1]) (.blt .len [.var 3]))) [.ret (.bl false)] []) :: b__law_gives_7
def b__law_gives_5 : List Sm := (.set 3 (.call "_law_forms" [.var 0])) :: b__law_gives_6
def df__law_gives : Df := ⟨3, 10, b__law_gives_5⟩
def b__law_none_0 : List Sm := [.ret (.call "_law_gives" [.var 0, .var 1, .bin .add (.lst [.tup [.neg (.int 1), .int 1]]) (.bin .mul (.lst [.tup [.int 0, .int 1]]) (.bin .add (.sub (.var 0) (.int 2)) (.bin .mul (.int 2) (.sub (.var 0) (.int 1)))))])]
def df__law_none : Df := ⟨2, 2, b__law_none_0⟩
def b__law_amounts_1 : List Sm := [.app (.var 7) (.call "_law_frac" [.call "_law_next" [.var 0, .bin .mul (.var 6) (.var 10)], .var 10])]
def b__law_amounts_0 : List Sm := (.set 10 (.bin .add (.int 1) (.call "_law_next" [.var 0, .int 4]))) :: b__law_amounts_1
def b__law_amounts_7 : List Sm := [.app (.var 9) (.var 11)]
def b__law_amounts_6 : List Sm := (.app (.var 8) (.call "_law_frac" [.var 12, .var 13])) :: b__law_amounts_7
def b__law_amounts_5 : List Sm := (.ite (.or (.cmp .eq (.var 5) (.int 0)) (.cmp .eq (.var 1) (.str "scale"))) [.set 11 (.tup [.int 0, .int 1])] []) :: b__law_amounts_6
def b__law_amounts_4 : List Sm := (.ite (.or (.cmp .eq (.var 5) (.int 0)) (.or (.cmp .eq (.var 1) (.str "shift")) (.or (.cmp .gt (.var 12) (.bin .mul (.int 4) (.var 13))) (.cmp .gt (.var 13) (.bin .mul (.int 4) (.var 12)))))) [.par [12, 13] [.int 1, .int 1]] []) :: b__law_amounts_5
def b__law_amounts_3 : List Sm := (.set 11 (.call "_law_frac" [.bin .sub (.call "_law_next" [.var 0, .bin .mul (.int 80) (.var 10)]) (.bin .mul (.int 40) (.var 10)), .var 10])) :: b__law_amounts_4
def b__law_amounts_2 : List Sm := (.par [12, 13, 10] [.bin .add (.int 1) (.call "_law_next" [.var 0, .int 8]), .bin .add (.int 1) (.call "_law_next" [.var 0, .int 8]), .bin .add (.int 1) (.call "_law_next" [.var 0, .int 3])]) :: b__law_amounts_3
def b__law_amounts_14 : List Sm := [.ret (.tup [.blt .tuple [.var 7], .blt .tuple [.var 8], .blt .tuple [.var 9]])]
def b__law_amounts_13 : List Sm := (.frz 9) :: b__law_amounts_14
def b__law_amounts_12 : List Sm := (.frz 8) :: b__law_amounts_13
def b__law_amounts_11 : List Sm := (.for_ (.nm 5) (.itr .rng1 [.var 2]) b__law_amounts_2) :: b__law_amounts_12
def b__law_amounts_10 : List Sm := (.frz 7) :: b__law_amounts_11
def b__law_amounts_9 : List Sm := (.for_ (.nm 4) (.itr .rng1 [.var 3]) b__law_amounts_0) :: b__law_amounts_10
def b__law_amounts_8 : List Sm := (.par [6, 7, 8, 9] [.call "_law_pick" [.var 0, .lst [.int 3, .int 20, .int 100, .int 900]], .own (.lst []), .own (.lst []), .own (.lst [])]) :: b__law_amounts_9
def df__law_amounts : Df := ⟨4, 14, b__law_amounts_8⟩
def b__law_true_1 : List Sm := [.ret (.tup [.str "told", .var 7, .blt .max2 [.int 0, .bin .sub (.var 12) (.call "_law_next" [.var 0, .int 4])], .bin .add (.bin .add (.var 12) (.int 1)) (.call "_law_next" [.var 0, .int 3])])]
def b__law_true_0 : List Sm := (.set 12 (.bin .fdiv (.sub (.var 4) (.int 0)) (.sub (.var 4) (.int 1)))) :: b__law_true_1
def b__law_true_2 : List Sm := [.ret (.tup [.str "above", .var 7, .var 8, .blt .max2 [.int 0, .bin .sub (.var 6) (.call "_law_next" [.var 0, .int 3])]])]
def b__law_true_10 : List Sm := [.ret (.tup [.str "at", .var 7, .var 8, .var 6])]
def b__law_true_9 : List Sm := (.ite (.cmp .eq (.var 9) (.str "above")) b__law_true_2 []) :: b__law_true_10
def b__law_true_8 : List Sm := (.ite (.or (.cmp .eq (.var 9) (.str "told")) (.or (.cmp .lt (.var 6) (.int 0)) (.cmp .gt (.var 6) (.int 999)))) b__law_true_0 []) :: b__law_true_9
def b__law_true_7 : List Sm := (.set 6 (.bin .fdiv (.var 5) (.bin .mul (.bin .mul (.sub (.var 4) (.int 1)) (.sub (.var 11) (.int 1))) (.sub (.var 10) (.int 0))))) :: b__law_true_8
def b__law_true_6 : List Sm := (.set 5 (.bin .mul (.bin .sub (.bin .mul (.sub (.var 4) (.int 0)) (.sub (.var 11) (.int 1))) (.bin .mul (.sub (.var 11) (.int 0)) (.sub (.var 4) (.int 1)))) (.sub (.var 10) (.int 1)))) :: b__law_true_7
def b__law_true_5 : List Sm := (.par [10, 11] [.sub (.sub (.var 3) (.int 1)) (.var 8), .sub (.sub (.var 3) (.int 2)) (.var 8)]) :: b__law_true_6
def b__law_true_4 : List Sm := (.set 4 (.sub (.sub (.var 3) (.int 0)) (.var 7))) :: b__law_true_5
def b__law_true_3 : List Sm := (.par [7, 8, 9] [.call "_law_next" [.var 0, .var 2], .call "_law_next" [.var 0, .var 1], .call "_law_pick" [.var 0, .lst [.str "at", .str "at", .str "at", .str "above", .str "told"]]]) :: b__law_true_4
def df__law_true : Df := ⟨4, 13, b__law_true_3⟩
def b__law_any_1 : List Sm := [.ret (.tup [.str "told", .var 4, .var 3, .bin .add (.var 3) (.call "_law_next" [.var 0, .int 5])])]
def b__law_any_0 : List Sm := (.set 3 (.bin .mul (.var 3) (.call "_law_pick" [.var 0, .lst [.int 1, .int 1, .int 9]]))) :: b__law_any_1
def b__law_any_5 : List Sm := [.ret (.tup [.var 6, .var 4, .var 5, .var 3])]
def b__law_any_4 : List Sm := (.ite (.cmp .eq (.var 6) (.str "told")) b__law_any_0 []) :: b__law_any_5
def b__law_any_3 : List Sm := (.set 3 (.call "_law_next" [.var 0, .call "_law_pick" [.var 0, .lst [.int 3, .int 30, .int 1000]]])) :: b__law_any_4
def b__law_any_2 : List Sm := (.par [4, 5, 6] [.call "_law_next" [.var 0, .var 2], .call "_law_next" [.var 0, .var 1], .call "_law_pick" [.var 0, .lst [.str "at", .str "at", .str "above", .str "told"]]]) :: b__law_any_3
def df__law_any : Df := ⟨3, 7, b__law_any_2⟩
def b__law_web_0 : List Sm := [.ins (.var 7) (.call "_law_next" [.var 0, .bin .add (.blt .len [.var 7]) (.int 1)]) (.call "_law_any" [.var 0, .var 1, .var 2])]
def b__law_web_6 : List Sm := [.ret (.tup [.tup [.var 5, .var 1, .var 2, .blt .tuple [.var 7]], .var 6])]
def b__law_web_5 : List Sm := (.frz 7) :: b__law_web_6
def b__law_web_4 : List Sm := (.for_ (.nm 8) (.itr .rng1 [.var 4]) b__law_web_0) :: b__law_web_5
def b__law_web_3 : List Sm := (.set 7 (.own (.lcm (.nm 8) [8] (.itr .rng1 [.var 3]) (.bl true) (.call "_law_true" [.var 0, .var 1, .var 2, .var 6])))) :: b__law_web_4
def b__law_web_2 : List Sm := (.set 6 (.call "_law_amounts" [.var 0, .var 5, .var 1, .var 2])) :: b__law_web_3
def b__law_web_1 : List Sm := (.set 5 (.call "_law_pick" [.var 0, .lst [.str "shift", .str "scale", .str "both", .str "both"]])) :: b__law_web_2
def df__law_web : Df := ⟨5, 9, b__law_web_1⟩
def b__law_made_0 : List Sm := [.ret (.frz (.new .web [.sub (.var 0) (.int 0), .sub (.var 0) (.int 1), .sub (.var 0) (.int 2), .sub (.var 0) (.int 3)]))]
def df__law_made : Df := ⟨1, 1, b__law_made_0⟩
def b_law_0 : List Sm := [.ite (.or (.call "_law_fit" [.var 7, .var 8]) (.not (.call "_law_none" [.var 7, .var 10]))) [.ret (.bl false)] []]
def b_law_1 : List Sm := [.ite (.or (.isN true (.var 10)) (.not (.call "_law_fit" [.var 7, .var 9]))) [.ret (.bl false)] []]
def b_law_7 : List Sm := [.ite (.isN false (.var 9)) b_law_0 b_law_1]
def b_law_6 : List Sm := (.par [9, 10] [.call "find_amounts" [.var 3], .call "against" [.var 3]]) :: b_law_7
def b_law_5 : List Sm := (.set 3 (.call "_law_made" [.var 7])) :: b_law_6
def b_law_4 : List Sm := (.unp [.nm 7, .nm 8] (.call "_law_web" [.var 1, .var 4, .var 5, .var 6, .call "_law_next" [.var 1, .int 4]])) :: b_law_5
def b_law_3 : List Sm := (.ite (.cmp .eq (.call "_law_next" [.var 1, .int 6]) (.int 0)) [.par [4, 5, 6] [.int 4, .int 6, .int 9]] []) :: b_law_4
def b_law_2 : List Sm := (.par [4, 5, 6] [.bin .add (.int 1) (.call "_law_next" [.var 1, .int 3]), .bin .add (.int 1) (.call "_law_next" [.var 1, .int 3]), .call "_law_next" [.var 1, .int 6]]) :: b_law_3
def b_law_10 : List Sm := [.ret (.bl true)]
def b_law_9 : List Sm := (.for_ (.nm 2) (.itr .rng1 [.int 4]) b_law_2) :: b_law_10
def b_law_8 : List Sm := (.set 1 (.call "_law_mix" [.var 0, .int 4])) :: b_law_9
def df_law : Df := ⟨1, 11, b_law_8⟩
def T : List (String × Df) := [("is_integer", df_is_integer), ("is_reading", df_is_reading), ("Web.__init__", df_Web___init__), ("divisor", df_divisor), ("fraction", df_fraction), ("has_scale", df_has_scale), ("has_shift", df_has_shift), ("blank", df_blank), ("put_level", df_put_level), ("put_result", df_put_result), ("forms_of", df_forms_of), ("forms", df_forms), ("Table.__init__", df_Table___init__), ("Table.exchange", df_Table_exchange), ("Table.bring_in", df_Table_bring_in), ("Table.lacking", df_Table_lacking), ("Table.gaining", df_Table_gaining), ("Table.raising", df_Table_raising), ("Table.ending", df_Table_ending), ("Table.loose", df_Table_loose), ("Table.point", df_Table_point), ("Table.course", df_Table_course), ("Table.weights_by", df_Table_weights_by), ("solve", df_solve), ("climb", df_climb), ("amounts_of", df_amounts_of), ("find_amounts", df_find_amounts), ("against", df_against), ("_law_mix", df__law_mix), ("_law_next", df__law_next), ("_law_pick", df__law_pick), ("_law_frac", df__law_frac), ("_law_is_frac", df__law_is_frac), ("_law_stands", df__law_stands), ("_law_most", df__law_most), ("_law_are", df__law_are), ("_law_fit", df__law_fit), ("_law_line", df__law_line), ("_law_forms", df__law_forms), ("_law_gives", df__law_gives), ("_law_none", df__law_none), ("_law_amounts", df__law_amounts), ("_law_true", df__law_true), ("_law_any", df__law_any), ("_law_web", df__law_web), ("_law_made", df__law_made), ("law", df_law)]
theorem c_is_integer {n : Nat} {w0 w1 w2 : W} {h : Hw} {P : KW} {E : XW} (q : wpSs (callD T n) b_is_integer_0 [some w0, some w1, some w2] h { nx := fun _ h1 => P .non h1, rt := P, bk := fun _ _ => False, ct := fun _ _ => False, ex := fun _ => E }) : callD T (n + 1) "is_integer" [w0, w1, w2] h P E := ⟨rfl, q⟩
theorem c_is_reading {n : Nat} {w0 w1 w2 : W} {h : Hw} {P : KW} {E : XW} (q : wpSs (callD T n) b_is_reading_1 [some w0, some w1, some w2] h { nx := fun _ h1 => P .non h1, rt := P, bk := fun _ _ => False, ct := fun _ _ => False, ex := fun _ => E }) : callD T (n + 1) "is_reading" [w0, w1, w2] h P E := ⟨rfl, q⟩
theorem c_Web___init__ {n : Nat} {w0 w1 w2 w3 w4 : W} {h : Hw} {P : KW} {E : XW} (q : wpSs (callD T n) b_Web___init___1 [some w0, some w1, some w2, some w3, some w4, none, none] h { nx := fun _ h1 => P .non h1, rt := P, bk := fun _ _ => False, ct := fun _ _ => False, ex := fun _ => E }) : callD T (n + 1) "Web.__init__" [w0, w1, w2, w3, w4] h P E := ⟨rfl, q⟩
theorem c_divisor {n : Nat} {w0 w1 : W} {h : Hw} {P : KW} {E : XW} (q : wpSs (callD T n) b_divisor_0 [some w0, some w1] h { nx := fun _ h1 => P .non h1, rt := P, bk := fun _ _ => False, ct := fun _ _ => False, ex := fun _ => E }) : callD T (n + 1) "divisor" [w0, w1] h P E := ⟨rfl, q⟩
theorem c_fraction {n : Nat} {w0 w1 : W} {h : Hw} {P : KW} {E : XW} (q : wpSs (callD T n) b_fraction_0 [some w0, some w1, none] h { nx := fun _ h1 => P .non h1, rt := P, bk := fun _ _ => False, ct := fun _ _ => False, ex := fun _ => E }) : callD T (n + 1) "fraction" [w0, w1] h P E := ⟨rfl, q⟩
theorem c_has_scale {n : Nat} {w0 w1 : W} {h : Hw} {P : KW} {E : XW} (q : wpSs (callD T n) b_has_scale_0 [some w0, some w1] h { nx := fun _ h1 => P .non h1, rt := P, bk := fun _ _ => False, ct := fun _ _ => False, ex := fun _ => E }) : callD T (n + 1) "has_scale" [w0, w1] h P E := ⟨rfl, q⟩
theorem c_has_shift {n : Nat} {w0 w1 : W} {h : Hw} {P : KW} {E : XW} (q : wpSs (callD T n) b_has_shift_0 [some w0, some w1] h { nx := fun _ h1 => P .non h1, rt := P, bk := fun _ _ => False, ct := fun _ _ => False, ex := fun _ => E }) : callD T (n + 1) "has_shift" [w0, w1] h P E := ⟨rfl, q⟩
theorem c_blank {n : Nat} {w0 : W} {h : Hw} {P : KW} {E : XW} (q : wpSs (callD T n) b_blank_0 [some w0] h { nx := fun _ h1 => P .non h1, rt := P, bk := fun _ _ => False, ct := fun _ _ => False, ex := fun _ => E }) : callD T (n + 1) "blank" [w0] h P E := ⟨rfl, q⟩
theorem c_put_level {n : Nat} {w0 w1 w2 : W} {h : Hw} {P : KW} {E : XW} (q : wpSs (callD T n) b_put_level_900 [some w0, some w1, some w2] h { nx := fun _ h1 => P .non h1, rt := P, bk := fun _ _ => False, ct := fun _ _ => False, ex := fun _ => E }) : callD T (n + 1) "put_level" [w0, w1, w2] h P E := ⟨rfl, q⟩
theorem c_put_result {n : Nat} {w0 w1 w2 w3 w4 : W} {h : Hw} {P : KW} {E : XW} (q : wpSs (callD T n) b_put_result_2 [some w0, some w1, some w2, some w3, some w4] h { nx := fun _ h1 => P .non h1, rt := P, bk := fun _ _ => False, ct := fun _ _ => False, ex := fun _ => E }) : callD T (n + 1) "put_result" [w0, w1, w2, w3, w4] h P E := ⟨rfl, q⟩
theorem c_forms_of {n : Nat} {w0 w1 : W} {h : Hw} {P : KW} {E : XW} (q : wpSs (callD T n) b_forms_of_3 [some w0, some w1, none, none, none, none, none, none] h { nx := fun _ h1 => P .non h1, rt := P, bk := fun _ _ => False, ct := fun _ _ => False, ex := fun _ => E }) : callD T (n + 1) "forms_of" [w0, w1] h P E := ⟨rfl, q⟩
theorem c_forms {n : Nat} {w0 : W} {h : Hw} {P : KW} {E : XW} (q : wpSs (callD T n) b_forms_6 [some w0, none, none, none, none, none, none] h { nx := fun _ h1 => P .non h1, rt := P, bk := fun _ _ => False, ct := fun _ _ => False, ex := fun _ => E }) : callD T (n + 1) "forms" [w0] h P E := ⟨rfl, q⟩
theorem c_Table___init__ {n : Nat} {w0 w1 w2 : W} {h : Hw} {P : KW} {E : XW} (q : wpSs (callD T n) b_Table___init___0 [some w0, some w1, some w2, none, none] h { nx := fun _ h1 => P .non h1, rt := P, bk := fun _ _ => False, ct := fun _ _ => False, ex := fun _ => E }) : callD T (n + 1) "Table.__init__" [w0, w1, w2] h P E := ⟨rfl, q⟩
theorem c_Table_exchange {n : Nat} {w0 w1 w2 : W} {h : Hw} {P : KW} {E : XW} (q : wpSs (callD T n) b_Table_exchange_11 [some w0, some w1, some w2, none, none, none, none, none, none, none, none, none, none] h { nx := fun _ h1 => P .non h1, rt := P, bk := fun _ _ => False, ct := fun _ _ => False, ex := fun _ => E }) : callD T (n + 1) "Table.exchange" [w0, w1, w2] h P E := ⟨rfl, q⟩
theorem c_Table_bring_in {n : Nat} {w0 : W} {h : Hw} {P : KW} {E : XW} (q : wpSs (callD T n) b_Table_bring_in_4 [some w0, none, none] h { nx := fun _ h1 => P .non h1, rt := P, bk := fun _ _ => False, ct := fun _ _ => False, ex := fun _ => E }) : callD T (n + 1) "Table.bring_in" [w0] h P E := ⟨rfl, q⟩
theorem c_Table_lacking {n : Nat} {w0 : W} {h : Hw} {P : KW} {E : XW} (q : wpSs (callD T n) b_Table_lacking_0 [some w0, none, none, none] h { nx := fun _ h1 => P .non h1, rt := P, bk := fun _ _ => False, ct := fun _ _ => False, ex := fun _ => E }) : callD T (n + 1) "Table.lacking" [w0] h P E := ⟨rfl, q⟩
theorem c_Table_gaining {n : Nat} {w0 : W} {h : Hw} {P : KW} {E : XW} (q : wpSs (callD T n) b_Table_gaining_0 [some w0, none, none, none] h { nx := fun _ h1 => P .non h1, rt := P, bk := fun _ _ => False, ct := fun _ _ => False, ex := fun _ => E }) : callD T (n + 1) "Table.gaining" [w0] h P E := ⟨rfl, q⟩
theorem c_Table_raising {n : Nat} {w0 w1 : W} {h : Hw} {P : KW} {E : XW} (q : wpSs (callD T n) b_Table_raising_0 [some w0, some w1, none, none, none] h { nx := fun _ h1 => P .non h1, rt := P, bk := fun _ _ => False, ct := fun _ _ => False, ex := fun _ => E }) : callD T (n + 1) "Table.raising" [w0, w1] h P E := ⟨rfl, q⟩
theorem c_Table_ending {n : Nat} {w0 w1 : W} {h : Hw} {P : KW} {E : XW} (q : wpSs (callD T n) b_Table_ending_2 [some w0, some w1, none, none, none] h { nx := fun _ h1 => P .non h1, rt := P, bk := fun _ _ => False, ct := fun _ _ => False, ex := fun _ => E }) : callD T (n + 1) "Table.ending" [w0, w1] h P E := ⟨rfl, q⟩
theorem c_Table_loose {n : Nat} {w0 : W} {h : Hw} {P : KW} {E : XW} (q : wpSs (callD T n) b_Table_loose_1 [some w0, none] h { nx := fun _ h1 => P .non h1, rt := P, bk := fun _ _ => False, ct := fun _ _ => False, ex := fun _ => E }) : callD T (n + 1) "Table.loose" [w0] h P E := ⟨rfl, q⟩
theorem c_Table_point {n : Nat} {w0 : W} {h : Hw} {P : KW} {E : XW} (q : wpSs (callD T n) b_Table_point_2 [some w0, none, none, none] h { nx := fun _ h1 => P .non h1, rt := P, bk := fun _ _ => False, ct := fun _ _ => False, ex := fun _ => E }) : callD T (n + 1) "Table.point" [w0] h P E := ⟨rfl, q⟩
theorem c_Table_course {n : Nat} {w0 w1 w2 : W} {h : Hw} {P : KW} {E : XW} (q : wpSs (callD T n) b_Table_course_3 [some w0, some w1, some w2, none, none, none] h { nx := fun _ h1 => P .non h1, rt := P, bk := fun _ _ => False, ct := fun _ _ => False, ex := fun _ => E }) : callD T (n + 1) "Table.course" [w0, w1, w2] h P E := ⟨rfl, q⟩
theorem c_Table_weights_by {n : Nat} {w0 w1 w2 w3 : W} {h : Hw} {P : KW} {E : XW} (q : wpSs (callD T n) b_Table_weights_by_3 [some w0, some w1, some w2, some w3, none, none] h { nx := fun _ h1 => P .non h1, rt := P, bk := fun _ _ => False, ct := fun _ _ => False, ex := fun _ => E }) : callD T (n + 1) "Table.weights_by" [w0, w1, w2, w3] h P E := ⟨rfl, q⟩
theorem c_solve {n : Nat} {w0 w1 : W} {h : Hw} {P : KW} {E : XW} (q : wpSs (callD T n) b_solve_7 [some w0, some w1, none, none, none, none, none] h { nx := fun _ h1 => P .non h1, rt := P, bk := fun _ _ => False, ct := fun _ _ => False, ex := fun _ => E }) : callD T (n + 1) "solve" [w0, w1] h P E := ⟨rfl, q⟩
theorem c_climb {n : Nat} {w0 w1 : W} {h : Hw} {P : KW} {E : XW} (q : wpSs (callD T n) b_climb_900 [some w0, some w1, none, none, none, none] h { nx := fun _ h1 => P .non h1, rt := P, bk := fun _ _ => False, ct := fun _ _ => False, ex := fun _ => E }) : callD T (n + 1) "climb" [w0, w1] h P E := ⟨rfl, q⟩
theorem c_amounts_of {n : Nat} {w0 w1 : W} {h : Hw} {P : KW} {E : XW} (q : wpSs (callD T n) b_amounts_of_0 [some w0, some w1, none, none, none, none, none] h { nx := fun _ h1 => P .non h1, rt := P, bk := fun _ _ => False, ct := fun _ _ => False, ex := fun _ => E }) : callD T (n + 1) "amounts_of" [w0, w1] h P E := ⟨rfl, q⟩
theorem c_find_amounts {n : Nat} {w0 : W} {h : Hw} {P : KW} {E : XW} (q : wpSs (callD T n) b_find_amounts_0 [some w0, none] h { nx := fun _ h1 => P .non h1, rt := P, bk := fun _ _ => False, ct := fun _ _ => False, ex := fun _ => E }) : callD T (n + 1) "find_amounts" [w0] h P E := ⟨rfl, q⟩
theorem c_against {n : Nat} {w0 : W} {h : Hw} {P : KW} {E : XW} (q : wpSs (callD T n) b_against_0 [some w0, none] h { nx := fun _ h1 => P .non h1, rt := P, bk := fun _ _ => False, ct := fun _ _ => False, ex := fun _ => E }) : callD T (n + 1) "against" [w0] h P E := ⟨rfl, q⟩
theorem c__law_mix {n : Nat} {w0 w1 : W} {h : Hw} {P : KW} {E : XW} (q : wpSs (callD T n) b__law_mix_1 [some w0, some w1, none, none] h { nx := fun _ h1 => P .non h1, rt := P, bk := fun _ _ => False, ct := fun _ _ => False, ex := fun _ => E }) : callD T (n + 1) "_law_mix" [w0, w1] h P E := ⟨rfl, q⟩
theorem c__law_next {n : Nat} {w0 w1 : W} {h : Hw} {P : KW} {E : XW} (q : wpSs (callD T n) b__law_next_2 [some w0, some w1, none] h { nx := fun _ h1 => P .non h1, rt := P, bk := fun _ _ => False, ct := fun _ _ => False, ex := fun _ => E }) : callD T (n + 1) "_law_next" [w0, w1] h P E := ⟨rfl, q⟩
theorem c__law_pick {n : Nat} {w0 w1 : W} {h : Hw} {P : KW} {E : XW} (q : wpSs (callD T n) b__law_pick_0 [some w0, some w1] h { nx := fun _ h1 => P .non h1, rt := P, bk := fun _ _ => False, ct := fun _ _ => False, ex := fun _ => E }) : callD T (n + 1) "_law_pick" [w0, w1] h P E := ⟨rfl, q⟩
theorem c__law_frac {n : Nat} {w0 w1 : W} {h : Hw} {P : KW} {E : XW} (q : wpSs (callD T n) b__law_frac_1 [some w0, some w1, none, none] h { nx := fun _ h1 => P .non h1, rt := P, bk := fun _ _ => False, ct := fun _ _ => False, ex := fun _ => E }) : callD T (n + 1) "_law_frac" [w0, w1] h P E := ⟨rfl, q⟩
theorem c__law_is_frac {n : Nat} {w0 : W} {h : Hw} {P : KW} {E : XW} (q : wpSs (callD T n) b__law_is_frac_1 [some w0, none] h { nx := fun _ h1 => P .non h1, rt := P, bk := fun _ _ => False, ct := fun _ _ => False, ex := fun _ => E }) : callD T (n + 1) "_law_is_frac" [w0] h P E := ⟨rfl, q⟩
theorem c__law_stands {n : Nat} {w0 w1 w2 : W} {h : Hw} {P : KW} {E : XW} (q : wpSs (callD T n) b__law_stands_0 [some w0, some w1, some w2] h { nx := fun _ h1 => P .non h1, rt := P, bk := fun _ _ => False, ct := fun _ _ => False, ex := fun _ => E }) : callD T (n + 1) "_law_stands" [w0, w1, w2] h P E := ⟨rfl, q⟩
theorem c__law_most {n : Nat} {w0 w1 : W} {h : Hw} {P : KW} {E : XW} (q : wpSs (callD T n) b__law_most_0 [some w0, some w1] h { nx := fun _ h1 => P .non h1, rt := P, bk := fun _ _ => False, ct := fun _ _ => False, ex := fun _ => E }) : callD T (n + 1) "_law_most" [w0, w1] h P E := ⟨rfl, q⟩
theorem c__law_are {n : Nat} {w0 w1 : W} {h : Hw} {P : KW} {E : XW} (q : wpSs (callD T n) b__law_are_5 [some w0, some w1, none, none, none, none, none, none] h { nx := fun _ h1 => P .non h1, rt := P, bk := fun _ _ => False, ct := fun _ _ => False, ex := fun _ => E }) : callD T (n + 1) "_law_are" [w0, w1] h P E := ⟨rfl, q⟩
theorem c__law_fit {n : Nat} {w0 w1 : W} {h : Hw} {P : KW} {E : XW} (q : wpSs (callD T n) b__law_fit_5 [some w0, some w1, none, none, none, none, none, none, none] h { nx := fun _ h1 => P .non h1, rt := P, bk := fun _ _ => False, ct := fun _ _ => False, ex := fun _ => E }) : callD T (n + 1) "_law_fit" [w0, w1] h P E := ⟨rfl, q⟩
theorem c__law_line {n : Nat} {w0 w1 w2 : W} {h : Hw} {P : KW} {E : XW} (q : wpSs (callD T n) b__law_line_6 [some w0, some w1, some w2, none, none, none, none, none, none] h { nx := fun _ h1 => P .non h1, rt := P, bk := fun _ _ => False, ct := fun _ _ => False, ex := fun _ => E }) : callD T (n + 1) "_law_line" [w0, w1, w2] h P E := ⟨rfl, q⟩
theorem c__law_forms {n : Nat} {w0 : W} {h : Hw} {P : KW} {E : XW} (q : wpSs (callD T n) b__law_forms_14 [some w0, none, none, none, none, none, none, none] h { nx := fun _ h1 => P .non h1, rt := P, bk := fun _ _ => False, ct := fun _ _ => False, ex := fun _ => E }) : callD T (n + 1) "_law_forms" [w0] h P E := ⟨rfl, q⟩
theorem c__law_gives {n : Nat} {w0 w1 w2 : W} {h : Hw} {P : KW} {E : XW} (q : wpSs (callD T n) b__law_gives_5 [some w0, some w1, some w2, none, none, none, none, none, none, none] h { nx := fun _ h1 => P .non h1, rt := P, bk := fun _ _ => False, ct := fun _ _ => False, ex := fun _ => E }) : callD T (n + 1) "_law_gives" [w0, w1, w2] h P E := ⟨rfl, q⟩
theorem c__law_none {n : Nat} {w0 w1 : W} {h : Hw} {P : KW} {E : XW} (q : wpSs (callD T n) b__law_none_0 [some w0, some w1] h { nx := fun _ h1 => P .non h1, rt := P, bk := fun _ _ => False, ct := fun _ _ => False, ex := fun _ => E }) : callD T (n + 1) "_law_none" [w0, w1] h P E := ⟨rfl, q⟩
theorem c__law_amounts {n : Nat} {w0 w1 w2 w3 : W} {h : Hw} {P : KW} {E : XW} (q : wpSs (callD T n) b__law_amounts_8 [some w0, some w1, some w2, some w3, none, none, none, none, none, none, none, none, none, none] h { nx := fun _ h1 => P .non h1, rt := P, bk := fun _ _ => False, ct := fun _ _ => False, ex := fun _ => E }) : callD T (n + 1) "_law_amounts" [w0, w1, w2, w3] h P E := ⟨rfl, q⟩
theorem c__law_true {n : Nat} {w0 w1 w2 w3 : W} {h : Hw} {P : KW} {E : XW} (q : wpSs (callD T n) b__law_true_3 [some w0, some w1, some w2, some w3, none, none, none, none, none, none, none, none, none] h { nx := fun _ h1 => P .non h1, rt := P, bk := fun _ _ => False, ct := fun _ _ => False, ex := fun _ => E }) : callD T (n + 1) "_law_true" [w0, w1, w2, w3] h P E := ⟨rfl, q⟩
theorem c__law_any {n : Nat} {w0 w1 w2 : W} {h : Hw} {P : KW} {E : XW} (q : wpSs (callD T n) b__law_any_2 [some w0, some w1, some w2, none, none, none, none] h { nx := fun _ h1 => P .non h1, rt := P, bk := fun _ _ => False, ct := fun _ _ => False, ex := fun _ => E }) : callD T (n + 1) "_law_any" [w0, w1, w2] h P E := ⟨rfl, q⟩
theorem c__law_web {n : Nat} {w0 w1 w2 w3 w4 : W} {h : Hw} {P : KW} {E : XW} (q : wpSs (callD T n) b__law_web_1 [some w0, some w1, some w2, some w3, some w4, none, none, none, none] h { nx := fun _ h1 => P .non h1, rt := P, bk := fun _ _ => False, ct := fun _ _ => False, ex := fun _ => E }) : callD T (n + 1) "_law_web" [w0, w1, w2, w3, w4] h P E := ⟨rfl, q⟩
theorem c__law_made {n : Nat} {w0 : W} {h : Hw} {P : KW} {E : XW} (q : wpSs (callD T n) b__law_made_0 [some w0] h { nx := fun _ h1 => P .non h1, rt := P, bk := fun _ _ => False, ct := fun _ _ => False, ex := fun _ => E }) : callD T (n + 1) "_law_made" [w0] h P E := ⟨rfl, q⟩
theorem c_law {n : Nat} {w0 : W} {h : Hw} {P : KW} {E : XW} (q : wpSs (callD T n) b_law_8 [some w0, none, none, none, none, none, none, none, none, none, none] h { nx := fun _ h1 => P .non h1, rt := P, bk := fun _ _ => False, ct := fun _ _ => False, ex := fun _ => E }) : callD T (n + 1) "law" [w0] h P E := ⟨rfl, q⟩
end K04
end
section
set_option Elab.async false
set_option linter.all false
set_option maxRecDepth 100000
set_option maxHeartbeats 0

namespace K04
open PySem PySem.W L2 Ri Ri.Z
def d0 : RD := ⟨"is_integer", none, "is_integer", false, L2.defArgs (top 14), L2.defBody (top 14), L2.defScope (top 14), "is_integer", ["thing", "low", "high"], ["thing", "low", "high"]⟩
def d1 : RD := ⟨"is_reading", none, "is_reading", false, L2.defArgs (top 15), L2.defBody (top 15), L2.defScope (top 15), "is_reading", ["lots", "samples", "thing"], ["lots", "samples", "thing"]⟩
def d2 : RD := ⟨"Web.__init__", some .web, "__init__", false, L2.defArgs (sub (top 16) 0), L2.defBody (sub (top 16) 0), L2.defScope (sub (top 16) 0), "Web.__init__", ["self", "mode", "lots", "samples", "readings"], ["self", "mode", "lots", "samples", "readings", "index", "reading"]⟩
def d3 : RD := ⟨"divisor", none, "divisor", false, L2.defArgs (top 17), L2.defBody (top 17), L2.defScope (top 17), "divisor", ["one", "two"], ["one", "two"]⟩
def d4 : RD := ⟨"fraction", none, "fraction", false, L2.defArgs (top 18), L2.defBody (top 18), L2.defScope (top 18), "fraction", ["number", "parts"], ["number", "parts", "common"]⟩
def d5 : RD := ⟨"has_scale", none, "has_scale", false, L2.defArgs (top 19), L2.defBody (top 19), L2.defScope (top 19), "has_scale", ["web", "lot"], ["web", "lot"]⟩
def d6 : RD := ⟨"has_shift", none, "has_shift", false, L2.defArgs (top 20), L2.defBody (top 20), L2.defScope (top 20), "has_shift", ["web", "lot"], ["web", "lot"]⟩
def d7 : RD := ⟨"blank", none, "blank", false, L2.defArgs (top 21), L2.defBody (top 21), L2.defScope (top 21), "blank", ["web"], ["web"]⟩
def d8 : RD := ⟨"put_level", none, "put_level", false, L2.defArgs (top 22), L2.defBody (top 22), L2.defScope (top 22), "put_level", ["row", "sample", "times"], ["row", "sample", "times"]⟩
def d9 : RD := ⟨"put_result", none, "put_result", false, L2.defArgs (top 23), L2.defBody (top 23), L2.defScope (top 23), "put_result", ["web", "row", "lot", "result", "times"], ["web", "row", "lot", "result", "times"]⟩
def d10 : RD := ⟨"forms_of", none, "forms_of", false, L2.defArgs (top 24), L2.defBody (top 24), L2.defScope (top 24), "forms_of", ["web", "reading"], ["web", "reading", "word", "sample", "lot", "value", "low", "high"]⟩
def d11 : RD := ⟨"forms", none, "forms", false, L2.defArgs (top 25), L2.defBody (top 25), L2.defScope (top 25), "forms", ["web"], ["web", "found", "lot", "reading", "form", "low", "high"]⟩
def d12 : RD := ⟨"Table.__init__", some .table, "__init__", false, L2.defArgs (sub (top 27) 0), L2.defBody (sub (top 27) 0), L2.defScope (sub (top 27) 0), "Table.__init__", ["self", "forms", "wish"], ["self", "forms", "wish", "form", "at"]⟩
def d13 : RD := ⟨"Table.exchange", some .table, "exchange", false, L2.defArgs (sub (top 27) 1), L2.defBody (sub (top 27) 1), L2.defScope (sub (top 27) 1), "Table.exchange", ["self", "at", "place"], ["self", "at", "place", "row", "turn", "fresh", "spot", "other", "new", "factor", "one", "number", "two"]⟩
def d14 : RD := ⟨"Table.bring_in", some .table, "bring_in", false, L2.defArgs (sub (top 27) 2), L2.defBody (sub (top 27) 2), L2.defScope (sub (top 27) 2), "Table.bring_in", ["self"], ["self", "place", "at"]⟩
def d15 : RD := ⟨"Table.lacking", some .table, "lacking", false, L2.defArgs (sub (top 27) 3), L2.defBody (sub (top 27) 3), L2.defScope (sub (top 27) 3), "Table.lacking", ["self"], ["self", "found", "at", "row"]⟩
def d16 : RD := ⟨"Table.gaining", some .table, "gaining", false, L2.defArgs (sub (top 27) 4), L2.defBody (sub (top 27) 4), L2.defScope (sub (top 27) 4), "Table.gaining", ["self"], ["self", "last", "found", "k"]⟩
def d17 : RD := ⟨"Table.raising", some .table, "raising", false, L2.defArgs (sub (top 27) 5), L2.defBody (sub (top 27) 5), L2.defScope (sub (top 27) 5), "Table.raising", ["self", "at"], ["self", "at", "row", "found", "k"]⟩
def d18 : RD := ⟨"Table.ending", some .table, "ending", false, L2.defArgs (sub (top 27) 6), L2.defBody (sub (top 27) 6), L2.defScope (sub (top 27) 6), "Table.ending", ["self", "place"], ["self", "place", "found", "at", "row"]⟩
def d19 : RD := ⟨"Table.loose", some .table, "loose", false, L2.defArgs (sub (top 27) 7), L2.defBody (sub (top 27) 7), L2.defScope (sub (top 27) 7), "Table.loose", ["self"], ["self", "place"]⟩
def d20 : RD := ⟨"Table.point", some .table, "point", false, L2.defArgs (sub (top 27) 8), L2.defBody (sub (top 27) 8), L2.defScope (sub (top 27) 8), "Table.point", ["self"], ["self", "found", "at", "row"]⟩
def d21 : RD := ⟨"Table.course", some .table, "course", false, L2.defArgs (sub (top 27) 9), L2.defBody (sub (top 27) 9), L2.defScope (sub (top 27) 9), "Table.course", ["self", "place", "sign"], ["self", "place", "sign", "found", "at", "row"]⟩
def d22 : RD := ⟨"Table.weights_by", some .table, "weights_by", false, L2.defArgs (sub (top 27) 10), L2.defBody (sub (top 27) 10), L2.defScope (sub (top 27) 10), "Table.weights_by", ["self", "row", "parts", "own"], ["self", "row", "parts", "own", "found", "place"]⟩
def d23 : RD := ⟨"solve", none, "solve", false, L2.defArgs (top 28), L2.defBody (top 28), L2.defScope (top 28), "solve", ["forms", "wish"], ["forms", "wish", "table", "at", "begun", "place", "row"]⟩
def d24 : RD := ⟨"climb", none, "climb", false, L2.defArgs (top 29), L2.defBody (top 29), L2.defScope (top 29), "climb", ["table", "begun"], ["table", "begun", "at", "place", "last", "spot"]⟩
def d25 : RD := ⟨"amounts_of", none, "amounts_of", false, L2.defArgs (top 31), L2.defBody (top 31), L2.defScope (top 31), "amounts_of", ["web", "point"], ["web", "point", "scales", "shifts", "levels", "lots", "lot"]⟩
def d26 : RD := ⟨"find_amounts", none, "find_amounts", false, L2.defArgs (top 32), L2.defBody (top 32), L2.defScope (top 32), "find_amounts", ["web"], ["web", "answer"]⟩
def d27 : RD := ⟨"against", none, "against", false, L2.defArgs (top 33), L2.defBody (top 33), L2.defScope (top 33), "against", ["web"], ["web", "answer"]⟩
def d28 : RD := ⟨"_law_mix", none, "_law_mix", false, L2.defArgs (top 35), L2.defBody (top 35), L2.defScope (top 35), "_law_mix", ["_law_script", "_law_seed"], ["_law_script", "_law_seed", "_law_state", "_law_cell"]⟩
def d29 : RD := ⟨"_law_next", none, "_law_next", false, L2.defArgs (top 36), L2.defBody (top 36), L2.defScope (top 36), "_law_next", ["_law_h", "_law_cap"], ["_law_h", "_law_cap", "_law_cell"]⟩
def d30 : RD := ⟨"_law_pick", none, "_law_pick", false, L2.defArgs (top 37), L2.defBody (top 37), L2.defScope (top 37), "_law_pick", ["_law_h", "_law_things"], ["_law_h", "_law_things"]⟩
def d31 : RD := ⟨"_law_frac", none, "_law_frac", false, L2.defArgs (top 38), L2.defBody (top 38), L2.defScope (top 38), "_law_frac", ["_law_number", "_law_parts"], ["_law_number", "_law_parts", "_law_one", "_law_two"]⟩
def d32 : RD := ⟨"_law_is_frac", none, "_law_is_frac", false, L2.defArgs (top 39), L2.defBody (top 39), L2.defScope (top 39), "_law_is_frac", ["_law_thing"], ["_law_thing", "_law_part"]⟩
def d33 : RD := ⟨"_law_stands", none, "_law_stands", false, L2.defArgs (top 40), L2.defBody (top 40), L2.defScope (top 40), "_law_stands", ["_law_scale", "_law_shift", "_law_result"], ["_law_scale", "_law_shift", "_law_result"]⟩
def d34 : RD := ⟨"_law_most", none, "_law_most", false, L2.defArgs (top 41), L2.defBody (top 41), L2.defScope (top 41), "_law_most", ["_law_one", "_law_two"], ["_law_one", "_law_two"]⟩
def d35 : RD := ⟨"_law_are", none, "_law_are", false, L2.defArgs (top 42), L2.defBody (top 42), L2.defScope (top 42), "_law_are", ["_law_web_here", "_law_thing"], ["_law_web_here", "_law_thing", "_law_lot", "_law_part", "_law_many", "_law_scale", "_law_shift", "_law_one"]⟩
def d36 : RD := ⟨"_law_fit", none, "_law_fit", false, L2.defArgs (top 43), L2.defBody (top 43), L2.defScope (top 43), "_law_fit", ["_law_web_here", "_law_thing"], ["_law_web_here", "_law_thing", "_law_kind", "_law_sample", "_law_lot", "_law_value", "_law_level", "_law_low", "_law_high"]⟩
def d37 : RD := ⟨"_law_line", none, "_law_line", false, L2.defArgs (top 44), L2.defBody (top 44), L2.defScope (top 44), "_law_line", ["_law_web_here", "_law_levels", "_law_results"], ["_law_web_here", "_law_levels", "_law_results", "_law_row", "_law_sample", "_law_times", "_law_lot", "_law_result", "_law_place"]⟩
def d38 : RD := ⟨"_law_forms", none, "_law_forms", false, L2.defArgs (top 45), L2.defBody (top 45), L2.defScope (top 45), "_law_forms", ["_law_web_here"], ["_law_web_here", "_law_rows", "_law_lot", "_law_kind", "_law_sample", "_law_value", "_law_low", "_law_high"]⟩
def d39 : RD := ⟨"_law_gives", none, "_law_gives", false, L2.defArgs (top 46), L2.defBody (top 46), L2.defScope (top 46), "_law_gives", ["_law_web_here", "_law_shares", "_law_due"], ["_law_web_here", "_law_shares", "_law_due", "_law_rows", "_law_place", "_law_number", "_law_parts", "_law_row", "_law_weight", "_law_one"]⟩
def d40 : RD := ⟨"_law_none", none, "_law_none", false, L2.defArgs (top 47), L2.defBody (top 47), L2.defScope (top 47), "_law_none", ["_law_web_here", "_law_shares"], ["_law_web_here", "_law_shares"]⟩
def d41 : RD := ⟨"_law_amounts", none, "_law_amounts", false, L2.defArgs (top 48), L2.defBody (top 48), L2.defScope (top 48), "_law_amounts", ["_law_h", "_law_mode", "_law_lots", "_law_samples"], ["_law_h", "_law_mode", "_law_lots", "_law_samples", "_law_sample", "_law_lot", "_law_cap", "_law_levels", "_law_scales", "_law_shifts", "_law_parts", "_law_shift", "_law_one", "_law_two"]⟩
def d42 : RD := ⟨"_law_true", none, "_law_true", false, L2.defArgs (top 49), L2.defBody (top 49), L2.defScope (top 49), "_law_true", ["_law_h", "_law_lots", "_law_samples", "_law_amounts_here"], ["_law_h", "_law_lots", "_law_samples", "_law_amounts_here", "_law_level", "_law_over", "_law_value", "_law_sample", "_law_lot", "_law_kind", "_law_scale", "_law_shift", "_law_whole"]⟩
def d43 : RD := ⟨"_law_any", none, "_law_any", false, L2.defArgs (top 50), L2.defBody (top 50), L2.defScope (top 50), "_law_any", ["_law_h", "_law_lots", "_law_samples"], ["_law_h", "_law_lots", "_law_samples", "_law_value", "_law_sample", "_law_lot", "_law_kind"]⟩
def d44 : RD := ⟨"_law_web", none, "_law_web", false, L2.defArgs (top 51), L2.defBody (top 51), L2.defScope (top 51), "_law_web", ["_law_h", "_law_lots", "_law_samples", "_law_many", "_law_wild"], ["_law_h", "_law_lots", "_law_samples", "_law_many", "_law_wild", "_law_mode", "_law_amounts_here", "_law_rows", "_law_k"]⟩
def d45 : RD := ⟨"_law_made", none, "_law_made", false, L2.defArgs (top 52), L2.defBody (top 52), L2.defScope (top 52), "_law_made", ["_law_web_here"], ["_law_web_here"]⟩
def d46 : RD := ⟨"law", none, "law", false, L2.defArgs (top 53), L2.defBody (top 53), L2.defScope (top 53), "law", ["_law_script"], ["_law_script", "_law_h", "_law_turn", "_law_book", "_law_lots", "_law_samples", "_law_many", "_law_web_here", "_law_amounts_here", "_law_found", "_law_shown"]⟩
def ds : List RD := [d0, d1, d2, d3, d4, d5, d6, d7, d8, d9, d10, d11, d12, d13, d14, d15, d16, d17, d18, d19, d20, d21, d22, d23, d24, d25, d26, d27, d28, d29, d30, d31, d32, d33, d34, d35, d36, d37, d38, d39, d40, d41, d42, d43, d44, d45, d46]
def S : Sx := { sc := default, N := [], fs := ["_law_amounts", "_law_any", "_law_are", "_law_fit", "_law_forms", "_law_frac", "_law_gives", "_law_is_frac", "_law_line", "_law_made", "_law_mix", "_law_most", "_law_next", "_law_none", "_law_pick", "_law_stands", "_law_true", "_law_web", "against", "amounts_of", "blank", "climb", "divisor", "find_amounts", "forms", "forms_of", "fraction", "has_scale", "has_shift", "is_integer", "is_reading", "law", "put_level", "put_result", "solve"], ms := [(.table, "bring_in", "Table.bring_in"), (.table, "course", "Table.course"), (.table, "ending", "Table.ending"), (.table, "exchange", "Table.exchange"), (.table, "gaining", "Table.gaining"), (.table, "lacking", "Table.lacking"), (.table, "loose", "Table.loose"), (.table, "point", "Table.point"), (.table, "raising", "Table.raising"), (.table, "weights_by", "Table.weights_by")], cl := [.table, .web], nc := [.table, .web], free := ["abs", "bool", "enumerate", "int", "isinstance", "len", "list", "max", "min", "range", "str", "tuple", "zip"], cs := [("MODES", (.tup [(.str "shift"), (.str "scale"), (.str "both")])), ("MOST_LEVEL", (.int 9999)), ("MOST_LOTS", (.int 4)), ("MOST_READINGS", (.int 12)), ("MOST_SAMPLES", (.int 6)), ("MOST_VALUE", (.int 999)), ("SPAN", (.int 4))], kd := [.bool, .int, .str, .tuple], ms1 := [], fc := none }
theorem t0 : rdB 200 S T d0 = true := by decide +kernel
theorem t1 : rdB 200 S T d1 = true := by decide +kernel
theorem t2 : rdB 200 S T d2 = true := by decide +kernel
theorem t3 : rdB 200 S T d3 = true := by decide +kernel
theorem t4 : rdB 200 S T d4 = true := by decide +kernel
theorem t5 : rdB 200 S T d5 = true := by decide +kernel
theorem t6 : rdB 200 S T d6 = true := by decide +kernel
theorem t7 : rdB 200 S T d7 = true := by decide +kernel
theorem t8 : rdB 200 S T d8 = true := by decide +kernel
theorem t9 : rdB 200 S T d9 = true := by decide +kernel
theorem t10 : rdB 200 S T d10 = true := by decide +kernel
theorem t11 : rdB 200 S T d11 = true := by decide +kernel
theorem t12 : rdB 200 S T d12 = true := by decide +kernel
theorem t13 : rdB 200 S T d13 = true := by decide +kernel
theorem t14 : rdB 200 S T d14 = true := by decide +kernel
theorem t15 : rdB 200 S T d15 = true := by decide +kernel
theorem t16 : rdB 200 S T d16 = true := by decide +kernel
theorem t17 : rdB 200 S T d17 = true := by decide +kernel
theorem t18 : rdB 200 S T d18 = true := by decide +kernel
theorem t19 : rdB 200 S T d19 = true := by decide +kernel
theorem t20 : rdB 200 S T d20 = true := by decide +kernel
theorem t21 : rdB 200 S T d21 = true := by decide +kernel
theorem t22 : rdB 200 S T d22 = true := by decide +kernel
theorem t23 : rdB 200 S T d23 = true := by decide +kernel
theorem t24 : rdB 200 S T d24 = true := by decide +kernel
theorem t25 : rdB 200 S T d25 = true := by decide +kernel
theorem t26 : rdB 200 S T d26 = true := by decide +kernel
theorem t27 : rdB 200 S T d27 = true := by decide +kernel
theorem t28 : rdB 200 S T d28 = true := by decide +kernel
theorem t29 : rdB 200 S T d29 = true := by decide +kernel
theorem t30 : rdB 200 S T d30 = true := by decide +kernel
theorem t31 : rdB 200 S T d31 = true := by decide +kernel
theorem t32 : rdB 200 S T d32 = true := by decide +kernel
theorem t33 : rdB 200 S T d33 = true := by decide +kernel
theorem t34 : rdB 200 S T d34 = true := by decide +kernel
theorem t35 : rdB 200 S T d35 = true := by decide +kernel
theorem t36 : rdB 200 S T d36 = true := by decide +kernel
theorem t37 : rdB 200 S T d37 = true := by decide +kernel
theorem t38 : rdB 200 S T d38 = true := by decide +kernel
theorem t39 : rdB 200 S T d39 = true := by decide +kernel
theorem t40 : rdB 200 S T d40 = true := by decide +kernel
theorem t41 : rdB 200 S T d41 = true := by decide +kernel
theorem t42 : rdB 200 S T d42 = true := by decide +kernel
theorem t43 : rdB 200 S T d43 = true := by decide +kernel
theorem t44 : rdB 200 S T d44 = true := by decide +kernel
theorem t45 : rdB 200 S T d45 = true := by decide +kernel
theorem t46 : rdB 200 S T d46 = true := by decide +kernel
end K04
end
section
set_option Elab.async false
set_option linter.all false
set_option maxRecDepth 100000
set_option maxHeartbeats 0

namespace K04
open PySem PySem.W L2 Ri
abbrev R : PySem.W.OpenRow := PySem.W.OpenLaw.row PySem.Challenge.rw_lotbridge_k04_whole_amounts_or_weights
abbrev hk : PySem.W.Hook := hookR 7 S ds
def ob (s : PySem.W.SharedT) : AlR := obsRG 7 S ds (HandSHeadRun.getT s)
theorem ob_eq (s : PySem.W.SharedT) : ob s = hk.obs s.abs := obsRG_eq (HandSHeadRun.getT_eq s)
def lo0 : List PySem.Str := ["__name__", "LotError", "InvalidMode", "InvalidLots", "InvalidSamples", "InvalidReading", "MODES", "MOST_LOTS", "MOST_SAMPLES", "MOST_READINGS", "MOST_VALUE", "MOST_LEVEL", "SPAN", "is_integer", "is_reading", "Web", "divisor", "fraction", "has_scale", "has_shift", "blank", "put_level", "put_result", "forms_of", "forms"]
def lo1 : List PySem.Str := ["Table", "solve", "climb", "amounts_of", "find_amounts", "against", "_law_mix", "_law_next", "_law_pick", "_law_frac", "_law_is_frac", "_law_stands", "_law_most", "_law_are", "_law_fit", "_law_line", "_law_forms", "_law_gives", "_law_none", "_law_amounts", "_law_true", "_law_any", "_law_web", "_law_made"]
abbrev loose : List PySem.Str := lo0 ++ lo1
theorem run (w : World) : HandSHeadRun.RunEq R (PySem.W.view R.prog [53]) hk ob 4000 loose w := by
  intro os
  kernel_rfl
end K04
end
section
set_option Elab.async false
set_option linter.all false
set_option maxRecDepth 100000
set_option maxHeartbeats 1000000
/-! the data of the program, plain; reading and writing of lists in the slim heap -/
namespace Lb
open PySem Ri.Z
open Ri (Cl W O Hw hset hdel En KW XW Calls Bop Cop Kd Blt Met ItK Tg Ex Sm Df slot put clr clrs bindT bindTs vw toD toDs lim MulOk rep binW eqD eqW flatW eqF inW cmpW isNon atW cutL slW revW kdW isiOk intsOf prsOf blsOf strsOf leP rngW bltW metTy metW fmtV enmW zipW seqW itrW itrV itsOf fldW isCls frzW delW isEnd initOf nmOf lcL lcL2 wpE wpEs wpJ Dn puts setW atLI augW storeF lstAt isLoL insAt handle forL whlP wpS wpSs wpHs start wpF callD)
inductive Mo where
  | shift | scale | both
  deriving DecidableEq
def Mo.s : Mo → Str
  | .shift => "shift"
  | .scale => "scale"
  | .both => "both"
inductive Kn where
  | at_ | above | told
  deriving DecidableEq
def Kn.s : Kn → Str
  | .at_ => "at"
  | .above => "above"
  | .told => "told"
theorem Mo.e1 {m : Mo} : (m.s = ("shift" : Str)) = (m = .shift) := by cases m <;> simp only [Mo.s, reduceCtorEq] <;> decide +kernel
theorem Mo.e2 {m : Mo} : (m.s = ("scale" : Str)) = (m = .scale) := by cases m <;> simp only [Mo.s, reduceCtorEq] <;> decide +kernel
theorem Mo.e3 {m : Mo} : (m.s = ("both" : Str)) = (m = .both) := by cases m <;> simp only [Mo.s, reduceCtorEq] <;> decide +kernel
theorem Kn.e1 {m : Kn} : (m.s = ("at" : Str)) = (m = .at_) := by cases m <;> simp only [Kn.s, reduceCtorEq] <;> decide +kernel
theorem Kn.e2 {m : Kn} : (m.s = ("above" : Str)) = (m = .above) := by cases m <;> simp only [Kn.s, reduceCtorEq] <;> decide +kernel
theorem Kn.e3 {m : Kn} : (m.s = ("told" : Str)) = (m = .told) := by cases m <;> simp only [Kn.s, reduceCtorEq] <;> decide +kernel
/-- a reading: at and above: sample, lot, value; told: sample, low, high -/
structure Rd where
  k : Kn
  s : Nat
  a : Nat
  b : Nat
def Rd.w (r : Rd) : W := .tup [.str r.k.s, .int r.s, .int r.a, .int r.b]
structure Wb where
  m : Mo
  l : Nat
  n : Nat
  rs : List Rd
def Wb.rw (w : Wb) : W := .tup (w.rs.map Rd.w)
/-- the object -/
def Wb.o (w : Wb) : W := .obj .web [.str w.m.s, .int w.l, .int w.n, w.rw]
/-- the four parts, as a tuple -/
def Wb.t (w : Wb) : W := .tup [.str w.m.s, .int w.l, .int w.n, w.rw]
def Rd.ok (l n : Nat) (r : Rd) : Prop := r.s < n ∧ match r.k with
  | .told => r.a ≤ r.b ∧ r.b ≤ 9999
  | _ => r.a < l ∧ r.b ≤ 999
def Wb.ok (w : Wb) : Prop := (1 ≤ w.l ∧ w.l ≤ 4) ∧ (1 ≤ w.n ∧ w.n ≤ 6) ∧ w.rs.length ≤ 12 ∧ ∀ r ∈ w.rs, r.ok w.l w.n
/-! ### places of lists -/
theorem ixN_nat {n i : Nat} (h : i < n) : L2.ixN n (i : Int) = some i := by
  unfold L2.ixN
  rw [if_pos (by omega), if_pos (by omega)]
  simp
theorem atI_nat {α : Type} {xs : List α} {i : Nat} : L2.atI xs (i : Int) = xs[i]? := by
  unfold L2.atI
  by_cases h : i < xs.length
  · rw [ixN_nat h]; rfl
  · unfold L2.ixN
    rw [if_pos (by omega), if_neg (by omega)]
    simp; omega
theorem atI_int {α : Type} {xs : List α} {i : Int} (h : 0 ≤ i) : L2.atI xs i = xs[i.toNat]? := by
  obtain ⟨n, rfl⟩ := Int.eq_ofNat_of_zero_le h
  exact atI_nat
theorem at_t0 {a : W} {l : List W} {K : W → Prop} : atW (.tup (a :: l)) (.int 0) K = K a := by simp [atW, L2.atI, L2.ixN]
theorem at_t1 {a b : W} {l : List W} {K : W → Prop} : atW (.tup (a :: b :: l)) (.int 1) K = K b := by
  have : L2.atI (a :: b :: l) 1 = some b := by rw [atI_int (by decide)]; rfl
  simp only [atW, this]
theorem at_t2 {a b c : W} {l : List W} {K : W → Prop} : atW (.tup (a :: b :: c :: l)) (.int 2) K = K c := by
  have : L2.atI (a :: b :: c :: l) 2 = some c := by rw [atI_int (by decide)]; rfl
  simp only [atW, this]
theorem at_t3 {a b c d : W} {l : List W} {K : W → Prop} : atW (.tup (a :: b :: c :: d :: l)) (.int 3) K = K d := by
  have : L2.atI (a :: b :: c :: d :: l) 3 = some d := by rw [atI_int (by decide)]; rfl
  simp only [atW, this]
theorem at_l0 {a : W} {l : List W} {K : W → Prop} : atW (.lst (a :: l)) (.int 0) K = K a := by simp [atW, L2.atI, L2.ixN]
theorem at_l1 {a b : W} {l : List W} {K : W → Prop} : atW (.lst (a :: b :: l)) (.int 1) K = K b := by
  have : L2.atI (a :: b :: l) 1 = some b := by rw [atI_int (by decide)]; rfl
  simp only [atW, this]
theorem at_l2 {a b c : W} {l : List W} {K : W → Prop} : atW (.lst (a :: b :: c :: l)) (.int 2) K = K c := by
  have : L2.atI (a :: b :: c :: l) 2 = some c := by rw [atI_int (by decide)]; rfl
  simp only [atW, this]
theorem at_tn {ws : List W} {i : Nat} {w : W} {K : W → Prop} (e : ws[i]? = some w) : atW (.tup ws) (.int i) K = K w := by simp only [atW, atI_nat, e]
theorem at_ln {ws : List W} {i : Nat} {w : W} {K : W → Prop} (e : ws[i]? = some w) : atW (.lst ws) (.int i) K = K w := by simp only [atW, atI_nat, e]
theorem at_ti {ws : List W} {i : Int} {w : W} {K : W → Prop} (h : 0 ≤ i) (e : ws[i.toNat]? = some w) : atW (.tup ws) (.int i) K = K w := by simp only [atW, atI_int h, e]
theorem at_li {ws : List W} {i : Int} {w : W} {K : W → Prop} (h : 0 ≤ i) (e : ws[i.toNat]? = some w) : atW (.lst ws) (.int i) K = K w := by simp only [atW, atI_int h, e]
theorem set_n {h : Hw} {a : Addr} {ws : List W} {i : Int} {v : W} {P : Hw → Prop} (e : h a = some (.lst ws)) (h0 : 0 ≤ i) (hi : i.toNat < ws.length) : setW h (.loc a) (.int i) v P = P (hset h a (.lst (ws.set i.toNat v))) := by
  obtain ⟨n, rfl⟩ := Int.eq_ofNat_of_zero_le h0
  have e2 : L2.ixN ws.length (n : Int) = some (n : Int).toNat := ixN_nat hi
  simp only [setW, e, e2]
def iws (xs : List Int) : List W := xs.map .int
theorem iws_len {xs : List Int} : (iws xs).length = xs.length := by simp [iws]
theorem iws_get {xs : List Int} {i : Nat} : (iws xs)[i]? = (xs[i]?).map .int := by simp [iws]
theorem iws_set {xs : List Int} {i : Nat} {v : Int} : (iws xs).set i (.int v) = iws (xs.set i v) := by simp [iws, List.map_set]
theorem atLI_n {xs : List Int} {i : Int} {P : Int → Prop} (h0 : 0 ≤ i) (hi : i.toNat < xs.length) : atLI (.lst (iws xs)) (.int i) P = P (xs.getD i.toNat 0) := by
  have e : L2.atI (iws xs) i = some (.int (xs.getD i.toNat 0)) := by
    rw [atI_int h0, iws_get, List.getElem?_eq_getElem hi]
    simp [List.getD, List.getElem?_eq_getElem hi]
  simp only [atLI, e]
/-- t added at a place -/
def addAt (xs : List Int) (i : Nat) (t : Int) : List Int := xs.set i (xs.getD i 0 + t)
theorem addAt_len {xs : List Int} {i : Nat} {t : Int} : (addAt xs i t).length = xs.length := by simp [addAt]
/-! ### the heap -/
theorem hset_same {h : Hw} {a : Addr} {o : O} : hset h a o a = some o := by simp [hset]
theorem hset_ne {h : Hw} {a b : Addr} {o : O} (n : b ≠ a) : hset h a o b = h b := by simp [hset, n]
theorem hset_two {h : Hw} {a : Addr} {o p : O} : hset (hset h a o) a p = hset h a p := by funext b; simp only [hset]; split <;> rfl
theorem hset_swap {h : Hw} {a b : Addr} {o p q : O} (n : a ≠ b) : hset (hset (hset h a o) b p) a q = hset (hset h a q) b p := by
  funext c
  simp only [hset]
  by_cases e : c = a
  · simp [e, n]
  · simp [e]
theorem hset_none {h : Hw} {a b : Addr} {o : O} (e : hset h a o b = none) : b ≠ a ∧ h b = none := by
  by_cases n : b = a
  · simp [hset, n] at e
  · rw [hset_ne n] at e
    exact ⟨n, e⟩
theorem hdel_hset {h : Hw} {a : Addr} {o : O} (e : h a = none) : hdel (hset h a o) a = h := by
  funext b
  simp only [hdel, hset]
  by_cases n : b = a
  · simp [n, e]
  · simp [n]
theorem hdel_hset2 {h : Hw} {a b : Addr} {o p : O} (e : h a = none) (n : b ≠ a) : hdel (hset (hset h a o) b p) a = hset h b p := by
  funext c
  simp only [hdel, hset]
  by_cases m : c = a
  · subst m
    simp [e, Ne.symm n]
  · simp [m]
theorem frz_l {h : Hw} {a : Addr} {ws : List W} {P : W → Hw → Prop} (e : h a = some (.lst ws)) : frzW h (.loc a) P = P (.lst ws) (hdel h a) := by simp only [frzW, e]
theorem frz_i {h : Hw} {a : Addr} {c : Cl} {ws : List W} {P : W → Hw → Prop} (e : h a = some (.ins c ws)) : frzW h (.loc a) P = P (.obj c ws) (hdel h a) := by simp only [frzW, e]
theorem lstAt_l {h : Hw} {a : Addr} {ws : List W} {P : Addr → List W → Prop} (e : h a = some (.lst ws)) : lstAt h (.loc a) P = P a ws := by simp only [lstAt, e]
theorem isLoL_l {h : Hw} {a : Addr} {ws : List W} (e : h a = some (.lst ws)) : isLoL h (.loc a) = true := by simp only [isLoL, e]
theorem iv_own {h : Hw} {a : Addr} {ws : List W} {P : W → Prop} (e : h a = some (.lst ws)) : itrV h .own [.loc a] P = P (.tup [.lst ws, .loc a]) := by simp only [itrV, e]
theorem iv_seq_l {h : Hw} {ws : List W} {P : W → Prop} : itrV h .seq [.lst ws] P = P (.lst ws) := rfl
theorem iv_seq_t {h : Hw} {ws : List W} {P : W → Prop} : itrV h .seq [.tup ws] P = P (.lst ws) := rfl
theorem iv_seq_s {h : Hw} {ws : List W} {P : W → Prop} : itrV h .seq [.scr ws] P = P (.lst ws) := rfl
theorem iv_rng1 {h : Hw} {n : Int} {P : W → Prop} : itrV h .rng1 [.int n] P = ((-1000000 ≤ n ∧ n ≤ 1000000) ∧ P (.lst (rngW 0 n))) := rfl
theorem iv_rng2 {h : Hw} {a b : Int} {P : W → Prop} : itrV h .rng2 [.int a, .int b] P = ((-1000000 ≤ a ∧ a ≤ 1000000 ∧ -1000000 ≤ b ∧ b ≤ 1000000) ∧ P (.lst (rngW a b))) := rfl
theorem rng_eq {a : Nat} {n : Int} : rngW (a : Int) n = (List.range (n - a).toNat).map fun k => .int ((a + k : Nat) : Int) := by simp [rngW]
theorem rng0_eq {n : Nat} : rngW 0 (n : Int) = (List.range n).map fun k => .int (k : Int) := by simp [rngW]
theorem rng1_eq {n : Nat} : rngW 1 (n : Int) = (List.range (n - 1)).map fun k => .int ((1 + k : Nat) : Int) := by
  have : ((n : Int) - 1).toNat = n - 1 := by omega
  simp [rngW, this]
theorem eq_str {s t : Str} {P : Bool → Prop} : eqW (.str s) (.str t) P = P (decide (s = t)) := rfl
theorem eq_int {s t : Int} {P : Bool → Prop} : eqW (.int s) (.int t) P = P (decide (s = t)) := rfl
theorem eq_bl {s t : Bool} {P : Bool → Prop} : eqW (.bl s) (.bl t) P = P (decide (s = t)) := rfl
theorem mul_l {i j : Int} {P : W → Prop} (h : -(2 ^ 64) < i ∧ i < 2 ^ 64) : binW .mul (.int i) (.int j) P = P (.int (i * j)) := by
  have : MulOk i j := .inl (.inl h)
  simp only [binW, this, true_and]
theorem mul_r {i j : Int} {P : W → Prop} (h : -(2 ^ 64) < j ∧ j < 2 ^ 64) : binW .mul (.int i) (.int j) P = P (.int (i * j)) := by
  have : MulOk i j := .inl (.inr h)
  simp only [binW, this, true_and]
theorem add_i {i j : Int} {P : W → Prop} : binW .add (.int i) (.int j) P = P (.int (i + j)) := rfl
theorem sub_i {i j : Int} {P : W → Prop} : binW .sub (.int i) (.int j) P = P (.int (i - j)) := rfl
theorem mod_i {i j : Int} {P : W → Prop} : binW .mod (.int i) (.int j) P = (0 < j ∧ P (.int (i % j))) := rfl
theorem add_l {a b : List W} {P : W → Prop} : binW .add (.lst a) (.lst b) P = (a.length + b.length ≤ lim ∧ P (.lst (a ++ b))) := rfl
theorem add_t {a b : List W} {P : W → Prop} : binW .add (.tup a) (.tup b) P = (a.length + b.length ≤ lim ∧ P (.tup (a ++ b))) := rfl
theorem add_s {s t : Str} {P : W → Prop} : binW .add (.str s) (.str t) P = (s.length + t.length ≤ lim ∧ P (.str (s ++ t))) := rfl
theorem rep_l {a : List W} {n : Int} {P : W → Prop} : binW .mul (.lst a) (.int n) P = ((-1000 ≤ n ∧ n ≤ 1000 ∧ a.length ≤ 1000) ∧ P (.lst (rep n.toNat a))) := rfl
theorem pow_i {i j : Int} {P : W → Prop} : binW .pow (.int i) (.int j) P = ((0 ≤ j ∧ j ≤ 100 ∧ -(2 ^ 64) < i ∧ i < 2 ^ 64) ∧ P (.int (i ^ j.toNat))) := rfl
theorem fdiv_i {i j : Int} {P : W → Prop} (h : 0 < j) : binW .fdiv (.int i) (.int j) P = (j.natAbs < 2 ^ 8999 ∧ P (.int (i / j))) := by simp only [binW, h, if_true]
theorem vv_non {h : Hw} : vw h .non = .non := rfl
theorem isn_non : isNon .non = true := rfl
theorem isi_non {cl : List Cl} : isiOk cl .non = true := rfl
theorem vv_bl {h : Hw} {b : Bool} : vw h (.bl b) = (.bl b) := rfl
theorem isn_bl {b : Bool} : isNon (.bl b) = false := rfl
theorem isi_bl {cl : List Cl} {b : Bool} : isiOk cl (.bl b) = true := rfl
theorem vv_int {h : Hw} {i : Int} : vw h (.int i) = (.int i) := rfl
theorem isn_int {i : Int} : isNon (.int i) = false := rfl
theorem isi_int {cl : List Cl} {i : Int} : isiOk cl (.int i) = true := rfl
theorem vv_str {h : Hw} {s : Str} : vw h (.str s) = (.str s) := rfl
theorem isn_str {s : Str} : isNon (.str s) = false := rfl
theorem isi_str {cl : List Cl} {s : Str} : isiOk cl (.str s) = true := rfl
theorem vv_tup {h : Hw} {ws : List W} : vw h (.tup ws) = (.tup ws) := rfl
theorem isn_tup {ws : List W} : isNon (.tup ws) = false := rfl
theorem isi_tup {cl : List Cl} {ws : List W} : isiOk cl (.tup ws) = true := rfl
theorem vv_lst {h : Hw} {ws : List W} : vw h (.lst ws) = (.lst ws) := rfl
theorem isn_lst {ws : List W} : isNon (.lst ws) = false := rfl
theorem isi_lst {cl : List Cl} {ws : List W} : isiOk cl (.lst ws) = true := rfl
theorem vv_obj {h : Hw} {c : Cl} {ws : List W} : vw h (.obj c ws) = (.obj c ws) := rfl
theorem isn_obj {c : Cl} {ws : List W} : isNon (.obj c ws) = false := rfl
theorem isi_obj {cl : List Cl} {c : Cl} {ws : List W} : isiOk cl (.obj c ws) = cl.contains c := rfl
theorem vv_exc {h : Hw} {c : String} {ws : List W} : vw h (.exc c ws) = (.exc c ws) := rfl
theorem isn_exc {c : String} {ws : List W} : isNon (.exc c ws) = false := rfl
theorem vv_scr {h : Hw} {ws : List W} : vw h (.scr ws) = (.scr ws) := rfl
theorem isn_scr {ws : List W} : isNon (.scr ws) = false := rfl
theorem kd_int_non : kdW .int .non = false := rfl
theorem kd_int_bl {b : Bool} : kdW .int (.bl b) = true := rfl
theorem kd_int_int {i : Int} : kdW .int (.int i) = true := rfl
theorem kd_int_str {s : Str} : kdW .int (.str s) = false := rfl
theorem kd_int_tup {ws : List W} : kdW .int (.tup ws) = false := rfl
theorem kd_int_lst {ws : List W} : kdW .int (.lst ws) = false := rfl
theorem kd_int_obj {c : Cl} {ws : List W} : kdW .int (.obj c ws) = false := rfl
theorem kd_bool_non : kdW .bool .non = false := rfl
theorem kd_bool_bl {b : Bool} : kdW .bool (.bl b) = true := rfl
theorem kd_bool_int {i : Int} : kdW .bool (.int i) = false := rfl
theorem kd_bool_str {s : Str} : kdW .bool (.str s) = false := rfl
theorem kd_bool_tup {ws : List W} : kdW .bool (.tup ws) = false := rfl
theorem kd_bool_lst {ws : List W} : kdW .bool (.lst ws) = false := rfl
theorem kd_bool_obj {c : Cl} {ws : List W} : kdW .bool (.obj c ws) = false := rfl
theorem kd_str_non : kdW .str .non = false := rfl
theorem kd_str_bl {b : Bool} : kdW .str (.bl b) = false := rfl
theorem kd_str_int {i : Int} : kdW .str (.int i) = false := rfl
theorem kd_str_str {s : Str} : kdW .str (.str s) = true := rfl
theorem kd_str_tup {ws : List W} : kdW .str (.tup ws) = false := rfl
theorem kd_str_lst {ws : List W} : kdW .str (.lst ws) = false := rfl
theorem kd_str_obj {c : Cl} {ws : List W} : kdW .str (.obj c ws) = false := rfl
theorem kd_tuple_non : kdW .tuple .non = false := rfl
theorem kd_tuple_bl {b : Bool} : kdW .tuple (.bl b) = false := rfl
theorem kd_tuple_int {i : Int} : kdW .tuple (.int i) = false := rfl
theorem kd_tuple_str {s : Str} : kdW .tuple (.str s) = false := rfl
theorem kd_tuple_tup {ws : List W} : kdW .tuple (.tup ws) = true := rfl
theorem kd_tuple_lst {ws : List W} : kdW .tuple (.lst ws) = false := rfl
theorem kd_tuple_obj {c : Cl} {ws : List W} : kdW .tuple (.obj c ws) = false := rfl
theorem kd_list_non : kdW .list .non = false := rfl
theorem kd_list_bl {b : Bool} : kdW .list (.bl b) = false := rfl
theorem kd_list_int {i : Int} : kdW .list (.int i) = false := rfl
theorem kd_list_str {s : Str} : kdW .list (.str s) = false := rfl
theorem kd_list_tup {ws : List W} : kdW .list (.tup ws) = false := rfl
theorem kd_list_lst {ws : List W} : kdW .list (.lst ws) = true := rfl
theorem kd_list_obj {c : Cl} {ws : List W} : kdW .list (.obj c ws) = false := rfl
theorem cmp_lt {i j : Int} {P : Bool → Prop} : cmpW .lt (.int i) (.int j) P = P (decide (i < j)) := rfl
theorem cmp_le {i j : Int} {P : Bool → Prop} : cmpW .le (.int i) (.int j) P = P (decide (i ≤ j)) := rfl
theorem cmp_gt {i j : Int} {P : Bool → Prop} : cmpW .gt (.int i) (.int j) P = P (decide (j < i)) := rfl
theorem cmp_ge {i j : Int} {P : Bool → Prop} : cmpW .ge (.int i) (.int j) P = P (decide (j ≤ i)) := rfl
theorem cmp_eq {x y : W} {P : Bool → Prop} : cmpW .eq x y P = eqW x y P := rfl
theorem cmp_ne {x y : W} {P : Bool → Prop} : cmpW .ne x y P = eqW x y fun b => P (!b) := rfl
theorem cmp_inn {x y : W} {P : Bool → Prop} : cmpW .inn x y P = inW x y P := rfl
theorem cmp_nin {x y : W} {P : Bool → Prop} : cmpW .nin x y P = inW x y fun b => P (!b) := rfl
theorem b_lenl {ws : List W} {P : W → Prop} : bltW .len [.lst ws] P = P (.int ws.length) := rfl
theorem b_lent {ws : List W} {P : W → Prop} : bltW .len [.tup ws] P = P (.int ws.length) := rfl
theorem b_lens {s : Str} {P : W → Prop} : bltW .len [.str s] P = (s.length ≤ lim ∧ P (.int s.length)) := rfl
theorem b_inti {i : Int} {P : W → Prop} : bltW .int [.int i] P = P (.int i) := rfl
theorem b_abs {i : Int} {P : W → Prop} : bltW .abs [.int i] P = P (.int (if i < 0 then -i else i)) := rfl
theorem b_max2 {i j : Int} {P : W → Prop} : bltW .max2 [.int i, .int j] P = P (.int (if j > i then j else i)) := rfl
theorem b_min2 {i j : Int} {P : W → Prop} : bltW .min2 [.int i, .int j] P = P (.int (if j < i then j else i)) := rfl
theorem b_tupl {ws : List W} {P : W → Prop} : bltW .tuple [.lst ws] P = P (.tup ws) := rfl
theorem b_tupt {ws : List W} {P : W → Prop} : bltW .tuple [.tup ws] P = P (.tup ws) := rfl
theorem b_lstl {ws : List W} {P : W → Prop} : bltW .list [.lst ws] P = P (.lst ws) := rfl
theorem b_lstt {ws : List W} {P : W → Prop} : bltW .list [.tup ws] P = P (.lst ws) := rfl
theorem b_lsts {ws : List W} {P : W → Prop} : bltW .list [.scr ws] P = P (.lst ws) := rfl
theorem b_lr1 {n : Int} {P : W → Prop} : bltW .listR1 [.int n] P = ((-1000 ≤ n ∧ n ≤ 1000) ∧ P (.lst (rngW 0 n))) := rfl
theorem b_strs {s : Str} {P : W → Prop} : bltW .str [.str s] P = P (.str s) := rfl
theorem b_stri {i : Int} {P : W → Prop} : bltW .str [.int i] P = (i.natAbs.log2 < 1920 ∧ P (.str (toString i))) := rfl
theorem dw_nil {h : Hw} {P : Hw → Prop} : delW [] h P = P h := rfl
theorem dw_cons {h : Hw} {a : Addr} {ws : List W} {P : Hw → Prop} : delW (.loc a :: ws) h P = delW ws (hdel h a) P := rfl
theorem au_add {i j : Int} {P : Int → Prop} : augW .add (.int i) (.int j) P = P (i + j) := rfl
theorem au_sub {i j : Int} {P : Int → Prop} : augW .sub (.int i) (.int j) P = P (i - j) := rfl
theorem ie_non_non : isEnd .non .non = true := rfl
theorem ie_non_int {i : Int} : isEnd .non (.int i) = false := rfl
theorem ie_non_bl {b : Bool} : isEnd .non (.bl b) = false := rfl
theorem ie_non_str {s : Str} : isEnd .non (.str s) = false := rfl
theorem ie_int {j i : Int} : isEnd (.int j) (.int i) = true := rfl
theorem ie_var {j : Nat} {i : Int} : isEnd (.var j) (.int i) = true := rfl
theorem ie_bin {o : Bop} {a b : Ex} {i : Int} : isEnd (.bin o a b) (.int i) = true := rfl
theorem ie_neg {a : Ex} {i : Int} : isEnd (.neg a) (.int i) = true := rfl
theorem sl_l {ws : List W} {i : Int} {P : W → Prop} : slW (.lst ws) (.int i) .non P = P (.lst (cutL ws (some i) none)) := rfl
theorem sl_t {ws : List W} {i : Int} {P : W → Prop} : slW (.tup ws) (.int i) .non P = P (.tup (cutL ws (some i) none)) := rfl
theorem sl_ln {ws : List W} {i : Int} {P : W → Prop} : slW (.lst ws) .non (.int i) P = P (.lst (cutL ws none (some i))) := rfl
theorem sl_tn {ws : List W} {i : Int} {P : W → Prop} : slW (.tup ws) .non (.int i) P = P (.tup (cutL ws none (some i))) := rfl
theorem sl_lb {ws : List W} {i j : Int} {P : W → Prop} : slW (.lst ws) (.int i) (.int j) P = P (.lst (cutL ws (some i) (some j))) := rfl
theorem fo0 {h : Hw} {w : Wb} : fldW h .web 0 w.o = some (.str w.m.s) := rfl
theorem fo1 {h : Hw} {w : Wb} : fldW h .web 1 w.o = some (.int w.l) := rfl
theorem fo2 {h : Hw} {w : Wb} : fldW h .web 2 w.o = some (.int w.n) := rfl
theorem fo3 {h : Hw} {w : Wb} : fldW h .web 3 w.o = some w.rw := rfl
theorem io {h : Hw} {w : Wb} : isCls h .web w.o = true := rfl
theorem kdi {h : Hw} {w : Wb} : vw h w.o = w.o := rfl
/-! ### the program's values, plain -/
def hasScale (m : Mo) (lot : Nat) : Bool := decide (0 < lot) && decide (m ≠ .shift)
def hasShift (m : Mo) (lot : Nat) : Bool := decide (0 < lot) && decide (m ≠ .scale)
def Wb.len (w : Wb) : Nat := 1 + w.n + 2 * w.l
def blank (w : Wb) : List Int := List.replicate w.len 0
def putL (row : List Int) (s : Nat) (t : Int) : List Int := addAt row (1 + s) t
def putR1 (w : Wb) (row : List Int) (lot : Nat) (r t : Int) : List Int := if hasScale w.m lot = true then addAt row (1 + w.n + lot) (t * r) else addAt row 0 (t * r)
def putR (w : Wb) (row : List Int) (lot : Nat) (r t : Int) : List Int := if hasShift w.m lot = true then addAt (putR1 w row lot r t) (1 + w.n + w.l + lot) t else putR1 w row lot r t
def formsOf (w : Wb) (r : Rd) : List (List Int) := match r.k with
  | .told => [addAt (putL (blank w) r.s 1) 0 (-(r.a : Int)), addAt (putL (blank w) r.s (-1)) 0 r.b]
  | .above => [putR w (putL (blank w) r.s 1) r.a r.b (-1)]
  | .at_ => [putR w (putL (blank w) r.s 1) r.a r.b (-1), putR w (putL (blank w) r.s (-1)) r.a (r.b + 1) 1]
def scaleForms (w : Wb) (lot : Nat) : List (List Int) := if hasScale w.m lot = true then [((blank w).set 0 (-1)).set (1 + w.n + lot) 4, ((blank w).set 0 4).set (1 + w.n + lot) (-1)] else []
def Wb.forms (w : Wb) : List (List Int) := w.rs.flatMap (formsOf w) ++ (List.range (w.l - 1)).flatMap fun k => scaleForms w (1 + k)
def fW (f : List Int) : W := .tup (iws f)
theorem putL_len {row : List Int} {s : Nat} {t : Int} : (putL row s t).length = row.length := addAt_len
theorem putR1_len {w : Wb} {row : List Int} {lot : Nat} {r t : Int} : (putR1 w row lot r t).length = row.length := by unfold putR1; split <;> exact addAt_len
theorem putR_len {w : Wb} {row : List Int} {lot : Nat} {r t : Int} : (putR w row lot r t).length = row.length := by
  unfold putR
  split
  · rw [addAt_len, putR1_len]
  · exact putR1_len
theorem blank_len {w : Wb} : (blank w).length = w.len := by simp [blank]
theorem rep_zero {n : Nat} : rep n [W.int 0] = iws (List.replicate n 0) := by
  unfold rep iws
  induction n with
  | zero => rfl
  | succ n ih => simp only [List.replicate_succ, List.flatten_cons, ih, List.map_cons, List.cons_append, List.nil_append]
/-! ### fractions -/
def frW (p : Int × Int) : W := .tup [.int p.1, .int p.2]
/-- number / parts in lowest terms -/
def mkF (a b : Int) : Int × Int := (a / (Int.gcd a b : Int), b / (Int.gcd a b : Int))
def FrOk (p : Int × Int) : Prop := 1 ≤ p.2 ∧ Int.gcd p.1 p.2 = 1
def frB (p : Int × Int) : Bool := decide (1 ≤ p.2) && decide (Int.gcd p.1 p.2 = 1)
theorem frB_ok {p : Int × Int} : frB p = true ↔ FrOk p := by unfold frB FrOk; simp
theorem gcd_pos {a b : Int} (h : 0 < b) : 0 < Int.gcd a b := Int.gcd_pos_of_ne_zero_right a (by omega)
theorem gcd_le {a b : Int} (h : 0 < b) : (Int.gcd a b : Int) ≤ b := Int.le_of_dvd h (Int.gcd_dvd_right ..)
theorem mkF_ok {a b : Int} (h : 0 < b) : FrOk (mkF a b) := by
  have g := gcd_pos (a := a) h
  constructor
  · show 1 ≤ b / (Int.gcd a b : Int)
    have d : (Int.gcd a b : Int) ∣ b := Int.gcd_dvd_right ..
    obtain ⟨c, e⟩ := d
    have g' : 0 < (Int.gcd a b : Int) := by omega
    generalize (Int.gcd a b : Int) = k at *
    subst e
    rw [Int.mul_ediv_cancel_left _ (by omega)]
    exact Int.pos_of_mul_pos_right h g'
  · show Int.gcd (a / (Int.gcd a b : Int)) (b / (Int.gcd a b : Int)) = 1
    exact Int.gcd_ediv_gcd_ediv_gcd g
theorem mkF_sign {a b : Int} (h : 0 < b) : ((mkF a b).1 < 0 ↔ a < 0) ∧ (0 ≤ (mkF a b).1 ↔ 0 ≤ a) := by
  have g := gcd_pos (a := a) h
  have g' : 0 < (Int.gcd a b : Int) := by omega
  have d : (Int.gcd a b : Int) ∣ a := Int.gcd_dvd_left ..
  obtain ⟨c, e⟩ := d
  have e2 : (mkF a b).1 = c := by
    show a / (Int.gcd a b : Int) = c
    generalize (Int.gcd a b : Int) = k at *
    subst e
    rw [Int.mul_ediv_cancel_left _ (by omega)]
  rw [e2]
  generalize (Int.gcd a b : Int) = k at *
  subst e
  have z : (k * c < 0 ↔ c < 0) := by
    constructor
    · intro q
      apply Classical.byContradiction
      intro n
      have := Int.mul_nonneg (a := k) (b := c) (by omega) (by omega)
      omega
    · intro q; exact Int.mul_neg_of_pos_of_neg g' q
  exact ⟨z.symm, by omega⟩
theorem mkF_mul {a b : Int} : (mkF a b).1 * (Int.gcd a b : Int) = a ∧ (mkF a b).2 * (Int.gcd a b : Int) = b :=
  ⟨Int.ediv_mul_cancel (Int.gcd_dvd_left ..), Int.ediv_mul_cancel (Int.gcd_dvd_right ..)⟩
/-- as a statement without division: two fractions are equal -/
theorem mkF_cross {a b : Int} : (mkF a b).1 * b = a * (mkF a b).2 := by
  have h := mkF_mul (a := a) (b := b)
  generalize hk : (Int.gcd a b : Int) = k at h
  generalize (mkF a b).1 = x at *
  generalize (mkF a b).2 = y at *
  obtain ⟨h1, h2⟩ := h
  rw [← h1, ← h2]
  simp only [Int.mul_comm, Int.mul_left_comm]
theorem gcd_step {x y : Nat} : Nat.gcd y (x % y) = Nat.gcd x y := by rw [Nat.gcd_comm x y, Nat.gcd_rec y x, Nat.gcd_comm]
theorem absW {i : Int} : (if i < 0 then -i else i) = (i.natAbs : Int) := by split <;> omega
/-! ### tests of equality -/
theorem sh_ii {a b : Int} : SeqAt.shaped (.tuple [.int a, .int b]) = true := by rfl
theorem sh_n : SeqAt.shaped (.list []) = true := by rfl
theorem eq_fr {p : Int × Int} {c d : Int} {P : Bool → Prop} : eqW (frW p) (.tup [.int c, .int d]) P = P (decide (p = (c, d))) := by
  obtain ⟨a, b⟩ := p
  have e : PyData.eqv (.tuple [.int a, .int b]) (.tuple [.int c, .int d]) = decide ((a, b) = (c, d)) := by
    simp only [PyData.eqv, PyData.eqvAll, Bool.and_true, Prod.mk.injEq]
    by_cases h1 : a = c <;> by_cases h2 : b = d <;> simp [h1, h2]
  show ((SeqAt.shaped (.tuple [.int a, .int b]) = true ∧ SeqAt.shaped (.tuple [.int c, .int d]) = true) ∧ P (PyData.eqv (.tuple [.int a, .int b]) (.tuple [.int c, .int d]))) = P (decide ((a, b) = (c, d)))
  rw [e]
  simp only [sh_ii, true_and]
theorem eq_ll {P : Bool → Prop} : eqW (.lst []) (.lst []) P = P true := by
  show ((SeqAt.shaped (.list []) = true ∧ SeqAt.shaped (.list []) = true) ∧ P true) = P true
  simp only [sh_n, true_and]
theorem bls_map {α : Type} {xs : List α} {f : α → Bool} : blsOf (xs.map fun x => .bl (f x)) = some (xs.map f) := by
  induction xs with
  | nil => rfl
  | cons x xs ih => simp only [List.map_cons, blsOf, ih, Option.map_some]
theorem b_all {α : Type} {xs : List α} {f : α → Bool} {P : W → Prop} : bltW .all [.lst (xs.map fun x => .bl (f x))] P = P (.bl (xs.all f)) := by
  simp only [bltW, bls_map]
  congr 2
  induction xs with
  | nil => rfl
  | cons x xs ih => simp only [List.map_cons, List.all_cons, ih]; rfl
/-! ### amounts -/
structure Am where
  lv : List (Int × Int)
  sc : List (Int × Int)
  sh : List (Int × Int)
def frs (xs : List (Int × Int)) : W := .tup (xs.map frW)
def Am.w (A : Am) : W := .tup [frs A.lv, frs A.sc, frs A.sh]
def ScOk (p : Int × Int) : Prop := FrOk p ∧ p.2 ≤ 4 * p.1 ∧ p.1 ≤ 4 * p.2
def scB (p : Int × Int) : Bool := frB p && (decide (p.2 ≤ 4 * p.1) && decide (p.1 ≤ 4 * p.2))
theorem scB_ok {p : Int × Int} : scB p = true ↔ ScOk p := by unfold scB ScOk; simp [frB_ok]
structure Am.ok (w : Wb) (A : Am) : Prop where
  nl : A.lv.length = w.n
  ns : A.sc.length = w.l
  nh : A.sh.length = w.l
  fl : ∀ p ∈ A.lv, FrOk p
  fs : ∀ p ∈ A.sc, ScOk p
  fh : ∀ p ∈ A.sh, FrOk p
  k1 : ∀ i, i < w.l → hasScale w.m i = false → A.sc[i]? = some (1, 1)
  k2 : ∀ i, i < w.l → hasShift w.m i = false → A.sh[i]? = some (0, 1)
theorem all_frB {xs : List (Int × Int)} (h : ∀ p ∈ xs, FrOk p) : xs.all frB = true := by
  rw [List.all_eq_true]
  exact fun p m => frB_ok.mpr (h p m)
theorem vw_fr {h : Hw} {p : Int × Int} : vw h (frW p) = frW p := rfl
theorem vw_frs {h : Hw} {p : List (Int × Int)} : vw h (frs p) = frs p := rfl
theorem vw_am {h : Hw} {A : Am} : vw h A.w = A.w := rfl
theorem vw_rd {h : Hw} {r : Rd} : vw h r.w = r.w := rfl
theorem vw_fW {h : Hw} {r : List Int} : vw h (fW r) = fW r := rfl
theorem vw_t {h : Hw} {r : Wb} : vw h r.t = r.t := rfl
theorem vw_rw {h : Hw} {r : Wb} : vw h r.rw = r.rw := rfl
/-! ### bounds of forms -/
def Bd (b : Int) (xs : List Int) : Prop := ∀ x ∈ xs, -b ≤ x ∧ x ≤ b
theorem Bd.add {b c t : Int} {xs : List Int} {i : Nat} (h : Bd b xs) (hb : 0 ≤ b) (h1 : -c ≤ t) (h2 : t ≤ c) : Bd (b + c) (addAt xs i t) := by
  intro x m
  unfold addAt at m
  rcases List.mem_or_eq_of_mem_set m with m | e
  · have := h x m
    omega
  · have z : -b ≤ xs.getD i 0 ∧ xs.getD i 0 ≤ b := by
      by_cases hi : i < xs.length
      · have : xs.getD i 0 = xs[i] := by simp [List.getD, hi]
        rw [this]
        exact h _ (List.getElem_mem hi)
      · have : xs.getD i 0 = 0 := by simp [List.getD, hi]
        rw [this]
        omega
    omega
theorem Bd.blank {w : Wb} : Bd 0 (blank w) := by
  intro x m
  have := List.eq_of_mem_replicate m
  omega
theorem Bd.mono {b c : Int} {xs : List Int} (h : Bd b xs) (l : b ≤ c) : Bd c xs := fun x m => by have := h x m; omega
theorem Bd.putR {w : Wb} {b : Int} {xs : List Int} {lot r : Nat} {t : Int} (h : Bd b xs) (hb : 0 ≤ b) (h1 : -1 ≤ t) (h2 : t ≤ 1) : Bd (b + r + 1) (putR w xs lot r t) := by
  have e : -(r : Int) ≤ t * r ∧ t * r ≤ r := by
    have : t = -1 ∨ t = 0 ∨ t = 1 := by omega
    rcases this with e | e | e <;> subst e <;> omega
  have k1 : Bd (b + r) (putR1 w xs lot r t) := by
    unfold putR1
    split
    · exact h.add hb e.1 e.2
    · exact h.add hb e.1 e.2
  unfold Lb.putR
  split
  · exact k1.add (by omega) (by omega) (by omega)
  · exact k1.mono (by omega)
theorem formsOf_ok {w : Wb} {r : Rd} (ok : r.ok w.l w.n) : ∀ f ∈ formsOf w r, f.length = w.len ∧ Bd 20000 f := by
  have b0 : ∀ t : Int, -1 ≤ t → t ≤ 1 → Bd 1 (putL (blank w) r.s t) := fun t h1 h2 => (Bd.blank.add (by omega) h1 h2).mono (by omega)
  obtain ⟨o1, o2⟩ := ok
  intro f m
  unfold formsOf at m
  cases hk : r.k <;> simp only [hk] at m o2 <;> simp only [List.mem_cons, List.not_mem_nil, or_false] at m
  · rcases m with e | e <;> subst e
    · exact ⟨by rw [putR_len, putL_len, blank_len], ((b0 1 (by omega) (by omega)).putR (by omega) (by omega) (by omega)).mono (by omega) |> fun h => h⟩
    · have := (b0 (-1) (by omega) (by omega)).putR (w := w) (lot := r.a) (r := r.b + 1) (t := 1) (by omega) (by omega) (by omega)
      exact ⟨by rw [putR_len, putL_len, blank_len], this.mono (by omega)⟩
  · subst m
    exact ⟨by rw [putR_len, putL_len, blank_len], ((b0 1 (by omega) (by omega)).putR (by omega) (by omega) (by omega)).mono (by omega)⟩
  · rcases m with e | e <;> subst e
    · exact ⟨by rw [addAt_len, putL_len, blank_len], ((b0 1 (by omega) (by omega)).add (c := 9999) (by omega) (by omega) (by omega)).mono (by omega)⟩
    · exact ⟨by rw [addAt_len, putL_len, blank_len], ((b0 (-1) (by omega) (by omega)).add (c := 9999) (by omega) (by omega) (by omega)).mono (by omega)⟩
theorem Bd.set {b v : Int} {xs : List Int} {i : Nat} (h : Bd b xs) (h1 : -b ≤ v) (h2 : v ≤ b) : Bd b (xs.set i v) := by
  intro x m
  rcases List.mem_or_eq_of_mem_set m with m | e
  · exact h x m
  · omega
theorem scaleForms_ok {w : Wb} {lot : Nat} : ∀ f ∈ scaleForms w lot, f.length = w.len ∧ Bd 20000 f := by
  intro f m
  have b0 : Bd 4 (blank w) := Bd.blank.mono (by omega)
  unfold scaleForms at m
  split at m
  · simp only [List.mem_cons, List.not_mem_nil, or_false] at m
    rcases m with e | e <;> subst e
    · exact ⟨by simp [blank_len], ((b0.set (by omega) (by omega)).set (by omega) (by omega)).mono (by omega)⟩
    · exact ⟨by simp [blank_len], ((b0.set (by omega) (by omega)).set (by omega) (by omega)).mono (by omega)⟩
  · cases m
theorem forms_ok {w : Wb} (ok : w.ok) : ∀ f ∈ w.forms, f.length = w.len ∧ Bd 20000 f := by
  intro f m
  unfold Wb.forms at m
  rcases List.mem_append.mp m with m | m
  · obtain ⟨r, m1, m2⟩ := List.mem_flatMap.mp m
    exact formsOf_ok (ok.2.2.2 r m1) f m2
  · obtain ⟨k, _, m2⟩ := List.mem_flatMap.mp m
    exact scaleForms_ok f m2
theorem flat_le {α β : Type} {f : α → List β} {c : Nat} (h : ∀ x, (f x).length ≤ c) : ∀ xs : List α, (xs.flatMap f).length ≤ c * xs.length
  | [] => by simp
  | x :: xs => by
    have := h x
    have := flat_le h xs
    simp only [List.flatMap_cons, List.length_append, List.length_cons, Nat.mul_add]
    omega
theorem formsOf_len {w : Wb} {r : Rd} : (formsOf w r).length ≤ 2 := by unfold formsOf; cases r.k <;> simp
theorem scaleForms_len {w : Wb} {k : Nat} : (scaleForms w k).length ≤ 2 := by unfold scaleForms; split <;> simp
theorem forms_len {w : Wb} (ok : w.ok) : w.forms.length ≤ 30 := by
  unfold Wb.forms
  have h1 := flat_le (f := formsOf w) (c := 2) (fun r => formsOf_len) w.rs
  have h2 := flat_le (f := fun k => scaleForms w (1 + k)) (c := 2) (fun r => scaleForms_len) (List.range (w.l - 1))
  have := ok.1
  have := ok.2.2.1
  simp only [List.length_range] at h2
  simp only [List.length_append]
  omega
theorem fold_app {α β : Type} (f : α → List β) : ∀ (xs : List α) (acc : List β), xs.foldl (fun s x => s ++ f x) acc = acc ++ xs.flatMap f
  | [], acc => by simp
  | x :: xs, acc => by
    simp only [List.foldl_cons, List.flatMap_cons]
    rw [fold_app f xs]
    simp
theorem iv_rw {h : Hw} {w : Wb} {P : W → Prop} : itrV h .seq [w.rw] P = P (.lst (w.rs.map Rd.w)) := rfl
theorem iv_frs {h : Hw} {p : List (Int × Int)} {P : W → Prop} : itrV h .seq [frs p] P = P (.lst (p.map frW)) := rfl
theorem bl_rw {w : Wb} {P : W → Prop} : bltW .len [w.rw] P = P (.int w.rs.length) := by simp [bltW, Wb.rw]
theorem bl_frs {p : List (Int × Int)} {P : W → Prop} : bltW .len [frs p] P = P (.int p.length) := by simp [bltW, frs]
theorem rng_get {α : Type} {e : Nat → α} {n i : Nat} {x : α} (h : ((List.range n).map e)[i]? = some x) : i < n ∧ x = e i := by
  rw [List.getElem?_map] at h
  by_cases hi : i < n
  · rw [List.getElem?_range hi] at h
    exact ⟨hi, (Option.some.inj h).symm⟩
  · rw [List.getElem?_eq_none (by rw [List.length_range]; omega)] at h
    cases h
theorem set_z {h : Hw} {a : Addr} {ws : List W} {v : W} {P : Hw → Prop} (e : h a = some (.lst ws)) (hi : 0 < ws.length) : setW h (.loc a) (.int 0) v P = P (hset h a (.lst (ws.set 0 v))) := set_n e (by omega) hi
theorem set_k {h : Hw} {a : Addr} {ws : List W} {i : Int} {j : Nat} {v : W} {P : Hw → Prop} (e : h a = some (.lst ws)) (ej : i = (j : Nat)) (hi : j < ws.length) : setW h (.loc a) (.int i) v P = P (hset h a (.lst (ws.set j v))) := by
  subst ej
  exact set_n e (by omega) (by simpa using hi)
/-! ### values of forms -/
theorem cut1 {α : Type} {ws : List α} : cutL ws (some 1) none = ws.drop 1 := by
  have e : HT.sIx ws.length 0 (some ((1 : Nat) : Int)) = min 1 ws.length := HT.sIx_nat _ _ _
  have e' : HT.sIx ws.length 0 (some (1 : Int)) = min 1 ws.length := e
  unfold cutL
  rw [HT.sIx_none, e']
  cases ws with
  | nil => rfl
  | cons a l =>
    have : min 1 (a :: l).length = 1 := by simp
    rw [this]
    simp
theorem mul_b {i j : Int} {P : W → Prop} (h1 : i.natAbs < 2 ^ 400000) (h2 : j.natAbs < 2 ^ 400000) : binW .mul (.int i) (.int j) P = P (.int (i * j)) := by
  have : MulOk i j := .inr ⟨h1, h2⟩
  simp only [binW, this, true_and]
theorem big {x k : Nat} (h : x ≤ 2 ^ k) (hk : k < 400000) : x < 2 ^ 400000 := Nat.lt_of_le_of_lt h (Nat.pow_lt_pow_right (by decide) hk)
def vf (s : Int × Int) (x : Int × (Int × Int)) : Int × Int := (s.1 * x.2.2 + x.1 * x.2.1 * s.2, s.2 * x.2.2)
def valN (f : List Int) (ams : List (Int × Int)) : Int × Int := ((f.drop 1).zip ams).foldl vf (f.getD 0 0, 1)
def valF (f : List Int) (ams : List (Int × Int)) : Int × Int := mkF (valN f ams).1 (valN f ams).2
def Am.all (A : Am) : List (Int × Int) := A.lv ++ A.sc ++ A.sh
def fitsB (w : Wb) (A : Am) : Bool := w.forms.all fun f => decide (0 ≤ (valF f A.all).1)
/-- numbers of some size -/
def PB (p : Int × Int) : Prop := p.1.natAbs ≤ 2 ^ 600 ∧ 1 ≤ p.2 ∧ p.2.natAbs ≤ 2 ^ 600
def VB (i : Nat) (s : Int × Int) : Prop := s.1.natAbs ≤ 2 ^ (700 * (i + 1)) ∧ 1 ≤ s.2 ∧ s.2.natAbs ≤ 2 ^ (600 * i)
theorem VB.step {i : Nat} {s : Int × Int} {x : Int × (Int × Int)} (h : VB i s) (hx : x.1.natAbs ≤ 2 ^ 64) (hp : PB x.2) : VB (i + 1) (vf s x) := by
  obtain ⟨h1, h2, h3⟩ := h
  obtain ⟨p1, p2, p3⟩ := hp
  refine ⟨?_, ?_, ?_⟩
  · show (s.1 * x.2.2 + x.1 * x.2.1 * s.2).natAbs ≤ _
    have a := Int.natAbs_add_le (s.1 * x.2.2) (x.1 * x.2.1 * s.2)
    rw [Int.natAbs_mul, Int.natAbs_mul, Int.natAbs_mul] at a
    have b1 : s.1.natAbs * x.2.2.natAbs ≤ 2 ^ (700 * (i + 1) + 600) := by rw [Nat.pow_add]; exact Nat.mul_le_mul h1 p3
    have b2 : x.1.natAbs * x.2.1.natAbs * s.2.natAbs ≤ 2 ^ (64 + 600 + 600 * i) := by rw [Nat.pow_add, Nat.pow_add]; exact Nat.mul_le_mul (Nat.mul_le_mul hx p1) h3
    have c1 : 2 ^ (700 * (i + 1) + 600) ≤ 2 ^ (700 * (i + 1) + 699) := Nat.pow_le_pow_right (by decide) (by omega)
    have c2 : 2 ^ (64 + 600 + 600 * i) ≤ 2 ^ (700 * (i + 1) + 699) := Nat.pow_le_pow_right (by decide) (by omega)
    have e : 2 ^ (700 * (i + 1 + 1)) = 2 ^ (700 * (i + 1) + 699) * 2 := by rw [← Nat.pow_succ]; congr 1
    rw [e]
    generalize 2 ^ (700 * (i + 1) + 699) = M at *
    generalize 2 ^ (700 * (i + 1) + 600) = M1 at *
    generalize 2 ^ (64 + 600 + 600 * i) = M2 at *
    omega
  · show 1 ≤ s.2 * x.2.2
    exact Int.mul_pos (by omega) (by omega)
  · show (s.2 * x.2.2).natAbs ≤ _
    rw [Int.natAbs_mul, Nat.mul_add, Nat.pow_add]
    exact Nat.mul_le_mul h3 p3
theorem zip_bd {f : List Int} {ams : List (Int × Int)} (hf : Bd 20000 f) (ha : ∀ p ∈ ams, PB p) : ∀ x ∈ (f.drop 1).zip ams, x.1.natAbs ≤ 2 ^ 64 ∧ PB x.2 := by
  intro x m
  obtain ⟨y, z⟩ := x
  have m' := List.of_mem_zip m
  have := hf y (List.mem_of_mem_drop m'.1)
  refine ⟨?_, ha z m'.2⟩
  have e : (2 : Nat) ^ 64 = 18446744073709551616 := by decide
  rw [e]
  show y.natAbs ≤ _
  omega
theorem fold_vb {xs : List (Int × (Int × Int))} (h : ∀ x ∈ xs, x.1.natAbs ≤ 2 ^ 64 ∧ PB x.2) : ∀ (i : Nat) (s : Int × Int), VB i s → VB (i + xs.length) (xs.foldl vf s) := by
  induction xs with
  | nil => intro i s v; exact v
  | cons x xs ih =>
    intro i s v
    have h0 := h x (List.mem_cons_self ..)
    have := ih (fun y m => h y (List.mem_cons_of_mem _ m)) (i + 1) _ (v.step h0.1 h0.2)
    rw [List.length_cons, show i + (xs.length + 1) = i + 1 + xs.length by omega]
    exact this
theorem val0 {f : List Int} (hf : Bd 20000 f) : VB 0 (f.getD 0 0, 1) := by
  refine ⟨?_, Int.le_refl 1, by show (1 : Int).natAbs ≤ 2 ^ 0; decide⟩
  have : -20000 ≤ f.getD 0 0 ∧ f.getD 0 0 ≤ 20000 := by
    cases f with
    | nil => simp
    | cons a l => exact hf a (List.mem_cons_self ..)
  show (f.getD 0 0).natAbs ≤ _
  have e : (2 : Nat) ^ 64 ≤ 2 ^ (700 * (0 + 1)) := Nat.pow_le_pow_right (by decide) (by omega)
  have e2 : (2 : Nat) ^ 64 = 18446744073709551616 := by decide
  omega
theorem val_vb {f : List Int} {ams : List (Int × Int)} (hf : Bd 20000 f) (ha : ∀ p ∈ ams, PB p) (hl : ams.length ≤ 14) : 1 ≤ (valN f ams).2 ∧ (valN f ams).2.natAbs < 2 ^ 8999 := by
  have z := zip_bd hf ha
  have v0 := val0 hf
  have v := fold_vb z 0 _ v0
  refine ⟨v.2.1, ?_⟩
  have l : ((f.drop 1).zip ams).length ≤ 14 := by rw [List.length_zip]; omega
  exact Nat.lt_of_le_of_lt v.2.2 (Nat.pow_lt_pow_right (by decide) (by omega))
theorem zipW_f {f : List Int} {ams : List (Int × Int)} : zipW (iws f) (ams.map frW) = (f.zip ams).map fun x => .tup [.int x.1, frW x.2] := by
  induction f generalizing ams with
  | nil => simp [iws, zipW]
  | cons a f ih =>
    cases ams with
    | nil => simp [iws, zipW]
    | cons b ams =>
      have := ih (ams := ams)
      simp only [iws] at this
      simp [iws, zipW, this]
/-! ### making webs -/
theorem in_modes {m : Mo} {P : Bool → Prop} : inW (.str m.s) (.tup [.str "shift", .str "scale", .str "both"]) P = P true := by
  have e : (([.str "shift", .str "scale", .str "both"] : List W).any fun y => eqF y (.str m.s)) = true := by cases m <;> decide +kernel
  show (((true = true) ∧ _ = true) ∧ P _) = P true
  rw [e]
  simp [flatW]
theorem in_kinds {k : Kn} {P : Bool → Prop} : inW (.str k.s) (.tup [.str "at", .str "above"]) P = P (decide (k ≠ .told)) := by
  have e : (([.str "at", .str "above"] : List W).any fun y => eqF y (.str k.s)) = decide (k ≠ .told) := by cases k <;> decide +kernel
  show (((true = true) ∧ _ = true) ∧ P _) = P _
  rw [e]
  simp [flatW]
theorem st_new {h : Hw} {a : Addr} {c : Cl} {k : Nat} {ws : List W} {v : W} {P : Hw → Prop} (e : h a = some (.ins c ws)) (hk : k = ws.length) : storeF h c k (.loc a) v P = P (hset h a (.ins c (ws ++ [v]))) := by
  subst hk
  simp only [storeF, e, true_and, Nat.lt_irrefl, if_false]
def Kn.lots : Kn → Bool
  | .told => false
  | _ => true
theorem kx_tuple_fr {p : Int × Int} : kdW .tuple (frW p) = true := rfl
theorem kx_list_fr {p : Int × Int} : kdW .list (frW p) = false := rfl
theorem kx_int_fr {p : Int × Int} : kdW .int (frW p) = false := rfl
theorem kx_bool_fr {p : Int × Int} : kdW .bool (frW p) = false := rfl
theorem kx_str_fr {p : Int × Int} : kdW .str (frW p) = false := rfl
theorem ix_fr {p : Int × Int} {cl : List Cl} : isiOk cl (frW p) = true := rfl
theorem nx_fr {p : Int × Int} : isNon (frW p) = false := rfl
theorem kx_tuple_frs {p : List (Int × Int)} : kdW .tuple (frs p) = true := rfl
theorem kx_list_frs {p : List (Int × Int)} : kdW .list (frs p) = false := rfl
theorem kx_int_frs {p : List (Int × Int)} : kdW .int (frs p) = false := rfl
theorem kx_bool_frs {p : List (Int × Int)} : kdW .bool (frs p) = false := rfl
theorem kx_str_frs {p : List (Int × Int)} : kdW .str (frs p) = false := rfl
theorem ix_frs {p : List (Int × Int)} {cl : List Cl} : isiOk cl (frs p) = true := rfl
theorem nx_frs {p : List (Int × Int)} : isNon (frs p) = false := rfl
theorem kx_tuple_am {p : Am} : kdW .tuple p.w = true := rfl
theorem kx_list_am {p : Am} : kdW .list p.w = false := rfl
theorem kx_int_am {p : Am} : kdW .int p.w = false := rfl
theorem kx_bool_am {p : Am} : kdW .bool p.w = false := rfl
theorem kx_str_am {p : Am} : kdW .str p.w = false := rfl
theorem ix_am {p : Am} {cl : List Cl} : isiOk cl p.w = true := rfl
theorem nx_am {p : Am} : isNon p.w = false := rfl
theorem kx_tuple_rd {p : Rd} : kdW .tuple p.w = true := rfl
theorem kx_list_rd {p : Rd} : kdW .list p.w = false := rfl
theorem kx_int_rd {p : Rd} : kdW .int p.w = false := rfl
theorem kx_bool_rd {p : Rd} : kdW .bool p.w = false := rfl
theorem kx_str_rd {p : Rd} : kdW .str p.w = false := rfl
theorem ix_rd {p : Rd} {cl : List Cl} : isiOk cl p.w = true := rfl
theorem nx_rd {p : Rd} : isNon p.w = false := rfl
theorem kx_tuple_fW {p : List Int} : kdW .tuple (fW p) = true := rfl
theorem kx_list_fW {p : List Int} : kdW .list (fW p) = false := rfl
theorem kx_int_fW {p : List Int} : kdW .int (fW p) = false := rfl
theorem kx_bool_fW {p : List Int} : kdW .bool (fW p) = false := rfl
theorem kx_str_fW {p : List Int} : kdW .str (fW p) = false := rfl
theorem ix_fW {p : List Int} {cl : List Cl} : isiOk cl (fW p) = true := rfl
theorem nx_fW {p : List Int} : isNon (fW p) = false := rfl
theorem kx_tuple_wt {p : Wb} : kdW .tuple p.t = true := rfl
theorem kx_list_wt {p : Wb} : kdW .list p.t = false := rfl
theorem kx_int_wt {p : Wb} : kdW .int p.t = false := rfl
theorem kx_bool_wt {p : Wb} : kdW .bool p.t = false := rfl
theorem kx_str_wt {p : Wb} : kdW .str p.t = false := rfl
theorem ix_wt {p : Wb} {cl : List Cl} : isiOk cl p.t = true := rfl
theorem nx_wt {p : Wb} : isNon p.t = false := rfl
theorem kx_tuple_rw {p : Wb} : kdW .tuple p.rw = true := rfl
theorem kx_list_rw {p : Wb} : kdW .list p.rw = false := rfl
theorem kx_int_rw {p : Wb} : kdW .int p.rw = false := rfl
theorem kx_bool_rw {p : Wb} : kdW .bool p.rw = false := rfl
theorem kx_str_rw {p : Wb} : kdW .str p.rw = false := rfl
theorem ix_rw {p : Wb} {cl : List Cl} : isiOk cl p.rw = true := rfl
theorem nx_rw {p : Wb} : isNon p.rw = false := rfl
theorem it_enm_rw {h : Hw} {k : Int} {w : Wb} {P : W → Prop} : itrV h (.enm k) [w.rw] P = P (.lst (enmW k (w.rs.map Rd.w))) := rfl
theorem it_enm_l {h : Hw} {k : Int} {ws : List W} {P : W → Prop} : itrV h (.enm k) [.lst ws] P = P (.lst (enmW k ws)) := rfl
theorem it_enm_t {h : Hw} {k : Int} {ws : List W} {P : W → Prop} : itrV h (.enm k) [.tup ws] P = P (.lst (enmW k ws)) := rfl
theorem enm_getW : ∀ {k : Int} {ws : List W} {i : Nat} {x : W}, (enmW k ws)[i]? = some x → ∃ y, ws[i]? = some y ∧ x = .tup [.int (k + i), y]
  | _, [], _, _, h => by simp [enmW] at h
  | k, w :: ws, 0, x, h => by
    simp [enmW] at h
    exact ⟨w, rfl, by rw [← h]; simp⟩
  | k, w :: ws, i + 1, x, h => by
    simp only [enmW, List.getElem?_cons_succ] at h
    obtain ⟨y, h1, h2⟩ := enm_getW h
    refine ⟨y, by simpa using h1, ?_⟩
    rw [h2]
    congr 3
    omega
theorem enm_lenW : ∀ {k : Int} {ws : List W}, (enmW k ws).length = ws.length
  | _, [] => rfl
  | k, w :: ws => by simp [enmW, enm_lenW (k := k + 1) (ws := ws)]
/-! ### the law's source of draws -/
/-- a is the source, b its cells -/
def LH (a b : Addr) (h : Hw) : Prop := a ≠ b ∧ ∃ (s : Int) (cells : List Int) (i : Int), h a = some (.lst [.int s, .loc b, .int i]) ∧ h b = some (.lst (iws cells)) ∧ cells.length ≤ 63
/-- all but a and b stands as before -/
def Fr (a b : Addr) (h h' : Hw) : Prop := ∀ x, x ≠ a → x ≠ b → h' x = h x
theorem Fr.refl {a b : Addr} {h : Hw} : Fr a b h h := fun _ _ _ => rfl
theorem Fr.trans {a b : Addr} {h h1 h2 : Hw} (f : Fr a b h h1) (g : Fr a b h1 h2) : Fr a b h h2 := fun x n m => (g x n m).trans (f x n m)
theorem Fr.at {a b x : Addr} {h h' : Hw} (f : Fr a b h h') {o : O} (e : h x = some o) (n : x ≠ a) (m : x ≠ b) : h' x = some o := (f x n m).trans e
theorem Fr.set {a b : Addr} {h h' : Hw} {o : O} (f : Fr a b h h') : Fr a b h (hset h' a o) := fun x n m => by rw [hset_ne n]; exact f x n m
theorem Fr.set2 {a b : Addr} {h h' : Hw} {o : O} (f : Fr a b h h') : Fr a b h (hset h' b o) := fun x n m => by rw [hset_ne m]; exact f x n m
theorem LH.none {a b x : Addr} {h : Hw} (l : LH a b h) (e : h x = Option.none) : x ≠ a ∧ x ≠ b := by
  obtain ⟨_, s, cells, i, e1, e2, _⟩ := l
  constructor
  · intro q; subst q; rw [e] at e1; cases e1
  · intro q; subst q; rw [e] at e2; cases e2
theorem LH.put {a b x : Addr} {h : Hw} {o : O} (l : LH a b h) (n : x ≠ a) (m : x ≠ b) : LH a b (hset h x o) := by
  obtain ⟨ne, s, cells, i, e1, e2, e3⟩ := l
  exact ⟨ne, s, cells, i, by rw [hset_ne (Ne.symm n)]; exact e1, by rw [hset_ne (Ne.symm m)]; exact e2, e3⟩
theorem LH.del {a b x : Addr} {h : Hw} (l : LH a b h) (n : x ≠ a) (m : x ≠ b) : LH a b (hdel h x) := by
  obtain ⟨ne, s, cells, i, e1, e2, e3⟩ := l
  exact ⟨ne, s, cells, i, by unfold hdel; rw [if_neg (Ne.symm n)]; exact e1, by unfold hdel; rw [if_neg (Ne.symm m)]; exact e2, e3⟩
theorem mod_rng {x c : Int} (h : 0 < c) : 0 ≤ x % c ∧ x % c < c := ⟨Int.emod_nonneg _ (by omega), Int.emod_lt_of_pos _ h⟩
/-- data without places, of some depth -/
def aOk : Nat → W → Bool
  | _, .non => true
  | _, .bl _ => true
  | _, .int _ => true
  | _, .str _ => true
  | d + 1, .tup ws => decide (ws.length ≤ 1000000) && ws.all (aOk d)
  | d + 1, .lst ws => decide (ws.length ≤ 1000000) && ws.all (aOk d)
  | _, _ => false
theorem eq_nn {P : Bool → Prop} : eqW .non .non P = P true := by
  show ((SeqAt.shaped .none = true ∧ SeqAt.shaped .none = true) ∧ P true) = P true
  have : SeqAt.shaped .none = true := by rfl
  simp only [this, true_and]
theorem wt0 {w : Wb} {K : W → Prop} : atW w.t (.int 0) K = K (.str w.m.s) := at_t0
theorem wt1 {w : Wb} {K : W → Prop} : atW w.t (.int 1) K = K (.int w.l) := at_t1
theorem wt2 {w : Wb} {K : W → Prop} : atW w.t (.int 2) K = K (.int w.n) := at_t2
theorem wt3 {w : Wb} {K : W → Prop} : atW w.t (.int 3) K = K w.rw := at_t3
theorem frw0 {p : Int × Int} {K : W → Prop} : atW (frW p) (.int 0) K = K (.int p.1) := at_t0
theorem frw1 {p : Int × Int} {K : W → Prop} : atW (frW p) (.int 1) K = K (.int p.2) := at_t1
theorem am0 {A : Am} {K : W → Prop} : atW A.w (.int 0) K = K (frs A.lv) := at_t0
theorem am1 {A : Am} {K : W → Prop} : atW A.w (.int 1) K = K (frs A.sc) := at_t1
theorem am2 {A : Am} {K : W → Prop} : atW A.w (.int 2) K = K (frs A.sh) := at_t2
theorem blist_frs {p : List (Int × Int)} {P : W → Prop} : bltW .list [frs p] P = P (.lst (p.map frW)) := rfl
theorem at_frs {xs : List (Int × Int)} {i : Int} {p : Int × Int} {K : W → Prop} (h : 0 ≤ i) (e : xs[i.toNat]? = some p) : atW (frs xs) (.int i) K = K (frW p) := at_ti h (by simp [e])
theorem rd_at {h : Hw} {a : Addr} {row : List Int} {i : Int} {j : Nat} {K : W → Prop} (e : h a = some (.lst (iws row))) (ei : i = (j : Nat)) (hl : j < row.length) : atW (vw h (.loc a)) (.int i) K = K (.int (row.getD j 0)) := by
  subst ei
  rw [vw_loc e]
  refine at_ln ?_
  rw [iws_get, List.getElem?_eq_getElem hl]
  simp [List.getD, hl]
theorem st_at {h : Hw} {a : Addr} {row : List Int} {i : Int} {j : Nat} {v : Int} {P : Hw → Prop} (e : h a = some (.lst (iws row))) (ei : i = (j : Nat)) (hl : j < row.length) : setW h (.loc a) (.int i) (.int v) P = P (hset h a (.lst (iws (row.set j v)))) := by
  rw [set_k e ei (by rw [iws_len]; exact hl), iws_set]
/-! ### the law's own forms -/
def lineV (w : Wb) (lv : List (Nat × Int)) (rs : List (Nat × Nat × Int)) : List Int := rs.foldl (fun row x => putR w row x.1 x.2.1 x.2.2) (lv.foldl (fun row x => putL row x.1 x.2) (blank w))
def lvW (x : Nat × Int) : W := .tup [.int x.1, .int x.2]
def rsW (x : Nat × Nat × Int) : W := .tup [.int x.1, .int x.2.1, .int x.2.2]
theorem foldL_len (lv : List (Nat × Int)) : ∀ row : List Int, (lv.foldl (fun row x => putL row x.1 x.2) row).length = row.length := by
  induction lv with
  | nil => intro row; rfl
  | cons x lv ih => intro row; rw [List.foldl_cons, ih, putL_len]
theorem lineV_len {w : Wb} {lv : List (Nat × Int)} {rs : List (Nat × Nat × Int)} : (lineV w lv rs).length = w.len := by
  unfold lineV
  have : ∀ row : List Int, (rs.foldl (fun row x => putR w row x.1 x.2.1 x.2.2) row).length = row.length := by
    induction rs with
    | nil => intro row; rfl
    | cons x rs ih => intro row; rw [List.foldl_cons, ih, putR_len]
  rw [this, foldL_len, blank_len]
theorem putR_zero {w : Wb} {row : List Int} {r t : Int} : putR w row 0 r t = addAt row 0 (t * r) := by simp [putR, putR1, hasShift, hasScale]
end Lb
end
section
set_option Elab.async false
set_option linter.all false
set_option maxRecDepth 100000
set_option maxHeartbeats 1000000
namespace Lb
open PySem Ri.Z
open Ri (Cl W O Hw hset hdel En KW XW Calls Bop Cop Kd Blt Met ItK Tg Ex Sm Df slot put clr clrs bindT bindTs vw toD toDs lim MulOk rep binW eqD eqW flatW eqF inW cmpW isNon atW cutL slW revW kdW isiOk intsOf prsOf blsOf strsOf leP rngW bltW metTy metW fmtV enmW zipW seqW itrW itrV itsOf fldW isCls frzW delW isEnd initOf nmOf lcL lcL2 wpE wpEs wpJ Dn puts setW atLI augW storeF lstAt isLoL insAt handle forL whlP wpS wpSs wpHs start wpF callD)
theorem mkF_ex {a b : Int} (h : 0 < b) : ∃ x y g : Int, mkF a b = (x, y) ∧ a = x * g ∧ b = y * g ∧ 0 < g ∧ 0 < y := by
  have g := gcd_pos (a := a) h
  have z := mkF_mul (a := a) (b := b)
  have k := (mkF_ok (a := a) h).1
  exact ⟨(mkF a b).1, (mkF a b).2, (Int.gcd a b : Int), rfl, z.1.symm, z.2.symm, by omega, by omega⟩
theorem mkF_lt {a b c : Int} (h : 0 < b) (l : a < c * b) : (mkF a b).1 < c * (mkF a b).2 := by
  obtain ⟨x, y, g, e, e1, e2, g0, y0⟩ := mkF_ex (a := a) h
  rw [e]
  rw [e1, e2, ← Int.mul_assoc] at l
  exact Int.lt_of_mul_lt_mul_right l (by omega)
theorem mkF_le {a b c : Int} (h : 0 < b) (l : a ≤ c * b) : (mkF a b).1 ≤ c * (mkF a b).2 := by
  obtain ⟨x, y, g, e, e1, e2, g0, y0⟩ := mkF_ex (a := a) h
  rw [e]
  rw [e1, e2, ← Int.mul_assoc] at l
  exact Int.le_of_mul_le_mul_right l g0
theorem mkF_ge {a b c : Int} (h : 0 < b) (l : c * b ≤ a) : c * (mkF a b).2 ≤ (mkF a b).1 := by
  obtain ⟨x, y, g, e, e1, e2, g0, y0⟩ := mkF_ex (a := a) h
  rw [e]
  rw [e1, e2, ← Int.mul_assoc] at l
  exact Int.le_of_mul_le_mul_right l g0
theorem mkF_ge2 {a b c : Int} (h : 0 < b) (l : b ≤ c * a) : (mkF a b).2 ≤ c * (mkF a b).1 := by
  obtain ⟨x, y, g, e, e1, e2, g0, y0⟩ := mkF_ex (a := a) h
  rw [e]
  rw [e1, e2, ← Int.mul_assoc] at l
  exact Int.le_of_mul_le_mul_right l g0
theorem mkF_den {a b : Int} (h : 0 < b) : 1 ≤ (mkF a b).2 ∧ (mkF a b).2 ≤ b := by
  obtain ⟨x, y, g, e, e1, e2, g0, y0⟩ := mkF_ex (a := a) h
  rw [e]
  refine ⟨y0, ?_⟩
  rw [e2]
  have := Int.mul_le_mul_of_nonneg_left (show 1 ≤ g by omega) (show 0 ≤ y by omega)
  simpa using this
theorem mkF_num {a b : Int} (h : 0 < b) : (mkF a b).1.natAbs ≤ a.natAbs := by
  obtain ⟨x, y, g, e, e1, e2, g0, y0⟩ := mkF_ex (a := a) h
  rw [e, e1, Int.natAbs_mul]
  exact Nat.le_mul_of_pos_right _ (by omega)
/-- a small fraction -/
def Sml (p : Int × Int) : Prop := -(10 ^ 9) ≤ p.1 ∧ p.1 ≤ 10 ^ 9 ∧ 1 ≤ p.2 ∧ p.2 ≤ 10 ^ 9
theorem Sml.pb {p : Int × Int} (h : Sml p) : PB p := by
  obtain ⟨h1, h2, h3, h4⟩ := h
  have e : (2 : Nat) ^ 64 ≤ 2 ^ 600 := Nat.pow_le_pow_right (by decide) (by omega)
  have e2 : (2 : Nat) ^ 64 = 18446744073709551616 := by decide
  exact ⟨by omega, h3, by omega⟩
theorem mkF_sm {a b : Int} (h : 0 < b) (h1 : -(10 ^ 9) ≤ a) (h2 : a ≤ 10 ^ 9) (h3 : b ≤ 10 ^ 9) : Sml (mkF a b) := by
  have d := mkF_den (a := a) h
  have n := mkF_num (a := a) h
  exact ⟨by omega, by omega, d.1, by omega⟩
/-- drawn levels -/
def LvOk (p : Int × Int) : Prop := FrOk p ∧ Sml p ∧ 0 ≤ p.1 ∧ p.1 < 900 * p.2
theorem lv_ok {a b c : Int} (h : 1 ≤ b) (h4 : b ≤ 4) (hc : c ≤ 900) (h0 : 0 ≤ a) (h1 : a < c * b) : LvOk (mkF a b) := by
  have hb : 0 < b := by omega
  have l : a < 900 * b := Int.lt_of_lt_of_le h1 (Int.mul_le_mul_of_nonneg_right hc (by omega))
  refine ⟨mkF_ok hb, mkF_sm hb (by omega) (by omega) (by omega), ?_, mkF_lt hb l⟩
  exact (mkF_sign hb).2.mpr h0
theorem sc_ok {a b : Int} (h1 : 1 ≤ a) (h2 : a ≤ 8) (h3 : 1 ≤ b) (h4 : b ≤ 8) (h5 : a ≤ 4 * b) (h6 : b ≤ 4 * a) : ScOk (mkF a b) ∧ Sml (mkF a b) := by
  have hb : 0 < b := by omega
  exact ⟨⟨mkF_ok hb, mkF_ge2 hb h6, mkF_le hb h5⟩, mkF_sm hb (by omega) (by omega) (by omega)⟩
theorem mkF_one : mkF 1 1 = (1, 1) := by decide
/-- drawn amounts -/
structure DrA (m : Mo) (l n : Nat) (A : Am) : Prop where
  ok : A.ok ⟨m, l, n, []⟩
  lv : ∀ p ∈ A.lv, LvOk p
  sc : ∀ p ∈ A.sc, ScOk p ∧ Sml p
  sh : ∀ p ∈ A.sh, FrOk p ∧ Sml p
theorem DrA.am {w : Wb} {A : Am} (d : DrA w.m w.l w.n A) : A.ok w := ⟨d.ok.nl, d.ok.ns, d.ok.nh, d.ok.fl, d.ok.fs, d.ok.fh, d.ok.k1, d.ok.k2⟩
theorem DrA.sm {m : Mo} {l n : Nat} {A : Am} (d : DrA m l n A) : ∀ p ∈ A.all, Sml p := by
  intro p h
  unfold Am.all at h
  simp only [List.mem_append] at h
  rcases h with (h | h) | h
  · exact (d.lv p h).2.1
  · exact (d.sc p h).2
  · exact (d.sh p h).2
theorem cap_s {c : Int} (h0 : 0 ≤ c) (h1 : c ≤ 1000000000) : c.natAbs < 2 ^ 8999 := by
  have e : (2 : Nat) ^ 64 ≤ 2 ^ 8999 := Nat.pow_le_pow_right (by decide) (by omega)
  have e2 : (2 : Nat) ^ 64 = 18446744073709551616 := by decide
  omega
def lW (f : List Int) : W := .lst (iws f)
end Lb
end
section
set_option Elab.async false
set_option linter.all false
set_option maxRecDepth 100000
set_option maxHeartbeats 1000000
namespace Lb
open PySem Ri.Z
open Ri (Cl W O Hw hset hdel En KW XW Calls Bop Cop Kd Blt Met ItK Tg Ex Sm Df slot put clr clrs bindT bindTs vw toD toDs lim MulOk rep binW eqD eqW flatW eqF inW cmpW isNon atW cutL slW revW kdW isiOk intsOf prsOf blsOf strsOf leP rngW bltW metTy metW fmtV enmW zipW seqW itrW itrV itsOf fldW isCls frzW delW isEnd initOf nmOf lcL lcL2 wpE wpEs wpJ Dn puts setW atLI augW storeF lstAt isLoL insAt handle forL whlP wpS wpSs wpHs start wpF callD)
theorem toDs_i : ∀ f : List Int, toDs (iws f) = some (f.map .int)
  | [] => rfl
  | a :: f => by
    have := toDs_i f
    simp only [iws] at this
    simp [iws, toDs, toD, this]
theorem lay_i : ∀ f : List Int, PyData.canLayAll0 (f.map .int) = true
  | [] => rfl
  | a :: f => by simp [PyData.canLayAll0, PyData.canLay0, lay_i f]
theorem dep_i : ∀ f : List Int, PyData.depthAll (f.map .int) = 0
  | [] => rfl
  | a :: f => by simp [PyData.depthAll, PyData.depth, dep_i f]
theorem toDs_f : ∀ fs : List (List Int), toDs (fs.map fW) = some (fs.map fun f => .tuple (f.map .int))
  | [] => rfl
  | f :: fs => by
    have := toDs_f fs
    simp [fW, toDs, toD, toDs_i f, this]
theorem lay_f : ∀ fs : List (List Int), PyData.canLayAll0 (fs.map fun f => PyData.tuple (f.map .int)) = true
  | [] => rfl
  | f :: fs => by simp [PyData.canLayAll0, PyData.canLay0, lay_i f, lay_f fs]
theorem dep_f : ∀ fs : List (List Int), PyData.depthAll (fs.map fun f => PyData.tuple (f.map .int)) ≤ 1
  | [] => by simp [PyData.depthAll]
  | f :: fs => by
    have := dep_f fs
    simp [PyData.depthAll, PyData.depth, dep_i f]
    omega
theorem sh_f (fs : List (List Int)) : SeqAt.shaped (.list (fs.map fun f => PyData.tuple (f.map .int))) = true := by
  unfold SeqAt.shaped
  have := dep_f fs
  simp [PyData.canLay0, lay_f fs, PyData.depth]
  omega
theorem eq_fl {fs : List (List Int)} {P : Bool → Prop} : eqW (.lst (fs.map fW)) (.lst []) P = P (decide (fs = [])) := by
  show eqD (.lst (fs.map fW)) (.lst []) P = _
  have e1 : toD (.lst (fs.map fW)) = some (.list (fs.map fun f => .tuple (f.map .int))) := by simp [toD, toDs_f fs]
  have e2 : toD (.lst []) = some (.list []) := rfl
  unfold eqD
  rw [e1, e2]
  simp only [sh_f, sh_n, true_and]
  cases fs with
  | nil => rfl
  | cons f fs => rfl
theorem aOk_f {f : List Int} (h : f.length ≤ 1000000) : aOk 1 (fW f) = true := by
  simp only [fW, aOk, iws, List.length_map, h, decide_true, Bool.true_and, List.all_map]
  rw [List.all_eq_true]
  intro x _
  rfl
theorem aOk_fs {fs : List (List Int)} (h : fs.length ≤ 1000000) (h2 : ∀ f ∈ fs, f.length ≤ 1000000) : aOk 2 (.lst (fs.map fW)) = true := by
  simp only [aOk, List.length_map, h, decide_true, Bool.true_and, List.all_map]
  rw [List.all_eq_true]
  intro f m
  exact aOk_f (h2 f m)
theorem fits_iff {w : Wb} {A : Am} (hb : ∀ f ∈ w.forms, 1 ≤ (valN f A.all).2) : fitsB w A = decide (w.forms.filter (fun f => decide ((valF f A.all).1 < 0)) = []) := by
  unfold fitsB
  rw [Bool.eq_iff_iff, List.all_eq_true, decide_eq_true_eq, List.filter_eq_nil_iff]
  constructor
  · intro h f m
    have := h f m
    simp only [decide_eq_true_eq] at this ⊢
    omega
  · intro h f m
    have := h f m
    simp only [decide_eq_true_eq] at this ⊢
    omega
theorem mkF_pb {a b : Int} (h : 0 < b) (h1 : a.natAbs ≤ 2 ^ 64) (h2 : b.natAbs ≤ 2 ^ 64) : PB (mkF a b) := by
  have d := mkF_den (a := a) h
  have n := mkF_num (a := a) h
  have e : (2 : Nat) ^ 64 ≤ 2 ^ 600 := Nat.pow_le_pow_right (by decide) (by omega)
  unfold PB
  generalize (2 : Nat) ^ 600 = M at *
  generalize (2 : Nat) ^ 64 = M2 at *
  omega
theorem lt8999 {b : Int} (h2 : b.natAbs ≤ 2 ^ 64) : b.natAbs < 2 ^ 8999 := Nat.lt_of_le_of_lt h2 (Nat.pow_lt_pow_right (by decide) (by omega))
/-- a level changed -/
theorem chg {px py x v : Int} (a1 : 0 ≤ px) (a2 : px ≤ 10 ^ 9) (b1 : 1 ≤ py) (b2 : py ≤ 10 ^ 9) (x1 : 1 ≤ x) (x2 : x ≤ 9) (v0 : 0 ≤ v) (v1 : v < 3 * x) :
    (px * x + (v - x) * py).natAbs ≤ 2 ^ 64 ∧ 0 < py * x ∧ (py * x).natAbs ≤ 2 ^ 64 := by
  have e1 : 0 ≤ px * x := Int.mul_nonneg a1 (by omega)
  have e2 : px * x ≤ 10 ^ 9 * 9 := Int.mul_le_mul a2 x2 (by omega) (by omega)
  have e3 : (v - x) * py ≤ 18 * py := Int.mul_le_mul_of_nonneg_right (by omega) (by omega)
  have e4 : -9 * py ≤ (v - x) * py := Int.mul_le_mul_of_nonneg_right (by omega) (by omega)
  have e5 : 0 < py * x := Int.mul_pos (by omega) (by omega)
  have e6 : py * x ≤ 10 ^ 9 * 9 := Int.mul_le_mul b2 x2 (by omega) (by omega)
  have e : (2 : Nat) ^ 64 = 18446744073709551616 := by decide
  rw [e]
  generalize px * x = A at *
  generalize (v - x) * py = B at *
  generalize py * x = C at *
  omega
/-- amounts with a level changed -/
theorem Am.ok_set {w : Wb} {A : Am} {i : Nat} {p : Int × Int} (h : A.ok w) (hp : FrOk p) : Am.ok w ⟨A.lv.set i p, A.sc, A.sh⟩ := by
  refine ⟨by simpa using h.nl, h.ns, h.nh, fun q m => ?_, h.fs, h.fh, h.k1, h.k2⟩
  rcases List.mem_or_eq_of_mem_set m with m | e
  · exact h.fl q m
  · rw [e]; exact hp
theorem pb_set {A : Am} {i : Nat} {p : Int × Int} (h : ∀ q ∈ A.all, PB q) (hp : PB p) : ∀ q ∈ (⟨A.lv.set i p, A.sc, A.sh⟩ : Am).all, PB q := by
  intro q m
  unfold Am.all at m h
  simp only [List.mem_append] at m h
  rcases m with (m | m) | m
  · rcases List.mem_or_eq_of_mem_set m with m | e
    · exact h q (.inl (.inl m))
    · rw [e]; exact hp
  · exact h q (.inl (.inr m))
  · exact h q (.inr m)
end Lb
end
section
set_option Elab.async false
set_option linter.all false
set_option maxRecDepth 100000
set_option maxHeartbeats 1000000
/-! sums and determinants, plain -/
namespace Lm
def sm : Nat → (Nat → Int) → Int
  | 0, _ => 0
  | n + 1, f => sm n f + f n
theorem sm_congr {f g : Nat → Int} : ∀ {n : Nat}, (∀ i, i < n → f i = g i) → sm n f = sm n g
  | 0, _ => rfl
  | n + 1, h => by
    simp only [sm]
    rw [sm_congr (n := n) fun i hi => h i (by omega), h n (by omega)]
theorem sm_zero {f : Nat → Int} : ∀ {n : Nat}, (∀ i, i < n → f i = 0) → sm n f = 0
  | 0, _ => rfl
  | n + 1, h => by
    simp only [sm]
    rw [sm_zero (n := n) fun i hi => h i (by omega), h n (by omega)]
    rfl
theorem sm_add {f g : Nat → Int} : ∀ {n : Nat}, sm n (fun i => f i + g i) = sm n f + sm n g
  | 0 => rfl
  | n + 1 => by simp only [sm]; rw [sm_add (n := n)]; omega
theorem sm_sub {f g : Nat → Int} : ∀ {n : Nat}, sm n (fun i => f i - g i) = sm n f - sm n g
  | 0 => rfl
  | n + 1 => by simp only [sm]; rw [sm_sub (n := n)]; omega
theorem sm_mul {c : Int} {f : Nat → Int} : ∀ {n : Nat}, sm n (fun i => c * f i) = c * sm n f
  | 0 => by simp [sm]
  | n + 1 => by simp only [sm]; rw [sm_mul (n := n), Int.mul_add]
theorem sm_neg {f : Nat → Int} : ∀ {n : Nat}, sm n (fun i => - f i) = - sm n f
  | 0 => by simp [sm]
  | n + 1 => by simp only [sm]; rw [sm_neg (n := n)]; omega
/-- one place alone -/
theorem sm_one {f : Nat → Int} {k : Nat} : ∀ {n : Nat}, k < n → (∀ i, i < n → i ≠ k → f i = 0) → sm n f = f k
  | 0, h, _ => by omega
  | n + 1, h, z => by
    simp only [sm]
    by_cases e : k = n
    · subst e
      rw [sm_zero fun i hi => z i (by omega) (by omega)]
      omega
    · rw [sm_one (n := n) (by omega) fun i hi ne => z i (by omega) ne, z n (by omega) (by omega)]
      omega
/-- one place taken out -/
theorem sm_out {f : Nat → Int} {k n : Nat} (h : k < n) : sm n f = f k + sm n (fun i => if i = k then 0 else f i) := by
  have e : sm n f = sm n (fun i => (if i = k then f i else 0) + (if i = k then 0 else f i)) := sm_congr fun i _ => by split <;> omega
  rw [e, sm_add]
  congr 1
  rw [sm_one h fun i _ ne => by simp [ne]]
  simp
/-- two places alone -/
theorem sm_two {f : Nat → Int} {k l n : Nat} (hk : k < n) (hl : l < n) (kl : k ≠ l) (z : ∀ i, i < n → i ≠ k → i ≠ l → f i = 0) : sm n f = f k + f l := by
  rw [sm_out hk, sm_one hl fun i hi ne => ?_]
  · simp [Ne.symm kl]
  · by_cases e : i = k
    · simp [e]
    · simp only [e, if_false]; exact z i hi e ne
theorem sm_swap {f : Nat → Nat → Int} {m : Nat} : ∀ {n : Nat}, sm n (fun i => sm m (f i)) = sm m (fun j => sm n (fun i => f i j))
  | 0 => by simp only [sm]; exact (sm_zero fun _ _ => rfl).symm
  | n + 1 => by simp only [sm]; rw [sm_swap (n := n), ← sm_add]
theorem sm_le {f g : Nat → Int} : ∀ {n : Nat}, (∀ i, i < n → f i ≤ g i) → sm n f ≤ sm n g
  | 0, _ => Int.le_refl _
  | n + 1, h => by
    simp only [sm]
    have := sm_le (n := n) fun i hi => h i (by omega)
    have := h n (by omega)
    omega
theorem sm_abs {f : Nat → Int} {b : Nat} : ∀ {n : Nat}, (∀ i, i < n → (f i).natAbs ≤ b) → (sm n f).natAbs ≤ n * b
  | 0, _ => by simp [sm]
  | n + 1, h => by
    simp only [sm]
    have h1 := sm_abs (n := n) fun i hi => h i (by omega)
    have h2 := h n (by omega)
    have h3 := Int.natAbs_add_le (sm n f) (f n)
    rw [Nat.add_mul]
    omega
/-- all indexes but j -/
def sk (j r : Nat) : Nat := if r < j then r else r + 1
def sg (j : Nat) : Int := if j % 2 = 0 then 1 else -1
theorem sg_succ {j : Nat} : sg (j + 1) = - sg j := by
  unfold sg
  by_cases h : j % 2 = 0
  · rw [if_pos h, if_neg (by omega)]
  · rw [if_neg h, if_pos (by omega)]; rfl
abbrev Mx := Nat → Nat → Int
def mn (M : Mx) (j : Nat) : Mx := fun r c => M (sk j r) (c + 1)
def det : Nat → Mx → Int
  | 0, _ => 1
  | n + 1, M => sm (n + 1) fun j => sg j * M j 0 * det n (mn M j)
def row (M : Mx) (k : Nat) (v : Nat → Int) : Mx := fun r c => if r = k then v c else M r c
theorem row_same {M : Mx} {k : Nat} {v : Nat → Int} : row M k v k = v := by funext c; simp [row]
theorem row_ne {M : Mx} {k r : Nat} {v : Nat → Int} (h : r ≠ k) : row M k v r = M r := by funext c; simp [row, h]
theorem row_id {M : Mx} {k : Nat} : row M k (M k) = M := by funext r c; simp only [row]; split <;> simp_all
theorem row_row {M : Mx} {k : Nat} {u v : Nat → Int} : row (row M k u) k v = row M k v := by funext r c; simp only [row]; split <;> rfl
theorem row_comm {M : Mx} {k l : Nat} {u v : Nat → Int} (h : k ≠ l) : row (row M k u) l v = row (row M l v) k u := by
  funext r c
  simp only [row]
  by_cases h1 : r = l
  · by_cases h2 : r = k
    · omega
    · simp [h1, Ne.symm h]
  · simp [h1]
theorem det_congr : ∀ {n : Nat} {M M' : Mx}, (∀ r c, r < n → c < n → M r c = M' r c) → det n M = det n M'
  | 0, _, _, _ => rfl
  | n + 1, M, M', h => by
    simp only [det]
    refine sm_congr fun j hj => ?_
    have e : det n (mn M j) = det n (mn M' j) := det_congr (n := n) fun r c hr hc => h _ _ (by unfold sk; split <;> omega) (by omega)
    rw [h j 0 hj (by omega), e]
/-- the row k in the minors without the row j -/
theorem mn_row_self {M : Mx} {k : Nat} {v : Nat → Int} : mn (row M k v) k = mn M k := by
  funext r c
  simp only [mn]
  rw [row_ne (by unfold sk; split <;> omega)]
theorem mn_row_ne {M : Mx} {j k : Nat} {v : Nat → Int} (h : j ≠ k) : mn (row M k v) j = row (mn M j) (if k < j then k else k - 1) (fun c => v (c + 1)) := by
  funext r c
  simp only [mn, row]
  by_cases e : sk j r = k
  · have : r = (if k < j then k else k - 1) := by
      unfold sk at e
      split at e
      · rw [if_pos (by omega)]; exact e
      · rw [if_neg (by omega)]; omega
    rw [if_pos e, if_pos this]
  · have : ¬ r = (if k < j then k else k - 1) := by
      intro q
      apply e
      unfold sk
      split at q
      · rw [if_pos (by omega)]; exact q
      · rw [if_neg (by omega)]; omega
    rw [if_neg e, if_neg this]
theorem det_add : ∀ {n : Nat} {M : Mx} {k : Nat} {u v : Nat → Int}, k < n → det n (row M k fun c => u c + v c) = det n (row M k u) + det n (row M k v)
  | 0, _, _, _, _, h => by omega
  | n + 1, M, k, u, v, h => by
    simp only [det]
    rw [← sm_add]
    refine sm_congr fun j hj => ?_
    by_cases e : j = k
    · subst e
      rw [mn_row_self, mn_row_self, mn_row_self, row_same, row_same, row_same, Int.mul_add, Int.add_mul]
    · rw [mn_row_ne e, mn_row_ne e, mn_row_ne e, row_ne e, row_ne e, row_ne e, det_add (n := n) (by split <;> omega), Int.mul_add]
theorem det_smul : ∀ {n : Nat} {M : Mx} {k : Nat} {a : Int} {v : Nat → Int}, k < n → det n (row M k fun c => a * v c) = a * det n (row M k v)
  | 0, _, _, _, _, h => by omega
  | n + 1, M, k, a, v, h => by
    simp only [det]
    rw [← sm_mul]
    refine sm_congr fun j hj => ?_
    by_cases e : j = k
    · subst e
      rw [mn_row_self, mn_row_self, row_same, row_same]
      simp only [Int.mul_left_comm, Int.mul_assoc, Int.mul_comm]
    · rw [mn_row_ne e, mn_row_ne e, row_ne e, row_ne e, det_smul (n := n) (by split <;> omega)]
      simp only [Int.mul_left_comm, Int.mul_assoc, Int.mul_comm]
theorem det_sm {n : Nat} {M : Mx} {k : Nat} {a : Nat → Int} {H : Nat → Nat → Int} (h : k < n) : ∀ {m : Nat}, det n (row M k fun c => sm m fun j => a j * H j c) = sm m fun j => a j * det n (row M k (H j))
  | 0 => by
    simp only [sm]
    have := det_smul (M := M) (a := 0) (v := fun _ => 0) h
    simpa using this
  | m + 1 => by
    simp only [sm]
    rw [det_add h, det_sm h (m := m), det_smul h]
/-- two rows beside each other that are equal -/
theorem det_adj : ∀ {n : Nat} {M : Mx} {k : Nat}, k + 1 < n → (∀ c, c < n → M k c = M (k + 1) c) → det n M = 0
  | 0, _, _, h, _ => by omega
  | n + 1, M, k, h, e => by
    simp only [det]
    rw [sm_two (k := k) (l := k + 1) (by omega) (by omega) (by omega) fun j hj n1 n2 => ?_]
    · have e1 : det n (mn M k) = det n (mn M (k + 1)) := det_congr fun r c hr hc => by
        simp only [mn]
        by_cases q : r = k
        · subst q
          have s1 : sk r r = r + 1 := by unfold sk; rw [if_neg (by omega)]
          have s2 : sk (r + 1) r = r := by unfold sk; rw [if_pos (by omega)]
          rw [s1, s2]
          exact (e (c + 1) (by omega)).symm
        · have : sk k r = sk (k + 1) r := by
            unfold sk
            by_cases z : r < k
            · rw [if_pos z, if_pos (by omega)]
            · rw [if_neg z, if_neg (by omega)]
          rw [this]
      rw [e1, e 0 (by omega), sg_succ, Int.neg_mul, Int.neg_mul]
      omega
    · rw [det_adj (n := n) (k := if k + 1 < j then k else k - 1) (by split <;> omega) fun c hc => ?_]
      · simp
      · simp only [mn]
        split
        · have s1 : sk j k = k := by unfold sk; rw [if_pos (by omega)]
          have s2 : sk j (k + 1) = k + 1 := by unfold sk; rw [if_pos (by omega)]
          rw [s1, s2]
          exact e _ (by omega)
        · have s1 : sk j (k - 1) = k := by unfold sk; rw [if_neg (by omega)]; omega
          have s2 : sk j (k - 1 + 1) = k + 1 := by unfold sk; rw [if_neg (by omega)]; omega
          rw [s1, s2]
          exact e _ (by omega)
theorem det_adj2 {n : Nat} {M : Mx} {k : Nat} {u : Nat → Int} (h : k + 1 < n) : det n (row (row M k u) (k + 1) u) = 0 := by
  refine det_adj h fun c _ => ?_
  rw [row_ne (by omega), row_same, row_same]
/-- two rows, exchanged -/
theorem det_swap0 {n : Nat} {M : Mx} {k l : Nat} {u v : Nat → Int} (hk : k < n) (hl : l < n) (h : k ≠ l) (z0 : ∀ u, det n (row (row M k u) l u) = 0) : det n (row (row M k u) l v) = - det n (row (row M k v) l u) := by
  have z := z0 (fun c => u c + v c)
  have e : ∀ a b, row (row M l a) k b = row (row M k b) l a := fun a b => row_comm (Ne.symm h)
  rw [det_add hl, row_comm h, det_add hk, row_comm (M := M) h, det_add hk, e, e, e, e, z0, z0] at z
  omega
theorem det_swapA {n : Nat} {M : Mx} {k : Nat} {u v : Nat → Int} (h : k + 1 < n) : det n (row (row M k u) (k + 1) v) = - det n (row (row M k v) (k + 1) u) := det_swap0 (by omega) h (by omega) fun _ => det_adj2 h
/-- two equal rows -/
theorem det_eq : ∀ (d : Nat) {n : Nat} {M : Mx} {k : Nat} {u : Nat → Int}, k + 1 + d < n → det n (row (row M k u) (k + 1 + d) u) = 0
  | 0, _, _, _, _, h => det_adj2 h
  | d + 1, n, M, k, u, h => by
    -- bring the row k beside
    have e : row (row M k u) (k + 1 + (d + 1)) u = row (row (row M (k + 1 + (d + 1)) u) k u) (k + 1) (M (k + 1)) := by
      have : (row (row M (k + 1 + (d + 1)) u) k u) (k + 1) = M (k + 1) := by rw [row_ne (by omega), row_ne (by omega)]
      rw [← this, row_id, row_comm (by omega)]
    rw [e, det_swapA (by omega)]
    have e2 : row (row (row M (k + 1 + (d + 1)) u) k (M (k + 1))) (k + 1) u = row (row (row M k (M (k + 1))) (k + 1) u) (k + 1 + 1 + d) u := by
      rw [show k + 1 + (d + 1) = k + 1 + 1 + d by omega]
      rw [row_comm (M := M) (by omega), row_comm (by omega)]
    rw [e2, det_eq d (by omega)]
    rfl
theorem det_two {n : Nat} {M : Mx} {k l : Nat} {u : Nat → Int} (hk : k < n) (hl : l < n) (h : k ≠ l) : det n (row (row M k u) l u) = 0 := by
  by_cases z : k < l
  · have := det_eq (l - k - 1) (M := M) (k := k) (u := u) (n := n) (by omega)
    rwa [show k + 1 + (l - k - 1) = l by omega] at this
  · rw [row_comm h]
    have := det_eq (k - l - 1) (M := M) (k := l) (u := u) (n := n) (by omega)
    rwa [show l + 1 + (k - l - 1) = k by omega] at this
theorem det_swap {n : Nat} {M : Mx} {k l : Nat} {u v : Nat → Int} (hk : k < n) (hl : l < n) (h : k ≠ l) : det n (row (row M k u) l v) = - det n (row (row M k v) l u) := det_swap0 hk hl h fun _ => det_two hk hl h
def fac : Nat → Nat
  | 0 => 1
  | n + 1 => (n + 1) * fac n
theorem sg_abs {j : Nat} : (sg j).natAbs = 1 := by unfold sg; split <;> rfl
theorem det_bd {b : Nat} : ∀ {n : Nat} {M : Mx}, (∀ r c, r < n → c < n → (M r c).natAbs ≤ b) → (det n M).natAbs ≤ fac n * b ^ n
  | 0, _, _ => by simp [det, fac]
  | n + 1, M, h => by
    simp only [det]
    have : (sm (n + 1) fun j => sg j * M j 0 * det n (mn M j)).natAbs ≤ (n + 1) * (b * (fac n * b ^ n)) := sm_abs fun j hj => by
      rw [Int.natAbs_mul, Int.natAbs_mul, sg_abs, Nat.one_mul]
      exact Nat.mul_le_mul (h j 0 hj (by omega)) (det_bd fun r c hr hc => h _ _ (by unfold sk; split <;> omega) (by omega))
    refine Nat.le_trans this (Nat.le_of_eq ?_)
    simp only [fac, Nat.pow_succ]
    simp only [Nat.mul_assoc, Nat.mul_left_comm, Nat.mul_comm]
/-- unit rows -/
def un (k : Nat) : Nat → Int := fun c => if c = k then 1 else 0
theorem det_un : ∀ {n : Nat}, det n (fun r => un r) = 1
  | 0 => rfl
  | n + 1 => by
    simp only [det]
    rw [sm_one (k := 0) (by omega) fun j hj ne => by simp [un, Ne.symm ne]]
    have : det n (mn (fun r => un r) 0) = 1 := by
      have e : det n (mn (fun r => un r) 0) = det n (fun r => un r) := det_congr fun r c hr hc => by simp [mn, un, sk]
      rw [e]
      exact det_un
    rw [this]
    rfl
end Lm
end
section
set_option Elab.async false
set_option linter.all false
set_option maxRecDepth 100000
set_option maxHeartbeats 1000000
/-! tables, plain: what stands in a table, and exchanges -/
namespace Lm
structure St where
  R : Nat → Nat → Int
  b : Nat → Int
  h : Nat → Int
  D : Int
/-- the problem: unknowns, rows, the vector of each variable -/
structure Pb where
  n : Nat
  m : Nat
  F : Int → Nat → Int
variable {P : Pb} {S S' : St}
def Hd (P : Pb) (S : St) : Mx := fun l => if l = 0 then un 0 else P.F (S.h (l - 1))
theorem Hd_zero : Hd P S 0 = un 0 := rfl
theorem Hd_succ {k : Nat} : Hd P S (k + 1) = P.F (S.h k) := by simp [Hd]
structure OK (P : Pb) (S : St) : Prop where
  pos : 0 < S.D
  rel : ∀ i, i < P.m → ∀ c, c < P.n + 1 → S.D * P.F (S.b i) c = sm (P.n + 1) fun l => S.R i l * Hd P S l c
  dt : ∃ s : Int, (s = 1 ∨ s = -1) ∧ det (P.n + 1) (Hd P S) = s * S.D
  bi : ∀ i j, i < P.m → j < P.m → S.b i = S.b j → i = j
  hi : ∀ i j, i < P.n → j < P.n → S.h i = S.h j → i = j
  bh : ∀ i j, i < P.m → j < P.n → S.b i ≠ S.h j
  all : ∀ v : Int, -1 ≤ v → v < (P.n : Int) + P.m - 1 → (∃ i, i < P.m ∧ S.b i = v) ∨ ∃ k, k < P.n ∧ S.h k = v
  rb : ∀ i, i < P.m → -1 ≤ S.b i ∧ S.b i < (P.n : Int) + P.m - 1
  rh : ∀ k, k < P.n → -1 ≤ S.h k ∧ S.h k < (P.n : Int) + P.m - 1
theorem sq1 {s : Int} (h : s = 1 ∨ s = -1) : s * s = 1 := by rcases h with h | h <;> subst h <;> rfl
/-- a vector that is written by the heads, put in the place of one -/
theorem det_lin {N : Nat} {H : Mx} {l : Nat} {D : Int} {u : Nat → Int} {a : Nat → Int} {G : Mx} (hl : l < N) (r : ∀ c, c < N → D * u c = sm N fun j => a j * G j c) : D * det N (row H l u) = sm N fun j => a j * det N (row H l (G j)) := by
  rw [← det_smul hl, ← det_sm hl]
  refine det_congr fun x c _ hc => ?_
  simp only [row]
  split
  · exact r c hc
  · rfl
theorem det_self {N : Nat} {H : Mx} {l j : Nat} (hl : l < N) (hj : j < N) : det N (row H l (H j)) = if j = l then det N H else 0 := by
  split
  · rename_i e
    subst e
    rw [row_id]
  · rename_i e
    have : row H l (H j) = row (row H j (H j)) l (H j) := by rw [row_id]
    rw [this, det_two hj hl e]
/-- the entries are determinants -/
theorem OK.ent (o : OK P S) {s : Int} (hs : s = 1 ∨ s = -1) (hd : det (P.n + 1) (Hd P S) = s * S.D) {i l : Nat} (hi : i < P.m) (hl : l < P.n + 1) : S.R i l = s * det (P.n + 1) (row (Hd P S) l (P.F (S.b i))) := by
  have z := det_lin (H := Hd P S) hl (o.rel i hi)
  rw [sm_one (k := l) hl fun j hj ne => by rw [det_self hl hj, if_neg ne]; simp, det_self hl hl, if_pos rfl, hd] at z
  have p := o.pos
  have e : det (P.n + 1) (row (Hd P S) l (P.F (S.b i))) = s * S.R i l := by
    have z2 : S.D * det (P.n + 1) (row (Hd P S) l (P.F (S.b i))) = S.D * (s * S.R i l) := by
      rw [z]
      ac_rfl
    exact Int.eq_of_mul_eq_mul_left (by omega) z2
  rw [e, ← Int.mul_assoc, sq1 hs, Int.one_mul]
def sgn (t : Int) : Int := if t < 0 then -1 else 1
theorem sgn_mul {t : Int} : sgn t * t = t.natAbs := by unfold sgn; split <;> omega
theorem sgn_or {t : Int} : sgn t = 1 ∨ sgn t = -1 := by unfold sgn; split <;> simp
/-- an exchange of the row p for the column q -/
structure Piv (P : Pb) (S : St) (p k : Nat) (S' : St) : Prop where
  hp : p < P.m
  hk : k < P.n
  ne : S.R p (k + 1) ≠ 0
  D : S'.D = (S.R p (k + 1)).natAbs
  bp : S'.b p = S.h k
  hk' : S'.h k = S.b p
  b : ∀ i, i ≠ p → S'.b i = S.b i
  h : ∀ j, j ≠ k → S'.h j = S.h j
  R : ∀ i l, i < P.m → l < P.n + 1 → S'.R i l = sgn (S.R p (k + 1)) * (if i = p then (if l = k + 1 then S.D else - S.R p l) else if l = k + 1 then S.R i (k + 1) else (S.R p (k + 1) * S.R i l - S.R i (k + 1) * S.R p l) / S.D)
theorem Piv.Hd {p k : Nat} (v : Piv P S p k S') : Lm.Hd P S' = row (Lm.Hd P S) (k + 1) (P.F (S.b p)) := by
  funext l
  cases l with
  | zero => rw [Hd_zero, row_ne (by omega), Hd_zero]
  | succ l =>
    rw [Hd_succ]
    by_cases e : l = k
    · subst e
      rw [row_same, v.hk']
    · rw [row_ne (by omega), Hd_succ, v.h l e]
/-- the division leaves no rest -/
theorem OK.div (o : OK P S) {p k i l : Nat} (hp : p < P.m) (hk : k < P.n) (hi : i < P.m) (hl : l < P.n + 1) (ne : l ≠ k + 1) : ∃ e, S.R p (k + 1) * S.R i l - S.R i (k + 1) * S.R p l = S.D * e := by
  obtain ⟨s, hs, hd⟩ := o.dt
  have hq : k + 1 < P.n + 1 := by omega
  have z := det_lin (H := row (Hd P S) (k + 1) (P.F (S.b p))) hl (o.rel i hi)
  rw [sm_two (k := l) (l := k + 1) hl hq ne fun j hj n1 n2 => ?_] at z
  · have e1 : det (P.n + 1) (row (row (Hd P S) (k + 1) (P.F (S.b p))) l (Hd P S l)) = s * S.R p (k + 1) := by
      have : row (row (Hd P S) (k + 1) (P.F (S.b p))) l (Hd P S l) = row (Hd P S) (k + 1) (P.F (S.b p)) := by
        have q : row (Hd P S) (k + 1) (P.F (S.b p)) l = Hd P S l := row_ne ne
        rw [← q, row_id]
      rw [this, o.ent hs hd hp hq, ← Int.mul_assoc, sq1 hs, Int.one_mul]
    have e2 : det (P.n + 1) (row (row (Hd P S) (k + 1) (P.F (S.b p))) l (Hd P S (k + 1))) = - (s * S.R p l) := by
      rw [det_swap hq hl (Ne.symm ne), row_id, o.ent hs hd hp hl, ← Int.mul_assoc, sq1 hs, Int.one_mul]
    rw [e1, e2] at z
    refine ⟨s * det (P.n + 1) (row (row (Hd P S) (k + 1) (P.F (S.b p))) l (P.F (S.b i))), ?_⟩
    have z2 : S.D * (s * det (P.n + 1) (row (row (Hd P S) (k + 1) (P.F (S.b p))) l (P.F (S.b i)))) = s * (S.D * det (P.n + 1) (row (row (Hd P S) (k + 1) (P.F (S.b p))) l (P.F (S.b i)))) := by simp only [Int.mul_left_comm]
    rw [z2, z, Int.mul_add]
    have y1 : s * (S.R i l * (s * S.R p (k + 1))) = (s * s) * (S.R p (k + 1) * S.R i l) := by ac_rfl
    have y2 : s * (S.R i (k + 1) * -(s * S.R p l)) = - ((s * s) * (S.R i (k + 1) * S.R p l)) := by
      rw [Int.mul_neg, Int.mul_neg]
      congr 1
      ac_rfl
    rw [y1, y2, sq1 hs]
    omega
  · have : row (row (Hd P S) (k + 1) (P.F (S.b p))) l (Hd P S j) = row (row (row (Hd P S) (k + 1) (P.F (S.b p))) j (Hd P S j)) l (Hd P S j) := by
      have q : row (Hd P S) (k + 1) (P.F (S.b p)) j = Hd P S j := row_ne n2
      rw [show row (row (Hd P S) (k + 1) (P.F (S.b p))) j (Hd P S j) = row (Hd P S) (k + 1) (P.F (S.b p)) by rw [← q, row_id]]
    rw [this, det_two hj hl n1, Int.mul_zero]
/-- the sums of an exchange -/
theorem Piv.rel (o : OK P S) {p k : Nat} (v : Piv P S p k S') {i : Nat} (hi : i < P.m) {c : Nat} (hc : c < P.n + 1) : S'.D * P.F (S'.b i) c = sm (P.n + 1) fun l => S'.R i l * Lm.Hd P S' l c := by
  have hq : k + 1 < P.n + 1 := by have := v.hk; omega
  have rp := o.rel p v.hp c hc
  rw [sm_out hq] at rp
  have gD := sgn_mul (t := S.R p (k + 1))
  rw [v.D, ← gD, v.Hd]
  -- without the sign
  have key : ∀ X : Nat → Int, (∀ l, l < P.n + 1 → S'.R i l = sgn (S.R p (k + 1)) * X l) → S.R p (k + 1) * P.F (S'.b i) c = sm (P.n + 1) (fun l => X l * row (Lm.Hd P S) (k + 1) (P.F (S.b p)) l c) →
      sgn (S.R p (k + 1)) * S.R p (k + 1) * P.F (S'.b i) c = sm (P.n + 1) fun l => S'.R i l * row (Lm.Hd P S) (k + 1) (P.F (S.b p)) l c := by
    intro X hX h
    rw [Int.mul_assoc, h, ← sm_mul]
    refine sm_congr fun l hl => ?_
    rw [hX l hl, Int.mul_assoc]
  refine key _ (fun l hl => v.R i l hi hl) ?_
  by_cases e : i = p
  · subst e
    simp only [if_true]
    rw [sm_out hq, if_pos rfl, row_same, v.bp]
    have e2 : sm (P.n + 1) (fun l => if l = k + 1 then 0 else (if l = k + 1 then S.D else - S.R i l) * row (Lm.Hd P S) (k + 1) (P.F (S.b i)) l c) = - sm (P.n + 1) (fun l => if l = k + 1 then 0 else S.R i l * Lm.Hd P S l c) := by
      rw [← sm_neg]
      refine sm_congr fun l hl => ?_
      by_cases n : l = k + 1
      · simp [n]
      · simp only [if_neg n, row_ne n, Int.neg_mul]
    rw [e2, rp, ← Hd_succ (P := P) (S := S)]
    omega
  · simp only [if_neg e]
    rw [sm_out hq, if_pos rfl, row_same, v.b i e]
    have ri := o.rel i hi c hc
    rw [sm_out hq] at ri
    have dp := o.pos
    refine Int.eq_of_mul_eq_mul_left (show S.D ≠ 0 by omega) ?_
    have e2 : S.D * sm (P.n + 1) (fun l => if l = k + 1 then 0 else (if l = k + 1 then S.R i (k + 1) else (S.R p (k + 1) * S.R i l - S.R i (k + 1) * S.R p l) / S.D) * row (Lm.Hd P S) (k + 1) (P.F (S.b p)) l c)
        = S.R p (k + 1) * sm (P.n + 1) (fun l => if l = k + 1 then 0 else S.R i l * Lm.Hd P S l c) - S.R i (k + 1) * sm (P.n + 1) (fun l => if l = k + 1 then 0 else S.R p l * Lm.Hd P S l c) := by
      rw [← sm_mul, ← sm_mul, ← sm_mul, ← sm_sub]
      refine sm_congr fun l hl => ?_
      by_cases n : l = k + 1
      · simp [n]
      · simp only [if_neg n, row_ne n]
        obtain ⟨x, ex⟩ := o.div v.hp v.hk hi hl n
        rw [ex, Int.mul_ediv_cancel_left _ (by omega), ← Int.mul_assoc, ← ex, Int.sub_mul, Int.mul_assoc, Int.mul_assoc]
    rw [Int.mul_add, e2]
    have x1 : S.D * (S.R p (k + 1) * P.F (S.b i) c) = S.R p (k + 1) * (S.D * P.F (S.b i) c) := Int.mul_left_comm ..
    have x2 : S.D * (S.R i (k + 1) * P.F (S.b p) c) = S.R i (k + 1) * (S.D * P.F (S.b p) c) := Int.mul_left_comm ..
    rw [x1, x2, ri, rp, Int.mul_add, Int.mul_add]
    have x3 : S.R p (k + 1) * (S.R i (k + 1) * Lm.Hd P S (k + 1) c) = S.R i (k + 1) * (S.R p (k + 1) * Lm.Hd P S (k + 1) c) := Int.mul_left_comm ..
    rw [x3]
    omega
theorem Piv.ok (o : OK P S) {p k : Nat} (v : Piv P S p k S') : OK P S' := by
  have hq : k + 1 < P.n + 1 := by have := v.hk; omega
  refine ⟨?_, fun i hi c hc => v.rel o hi hc, ?_, ?_, ?_, ?_, ?_, ?_, ?_⟩
  · rw [v.D]; have := v.ne; omega
  · obtain ⟨s, hs, hd⟩ := o.dt
    refine ⟨s * sgn (S.R p (k + 1)), ?_, ?_⟩
    · rcases hs with e | e <;> rcases sgn_or (t := S.R p (k + 1)) with f | f <;> rw [e, f] <;> simp
    · have e := o.ent hs hd v.hp hq
      rw [v.Hd, v.D, ← sgn_mul, ← Int.mul_assoc, Int.mul_assoc s, sq1 sgn_or, Int.mul_one, e, ← Int.mul_assoc, sq1 hs, Int.one_mul]
  · intro i j hi hj e
    by_cases e1 : i = p
    · by_cases e2 : j = p
      · omega
      · rw [e1, v.bp, v.b j e2] at e
        exact ((o.bh j k hj v.hk) e.symm).elim
    · by_cases e2 : j = p
      · rw [e2, v.bp, v.b i e1] at e
        exact ((o.bh i k hi v.hk) e).elim
      · rw [v.b i e1, v.b j e2] at e
        exact o.bi i j hi hj e
  · intro i j hi hj e
    by_cases e1 : i = k
    · by_cases e2 : j = k
      · omega
      · rw [e1, v.hk', v.h j e2] at e
        exact ((o.bh p j v.hp hj) e).elim
    · by_cases e2 : j = k
      · rw [e2, v.hk', v.h i e1] at e
        exact ((o.bh p i v.hp hi) e.symm).elim
      · rw [v.h i e1, v.h j e2] at e
        exact o.hi i j hi hj e
  · intro i j hi hj e
    by_cases e1 : i = p
    · by_cases e2 : j = k
      · rw [e1, e2, v.bp, v.hk'] at e
        exact o.bh p k v.hp v.hk e.symm
      · rw [e1, v.bp, v.h j e2] at e
        exact e2 (o.hi k j v.hk hj e).symm
    · by_cases e2 : j = k
      · rw [e2, v.hk', v.b i e1] at e
        exact e1 (o.bi i p hi v.hp e)
      · rw [v.b i e1, v.h j e2] at e
        exact o.bh i j hi hj e
  · intro x x1 x2
    rcases o.all x x1 x2 with ⟨i, hi, e⟩ | ⟨j, hj, e⟩
    · by_cases e1 : i = p
      · exact .inr ⟨k, v.hk, by rw [v.hk', ← e1, e]⟩
      · exact .inl ⟨i, hi, by rw [v.b i e1, e]⟩
    · by_cases e1 : j = k
      · exact .inl ⟨p, v.hp, by rw [v.bp, ← e1, e]⟩
      · exact .inr ⟨j, hj, by rw [v.h j e1, e]⟩
  · intro i hi
    by_cases e1 : i = p
    · rw [e1, v.bp]; exact o.rh k v.hk
    · rw [v.b i e1]; exact o.rb i hi
  · intro j hj
    by_cases e1 : j = k
    · rw [e1, v.hk']; exact o.rb p v.hp
    · rw [v.h j e1]; exact o.rh j hj
end Lm
end
section
set_option Elab.async false
set_option linter.all false
set_option maxRecDepth 100000
set_option maxHeartbeats 1000000
/-! why the exchanges come to an end -/
namespace Lm
variable {P : Pb} {S S' S1 : St}
theorem sm_first {f : Nat → Int} : ∀ {n : Nat}, sm (n + 1) f = f 0 + sm n (fun i => f (i + 1))
  | 0 => by simp [sm]
  | n + 1 => by
    have := sm_first (f := f) (n := n)
    simp only [sm] at this ⊢
    omega
theorem sm_nonpos {f : Nat → Int} : ∀ {n : Nat}, (∀ i, i < n → f i ≤ 0) → sm n f ≤ 0
  | 0, _ => Int.le_refl _
  | n + 1, h => by
    simp only [sm]
    have := sm_nonpos (n := n) fun i hi => h i (by omega)
    have := h n (by omega)
    omega
theorem sm_nonneg {f : Nat → Int} : ∀ {n : Nat}, (∀ i, i < n → 0 ≤ f i) → 0 ≤ sm n f
  | 0, _ => Int.le_refl _
  | n + 1, h => by
    simp only [sm]
    have := sm_nonneg (n := n) fun i hi => h i (by omega)
    have := h n (by omega)
    omega
theorem sm_neg1 {f : Nat → Int} {n k : Nat} (hk : k < n) (h : ∀ i, i < n → f i ≤ 0) (hn : f k < 0) : sm n f < 0 := by
  rw [sm_out hk]
  have : sm n (fun i => if i = k then 0 else f i) ≤ 0 := sm_nonpos fun i hi => by
    split
    · exact Int.le_refl _
    · exact h i hi
  omega
/-- the entry of a variable in a column -/
def En (P : Pb) (S : St) (s : Int) (v : Int) (l : Nat) : Int := s * det (P.n + 1) (row (Hd P S) l (P.F v))
structure Sg (P : Pb) (S : St) (s : Int) : Prop where
  o : OK P S
  s1 : s = 1 ∨ s = -1
  d : det (P.n + 1) (Hd P S) = s * S.D
theorem OK.sg (o : OK P S) : ∃ s, Sg P S s := let ⟨s, h1, h2⟩ := o.dt; ⟨s, o, h1, h2⟩
theorem Sg.b {s : Int} (g : Sg P S s) {i l : Nat} (hi : i < P.m) (hl : l < P.n + 1) : En P S s (S.b i) l = S.R i l := (g.o.ent g.s1 g.d hi hl).symm
theorem Sg.self {s : Int} (g : Sg P S s) {j l : Nat} (hj : j < P.n + 1) (hl : l < P.n + 1) : s * det (P.n + 1) (row (Hd P S) l (Hd P S j)) = if j = l then S.D else 0 := by
  rw [det_self hl hj]
  split
  · rw [g.d, ← Int.mul_assoc, sq1 g.s1, Int.one_mul]
  · exact Int.mul_zero _
theorem Sg.h {s : Int} (g : Sg P S s) {k l : Nat} (hk : k < P.n) (hl : l < P.n + 1) : En P S s (S.h k) l = if k + 1 = l then S.D else 0 := by
  have := g.self (j := k + 1) (l := l) (by omega) hl
  rwa [Hd_succ] at this
/-- the entries in another table -/
theorem chg {s' : Int} (o : OK P S) (g : Sg P S' s') {i l : Nat} (hi : i < P.m) (hl : l < P.n + 1) : S.D * En P S' s' (S.b i) l = (if l = 0 then S.R i 0 * S'.D else 0) + sm P.n fun j => S.R i (j + 1) * En P S' s' (S.h j) l := by
  have z := det_lin (H := Hd P S') hl (o.rel i hi)
  have z2 : S.D * En P S' s' (S.b i) l = s' * (S.D * det (P.n + 1) (row (Hd P S') l (P.F (S.b i)))) := Int.mul_left_comm ..
  rw [z2, z, ← sm_mul, sm_first]
  congr 1
  · have e := g.self (j := 0) (l := l) (by omega) hl
    rw [Hd_zero] at e ⊢
    rw [Int.mul_left_comm, e]
    by_cases c : l = 0
    · subst c; simp
    · rw [if_neg c, if_neg (Ne.symm c), Int.mul_zero]
  · refine sm_congr fun j hj => ?_
    rw [Hd_succ, Int.mul_left_comm]
    rfl
def isH (P : Pb) (S : St) (v : Int) : Prop := ∃ k, k < P.n ∧ S.h k = v
def isB (P : Pb) (S : St) (v : Int) : Prop := ∃ i, i < P.m ∧ S.b i = v
theorem OK.not (o : OK P S) {v : Int} (h : isH P S v) (b : isB P S v) : False := by
  obtain ⟨k, hk, e⟩ := h
  obtain ⟨i, hi, f⟩ := b
  exact o.bh i k hi hk (f.trans e.symm)
/-- what is free or behind k and stands above in the one stands above in the other -/
def Fx (P : Pb) (S S' : St) (k : Int) : Prop := ∀ v : Int, (v < P.n ∨ k < v) → isH P S v → isH P S' v
def Feas (P : Pb) (S : St) (k : Int) : Prop := ∀ i, i < P.m → (P.n : Int) ≤ S.b i → S.b i < k → 0 ≤ S.R i 0
def Dual (P : Pb) (S : St) (k : Int) : Prop := ∀ j, j < P.n → (P.n : Int) ≤ S.h j → S.h j < k → S.R (P.m - 1) (j + 1) ≤ 0
def LvC (P : Pb) (S : St) (k : Int) : Prop := (∃ i, i < P.m ∧ S.b i = k ∧ S.R i 0 < 0) ∧ Feas P S k
def LvD (P : Pb) (S : St) (k : Int) : Prop := ∃ j, j < P.n ∧ ((P.n : Int) ≤ S.h j ∧ S.h j < k) ∧ 0 < S.R (P.m - 1) (j + 1) ∧ (∃ i, i < P.m ∧ S.b i = k ∧ S.R i (j + 1) < 0) ∧ ∀ i, i < P.m → (P.n : Int) ≤ S.b i → S.b i < k → 0 ≤ S.R i (j + 1)
def EnA (P : Pb) (S : St) (k : Int) : Prop := (∃ j, j < P.n ∧ S.h j = k ∧ 0 < S.R (P.m - 1) (j + 1)) ∧ Feas P S k ∧ Dual P S k
def EnB (P : Pb) (S : St) (k : Int) : Prop := ∃ i, i < P.m ∧ ((P.n : Int) ≤ S.b i ∧ S.b i < k) ∧ S.R i 0 < 0 ∧ (∃ j, j < P.n ∧ S.h j = k ∧ 0 < S.R i (j + 1)) ∧ ∀ j, j < P.n → (P.n : Int) ≤ S.h j → S.h j < k → S.R i (j + 1) ≤ 0
/-- values of variables before k -/
theorem Feas.val {s' k v : Int} (f : Feas P S' k) (g : Sg P S' s') (h0 : (P.n : Int) ≤ v) (h1 : v < k) (h2 : isH P S' v ∨ isB P S' v) : 0 ≤ En P S' s' v 0 := by
  rcases h2 with ⟨j, hj, e⟩ | ⟨i, hi, e⟩
  · subst e
    rw [g.h hj (by omega), if_neg (by omega)]
    exact Int.le_refl _
  · subst e
    rw [g.b hi (by omega)]
    exact f i hi h0 h1
theorem Sg.zero {s' v : Int} (g : Sg P S' s') (h : isH P S' v) : En P S' s' v 0 = 0 := by
  obtain ⟨j, hj, e⟩ := h
  subst e
  rw [g.h hj (by omega), if_neg (by omega)]
theorem OK.either (o : OK P S) (o' : OK P S') {v : Int} (h : isH P S v ∨ isB P S v) : isH P S' v ∨ isB P S' v := by
  have r : -1 ≤ v ∧ v < (P.n : Int) + P.m - 1 := by
    rcases h with ⟨j, hj, e⟩ | ⟨i, hi, e⟩
    · rw [← e]; exact o.rh j hj
    · rw [← e]; exact o.rb i hi
  rcases o'.all v r.1 r.2 with z | z
  · exact .inr z
  · exact .inl z
theorem con_BC {k : Int} (o : OK P S) (o' : OK P S') (fx : Fx P S S' k) (hE : EnB P S k) (hL : LvC P S' k) : False := by
  obtain ⟨s', g⟩ := o'.sg
  obtain ⟨i, hi, ⟨b1, b2⟩, r0, ⟨q, hq, hqk, rq⟩, rj⟩ := hE
  obtain ⟨⟨i', hi', bk, rk⟩, fe⟩ := hL
  have c := chg o g hi (l := 0) (by omega)
  rw [if_pos rfl] at c
  have l0 : 0 ≤ En P S' s' (S.b i) 0 := fe.val g b1 b2 (o.either o' (.inr ⟨i, hi, rfl⟩))
  have l1 : 0 ≤ S.D * En P S' s' (S.b i) 0 := Int.mul_nonneg (by have := o.pos; omega) l0
  have l2 : S.R i 0 * S'.D < 0 := Int.mul_neg_of_neg_of_pos r0 o'.pos
  have l3 : sm P.n (fun j => S.R i (j + 1) * En P S' s' (S.h j) 0) ≤ 0 := sm_nonpos fun j hj => by
    by_cases c1 : S.h j = k
    · have : j = q := o.hi j q hj hq (c1.trans hqk.symm)
      subst this
      rw [c1, ← bk, g.b hi' (by omega)]
      exact Int.le_of_lt (Int.mul_neg_of_pos_of_neg rq rk)
    · by_cases c2 : S.h j < P.n ∨ k < S.h j
      · rw [g.zero (fx _ c2 ⟨j, hj, rfl⟩), Int.mul_zero]
        exact Int.le_refl _
      · have n1 : (P.n : Int) ≤ S.h j := by omega
        have n2 : S.h j < k := by omega
        exact Int.mul_nonpos_of_nonpos_of_nonneg (rj j hj n1 n2) (fe.val g n1 n2 (o.either o' (.inl ⟨j, hj, rfl⟩)))
  omega
theorem con_AC {k : Int} (hm : 0 < P.m) (w : S.b (P.m - 1) = -1) (w' : S'.b (P.m - 1) = -1) (o : OK P S) (o' : OK P S') (fx : Fx P S S' k) (fx' : Fx P S' S k) (hE : EnA P S k) (hL : LvC P S' k) (hD : Dual P S' k) : False := by
  obtain ⟨s', g⟩ := o'.sg
  obtain ⟨s, g0⟩ := o.sg
  obtain ⟨⟨q, hq, hqk, rq⟩, fe0, du0⟩ := hE
  obtain ⟨⟨i', hi', bk, rk⟩, fe⟩ := hL
  have hw : P.m - 1 < P.m := by omega
  have c := chg o g hw (l := 0) (by omega)
  rw [if_pos rfl, w, ← w', g.b hw (by omega)] at c
  have l3 : sm P.n (fun j => S.R (P.m - 1) (j + 1) * En P S' s' (S.h j) 0) < 0 := by
    refine sm_neg1 hq (fun j hj => ?_) ?_
    · by_cases c1 : S.h j = k
      · have : j = q := o.hi j q hj hq (c1.trans hqk.symm)
        subst this
        rw [c1, ← bk, g.b hi' (by omega)]
        exact Int.le_of_lt (Int.mul_neg_of_pos_of_neg rq rk)
      · by_cases c2 : S.h j < P.n ∨ k < S.h j
        · rw [g.zero (fx _ c2 ⟨j, hj, rfl⟩), Int.mul_zero]
          exact Int.le_refl _
        · have n1 : (P.n : Int) ≤ S.h j := by omega
          have n2 : S.h j < k := by omega
          exact Int.mul_nonpos_of_nonpos_of_nonneg (du0 j hj n1 n2) (fe.val g n1 n2 (o.either o' (.inl ⟨j, hj, rfl⟩)))
    · rw [hqk, ← bk, g.b hi' (by omega)]
      exact Int.mul_neg_of_pos_of_neg rq rk
  have c' := chg o' g0 hw (l := 0) (by omega)
  rw [if_pos rfl, w', ← w, g0.b hw (by omega)] at c'
  have l4 : sm P.n (fun j => S'.R (P.m - 1) (j + 1) * En P S s (S'.h j) 0) ≤ 0 := sm_nonpos fun j hj => by
    by_cases c2 : S'.h j < P.n ∨ k < S'.h j
    · rw [g0.zero (fx' _ c2 ⟨j, hj, rfl⟩), Int.mul_zero]
      exact Int.le_refl _
    · have n1 : (P.n : Int) ≤ S'.h j := by omega
      have n3 : S'.h j ≠ k := fun e => o'.not ⟨j, hj, e⟩ ⟨i', hi', bk⟩
      have n2 : S'.h j < k := by omega
      exact Int.mul_nonpos_of_nonpos_of_nonneg (hD j hj n1 n2) (fe0.val g0 n1 n2 (o'.either o (.inl ⟨j, hj, rfl⟩)))
  have e1 : S.D * S'.R (P.m - 1) 0 = S'.R (P.m - 1) 0 * S.D := Int.mul_comm ..
  have e2 : S'.D * S.R (P.m - 1) 0 = S.R (P.m - 1) 0 * S'.D := Int.mul_comm ..
  omega
/-- entries in the column j0 of a table from which k leaves -/
theorem colD {s' k v : Int} {j0 : Nat} (g : Sg P S' s') (hj0 : j0 < P.n) (hc : ∀ i, i < P.m → (P.n : Int) ≤ S'.b i → S'.b i < k → 0 ≤ S'.R i (j0 + 1)) (h0 : (P.n : Int) ≤ v) (h1 : v < k) (h2 : isH P S' v ∨ isB P S' v) : 0 ≤ En P S' s' v (j0 + 1) := by
  rcases h2 with ⟨j, hj, e⟩ | ⟨i, hi, e⟩
  · subst e
    rw [g.h hj (by omega)]
    split
    · have := g.o.pos; omega
    · exact Int.le_refl _
  · subst e
    rw [g.b hi (by omega)]
    exact hc i hi h0 h1
theorem colZ {s' v : Int} {j0 : Nat} (g : Sg P S' s') (hj0 : j0 < P.n) (h : isH P S' v) (ne : v ≠ S'.h j0) : En P S' s' v (j0 + 1) = 0 := by
  obtain ⟨j, hj, e⟩ := h
  subst e
  rw [g.h hj (by omega), if_neg]
  intro z
  apply ne
  have : j = j0 := by omega
  rw [this]
theorem con_AD {k : Int} (hm : 0 < P.m) (w : S.b (P.m - 1) = -1) (w' : S'.b (P.m - 1) = -1) (o : OK P S) (o' : OK P S') (fx : Fx P S S' k) (hE : EnA P S k) (hL : LvD P S' k) : False := by
  obtain ⟨s', g⟩ := o'.sg
  obtain ⟨⟨q, hq, hqk, rq⟩, fe0, du0⟩ := hE
  obtain ⟨j0, hj0, ⟨a1, a2⟩, p0, ⟨i', hi', bk, rk⟩, hc⟩ := hL
  have hw : P.m - 1 < P.m := by omega
  have c := chg o g hw (l := j0 + 1) (by omega)
  rw [if_neg (by omega), w, ← w', g.b hw (by omega)] at c
  have l1 : 0 < S.D * S'.R (P.m - 1) (j0 + 1) := Int.mul_pos o.pos p0
  have l3 : sm P.n (fun j => S.R (P.m - 1) (j + 1) * En P S' s' (S.h j) (j0 + 1)) ≤ 0 := sm_nonpos fun j hj => by
    by_cases c1 : S.h j = k
    · have : j = q := o.hi j q hj hq (c1.trans hqk.symm)
      subst this
      rw [c1, ← bk, g.b hi' (by omega)]
      exact Int.le_of_lt (Int.mul_neg_of_pos_of_neg rq rk)
    · by_cases c2 : S.h j < P.n ∨ k < S.h j
      · rw [colZ g hj0 (fx _ c2 ⟨j, hj, rfl⟩) (by omega), Int.mul_zero]
        exact Int.le_refl _
      · have n1 : (P.n : Int) ≤ S.h j := by omega
        have n2 : S.h j < k := by omega
        exact Int.mul_nonpos_of_nonpos_of_nonneg (du0 j hj n1 n2) (colD g hj0 hc n1 n2 (o.either o' (.inl ⟨j, hj, rfl⟩)))
  omega
theorem con_BD {k : Int} (o : OK P S) (o' : OK P S') (fx : Fx P S S' k) (hE : EnB P S k) (hL : LvD P S' k) : False := by
  obtain ⟨s', g⟩ := o'.sg
  obtain ⟨i, hi, ⟨b1, b2⟩, r0, ⟨q, hq, hqk, rq⟩, rj⟩ := hE
  obtain ⟨j0, hj0, ⟨a1, a2⟩, p0, ⟨i', hi', bk, rk⟩, hc⟩ := hL
  have c := chg o g hi (l := j0 + 1) (by omega)
  rw [if_neg (by omega)] at c
  have l0 : 0 ≤ En P S' s' (S.b i) (j0 + 1) := colD g hj0 hc b1 b2 (o.either o' (.inr ⟨i, hi, rfl⟩))
  have l1 : 0 ≤ S.D * En P S' s' (S.b i) (j0 + 1) := Int.mul_nonneg (by have := o.pos; omega) l0
  have l3 : sm P.n (fun j => S.R i (j + 1) * En P S' s' (S.h j) (j0 + 1)) < 0 := by
    refine sm_neg1 hq (fun j hj => ?_) ?_
    · by_cases c1 : S.h j = k
      · have : j = q := o.hi j q hj hq (c1.trans hqk.symm)
        subst this
        rw [c1, ← bk, g.b hi' (by omega)]
        exact Int.le_of_lt (Int.mul_neg_of_pos_of_neg rq rk)
      · by_cases c2 : S.h j < P.n ∨ k < S.h j
        · rw [colZ g hj0 (fx _ c2 ⟨j, hj, rfl⟩) (by omega), Int.mul_zero]
          exact Int.le_refl _
        · have n1 : (P.n : Int) ≤ S.h j := by omega
          have n2 : S.h j < k := by omega
          exact Int.mul_nonpos_of_nonpos_of_nonneg (rj j hj n1 n2) (colD g hj0 hc n1 n2 (o.either o' (.inl ⟨j, hj, rfl⟩)))
    · rw [hqk, ← bk, g.b hi' (by omega)]
      exact Int.mul_neg_of_pos_of_neg rq rk
  omega
/-! ### the measure -/
def phi (c : Nat → Bool) : Nat → Nat
  | 0 => 0
  | m + 1 => phi c m + (if c m = true then 2 ^ m else 0)
theorem phi_lt {c : Nat → Bool} : ∀ m, phi c m < 2 ^ m
  | 0 => by simp [phi]
  | m + 1 => by
    have := phi_lt (c := c) m
    simp only [phi, Nat.pow_succ]
    split <;> omega
theorem phi_dec {c c' : Nat → Bool} {q : Nat} (h1 : c q = true) (h2 : c' q = false) (h3 : ∀ t, q < t → c' t = c t) : ∀ {m : Nat}, q < m → phi c' m < phi c m
  | 0, h => by omega
  | m + 1, h => by
    simp only [phi]
    by_cases e : q = m
    · subst e
      rw [h1, h2]
      have := phi_lt (c := c') q
      simp
      omega
    · have := phi_dec (c := c) (c' := c') h1 h2 h3 (m := m) (by omega)
      rw [h3 m (by omega)]
      omega
/-- of each variable that is not open any more a table is kept at which it moved, and since which none behind it moved -/
def Tr (P : Pb) (EN LV : St → Int → Prop) (S : St) (c : Nat → Bool) : Prop := ∀ t, t < P.m - 1 → c t = false → ∃ S0, OK P S0 ∧ S0.b (P.m - 1) = -1 ∧ Fx P S0 S (P.n + t) ∧ Fx P S S0 (P.n + t) ∧
  ((EN S0 (P.n + t) ∧ isB P S (P.n + t)) ∨ (LV S0 (P.n + t) ∧ isH P S (P.n + t)))
theorem Tr.start {EN LV : St → Int → Prop} : Tr P EN LV S fun _ => true := fun _ _ h => by cases h
theorem Piv.isH_of {p k : Nat} (v : Piv P S p k S') {x : Int} (n1 : x ≠ S.h k) (h : isH P S x) : isH P S' x := by
  obtain ⟨j, hj, e⟩ := h
  have : j ≠ k := by intro z; subst z; exact n1 e.symm
  exact ⟨j, hj, by rw [v.h j this]; exact e⟩
theorem Piv.isH_to {p k : Nat} (v : Piv P S p k S') {x : Int} (n1 : x ≠ S.b p) (h : isH P S' x) : isH P S x := by
  obtain ⟨j, hj, e⟩ := h
  have : j ≠ k := by intro z; subst z; rw [v.hk'] at e; exact n1 e.symm
  exact ⟨j, hj, by rw [← v.h j this]; exact e⟩
theorem Piv.isB_of {p k : Nat} (v : Piv P S p k S') {x : Int} (n1 : x ≠ S.b p) (h : isB P S x) : isB P S' x := by
  obtain ⟨j, hj, e⟩ := h
  have : j ≠ p := by intro z; subst z; exact n1 e.symm
  exact ⟨j, hj, by rw [v.b j this]; exact e⟩
theorem Tr.step {EN LV : St → Int → Prop} {c : Nat → Bool} (con : ∀ (S S' : St) (k : Int), OK P S → OK P S' → S.b (P.m - 1) = -1 → S'.b (P.m - 1) = -1 → Fx P S S' k → Fx P S' S k → EN S k → LV S' k → False)
    (o : OK P S) (w : S.b (P.m - 1) = -1) (tr : Tr P EN LV S c) {p k : Nat} (v : Piv P S p k S1) (hp : (P.n : Int) ≤ S.b p) (hk : (P.n : Int) ≤ S.h k)
    (mv : (S.b p < S.h k ∧ EN S (S.h k)) ∨ (S.h k < S.b p ∧ LV S (S.b p))) : ∃ c', phi c' (P.m - 1) < phi c (P.m - 1) ∧ Tr P EN LV S1 c' := by
  -- the greater one
  have mx : ∃ q : Nat, q < P.m - 1 ∧ S.b p ≤ P.n + q ∧ S.h k ≤ P.n + q ∧ ((EN S (P.n + q) ∧ isH P S (P.n + q) ∧ isB P S1 (P.n + q)) ∨ (LV S (P.n + q) ∧ isB P S (P.n + q) ∧ isH P S1 (P.n + q))) := by
    have r1 := o.rb p v.hp
    have r2 := o.rh k v.hk
    rcases mv with ⟨lt, e⟩ | ⟨lt, e⟩
    · refine ⟨(S.h k - P.n).toNat, by omega, by omega, by omega, .inl ?_⟩
      have x : (P.n : Int) + ((S.h k - P.n).toNat : Nat) = S.h k := by omega
      rw [x]
      exact ⟨e, ⟨k, v.hk, rfl⟩, ⟨p, v.hp, v.bp⟩⟩
    · refine ⟨(S.b p - P.n).toNat, by omega, by omega, by omega, .inr ?_⟩
      have x : (P.n : Int) + ((S.b p - P.n).toNat : Nat) = S.b p := by omega
      rw [x]
      exact ⟨e, ⟨p, v.hp, rfl⟩, ⟨k, v.hk, v.hk'⟩⟩
  obtain ⟨q, hq, m1, m2, mv⟩ := mx
  have cq : c q = true := by
    cases e : c q with
    | true => rfl
    | false =>
      exfalso
      obtain ⟨S0, o0, w0, f1, f2, z⟩ := tr q hq e
      rcases mv with ⟨en, hh, _⟩ | ⟨lv, bb, _⟩
      · rcases z with ⟨_, b⟩ | ⟨l, _⟩
        · exact o.not hh b
        · exact con S S0 _ o o0 w w0 f2 f1 en l
      · rcases z with ⟨en, _⟩ | ⟨_, h⟩
        · exact con S0 S _ o0 o w0 w f1 f2 en lv
        · exact o.not h bb
  refine ⟨fun t => if t = q then false else if t < q then true else c t, phi_dec cq (by simp) (fun t ht => by rw [if_neg (by omega), if_neg (by omega)]) hq, ?_⟩
  intro t ht h
  by_cases e1 : t = q
  · subst e1
    refine ⟨S, o, w, fun x hx hh => v.isH_of (by omega) hh, fun x hx hh => v.isH_to (by omega) hh, ?_⟩
    rcases mv with ⟨en, _, b⟩ | ⟨lv, _, h⟩
    · exact .inl ⟨en, b⟩
    · exact .inr ⟨lv, h⟩
  · simp only [if_neg e1] at h
    by_cases e2 : t < q
    · simp [e2] at h
    · simp only [if_neg e2] at h
      obtain ⟨S0, o0, w0, f1, f2, z⟩ := tr t ht h
      refine ⟨S0, o0, w0, fun x hx hh => v.isH_of (by omega) (f1 x hx hh), fun x hx hh => f2 x hx (v.isH_to (by omega) hh), ?_⟩
      rcases z with ⟨en, b⟩ | ⟨lv, h⟩
      · exact .inl ⟨en, v.isB_of (by omega) b⟩
      · exact .inr ⟨lv, v.isH_of (by omega) h⟩
/-- the first part of the way -/
theorem con1 (S S' : St) (k : Int) (o : OK P S) (o' : OK P S') (_ : S.b (P.m - 1) = -1) (_ : S'.b (P.m - 1) = -1) (f : Fx P S S' k) (_ : Fx P S' S k) (e : EnB P S k) (l : LvC P S' k) : False := con_BC o o' f e l
/-- the second part -/
theorem con2 (hm : 0 < P.m) (S S' : St) (k : Int) (o : OK P S) (o' : OK P S') (w : S.b (P.m - 1) = -1) (w' : S'.b (P.m - 1) = -1) (f : Fx P S S' k) (f' : Fx P S' S k) (e : EnA P S k ∨ EnB P S k) (l : (LvC P S' k ∧ Dual P S' k) ∨ LvD P S' k) : False := by
  rcases e with e | e <;> rcases l with l | l
  · exact con_AC hm w w' o o' f f' e l.1 l.2
  · exact con_AD hm w w' o o' f e l
  · exact con_BC o o' f e l.1
  · exact con_BD o o' f e l
end Lm
end
section
set_option Elab.async false
set_option linter.all false
set_option maxRecDepth 100000
set_option maxHeartbeats 1000000
/-! tables as lists -/
namespace Lm
structure Tb where
  rows : List (List Int)
  base : List Int
  heads : List Int
  D : Int
namespace Tb
def R (T : Tb) (i l : Nat) : Int := (T.rows.getD i []).getD l 0
def st (T : Tb) : St := ⟨T.R, fun i => T.base.getD i 0, fun k => T.heads.getD k 0, T.D⟩
structure Wf (n m : Nat) (T : Tb) : Prop where
  rl : T.rows.length = m
  cl : ∀ r ∈ T.rows, r.length = n + 1
  bl : T.base.length = m
  hl : T.heads.length = n
def exR (T : Tb) (p k i : Nat) : List Int :=
  if i = p then ((T.rows.getD i []).map fun x => -x).set (k + 1) T.D
  else (((T.rows.getD i []).zip (T.rows.getD p [])).map fun x => (T.R p (k + 1) * x.1 - T.R i (k + 1) * x.2) / T.D).set (k + 1) (T.R i (k + 1))
def exRows (T : Tb) (p k : Nat) : List (List Int) := (List.range T.rows.length).map (T.exR p k)
def ng (t : Int) (rows : List (List Int)) : List (List Int) := if t < 0 then rows.map fun r => r.map fun x => -x else rows
def ex (T : Tb) (p k : Nat) : Tb := ⟨ng (T.R p (k + 1)) (T.exRows p k), T.base.set p (T.heads.getD k 0), T.heads.set k (T.base.getD p 0), (T.R p (k + 1)).natAbs⟩
theorem Wf.row {n m : Nat} {T : Tb} (w : Wf n m T) {i : Nat} (hi : i < m) : ∃ r, T.rows[i]? = some r ∧ T.rows.getD i [] = r ∧ r.length = n + 1 := by
  have h : i < T.rows.length := by rw [w.rl]; exact hi
  refine ⟨T.rows[i], List.getElem?_eq_getElem h, by simp [List.getD, h], w.cl _ (List.getElem_mem h)⟩
theorem getD_map {f : Int → Int} {r : List Int} {l : Nat} (h : l < r.length) : (r.map f).getD l 0 = f (r.getD l 0) := by
  simp [List.getD, h]
theorem getD_set {r : List Int} {k l : Nat} {x : Int} (h : l < r.length) : (r.set k x).getD l 0 = if l = k then x else r.getD l 0 := by
  simp only [List.getD, List.getElem?_set]
  by_cases e : l = k
  · subst e; simp [h]
  · rw [if_neg (Ne.symm e), if_neg e]
theorem getD_zip {f : Int × Int → Int} {r s : List Int} {l : Nat} (h : l < r.length) (h2 : l < s.length) : ((r.zip s).map f).getD l 0 = f (r.getD l 0, s.getD l 0) := by
  have h3 : l < ((r.zip s).map f).length := by simp; omega
  simp only [List.getD, List.getElem?_eq_getElem h3, List.getElem?_eq_getElem h, List.getElem?_eq_getElem h2, Option.getD_some, List.getElem_map, List.getElem_zip]
theorem exR_len {n m : Nat} {T : Tb} (w : Wf n m T) {p k i : Nat} (hp : p < m) (hi : i < m) : (T.exR p k i).length = n + 1 := by
  obtain ⟨r, _, e2, e3⟩ := w.row hi
  obtain ⟨s, _, f2, f3⟩ := w.row hp
  unfold exR
  split
  · rw [List.length_set, List.length_map, e2, e3]
  · rw [List.length_set, List.length_map, List.length_zip, e2, f2, e3, f3, Nat.min_self]
theorem exR_at {n m : Nat} {T : Tb} (w : Wf n m T) {p k i l : Nat} (hp : p < m) (hi : i < m) (hl : l < n + 1) : (T.exR p k i).getD l 0 =
    if i = p then (if l = k + 1 then T.D else - T.R p l) else if l = k + 1 then T.R i (k + 1) else (T.R p (k + 1) * T.R i l - T.R i (k + 1) * T.R p l) / T.D := by
  obtain ⟨r, _, e2, e3⟩ := w.row hi
  obtain ⟨s, _, f2, f3⟩ := w.row hp
  unfold exR
  by_cases e : i = p
  · rw [if_pos e, if_pos e, e2, getD_set (by rw [List.length_map, e3]; exact hl)]
    split
    · rfl
    · rw [getD_map (by rw [e3]; exact hl)]
      unfold R
      rw [← e, e2]
  · rw [if_neg e, if_neg e, e2, f2, getD_set (by rw [List.length_map, List.length_zip, e3, f3, Nat.min_self]; exact hl)]
    split
    · rfl
    · rw [getD_zip (by rw [e3]; exact hl) (by rw [f3]; exact hl)]
      unfold R
      rw [e2, f2]
theorem exRows_get {T : Tb} {p k i : Nat} (hi : i < T.rows.length) : (T.exRows p k)[i]? = some (T.exR p k i) := by
  unfold exRows
  rw [List.getElem?_map, List.getElem?_range hi]
  rfl
theorem ng_get {t : Int} {rows : List (List Int)} {i l : Nat} {r : List Int} (h : rows[i]? = some r) (hl : l < r.length) : ((ng t rows).getD i []).getD l 0 = sgn t * r.getD l 0 := by
  unfold ng sgn
  split
  · simp only [List.getD, List.getElem?_map, h, Option.map_some, Option.getD_some, List.getElem?_eq_getElem hl]
    omega
  · simp only [List.getD, h, Option.getD_some]
    omega
theorem ex_wf {n m : Nat} {T : Tb} (w : Wf n m T) {p k : Nat} (hp : p < m) : Wf n m (T.ex p k) := by
  have e1 : ∀ r ∈ T.exRows p k, r.length = n + 1 := by
    intro r h
    unfold exRows at h
    obtain ⟨i, hi, e⟩ := List.mem_map.mp h
    rw [← e]
    exact exR_len w hp (by have := List.mem_range.mp hi; rw [w.rl] at this; exact this)
  have e2 : (T.exRows p k).length = m := by unfold exRows; rw [List.length_map, List.length_range, w.rl]
  refine ⟨?_, ?_, ?_, ?_⟩
  · show (ng _ _).length = m
    unfold ng
    split
    · rw [List.length_map, e2]
    · exact e2
  · show ∀ r ∈ ng _ _, r.length = n + 1
    unfold ng
    split
    · intro r h
      obtain ⟨s, hs, e⟩ := List.mem_map.mp h
      rw [← e, List.length_map]
      exact e1 s hs
    · exact e1
  · show (T.base.set _ _).length = m
    rw [List.length_set, w.bl]
  · show (T.heads.set _ _).length = n
    rw [List.length_set, w.hl]
theorem ex_piv {P : Pb} {T : Tb} (w : Wf P.n P.m T) {p k : Nat} (hp : p < P.m) (hk : k < P.n) (ne : T.R p (k + 1) ≠ 0) : Piv P T.st p k (T.ex p k).st := by
  refine ⟨hp, hk, ne, rfl, ?_, ?_, ?_, ?_, ?_⟩
  · show (T.base.set p (T.heads.getD k 0)).getD p 0 = _
    rw [getD_set (by rw [w.bl]; exact hp), if_pos rfl]
    rfl
  · show (T.heads.set k (T.base.getD p 0)).getD k 0 = _
    rw [getD_set (by rw [w.hl]; exact hk), if_pos rfl]
    rfl
  · intro i ne
    show (T.base.set p (T.heads.getD k 0)).getD i 0 = T.base.getD i 0
    simp only [List.getD, List.getElem?_set]
    rw [if_neg (Ne.symm ne)]
  · intro i ne
    show (T.heads.set k (T.base.getD p 0)).getD i 0 = T.heads.getD i 0
    simp only [List.getD, List.getElem?_set]
    rw [if_neg (Ne.symm ne)]
  · intro i l hi hl
    show ((ng _ (T.exRows p k)).getD i []).getD l 0 = _
    rw [ng_get (exRows_get (by rw [w.rl]; exact hi)) (by rw [exR_len w hp hi]; exact hl), exR_at w hp hi hl]
    rfl
end Tb
/-! ### sizes -/
variable {P : Pb} {S S' : St}
def FB (P : Pb) (B : Nat) : Prop := ∀ v c, c < P.n + 1 → (P.F v c).natAbs ≤ B
theorem un_le {k c B : Nat} (h : 1 ≤ B) : (un k c).natAbs ≤ B := by unfold un; split <;> simp <;> omega
theorem Hd_le {B : Nat} (hB : 1 ≤ B) (f : FB P B) {l c : Nat} (hc : c < P.n + 1) : (Hd P S l c).natAbs ≤ B := by
  unfold Hd
  split
  · exact un_le hB
  · exact f _ c hc
theorem OK.bd {B : Nat} (o : OK P S) (hB : 1 ≤ B) (f : FB P B) {i l : Nat} (hi : i < P.m) (hl : l < P.n + 1) : (S.R i l).natAbs ≤ fac (P.n + 1) * B ^ (P.n + 1) := by
  obtain ⟨s, hs, hd⟩ := o.dt
  rw [o.ent hs hd hi hl, Int.natAbs_mul, show s.natAbs = 1 by rcases hs with e | e <;> rw [e] <;> rfl, Nat.one_mul]
  refine det_bd fun r c hr hc => ?_
  unfold row
  split
  · exact f _ c hc
  · exact Hd_le hB f hc
theorem OK.bdD {B : Nat} (o : OK P S) (hB : 1 ≤ B) (f : FB P B) : (S.D).natAbs ≤ fac (P.n + 1) * B ^ (P.n + 1) := by
  obtain ⟨s, hs, hd⟩ := o.dt
  have e : S.D.natAbs = (det (P.n + 1) (Hd P S)).natAbs := by
    rw [hd, Int.natAbs_mul, show s.natAbs = 1 by rcases hs with e | e <;> rw [e] <;> rfl, Nat.one_mul]
  rw [e]
  exact det_bd fun r c hr hc => Hd_le hB f hc
theorem fac_le : ∀ {n : Nat}, n ≤ 15 → fac n ≤ 2 ^ 45
  | n, h => by
    have : n = 0 ∨ n = 1 ∨ n = 2 ∨ n = 3 ∨ n = 4 ∨ n = 5 ∨ n = 6 ∨ n = 7 ∨ n = 8 ∨ n = 9 ∨ n = 10 ∨ n = 11 ∨ n = 12 ∨ n = 13 ∨ n = 14 ∨ n = 15 := by omega
    rcases this with e | e | e | e | e | e | e | e | e | e | e | e | e | e | e | e <;> subst e <;> decide
theorem bd_pow {n : Nat} (h : n ≤ 14) : fac (n + 1) * (2 ^ 32) ^ (n + 1) ≤ 2 ^ 525 := by
  have h1 := fac_le (n := n + 1) (by omega)
  have h2 : (2 ^ 32) ^ (n + 1) ≤ 2 ^ 480 := by
    rw [← Nat.pow_mul]
    exact Nat.pow_le_pow_right (by decide) (by omega)
  have := Nat.mul_le_mul h1 h2
  rwa [← Nat.pow_add] at this
end Lm
end
section
set_option Elab.async false
set_option linter.all false
set_option maxRecDepth 100000
set_option maxHeartbeats 1000000
/-! a table in the slim heap -/
namespace Lb
open PySem Ri.Z Lm
open Ri (Cl W O Hw hset hdel En KW XW Calls Bop Cop Kd Blt Met ItK Tg Ex Sm Df slot put clr clrs bindT bindTs vw toD toDs lim MulOk rep binW eqD eqW flatW eqF inW cmpW isNon atW cutL slW revW kdW isiOk intsOf prsOf blsOf strsOf leP rngW bltW metTy metW fmtV enmW zipW seqW itrW itrV itsOf fldW isCls frzW delW isEnd initOf nmOf lcL lcL2 wpE wpEs wpJ Dn puts setW atLI augW storeF lstAt isLoL insAt handle forL whlP wpS wpSs wpHs start wpF callD)
theorem vw_lW {h : Hw} {f : List Int} : vw h (lW f) = lW f := rfl
theorem iv_lW {h : Hw} {f : List Int} {P : W → Prop} : itrV h .seq [lW f] P = P (.lst (f.map .int)) := rfl
theorem bl_fW {f : List Int} {P : W → Prop} : bltW .list [fW f] P = P (lW f) := rfl
theorem bl_lW {f : List Int} {P : W → Prop} : bltW .list [lW f] P = P (lW f) := rfl
theorem bt_lW {f : List Int} {P : W → Prop} : bltW .tuple [lW f] P = P (fW f) := rfl
theorem ln_lW {f : List Int} {P : W → Prop} : bltW .len [lW f] P = P (.int f.length) := by simp [bltW, lW, iws]
theorem at_lW {f : List Int} {i : Int} {j : Nat} {K : W → Prop} (e : i = (j : Nat)) (hj : j < f.length) : atW (lW f) (.int i) K = K (.int (f.getD j 0)) := by
  subst e
  refine at_ln ?_
  rw [iws_get, List.getElem?_eq_getElem hj]
  simp [List.getD, hj]
theorem zip_lW {r s : List Int} : zipW (iws r) (iws s) = (r.zip s).map fun x => .tup [.int x.1, .int x.2] := by
  induction r generalizing s with
  | nil => simp [iws, zipW]
  | cons a r ih =>
    cases s with
    | nil => simp [iws, zipW]
    | cons b s =>
      have := ih (s := s)
      simp only [iws] at this
      simp [iws, zipW, this]
theorem iv_zipL {h : Hw} {r s : List Int} {P : W → Prop} : itrV h .zip [lW r, lW s] P = P (.lst ((r.zip s).map fun x => .tup [.int x.1, .int x.2])) := by
  rw [← zip_lW]
  rfl
theorem fld_at {h : Hw} {t : Addr} {c : Cl} {ws : List W} {k : Nat} (e : h t = some (.ins c ws)) : fldW h c k (.loc t) = ws[k]? := by simp [fldW, e]
theorem cls_at {h : Hw} {t : Addr} {c : Cl} {ws : List W} (e : h t = some (.ins c ws)) : isCls h c (.loc t) = true := by simp [isCls, e]
theorem st_old {h : Hw} {a : Addr} {c : Cl} {k : Nat} {ws : List W} {v : W} {P : Hw → Prop} (e : h a = some (.ins c ws)) (hk : k < ws.length) : storeF h c k (.loc a) v P = P (hset h a (.ins c (ws.set k v))) := by
  simp only [storeF, e, true_and, hk, if_true]
def tbW (n : Nat) (T : Tb) (b c : Addr) : List W := [.int n, .lst (T.rows.map lW), .loc b, .loc c, .int T.D]
structure TW (t b c : Addr) (n : Nat) (T : Tb) (h : Hw) : Prop where
  tb : t ≠ b
  tc : t ≠ c
  bc : b ≠ c
  ht : h t = some (.ins .table (tbW n T b c))
  hb : h b = some (.lst (iws T.base))
  hc : h c = some (.lst (iws T.heads))
/-- all but three places -/
def Fr3 (t b c : Addr) (h h' : Hw) : Prop := ∀ x, x ≠ t → x ≠ b → x ≠ c → h' x = h x
section
variable {t b c : Addr} {n : Nat} {T : Tb} {h : Hw}
theorem TW.f0 (w : TW t b c n T h) : fldW h .table 0 (.loc t) = some (.int n) := fld_at w.ht
theorem TW.f1 (w : TW t b c n T h) : fldW h .table 1 (.loc t) = some (.lst (T.rows.map lW)) := fld_at w.ht
theorem TW.f2 (w : TW t b c n T h) : fldW h .table 2 (.loc t) = some (.loc b) := fld_at w.ht
theorem TW.f3 (w : TW t b c n T h) : fldW h .table 3 (.loc t) = some (.loc c) := fld_at w.ht
theorem TW.f4 (w : TW t b c n T h) : fldW h .table 4 (.loc t) = some (.int T.D) := fld_at w.ht
theorem TW.vb (w : TW t b c n T h) : vw h (.loc b) = .lst (iws T.base) := vw_loc w.hb
theorem TW.vc (w : TW t b c n T h) : vw h (.loc c) = .lst (iws T.heads) := vw_loc w.hc
theorem TW.new (w : TW t b c n T h) {x : Addr} {o : O} (e : h x = none) : TW t b c n T (hset h x o) := by
  have n1 : t ≠ x := by intro z; subst z; rw [w.ht] at e; cases e
  have n2 : b ≠ x := by intro z; subst z; rw [w.hb] at e; cases e
  have n3 : c ≠ x := by intro z; subst z; rw [w.hc] at e; cases e
  exact ⟨w.tb, w.tc, w.bc, by rw [hset_ne n1]; exact w.ht, by rw [hset_ne n2]; exact w.hb, by rw [hset_ne n3]; exact w.hc⟩
theorem TW.put (w : TW t b c n T h) {x : Addr} {o : O} (n1 : x ≠ t) (n2 : x ≠ b) (n3 : x ≠ c) : TW t b c n T (hset h x o) :=
  ⟨w.tb, w.tc, w.bc, by rw [hset_ne (Ne.symm n1)]; exact w.ht, by rw [hset_ne (Ne.symm n2)]; exact w.hb, by rw [hset_ne (Ne.symm n3)]; exact w.hc⟩
theorem TW.none (w : TW t b c n T h) {x : Addr} (e : h x = Option.none) : x ≠ t ∧ x ≠ b ∧ x ≠ c := by
  refine ⟨?_, ?_, ?_⟩ <;> intro z <;> subst z
  · rw [w.ht] at e; cases e
  · rw [w.hb] at e; cases e
  · rw [w.hc] at e; cases e
end
theorem rows_get {rows : List (List Int)} {i : Nat} {r : List Int} (e : rows[i]? = some r) : (rows.map lW)[i]? = some (lW r) := by simp [e]
theorem at_iw {xs : List Int} {i : Int} {j : Nat} {K : W → Prop} (e : i = (j : Nat)) (hj : j < xs.length) : atW (.lst (iws xs)) (.int i) K = K (.int (xs.getD j 0)) := at_lW (f := xs) e hj
theorem lW_map {f : Int → Int} {r : List Int} : W.lst (r.map fun x => .int (f x)) = lW (r.map f) := by simp [lW, iws]
theorem iws_map {f : Int → Int} {r : List Int} : (r.map fun x => W.int (f x)) = iws (r.map f) := by simp [iws]
theorem iws_mapZ {f : Int × Int → Int} {r : List (Int × Int)} : (r.map fun x => W.int (f x)) = iws (r.map f) := by simp [iws]
end Lb
end
section
set_option Elab.async false
set_option linter.all false
set_option maxRecDepth 100000
set_option maxHeartbeats 1000000
/-! what holds on the way of a solution -/
namespace Lm
variable {P : Pb}
structure Good (P : Pb) (T : Tb) : Prop where
  wf : Tb.Wf P.n P.m T
  ok : OK P T.st
  m0 : 0 < P.m
  last : T.st.b (P.m - 1) = -1
theorem Good.ex {T : Tb} (g : Good P T) {p k : Nat} (hp : p < P.m) (hk : k < P.n) (ne : T.R p (k + 1) ≠ 0) (hb : (0 : Int) ≤ T.st.b p) : Good P (T.ex p k) := by
  have v := Tb.ex_piv g.wf hp hk ne
  refine ⟨Tb.ex_wf g.wf hp, v.ok g.ok, g.m0, ?_⟩
  have : P.m - 1 ≠ p := by
    intro e
    rw [← e, g.last] at hb
    omega
  rw [v.b _ this]
  exact g.last
/-- slack rows are zero in free columns -/
def FZ (P : Pb) (T : Tb) : Prop := ∀ k, k < P.n → T.st.h k < P.n → ∀ i, i < P.m → (P.n : Int) ≤ T.st.b i → T.R i (k + 1) = 0
def BI (P : Pb) (p : Nat) (T : Tb) : Prop := Good P T ∧ (∀ k, k < p → k < P.n → T.st.h k < P.n → ∀ i, i < P.m → (P.n : Int) ≤ T.st.b i → T.R i (k + 1) = 0) ∧ ∀ k, p ≤ k → k < P.n → T.st.h k = k
theorem sgn_zero {x y : Int} (h : y = 0) : sgn x * y = 0 := by rw [h, Int.mul_zero]
/-- a zero stays a zero -/
theorem ex_zero {T : Tb} (g : Good P T) {p k k' i : Nat} (hp : p < P.m) (hk : k < P.n) (ne : T.R p (k + 1) ≠ 0) (hi : i < P.m) (hk' : k' < P.n) (n : k' ≠ k) (z1 : i ≠ p → T.R i (k' + 1) = 0) (z2 : T.R p (k' + 1) = 0) : (T.ex p k).R i (k' + 1) = 0 := by
  have v := Tb.ex_piv g.wf hp hk ne
  have e := v.R i (k' + 1) hi (by omega)
  have e : (T.ex p k).R i (k' + 1) = _ := e
  rw [e]
  apply sgn_zero
  have n2 : ¬ k' + 1 = k + 1 := by omega
  by_cases c : i = p
  · rw [if_pos c, if_neg n2]
    show - T.R p (k' + 1) = 0
    omega
  · rw [if_neg c, if_neg n2]
    show (T.R p (k + 1) * T.R i (k' + 1) - T.R i (k + 1) * T.R p (k' + 1)) / T.D = 0
    rw [z1 c, z2, Int.mul_zero, Int.mul_zero]
    simp
theorem BI.ex {T : Tb} {p i : Nat} (b : BI P p T) (hp : p < P.n) (hi : i < P.m) (hs : (P.n : Int) ≤ T.st.b i) (ne : T.R i (p + 1) ≠ 0) : BI P (p + 1) (T.ex i p) := by
  obtain ⟨g, z, h⟩ := b
  have v := Tb.ex_piv g.wf hi hp ne
  refine ⟨g.ex hi hp ne (by omega), fun k hk kn hf j hj hb => ?_, fun k hk kn => ?_⟩
  · by_cases c : k = p
    · subst c
      rw [v.hk'] at hf
      omega
    · have hf' : T.st.h k < P.n := by rw [← v.h k c]; exact hf
      have zi := z k (by omega) kn hf'
      refine ex_zero g hi hp ne hj kn c (fun jn => ?_) (zi i hi hs)
      rw [v.b j jn] at hb
      exact zi j hj hb
  · rw [v.h k (by omega)]
    exact h k (by omega) kn
theorem BI.no {T : Tb} {p : Nat} (b : BI P p T) (hz : ∀ i, i < P.m → (P.n : Int) ≤ T.st.b i → T.R i (p + 1) = 0) : BI P (p + 1) T := by
  obtain ⟨g, z, h⟩ := b
  refine ⟨g, fun k hk kn hf j hj hb => ?_, fun k hk kn => h k (by omega) kn⟩
  by_cases c : k = p
  · subst c
    exact hz j hj hb
  · exact z k (by omega) kn hf j hj hb
theorem BI.done {T : Tb} (b : BI P P.n T) : Good P T ∧ FZ P T := ⟨b.1, fun k hk hf => b.2.1 k hk hk hf⟩
theorem FZ.ex {T : Tb} (g : Good P T) (z : FZ P T) {p k : Nat} (hp : p < P.m) (hk : k < P.n) (ne : T.R p (k + 1) ≠ 0) (hs : (P.n : Int) ≤ T.st.b p) (hh : (P.n : Int) ≤ T.st.h k) : FZ P (T.ex p k) := by
  have v := Tb.ex_piv g.wf hp hk ne
  intro k' hk' hf i hi hb
  have c : k' ≠ k := by
    intro e
    subst e
    rw [v.hk'] at hf
    omega
  rw [v.h k' c] at hf
  refine ex_zero g hp hk ne hi hk' c (fun jn => ?_) (z k' hk' hf p hp hs)
  rw [v.b i jn] at hb
  exact z k' hk' hf i hi hb
/-- the table that is begun with -/
def begin_ (n : Nat) (fs : List (List Int)) (w : List Int) : Tb := ⟨fs ++ [w], (List.range fs.length).map (fun i => ((n + i : Nat) : Int)) ++ [-1], (List.range n).map fun (i : Nat) => (i : Int), 1⟩
/-- the problem -/
def prob (n : Nat) (fs : List (List Int)) (w : List Int) : Pb := ⟨n, fs.length + 1, fun v c => if v = -1 then w.getD c 0 else if v < n then un (v.toNat + 1) c else (fs.getD (v - n).toNat []).getD c 0⟩
theorem rng_getD {n k : Nat} {f : Nat → Int} (h : k < n) : ((List.range n).map f).getD k 0 = f k := by simp [List.getD, h]
theorem app_getD {xs : List Int} {y : Int} {k : Nat} : (xs ++ [y]).getD k 0 = if k < xs.length then xs.getD k 0 else if k = xs.length then y else 0 := by
  simp only [List.getD, List.getElem?_append]
  split
  · rfl
  · split
    · rename_i e; subst e; simp
    · rw [List.getElem?_eq_none (by simp; omega)]; rfl
theorem app_getR {xs : List (List Int)} {y : List Int} {k : Nat} : (xs ++ [y]).getD k [] = if k < xs.length then xs.getD k [] else if k = xs.length then y else [] := by
  simp only [List.getD, List.getElem?_append]
  split
  · rfl
  · split
    · rename_i e; subst e; simp
    · rw [List.getElem?_eq_none (by simp; omega)]; rfl
section
variable {n : Nat} {fs : List (List Int)} {w : List Int}
theorem beg_b {i : Nat} (h : i < fs.length) : (begin_ n fs w).st.b i = n + i := by
  show (_ ++ [_]).getD i 0 = _
  rw [app_getD, if_pos (by simpa using h), rng_getD h]
  omega
theorem beg_w : (begin_ n fs w).st.b fs.length = -1 := by
  show (_ ++ [_]).getD _ 0 = _
  rw [app_getD, if_neg (by simp), if_pos (by simp)]
theorem beg_h {k : Nat} (h : k < n) : (begin_ n fs w).st.h k = k := rng_getD h
theorem prob_u {l c : Nat} (h : l < n) : (prob n fs w).F ((l : Nat) : Int) c = un (l + 1) c := by
  simp only [prob]
  rw [if_neg (by omega), if_pos (by omega), Int.toNat_natCast]
theorem prob_s {i c : Nat} : (prob n fs w).F ((n : Int) + (i : Nat)) c = (fs.getD i []).getD c 0 := by
  simp only [prob]
  rw [if_neg (by omega), if_neg (by omega), show ((n : Int) + (i : Nat) - n).toNat = i by omega]
theorem prob_w {c : Nat} : (prob n fs w).F (-1) c = w.getD c 0 := by simp [prob]
theorem beg_good (hw : w.length = n + 1) (hf : ∀ f ∈ fs, f.length = n + 1) : BI (prob n fs w) 0 (begin_ n fs w) := by
  refine ⟨⟨⟨?_, ?_, ?_, ?_⟩, ⟨?_, ?_, ?_, ?_, ?_, ?_, ?_, ?_, ?_⟩, ?_, ?_⟩, fun k hk => by omega, fun k _ hk => beg_h hk⟩
  · show (fs ++ [w]).length = fs.length + 1
    simp
  · intro r m
    rcases List.mem_append.mp m with m | m
    · exact hf r m
    · rw [List.mem_singleton.mp m]; exact hw
  · show ((List.range fs.length).map _ ++ [_]).length = fs.length + 1
    simp
  · show ((List.range n).map _).length = n
    simp
  · show (0 : Int) < 1
    decide
  · intro i hi c hc
    have hi : i < fs.length + 1 := hi
    have hc : c < n + 1 := hc
    show 1 * (prob n fs w).F _ c = _
    rw [Int.one_mul]
    have hd : ∀ l, l < n + 1 → Hd (prob n fs w) (begin_ n fs w).st l c = un l c := by
      intro l hl
      cases l with
      | zero => rfl
      | succ l =>
        rw [Hd_succ, beg_h (by omega)]
        exact prob_u (by omega)
    have e1 : sm (n + 1) (fun l => (begin_ n fs w).st.R i l * Hd (prob n fs w) (begin_ n fs w).st l c) = (begin_ n fs w).st.R i c := by
      rw [sm_one (k := c) hc fun l hl ne => by rw [hd l hl]; simp [un, Ne.symm ne], hd c hc]
      simp [un]
    show _ = sm (n + 1) _
    rw [e1]
    show _ = ((fs ++ [w]).getD i []).getD c 0
    rw [app_getR]
    by_cases z : i < fs.length
    · rw [if_pos z, beg_b z]
      exact prob_s
    · have e : i = fs.length := by omega
      subst e
      rw [if_neg z, if_pos rfl, beg_w]
      exact prob_w
  · refine ⟨1, .inl rfl, ?_⟩
    show det (n + 1) _ = 1 * 1
    rw [det_congr (M' := fun r => un r) fun r c hr hc => ?_]
    · exact det_un
    · cases r with
      | zero => rfl
      | succ l =>
        rw [Hd_succ, beg_h (by omega)]
        exact prob_u (by omega)
  · intro i j hi hj e
    have hi : i < fs.length + 1 := hi
    have hj : j < fs.length + 1 := hj
    by_cases z : i < fs.length
    · by_cases y : j < fs.length
      · rw [beg_b z, beg_b y] at e; omega
      · have e2 : j = fs.length := by omega
        subst e2
        rw [beg_b z, beg_w] at e; omega
    · have e1 : i = fs.length := by omega
      subst e1
      by_cases y : j < fs.length
      · rw [beg_w, beg_b y] at e; omega
      · omega
  · intro i j hi hj e
    have hi : i < n := hi
    have hj : j < n := hj
    rw [beg_h hi, beg_h hj] at e
    omega
  · intro i j hi hj e
    have hi : i < fs.length + 1 := hi
    have hj : j < n := hj
    rw [beg_h hj] at e
    by_cases z : i < fs.length
    · rw [beg_b z] at e; omega
    · have e1 : i = fs.length := by omega
      subst e1
      rw [beg_w] at e; omega
  · intro v v1 v2
    have v2 : v < (n : Int) + ((fs.length + 1 : Nat) : Int) - 1 := v2
    by_cases z : v = -1
    · exact .inl ⟨fs.length, by show _ < fs.length + 1; omega, by rw [beg_w, z]⟩
    · by_cases y : v < n
      · exact .inr ⟨v.toNat, by show v.toNat < n; omega, by rw [beg_h (by omega)]; omega⟩
      · exact .inl ⟨(v - n).toNat, by show _ < fs.length + 1; omega, by rw [beg_b (by omega)]; omega⟩
  · intro i hi
    have hi : i < fs.length + 1 := hi
    show _ ∧ _ < (n : Int) + ((fs.length + 1 : Nat) : Int) - 1
    by_cases z : i < fs.length
    · rw [beg_b z]; omega
    · have e1 : i = fs.length := by omega
      subst e1
      rw [beg_w]; omega
  · intro k hk
    have hk : k < n := hk
    show _ ∧ _ < (n : Int) + ((fs.length + 1 : Nat) : Int) - 1
    rw [beg_h hk]; omega
  · show 0 < fs.length + 1
    omega
  · show (begin_ n fs w).st.b (fs.length + 1 - 1) = -1
    exact beg_w
end
/-! ### the two parts of the way -/
/-- all forms are 0 or more -/
def Fe (P : Pb) (T : Tb) : Prop := ∀ i, i < P.m → (P.n : Int) ≤ T.st.b i → 0 ≤ T.R i 0
/-- the first row that lacks -/
def Lk (P : Pb) (T : Tb) (i : Nat) : Prop := i < P.m ∧ (P.n : Int) ≤ T.st.b i ∧ T.R i 0 < 0 ∧ ∀ j, j < P.m → (P.n : Int) ≤ T.st.b j → T.R j 0 < 0 → T.st.b i ≤ T.st.b j
/-- the first column that raises a row -/
def Ra (P : Pb) (T : Tb) (i k : Nat) : Prop := k < P.n ∧ (P.n : Int) ≤ T.st.h k ∧ 0 < T.R i (k + 1) ∧ ∀ j, j < P.n → (P.n : Int) ≤ T.st.h j → 0 < T.R i (j + 1) → T.st.h k ≤ T.st.h j
theorem Lk.feas {T : Tb} {i : Nat} (l : Lk P T i) {k : Int} (hk : k ≤ T.st.b i) : Feas P T.st k := by
  intro j hj h1 h2
  show 0 ≤ T.R j 0
  apply Classical.byContradiction
  intro c
  have := l.2.2.2 j hj h1 (by omega)
  omega
theorem Lk.mv {T : Tb} (g : Good P T) {i k : Nat} (l : Lk P T i) (r : Ra P T i k) : (T.st.b i < T.st.h k ∧ EnB P T.st (T.st.h k)) ∨ (T.st.h k < T.st.b i ∧ LvC P T.st (T.st.b i)) := by
  obtain ⟨r1, r2, r3, r4⟩ := r
  have ne : T.st.b i ≠ T.st.h k := g.ok.bh i k l.1 r1
  by_cases c : T.st.b i < T.st.h k
  · refine .inl ⟨c, i, l.1, ⟨l.2.1, c⟩, l.2.2.1, ⟨k, r1, rfl, r3⟩, fun j hj h1 h2 => ?_⟩
    show T.R i (j + 1) ≤ 0
    apply Classical.byContradiction
    intro d
    have := r4 j hj h1 (by omega)
    omega
  · exact .inr ⟨by omega, ⟨i, l.1, rfl, l.2.2.1⟩, l.feas (Int.le_refl _)⟩
/-- what is kept in the first part -/
def Go1 (P : Pb) (T : Tb) (m : Nat) : Prop := Good P T ∧ FZ P T ∧ ∃ c, phi c (P.m - 1) = m ∧ Tr P (EnB P) (LvC P) T.st c
theorem Go1.step {T : Tb} {m i k : Nat} (g : Go1 P T m) (l : Lk P T i) (r : Ra P T i k) : ∃ m', m' < m ∧ Go1 P (T.ex i k) m' := by
  obtain ⟨g, z, c, e, tr⟩ := g
  obtain ⟨r1, r2, r3, r4⟩ := id r
  have ne : T.R i (k + 1) ≠ 0 := by omega
  have v := Tb.ex_piv g.wf l.1 r1 ne
  obtain ⟨c', d, tr'⟩ := tr.step con1 g.ok g.last v l.2.1 r2 (l.mv g r)
  exact ⟨phi c' (P.m - 1), by omega, g.ex l.1 r1 ne (by have := l.2.1; omega), z.ex g l.1 r1 ne l.2.1 r2, c', rfl, tr'⟩
theorem Go1.start {T : Tb} (b : BI P P.n T) : ∃ m, Go1 P T m := ⟨_, b.done.1, b.done.2, _, rfl, Tr.start⟩
/-- the first column with which the wish grows -/
def Ga (P : Pb) (T : Tb) (k : Nat) : Prop := k < P.n ∧ (P.n : Int) ≤ T.st.h k ∧ 0 < T.R (P.m - 1) (k + 1) ∧ ∀ j, j < P.n → (P.n : Int) ≤ T.st.h j → 0 < T.R (P.m - 1) (j + 1) → T.st.h k ≤ T.st.h j
/-- no column with which the wish grows -/
def Op (P : Pb) (T : Tb) : Prop := ∀ j, j < P.n → (P.n : Int) ≤ T.st.h j → T.R (P.m - 1) (j + 1) ≤ 0
/-- the first row that ends a column -/
def Ed (P : Pb) (T : Tb) (k i : Nat) : Prop := i < P.m ∧ (P.n : Int) ≤ T.st.b i ∧ T.R i (k + 1) < 0 ∧ ∀ j, j < P.m → (P.n : Int) ≤ T.st.b j → T.R j (k + 1) < 0 → T.st.b i ≤ T.st.b j
theorem Ga.dual {T : Tb} {k : Nat} (l : Ga P T k) {x : Int} (hk : x ≤ T.st.h k) : Dual P T.st x := by
  intro j hj h1 h2
  show T.R _ (j + 1) ≤ 0
  apply Classical.byContradiction
  intro c
  have := l.2.2.2 j hj h1 (by omega)
  omega
theorem Op.dual {T : Tb} (l : Op P T) {x : Int} : Dual P T.st x := fun j hj h1 _ => l j hj h1
theorem Fe.feas {T : Tb} (l : Fe P T) {x : Int} : Feas P T.st x := fun j hj h1 _ => l j hj h1
/-- free columns say nothing of the wish -/
def WZ (P : Pb) (T : Tb) : Prop := ∀ k, k < P.n → T.st.h k < P.n → T.R (P.m - 1) (k + 1) = 0
theorem WZ.ex {T : Tb} (g : Good P T) (y : FZ P T) (z : WZ P T) {p k : Nat} (hp : p < P.m) (hk : k < P.n) (ne : T.R p (k + 1) ≠ 0) (hs : (P.n : Int) ≤ T.st.b p) (hh : (P.n : Int) ≤ T.st.h k) : WZ P (T.ex p k) := by
  have v := Tb.ex_piv g.wf hp hk ne
  intro k' hk' hf
  have c : k' ≠ k := by
    intro e
    subst e
    rw [v.hk'] at hf
    omega
  rw [v.h k' c] at hf
  exact ex_zero g hp hk ne (by have := g.m0; omega) hk' c (fun _ => z k' hk' hf) (y k' hk' hf p hp hs)
/-- the table at which a point was known -/
def Kn0 (P : Pb) (T0 T : Tb) : Prop := Good P T0 ∧ Fe P T0 ∧ (∀ v : Int, v < P.n → (isH P T.st v ↔ isH P T0.st v))
def EN2 (P : Pb) (S : St) (k : Int) : Prop := EnA P S k ∨ EnB P S k
def LV2 (P : Pb) (S : St) (k : Int) : Prop := (LvC P S k ∧ Dual P S k) ∨ LvD P S k
def Go2 (P : Pb) (T0 T : Tb) (m : Nat) : Prop := (Good P T ∧ FZ P T ∧ WZ P T) ∧ Kn0 P T0 T ∧ ∃ c, phi c (P.m - 1) = m ∧ Tr P (EN2 P) (LV2 P) T.st c
theorem Kn0.ex {T0 T : Tb} {p k : Nat} (g : Kn0 P T0 T) (v : Piv P T.st p k (T.ex p k).st) (hs : (P.n : Int) ≤ T.st.b p) (hh : (P.n : Int) ≤ T.st.h k) : Kn0 P T0 (T.ex p k) := by
  refine ⟨g.1, g.2.1, fun x hx => ?_⟩
  rw [← g.2.2 x hx]
  exact ⟨fun h => v.isH_to (by omega) h, fun h => v.isH_of (by omega) h⟩
theorem Go2.step {T0 T : Tb} {m i k : Nat} (g : Go2 P T0 T m) (hi : i < P.m) (hk : k < P.n) (ne : T.R i (k + 1) ≠ 0) (hs : (P.n : Int) ≤ T.st.b i) (hh : (P.n : Int) ≤ T.st.h k)
    (mv : (T.st.b i < T.st.h k ∧ EN2 P T.st (T.st.h k)) ∨ (T.st.h k < T.st.b i ∧ LV2 P T.st (T.st.b i))) : ∃ m', m' < m ∧ Go2 P T0 (T.ex i k) m' := by
  obtain ⟨⟨g, z, y⟩, kn, c, e, tr⟩ := g
  have v := Tb.ex_piv g.wf hi hk ne
  obtain ⟨c', d, tr'⟩ := tr.step (con2 g.m0) g.ok g.last v hs hh mv
  exact ⟨phi c' (P.m - 1), by omega, ⟨g.ex hi hk ne (by omega), z.ex g hi hk ne hs hh, y.ex g z hi hk ne hs hh⟩, kn.ex v hs hh, c', rfl, tr'⟩
/-- a row that lacks, ahead of every column that gains -/
theorem Go2.row {T0 T : Tb} {m i k : Nat} (g : Go2 P T0 T m) (l : Lk P T i) (r : Ra P T i k) (o : Op P T ∨ ∃ j, Ga P T j ∧ T.st.b i < T.st.h j) : ∃ m', m' < m ∧ Go2 P T0 (T.ex i k) m' := by
  have mv := l.mv g.1.1 r
  refine g.step l.1 r.1 (by have := r.2.2.1; omega) l.2.1 r.2.1 ?_
  rcases mv with ⟨a, b⟩ | ⟨a, b⟩
  · exact .inl ⟨a, .inr b⟩
  · refine .inr ⟨a, .inl ⟨b, ?_⟩⟩
    rcases o with o | ⟨j, o, lt⟩
    · exact o.dual
    · exact o.dual (by omega)
/-- a column that gains, ahead of every row that lacks -/
theorem Go2.col {T0 T : Tb} {m i k : Nat} (g : Go2 P T0 T m) (l : Ga P T k) (r : Ed P T k i) (o : Fe P T ∨ ∃ j, Lk P T j ∧ T.st.h k < T.st.b j) : ∃ m', m' < m ∧ Go2 P T0 (T.ex i k) m' := by
  obtain ⟨r1, r2, r3, r4⟩ := r
  have ne : T.st.b i ≠ T.st.h k := g.1.1.ok.bh i k r1 l.1
  refine g.step r1 l.1 (by omega) r2 l.2.1 ?_
  by_cases c : T.st.b i < T.st.h k
  · refine .inl ⟨c, .inl ⟨⟨k, l.1, rfl, l.2.2.1⟩, ?_, l.dual (Int.le_refl _)⟩⟩
    rcases o with o | ⟨j, o, lt⟩
    · exact o.feas
    · exact o.feas (by omega)
  · refine .inr ⟨by omega, .inr ⟨k, l.1, ⟨l.2.1, by omega⟩, l.2.2.1, ⟨i, r1, rfl, r3⟩, fun j hj h1 h2 => ?_⟩⟩
    show 0 ≤ T.R j (k + 1)
    apply Classical.byContradiction
    intro d
    have := r4 j hj h1 (by omega)
    omega
/-- where a point is known a row that lacks can be raised -/
theorem Go2.raise {T0 T : Tb} {m i : Nat} (g : Go2 P T0 T m) (l : Lk P T i) (no : ∀ j, j < P.n → (P.n : Int) ≤ T.st.h j → T.R i (j + 1) ≤ 0) : False := by
  obtain ⟨⟨g, z, y⟩, ⟨g0, fe, fr⟩, _⟩ := g
  obtain ⟨s0, q⟩ := g0.ok.sg
  have c := chg g.ok q l.1 (l := 0) (by omega)
  rw [if_pos rfl] at c
  have hi : (P.n : Int) ≤ T.st.b i := l.2.1
  have big : T.st.b i < (P.n : Int) + P.m - 1 := (g.ok.rb i l.1).2
  have f : Feas P T0.st ((P.n : Int) + P.m) := fe.feas
  have l0 : 0 ≤ En P T0.st s0 (T.st.b i) 0 := f.val q hi (by omega) (g.ok.either g0.ok (.inr ⟨i, l.1, rfl⟩))
  have l1 : 0 ≤ T.st.D * En P T0.st s0 (T.st.b i) 0 := Int.mul_nonneg (by have := g.ok.pos; omega) l0
  have l2 : T.st.R i 0 * T0.st.D < 0 := Int.mul_neg_of_neg_of_pos l.2.2.1 g0.ok.pos
  have l3 : sm P.n (fun j => T.st.R i (j + 1) * En P T0.st s0 (T.st.h j) 0) ≤ 0 := sm_nonpos fun j hj => by
    by_cases c2 : T.st.h j < P.n
    · rw [q.zero ((fr _ c2).mp ⟨j, hj, rfl⟩), Int.mul_zero]
      exact Int.le_refl _
    · have n1 : (P.n : Int) ≤ T.st.h j := by omega
      have n2 : T.st.h j < (P.n : Int) + P.m := by have := (g.ok.rh j hj).2; omega
      exact Int.mul_nonpos_of_nonpos_of_nonneg (no j hj n1) (f.val q n1 n2 (g.ok.either g0.ok (.inl ⟨j, hj, rfl⟩)))
  omega
theorem Go2.start {T : Tb} {m : Nat} (g : Go1 P T m) (f : Fe P T) (z : WZ P T) : ∃ m', Go2 P T T m' := ⟨_, ⟨g.1, g.2.1, z⟩, ⟨g.1, f, fun _ _ => Iff.rfl⟩, _, rfl, Tr.start⟩
end Lm
end
section
set_option Elab.async false
set_option linter.all false
set_option maxRecDepth 100000
set_option maxHeartbeats 1000000
namespace Lb
open PySem Ri.Z Lm
open Ri (Cl W O Hw hset hdel En KW XW Calls Bop Cop Kd Blt Met ItK Tg Ex Sm Df slot put clr clrs bindT bindTs vw toD toDs lim MulOk rep binW eqD eqW flatW eqF inW cmpW isNon atW cutL slW revW kdW isiOk intsOf prsOf blsOf strsOf leP rngW bltW metTy metW fmtV enmW zipW seqW itrW itrV itsOf fldW isCls frzW delW isEnd initOf nmOf lcL lcL2 wpE wpEs wpJ Dn puts setW atLI augW storeF lstAt isLoL insAt handle forL whlP wpS wpSs wpHs start wpF callD)
/-- a pair of a key and a place -/
def pr (a : Nat → Int) (i : Nat) : W := .tup [.int (a i), .int (i : Int)]
theorem eq_pr {a : Nat → Int} {xs : List Nat} {P : Bool → Prop} : eqW (.lst (xs.map (pr a))) (.lst []) P = P (decide (xs = [])) := by
  have e : xs.map (pr a) = (xs.map fun i => [a i, (i : Int)]).map fW := by
    rw [List.map_map]
    rfl
  rw [e, eq_fl]
  cases xs <;> rfl
theorem prs_pr {a : Nat → Int} : ∀ xs : List Nat, prsOf (xs.map (pr a)) = some (xs.map fun i => (a i, (i : Int)))
  | [] => rfl
  | x :: xs => by
    have := prs_pr (a := a) xs
    simp only [List.map_cons, pr, prsOf] at this ⊢
    rw [this]
    rfl
theorem min_pr {a : Nat → Int} {xs : List Nat} {P : W → Prop} (ne : xs ≠ []) (q : ∀ i ∈ xs, (∀ j ∈ xs, a i ≤ a j) → P (pr a i)) : bltW .minL [.lst (xs.map (pr a))] P := by
  show match prsOf (xs.map (pr a)) with
    | some is => is ≠ [] ∧ ∀ m, m ∈ is → (∀ k ∈ is, leP m k) → P (.tup [.int m.1, .int m.2])
    | none => False
  rw [prs_pr]
  refine ⟨fun e => ne (List.map_eq_nil_iff.mp e), fun m hm h => ?_⟩
  obtain ⟨i, hi, e⟩ := List.mem_map.mp hm
  subst e
  refine q i hi fun j hj => ?_
  have := h _ (List.mem_map.mpr ⟨j, hj, rfl⟩)
  rcases this with z | z
  · exact Int.le_of_lt z
  · exact Int.le_of_eq z.1
theorem pr1 {a : Nat → Int} {i : Nat} {K : W → Prop} : atW (pr a i) (.int 1) K = K (.int (i : Int)) := at_t1
theorem vw_pr {h : Hw} {a : Nat → Int} {i : Nat} : vw h (pr a i) = pr a i := rfl
theorem at_neg {ws : List W} {w : W} {K : W → Prop} (e : ws[ws.length - 1]? = some w) : atW (.lst ws) (.int (-1)) K = K w := by
  have hl : 0 < ws.length := by
    rcases Nat.eq_zero_or_pos ws.length with z | z
    · have : ws = [] := List.length_eq_zero_iff.mp z
      subst this
      cases e
    · exact z
  have : L2.atI ws (-1) = some w := by
    unfold L2.atI L2.ixN
    rw [if_neg (by omega), if_pos (by omega)]
    have : ((-1 : Int) + (ws.length : Nat)).toNat = ws.length - 1 := by omega
    simp only [Option.bind_some, this]
    exact e
  simp only [atW, this]
theorem enm_rows {k : Nat} : ∀ {rows : List (List Int)}, enmW (k : Int) (rows.map lW) = (List.range rows.length).map fun i => .tup [.int ((k + i : Nat) : Int), lW (rows.getD i [])]
  | [] => rfl
  | r :: rows => by
    simp only [List.map_cons, enmW, List.length_cons, List.range_succ_eq_map, List.map_map]
    have := enm_rows (k := k + 1) (rows := rows)
    have e : ((k : Int) + 1) = ((k + 1 : Nat) : Int) := by omega
    rw [e, this]
    congr 1
    refine List.map_congr_left fun i hi => ?_
    simp only [Function.comp, List.getD_cons_succ]
    congr 3
    omega
theorem enm_rows0 {rows : List (List Int)} : enmW 0 (rows.map lW) = (List.range rows.length).map fun i => .tup [.int (i : Int), lW (rows.getD i [])] := by
  have := enm_rows (k := 0) (rows := rows)
  simp only [Nat.zero_add] at this
  exact this
theorem isn_int' {i : Int} : isNon (.int i) = false := rfl
/-- the first of those that a test lets through -/
theorem fil_min {N : Nat} {p : Nat → Bool} {a : Nat → Int} {Q : Nat → Prop} (q : ∀ i, i < N → p i = true → (∀ j, j < N → p j = true → a i ≤ a j) → Q i) : ∀ i ∈ (List.range N).filter p, (∀ j ∈ (List.range N).filter p, a i ≤ a j) → Q i := by
  intro i hi h
  obtain ⟨h1, h2⟩ := List.mem_filter.mp hi
  exact q i (List.mem_range.mp h1) h2 fun j hj pj => h j (List.mem_filter.mpr ⟨List.mem_range.mpr hj, pj⟩)
theorem fil_nil {N : Nat} {p : Nat → Bool} (h : (List.range N).filter p = []) : ∀ j, j < N → p j = false := by
  intro j hj
  have := List.filter_eq_nil_iff.mp h j (List.mem_range.mpr hj)
  simpa using this
end Lb
end
section
set_option Elab.async false
set_option linter.all false
set_option maxRecDepth 100000
set_option maxHeartbeats 1000000
namespace Lb
open PySem Ri.Z Lm
open Ri (Cl W O Hw hset hdel En KW XW Calls Bop Cop Kd Blt Met ItK Tg Ex Sm Df slot put clr clrs bindT bindTs vw toD toDs lim MulOk rep binW eqD eqW flatW eqF inW cmpW isNon atW cutL slW revW kdW isiOk intsOf prsOf blsOf strsOf leP rngW bltW metTy metW fmtV enmW zipW seqW itrW itrV itsOf fldW isCls frzW delW isEnd initOf nmOf lcL lcL2 wpE wpEs wpJ Dn puts setW atLI augW storeF lstAt isLoL insAt handle forL whlP wpS wpSs wpHs start wpF callD)
def vl (T : Tb) (l : Nat) (ini : Nat → Int) : Nat → Nat → Int
  | 0, j => ini j
  | i + 1, j => if T.st.b i = (j : Int) then T.R i l else vl T l ini i j
def ptL (N m : Nat) (T : Tb) : List (Int × Int) := (List.range N).map fun j => mkF (vl T 0 (fun _ => 0) m j) T.D
def hd0 (T : Tb) (pl : Nat) (j : Nat) : Int := if T.st.h pl = (j : Int) then T.D else 0
def crL (N m : Nat) (T : Tb) (pl : Nat) (s : Int) : List (Int × Int) := (List.range N).map fun j => mkF (s * vl T (pl + 1) (hd0 T pl) m j) T.D
def wv (N : Nat) (T : Tb) (r : List Int) : Nat → Nat → Int
  | 0, _ => 0
  | k + 1, t => if T.st.h k = (N : Int) + t then - r.getD (k + 1) 0 else wv N T r k t
def wtL (N m : Nat) (T : Tb) (r : List Int) (dp own : Int) : List (Int × Int) := (List.range (m - 1)).map fun (t : Nat) => mkF (if own = (N : Int) + t then T.D else wv N T r N t) dp
theorem set_map {α : Type} {N j : Nat} {f : Nat → α} {y : α} : ((List.range N).map f).set j y = (List.range N).map fun x => if x = j then y else f x := by
  apply List.ext_getElem?
  intro i
  rw [List.getElem?_set, List.getElem?_map, List.getElem?_map]
  by_cases hi : i < N
  · rw [List.getElem?_range hi, List.length_map, List.length_range]
    by_cases e : j = i
    · subst e; simp [hi]
    · simp [e, Ne.symm e]
  · rw [List.getElem?_eq_none (by rw [List.length_range]; omega), List.length_map, List.length_range]
    by_cases e : j = i
    · subst e; simp [hi]
    · simp [e]
theorem mkF_zero {d : Int} (h : 0 < d) : mkF 0 d = (0, 1) := by
  unfold mkF
  rw [Int.gcd_zero_left, show ((d.natAbs : Nat) : Int) = d by omega]
  simp [Int.ediv_self (show d ≠ 0 by omega)]
theorem mkF_self {d s : Int} (h : 0 < d) (hs : s = 1 ∨ s = -1) : mkF (s * d) d = (s, 1) := by
  have g : (Int.gcd (s * d) d : Int) = d := by
    rcases hs with e | e <;> subst e <;> simp [Int.gcd, Nat.gcd_self] <;> omega
  unfold mkF
  rw [g, Int.mul_ediv_cancel _ (by omega), Int.ediv_self (by omega)]
theorem rep_frs {N : Nat} : rep N [W.tup [.int 0, .int 1]] = ((List.range N).map fun _ => ((0 : Int), (1 : Int))).map frW := by
  unfold rep
  induction N with
  | zero => rfl
  | succ n ih => rw [List.replicate_succ, List.flatten_cons, ih, List.range_succ_eq_map]; simp [frW]
theorem set_frs {xs : List (Int × Int)} {j : Nat} {p : Int × Int} : (xs.map frW).set j (frW p) = (xs.set j p).map frW := by rw [List.map_set]
theorem begin_tb {n : Nat} {fs : List (List Int)} {w : List Int} : tbW n (begin_ n fs w) = tbW n (begin_ n fs w) := rfl
/-- rows as lists or tuples -/
inductive Rws : List W → List (List Int) → Prop where
  | nil : Rws [] []
  | tup {es : List W} {fs : List (List Int)} {f : List Int} : Rws es fs → Rws (fW f :: es) (f :: fs)
  | lst {es : List W} {fs : List (List Int)} {f : List Int} : Rws es fs → Rws (lW f :: es) (f :: fs)
theorem Rws.len {es : List W} {fs : List (List Int)} (r : Rws es fs) : es.length = fs.length := by
  induction r with
  | nil => rfl
  | tup _ ih => simp [ih]
  | lst _ ih => simp [ih]
theorem Rws.all : ∀ fs : List (List Int), Rws (fs.map fW) fs
  | [] => .nil
  | f :: fs => .tup (Rws.all fs)
theorem Rws.app {es es' : List W} {fs fs' : List (List Int)} (r : Rws es fs) (r' : Rws es' fs') : Rws (es ++ es') (fs ++ fs') := by
  induction r with
  | nil => exact r'
  | tup _ ih => exact .tup ih
  | lst _ ih => exact .lst ih
/-- one row -/
def Rw1 (e : W) (f : List Int) : Prop := e = fW f ∨ e = lW f
theorem Rw1.list {e : W} {f : List Int} (r : Rw1 e f) {h : Hw} {P : W → Prop} : bltW .list [vw h e] P = P (lW f) := by rcases r with r | r <;> subst r <;> rfl
theorem Rw1.len {e : W} {f : List Int} (r : Rw1 e f) {h : Hw} {P : W → Prop} : bltW .len [vw h e] P = P (.int f.length) := by
  rcases r with r | r <;> subst r
  · rw [vw_fW, ← iws_len (xs := f)]
    rfl
  · rw [vw_lW, ← iws_len (xs := f)]
    rfl
theorem lcL_rws {es : List W} {fs : List (List Int)} (r : Rws es fs) {h : Hw} {tg : Ri.Tg} {τ : En} {cond elt : En → Hw → KW → Prop} {P : List W → Hw → Prop} {acc : List W}
    (step : ∀ e f, Rw1 e f → okE (bindT tg e τ) fun τ2 => ∀ (K : KW) (B : Hw → Prop), K (lW f) h → cond τ2 h fun b h1 => brW b (elt τ2 h1 K) (B h1)) (fin : P (acc ++ fs.map lW) h) :
    lcL (fun _ => True) tg τ cond elt es acc h P := by
  induction r generalizing acc with
  | nil => exact ⟨trivial, by simpa using fin⟩
  | @tup es fs f _ ih =>
    have g2 := step (fW f) f (.inl rfl)
    refine ⟨trivial, ?_⟩
    cases hb : bindT tg (fW f) τ with
    | none => rw [hb] at g2; exact g2.elim
    | some τ2 =>
      rw [hb] at g2
      exact g2 (fun y h2 => lcL _ tg τ cond elt es (acc ++ [y]) h2 P) (fun h1 => lcL _ tg τ cond elt es acc h1 P) (ih (by simpa using fin))
  | @lst es fs f _ ih =>
    have g2 := step (lW f) f (.inr rfl)
    refine ⟨trivial, ?_⟩
    cases hb : bindT tg (lW f) τ with
    | none => rw [hb] at g2; exact g2.elim
    | some τ2 =>
      rw [hb] at g2
      exact g2 (fun y h2 => lcL _ tg τ cond elt es (acc ++ [y]) h2 P) (fun h1 => lcL _ tg τ cond elt es acc h1 P) (ih (by simpa using fin))
theorem big_sz {P : Pb} {T : Tb} (g : Good P T) (f : FB P (2 ^ 32)) (hn : P.n ≤ 14) : (∀ i l, i < P.m → l < P.n + 1 → (T.R i l).natAbs ≤ 2 ^ 525) ∧ 0 < T.D ∧ T.D.natAbs ≤ 2 ^ 525 :=
  ⟨fun i l hi hl => Nat.le_trans (g.ok.bd (by decide) f hi hl) (bd_pow hn), g.ok.pos, Nat.le_trans (g.ok.bdD (by decide) f) (bd_pow hn)⟩
end Lb
end
section
set_option Elab.async false
set_option linter.all false
set_option maxRecDepth 100000
set_option maxHeartbeats 1000000
/-! values at amounts and points, over the rational numbers -/
namespace Lb
open PySem Ri.Z Lm
open Ri (Cl W O Hw hset hdel En KW XW Calls Bop Cop Kd Blt Met ItK Tg Ex Sm Df slot put clr clrs bindT bindTs vw toD toDs lim MulOk rep binW eqD eqW flatW eqF inW cmpW isNon atW cutL slW revW kdW isiOk intsOf prsOf blsOf strsOf leP rngW bltW metTy metW fmtV enmW zipW seqW itrW itrV itsOf fldW isCls frzW delW isEnd initOf nmOf lcL lcL2 wpE wpEs wpJ Dn puts setW atLI augW storeF lstAt isLoL insAt handle forL whlP wpS wpSs wpHs start wpF callD)
def sq : Nat → (Nat → Rat) → Rat
  | 0, _ => 0
  | n + 1, f => sq n f + f n
theorem sq_congr {f g : Nat → Rat} : ∀ {n : Nat}, (∀ i, i < n → f i = g i) → sq n f = sq n g
  | 0, _ => rfl
  | n + 1, h => by
    simp only [sq]
    rw [sq_congr (n := n) fun i hi => h i (by omega), h n (by omega)]
theorem sq_add {f g : Nat → Rat} : ∀ {n : Nat}, sq n (fun i => f i + g i) = sq n f + sq n g
  | 0 => by simp only [sq]; grind
  | n + 1 => by simp only [sq]; rw [sq_add (n := n)]; grind
theorem sq_mul {c : Rat} {f : Nat → Rat} : ∀ {n : Nat}, sq n (fun i => c * f i) = c * sq n f
  | 0 => by simp only [sq]; grind
  | n + 1 => by simp only [sq]; rw [sq_mul (n := n)]; grind
theorem sq_zero {f : Nat → Rat} : ∀ {n : Nat}, (∀ i, i < n → f i = 0) → sq n f = 0
  | 0, _ => rfl
  | n + 1, h => by
    simp only [sq]
    rw [sq_zero (n := n) fun i hi => h i (by omega), h n (by omega)]
    grind
theorem sq_one {f : Nat → Rat} {k : Nat} : ∀ {n : Nat}, k < n → (∀ i, i < n → i ≠ k → f i = 0) → sq n f = f k
  | 0, h, _ => by omega
  | n + 1, h, z => by
    simp only [sq]
    by_cases e : k = n
    · subst e
      rw [sq_zero fun i hi => z i (by omega) (by omega)]
      grind
    · rw [sq_one (n := n) (by omega) fun i hi ne => z i (by omega) ne, z n (by omega) (by omega)]
      grind
theorem sq_swap {f : Nat → Nat → Rat} {m : Nat} : ∀ {n : Nat}, sq n (fun i => sq m (f i)) = sq m (fun j => sq n (fun i => f i j))
  | 0 => by simp only [sq]; exact (sq_zero fun _ _ => rfl).symm
  | n + 1 => by simp only [sq]; rw [sq_swap (n := n), ← sq_add]
theorem sq_nonneg {f : Nat → Rat} : ∀ {n : Nat}, (∀ i, i < n → 0 ≤ f i) → 0 ≤ sq n f
  | 0, _ => by simp only [sq]; exact Rat.le_refl
  | n + 1, h => by
    simp only [sq]
    have h1 := sq_nonneg (n := n) fun i hi => h i (by omega)
    have h2 := h n (by omega)
    grind
theorem sq_cast {f : Nat → Int} : ∀ {n : Nat}, ((sm n f : Int) : Rat) = sq n fun i => ((f i : Int) : Rat)
  | 0 => rfl
  | n + 1 => by simp only [sm, sq]; rw [Rat.intCast_add, sq_cast (n := n)]
/-- the value of a fraction -/
def qv (p : Int × Int) : Rat := (p.1 : Rat) / (p.2 : Rat)
def xq (as : List (Int × Int)) (c : Nat) : Rat := if c = 0 then 1 else qv (as.getD (c - 1) (0, 1))
/-- the value of a form -/
def rv (N : Nat) (f : List Int) (as : List (Int × Int)) : Rat := sq (N + 1) fun c => ((f.getD c 0 : Int) : Rat) * xq as c
theorem cast_pos {d : Int} (h : 0 < d) : (0 : Rat) < (d : Rat) := Rat.intCast_lt_intCast.mpr h
theorem qv_mk {a b : Int} (h : 0 < b) : qv (mkF a b) = (a : Rat) / (b : Rat) := by
  obtain ⟨x, y, g, e, e1, e2, g0, y0⟩ := mkF_ex (a := a) h
  rw [e, e1, e2]
  unfold qv
  have hg := cast_pos g0
  have hy := cast_pos y0
  rw [Rat.intCast_mul, Rat.intCast_mul]
  show (x : Rat) / (y : Rat) = _
  grind
theorem qv_le {p s : Int × Int} (hp : 0 < p.2) (hs : 0 < s.2) : (p.1 * s.2 ≤ s.1 * p.2) ↔ qv p ≤ qv s := by
  have h1 := cast_pos hp
  have h2 := cast_pos hs
  rw [← Rat.intCast_le_intCast, Rat.intCast_mul, Rat.intCast_mul]
  unfold qv
  constructor
  · intro h
    have h3 : (0 : Rat) < 1 / (p.2 : Rat) := by
      rw [Rat.div_def, Rat.one_mul]
      exact Rat.inv_pos.mpr h1
    have h4 : (0 : Rat) < 1 / (s.2 : Rat) := by
      rw [Rat.div_def, Rat.one_mul]
      exact Rat.inv_pos.mpr h2
    have h5 := Rat.mul_le_mul_of_nonneg_left h (Rat.le_of_lt (Rat.mul_pos h3 h4))
    have e1 : 1 / (p.2 : Rat) * (1 / (s.2 : Rat)) * ((p.1 : Rat) * (s.2 : Rat)) = (p.1 : Rat) / (p.2 : Rat) := by grind
    have e2 : 1 / (p.2 : Rat) * (1 / (s.2 : Rat)) * ((s.1 : Rat) * (p.2 : Rat)) = (s.1 : Rat) / (s.2 : Rat) := by grind
    rwa [e1, e2] at h5
  · intro h
    have h5 := Rat.mul_le_mul_of_nonneg_left h (Rat.le_of_lt (Rat.mul_pos h1 h2))
    have e1 : (p.2 : Rat) * (s.2 : Rat) * ((p.1 : Rat) / (p.2 : Rat)) = (p.1 : Rat) * (s.2 : Rat) := by grind
    have e2 : (p.2 : Rat) * (s.2 : Rat) * ((s.1 : Rat) / (s.2 : Rat)) = (s.1 : Rat) * (p.2 : Rat) := by grind
    rwa [e1, e2] at h5
theorem getD_addAt {f : List Int} {i c : Nat} {t : Int} (hi : i < f.length) : (addAt f i t).getD c 0 = f.getD c 0 + if c = i then t else 0 := by
  unfold addAt
  by_cases e : c = i
  · subst e
    simp [List.getD, hi]
  · simp [List.getD, List.getElem?_set, Ne.symm e, e]
theorem rv_add {N i : Nat} {f : List Int} {t : Int} {as : List (Int × Int)} (hf : f.length = N + 1) (hi : i < N + 1) : rv N (addAt f i t) as = rv N f as + (t : Rat) * xq as i := by
  unfold rv
  have : (sq (N + 1) fun c => (((addAt f i t).getD c 0 : Int) : Rat) * xq as c) = sq (N + 1) fun c => ((f.getD c 0 : Int) : Rat) * xq as c + (if c = i then (t : Rat) * xq as c else 0) := sq_congr fun c hc => by
    rw [getD_addAt (by omega), Rat.intCast_add]
    split <;> grind
  rw [this, sq_add]
  congr 1
  rw [sq_one (k := i) hi fun c _ ne => by simp [ne]]
  simp
theorem rv_blank {w : Wb} {as : List (Int × Int)} {N : Nat} : rv N (blank w) as = 0 := by
  unfold rv
  refine sq_zero fun c _ => ?_
  have : (blank w).getD c 0 = 0 := by
    unfold blank
    simp only [List.getD, List.getElem?_replicate]
    split <;> rfl
  rw [this]
  grind
theorem rv_set {N i : Nat} {f : List Int} {t : Int} {as : List (Int × Int)} (hf : f.length = N + 1) (hi : i < N + 1) (z : f.getD i 0 = 0) : rv N (f.set i t) as = rv N f as + (t : Rat) * xq as i := by
  have : f.set i t = addAt f i t := by
    unfold addAt
    rw [z, Int.zero_add]
  rw [this, rv_add hf hi]
/-! ### forms at amounts -/
section
variable {w : Wb} {A : Am}
theorem xq_lv (ok : A.ok w) {s : Nat} (hs : s < w.n) : xq A.all (1 + s) = qv (A.lv.getD s (0, 1)) := by
  unfold xq Am.all
  rw [if_neg (by omega), show 1 + s - 1 = s by omega]
  congr 1
  simp only [List.getD, List.append_assoc]
  rw [List.getElem?_append_left (by rw [ok.nl]; exact hs)]
theorem xq_sc (ok : A.ok w) {l : Nat} (hl : l < w.l) : xq A.all (1 + w.n + l) = qv (A.sc.getD l (0, 1)) := by
  unfold xq Am.all
  rw [if_neg (by omega)]
  congr 1
  simp only [List.getD, List.append_assoc]
  rw [List.getElem?_append_right (by rw [ok.nl]; omega), ok.nl, List.getElem?_append_left (by rw [ok.ns]; omega)]
  congr 2
  omega
theorem xq_sh (ok : A.ok w) {l : Nat} (hl : l < w.l) : xq A.all (1 + w.n + w.l + l) = qv (A.sh.getD l (0, 1)) := by
  unfold xq Am.all
  rw [if_neg (by omega)]
  congr 1
  simp only [List.getD, List.append_assoc]
  rw [List.getElem?_append_right (by rw [ok.nl]; omega), ok.nl, List.getElem?_append_right (by rw [ok.ns]; omega), ok.ns]
  congr 2
  omega
/-- what a result stands for -/
def stq (A : Am) (lot : Nat) (r : Rat) : Rat := r * qv (A.sc.getD lot (0, 1)) + qv (A.sh.getD lot (0, 1))
theorem qv11 : qv (1, 1) = 1 := by unfold qv; decide +kernel
theorem qv01 : qv (0, 1) = 0 := by unfold qv; decide +kernel
theorem rv_putL (ok : A.ok w) {f : List Int} {s : Nat} {t : Int} (hf : f.length = w.len) (hs : s < w.n) : rv (w.n + 2 * w.l) (putL f s t) A.all = rv (w.n + 2 * w.l) f A.all + (t : Rat) * qv (A.lv.getD s (0, 1)) := by
  unfold putL
  rw [rv_add (by rw [hf]; unfold Wb.len; omega) (by omega), xq_lv ok hs]
theorem rv_putR (ok : A.ok w) {f : List Int} {lot : Nat} {r t : Int} (hf : f.length = w.len) (hl : lot < w.l) : rv (w.n + 2 * w.l) (putR w f lot r t) A.all = rv (w.n + 2 * w.l) f A.all + (t : Rat) * stq A lot (r : Rat) := by
  have hw : w.len = w.n + 2 * w.l + 1 := by unfold Wb.len; omega
  have e1 : rv (w.n + 2 * w.l) (putR1 w f lot r t) A.all = rv (w.n + 2 * w.l) f A.all + (t : Rat) * ((r : Rat) * qv (A.sc.getD lot (0, 1))) := by
    unfold putR1
    cases h : hasScale w.m lot with
    | true =>
      rw [if_pos rfl, rv_add (by rw [hf, hw]) (by omega), xq_sc ok hl, Rat.intCast_mul]
      grind
    | false =>
      rw [if_neg (by simp), rv_add (by rw [hf, hw]) (by omega), Rat.intCast_mul]
      have : A.sc.getD lot (0, 1) = (1, 1) := by
        have := ok.k1 lot hl h
        simp [List.getD, this]
      rw [this, qv11]
      simp only [xq, if_true]
      grind
  unfold putR stq
  cases h : hasShift w.m lot with
  | true =>
    rw [if_pos rfl, rv_add (by rw [putR1_len, hf, hw]) (by omega), xq_sh ok hl, e1]
    grind
  | false =>
    rw [if_neg (by simp), e1]
    have : A.sh.getD lot (0, 1) = (0, 1) := by
      have := ok.k2 lot hl h
      simp [List.getD, this]
    rw [this, qv01]
    grind
/-- amounts fit a reading -/
def FitR (A : Am) (r : Rd) : Prop := match r.k with
  | .told => ((r.a : Int) : Rat) ≤ qv (A.lv.getD r.s (0, 1)) ∧ qv (A.lv.getD r.s (0, 1)) ≤ ((r.b : Int) : Rat)
  | .above => stq A r.a ((r.b : Int) : Rat) ≤ qv (A.lv.getD r.s (0, 1))
  | .at_ => stq A r.a ((r.b : Int) : Rat) ≤ qv (A.lv.getD r.s (0, 1)) ∧ qv (A.lv.getD r.s (0, 1)) ≤ stq A r.a (((r.b + 1 : Nat) : Int) : Rat)
theorem fitR_iff (ok : A.ok w) (wk : w.ok) {r : Rd} (hr : r.ok w.l w.n) : (∀ f ∈ formsOf w r, 0 ≤ rv (w.n + 2 * w.l) f A.all) ↔ FitR A r := by
  have hw : w.len = w.n + 2 * w.l + 1 := by unfold Wb.len; omega
  have lb : (blank w).length = w.len := blank_len
  obtain ⟨h1, h2⟩ := hr
  have lo : rv (w.n + 2 * w.l) (putL (blank w) r.s 1) A.all = qv (A.lv.getD r.s (0, 1)) := by
    rw [rv_putL ok lb h1, rv_blank]
    have : ((1 : Int) : Rat) = 1 := rfl
    rw [this]
    grind
  have hi : rv (w.n + 2 * w.l) (putL (blank w) r.s (-1)) A.all = - qv (A.lv.getD r.s (0, 1)) := by
    rw [rv_putL ok lb h1, rv_blank]
    have : ((-1 : Int) : Rat) = -1 := rfl
    rw [this]
    grind
  have l1 : ∀ t, (putL (blank w) r.s t).length = w.len := fun t => by rw [putL_len, lb]
  have m1 : ((-1 : Int) : Rat) = -1 := rfl
  have p1 : ((1 : Int) : Rat) = 1 := rfl
  unfold formsOf FitR
  cases hk : r.k <;> simp only [hk] at h2 ⊢ <;> simp only [List.mem_cons, List.not_mem_nil, or_false, forall_eq_or_imp, forall_eq]
  · rw [rv_putR ok (l1 _) h2.1, rv_putR ok (l1 _) h2.1, lo, hi, m1, p1]
    have : (((r.b : Nat) : Int) + 1) = ((r.b + 1 : Nat) : Int) := by omega
    rw [this]
    grind
  · rw [rv_putR ok (l1 _) h2.1, lo, m1]
    grind
  · rw [rv_add (by rw [l1, hw]) (by omega), rv_add (by rw [l1, hw]) (by omega), lo, hi, Rat.intCast_neg]
    simp only [xq, if_true]
    grind
/-- the forms of scales hold at amounts -/
theorem scale_ok (ok : A.ok w) {lot : Nat} (hl : lot < w.l) : ∀ f ∈ scaleForms w lot, 0 ≤ rv (w.n + 2 * w.l) f A.all := by
  intro f m
  unfold scaleForms at m
  split at m
  · have lb : (blank w).length = w.n + 2 * w.l + 1 := by rw [blank_len]; unfold Wb.len; omega
    have z0 : ∀ c, (blank w).getD c 0 = 0 := fun c => by
      unfold blank
      simp only [List.getD, List.getElem?_replicate]
      split <;> rfl
    have z1 : ∀ v, ((blank w).set 0 v).getD (1 + w.n + lot) 0 = 0 := fun v => by
      rw [Lm.Tb.getD_set (by rw [lb]; omega), if_neg (by omega), z0]
    have e : ∀ v u : Int, rv (w.n + 2 * w.l) (((blank w).set 0 v).set (1 + w.n + lot) u) A.all = (v : Rat) + (u : Rat) * qv (A.sc.getD lot (0, 1)) := fun v u => by
      rw [rv_set (by rw [List.length_set, lb]) (by omega) (z1 v), rv_set lb (by omega) (z0 0), rv_blank, xq_sc ok hl]
      simp only [xq, if_true]
      grind
    have hs : lot < A.sc.length := by rw [ok.ns]; exact hl
    have mem : A.sc.getD lot (0, 1) ∈ A.sc := by
      simp only [List.getD, List.getElem?_eq_getElem hs, Option.getD_some]
      exact List.getElem_mem hs
    obtain ⟨fo, s1, s2⟩ := ok.fs _ mem
    generalize A.sc.getD lot (0, 1) = p at *
    have d0 : 0 < p.2 := by have := fo.1; omega
    have a1 := (qv_le (p := (1, 4)) (s := p) (by decide) d0).mp (by show 1 * p.2 ≤ p.1 * 4; omega)
    have a2 := (qv_le (p := p) (s := (4, 1)) d0 (by decide)).mp (by show p.1 * 1 ≤ 4 * p.2; omega)
    have q1 : qv (1, 4) = 1 / 4 := by unfold qv; decide +kernel
    have q2 : qv (4, 1) = 4 := by unfold qv; decide +kernel
    rw [q1] at a1
    rw [q2] at a2
    have c1 : ((-1 : Int) : Rat) = -1 := rfl
    have c4 : ((4 : Int) : Rat) = 4 := rfl
    simp only [List.mem_cons, List.not_mem_nil, or_false] at m
    rcases m with m | m <;> subst m <;> rw [e, c1, c4] <;> grind
  · cases m
theorem forms_iff (ok : A.ok w) (wk : w.ok) : (∀ f ∈ w.forms, 0 ≤ rv (w.n + 2 * w.l) f A.all) ↔ ∀ r ∈ w.rs, FitR A r := by
  constructor
  · intro h r m
    rw [← fitR_iff ok wk (wk.2.2.2 r m)]
    intro f mf
    exact h f (List.mem_append_left _ (List.mem_flatMap.mpr ⟨r, m, mf⟩))
  · intro h f m
    rcases List.mem_append.mp m with m | m
    · obtain ⟨r, mr, mf⟩ := List.mem_flatMap.mp m
      exact (fitR_iff ok wk (wk.2.2.2 r mr)).mpr (h r mr) f mf
    · obtain ⟨k, mk, mf⟩ := List.mem_flatMap.mp m
      exact scale_ok ok (by have := List.mem_range.mp mk; omega) f mf
end
end Lb
end
section
set_option Elab.async false
set_option linter.all false
set_option maxRecDepth 100000
set_option maxHeartbeats 1000000
/-! what the answers of solve say -/
namespace Lb
open PySem Ri.Z Lm
open Ri (Cl W O Hw hset hdel En KW XW Calls Bop Cop Kd Blt Met ItK Tg Ex Sm Df slot put clr clrs bindT bindTs vw toD toDs lim MulOk rep binW eqD eqW flatW eqF inW cmpW isNon atW cutL slW revW kdW isiOk intsOf prsOf blsOf strsOf leP rngW bltW metTy metW fmtV enmW zipW seqW itrW itrV itsOf fldW isCls frzW delW isEnd initOf nmOf lcL lcL2 wpE wpEs wpJ Dn puts setW atLI augW storeF lstAt isLoL insAt handle forL whlP wpS wpSs wpHs start wpF callD)
section
variable {N : Nat} {fs : List (List Int)} {w : List Int} {T : Tb} {s : Int}
theorem F_u {j : Nat} (h : j < N) : (prob N fs w).F (j : Int) = un (j + 1) := funext fun c => prob_u h
/-- an entry, by the entries of the unknowns -/
theorem en_sum (g : Sg (prob N fs w) T.st s) {v : Int} {l : Nat} (hl : l < N + 1) : En (prob N fs w) T.st s v l = sm (N + 1) fun c => (prob N fs w).F v c * (if c = 0 then (if l = 0 then T.D else 0) else En (prob N fs w) T.st s ((c - 1 : Nat) : Int) l) := by
  have z := det_lin (N := N + 1) (H := Hd (prob N fs w) T.st) (l := l) (D := 1) (u := (prob N fs w).F v) (a := (prob N fs w).F v) (G := fun j => un j) hl fun c hc => by
    rw [sm_one (k := c) hc fun i _ ne => by simp [un, Ne.symm ne]]
    simp [un]
  rw [Int.one_mul] at z
  show s * det (N + 1) _ = _
  rw [z, ← sm_mul]
  refine sm_congr fun c hc => ?_
  rw [Int.mul_left_comm]
  congr 1
  cases c with
  | zero =>
    have this : s * det (N + 1) (row (Hd (prob N fs w) T.st) l (un 0)) = if 0 = l then T.D else 0 := by
      have := g.self (j := 0) (l := l) (by omega) hl
      rw [Hd_zero] at this
      exact this
    rw [this]
    simp only [if_true]
    by_cases e : l = 0
    · subst e; simp
    · rw [if_neg e, if_neg (Ne.symm e)]
  | succ j =>
    rw [if_neg (by omega), show j + 1 - 1 = j by omega, ← F_u (fs := fs) (w := w) (show j < N by omega)]
    rfl
theorem vl_at {l : Nat} {ini : Nat → Int} {j : Nat} : ∀ {m : Nat}, (∃ i, i < m ∧ T.st.b i = (j : Int) ∧ vl T l ini m j = T.R i l) ∨ ((∀ i, i < m → T.st.b i ≠ (j : Int)) ∧ vl T l ini m j = ini j)
  | 0 => .inr ⟨fun _ h => by omega, rfl⟩
  | m + 1 => by
    by_cases e : T.st.b m = (j : Int)
    · exact .inl ⟨m, by omega, e, by simp [vl, e]⟩
    · have d : vl T l ini (m + 1) j = vl T l ini m j := by simp [vl, e]
      rcases vl_at (l := l) (ini := ini) (j := j) (m := m) with ⟨i, hi, e1, e2⟩ | ⟨e1, e2⟩
      · exact .inl ⟨i, by omega, e1, by rw [d]; exact e2⟩
      · refine .inr ⟨fun i hi => ?_, by rw [d]; exact e2⟩
        by_cases c : i = m
        · subst c; exact e
        · exact e1 i (by omega)
theorem vl_en0 (g : Sg (prob N fs w) T.st s) {j : Nat} (hj : j < N) : vl T 0 (fun _ => 0) (fs.length + 1) j = En (prob N fs w) T.st s (j : Int) 0 := by
  have hp : (prob N fs w).m = fs.length + 1 := rfl
  rcases vl_at (T := T) (l := 0) (ini := fun _ => 0) (j := j) (m := fs.length + 1) with ⟨i, hi, e1, e2⟩ | ⟨e1, e2⟩
  · rw [e2, ← e1, g.b (by rw [hp]; exact hi) (by omega)]
    rfl
  · rw [e2]
    rcases g.o.all (j : Int) (by omega) (by show _ < (N : Int) + ((fs.length + 1 : Nat) : Int) - 1; omega) with ⟨i, hi, e⟩ | ⟨k, hk, e⟩
    · exact (e1 i hi e).elim
    · rw [← e, g.h hk (by omega), if_neg (by omega)]
theorem vl_enk (g : Sg (prob N fs w) T.st s) {j k : Nat} (hj : j < N) (hk : k < N) : vl T (k + 1) (hd0 T k) (fs.length + 1) j = En (prob N fs w) T.st s (j : Int) (k + 1) := by
  have hp : (prob N fs w).m = fs.length + 1 := rfl
  rcases vl_at (T := T) (l := k + 1) (ini := hd0 T k) (j := j) (m := fs.length + 1) with ⟨i, hi, e1, e2⟩ | ⟨e1, e2⟩
  · rw [e2, ← e1, g.b (by rw [hp]; exact hi) (by show _ < N + 1; omega)]
    rfl
  · rw [e2]
    rcases g.o.all (j : Int) (by omega) (by show _ < (N : Int) + ((fs.length + 1 : Nat) : Int) - 1; omega) with ⟨i, hi, e⟩ | ⟨k', hk', e⟩
    · exact (e1 i hi e).elim
    · unfold hd0
      rw [← e, g.h hk' (by show _ < N + 1; omega)]
      by_cases c : k = k'
      · subst c; simp; rfl
      · rw [if_neg (fun z => c (g.o.hi k k' hk hk' z)), if_neg (by omega)]
/-- a form at the point of a table -/
theorem rv_pt (g : Sg (prob N fs w) T.st s) {f : List Int} {v : Int} (hf : ∀ c, c < N + 1 → (prob N fs w).F v c = f.getD c 0) : rv N f (ptL N (fs.length + 1) T) * ((T.D : Int) : Rat) = ((En (prob N fs w) T.st s v 0 : Int) : Rat) := by
  have d0 : 0 < T.D := g.o.pos
  have d1 := cast_pos d0
  rw [en_sum g (by omega), sq_cast]
  unfold rv
  rw [Rat.mul_comm, ← sq_mul]
  refine sq_congr fun c hc => ?_
  rw [hf c hc, Rat.intCast_mul, ← Rat.mul_assoc, Rat.mul_comm ((T.D : Int) : Rat), Rat.mul_assoc]
  congr 1
  by_cases e : c = 0
  · simp only [xq, e, if_true]
    grind
  · rw [if_neg e]
    unfold xq ptL
    rw [if_neg e]
    have : ((List.range N).map fun j => mkF (vl T 0 (fun _ => 0) (fs.length + 1) j) T.D).getD (c - 1) (0, 1) = mkF (vl T 0 (fun _ => 0) (fs.length + 1) (c - 1)) T.D := by
      simp only [List.getD, List.getElem?_map, List.getElem?_range (show c - 1 < N by omega), Option.map_some, Option.getD_some]
    rw [this, qv_mk d0, vl_en0 g (by omega)]
    grind
/-- at the point of a table that is feasible the forms are 0 or more -/
theorem pt_ok (g : Good (prob N fs w) T) (fe : Fe (prob N fs w) T) : ∀ f ∈ fs, 0 ≤ rv N f (ptL N (fs.length + 1) T) := by
  intro f m
  obtain ⟨t, ht, e⟩ := List.getElem_of_mem m
  obtain ⟨s, q⟩ := g.ok.sg
  have d1 := cast_pos (show 0 < T.D from g.ok.pos)
  have z := rv_pt q (f := f) (v := (N : Int) + (t : Nat)) fun c _ => by
    rw [prob_s]
    congr 1
    simp [List.getD, ht, e]
  have nn : 0 ≤ En (prob N fs w) T.st s ((N : Int) + (t : Nat)) 0 := by
    have hF : Feas (prob N fs w) T.st ((N : Int) + (t : Nat) + 1) := fe.feas
    refine hF.val q (by show (N : Int) ≤ _; omega) (by omega) ?_
    rcases g.ok.all ((N : Int) + (t : Nat)) (by omega) (by show _ < (N : Int) + ((fs.length + 1 : Nat) : Int) - 1; omega) with h | h
    · exact .inr h
    · exact .inl h
  have nn' : (0 : Rat) ≤ ((En (prob N fs w) T.st s ((N : Int) + (t : Nat)) 0 : Int) : Rat) := by
    have := Rat.intCast_le_intCast.mpr nn
    exact this
  rw [← z] at nn'
  apply Classical.byContradiction
  intro c
  have c' : rv N f (ptL N (fs.length + 1) T) < 0 := Rat.not_le.mp c
  have : rv N f (ptL N (fs.length + 1) T) * ((T.D : Int) : Rat) < 0 := by
    have h1 := Rat.mul_pos (a := - rv N f (ptL N (fs.length + 1) T)) (b := ((T.D : Int) : Rat)) (by grind) d1
    grind
  grind
/-! ### weights -/
theorem wv_sum {r : List Int} {i : Nat} (o : OK (prob N fs w) T.st) (hr : ∀ l, r.getD l 0 = T.R i l) {t : Nat} : ∀ {k : Nat}, k ≤ N → wv N T r k t = sm k fun k' => if T.st.h k' = (N : Int) + t then - T.R i (k' + 1) else 0
  | 0, _ => rfl
  | k + 1, h => by
    have ih := wv_sum o hr (t := t) (k := k) (by omega)
    simp only [wv, sm]
    by_cases e : T.st.h k = (N : Int) + t
    · rw [if_pos e, if_pos e, hr, sm_zero fun k' hk' => ?_]
      · omega
      · rw [if_neg]
        intro z
        have := o.hi k' k (by show k' < N; omega) (by show k < N; omega) (z.trans e.symm)
        omega
    · rw [if_neg e, if_neg e, ih]
      omega
theorem pick_sum {x : Int} {m c : Nat} {y : Int} (h0 : (N : Int) ≤ x) (h1 : x < (N : Int) + m) : (sm m fun t => (if x = (N : Int) + (t : Nat) then y else 0) * (prob N fs w).F ((N : Int) + (t : Nat)) c) = y * (prob N fs w).F x c := by
  have e : x = (N : Int) + ((x - N).toNat : Nat) := by omega
  rw [sm_one (k := (x - N).toNat) (by omega) fun i hi ne => by rw [if_neg (by omega), Int.zero_mul], if_pos e, ← e]
theorem pick_none {x : Int} {m c : Nat} {y : Int} (h0 : ¬ (N : Int) ≤ x) : (sm m fun t => (if x = (N : Int) + (t : Nat) then y else 0) * (prob N fs w).F ((N : Int) + (t : Nat)) c) = 0 :=
  sm_zero fun i hi => by rw [if_neg (by omega), Int.zero_mul]
/-- the sum of the forms by the weights of a row -/
theorem w_sum {r : List Int} {i c : Nat} (o : OK (prob N fs w) T.st) (hr : ∀ l, r.getD l 0 = T.R i l) :
    (sm fs.length fun t => wv N T r N t * (prob N fs w).F ((N : Int) + (t : Nat)) c) = - sm N fun k => if (N : Int) ≤ T.st.h k then T.R i (k + 1) * (prob N fs w).F (T.st.h k) c else 0 := by
  have e : (sm fs.length fun t => wv N T r N t * (prob N fs w).F ((N : Int) + (t : Nat)) c) = sm fs.length fun t => sm N fun k => (if T.st.h k = (N : Int) + t then - T.R i (k + 1) else 0) * (prob N fs w).F ((N : Int) + (t : Nat)) c := sm_congr fun t _ => by
    rw [wv_sum o hr (Nat.le_refl _), Int.mul_comm, ← sm_mul]
    exact sm_congr fun k _ => Int.mul_comm ..
  rw [e, sm_swap, ← sm_neg]
  refine sm_congr fun k hk => ?_
  by_cases z : (N : Int) ≤ T.st.h k
  · have := (o.rh k hk).2
    rw [pick_sum z (by have : T.st.h k < (N : Int) + ((fs.length + 1 : Nat) : Int) - 1 := this; omega), if_pos z, Int.neg_mul]
  · rw [pick_none z, if_neg z]
    rfl
/-- the numbers above -R i 0 of the weights of a row that lacks -/
def nw (N : Nat) (T : Tb) (r : List Int) (own : Int) (t : Nat) : Int := if own = (N : Int) + t then T.D else wv N T r N t
theorem none_sum {r : List Int} {i c : Nat} (g : Good (prob N fs w) T) (z : FZ (prob N fs w) T) (hi : i < fs.length + 1) (hb : (N : Int) ≤ T.st.b i) (hr : ∀ l, r.getD l 0 = T.R i l) (hc : c < N + 1) :
    (sm fs.length fun t => nw N T r (T.st.b i) t * (prob N fs w).F ((N : Int) + (t : Nat)) c) = if c = 0 then T.R i 0 else 0 := by
  have e : (sm fs.length fun t => nw N T r (T.st.b i) t * (prob N fs w).F ((N : Int) + (t : Nat)) c) = sm fs.length fun t => (if T.st.b i = (N : Int) + t then T.D else 0) * (prob N fs w).F ((N : Int) + (t : Nat)) c + wv N T r N t * (prob N fs w).F ((N : Int) + (t : Nat)) c := sm_congr fun t _ => by
    unfold nw
    by_cases q : T.st.b i = (N : Int) + t
    · have : wv N T r N t = 0 := by
        rw [wv_sum g.ok hr (Nat.le_refl _)]
        refine sm_zero fun k hk => ?_
        rw [if_neg]
        intro y
        exact g.ok.bh i k hi hk (q.trans y.symm)
      rw [if_pos q, if_pos q, this, Int.zero_mul, Int.add_zero]
    · rw [if_neg q, if_neg q, Int.zero_mul, Int.zero_add]
  rw [e, sm_add, pick_sum hb (by have := (g.ok.rb i hi).2; have : T.st.b i < (N : Int) + ((fs.length + 1 : Nat) : Int) - 1 := this; omega), w_sum g.ok hr]
  have rel := g.ok.rel i hi c hc
  have rel : T.D * (prob N fs w).F (T.st.b i) c = sm (N + 1) fun l => T.R i l * Hd (prob N fs w) T.st l c := rel
  rw [sm_first] at rel
  have e2 : (sm N fun k => T.R i (k + 1) * Hd (prob N fs w) T.st (k + 1) c) = sm N fun k => if (N : Int) ≤ T.st.h k then T.R i (k + 1) * (prob N fs w).F (T.st.h k) c else 0 := sm_congr fun k hk => by
    rw [Hd_succ]
    by_cases q : (N : Int) ≤ T.st.h k
    · rw [if_pos q]
    · rw [if_neg q, z k hk (by show T.st.h k < N; omega) i hi hb, Int.zero_mul]
  rw [e2, Hd_zero] at rel
  rw [rel]
  have : T.R i 0 * un 0 c = if c = 0 then T.R i 0 else 0 := by
    unfold un
    by_cases q : c = 0
    · simp [q]
    · simp [q]
  rw [this]
  omega
theorem nw_pos {r : List Int} {i : Nat} (g : Good (prob N fs w) T) (hr : ∀ l, r.getD l 0 = T.R i l) (no : ∀ j, j < N → (N : Int) ≤ T.st.h j → T.R i (j + 1) ≤ 0) (t : Nat) : 0 ≤ nw N T r (T.st.b i) t := by
  unfold nw
  split
  · have := g.ok.pos
    exact Int.le_of_lt this
  · rw [wv_sum g.ok hr (Nat.le_refl _)]
    refine sm_nonneg fun k hk => ?_
    split
    · have := no k hk (by omega)
      omega
    · exact Int.le_refl _
/-- where weights show that none fit none do -/
theorem none_no {i : Nat} (g : Good (prob N fs w) T) (z : FZ (prob N fs w) T) (l : Lk (prob N fs w) T i) (no : ∀ j, j < N → (N : Int) ≤ T.st.h j → T.R i (j + 1) ≤ 0) {as : List (Int × Int)} (h : ∀ f ∈ fs, 0 ≤ rv N f as) : False := by
  obtain ⟨r, _, _, _, hr⟩ : ∃ r, T.rows[i]? = some r ∧ T.rows.getD i [] = r ∧ r.length = N + 1 ∧ ∀ l, r.getD l 0 = T.R i l := by
    obtain ⟨r, e1, e2, e3⟩ := g.wf.row l.1
    exact ⟨r, e1, e2, e3, fun l => by unfold Tb.R; rw [e2]⟩
  have nn : 0 ≤ sq fs.length fun t => ((nw N T r (T.st.b i) t : Int) : Rat) * rv N (fs.getD t []) as := sq_nonneg fun t ht => by
    refine Rat.mul_nonneg (Rat.intCast_le_intCast.mpr (nw_pos g hr no t)) (h _ ?_)
    simp only [List.getD, List.getElem?_eq_getElem ht, Option.getD_some]
    exact List.getElem_mem ht
  have e : (sq fs.length fun t => ((nw N T r (T.st.b i) t : Int) : Rat) * rv N (fs.getD t []) as) = sq (N + 1) fun c => xq as c * (((if c = 0 then T.R i 0 else 0 : Int)) : Rat) := by
    have e1 : (sq fs.length fun t => ((nw N T r (T.st.b i) t : Int) : Rat) * rv N (fs.getD t []) as) = sq fs.length fun t => sq (N + 1) fun c => xq as c * ((nw N T r (T.st.b i) t * (prob N fs w).F ((N : Int) + (t : Nat)) c : Int) : Rat) := sq_congr fun t _ => by
      unfold rv
      rw [← sq_mul]
      refine sq_congr fun c _ => ?_
      rw [prob_s, Rat.intCast_mul]
      grind
    rw [e1, sq_swap]
    refine sq_congr fun c hc => ?_
    rw [sq_mul, ← sq_cast, none_sum g z l.1 l.2.1 hr hc]
  rw [e, sq_one (k := 0) (by omega) fun c _ ne => by
    rw [if_neg ne]
    have : ((0 : Int) : Rat) = 0 := rfl
    rw [this]; grind] at nn
  simp only [xq, if_true] at nn
  have : ((T.R i 0 : Int) : Rat) < ((0 : Int) : Rat) := Rat.intCast_lt_intCast.mpr l.2.2.1
  have z0 : ((0 : Int) : Rat) = 0 := rfl
  rw [z0] at this
  grind
/-- of the wish nothing there is nothing to gain -/
theorem zero_row (g : Good (prob N fs w) T) (hw : ∀ c, w.getD c 0 = 0) {l : Nat} (hl : l < N + 1) : T.R fs.length l = 0 := by
  obtain ⟨s, q⟩ := g.ok.sg
  have e := q.b (i := fs.length) (l := l) (by show _ < fs.length + 1; omega) hl
  have lb : T.st.b fs.length = -1 := g.last
  rw [lb] at e
  have : En (prob N fs w) T.st s (-1) l = 0 := by
    rw [en_sum q hl]
    refine sm_zero fun c _ => ?_
    rw [prob_w, hw, Int.zero_mul]
  rw [this] at e
  exact e.symm
end
end Lb
end
section
set_option Elab.async false
set_option linter.all false
set_option maxRecDepth 100000
set_option maxHeartbeats 1000000
/-! amounts by a point -/
namespace Lb
open PySem Ri.Z Lm
open Ri (Cl W O Hw hset hdel En KW XW Calls Bop Cop Kd Blt Met ItK Tg Ex Sm Df slot put clr clrs bindT bindTs vw toD toDs lim MulOk rep binW eqD eqW flatW eqF inW cmpW isNon atW cutL slW revW kdW isiOk intsOf prsOf blsOf strsOf leP rngW bltW metTy metW fmtV enmW zipW seqW itrW itrV itsOf fldW isCls frzW delW isEnd initOf nmOf lcL lcL2 wpE wpEs wpJ Dn puts setW atLI augW storeF lstAt isLoL insAt handle forL whlP wpS wpSs wpHs start wpF callD)
def amP (w : Wb) (pt : List (Int × Int)) : Am := ⟨pt.take w.n, (List.range w.l).map fun lot => if hasScale w.m lot = true then pt.getD (w.n + lot) (0, 1) else (1, 1), (List.range w.l).map fun lot => if hasShift w.m lot = true then pt.getD (w.n + w.l + lot) (0, 1) else (0, 1)⟩
theorem cutTo {α : Type} {ws : List α} {n : Nat} : cutL ws none (some (n : Int)) = ws.take n := by
  unfold cutL
  rw [HT.sIx_none, HT.sIx_nat]
  simp only [List.drop_zero, Nat.sub_zero]
  by_cases h : n ≤ ws.length
  · rw [Nat.min_eq_left h]
  · rw [Nat.min_eq_right (by omega), List.take_of_length_le (Nat.le_refl _), List.take_of_length_le (by omega)]
theorem ie_fld {c : Ri.Cl} {k : Nat} {o : Ri.Ex} {i : Int} : isEnd (.fld c k o) (.int i) = true := rfl
section
variable {w : Wb} {pt : List (Int × Int)}
theorem amP_len (h : pt.length = w.n + 2 * w.l) : (amP w pt).lv.length = w.n ∧ (amP w pt).sc.length = w.l ∧ (amP w pt).sh.length = w.l := by
  refine ⟨?_, ?_, ?_⟩
  · show (pt.take w.n).length = _
    rw [List.length_take]; omega
  · show ((List.range w.l).map _).length = _
    simp
  · show ((List.range w.l).map _).length = _
    simp
/-- the factors of amounts that are known are 0 -/
def Supp (w : Wb) (f : List Int) : Prop := (∀ lot, lot < w.l → hasScale w.m lot = false → f.getD (1 + w.n + lot) 0 = 0) ∧ ∀ lot, lot < w.l → hasShift w.m lot = false → f.getD (1 + w.n + w.l + lot) 0 = 0
theorem Supp.add {f : List Int} {i : Nat} {t : Int} (s : Supp w f) (hi : i < f.length) (h1 : ∀ lot, lot < w.l → hasScale w.m lot = false → i ≠ 1 + w.n + lot) (h2 : ∀ lot, lot < w.l → hasShift w.m lot = false → i ≠ 1 + w.n + w.l + lot) : Supp w (addAt f i t) := by
  refine ⟨fun lot hl hs => ?_, fun lot hl hs => ?_⟩
  · rw [getD_addAt hi, if_neg (Ne.symm (h1 lot hl hs)), s.1 lot hl hs]; rfl
  · rw [getD_addAt hi, if_neg (Ne.symm (h2 lot hl hs)), s.2 lot hl hs]; rfl
theorem blank_getD {c : Nat} : (blank w).getD c 0 = 0 := by
  unfold blank
  simp only [List.getD, List.getElem?_replicate]
  split <;> rfl
theorem Supp.blank : Supp w (blank w) := ⟨fun _ _ _ => blank_getD, fun _ _ _ => blank_getD⟩
theorem Supp.putL {f : List Int} {s : Nat} {t : Int} (h : Supp w f) (hf : f.length = w.len) (hs : s < w.n) : Supp w (putL f s t) := h.add (by rw [hf]; unfold Wb.len; omega) (fun _ _ _ => by omega) fun _ _ _ => by omega
theorem Supp.putR {f : List Int} {lot : Nat} {r t : Int} (h : Supp w f) (hf : f.length = w.len) (hl : lot < w.l) : Supp w (putR w f lot r t) := by
  have h1 : Supp w (putR1 w f lot r t) := by
    unfold putR1
    split
    · rename_i c
      refine h.add (by rw [hf]; unfold Wb.len; omega) (fun l' hl' hs e => ?_) fun _ _ _ => by omega
      have : l' = lot := by omega
      subst this
      rw [c] at hs
      cases hs
    · exact h.add (by rw [hf]; unfold Wb.len; omega) (fun _ _ _ => by omega) fun _ _ _ => by omega
  unfold Lb.putR
  split
  · rename_i c
    refine h1.add (by rw [putR1_len, hf]; unfold Wb.len; omega) (fun _ _ _ => by omega) fun l' hl' hs e => ?_
    have : l' = lot := by omega
    subst this
    rw [c] at hs
    cases hs
  · exact h1
theorem supp_forms (ok : w.ok) : ∀ f ∈ w.forms, Supp w f := by
  have lb : (Lb.blank w).length = w.len := blank_len
  intro f m
  rcases List.mem_append.mp m with m | m
  · obtain ⟨r, mr, mf⟩ := List.mem_flatMap.mp m
    obtain ⟨o1, o2⟩ := ok.2.2.2 r mr
    have p0 : ∀ t, Supp w (Lb.putL (Lb.blank w) r.s t) := fun t => Supp.blank.putL lb o1
    have l0 : ∀ t, (Lb.putL (Lb.blank w) r.s t).length = w.len := fun t => by rw [putL_len, lb]
    unfold formsOf at mf
    cases hk : r.k <;> simp only [hk] at mf o2 <;> simp only [List.mem_cons, List.not_mem_nil, or_false] at mf
    · rcases mf with e | e <;> subst e
      · exact (p0 _).putR (l0 _) o2.1
      · exact (p0 _).putR (l0 _) o2.1
    · subst mf
      exact (p0 _).putR (l0 _) o2.1
    · rcases mf with e | e <;> subst e
      · exact (p0 _).add (by rw [l0]; unfold Wb.len; omega) (fun _ _ _ => by omega) fun _ _ _ => by omega
      · exact (p0 _).add (by rw [l0]; unfold Wb.len; omega) (fun _ _ _ => by omega) fun _ _ _ => by omega
  · obtain ⟨k, mk, mf⟩ := List.mem_flatMap.mp m
    unfold scaleForms at mf
    split at mf
    · rename_i c
      have key : ∀ v u : Int, Supp w (((Lb.blank w).set 0 v).set (1 + w.n + (1 + k)) u) := fun v u => by
        have kk := List.mem_range.mp mk
        have l2 : ((Lb.blank w).set 0 v).length = w.len := by rw [List.length_set, lb]
        have gen : ∀ c', c' ≠ 1 + w.n + (1 + k) → c' ≠ 0 → (((Lb.blank w).set 0 v).set (1 + w.n + (1 + k)) u).getD c' 0 = 0 := fun c' n1 n2 => by
          simp only [List.getD, List.getElem?_set]
          rw [if_neg (Ne.symm n1), if_neg (Ne.symm n2)]
          exact blank_getD
        refine ⟨fun lot hl hs => gen _ (fun e => ?_) (by omega), fun lot hl hs => gen _ (by omega) (by omega)⟩
        have : lot = 1 + k := by omega
        rw [this, c] at hs
        cases hs
      simp only [List.mem_cons, List.not_mem_nil, or_false] at mf
      rcases mf with e | e <;> subst e <;> exact key _ _
    · cases mf
/-- a form has the same value at the point and at its amounts -/
theorem rv_amP (h : pt.length = w.n + 2 * w.l) {f : List Int} (s : Supp w f) : rv (w.n + 2 * w.l) f (amP w pt).all = rv (w.n + 2 * w.l) f pt := by
  obtain ⟨l1, l2, l3⟩ := amP_len h
  unfold rv
  refine sq_congr fun c hc => ?_
  by_cases c0 : c = 0
  · subst c0; rfl
  have main : f.getD c 0 = 0 ∨ xq (amP w pt).all c = xq pt c := by
    unfold xq
    rw [if_neg c0, if_neg c0]
    by_cases c1 : c - 1 < w.n
    · refine .inr ?_
      congr 1
      unfold Am.all
      simp only [List.getD, List.append_assoc]
      rw [List.getElem?_append_left (by rw [l1]; exact c1)]
      show ((pt.take w.n)[c - 1]?).getD _ = _
      rw [List.getElem?_take, if_pos c1]
    · by_cases c2 : c - 1 < w.n + w.l
      · obtain ⟨lot, hl⟩ : ∃ lot, c = 1 + w.n + lot := ⟨c - 1 - w.n, by omega⟩
        have hl2 : lot < w.l := by omega
        cases hs : hasScale w.m lot with
        | false => exact .inl (by rw [hl]; exact s.1 lot hl2 hs)
        | true =>
          refine .inr ?_
          congr 1
          unfold Am.all
          simp only [List.getD, List.append_assoc]
          rw [List.getElem?_append_right (by rw [l1]; omega), l1, List.getElem?_append_left (by rw [l2]; omega)]
          show (((List.range w.l).map _)[c - 1 - w.n]?).getD _ = _
          rw [List.getElem?_map, show c - 1 - w.n = lot by omega, List.getElem?_range hl2]
          simp only [Option.map_some, Option.getD_some, hs, if_true]
          rw [show c - 1 = w.n + lot by omega]
          rfl
      · obtain ⟨lot, hl⟩ : ∃ lot, c = 1 + w.n + w.l + lot := ⟨c - 1 - w.n - w.l, by omega⟩
        have hl2 : lot < w.l := by omega
        cases hs : hasShift w.m lot with
        | false => exact .inl (by rw [hl]; exact s.2 lot hl2 hs)
        | true =>
          refine .inr ?_
          congr 1
          unfold Am.all
          simp only [List.getD, List.append_assoc]
          rw [List.getElem?_append_right (by rw [l1]; omega), l1, List.getElem?_append_right (by rw [l2]; omega), l2]
          show (((List.range w.l).map _)[c - 1 - w.n - w.l]?).getD _ = _
          rw [List.getElem?_map, show c - 1 - w.n - w.l = lot by omega, List.getElem?_range hl2]
          simp only [Option.map_some, Option.getD_some, hs, if_true]
          rw [show c - 1 = w.n + w.l + lot by omega]
          rfl
  rcases main with e | e
  · rw [e]
    have : ((0 : Int) : Rat) = 0 := rfl
    rw [this]; grind
  · rw [e]
/-- the scale of a lot, by the forms -/
theorem scale_at (h : pt.length = w.n + 2 * w.l) {lot : Nat} (h1 : 1 ≤ lot) (hl : lot < w.l) (hs : hasScale w.m lot = true) (d : 0 < (pt.getD (w.n + lot) (0, 1)).2) (hf : ∀ f ∈ w.forms, 0 ≤ rv (w.n + 2 * w.l) f pt) :
    (pt.getD (w.n + lot) (0, 1)).2 ≤ 4 * (pt.getD (w.n + lot) (0, 1)).1 ∧ (pt.getD (w.n + lot) (0, 1)).1 ≤ 4 * (pt.getD (w.n + lot) (0, 1)).2 := by
  have lb : (Lb.blank w).length = w.n + 2 * w.l + 1 := by rw [blank_len]; unfold Wb.len; omega
  have z1 : ∀ v, ((Lb.blank w).set 0 v).getD (1 + w.n + lot) 0 = 0 := fun v => by
    rw [Lm.Tb.getD_set (by rw [lb]; omega), if_neg (by omega), blank_getD]
  have e : ∀ v u : Int, rv (w.n + 2 * w.l) (((Lb.blank w).set 0 v).set (1 + w.n + lot) u) pt = (v : Rat) + (u : Rat) * xq pt (1 + w.n + lot) := fun v u => by
    rw [rv_set (by rw [List.length_set, lb]) (by omega) (z1 v), rv_set lb (by omega) blank_getD, rv_blank]
    simp only [xq, if_true]
    grind
  have mem : ∀ f ∈ scaleForms w lot, f ∈ w.forms := fun f m => List.mem_append_right _ (List.mem_flatMap.mpr ⟨lot - 1, List.mem_range.mpr (by omega), by rw [show 1 + (lot - 1) = lot by omega]; exact m⟩)
  unfold scaleForms at mem
  rw [if_pos hs] at mem
  have a1 := hf _ (mem _ (List.mem_cons_self ..))
  have a2 := hf _ (mem _ (List.mem_cons_of_mem _ (List.mem_cons_self ..)))
  rw [e] at a1 a2
  have ex : xq pt (1 + w.n + lot) = qv (pt.getD (w.n + lot) (0, 1)) := by
    unfold xq
    rw [if_neg (by omega), show 1 + w.n + lot - 1 = w.n + lot by omega]
  rw [ex] at a1 a2
  generalize pt.getD (w.n + lot) (0, 1) = p at *
  have q1 : qv (1, 4) = 1 / 4 := by unfold qv; decide +kernel
  have q2 : qv (4, 1) = 4 := by unfold qv; decide +kernel
  have c1 : ((-1 : Int) : Rat) = -1 := rfl
  have c4 : ((4 : Int) : Rat) = 4 := rfl
  rw [c1, c4] at a1 a2
  have b1 := (qv_le (p := (1, 4)) (s := p) (by decide) d).mpr (by rw [q1]; grind)
  have b2 := (qv_le (p := p) (s := (4, 1)) d (by decide)).mpr (by rw [q2]; grind)
  have b1 : 1 * p.2 ≤ p.1 * 4 := b1
  have b2 : p.1 * 1 ≤ 4 * p.2 := b2
  omega
/-- the amounts of a point at which the forms are 0 or more are amounts that fit -/
theorem amP_ok (wk : w.ok) (h : pt.length = w.n + 2 * w.l) (fr : ∀ p ∈ pt, FrOk p) (hf : ∀ f ∈ w.forms, 0 ≤ rv (w.n + 2 * w.l) f pt) : (amP w pt).ok w := by
  obtain ⟨l1, l2, l3⟩ := amP_len h
  have gp : ∀ i, FrOk (pt.getD i (0, 1)) := fun i => by
    by_cases hi : i < pt.length
    · simp only [List.getD, List.getElem?_eq_getElem hi, Option.getD_some]
      exact fr _ (List.getElem_mem hi)
    · simp only [List.getD, List.getElem?_eq_none (by omega : pt.length ≤ i), Option.getD_none]
      unfold FrOk; decide
  refine ⟨l1, l2, l3, fun p m => fr p (List.mem_of_mem_take m), fun p m => ?_, fun p m => ?_, fun i hi hs => ?_, fun i hi hs => ?_⟩
  · obtain ⟨lot, ml, e⟩ := List.mem_map.mp m
    have hl := List.mem_range.mp ml
    subst e
    cases hs : hasScale w.m lot with
    | false =>
      simp only [Bool.false_eq_true, if_false]
      unfold ScOk FrOk
      decide
    | true =>
      simp only [if_true]
      have h1 : 1 ≤ lot := by
        unfold hasScale at hs
        simp at hs
        omega
      exact ⟨gp _, scale_at h h1 hl hs (by have := (gp (w.n + lot)).1; omega) hf⟩
  · obtain ⟨lot, ml, e⟩ := List.mem_map.mp m
    subst e
    cases hs : hasShift w.m lot with
    | false =>
      simp only [Bool.false_eq_true, if_false]
      unfold FrOk
      decide
    | true =>
      simp only [if_true]
      exact gp _
  · show ((List.range w.l).map _)[i]? = _
    rw [List.getElem?_map, List.getElem?_range hi]
    simp [hs]
  · show ((List.range w.l).map _)[i]? = _
    rw [List.getElem?_map, List.getElem?_range hi]
    simp [hs]
theorem pb_const : PB (1, 1) ∧ PB (0, 1) := by
  have e : (2 : Nat) ^ 1 ≤ 2 ^ 600 := Nat.pow_le_pow_right (by decide) (by omega)
  unfold PB
  simp only [Int.natAbs_one, Int.natAbs_zero]
  generalize (2 : Nat) ^ 600 = M at *
  omega
theorem amP_pb (h : ∀ p ∈ pt, PB p) : ∀ p ∈ (amP w pt).all, PB p := by
  have gp : ∀ i, PB (pt.getD i (0, 1)) := fun i => by
    by_cases hi : i < pt.length
    · simp only [List.getD, List.getElem?_eq_getElem hi, Option.getD_some]
      exact h _ (List.getElem_mem hi)
    · simp only [List.getD, List.getElem?_eq_none (by omega : pt.length ≤ i), Option.getD_none]
      exact pb_const.2
  intro p m
  unfold Am.all at m
  simp only [List.mem_append] at m
  rcases m with (m | m) | m
  · exact h p (List.mem_of_mem_take m)
  · obtain ⟨lot, _, e⟩ := List.mem_map.mp m
    subst e
    split
    · exact gp _
    · exact pb_const.1
  · obtain ⟨lot, _, e⟩ := List.mem_map.mp m
    subst e
    split
    · exact gp _
    · exact pb_const.2
end
/-! ### the point of a table -/
section
variable {N m : Nat} {T : Tb}
theorem mkF_pb5 {a b : Int} (h : 0 < b) (h1 : a.natAbs ≤ 2 ^ 525) (h2 : b.natAbs ≤ 2 ^ 525) : PB (mkF a b) := by
  have d := mkF_den (a := a) h
  have n := mkF_num (a := a) h
  have e : (2 : Nat) ^ 525 ≤ 2 ^ 600 := Nat.pow_le_pow_right (by decide) (by omega)
  unfold PB
  generalize (2 : Nat) ^ 600 = M at *
  generalize (2 : Nat) ^ 525 = M2 at *
  omega
theorem vl_bd {l : Nat} {ini : Nat → Int} {j : Nat} {B : Nat} (hr : ∀ i, i < m → (T.R i l).natAbs ≤ B) (hi : (ini j).natAbs ≤ B) : (vl T l ini m j).natAbs ≤ B := by
  rcases vl_at (T := T) (l := l) (ini := ini) (j := j) (m := m) with ⟨i, h, _, e⟩ | ⟨_, e⟩
  · rw [e]; exact hr i h
  · rw [e]; exact hi
theorem pt_fr (d0 : 0 < T.D) (hr : ∀ i, i < m → (T.R i 0).natAbs ≤ 2 ^ 525) (hd : T.D.natAbs ≤ 2 ^ 525) : (∀ p ∈ ptL N m T, FrOk p) ∧ (∀ p ∈ ptL N m T, PB p) ∧ (ptL N m T).length = N := by
  refine ⟨fun p h => ?_, fun p h => ?_, by simp [ptL]⟩
  · obtain ⟨j, _, e⟩ := List.mem_map.mp h
    subst e
    exact mkF_ok d0
  · obtain ⟨j, _, e⟩ := List.mem_map.mp h
    subst e
    exact mkF_pb5 d0 (vl_bd hr (by simp)) hd
end
/-- weights that show that no amounts fit -/
def Cert (w : Wb) (ws : List (Int × Int)) : Prop := ∃ (nu : Nat → Int) (d : Int), 0 < d ∧ ws = (List.range w.forms.length).map (fun t => mkF (nu t) d) ∧ (∀ t, t < w.forms.length → 0 ≤ nu t) ∧ (∀ p ∈ ws, PB p) ∧
  ∀ c, c < w.n + 2 * w.l + 1 → (sm w.forms.length fun t => nu t * (w.forms.getD t []).getD c 0) = if c = 0 then -d else 0
theorem FB_of {N : Nat} {fs : List (List Int)} {wi : List Int} (h1 : ∀ f ∈ fs, Bd 4000000000 f) (h2 : Bd 4000000000 wi) : FB (prob N fs wi) (2 ^ 32) := by
  have gd : ∀ (xs : List Int), Bd 4000000000 xs → ∀ c, (xs.getD c 0).natAbs ≤ 2 ^ 32 := fun xs h c => by
    by_cases hc : c < xs.length
    · simp only [List.getD, List.getElem?_eq_getElem hc, Option.getD_some]
      have := h _ (List.getElem_mem hc)
      omega
    · simp only [List.getD, List.getElem?_eq_none (by omega : xs.length ≤ c), Option.getD_none]
      decide
  intro v c _
  show (if v = -1 then wi.getD c 0 else if v < N then un (v.toNat + 1) c else (fs.getD (v - N).toNat []).getD c 0).natAbs ≤ 2 ^ 32
  split
  · exact gd _ h2 c
  · split
    · exact un_le (by decide)
    · by_cases hi : (v - N).toNat < fs.length
      · simp only [List.getD_eq_getElem?_getD (l := fs), List.getElem?_eq_getElem hi, Option.getD_some]
        exact gd _ (h1 _ (List.getElem_mem hi)) c
      · simp only [List.getD_eq_getElem?_getD (l := fs), List.getElem?_eq_none (by omega : fs.length ≤ (v - N).toNat), Option.getD_none]
        exact gd [] (fun _ m => (nomatch m)) c
/-- amounts that are amounts, of some size -/
structure AmG (w : Wb) (A : Am) : Prop where
  ok : A.ok w
  pb : ∀ p ∈ A.all, PB p
end Lb
end
section
set_option Elab.async false
set_option linter.all false
set_option maxRecDepth 100000
set_option maxHeartbeats 1000000
namespace K04
open PySem Ri.Z Lb
open Ri (Cl W O Hw hset hdel En KW XW Calls Bop Cop Kd Blt Met ItK Tg Ex Sm Df slot put clr clrs bindT bindTs vw toD toDs lim MulOk rep binW eqD eqW flatW eqF inW cmpW isNon atW cutL slW revW kdW isiOk intsOf prsOf blsOf strsOf leP rngW bltW metTy metW fmtV enmW zipW seqW itrW itrV itsOf fldW isCls frzW delW isEnd initOf nmOf lcL lcL2 wpE wpEs wpJ Dn puts setW atLI augW storeF lstAt isLoL insAt handle forL whlP wpS wpSs wpHs start wpF callD)
local macro_rules | `(tactic| walk_at "ru") => `(tactic| try simp only [r_var, r_int, r_bl, r_non, r_str, r_cst, r_bin, r_neg, r_cmp, r_isN, r_chn, r_and, r_or, r_not, r_ite, r_tup, r_lst, r_sub, r_sli, r_rev, r_call, r_new, r_mth, r_prp, r_eqo, r_fld, r_blt, r_met, r_fmt, r_isi, r_itr, r_lcm, r_lcm2, r_frz, r_own, r_del, r_nil, r_cons, r_jn, r_jc,
  v_set, v_unp, v_par, v_setI, v_augI, v_aug, v_ext, v_setF, v_setII, v_setIN, v_ex, v_app, v_ins, v_revI, v_ret, v_retN, v_ite, v_whl, v_for, v_brk, v_pass, v_frz, v_nil, v_cons,
  okW_some, brW_bl, blW_bl, inW_int, okE_some, tpW_tup, lsW_lst, itW_lst, itW_loc, slot, put, puts, clr, clrs, bindT, bindTs, Option.bind_some, add_i, sub_i, mod_i, add_l, add_t, add_s, rep_l, pow_i, List.any_cons, List.any_nil, List.map_cons, List.map_nil, List.length_cons, List.length_nil,
  iv_seq_l, iv_seq_t, iv_seq_s, iv_rng1, iv_rng2, at_t0, at_t1, at_t2, at_t3, at_l0, at_l1, at_l2, eq_str, eq_int, eq_bl, eq_ll, wt0, wt1, wt2, wt3, frw0, frw1, am0, am1, am2, blist_frs, eq_nn, kx_tuple_fr, kx_list_fr, kx_int_fr, kx_bool_fr, kx_str_fr, ix_fr, nx_fr, kx_tuple_frs, kx_list_frs, kx_int_frs, kx_bool_frs, kx_str_frs, ix_frs, nx_frs, kx_tuple_am, kx_list_am, kx_int_am, kx_bool_am, kx_str_am, ix_am, nx_am, kx_tuple_rd, kx_list_rd, kx_int_rd, kx_bool_rd, kx_str_rd, ix_rd, nx_rd, kx_tuple_fW, kx_list_fW, kx_int_fW, kx_bool_fW, kx_str_fW, ix_fW, nx_fW, kx_tuple_wt, kx_list_wt, kx_int_wt, kx_bool_wt, kx_str_wt, ix_wt, nx_wt, kx_tuple_rw, kx_list_rw, kx_int_rw, kx_bool_rw, kx_str_rw, ix_rw, nx_rw, it_enm_rw, it_enm_l, it_enm_t, in_modes, in_kinds, cut1, b_all, iv_rw, iv_frs, bl_rw, bl_frs, eq_fr, vw_fr, vw_frs, vw_am, vw_rd, vw_fW, vw_t, vw_rw, vv_non, isn_non, isi_non, vv_bl, isn_bl, isi_bl, vv_int, isn_int, isi_int, vv_str, isn_str, isi_str, vv_tup, isn_tup, isi_tup, vv_lst, isn_lst, isi_lst, vv_obj, isn_obj, isi_obj, vv_exc, isn_exc, vv_scr, isn_scr, kd_int_non, kd_int_bl, kd_int_int, kd_int_str, kd_int_tup, kd_int_lst, kd_int_obj, kd_bool_non, kd_bool_bl, kd_bool_int, kd_bool_str, kd_bool_tup, kd_bool_lst, kd_bool_obj, kd_str_non, kd_str_bl, kd_str_int, kd_str_str, kd_str_tup, kd_str_lst, kd_str_obj, kd_tuple_non, kd_tuple_bl, kd_tuple_int, kd_tuple_str, kd_tuple_tup, kd_tuple_lst, kd_tuple_obj, kd_list_non, kd_list_bl, kd_list_int, kd_list_str, kd_list_tup, kd_list_lst, kd_list_obj, cmp_lt, cmp_le, cmp_gt, cmp_ge, cmp_eq, cmp_ne, cmp_inn, cmp_nin, b_lenl, b_lent, b_lens, b_inti, b_abs, b_max2, b_min2, b_tupl, b_tupt, b_lstl, b_lstt, b_lsts, b_lr1, b_strs, b_stri, dw_nil, dw_cons, au_add, au_sub, ie_non_non, ie_non_int, ie_non_bl, ie_non_str, ie_int, ie_var, ie_bin, ie_neg, sl_l, sl_t, sl_ln, sl_tn, sl_lb, fo0, fo1, fo2, fo3, io, kdi, Mo.e1, Mo.e2, Mo.e3, Kn.e1, Kn.e2, Kn.e3, List.append_nil, List.cons_append, List.nil_append, List.replicate, Nat.reduceAdd, Nat.reduceSub, Nat.reduceLeDiff, Nat.reduceEqDiff,
  true_and, and_true, if_true, if_false, decide_eq_true_eq, Bool.not_eq_true', decide_eq_false_iff_not, Bool.or_false, Bool.or_true, Bool.false_or, Bool.true_or, Bool.not_true, Bool.not_false, reduceCtorEq, ite_true, ite_false, Bool.false_eq_true, forall_const, eq_self, decide_true, decide_false, List.contains_cons, List.contains_nil, List.elem_cons, beq_self_eq_true, ne_eq, not_true_eq_false, not_false_eq_true])
local macro_rules | `(tactic| walk_at "st") => `(tactic| ((try refine z_cons ?_); walk_at "ru"))
local macro_rules | `(tactic| walk_at "to") => `(tactic| (refine z_to ?t ?h (fun K hK => ?q1) ?q2))
section
variable {n : Nat} {h : Hw} {P : KW} {E : XW}
theorem s_is_integer {i lo hi : Int} (q : P (.bl (decide (lo ≤ i) && decide (i ≤ hi))) h) : callD T (n + 1) "is_integer" [.int i, .int lo, .int hi] h P E := by
  refine c_is_integer ?_
  walk_at "st"
  by_cases h1 : lo ≤ i
  · simpa [h1] using q
  · simpa [h1] using q
theorem s_has_scale {w : Wb} {lot : Nat} (q : P (.bl (hasScale w.m lot)) h) : callD T (n + 1) "has_scale" [w.o, .int lot] h P E := by
  refine c_has_scale ?_
  walk_at "st"
  by_cases h1 : 0 < lot
  · simpa [h1, hasScale] using q
  · simpa [h1, hasScale] using q
theorem s_has_shift {w : Wb} {lot : Nat} (q : P (.bl (hasShift w.m lot)) h) : callD T (n + 1) "has_shift" [w.o, .int lot] h P E := by
  refine c_has_shift ?_
  walk_at "st"
  by_cases h1 : 0 < lot
  · simpa [h1, hasShift] using q
  · simpa [h1, hasShift] using q
theorem s_blank {w : Wb} (hl : w.l ≤ 4) (hn : w.n ≤ 6) (q : ∀ a, h a = none → P (.loc a) (hset h a (.lst (iws (blank w))))) : callD T (n + 1) "blank" [w.o] h P E := by
  refine c_blank ?_
  walk_at "st"
  rw [mul_l (by decide)]
  walk_at "ru"
  refine ⟨⟨by omega, by omega⟩, fun a ha => ?_⟩
  have e : (1 + (w.n : Int) + 2 * w.l).toNat = w.len := by unfold Wb.len; omega
  rw [e, rep_zero]
  exact q a ha
theorem s_put_level {a : Addr} {row : List Int} {s : Nat} {t : Int} (e : h a = some (.lst (iws row))) (hl : 1 + s < row.length) (q : P .non (hset h a (.lst (iws (putL row s t))))) : callD T (n + 1) "put_level" [.loc a, .int s, .int t] h P E := by
  refine c_put_level ?_
  walk_at "st"
  have e1 : (1 + (s : Int)).toNat = 1 + s := by omega
  rw [vw_loc e, atLI_n (by omega) (by rw [e1]; exact hl), set_n e (by omega) (by rw [e1, iws_len]; exact hl), e1, iws_set]
  exact q
/-- a place of a list of ints in the heap: read, added to, stored -/
theorem aug_at {a : Addr} {row : List Int} {i : Int} {t : Int} {j : Nat} {Q : Hw → Prop} (e : h a = some (.lst (iws row))) (ei : i = (j : Nat)) (hl : j < row.length) (q : Q (hset h a (.lst (iws (addAt row j t))))) :
    atLI (vw h (.loc a)) (.int i) fun z => setW h (.loc a) (.int i) (.int (z + t)) Q := by
  subst ei
  rw [vw_loc e, atLI_n (by omega) (by simpa using hl), set_n e (by omega) (by simpa [iws_len] using hl)]
  simp only [Int.toNat_natCast, iws_set]
  exact q
theorem sub_at {a : Addr} {row : List Int} {i : Int} {t : Int} {j : Nat} {Q : Hw → Prop} (e : h a = some (.lst (iws row))) (ei : i = (j : Nat)) (hl : j < row.length) (q : Q (hset h a (.lst (iws (addAt row j (-t)))))) :
    atLI (vw h (.loc a)) (.int i) fun z => setW h (.loc a) (.int i) (.int (z - t)) Q := by
  have := aug_at (t := -t) e ei hl q
  simpa only [Int.sub_eq_add_neg] using this
theorem s_put_result {w : Wb} {a : Addr} {row : List Int} {lot : Nat} {r t : Int} (e : h a = some (.lst (iws row))) (hl : row.length = w.len) (ho : lot < w.l) (ht : -(2 ^ 64) < t ∧ t < 2 ^ 64) (q : P .non (hset h a (.lst (iws (putR w row lot r t))))) :
    callD T (n + 2) "put_result" [w.o, .loc a, .int lot, .int r, .int t] h P E := by
  refine c_put_result ?_
  refine z_to [some w.o, some (.loc a), some (.int lot), some (.int r), some (.int t)] (hset h a (.lst (iws (putR1 w row lot r t)))) (fun K hK => ?_) ?_
  · walk_at "ru"
    refine s_has_scale ?_
    walk_at "ru"
    unfold putR1 at hK
    split
    · rename_i c
      rw [if_pos c] at hK
      walk_at "st"
      simp only [mul_l ht]
      walk_at "ru"
      exact aug_at e (j := 1 + w.n + lot) (by omega) (by rw [hl]; unfold Wb.len; omega) hK
    · rename_i c
      rw [if_neg c] at hK
      simp only [mul_l ht]
      walk_at "ru"
      exact aug_at e (j := 0) (by rfl) (by rw [hl]; unfold Wb.len; omega) hK
  · walk_at "st"
    refine s_has_shift ?_
    walk_at "ru"
    unfold putR at q
    split
    · rename_i c
      rw [if_pos c] at q
      walk_at "st"
      refine aug_at hset_same (j := 1 + w.n + w.l + lot) (by omega) (by rw [putR1_len, hl]; unfold Wb.len; omega) ?_
      rw [hset_two]
      exact q
    · rename_i c
      rw [if_neg c] at q
      exact q
theorem s_divisor {a b : Int} (q : P (.int (Int.gcd a b : Int)) h) : callD T (n + 1) "divisor" [.int a, .int b] h P E := by
  refine c_divisor ?_
  refine z_to [some (.int a.natAbs), some (.int b.natAbs)] h (fun K hK => ?_) ?_
  · walk_at "ru"
    simp only [absW]
    exact hK
  refine z_cons ?_
  simp only [v_whl]
  refine whl_inv (fun m τ h1 => h1 = h ∧ ∃ x : Nat, τ = [some (.int x), some (.int m)] ∧ Nat.gcd x m = Int.gcd a b) b.natAbs ⟨rfl, _, rfl, rfl⟩ ?_
  rintro m τ h1 ⟨rfl, x, rfl, hg⟩
  walk_at "ru"
  split
  · rename_i c
    have c' : 0 < m := by omega
    refine ⟨by omega, x % m, Nat.mod_lt _ c', m, ?_, ?_⟩
    · rw [Int.natCast_emod]
    · rw [gcd_step]; exact hg
  · rename_i c
    have c' : m = 0 := by omega
    subst c'
    walk_at "st"
    rw [Nat.gcd_zero_right] at hg
    rw [hg]
    exact q
theorem s_fraction {a b : Int} (hb : 0 < b) (hs : b.natAbs < 2 ^ 8999) (q : P (frW (mkF a b)) h) : callD T (n + 2) "fraction" [.int a, .int b] h P E := by
  refine c_fraction ?_
  have g := gcd_pos (a := a) hb
  have g2 := gcd_le (a := a) hb
  have g3 : (Int.gcd a b : Int).natAbs < 2 ^ 8999 := Nat.lt_of_le_of_lt (by omega) hs
  refine z_to [some (.int a), some (.int b), some (.int (Int.gcd a b : Int))] h (fun K hK => ?_) ?_
  · walk_at "ru"
    rw [if_pos hb]
    refine s_divisor ?_
    exact hK
  · walk_at "st"
    rw [fdiv_i (by omega)]
    refine ⟨g3, ?_⟩
    rw [fdiv_i (by omega)]
    refine ⟨g3, ?_⟩
    exact q
end
end K04
end
section
set_option Elab.async false
set_option linter.all false
set_option maxRecDepth 100000
set_option maxHeartbeats 1000000
namespace K04
open PySem Ri.Z Lb Lm
open Ri (Cl W O Hw hset hdel En KW XW Calls Bop Cop Kd Blt Met ItK Tg Ex Sm Df slot put clr clrs bindT bindTs vw toD toDs lim MulOk rep binW eqD eqW flatW eqF inW cmpW isNon atW cutL slW revW kdW isiOk intsOf prsOf blsOf strsOf leP rngW bltW metTy metW fmtV enmW zipW seqW itrW itrV itsOf fldW isCls frzW delW isEnd initOf nmOf lcL lcL2 wpE wpEs wpJ Dn puts setW atLI augW storeF lstAt isLoL insAt handle forL whlP wpS wpSs wpHs start wpF callD)
local macro_rules | `(tactic| walk_at "ru") => `(tactic| try simp only [r_var, r_int, r_bl, r_non, r_str, r_cst, r_bin, r_neg, r_cmp, r_isN, r_chn, r_and, r_or, r_not, r_ite, r_tup, r_lst, r_sub, r_sli, r_rev, r_call, r_new, r_mth, r_prp, r_eqo, r_fld, r_blt, r_met, r_fmt, r_isi, r_itr, r_lcm, r_lcm2, r_frz, r_own, r_del, r_nil, r_cons, r_jn, r_jc,
  v_set, v_unp, v_par, v_setI, v_augI, v_aug, v_ext, v_setF, v_setII, v_setIN, v_ex, v_app, v_ins, v_revI, v_ret, v_retN, v_ite, v_whl, v_for, v_brk, v_pass, v_frz, v_nil, v_cons,
  okW_some, brW_bl, blW_bl, inW_int, okE_some, tpW_tup, lsW_lst, itW_lst, itW_loc, slot, put, puts, clr, clrs, bindT, bindTs, Option.bind_some, add_i, sub_i, mod_i, add_l, add_t, add_s, rep_l, pow_i, List.any_cons, List.any_nil, List.map_cons, List.map_nil, List.length_cons, List.length_nil,
  iv_seq_l, iv_seq_t, iv_seq_s, iv_rng1, iv_rng2, at_t0, at_t1, at_t2, at_t3, at_l0, at_l1, at_l2, eq_str, eq_int, eq_bl, eq_ll, vw_lW, iv_lW, bl_fW, bl_lW, bt_lW, ln_lW, iv_zipL, wt0, wt1, wt2, wt3, frw0, frw1, am0, am1, am2, blist_frs, eq_nn, kx_tuple_fr, kx_list_fr, kx_int_fr, kx_bool_fr, kx_str_fr, ix_fr, nx_fr, kx_tuple_frs, kx_list_frs, kx_int_frs, kx_bool_frs, kx_str_frs, ix_frs, nx_frs, kx_tuple_am, kx_list_am, kx_int_am, kx_bool_am, kx_str_am, ix_am, nx_am, kx_tuple_rd, kx_list_rd, kx_int_rd, kx_bool_rd, kx_str_rd, ix_rd, nx_rd, kx_tuple_fW, kx_list_fW, kx_int_fW, kx_bool_fW, kx_str_fW, ix_fW, nx_fW, kx_tuple_wt, kx_list_wt, kx_int_wt, kx_bool_wt, kx_str_wt, ix_wt, nx_wt, kx_tuple_rw, kx_list_rw, kx_int_rw, kx_bool_rw, kx_str_rw, ix_rw, nx_rw, it_enm_rw, it_enm_l, it_enm_t, in_modes, in_kinds, cut1, b_all, iv_rw, iv_frs, bl_rw, bl_frs, eq_fr, vw_fr, vw_frs, vw_am, vw_rd, vw_fW, vw_t, vw_rw, vv_non, isn_non, isi_non, vv_bl, isn_bl, isi_bl, vv_int, isn_int, isi_int, vv_str, isn_str, isi_str, vv_tup, isn_tup, isi_tup, vv_lst, isn_lst, isi_lst, vv_obj, isn_obj, isi_obj, vv_exc, isn_exc, vv_scr, isn_scr, kd_int_non, kd_int_bl, kd_int_int, kd_int_str, kd_int_tup, kd_int_lst, kd_int_obj, kd_bool_non, kd_bool_bl, kd_bool_int, kd_bool_str, kd_bool_tup, kd_bool_lst, kd_bool_obj, kd_str_non, kd_str_bl, kd_str_int, kd_str_str, kd_str_tup, kd_str_lst, kd_str_obj, kd_tuple_non, kd_tuple_bl, kd_tuple_int, kd_tuple_str, kd_tuple_tup, kd_tuple_lst, kd_tuple_obj, kd_list_non, kd_list_bl, kd_list_int, kd_list_str, kd_list_tup, kd_list_lst, kd_list_obj, cmp_lt, cmp_le, cmp_gt, cmp_ge, cmp_eq, cmp_ne, cmp_inn, cmp_nin, b_lenl, b_lent, b_lens, b_inti, b_abs, b_max2, b_min2, b_tupl, b_tupt, b_lstl, b_lstt, b_lsts, b_lr1, b_strs, b_stri, dw_nil, dw_cons, au_add, au_sub, ie_non_non, ie_non_int, ie_non_bl, ie_non_str, ie_int, ie_var, ie_bin, ie_neg, sl_l, sl_t, sl_ln, sl_tn, sl_lb, fo0, fo1, fo2, fo3, io, kdi, Mo.e1, Mo.e2, Mo.e3, Kn.e1, Kn.e2, Kn.e3, List.append_nil, List.cons_append, List.nil_append, List.replicate, Nat.reduceAdd, Nat.reduceSub, Nat.reduceLeDiff, Nat.reduceEqDiff,
  true_and, and_true, if_true, if_false, decide_eq_true_eq, Bool.not_eq_true', decide_eq_false_iff_not, Bool.or_false, Bool.or_true, Bool.false_or, Bool.true_or, Bool.not_true, Bool.not_false, reduceCtorEq, ite_true, ite_false, Bool.false_eq_true, forall_const, eq_self, decide_true, decide_false, List.contains_cons, List.contains_nil, List.elem_cons, beq_self_eq_true, ne_eq, not_true_eq_false, not_false_eq_true])
local macro_rules | `(tactic| walk_at "st") => `(tactic| ((try refine z_cons ?_); walk_at "ru"))
local macro_rules | `(tactic| walk_at "to") => `(tactic| (refine z_to ?t ?h (fun K hK => ?q1) ?q2))
section
variable {n : Nat} {h : Hw} {P : KW} {E : XW}
theorem big5 {x : Int} (h : x.natAbs ≤ 2 ^ 525) : x.natAbs < 2 ^ 400000 := big h (by decide)
theorem big6 {x y : Int} (hx : x.natAbs ≤ 2 ^ 525) (hy : y.natAbs ≤ 2 ^ 525) {P : W → Prop} : binW .mul (.int x) (.int y) P = P (.int (x * y)) := mul_b (big5 hx) (big5 hy)
theorem den5 {x : Int} (h : x.natAbs ≤ 2 ^ 525) : x.natAbs < 2 ^ 8999 := Nat.lt_of_le_of_lt h (Nat.pow_lt_pow_right (by decide) (by omega))
/-- the sizes of a table -/
structure Sz (N m : Nat) (T : Tb) : Prop where
  w : Tb.Wf N m T
  r : ∀ i l, i < m → l < N + 1 → (T.R i l).natAbs ≤ 2 ^ 525
  d0 : 0 < T.D
  d : T.D.natAbs ≤ 2 ^ 525
theorem s_exchange {t b c : Addr} {N m : Nat} {T : Tb} {p k : Nat} (tw : TW t b c N T h) (z : Sz N m T) (hp : p < m) (hk : k < N) (hN : N ≤ 14) (hm : m ≤ 100)
    (q : ∀ h', TW t b c N (T.ex p k) h' → Fr3 t b c h h' → P .non h') : callD K04.T (n + 1) "Table.exchange" [.loc t, .int p, .int k] h P E := by
  refine c_Table_exchange ?_
  obtain ⟨rp, e1, e2, e3⟩ := z.w.row hp
  walk_at "st"
  simp only [tw.f1]
  walk_at "ru"
  rw [at_ln (rows_get e1)]
  have hk1 : k + 1 < rp.length := by omega
  have kk : ((k : Int) + 1) = ((k + 1 : Nat) : Int) := by omega
  walk_at "st"
  rw [at_lW kk hk1]
  have et : rp.getD (k + 1) 0 = T.R p (k + 1) := by unfold Tb.R; rw [e2]
  rw [et]
  walk_at "st"
  intro f hf
  obtain ⟨f1, f2, f3⟩ := tw.none hf
  have lm : 100 < lim := by decide
  refine z_seq (fun τ h' => h' = hset h f (.lst ((T.exRows p k).map lW)) ∧ ∃ o6 o7 o8 o9, τ = [some (.loc t), some (.int p), some (.int k), some (lW rp), some (.int (T.R p (k + 1))), some (.loc f), o6, o7, o8, o9, none, none, none]) (fun K hK => ?_) ?_
  · walk_at "ru"
    simp only [(tw.new hf).f1]
    walk_at "ru"
    refine forL_inv (fun i τ h' => h' = hset h f (.lst (((T.exRows p k).take i).map lW)) ∧ ∃ o6 o7 o8 o9, τ = [some (.loc t), some (.int p), some (.int k), some (lW rp), some (.int (T.R p (k + 1))), some (.loc f), o6, o7, o8, o9, none, none, none]) ⟨rfl, _, _, _, _, rfl⟩ ?_ ?_
    · rintro i τ h' x hx ⟨rfl, o6, o7, o8, o9, rfl⟩
      obtain ⟨y, hy, ex⟩ := enm_getW hx
      subst ex
      rw [List.getElem?_map] at hy
      obtain ⟨ri, hr, er⟩ := Option.map_eq_some_iff.mp hy
      subst er
      have hi : i < m := by
        rw [← z.w.rl]
        rcases Nat.lt_or_ge i T.rows.length with g | g
        · exact g
        · rw [List.getElem?_eq_none g] at hr; cases hr
      obtain ⟨ri', g1, g2, g3⟩ := z.w.row hi
      have : ri' = ri := Option.some.inj (g1.symm.trans hr)
      subst this
      refine ⟨trivial, ?_⟩
      have et2 : ((T.exRows p k).take (i + 1)).map lW = ((T.exRows p k).take i).map lW ++ [lW (T.exR p k i)] := by
        rw [List.take_add_one, Tb.exRows_get (by rw [z.w.rl]; exact hi)]
        simp
      rw [et2]
      have ht0 : (((T.exRows p k).take i).map lW).length < lim := by
        rw [List.length_map, List.length_take]
        omega
      generalize ((T.exRows p k).take i).map lW = done at *
      have tw' : TW t b c N T (hset h f (.lst done)) := tw.new hf
      walk_at "ru"
      intro K hK
      refine z_seq (fun τ h' => h' = hset h f (.lst done) ∧ ∃ o9, τ = [some (.loc t), some (.int p), some (.int k), some (lW rp), some (.int (T.R p (k + 1))), some (.loc f), some (.int (0 + i)), some (lW ri'), some (lW (T.exR p k i)), o9, none, none, none]) (fun K hK => ?_) ?_
      · walk_at "ru"
        unfold Tb.exR at hK
        by_cases c0 : i = p
        · subst c0
          rw [if_pos rfl] at hK
          rw [if_pos (by omega)]
          have er : ri' = rp := Option.some.inj (hr.symm.trans e1)
          subst er
          walk_at "st"
          refine ⟨?_, ?_⟩
          · rw [List.length_map]
            exact Nat.le_of_lt (Nat.lt_of_le_of_lt (by omega : ri'.length ≤ 100) lm)
          refine lcL_map ri' W.int (fun x => .int (-x)) trivial (fun x _ => ?_) ?_
          · walk_at "ru"
            exact fun K q => q
          intro g hg
          walk_at "st"
          simp only [(tw'.new hg).f4]
          walk_at "ru"
          rw [iws_map (f := fun x => -x), st_at hset_same kk (by rw [List.length_map]; exact hk1), hset_two]
          walk_at "st"
          rw [frz_l hset_same, hdel_hset hg]
          rw [e2] at hK
          exact hK _ _ ⟨rfl, _, rfl⟩
        · rw [if_neg c0] at hK
          rw [if_neg (by omega)]
          walk_at "st"
          rw [at_lW kk (by omega)]
          have er : ri'.getD (k + 1) 0 = T.R i (k + 1) := by unfold Tb.R; rw [g2]
          rw [er]
          walk_at "st"
          refine ⟨?_, ?_⟩
          · rw [List.length_map, List.length_zip]
            exact Nat.le_of_lt (Nat.lt_of_le_of_lt (by omega) lm)
          refine lcL_map (ri'.zip rp) (fun x => .tup [.int x.1, .int x.2]) (fun x => .int ((T.R p (k + 1) * x.1 - T.R i (k + 1) * x.2) / T.D)) trivial (fun x mx => ?_) ?_
          · obtain ⟨j, hj⟩ := List.getElem?_of_mem mx
            have hj' : j < (ri'.zip rp).length := by
              rcases Nat.lt_or_ge j (ri'.zip rp).length with g | g
              · exact g
              · rw [List.getElem?_eq_none g] at hj; cases hj
            have hj2 := hj'
            rw [List.length_zip] at hj2
            rw [List.getElem?_eq_getElem hj'] at hj
            have ex := Option.some.inj hj
            rw [List.getElem_zip] at ex
            have x1 : x.1 = T.R i j := by rw [← ex]; unfold Tb.R; rw [g2]; simp [List.getD, show j < ri'.length by omega]
            have x2 : x.2 = T.R p j := by rw [← ex]; unfold Tb.R; rw [e2]; simp [List.getD, show j < rp.length by omega]
            walk_at "ru"
            intro K q
            simp only [tw'.f4]
            rw [x1, x2] at q ⊢
            simp only [big6 (z.r p (k + 1) hp (by omega)) (z.r i j hi (by omega)), big6 (z.r i (k + 1) hi (by omega)) (z.r p j hp (by omega)), vv_int, sub_i]
            walk_at "ru"
            rw [fdiv_i z.d0]
            exact ⟨den5 z.d, q⟩
          intro g hg
          walk_at "st"
          rw [iws_mapZ (f := fun x => (T.R p (k + 1) * x.1 - T.R i (k + 1) * x.2) / T.D), st_at hset_same kk (by rw [List.length_map, List.length_zip]; omega), hset_two]
          walk_at "st"
          rw [frz_l hset_same, hdel_hset hg]
          rw [g2, e2] at hK
          exact hK _ _ ⟨rfl, _, rfl⟩
      rintro τ h' ⟨rfl, o9, rfl⟩
      walk_at "st"
      rw [isLoL_l hset_same]
      refine ⟨rfl, ?_⟩
      rw [lstAt_l hset_same]
      refine ⟨ht0, ?_⟩
      rw [hset_two]
      exact hK _ _ ⟨rfl, _, _, _, _, rfl⟩
    · rintro τ h' ⟨rfl, o6, o7, o8, o9, rfl⟩
      refine ⟨trivial, hK _ _ ⟨?_, _, _, _, _, rfl⟩⟩
      rw [enm_lenW, List.length_map, List.take_of_length_le]
      unfold Tb.exRows
      rw [List.length_map, List.length_range]
      exact Nat.le_refl _
  rintro τ h' ⟨rfl, o6, o7, o8, o9, rfl⟩
  walk_at "st"
  rw [frz_l hset_same, hdel_hset hf]
  refine z_seq (fun τ h' => h' = h ∧ ∃ o6 o7 o8 o9, τ = [some (.loc t), some (.int p), some (.int k), some (lW rp), some (.int (T.R p (k + 1))), some (.lst ((Tb.ng (T.R p (k + 1)) (T.exRows p k)).map lW)), o6, o7, o8, o9, none, none, none]) (fun K hK => ?_) ?_
  · walk_at "ru"
    unfold Tb.ng at hK
    split
    · rename_i c0
      rw [if_pos c0] at hK
      walk_at "st"
      have el : (T.exRows p k).length = m := by unfold Tb.exRows; rw [List.length_map, List.length_range, z.w.rl]
      refine ⟨?_, ?_⟩
      · rw [List.length_map, el]
        omega
      refine lcL_map (T.exRows p k) lW (fun r => lW (r.map fun x => -x)) trivial (fun r mr => ?_) ?_
      · walk_at "ru"
        intro K q
        have lr : r.length = N + 1 := by
          unfold Tb.exRows at mr
          obtain ⟨i, hi, e⟩ := List.mem_map.mp mr
          rw [← e]
          exact Tb.exR_len z.w hp (by have := List.mem_range.mp hi; rw [z.w.rl] at this; exact this)
        refine ⟨?_, ?_⟩
        · rw [List.length_map]
          omega
        refine lcL_map r W.int (fun x => .int (-x)) trivial (fun x _ => ?_) ?_
        · walk_at "ru"
          exact fun K q => q
        · try rw [List.nil_append]
          rw [lW_map (f := fun x => -x)]
          exact q
      intro g hg
      walk_at "st"
      rw [frz_l hset_same, hdel_hset hg]
      rw [List.map_map] at hK
      exact hK _ _ ⟨rfl, _, _, _, _, rfl⟩
    · rename_i c0
      rw [if_neg c0] at hK
      exact hK _ _ ⟨rfl, _, _, _, _, rfl⟩
  rintro τ h' ⟨rfl, o6, o7, o8, o9, rfl⟩
  walk_at "st"
  rw [st_old (k := 1) tw.ht (by exact (by decide : 1 < 5))]
  walk_at "st"
  rw [absW, st_old (k := 4) hset_same (by exact (by decide : 4 < 5)), hset_two]
  walk_at "st"
  have hp' : p < T.base.length := by rw [z.w.bl]; exact hp
  have hk' : k < T.heads.length := by rw [z.w.hl]; exact hk
  generalize eh : hset h' t (.ins .table (((tbW N T b c).set 1 (.lst ((Tb.ng (T.R p (k + 1)) (T.exRows p k)).map lW))).set 4 (.int (T.R p (k + 1)).natAbs))) = h2
  have ht2 : h2 t = some (.ins .table [.int N, .lst ((Tb.ng (T.R p (k + 1)) (T.exRows p k)).map lW), .loc b, .loc c, .int (T.R p (k + 1)).natAbs]) := by rw [← eh]; exact hset_same
  have hb2 : h2 b = some (.lst (iws T.base)) := by rw [← eh, hset_ne (Ne.symm tw.tb)]; exact tw.hb
  have hc2 : h2 c = some (.lst (iws T.heads)) := by rw [← eh, hset_ne (Ne.symm tw.tc)]; exact tw.hc
  simp only [fld_at ht2, List.getElem?_cons_succ, List.getElem?_cons_zero]
  walk_at "ru"
  simp only [vw_loc hc2, vw_loc hb2, at_iw (xs := T.heads) (i := (k : Int)) (j := k) rfl hk', at_iw (xs := T.base) (i := (p : Int)) (j := p) rfl hp']
  rw [st_at hb2 (j := p) rfl hp']
  have ht3 : (hset h2 b (.lst (iws (T.base.set p (T.heads.getD k 0))))) t = some (.ins .table [.int N, .lst ((Tb.ng (T.R p (k + 1)) (T.exRows p k)).map lW), .loc b, .loc c, .int (T.R p (k + 1)).natAbs]) := by rw [hset_ne tw.tb]; exact ht2
  have hc3 : (hset h2 b (.lst (iws (T.base.set p (T.heads.getD k 0))))) c = some (.lst (iws T.heads)) := by rw [hset_ne (Ne.symm tw.bc)]; exact hc2
  simp only [fld_at ht3, List.getElem?_cons_succ, List.getElem?_cons_zero]
  walk_at "ru"
  rw [st_at hc3 (j := k) rfl hk']
  refine q _ ⟨tw.tb, tw.tc, tw.bc, ?_, ?_, hset_same⟩ fun x x1 x2 x3 => ?_
  · rw [hset_ne tw.tc]; exact ht3
  · rw [hset_ne tw.bc]; exact hset_same
  · rw [hset_ne x3, hset_ne x2, ← eh, hset_ne x1]
end
end K04
end
section
set_option Elab.async false
set_option linter.all false
set_option maxRecDepth 100000
set_option maxHeartbeats 1000000
namespace K04
open PySem Ri.Z Lb Lm
open Ri (Cl W O Hw hset hdel En KW XW Calls Bop Cop Kd Blt Met ItK Tg Ex Sm Df slot put clr clrs bindT bindTs vw toD toDs lim MulOk rep binW eqD eqW flatW eqF inW cmpW isNon atW cutL slW revW kdW isiOk intsOf prsOf blsOf strsOf leP rngW bltW metTy metW fmtV enmW zipW seqW itrW itrV itsOf fldW isCls frzW delW isEnd initOf nmOf lcL lcL2 wpE wpEs wpJ Dn puts setW atLI augW storeF lstAt isLoL insAt handle forL whlP wpS wpSs wpHs start wpF callD)
local macro_rules | `(tactic| walk_at "ru") => `(tactic| try simp only [r_var, r_int, r_bl, r_non, r_str, r_cst, r_bin, r_neg, r_cmp, r_isN, r_chn, r_and, r_or, r_not, r_ite, r_tup, r_lst, r_sub, r_sli, r_rev, r_call, r_new, r_mth, r_prp, r_eqo, r_fld, r_blt, r_met, r_fmt, r_isi, r_itr, r_lcm, r_lcm2, r_frz, r_own, r_del, r_nil, r_cons, r_jn, r_jc,
  v_set, v_unp, v_par, v_setI, v_augI, v_aug, v_ext, v_setF, v_setII, v_setIN, v_ex, v_app, v_ins, v_revI, v_ret, v_retN, v_ite, v_whl, v_for, v_brk, v_pass, v_frz, v_nil, v_cons,
  okW_some, brW_bl, blW_bl, inW_int, okE_some, tpW_tup, lsW_lst, itW_lst, itW_loc, slot, put, puts, clr, clrs, bindT, bindTs, Option.bind_some, add_i, sub_i, mod_i, add_l, add_t, add_s, rep_l, pow_i, List.any_cons, List.any_nil, List.map_cons, List.map_nil, List.length_cons, List.length_nil,
  iv_seq_l, iv_seq_t, iv_seq_s, iv_rng1, iv_rng2, at_t0, at_t1, at_t2, at_t3, at_l0, at_l1, at_l2, eq_str, eq_int, eq_bl, eq_ll, vw_lW, iv_lW, bl_fW, bl_lW, bt_lW, ln_lW, iv_zipL, wt0, wt1, wt2, wt3, frw0, frw1, am0, am1, am2, blist_frs, eq_nn, kx_tuple_fr, kx_list_fr, kx_int_fr, kx_bool_fr, kx_str_fr, ix_fr, nx_fr, kx_tuple_frs, kx_list_frs, kx_int_frs, kx_bool_frs, kx_str_frs, ix_frs, nx_frs, kx_tuple_am, kx_list_am, kx_int_am, kx_bool_am, kx_str_am, ix_am, nx_am, kx_tuple_rd, kx_list_rd, kx_int_rd, kx_bool_rd, kx_str_rd, ix_rd, nx_rd, kx_tuple_fW, kx_list_fW, kx_int_fW, kx_bool_fW, kx_str_fW, ix_fW, nx_fW, kx_tuple_wt, kx_list_wt, kx_int_wt, kx_bool_wt, kx_str_wt, ix_wt, nx_wt, kx_tuple_rw, kx_list_rw, kx_int_rw, kx_bool_rw, kx_str_rw, ix_rw, nx_rw, it_enm_rw, it_enm_l, it_enm_t, in_modes, in_kinds, cut1, b_all, iv_rw, iv_frs, bl_rw, bl_frs, eq_fr, vw_fr, vw_frs, vw_am, vw_rd, vw_fW, vw_t, vw_rw, vv_non, isn_non, isi_non, vv_bl, isn_bl, isi_bl, vv_int, isn_int, isi_int, vv_str, isn_str, isi_str, vv_tup, isn_tup, isi_tup, vv_lst, isn_lst, isi_lst, vv_obj, isn_obj, isi_obj, vv_exc, isn_exc, vv_scr, isn_scr, kd_int_non, kd_int_bl, kd_int_int, kd_int_str, kd_int_tup, kd_int_lst, kd_int_obj, kd_bool_non, kd_bool_bl, kd_bool_int, kd_bool_str, kd_bool_tup, kd_bool_lst, kd_bool_obj, kd_str_non, kd_str_bl, kd_str_int, kd_str_str, kd_str_tup, kd_str_lst, kd_str_obj, kd_tuple_non, kd_tuple_bl, kd_tuple_int, kd_tuple_str, kd_tuple_tup, kd_tuple_lst, kd_tuple_obj, kd_list_non, kd_list_bl, kd_list_int, kd_list_str, kd_list_tup, kd_list_lst, kd_list_obj, cmp_lt, cmp_le, cmp_gt, cmp_ge, cmp_eq, cmp_ne, cmp_inn, cmp_nin, b_lenl, b_lent, b_lens, b_inti, b_abs, b_max2, b_min2, b_tupl, b_tupt, b_lstl, b_lstt, b_lsts, b_lr1, b_strs, b_stri, dw_nil, dw_cons, au_add, au_sub, ie_non_non, ie_non_int, ie_non_bl, ie_non_str, ie_int, ie_var, ie_bin, ie_neg, sl_l, sl_t, sl_ln, sl_tn, sl_lb, fo0, fo1, fo2, fo3, io, kdi, Mo.e1, Mo.e2, Mo.e3, Kn.e1, Kn.e2, Kn.e3, List.append_nil, List.cons_append, List.nil_append, List.replicate, Nat.reduceAdd, Nat.reduceSub, Nat.reduceLeDiff, Nat.reduceEqDiff,
  true_and, and_true, if_true, if_false, decide_eq_true_eq, Bool.not_eq_true', decide_eq_false_iff_not, Bool.or_false, Bool.or_true, Bool.false_or, Bool.true_or, Bool.not_true, Bool.not_false, reduceCtorEq, ite_true, ite_false, Bool.false_eq_true, forall_const, eq_self, decide_true, decide_false, List.contains_cons, List.contains_nil, List.elem_cons, beq_self_eq_true, ne_eq, not_true_eq_false, not_false_eq_true])
local macro_rules | `(tactic| walk_at "st") => `(tactic| ((try refine z_cons ?_); walk_at "ru"))
local macro_rules | `(tactic| walk_at "to") => `(tactic| (refine z_to ?t ?h (fun K hK => ?q1) ?q2))
section
variable {n : Nat} {h : Hw} {P : KW} {E : XW} {t b c : Addr} {N m : Nat} {T : Tb}
theorem getR {z : Tb.Wf N m T} {i : Nat} (hi : i < m) : ∃ r, T.rows[i]? = some r ∧ T.rows.getD i [] = r ∧ r.length = N + 1 ∧ ∀ l, r.getD l 0 = T.R i l := by
  obtain ⟨r, e1, e2, e3⟩ := z.row hi
  exact ⟨r, e1, e2, e3, fun l => by unfold Tb.R; rw [e2]⟩
theorem lim100 : 100 < lim := by decide
theorem s_lacking (tw : TW t b c N T h) (z : Tb.Wf N m T) (hN : N ≤ 14) (hm : m ≤ 100) (q1 : (∀ i, i < m → (N : Int) ≤ T.st.b i → 0 ≤ T.R i 0) → P .non h)
    (q2 : ∀ i, i < m → (N : Int) ≤ T.st.b i → T.R i 0 < 0 → (∀ j, j < m → (N : Int) ≤ T.st.b j → T.R j 0 < 0 → T.st.b i ≤ T.st.b j) → P (.int (i : Int)) h) : callD K04.T (n + 1) "Table.lacking" [.loc t] h P E := by
  refine c_Table_lacking ?_
  walk_at "st"
  simp only [tw.f1]
  walk_at "ru"
  rw [enm_rows0, z.rl]
  refine ⟨by rw [List.length_map, List.length_range]; exact Nat.le_of_lt (Nat.lt_of_le_of_lt hm lim100), ?_⟩
  refine lcL_fil (List.range m) _ (pr T.st.b) (fun i => decide ((N : Int) ≤ T.st.b i) && decide (T.R i 0 < 0)) trivial (fun i mi => ?_) ?_
  · have hi := List.mem_range.mp mi
    obtain ⟨r, e1, e2, e3, e4⟩ := getR (z := z) hi
    have hb : i < T.base.length := by rw [z.bl]; exact hi
    rw [e2]
    walk_at "ru"
    intro K B qT qF
    simp only [tw.f2, tw.f0]
    walk_at "ru"
    simp only [tw.vb, at_iw (xs := T.base) (i := (i : Int)) (j := i) rfl hb]
    walk_at "ru"
    simp only [at_lW (f := r) (i := 0) (j := 0) rfl (by omega), e4]
    walk_at "ru"
    have eb : T.base.getD i 0 = T.st.b i := rfl
    rw [eb]
    by_cases c0 : (N : Int) ≤ T.st.b i
    · by_cases c1 : T.R i 0 < 0
      · simp only [c0, c1, if_true, decide_true, Bool.and_self] at qT ⊢
        exact qT trivial
      · simp only [c0, c1, if_true, if_false, decide_true, decide_false, Bool.and_false] at qF ⊢
        exact qF trivial
    · simp only [c0, if_false, decide_false, Bool.false_and] at qF ⊢
      exact qF trivial
  rw [List.nil_append]
  walk_at "st"
  rw [eq_pr]
  walk_at "ru"
  by_cases c0 : (List.range m).filter (fun i => decide ((N : Int) ≤ T.st.b i) && decide (T.R i 0 < 0)) = []
  · simp only [c0, not_true_eq_false, if_false, decide_true]
    walk_at "ru"
    refine q1 fun i hi hb => ?_
    have := fil_nil c0 i hi
    simp [hb] at this
    exact this
  · simp only [c0, not_false_eq_true, if_true, decide_false]
    walk_at "ru"
    refine min_pr c0 (fil_min fun i hi hp hm => ?_)
    rw [vw_pr, pr1]
    simp only [Bool.and_eq_true, decide_eq_true_eq] at hp hm
    exact q2 i hi hp.1 hp.2 fun j hj b1 b2 => hm j hj ⟨b1, b2⟩
theorem s_gaining (tw : TW t b c N T h) (z : Tb.Wf N m T) (hN : N ≤ 14) (h0 : 0 < m) (q1 : (∀ k, k < N → (N : Int) ≤ T.st.h k → T.R (m - 1) (k + 1) ≤ 0) → P .non h)
    (q2 : ∀ k, k < N → (N : Int) ≤ T.st.h k → 0 < T.R (m - 1) (k + 1) → (∀ j, j < N → (N : Int) ≤ T.st.h j → 0 < T.R (m - 1) (j + 1) → T.st.h k ≤ T.st.h j) → P (.int (k : Int)) h) : callD K04.T (n + 1) "Table.gaining" [.loc t] h P E := by
  refine c_Table_gaining ?_
  obtain ⟨r, e1, e2, e3, e4⟩ := getR (z := z) (i := m - 1) (by omega)
  walk_at "st"
  simp only [tw.f1]
  walk_at "ru"
  rw [at_neg (w := lW r) (by rw [List.length_map, z.rl]; exact rows_get e1)]
  walk_at "st"
  simp only [tw.f0]
  walk_at "ru"
  rw [rng0_eq]
  refine ⟨by omega, by rw [List.length_map, List.length_range]; exact Nat.le_of_lt (Nat.lt_of_le_of_lt (by omega) lim100), ?_⟩
  refine lcL_fil (List.range N) _ (pr T.st.h) (fun i => decide ((N : Int) ≤ T.st.h i) && decide (0 < T.R (m - 1) (i + 1))) trivial (fun i mi => ?_) ?_
  · have hi := List.mem_range.mp mi
    have hb : i < T.heads.length := by rw [z.hl]; exact hi
    walk_at "ru"
    intro K B qT qF
    simp only [tw.f3, tw.f0]
    walk_at "ru"
    simp only [tw.vc, at_iw (xs := T.heads) (i := (i : Int)) (j := i) rfl hb]
    walk_at "ru"
    simp only [at_lW (f := r) (i := (i : Int) + 1) (j := i + 1) (by omega) (by omega), e4]
    walk_at "ru"
    have eb : T.heads.getD i 0 = T.st.h i := rfl
    rw [eb]
    by_cases c0 : (N : Int) ≤ T.st.h i
    · by_cases c1 : 0 < T.R (m - 1) (i + 1)
      · simp only [c0, c1, if_true, decide_true, Bool.and_self] at qT ⊢
        exact qT trivial
      · simp only [c0, c1, if_true, if_false, decide_true, decide_false, Bool.and_false] at qF ⊢
        exact qF trivial
    · simp only [c0, if_false, decide_false, Bool.false_and] at qF ⊢
      exact qF trivial
  rw [List.nil_append]
  walk_at "st"
  rw [eq_pr]
  walk_at "ru"
  by_cases c0 : (List.range N).filter (fun i => decide ((N : Int) ≤ T.st.h i) && decide (0 < T.R (m - 1) (i + 1))) = []
  · simp only [c0, not_true_eq_false, if_false, decide_true]
    walk_at "ru"
    refine q1 fun i hi hb => ?_
    have := fil_nil c0 i hi
    simp [hb] at this
    exact this
  · simp only [c0, not_false_eq_true, if_true, decide_false]
    walk_at "ru"
    refine min_pr c0 (fil_min fun i hi hp hm => ?_)
    rw [vw_pr, pr1]
    simp only [Bool.and_eq_true, decide_eq_true_eq] at hp hm
    exact q2 i hi hp.1 hp.2 fun j hj b1 b2 => hm j hj ⟨b1, b2⟩
theorem s_raising {at_ : Nat} (tw : TW t b c N T h) (z : Tb.Wf N m T) (hN : N ≤ 14) (h0 : at_ < m) (q1 : (∀ k, k < N → (N : Int) ≤ T.st.h k → T.R at_ (k + 1) ≤ 0) → P .non h)
    (q2 : ∀ k, k < N → (N : Int) ≤ T.st.h k → 0 < T.R at_ (k + 1) → (∀ j, j < N → (N : Int) ≤ T.st.h j → 0 < T.R at_ (j + 1) → T.st.h k ≤ T.st.h j) → P (.int (k : Int)) h) : callD K04.T (n + 1) "Table.raising" [.loc t, .int at_] h P E := by
  refine c_Table_raising ?_
  obtain ⟨r, e1, e2, e3, e4⟩ := getR (z := z) (i := at_) h0
  walk_at "st"
  simp only [tw.f1]
  walk_at "ru"
  rw [at_ln (rows_get e1)]
  walk_at "st"
  simp only [tw.f0]
  walk_at "ru"
  rw [rng0_eq]
  refine ⟨by omega, by rw [List.length_map, List.length_range]; exact Nat.le_of_lt (Nat.lt_of_le_of_lt (by omega) lim100), ?_⟩
  refine lcL_fil (List.range N) _ (pr T.st.h) (fun i => decide ((N : Int) ≤ T.st.h i) && decide (0 < T.R at_ (i + 1))) trivial (fun i mi => ?_) ?_
  · have hi := List.mem_range.mp mi
    have hb : i < T.heads.length := by rw [z.hl]; exact hi
    walk_at "ru"
    intro K B qT qF
    simp only [tw.f3, tw.f0]
    walk_at "ru"
    simp only [tw.vc, at_iw (xs := T.heads) (i := (i : Int)) (j := i) rfl hb]
    walk_at "ru"
    simp only [at_lW (f := r) (i := (i : Int) + 1) (j := i + 1) (by omega) (by omega), e4]
    walk_at "ru"
    have eb : T.heads.getD i 0 = T.st.h i := rfl
    rw [eb]
    by_cases c0 : (N : Int) ≤ T.st.h i
    · by_cases c1 : 0 < T.R at_ (i + 1)
      · simp only [c0, c1, if_true, decide_true, Bool.and_self] at qT ⊢
        exact qT trivial
      · simp only [c0, c1, if_true, if_false, decide_true, decide_false, Bool.and_false] at qF ⊢
        exact qF trivial
    · simp only [c0, if_false, decide_false, Bool.false_and] at qF ⊢
      exact qF trivial
  rw [List.nil_append]
  walk_at "st"
  rw [eq_pr]
  walk_at "ru"
  by_cases c0 : (List.range N).filter (fun i => decide ((N : Int) ≤ T.st.h i) && decide (0 < T.R at_ (i + 1))) = []
  · simp only [c0, not_true_eq_false, if_false, decide_true]
    walk_at "ru"
    refine q1 fun i hi hb => ?_
    have := fil_nil c0 i hi
    simp [hb] at this
    exact this
  · simp only [c0, not_false_eq_true, if_true, decide_false]
    walk_at "ru"
    refine min_pr c0 (fil_min fun i hi hp hm => ?_)
    rw [vw_pr, pr1]
    simp only [Bool.and_eq_true, decide_eq_true_eq] at hp hm
    exact q2 i hi hp.1 hp.2 fun j hj b1 b2 => hm j hj ⟨b1, b2⟩
theorem s_ending {pl : Nat} (tw : TW t b c N T h) (z : Tb.Wf N m T) (hN : N ≤ 14) (hm : m ≤ 100) (hp : pl < N) (q1 : (∀ i, i < m → (N : Int) ≤ T.st.b i → 0 ≤ T.R i (pl + 1)) → P .non h)
    (q2 : ∀ i, i < m → (N : Int) ≤ T.st.b i → T.R i (pl + 1) < 0 → (∀ j, j < m → (N : Int) ≤ T.st.b j → T.R j (pl + 1) < 0 → T.st.b i ≤ T.st.b j) → P (.int (i : Int)) h) : callD K04.T (n + 1) "Table.ending" [.loc t, .int pl] h P E := by
  refine c_Table_ending ?_
  walk_at "st"
  intro f hf
  obtain ⟨f1, f2, f3⟩ := tw.none hf
  let p : Nat → Bool := fun i => decide ((N : Int) ≤ T.st.b i) && decide (T.R i (pl + 1) < 0)
  refine z_seq (fun τ h' => h' = hset h f (.lst (((List.range m).filter p).map (pr T.st.b))) ∧ ∃ o3 o4, τ = [some (.loc t), some (.int pl), some (.loc f), o3, o4]) (fun K hK => ?_) ?_
  · walk_at "ru"
    simp only [(tw.new hf).f1]
    walk_at "ru"
    rw [enm_rows0, z.rl]
    refine forL_inv (fun i τ h' => h' = hset h f (.lst (((List.range i).filter p).map (pr T.st.b))) ∧ ∃ o3 o4, τ = [some (.loc t), some (.int pl), some (.loc f), o3, o4]) ⟨rfl, _, _, rfl⟩ ?_ ?_
    · rintro i τ h' x hx ⟨rfl, o3, o4, rfl⟩
      obtain ⟨hi, ex⟩ := rng_get hx
      subst ex
      obtain ⟨r, e1, e2, e3, e4⟩ := getR (z := z) hi
      have hb : i < T.base.length := by rw [z.bl]; exact hi
      rw [e2]
      refine ⟨trivial, ?_⟩
      walk_at "ru"
      intro K hK
      have tw' := tw.new (o := .lst (((List.range i).filter p).map (pr T.st.b))) hf
      have hl : (((List.range i).filter p).map (pr T.st.b)).length < lim := by
        rw [List.length_map]
        refine Nat.lt_of_le_of_lt (List.length_filter_le _ _) ?_
        rw [List.length_range]
        exact Nat.lt_of_le_of_lt (by omega) lim100
      walk_at "st"
      simp only [tw'.f2, tw'.f0]
      walk_at "ru"
      simp only [tw'.vb, at_iw (xs := T.base) (i := (i : Int)) (j := i) rfl hb]
      walk_at "ru"
      simp only [at_lW (f := r) (i := (pl : Int) + 1) (j := pl + 1) (by omega) (by omega), e4]
      walk_at "ru"
      have eb : T.base.getD i 0 = T.st.b i := rfl
      rw [eb]
      rw [List.range_succ, List.filter_append] at hK
      by_cases c0 : (N : Int) ≤ T.st.b i
      · by_cases c1 : T.R i (pl + 1) < 0
        · have pi : p i = true := by simp [p, c0, c1]
          rw [if_pos c0, if_pos c1]
          walk_at "st"
          rw [isLoL_l hset_same]
          refine ⟨rfl, ?_⟩
          simp only [tw'.f2]
          walk_at "ru"
          simp only [tw'.vb, at_iw (xs := T.base) (i := (i : Int)) (j := i) rfl hb]
          walk_at "ru"
          rw [lstAt_l hset_same]
          refine ⟨hl, ?_⟩
          rw [hset_two]
          have e5 : List.filter p [i] = [i] := by simp [pi]
          rw [e5, List.map_append] at hK
          exact hK _ _ ⟨rfl, _, _, rfl⟩
        · have pi : p i = false := by simp [p, c1]
          rw [if_pos c0, if_neg c1]
          have e5 : List.filter p [i] = [] := by simp [pi]
          rw [e5, List.append_nil] at hK
          exact hK _ _ ⟨rfl, _, _, rfl⟩
      · have pi : p i = false := by simp [p, c0]
        rw [if_neg c0]
        have e5 : List.filter p [i] = [] := by simp [pi]
        rw [e5, List.append_nil] at hK
        exact hK _ _ ⟨rfl, _, _, rfl⟩
    · rintro τ h' ⟨rfl, o3, o4, rfl⟩
      refine ⟨trivial, hK _ _ ⟨?_, _, _, rfl⟩⟩
      rw [List.length_map, List.length_range]
  rintro τ h' ⟨rfl, o3, o4, rfl⟩
  walk_at "st"
  rw [frz_l hset_same, hdel_hset hf]
  walk_at "st"
  rw [eq_pr]
  walk_at "ru"
  by_cases c0 : (List.range m).filter p = []
  · simp only [c0, not_true_eq_false, if_false, decide_true]
    walk_at "ru"
    refine q1 fun i hi hb => ?_
    have := fil_nil c0 i hi
    simp [p, hb] at this
    exact this
  · simp only [c0, not_false_eq_true, if_true, decide_false]
    walk_at "ru"
    refine min_pr c0 (fil_min fun i hi hp hm => ?_)
    rw [vw_pr, pr1]
    simp only [p, Bool.and_eq_true, decide_eq_true_eq] at hp hm
    exact q2 i hi hp.1 hp.2 fun j hj b1 b2 => hm j hj ⟨b1, b2⟩
theorem s_loose (tw : TW t b c N T h) (z : Tb.Wf N m T) (hN : N ≤ 14) (h0 : 0 < m) (q1 : (∀ k, k < N → T.st.h k < N → T.R (m - 1) (k + 1) = 0) → P .non h)
    (q2 : ∀ k, k < N → T.st.h k < N → T.R (m - 1) (k + 1) ≠ 0 → P (.int (k : Int)) h) : callD K04.T (n + 1) "Table.loose" [.loc t] h P E := by
  refine c_Table_loose ?_
  obtain ⟨r, e1, e2, e3, e4⟩ := getR (z := z) (i := m - 1) (by omega)
  refine z_seq (fun τ h' => h' = h ∧ (∀ k, k < N → T.st.h k < N → T.R (m - 1) (k + 1) = 0) ∧ ∃ o1, τ = [some (.loc t), o1]) (fun K hK => ?_) ?_
  · walk_at "ru"
    simp only [tw.f0]
    walk_at "ru"
    rw [rng0_eq]
    refine ⟨by omega, ?_⟩
    refine forL_inv (fun i τ h' => h' = h ∧ (∀ k, k < i → T.st.h k < N → T.R (m - 1) (k + 1) = 0) ∧ ∃ o1, τ = [some (.loc t), o1]) ⟨rfl, fun k hk => by omega, _, rfl⟩ ?_ ?_
    · rintro i τ h' x hx ⟨rfl, hz, o1, rfl⟩
      obtain ⟨hi, ex⟩ := rng_get hx
      subst ex
      have hb : i < T.heads.length := by rw [z.hl]; exact hi
      refine ⟨trivial, ?_⟩
      walk_at "ru"
      intro K hK
      walk_at "st"
      simp only [tw.f3, tw.f0]
      walk_at "ru"
      simp only [tw.vc, at_iw (xs := T.heads) (i := (i : Int)) (j := i) rfl hb]
      walk_at "ru"
      simp only [tw.f1]
      walk_at "ru"
      rw [at_neg (w := lW r) (by rw [List.length_map, z.rl]; exact rows_get e1)]
      walk_at "ru"
      simp only [at_lW (f := r) (i := (i : Int) + 1) (j := i + 1) (by omega) (by omega), e4]
      walk_at "ru"
      have eb : T.heads.getD i 0 = T.st.h i := rfl
      rw [eb]
      by_cases c0 : T.st.h i < N
      · rw [if_pos c0]
        by_cases c1 : T.R (m - 1) (i + 1) = 0
        · simp only [c1, if_true, not_true_eq_false, if_false]
          refine hK _ _ ⟨rfl, fun k hk hh => ?_, _, rfl⟩
          by_cases e : k = i
          · subst e; exact c1
          · exact hz k (by omega) hh
        · simp only [c1, not_false_eq_true, if_true, if_false]
          exact q2 i hi c0 c1
      · rw [if_neg c0]
        refine hK _ _ ⟨rfl, fun k hk hh => ?_, _, rfl⟩
        by_cases e : k = i
        · subst e; exact (c0 hh).elim
        · exact hz k (by omega) hh
    · rintro τ h' ⟨rfl, hz, o1, rfl⟩
      refine ⟨trivial, hK _ _ ⟨rfl, fun k hk => hz k ?_, _, rfl⟩⟩
      rw [List.length_map, List.length_range]
      exact hk
  rintro τ h' ⟨rfl, hz, o1, rfl⟩
  walk_at "st"
  exact q1 hz
end
end K04
end
section
set_option Elab.async false
set_option linter.all false
set_option maxRecDepth 100000
set_option maxHeartbeats 1000000
namespace K04
open PySem Ri.Z Lb Lm
open Ri (Cl W O Hw hset hdel En KW XW Calls Bop Cop Kd Blt Met ItK Tg Ex Sm Df slot put clr clrs bindT bindTs vw toD toDs lim MulOk rep binW eqD eqW flatW eqF inW cmpW isNon atW cutL slW revW kdW isiOk intsOf prsOf blsOf strsOf leP rngW bltW metTy metW fmtV enmW zipW seqW itrW itrV itsOf fldW isCls frzW delW isEnd initOf nmOf lcL lcL2 wpE wpEs wpJ Dn puts setW atLI augW storeF lstAt isLoL insAt handle forL whlP wpS wpSs wpHs start wpF callD)
local macro_rules | `(tactic| walk_at "ru") => `(tactic| try simp only [r_var, r_int, r_bl, r_non, r_str, r_cst, r_bin, r_neg, r_cmp, r_isN, r_chn, r_and, r_or, r_not, r_ite, r_tup, r_lst, r_sub, r_sli, r_rev, r_call, r_new, r_mth, r_prp, r_eqo, r_fld, r_blt, r_met, r_fmt, r_isi, r_itr, r_lcm, r_lcm2, r_frz, r_own, r_del, r_nil, r_cons, r_jn, r_jc,
  v_set, v_unp, v_par, v_setI, v_augI, v_aug, v_ext, v_setF, v_setII, v_setIN, v_ex, v_app, v_ins, v_revI, v_ret, v_retN, v_ite, v_whl, v_for, v_brk, v_pass, v_frz, v_nil, v_cons,
  okW_some, brW_bl, blW_bl, inW_int, okE_some, tpW_tup, lsW_lst, itW_lst, itW_loc, slot, put, puts, clr, clrs, bindT, bindTs, Option.bind_some, add_i, sub_i, mod_i, add_l, add_t, add_s, rep_l, pow_i, List.any_cons, List.any_nil, List.map_cons, List.map_nil, List.length_cons, List.length_nil,
  iv_seq_l, iv_seq_t, iv_seq_s, iv_rng1, iv_rng2, at_t0, at_t1, at_t2, at_t3, at_l0, at_l1, at_l2, eq_str, eq_int, eq_bl, eq_ll, vw_lW, iv_lW, bl_fW, bl_lW, bt_lW, ln_lW, iv_zipL, wt0, wt1, wt2, wt3, frw0, frw1, am0, am1, am2, blist_frs, eq_nn, kx_tuple_fr, kx_list_fr, kx_int_fr, kx_bool_fr, kx_str_fr, ix_fr, nx_fr, kx_tuple_frs, kx_list_frs, kx_int_frs, kx_bool_frs, kx_str_frs, ix_frs, nx_frs, kx_tuple_am, kx_list_am, kx_int_am, kx_bool_am, kx_str_am, ix_am, nx_am, kx_tuple_rd, kx_list_rd, kx_int_rd, kx_bool_rd, kx_str_rd, ix_rd, nx_rd, kx_tuple_fW, kx_list_fW, kx_int_fW, kx_bool_fW, kx_str_fW, ix_fW, nx_fW, kx_tuple_wt, kx_list_wt, kx_int_wt, kx_bool_wt, kx_str_wt, ix_wt, nx_wt, kx_tuple_rw, kx_list_rw, kx_int_rw, kx_bool_rw, kx_str_rw, ix_rw, nx_rw, it_enm_rw, it_enm_l, it_enm_t, in_modes, in_kinds, cut1, b_all, iv_rw, iv_frs, bl_rw, bl_frs, eq_fr, vw_fr, vw_frs, vw_am, vw_rd, vw_fW, vw_t, vw_rw, vv_non, isn_non, isi_non, vv_bl, isn_bl, isi_bl, vv_int, isn_int, isi_int, vv_str, isn_str, isi_str, vv_tup, isn_tup, isi_tup, vv_lst, isn_lst, isi_lst, vv_obj, isn_obj, isi_obj, vv_exc, isn_exc, vv_scr, isn_scr, kd_int_non, kd_int_bl, kd_int_int, kd_int_str, kd_int_tup, kd_int_lst, kd_int_obj, kd_bool_non, kd_bool_bl, kd_bool_int, kd_bool_str, kd_bool_tup, kd_bool_lst, kd_bool_obj, kd_str_non, kd_str_bl, kd_str_int, kd_str_str, kd_str_tup, kd_str_lst, kd_str_obj, kd_tuple_non, kd_tuple_bl, kd_tuple_int, kd_tuple_str, kd_tuple_tup, kd_tuple_lst, kd_tuple_obj, kd_list_non, kd_list_bl, kd_list_int, kd_list_str, kd_list_tup, kd_list_lst, kd_list_obj, cmp_lt, cmp_le, cmp_gt, cmp_ge, cmp_eq, cmp_ne, cmp_inn, cmp_nin, b_lenl, b_lent, b_lens, b_inti, b_abs, b_max2, b_min2, b_tupl, b_tupt, b_lstl, b_lstt, b_lsts, b_lr1, b_strs, b_stri, dw_nil, dw_cons, au_add, au_sub, ie_non_non, ie_non_int, ie_non_bl, ie_non_str, ie_int, ie_var, ie_bin, ie_neg, sl_l, sl_t, sl_ln, sl_tn, sl_lb, fo0, fo1, fo2, fo3, io, kdi, Mo.e1, Mo.e2, Mo.e3, Kn.e1, Kn.e2, Kn.e3, List.append_nil, List.cons_append, List.nil_append, List.replicate, Nat.reduceAdd, Nat.reduceSub, Nat.reduceLeDiff, Nat.reduceEqDiff,
  true_and, and_true, if_true, if_false, decide_eq_true_eq, Bool.not_eq_true', decide_eq_false_iff_not, Bool.or_false, Bool.or_true, Bool.false_or, Bool.true_or, Bool.not_true, Bool.not_false, reduceCtorEq, ite_true, ite_false, Bool.false_eq_true, forall_const, eq_self, decide_true, decide_false, List.contains_cons, List.contains_nil, List.elem_cons, beq_self_eq_true, ne_eq, not_true_eq_false, not_false_eq_true])
local macro_rules | `(tactic| walk_at "st") => `(tactic| ((try refine z_cons ?_); walk_at "ru"))
local macro_rules | `(tactic| walk_at "to") => `(tactic| (refine z_to ?t ?h (fun K hK => ?q1) ?q2))
section
variable {n : Nat} {h : Hw} {P : KW} {E : XW} {t b c : Addr} {N m : Nat} {T : Tb}
theorem s_tinit {es : List W} {fs : List (List Int)} {ew : W} {w : List Int} (r : Rws es fs) (rw_ : Rw1 ew w) (hw : w.length = N + 1) (hN : N ≤ 14) (hf : fs.length ≤ 90) (ht : h t = none)
    (q : ∀ b c h', h b = none → h c = none → TW t b c N (begin_ N fs w) h' → Fr3 t b c h h' → P .non h') : callD K04.T (n + 1) "Table.__init__" [.loc t, .lst es, ew] (hset h t (.ins .table [])) P E := by
  refine c_Table___init__ ?_
  have l90 : 90 < lim := by decide
  walk_at "st"
  simp only [rw_.len]
  walk_at "ru"
  rw [hw, show (((N + 1 : Nat) : Int) - 1) = (N : Int) by omega, st_new (k := 0) (ws := []) hset_same rfl, hset_two]
  walk_at "st"
  refine ⟨by rw [r.len]; omega, ?_⟩
  refine lcL_rws r (fun e f re => ?_) ?_
  · walk_at "ru"
    intro K q
    rw [re.list]
    exact q
  rw [List.nil_append]
  walk_at "ru"
  simp only [rw_.list]
  walk_at "ru"
  rw [List.length_map]
  refine ⟨by omega, ?_⟩
  rw [st_new (k := 1) (ws := [_]) hset_same rfl, hset_two]
  walk_at "st"
  rw [r.len, rng0_eq]
  refine ⟨by omega, by rw [List.length_map, List.length_range]; omega, ?_⟩
  refine lcL_map (List.range fs.length) _ (fun i => .int ((N + i : Nat) : Int)) trivial (fun i mi => ?_) ?_
  · walk_at "ru"
    intro K q
    simp only [fld_at hset_same, List.getElem?_cons_zero, List.cons_append, List.nil_append]
    walk_at "ru"
    rw [show ((N : Int) + (i : Int)) = ((N + i : Nat) : Int) by omega]
    exact q
  rw [List.nil_append]
  walk_at "ru"
  simp only [List.length_map, List.length_range]
  refine ⟨by omega, fun b hb => ?_⟩
  obtain ⟨nb, hb⟩ := hset_none hb
  have eb : (List.range fs.length).map (fun i => W.int ((N + i : Nat) : Int)) ++ [.int (-1)] = iws (begin_ N fs w).base := by
    simp [begin_, iws]
  rw [eb]
  rw [st_new (k := 2) (ws := [_, _]) (by rw [hset_ne (Ne.symm nb)]; exact hset_same) rfl, hset_swap (Ne.symm nb)]
  walk_at "st"
  simp only [fld_at (show (hset (hset h t (.ins .table [.int (N : Int), .lst (fs.map lW ++ [lW w]), .loc b])) b (.lst (iws (begin_ N fs w).base))) t = _ by rw [hset_ne (Ne.symm nb)]; exact hset_same), List.getElem?_cons_zero, List.cons_append, List.nil_append]
  walk_at "ru"
  refine ⟨by omega, fun c hc => ?_⟩
  obtain ⟨cb, hc⟩ := hset_none hc
  obtain ⟨ct, hc⟩ := hset_none hc
  have ec : rngW 0 (N : Int) = iws (begin_ N fs w).heads := by
    rw [rng0_eq]
    simp [begin_, iws]
  rw [ec]
  rw [st_new (k := 3) (ws := [_, _, _]) (by rw [hset_ne (Ne.symm ct), hset_ne (Ne.symm nb)]; exact hset_same) rfl]
  walk_at "st"
  rw [st_new (k := 4) (ws := [_, _, _, _]) hset_same rfl, hset_two]
  refine q b c _ hb hc ⟨Ne.symm nb, Ne.symm ct, Ne.symm cb, ?_, ?_, ?_⟩ fun x x1 x2 x3 => ?_
  · rw [hset_same]
    simp [tbW, begin_]
  · rw [hset_ne nb, hset_ne (Ne.symm cb)]; exact hset_same
  · rw [hset_ne ct]; exact hset_same
  · rw [hset_ne x1, hset_ne x3, hset_ne x2, hset_ne x1]
theorem s_bring {Q : Pb} (tw : TW t b c Q.n T h) (g : BI Q 0 T) (hF : FB Q (2 ^ 32)) (hN : Q.n ≤ 14) (hm : Q.m ≤ 100) (q : ∀ T' h', TW t b c Q.n T' h' → BI Q Q.n T' → Fr3 t b c h h' → P .non h') : callD K04.T (n + 2) "Table.bring_in" [.loc t] h P E := by
  refine c_Table_bring_in ?_
  walk_at "st"
  simp only [tw.f0]
  walk_at "ru"
  rw [rng0_eq]
  refine ⟨by omega, ?_⟩
  refine forL_inv (fun i τ h' => (∃ T', TW t b c Q.n T' h' ∧ BI Q i T' ∧ Fr3 t b c h h') ∧ ∃ o1 o2, τ = [some (.loc t), o1, o2]) ⟨⟨T, tw, g, fun _ _ _ _ => rfl⟩, _, _, rfl⟩ ?_ ?_
  · rintro i τ h1 x hx ⟨⟨T1, tw1, g1, f1⟩, o1, o2, rfl⟩
    obtain ⟨hi, ex⟩ := rng_get hx
    subst ex
    refine ⟨trivial, ?_⟩
    walk_at "ru"
    intro K hK
    walk_at "st"
    simp only [tw1.f1]
    walk_at "ru"
    rw [List.length_map, g1.1.wf.rl, rng0_eq]
    refine ⟨by omega, ?_⟩
    refine forL_inv (fun j τ h' => h' = h1 ∧ (∀ j', j' < j → (Q.n : Int) ≤ T1.st.b j' → T1.R j' (i + 1) = 0) ∧ ∃ o2, τ = [some (.loc t), some (.int (i : Int)), o2]) ⟨rfl, fun _ z => by omega, _, rfl⟩ ?_ ?_
    · rintro j τ h2 x hx ⟨rfl, hz, o2, rfl⟩
      obtain ⟨hj, ex⟩ := rng_get hx
      subst ex
      have hb : j < T1.base.length := by rw [g1.1.wf.bl]; exact hj
      obtain ⟨r, e1, e2, e3, e4⟩ := getR (z := g1.1.wf) hj
      refine ⟨trivial, ?_⟩
      walk_at "ru"
      intro K2 hK2
      walk_at "st"
      simp only [tw1.f2, tw1.f0]
      walk_at "ru"
      simp only [tw1.vb, at_iw (xs := T1.base) (i := (j : Int)) (j := j) rfl hb]
      walk_at "ru"
      simp only [tw1.f1]
      walk_at "ru"
      rw [at_ln (rows_get e1)]
      walk_at "ru"
      simp only [at_lW (f := r) (i := (i : Int) + 1) (j := i + 1) (by omega) (by omega), e4]
      walk_at "ru"
      have eb : T1.base.getD j 0 = T1.st.b j := rfl
      rw [eb]
      by_cases c0 : (Q.n : Int) ≤ T1.st.b j
      · rw [if_pos c0]
        by_cases c1 : T1.R j (i + 1) = 0
        · simp only [c1, if_true, not_true_eq_false, if_false]
          refine hK2 _ _ ⟨rfl, fun k hk hh => ?_, _, rfl⟩
          by_cases e : k = j
          · subst e; exact c1
          · exact hz k (by omega) hh
        · simp only [c1, not_false_eq_true, if_true, if_false]
          walk_at "st"
          refine ⟨cls_at tw1.ht, ?_⟩
          have sz := big_sz g1.1 hF hN
          refine s_exchange tw1 ⟨g1.1.wf, sz.1, sz.2.1, sz.2.2⟩ hj hi hN hm fun h' tw' f' => ?_
          walk_at "st"
          exact hK _ _ ⟨⟨_, tw', g1.ex hi hj c0 c1, fun x x1 x2 x3 => (f' x x1 x2 x3).trans (f1 x x1 x2 x3)⟩, _, _, rfl⟩
      · rw [if_neg c0]
        refine hK2 _ _ ⟨rfl, fun k hk hh => ?_, _, rfl⟩
        by_cases e : k = j
        · subst e; exact (c0 hh).elim
        · exact hz k (by omega) hh
    · rintro τ h2 ⟨rfl, hz, o2, rfl⟩
      refine ⟨trivial, hK _ _ ⟨⟨T1, tw1, g1.no fun j hj hb => hz j ?_ hb, f1⟩, _, _, rfl⟩⟩
      rw [List.length_map, List.length_range]
      exact hj
  · rintro τ h1 ⟨⟨T1, tw1, g1, f1⟩, o1, o2, rfl⟩
    refine ⟨trivial, ?_⟩
    rw [List.length_map, List.length_range] at g1
    exact q T1 h1 tw1 g1 f1
end
end K04
end
section
set_option Elab.async false
set_option linter.all false
set_option maxRecDepth 100000
set_option maxHeartbeats 1000000
namespace K04
open PySem Ri.Z Lb Lm
open Ri (Cl W O Hw hset hdel En KW XW Calls Bop Cop Kd Blt Met ItK Tg Ex Sm Df slot put clr clrs bindT bindTs vw toD toDs lim MulOk rep binW eqD eqW flatW eqF inW cmpW isNon atW cutL slW revW kdW isiOk intsOf prsOf blsOf strsOf leP rngW bltW metTy metW fmtV enmW zipW seqW itrW itrV itsOf fldW isCls frzW delW isEnd initOf nmOf lcL lcL2 wpE wpEs wpJ Dn puts setW atLI augW storeF lstAt isLoL insAt handle forL whlP wpS wpSs wpHs start wpF callD)
local macro_rules | `(tactic| walk_at "ru") => `(tactic| try simp only [r_var, r_int, r_bl, r_non, r_str, r_cst, r_bin, r_neg, r_cmp, r_isN, r_chn, r_and, r_or, r_not, r_ite, r_tup, r_lst, r_sub, r_sli, r_rev, r_call, r_new, r_mth, r_prp, r_eqo, r_fld, r_blt, r_met, r_fmt, r_isi, r_itr, r_lcm, r_lcm2, r_frz, r_own, r_del, r_nil, r_cons, r_jn, r_jc,
  v_set, v_unp, v_par, v_setI, v_augI, v_aug, v_ext, v_setF, v_setII, v_setIN, v_ex, v_app, v_ins, v_revI, v_ret, v_retN, v_ite, v_whl, v_for, v_brk, v_pass, v_frz, v_nil, v_cons,
  okW_some, brW_bl, blW_bl, inW_int, okE_some, tpW_tup, lsW_lst, itW_lst, itW_loc, slot, put, puts, clr, clrs, bindT, bindTs, Option.bind_some, add_i, sub_i, mod_i, add_l, add_t, add_s, rep_l, pow_i, List.any_cons, List.any_nil, List.map_cons, List.map_nil, List.length_cons, List.length_nil,
  iv_seq_l, iv_seq_t, iv_seq_s, iv_rng1, iv_rng2, at_t0, at_t1, at_t2, at_t3, at_l0, at_l1, at_l2, eq_str, eq_int, eq_bl, eq_ll, vw_lW, iv_lW, bl_fW, bl_lW, bt_lW, ln_lW, iv_zipL, wt0, wt1, wt2, wt3, frw0, frw1, am0, am1, am2, blist_frs, eq_nn, kx_tuple_fr, kx_list_fr, kx_int_fr, kx_bool_fr, kx_str_fr, ix_fr, nx_fr, kx_tuple_frs, kx_list_frs, kx_int_frs, kx_bool_frs, kx_str_frs, ix_frs, nx_frs, kx_tuple_am, kx_list_am, kx_int_am, kx_bool_am, kx_str_am, ix_am, nx_am, kx_tuple_rd, kx_list_rd, kx_int_rd, kx_bool_rd, kx_str_rd, ix_rd, nx_rd, kx_tuple_fW, kx_list_fW, kx_int_fW, kx_bool_fW, kx_str_fW, ix_fW, nx_fW, kx_tuple_wt, kx_list_wt, kx_int_wt, kx_bool_wt, kx_str_wt, ix_wt, nx_wt, kx_tuple_rw, kx_list_rw, kx_int_rw, kx_bool_rw, kx_str_rw, ix_rw, nx_rw, it_enm_rw, it_enm_l, it_enm_t, in_modes, in_kinds, cut1, b_all, iv_rw, iv_frs, bl_rw, bl_frs, eq_fr, vw_fr, vw_frs, vw_am, vw_rd, vw_fW, vw_t, vw_rw, vv_non, isn_non, isi_non, vv_bl, isn_bl, isi_bl, vv_int, isn_int, isi_int, vv_str, isn_str, isi_str, vv_tup, isn_tup, isi_tup, vv_lst, isn_lst, isi_lst, vv_obj, isn_obj, isi_obj, vv_exc, isn_exc, vv_scr, isn_scr, kd_int_non, kd_int_bl, kd_int_int, kd_int_str, kd_int_tup, kd_int_lst, kd_int_obj, kd_bool_non, kd_bool_bl, kd_bool_int, kd_bool_str, kd_bool_tup, kd_bool_lst, kd_bool_obj, kd_str_non, kd_str_bl, kd_str_int, kd_str_str, kd_str_tup, kd_str_lst, kd_str_obj, kd_tuple_non, kd_tuple_bl, kd_tuple_int, kd_tuple_str, kd_tuple_tup, kd_tuple_lst, kd_tuple_obj, kd_list_non, kd_list_bl, kd_list_int, kd_list_str, kd_list_tup, kd_list_lst, kd_list_obj, cmp_lt, cmp_le, cmp_gt, cmp_ge, cmp_eq, cmp_ne, cmp_inn, cmp_nin, b_lenl, b_lent, b_lens, b_inti, b_abs, b_max2, b_min2, b_tupl, b_tupt, b_lstl, b_lstt, b_lsts, b_lr1, b_strs, b_stri, dw_nil, dw_cons, au_add, au_sub, ie_non_non, ie_non_int, ie_non_bl, ie_non_str, ie_int, ie_var, ie_bin, ie_neg, sl_l, sl_t, sl_ln, sl_tn, sl_lb, fo0, fo1, fo2, fo3, io, kdi, Mo.e1, Mo.e2, Mo.e3, Kn.e1, Kn.e2, Kn.e3, List.append_nil, List.cons_append, List.nil_append, List.replicate, Nat.reduceAdd, Nat.reduceSub, Nat.reduceLeDiff, Nat.reduceEqDiff,
  true_and, and_true, if_true, if_false, decide_eq_true_eq, Bool.not_eq_true', decide_eq_false_iff_not, Bool.or_false, Bool.or_true, Bool.false_or, Bool.true_or, Bool.not_true, Bool.not_false, reduceCtorEq, ite_true, ite_false, Bool.false_eq_true, forall_const, eq_self, decide_true, decide_false, List.contains_cons, List.contains_nil, List.elem_cons, beq_self_eq_true, ne_eq, not_true_eq_false, not_false_eq_true])
local macro_rules | `(tactic| walk_at "st") => `(tactic| ((try refine z_cons ?_); walk_at "ru"))
local macro_rules | `(tactic| walk_at "to") => `(tactic| (refine z_to ?t ?h (fun K hK => ?q1) ?q2))
section
variable {n : Nat} {h : Hw} {P : KW} {E : XW} {t b c : Addr} {N m : Nat} {T : Tb}
theorem rep1 {N : Nat} {K : W → Prop} (hN : N ≤ 1000) : binW .mul (.lst [.tup [.int 0, .int 1]]) (.int (N : Int)) K = K (.lst (((List.range N).map fun _ => ((0 : Int), (1 : Int))).map frW)) := by
  rw [rep_l, Int.toNat_natCast, rep_frs]
  have : (-1000 ≤ (N : Int) ∧ (N : Int) ≤ 1000 ∧ [W.tup [.int 0, .int 1]].length ≤ 1000) := ⟨by omega, by omega, by simp⟩
  simp only [this, true_and, and_self]
/-- a fraction stored in a list of fractions -/
theorem st_fr {f : Addr} {xs : List (Int × Int)} {i : Int} {j : Nat} {p : Int × Int} {Q : Hw → Prop} (e : h f = some (.lst (xs.map frW))) (ei : i = (j : Nat)) (hj : j < xs.length) : setW h (.loc f) (.int i) (frW p) Q = Q (hset h f (.lst ((xs.set j p).map frW))) := by
  rw [set_k e ei (by rw [List.length_map]; exact hj), set_frs]
theorem s_point (tw : TW t b c N T h) (z : Sz N m T) (hN : N ≤ 14) (hm : m ≤ 100) (q : P (.lst ((ptL N m T).map frW)) h) : callD K04.T (n + 3) "Table.point" [.loc t] h P E := by
  refine c_Table_point ?_
  walk_at "st"
  simp only [tw.f0]
  walk_at "ru"
  refine ⟨by omega, fun f hf => ?_⟩
  rw [Int.toNat_natCast, rep_frs]
  obtain ⟨f1, f2, f3⟩ := tw.none hf
  let L : Nat → List (Int × Int) := fun i => (List.range N).map fun j => mkF (vl T 0 (fun _ => 0) i j) T.D
  have L0 : (List.range N).map (fun _ => ((0 : Int), (1 : Int))) = L 0 := by
    show _ = (List.range N).map fun j => mkF 0 T.D
    rw [mkF_zero z.d0]
  rw [L0]
  refine z_seq (fun τ h' => h' = hset h f (.lst ((L m).map frW)) ∧ ∃ o2 o3, τ = [some (.loc t), some (.loc f), o2, o3]) (fun K hK => ?_) ?_
  · walk_at "ru"
    simp only [(tw.new hf).f1]
    walk_at "ru"
    rw [enm_rows0, z.w.rl]
    refine forL_inv (fun i τ h' => h' = hset h f (.lst ((L i).map frW)) ∧ ∃ o2 o3, τ = [some (.loc t), some (.loc f), o2, o3]) ⟨rfl, _, _, rfl⟩ ?_ ?_
    · rintro i τ h' x hx ⟨rfl, o2, o3, rfl⟩
      obtain ⟨hi, ex⟩ := rng_get hx
      subst ex
      obtain ⟨r, e1, e2, e3, e4⟩ := getR (z := z.w) hi
      have hb : i < T.base.length := by rw [z.w.bl]; exact hi
      rw [e2]
      refine ⟨trivial, ?_⟩
      walk_at "ru"
      intro K hK
      have tw' := tw.new (o := .lst ((L i).map frW)) hf
      walk_at "st"
      simp only [tw'.f2, tw'.f0]
      walk_at "ru"
      simp only [tw'.vb, at_iw (xs := T.base) (i := (i : Int)) (j := i) rfl hb]
      walk_at "ru"
      have eb : T.base.getD i 0 = T.st.b i := rfl
      rw [eb]
      have no : (¬ 0 ≤ T.st.b i ∨ ¬ T.st.b i < N) → L (i + 1) = L i := fun c => by
        refine List.map_congr_left fun j hj => ?_
        have := List.mem_range.mp hj
        show mkF (if T.st.b i = (j : Int) then _ else _) _ = _
        rw [if_neg (by omega)]
      by_cases c0 : 0 ≤ T.st.b i
      · rw [if_pos c0]
        by_cases c1 : T.st.b i < N
        · rw [if_pos c1]
          walk_at "st"
          simp only [at_lW (f := r) (i := 0) (j := 0) rfl (by omega), e4, tw'.f4]
          walk_at "ru"
          refine s_fraction z.d0 (den5 z.d) ?_
          simp only [tw'.f2]
          walk_at "ru"
          simp only [tw'.vb, at_iw (xs := T.base) (i := (i : Int)) (j := i) rfl hb]
          rw [eb, st_fr hset_same (j := (T.st.b i).toNat) (by omega) (by simp [L]; omega), hset_two]
          refine hK _ _ ⟨?_, _, _, rfl⟩
          congr 3
          show ((List.range N).map _).set _ _ = _
          rw [set_map]
          refine List.map_congr_left fun j hj => ?_
          show _ = mkF (if T.st.b i = (j : Int) then T.R i 0 else _) T.D
          by_cases e : T.st.b i = (j : Int)
          · rw [if_pos e, if_pos (by omega)]
          · rw [if_neg e, if_neg (by omega)]
        · rw [if_neg c1]
          rw [no (.inr c1)] at hK
          exact hK _ _ ⟨rfl, _, _, rfl⟩
      · rw [if_neg c0]
        rw [no (.inl c0)] at hK
        exact hK _ _ ⟨rfl, _, _, rfl⟩
    · rintro τ h' ⟨rfl, o2, o3, rfl⟩
      refine ⟨trivial, hK _ _ ⟨?_, _, _, rfl⟩⟩
      rw [List.length_map, List.length_range]
  rintro τ h' ⟨rfl, o2, o3, rfl⟩
  walk_at "st"
  rw [frz_l hset_same, hdel_hset hf]
  walk_at "st"
  exact q
theorem s_course {pl : Nat} {s : Int} (tw : TW t b c N T h) (z : Sz N m T) (hN : N ≤ 14) (hm : m ≤ 100) (hp : pl < N) (hs : s = 1 ∨ s = -1) (hh : 0 ≤ T.st.h pl) (q : P (.lst ((crL N m T pl s).map frW)) h) : callD K04.T (n + 3) "Table.course" [.loc t, .int pl, .int s] h P E := by
  refine c_Table_course ?_
  walk_at "st"
  simp only [tw.f0]
  walk_at "ru"
  refine ⟨by omega, fun f hf => ?_⟩
  rw [Int.toNat_natCast, rep_frs]
  obtain ⟨f1, f2, f3⟩ := tw.none hf
  let L : Nat → List (Int × Int) := fun i => (List.range N).map fun j => mkF (s * vl T (pl + 1) (hd0 T pl) i j) T.D
  have tw0 := tw.new (o := .lst (((List.range N).map fun _ => ((0 : Int), (1 : Int))).map frW)) hf
  have hh' : pl < T.heads.length := by rw [z.w.hl]; exact hp
  have eh : T.heads.getD pl 0 = T.st.h pl := rfl
  refine z_to [some (.loc t), some (.int pl), some (.int s), some (.loc f), none, none] (hset h f (.lst ((L 0).map frW))) (fun K hK => ?_) ?_
  · walk_at "ru"
    simp only [tw0.f3, tw0.f0]
    walk_at "ru"
    simp only [tw0.vc, at_iw (xs := T.heads) (i := (pl : Int)) (j := pl) rfl hh']
    walk_at "ru"
    rw [eh]
    by_cases c0 : T.st.h pl < N
    · rw [if_pos c0]
      walk_at "st"
      simp only [tw0.f3]
      walk_at "ru"
      simp only [tw0.vc, at_iw (xs := T.heads) (i := (pl : Int)) (j := pl) rfl hh']
      rw [eh]
      have e1 : W.tup [.int s, .int 1] = frW (s, 1) := rfl
      rw [e1, st_fr hset_same (j := (T.st.h pl).toNat) (by omega) (by simp; omega), hset_two]
      have e2 : ((List.range N).map fun _ => ((0 : Int), (1 : Int))).set (T.st.h pl).toNat (s, 1) = L 0 := by
        rw [set_map]
        refine List.map_congr_left fun j hj => ?_
        show _ = mkF (s * (if T.st.h pl = (j : Int) then T.D else 0)) T.D
        by_cases e : T.st.h pl = (j : Int)
        · rw [if_pos e, if_pos (by omega), mkF_self z.d0 hs]
        · rw [if_neg e, if_neg (by omega), Int.mul_zero, mkF_zero z.d0]
      rw [e2]
      exact hK
    · rw [if_neg c0]
      have e2 : (List.range N).map (fun _ => ((0 : Int), (1 : Int))) = L 0 := by
        refine List.map_congr_left fun j hj => ?_
        have := List.mem_range.mp hj
        show _ = mkF (s * (if T.st.h pl = (j : Int) then T.D else 0)) T.D
        rw [if_neg (by omega), Int.mul_zero, mkF_zero z.d0]
      rw [e2]
      exact hK
  refine z_seq (fun τ h' => h' = hset h f (.lst ((L m).map frW)) ∧ ∃ o4 o5, τ = [some (.loc t), some (.int pl), some (.int s), some (.loc f), o4, o5]) (fun K hK => ?_) ?_
  · walk_at "ru"
    simp only [(tw.new hf).f1]
    walk_at "ru"
    rw [enm_rows0, z.w.rl]
    refine forL_inv (fun i τ h' => h' = hset h f (.lst ((L i).map frW)) ∧ ∃ o4 o5, τ = [some (.loc t), some (.int pl), some (.int s), some (.loc f), o4, o5]) ⟨rfl, _, _, rfl⟩ ?_ ?_
    · rintro i τ h' x hx ⟨rfl, o4, o5, rfl⟩
      obtain ⟨hi, ex⟩ := rng_get hx
      subst ex
      obtain ⟨r, e1, e2, e3, e4⟩ := getR (z := z.w) hi
      have hb : i < T.base.length := by rw [z.w.bl]; exact hi
      rw [e2]
      refine ⟨trivial, ?_⟩
      walk_at "ru"
      intro K hK
      have tw' := tw.new (o := .lst ((L i).map frW)) hf
      walk_at "st"
      simp only [tw'.f2, tw'.f0]
      walk_at "ru"
      simp only [tw'.vb, at_iw (xs := T.base) (i := (i : Int)) (j := i) rfl hb]
      walk_at "ru"
      have eb : T.base.getD i 0 = T.st.b i := rfl
      rw [eb]
      have no : (¬ 0 ≤ T.st.b i ∨ ¬ T.st.b i < N) → L (i + 1) = L i := fun c => by
        refine List.map_congr_left fun j hj => ?_
        have := List.mem_range.mp hj
        show mkF (s * (if T.st.b i = (j : Int) then _ else _)) _ = _
        rw [if_neg (by omega)]
      by_cases c0 : 0 ≤ T.st.b i
      · rw [if_pos c0]
        by_cases c1 : T.st.b i < N
        · rw [if_pos c1]
          walk_at "st"
          simp only [at_lW (f := r) (i := (pl : Int) + 1) (j := pl + 1) (by omega) (by omega), e4, tw'.f4]
          walk_at "ru"
          rw [mul_l (by omega)]
          walk_at "ru"
          refine s_fraction z.d0 (den5 z.d) ?_
          simp only [tw'.f2]
          walk_at "ru"
          simp only [tw'.vb, at_iw (xs := T.base) (i := (i : Int)) (j := i) rfl hb]
          rw [eb, st_fr hset_same (j := (T.st.b i).toNat) (by omega) (by simp [L]; omega), hset_two]
          refine hK _ _ ⟨?_, _, _, rfl⟩
          congr 3
          show ((List.range N).map _).set _ _ = _
          rw [set_map]
          refine List.map_congr_left fun j hj => ?_
          show _ = mkF (s * (if T.st.b i = (j : Int) then T.R i (pl + 1) else _)) T.D
          by_cases e : T.st.b i = (j : Int)
          · rw [if_pos e, if_pos (by omega)]
          · rw [if_neg e, if_neg (by omega)]
        · rw [if_neg c1]
          rw [no (.inr c1)] at hK
          exact hK _ _ ⟨rfl, _, _, rfl⟩
      · rw [if_neg c0]
        rw [no (.inl c0)] at hK
        exact hK _ _ ⟨rfl, _, _, rfl⟩
    · rintro τ h' ⟨rfl, o4, o5, rfl⟩
      refine ⟨trivial, hK _ _ ⟨?_, _, _, rfl⟩⟩
      rw [List.length_map, List.length_range]
  rintro τ h' ⟨rfl, o4, o5, rfl⟩
  walk_at "st"
  rw [frz_l hset_same, hdel_hset hf]
  walk_at "st"
  exact q
theorem s_weights {r : List Int} {dp ow : Int} (tw : TW t b c N T h) (z : Sz N m T) (hN : N ≤ 14) (hm : m ≤ 100) (h0 : 0 < m) (hr : r.length = N + 1) (hd : 0 < dp) (hd2 : dp.natAbs ≤ 2 ^ 525) (ho : ow < N + m - 1) (hh : ∀ k, k < N → T.st.h k < N + m - 1)
    (q : P (frs (wtL N m T r dp ow)) h) : callD K04.T (n + 3) "Table.weights_by" [.loc t, lW r, .int dp, .int ow] h P E := by
  refine c_Table_weights_by ?_
  walk_at "st"
  simp only [tw.f1]
  walk_at "ru"
  rw [List.length_map, z.w.rl, show ((m : Int) - 1) = ((m - 1 : Nat) : Int) by omega]
  refine ⟨by omega, fun f hf => ?_⟩
  rw [Int.toNat_natCast, rep_frs]
  obtain ⟨f1, f2, f3⟩ := tw.none hf
  let L : Nat → List (Int × Int) := fun i => (List.range (m - 1)).map fun (j : Nat) => mkF (wv N T r i j) dp
  have L0 : (List.range (m - 1)).map (fun _ => ((0 : Int), (1 : Int))) = L 0 := by
    show _ = (List.range (m - 1)).map fun j => mkF 0 dp
    rw [mkF_zero hd]
  rw [L0]
  refine z_seq (fun τ h' => h' = hset h f (.lst ((L N).map frW)) ∧ ∃ o5, τ = [some (.loc t), some (lW r), some (.int dp), some (.int ow), some (.loc f), o5]) (fun K hK => ?_) ?_
  · walk_at "ru"
    simp only [(tw.new hf).f0]
    walk_at "ru"
    rw [rng0_eq]
    refine ⟨by omega, ?_⟩
    refine forL_inv (fun i τ h' => h' = hset h f (.lst ((L i).map frW)) ∧ ∃ o5, τ = [some (.loc t), some (lW r), some (.int dp), some (.int ow), some (.loc f), o5]) ⟨rfl, _, rfl⟩ ?_ ?_
    · rintro i τ h' x hx ⟨rfl, o5, rfl⟩
      obtain ⟨hi, ex⟩ := rng_get hx
      subst ex
      have hb : i < T.heads.length := by rw [z.w.hl]; exact hi
      refine ⟨trivial, ?_⟩
      walk_at "ru"
      intro K hK
      have tw' := tw.new (o := .lst ((L i).map frW)) hf
      have hhi := hh i hi
      walk_at "st"
      simp only [tw'.f3, tw'.f0]
      walk_at "ru"
      simp only [tw'.vc, at_iw (xs := T.heads) (i := (i : Int)) (j := i) rfl hb]
      walk_at "ru"
      have eb : T.heads.getD i 0 = T.st.h i := rfl
      rw [eb]
      by_cases c0 : (N : Int) ≤ T.st.h i
      · rw [if_pos c0]
        walk_at "st"
        simp only [at_lW (f := r) (i := (i : Int) + 1) (j := i + 1) (by omega) (by omega)]
        walk_at "ru"
        refine s_fraction hd (den5 hd2) ?_
        simp only [tw'.f3, tw'.f0]
        walk_at "ru"
        simp only [tw'.vc, at_iw (xs := T.heads) (i := (i : Int)) (j := i) rfl hb]
        walk_at "ru"
        rw [eb, st_fr hset_same (j := (T.st.h i - N).toNat) (by omega) (by simp [L]; omega), hset_two]
        refine hK _ _ ⟨?_, _, rfl⟩
        congr 3
        show ((List.range (m - 1)).map _).set _ _ = _
        rw [set_map]
        refine List.map_congr_left fun j hj => ?_
        show _ = mkF (if T.st.h i = (N : Int) + j then - r.getD (i + 1) 0 else _) dp
        by_cases e : T.st.h i = (N : Int) + j
        · rw [if_pos e, if_pos (by omega)]
        · rw [if_neg e, if_neg (by omega)]
      · rw [if_neg c0]
        have no : L (i + 1) = L i := by
          refine List.map_congr_left fun j hj => ?_
          show mkF (if T.st.h i = (N : Int) + j then _ else _) _ = _
          rw [if_neg (by omega)]
        rw [no] at hK
        exact hK _ _ ⟨rfl, _, rfl⟩
    · rintro τ h' ⟨rfl, o5, rfl⟩
      refine ⟨trivial, hK _ _ ⟨?_, _, rfl⟩⟩
      rw [List.length_map, List.length_range]
  rintro τ h' ⟨rfl, o5, rfl⟩
  have tw' := tw.new (o := .lst ((L N).map frW)) hf
  refine z_to [some (.loc t), some (lW r), some (.int dp), some (.int ow), some (.loc f), o5] (hset h f (.lst ((wtL N m T r dp ow).map frW))) (fun K hK => ?_) ?_
  · walk_at "ru"
    simp only [tw'.f0]
    walk_at "ru"
    by_cases c0 : (N : Int) ≤ ow
    · rw [if_pos c0]
      walk_at "st"
      simp only [tw'.f4]
      walk_at "ru"
      refine s_fraction hd (den5 hd2) ?_
      simp only [tw'.f0]
      walk_at "ru"
      rw [st_fr hset_same (j := (ow - N).toNat) (by omega) (by simp [L]; omega), hset_two]
      have e2 : (L N).set (ow - N).toNat (mkF T.D dp) = wtL N m T r dp ow := by
        show ((List.range (m - 1)).map _).set _ _ = _
        rw [set_map]
        refine List.map_congr_left fun j hj => ?_
        show _ = mkF (if ow = (N : Int) + j then T.D else _) dp
        by_cases e : ow = (N : Int) + j
        · rw [if_pos e, if_pos (by omega)]
        · rw [if_neg e, if_neg (by omega)]
      rw [e2]
      exact hK
    · rw [if_neg c0]
      have e2 : L N = wtL N m T r dp ow := by
        refine List.map_congr_left fun j hj => ?_
        show mkF _ dp = mkF (if ow = (N : Int) + j then T.D else _) dp
        rw [if_neg (by omega)]
      rw [e2]
      exact hK
  walk_at "st"
  rw [frz_l hset_same, hdel_hset hf]
  walk_at "st"
  exact q
end
end K04
end
section
set_option Elab.async false
set_option linter.all false
set_option maxRecDepth 100000
set_option maxHeartbeats 2000000
namespace K04
open PySem Ri.Z Lb Lm
open Ri (Cl W O Hw hset hdel En KW XW Calls Bop Cop Kd Blt Met ItK Tg Ex Sm Df slot put clr clrs bindT bindTs vw toD toDs lim MulOk rep binW eqD eqW flatW eqF inW cmpW isNon atW cutL slW revW kdW isiOk intsOf prsOf blsOf strsOf leP rngW bltW metTy metW fmtV enmW zipW seqW itrW itrV itsOf fldW isCls frzW delW isEnd initOf nmOf lcL lcL2 wpE wpEs wpJ Dn puts setW atLI augW storeF lstAt isLoL insAt handle forL whlP wpS wpSs wpHs start wpF callD)
local macro_rules | `(tactic| walk_at "ru") => `(tactic| try simp only [r_var, r_int, r_bl, r_non, r_str, r_cst, r_bin, r_neg, r_cmp, r_isN, r_chn, r_and, r_or, r_not, r_ite, r_tup, r_lst, r_sub, r_sli, r_rev, r_call, r_new, r_mth, r_prp, r_eqo, r_fld, r_blt, r_met, r_fmt, r_isi, r_itr, r_lcm, r_lcm2, r_frz, r_own, r_del, r_nil, r_cons, r_jn, r_jc,
  v_set, v_unp, v_par, v_setI, v_augI, v_aug, v_ext, v_setF, v_setII, v_setIN, v_ex, v_app, v_ins, v_revI, v_ret, v_retN, v_ite, v_whl, v_for, v_brk, v_pass, v_frz, v_nil, v_cons,
  okW_some, brW_bl, blW_bl, inW_int, okE_some, tpW_tup, lsW_lst, itW_lst, itW_loc, slot, put, puts, clr, clrs, bindT, bindTs, Option.bind_some, add_i, sub_i, mod_i, add_l, add_t, add_s, rep_l, pow_i, List.any_cons, List.any_nil, List.map_cons, List.map_nil, List.length_cons, List.length_nil,
  iv_seq_l, iv_seq_t, iv_seq_s, iv_rng1, iv_rng2, at_t0, at_t1, at_t2, at_t3, at_l0, at_l1, at_l2, eq_str, eq_int, eq_bl, eq_ll, vw_lW, iv_lW, bl_fW, bl_lW, bt_lW, ln_lW, iv_zipL, wt0, wt1, wt2, wt3, frw0, frw1, am0, am1, am2, blist_frs, eq_nn, kx_tuple_fr, kx_list_fr, kx_int_fr, kx_bool_fr, kx_str_fr, ix_fr, nx_fr, kx_tuple_frs, kx_list_frs, kx_int_frs, kx_bool_frs, kx_str_frs, ix_frs, nx_frs, kx_tuple_am, kx_list_am, kx_int_am, kx_bool_am, kx_str_am, ix_am, nx_am, kx_tuple_rd, kx_list_rd, kx_int_rd, kx_bool_rd, kx_str_rd, ix_rd, nx_rd, kx_tuple_fW, kx_list_fW, kx_int_fW, kx_bool_fW, kx_str_fW, ix_fW, nx_fW, kx_tuple_wt, kx_list_wt, kx_int_wt, kx_bool_wt, kx_str_wt, ix_wt, nx_wt, kx_tuple_rw, kx_list_rw, kx_int_rw, kx_bool_rw, kx_str_rw, ix_rw, nx_rw, it_enm_rw, it_enm_l, it_enm_t, in_modes, in_kinds, cut1, b_all, iv_rw, iv_frs, bl_rw, bl_frs, eq_fr, vw_fr, vw_frs, vw_am, vw_rd, vw_fW, vw_t, vw_rw, vv_non, isn_non, isi_non, vv_bl, isn_bl, isi_bl, vv_int, isn_int, isi_int, vv_str, isn_str, isi_str, vv_tup, isn_tup, isi_tup, vv_lst, isn_lst, isi_lst, vv_obj, isn_obj, isi_obj, vv_exc, isn_exc, vv_scr, isn_scr, kd_int_non, kd_int_bl, kd_int_int, kd_int_str, kd_int_tup, kd_int_lst, kd_int_obj, kd_bool_non, kd_bool_bl, kd_bool_int, kd_bool_str, kd_bool_tup, kd_bool_lst, kd_bool_obj, kd_str_non, kd_str_bl, kd_str_int, kd_str_str, kd_str_tup, kd_str_lst, kd_str_obj, kd_tuple_non, kd_tuple_bl, kd_tuple_int, kd_tuple_str, kd_tuple_tup, kd_tuple_lst, kd_tuple_obj, kd_list_non, kd_list_bl, kd_list_int, kd_list_str, kd_list_tup, kd_list_lst, kd_list_obj, cmp_lt, cmp_le, cmp_gt, cmp_ge, cmp_eq, cmp_ne, cmp_inn, cmp_nin, b_lenl, b_lent, b_lens, b_inti, b_abs, b_max2, b_min2, b_tupl, b_tupt, b_lstl, b_lstt, b_lsts, b_lr1, b_strs, b_stri, dw_nil, dw_cons, au_add, au_sub, ie_non_non, ie_non_int, ie_non_bl, ie_non_str, ie_int, ie_var, ie_bin, ie_neg, sl_l, sl_t, sl_ln, sl_tn, sl_lb, fo0, fo1, fo2, fo3, io, kdi, Mo.e1, Mo.e2, Mo.e3, Kn.e1, Kn.e2, Kn.e3, List.append_nil, List.cons_append, List.nil_append, List.replicate, Nat.reduceAdd, Nat.reduceSub, Nat.reduceLeDiff, Nat.reduceEqDiff,
  true_and, and_true, if_true, if_false, decide_eq_true_eq, Bool.not_eq_true', decide_eq_false_iff_not, Bool.or_false, Bool.or_true, Bool.false_or, Bool.true_or, Bool.not_true, Bool.not_false, reduceCtorEq, ite_true, ite_false, Bool.false_eq_true, forall_const, eq_self, decide_true, decide_false, List.contains_cons, List.contains_nil, List.elem_cons, beq_self_eq_true, ne_eq, not_true_eq_false, not_false_eq_true])
local macro_rules | `(tactic| walk_at "st") => `(tactic| ((try refine z_cons ?_); walk_at "ru"))
local macro_rules | `(tactic| walk_at "to") => `(tactic| (refine z_to ?t ?h (fun K hK => ?q1) ?q2))
section
variable {n : Nat} {h : Hw} {P : KW} {E : XW} {t b c : Addr} {T : Tb} {Q : Pb}
/-- what stood stands -/
def Ext (h h' : Hw) : Prop := ∀ x o, h x = some o → h' x = some o
theorem Ext.refl : Ext h h := fun _ _ e => e
theorem Ext.trans {h1 h2 : Hw} (a : Ext h h1) (b : Ext h1 h2) : Ext h h2 := fun x o e => b x o (a x o e)
theorem Fr3.ext {h0 h1 : Hw} (f : Fr3 t b c h h1) (e : Ext h0 h) (n1 : h0 t = none) (n2 : h0 b = none) (n3 : h0 c = none) : Ext h0 h1 := fun x o ex => by
  have := e x o ex
  rw [f x (by intro z; subst z; rw [n1] at ex; cases ex) (by intro z; subst z; rw [n2] at ex; cases ex) (by intro z; subst z; rw [n3] at ex; cases ex)]
  exact this
/-- the answers of solve -/
inductive Out (Q : Pb) : W → Prop where
  | none {T : Tb} {i : Nat} : Good Q T → FZ Q T → Lk Q T i → (∀ j, j < Q.n → (Q.n : Int) ≤ T.st.h j → T.R i (j + 1) ≤ 0) → Out Q (.tup [.str "none", frs (wtL Q.n Q.m T (T.rows.getD i []) (- T.R i 0) (T.st.b i))])
  | most {T : Tb} : Good Q T → FZ Q T → WZ Q T → Fe Q T → Op Q T → Out Q (.tup [.str "most", frW (mkF (T.R (Q.m - 1) 0) T.D), frs (wtL Q.n Q.m T (T.rows.getD (Q.m - 1) []) T.D (-1)), .lst ((ptL Q.n Q.m T).map frW)])
  | free1 {T : Tb} {k : Nat} : Good Q T → FZ Q T → Fe Q T → k < Q.n → T.st.h k < Q.n → T.R (Q.m - 1) (k + 1) ≠ 0 → Out Q (.tup [.str "free", .lst ((ptL Q.n Q.m T).map frW), .lst ((crL Q.n Q.m T k (if 0 < T.R (Q.m - 1) (k + 1) then 1 else -1)).map frW)])
  | free2 {T0 T : Tb} {k m : Nat} : Go2 Q T0 T m → Ga Q T k → (∀ i, i < Q.m → (Q.n : Int) ≤ T.st.b i → 0 ≤ T.R i (k + 1)) → Out Q (.tup [.str "free", .lst ((ptL Q.n Q.m T0).map frW), .lst ((crL Q.n Q.m T k 1).map frW)])
theorem sz_of (g : Good Q T) (hF : FB Q (2 ^ 32)) (hN : Q.n ≤ 14) : Sz Q.n Q.m T := let s := big_sz g hF hN; ⟨g.wf, s.1, s.2.1, s.2.2⟩
theorem gh0 (g : Good Q T) {k : Nat} (hk : k < Q.n) : 0 ≤ T.st.h k := by
  have h1 := (g.ok.rh k hk).1
  have h2 := g.ok.bh (Q.m - 1) k (by have := g.m0; omega) hk
  rw [g.last] at h2
  omega
section
variable {T0 : Tb} {m : Nat} {h1 : Hw} {J : En → Hw → Prop} {B : En → Hw → Prop} {o4 o5 : Option W}
/-- on again -/
def Ag (Q : Pb) (T0 : Tb) (t b c : Addr) (m : Nat) (h1 : Hw) (J : En → Hw → Prop) : Prop := ∀ (T' : Tb) m' h' a2 a3 a4 a5, m' < m → TW t b c Q.n T' h' → Go2 Q T0 T' m' → Fr3 t b c h1 h' → J [some (.loc t), some (.lst ((ptL Q.n Q.m T0).map frW)), a2, a3, a4, a5] h'
theorem climb_row (tw : TW t b c Q.n T h1) (g : Go2 Q T0 T m) (hF : FB Q (2 ^ 32)) (hN : Q.n ≤ 14) (hm : Q.m ≤ 100) (hJ : Ag Q T0 t b c m h1 J) {i : Nat} (l : Lk Q T i) (o : Op Q T ∨ ∃ j, Ga Q T j ∧ T.st.b i < T.st.h j) {w3 : W} :
    wpSs (callD K04.T (n + 3)) b_climb_2 [some (.loc t), some (.lst ((ptL Q.n Q.m T0).map frW)), some (.int (i : Nat)), some w3, o4, o5] h1 { nx := J, rt := P, bk := B, ct := J, ex := fun _ => E } := by
  have wf := g.1.1.wf
  walk_at "st"
  refine ⟨cls_at tw.ht, cls_at tw.ht, ?_⟩
  refine s_raising tw wf hN l.1 (fun no => (g.raise l no).elim) fun k hk h1' h2 h3 => ?_
  have r : Ra Q T i k := ⟨hk, h1', h2, h3⟩
  refine s_exchange tw (sz_of g.1.1 hF hN) l.1 hk hN hm fun h' tw' f' => ?_
  obtain ⟨m', lt, g'⟩ := g.row l r o
  exact hJ _ _ _ _ _ _ _ lt tw' g' f'
theorem climb_col (tw : TW t b c Q.n T h1) (g : Go2 Q T0 T m) (hF : FB Q (2 ^ 32)) (hN : Q.n ≤ 14) (hm : Q.m ≤ 100) (hJ : Ag Q T0 t b c m h1 J) (q : ∀ w, Out Q w → P w h1) {k : Nat} (l : Ga Q T k) (o : Fe Q T ∨ ∃ j, Lk Q T j ∧ T.st.h k < T.st.b j) {w2 : W} :
    wpSs (callD K04.T (n + 3)) b_climb_4 [some (.loc t), some (.lst ((ptL Q.n Q.m T0).map frW)), some w2, some (.int (k : Nat)), o4, o5] h1 { nx := J, rt := P, bk := B, ct := J, ex := fun _ => E } := by
  have wf := g.1.1.wf
  have sz := sz_of g.1.1 hF hN
  walk_at "st"
  refine ⟨cls_at tw.ht, ?_⟩
  refine s_ending tw wf hN hm l.1 (fun no => ?_) fun i hi h1' h2 h3 => ?_
  · walk_at "st"
    walk_at "st"
    refine ⟨cls_at tw.ht, ?_⟩
    refine s_course tw sz hN hm l.1 (.inl rfl) (by have := l.2.1; omega) ?_
    walk_at "ru"
    exact q _ (.free2 g l no)
  · walk_at "st"
    walk_at "st"
    refine ⟨cls_at tw.ht, ?_⟩
    refine s_exchange tw sz hi l.1 hN hm fun h' tw' f' => ?_
    obtain ⟨m', lt, g'⟩ := g.col l ⟨hi, h1', h2, h3⟩ o
    exact hJ _ _ _ _ _ _ _ lt tw' g' f'
theorem climb_two (tw : TW t b c Q.n T h1) (g : Go2 Q T0 T m) (hF : FB Q (2 ^ 32)) (hN : Q.n ≤ 14) (hm : Q.m ≤ 100) (hJ : Ag Q T0 t b c m h1 J) (q : ∀ w, Out Q w → P w h1) {w2 w3 : W}
    (c2 : (w2 = .non ∧ Fe Q T) ∨ ∃ i : Nat, w2 = .int (i : Int) ∧ Lk Q T i) (c3 : (w3 = .non ∧ Op Q T) ∨ ∃ k : Nat, w3 = .int (k : Int) ∧ Ga Q T k) :
    wpSs (callD K04.T (n + 3)) b_climb_8 [some (.loc t), some (.lst ((ptL Q.n Q.m T0).map frW)), some w2, some w3, o4, o5] h1 { nx := J, rt := P, bk := B, ct := J, ex := fun _ => E } := by
  have wf := g.1.1.wf
  have m0 := g.1.1.m0
  have sz := sz_of g.1.1 hF hN
  rcases c2 with ⟨e2, fe⟩ | ⟨i, e2, l⟩ <;> rcases c3 with ⟨e3, op⟩ | ⟨k, e3, ga⟩ <;> subst e2 e3
  · walk_at "st"
    walk_at "st"
    simp only [tw.f1]
    obtain ⟨r, e1, e2, e3, e4⟩ := getR (z := wf) (i := Q.m - 1) (by omega)
    walk_at "ru"
    rw [at_neg (w := lW r) (by rw [List.length_map, wf.rl]; exact rows_get e1)]
    walk_at "st"
    simp only [at_lW (f := r) (i := 0) (j := 0) rfl (by omega), e4, tw.f4]
    walk_at "ru"
    refine s_fraction sz.d0 (den5 sz.d) ?_
    refine ⟨cls_at tw.ht, ?_⟩
    simp only [tw.f4]
    walk_at "ru"
    refine s_weights tw sz hN hm m0 e3 sz.d0 sz.d (by omega) (fun k hk => (g.1.1.ok.rh k hk).2) ?_
    refine ⟨cls_at tw.ht, ?_⟩
    refine s_point tw sz hN hm ?_
    walk_at "ru"
    have o := Out.most g.1.1 g.1.2.1 g.1.2.2 fe op
    rw [e2] at o
    exact q _ o
  · walk_at "st"
    walk_at "st"
    exact climb_col tw g hF hN hm hJ q ga (.inl fe)
  · walk_at "st"
    walk_at "st"
    exact climb_row tw g hF hN hm hJ l (.inl op)
  · walk_at "st"
    walk_at "st"
    have hb : i < T.base.length := by rw [wf.bl]; exact l.1
    have hh : k < T.heads.length := by rw [wf.hl]; exact ga.1
    simp only [tw.f2, tw.f3]
    walk_at "ru"
    simp only [tw.vb, tw.vc, at_iw (xs := T.base) (i := (i : Int)) (j := i) rfl hb, at_iw (xs := T.heads) (i := (k : Int)) (j := k) rfl hh]
    walk_at "ru"
    have e1 : T.base.getD i 0 = T.st.b i := rfl
    have e2 : T.heads.getD k 0 = T.st.h k := rfl
    rw [e1, e2]
    have ne : T.st.b i ≠ T.st.h k := g.1.1.ok.bh i k l.1 ga.1
    by_cases c0 : T.st.b i < T.st.h k
    · rw [if_pos c0]
      exact climb_row tw g hF hN hm hJ l (.inr ⟨k, ga, c0⟩)
    · rw [if_neg c0]
      exact climb_col tw g hF hN hm hJ q ga (.inr ⟨i, l, by omega⟩)
end
theorem s_climb {T0 : Tb} {m : Nat} (tw : TW t b c Q.n T h) (g : Go2 Q T0 T m) (hF : FB Q (2 ^ 32)) (hN : Q.n ≤ 14) (hm : Q.m ≤ 100) (q : ∀ w h', Out Q w → Fr3 t b c h h' → P w h') :
    callD K04.T (n + 4) "climb" [.loc t, .lst ((ptL Q.n Q.m T0).map frW)] h P E := by
  refine c_climb ?_
  walk_at "st"
  refine whl_inv (fun m τ h' => ∃ T, TW t b c Q.n T h' ∧ Go2 Q T0 T m ∧ Fr3 t b c h h' ∧ ∃ o2 o3 o4 o5, τ = [some (.loc t), some (.lst ((ptL Q.n Q.m T0).map frW)), o2, o3, o4, o5]) m ⟨T, tw, g, fun _ _ _ _ => rfl, _, _, _, _, rfl⟩ ?_
  rintro m τ h1 ⟨T, tw, g, f1, o2, o3, o4, o5, rfl⟩
  have m0 := g.1.1.m0
  have wf := g.1.1.wf
  simp only [r_bl, brW_bl, if_true]
  have q' : ∀ w, Out Q w → P w h1 := fun w o => q w h1 o f1
  generalize eJ : (fun (τ' : En) (h' : Hw) => ∃ m', m' < m ∧ ∃ T, TW t b c Q.n T h' ∧ Go2 Q T0 T m' ∧ Fr3 t b c h h' ∧ ∃ o2 o3 o4 o5, τ' = [some (.loc t), some (.lst ((ptL Q.n Q.m T0).map frW)), o2, o3, o4, o5]) = J
  have hJ : Ag Q T0 t b c m h1 J := by
    intro T' m' h' a2 a3 a4 a5 lt tw' g' f'
    rw [← eJ]
    exact ⟨m', lt, T', tw', g', fun x x1 x2 x3 => (f' x x1 x2 x3).trans (f1 x x1 x2 x3), a2, a3, a4, a5, rfl⟩
  walk_at "st"
  refine ⟨cls_at tw.ht, ?_⟩
  refine s_lacking tw wf hN hm (fun no => ?_) fun i hi a1 a2 a3 => ?_
  · walk_at "ru"
    refine ⟨cls_at tw.ht, s_gaining tw wf hN m0 (fun no3 => ?_) fun j hj b1 b2 b3 => ?_⟩
    · walk_at "ru"
      exact climb_two tw g hF hN hm hJ q' (.inl ⟨rfl, no⟩) (.inl ⟨rfl, no3⟩)
    · walk_at "ru"
      exact climb_two tw g hF hN hm hJ q' (.inl ⟨rfl, no⟩) (.inr ⟨j, rfl, hj, b1, b2, b3⟩)
  · walk_at "ru"
    have l : Lk Q T i := ⟨hi, a1, a2, a3⟩
    refine ⟨cls_at tw.ht, s_gaining tw wf hN m0 (fun no3 => ?_) fun j hj b1 b2 b3 => ?_⟩
    · walk_at "ru"
      exact climb_two tw g hF hN hm hJ q' (.inr ⟨i, rfl, l⟩) (.inl ⟨rfl, no3⟩)
    · walk_at "ru"
      exact climb_two tw g hF hN hm hJ q' (.inr ⟨i, rfl, l⟩) (.inr ⟨j, rfl, hj, b1, b2, b3⟩)
theorem s_solve {N : Nat} {es : List W} {fs : List (List Int)} {ew : W} {w : List Int} (r : Rws es fs) (r1 : Rw1 ew w) (hw : w.length = N + 1) (hf : ∀ f ∈ fs, f.length = N + 1) (hN : N ≤ 14) (hm : fs.length ≤ 90) (hF : FB (prob N fs w) (2 ^ 32))
    (q : ∀ o h', Out (prob N fs w) o → Ext h h' → P o h') : callD K04.T (n + 5) "solve" [.lst es, ew] h P E := by
  refine c_solve ?_
  walk_at "st"
  intro t ht
  refine s_tinit r r1 hw hN hm ht fun b c h1 hb hc tw f1 => ?_
  refine ⟨rfl, ?_⟩
  have X : ∀ {h2 : Hw}, Fr3 t b c h1 h2 → Ext h h2 := fun f => Fr3.ext (h0 := h) f (Fr3.ext f1 Ext.refl ht hb hc) ht hb hc
  have hm' : (prob N fs w).m ≤ 100 := by show fs.length + 1 ≤ 100; omega
  generalize hQ : prob N fs w = Q at *
  have hn : N = Q.n := by rw [← hQ]; rfl
  subst hn
  walk_at "st"
  refine ⟨cls_at tw.ht, ?_⟩
  refine s_bring tw (by rw [← hQ]; exact beg_good hw hf) hF hN hm' fun T2 h2 tw2 g2 f2 => ?_
  walk_at "st"
  have ask : ∀ {T : Tb} {h3 : Hw} {K : KW}, Good Q T → TW t b c Q.n T h3 → (∀ w2, ((w2 = .non ∧ Fe Q T) ∨ ∃ i : Nat, w2 = .int (i : Int) ∧ Lk Q T i) → K w2 h3) → callD K04.T (n + 4) "Table.lacking" [.loc t] h3 K E :=
    fun g tw k => s_lacking tw g.wf hN hm' (fun no => k _ (.inl ⟨rfl, no⟩)) fun i hi a1 a2 a3 => k _ (.inr ⟨i, rfl, hi, a1, a2, a3⟩)
  refine ⟨cls_at tw2.ht, ask g2.done.1 tw2 fun w2 c2 => ?_⟩
  obtain ⟨m, g1⟩ := Go1.start g2
  refine z_seq (fun τ h' => ∃ T m, (TW t b c Q.n T h' ∧ Go1 Q T m ∧ Fr3 t b c h1 h' ∧ Fe Q T) ∧ ∃ o5 o6, τ = [some (.lst es), some ew, some (.loc t), some .non, none, o5, o6]) (fun K hK => ?_) ?_
  · simp only [v_whl]
    refine whl_inv (fun m τ h' => ∃ T w2, (TW t b c Q.n T h' ∧ Go1 Q T m ∧ Fr3 t b c h1 h' ∧ ((w2 = .non ∧ Fe Q T) ∨ ∃ i : Nat, w2 = .int (i : Int) ∧ Lk Q T i)) ∧ ∃ o5 o6, τ = [some (.lst es), some ew, some (.loc t), some w2, none, o5, o6]) m ⟨T2, w2, ⟨tw2, g1, f2, c2⟩, _, _, rfl⟩ ?_
    rintro m τ h3 ⟨T, w2, ⟨tw3, g3, f3, c3⟩, o5, o6, rfl⟩
    walk_at "ru"
    rcases c3 with ⟨e3, fe⟩ | ⟨i, e3, l⟩ <;> subst e3
    · walk_at "ru"
      exact hK _ _ ⟨T, m, ⟨tw3, g3, f3, fe⟩, _, _, rfl⟩
    · walk_at "ru"
      have wf := g3.1.wf
      have sz := sz_of g3.1 hF hN
      generalize eJ : (fun (τ' : En) (h' : Hw) => ∃ m', m' < m ∧ ∃ T w2, (TW t b c Q.n T h' ∧ Go1 Q T m' ∧ Fr3 t b c h1 h' ∧ ((w2 = .non ∧ Fe Q T) ∨ ∃ i : Nat, w2 = .int (i : Int) ∧ Lk Q T i)) ∧ ∃ o5 o6, τ' = [some (.lst es), some ew, some (.loc t), some w2, none, o5, o6]) = J
      walk_at "st"
      refine ⟨cls_at tw3.ht, ?_⟩
      refine s_raising tw3 wf hN l.1 (fun no => ?_) fun k hk a1 a2 a3 => ?_
      · walk_at "st"
        walk_at "st"
        simp only [tw3.f1]
        obtain ⟨rr, e1, e2, e3, e4⟩ := getR (z := wf) l.1
        have hbl : i < T.base.length := by rw [wf.bl]; exact l.1
        walk_at "ru"
        rw [at_ln (rows_get e1)]
        walk_at "st"
        refine ⟨cls_at tw3.ht, ?_⟩
        simp only [at_lW (f := rr) (i := 0) (j := 0) rfl (by omega), e4, tw3.f2]
        walk_at "ru"
        simp only [tw3.vb, at_iw (xs := T.base) (i := (i : Int)) (j := i) rfl hbl]
        have l2 : T.R i 0 < 0 := l.2.2.1
        refine s_weights tw3 sz hN hm' g3.1.m0 e3 (by omega) (by rw [Int.natAbs_neg]; exact sz.r i 0 l.1 (by omega)) (g3.1.ok.rb i l.1).2 (fun k hk => (g3.1.ok.rh k hk).2) ?_
        walk_at "ru"
        have o := Out.none g3.1 g3.2.1 l no
        rw [e2] at o
        exact q _ _ o (X f3)
      · walk_at "st"
        walk_at "st"
        refine ⟨cls_at tw3.ht, ?_⟩
        refine s_exchange tw3 sz l.1 hk hN hm' fun h4 tw4 f4 => ?_
        obtain ⟨m', lt, g4⟩ := g3.step l ⟨hk, a1, a2, a3⟩
        walk_at "st"
        refine ⟨cls_at tw4.ht, ask g4.1 tw4 fun w4 c4 => ?_⟩
        walk_at "ru"
        rw [← eJ]
        exact ⟨m', lt, _, w4, ⟨tw4, g4, fun x x1 x2 x3 => (f4 x x1 x2 x3).trans (f3 x x1 x2 x3), c4⟩, _, _, rfl⟩
  rintro τ h3 ⟨T, m, ⟨tw3, g3, f3, fe⟩, o5, o6, rfl⟩
  have wf := g3.1.wf
  have sz := sz_of g3.1 hF hN
  walk_at "st"
  refine ⟨cls_at tw3.ht, s_point tw3 sz hN hm' ?_⟩
  walk_at "st"
  refine ⟨cls_at tw3.ht, s_loose tw3 wf hN g3.1.m0 (fun z => ?_) fun k hk k1 k2 => ?_⟩
  · walk_at "st"
    walk_at "st"
    obtain ⟨m', g4⟩ := Go2.start g3 fe z
    refine s_climb tw3 g4 hF hN hm' fun o h' ho f4 => ?_
    exact q _ _ ho (X fun x x1 x2 x3 => (f4 x x1 x2 x3).trans (f3 x x1 x2 x3))
  · walk_at "st"
    walk_at "st"
    simp only [tw3.f1]
    obtain ⟨rr, e1, e2, e3, e4⟩ := getR (z := wf) (i := Q.m - 1) (by have := g3.1.m0; omega)
    walk_at "ru"
    refine ⟨cls_at tw3.ht, ?_⟩
    simp only [at_neg (show (T.rows.map lW)[(T.rows.map lW).length - 1]? = some (lW rr) by rw [List.length_map, wf.rl]; exact rows_get e1)]
    walk_at "ru"
    simp only [at_lW (f := rr) (i := (k : Int) + 1) (j := k + 1) (by omega) (by omega), e4]
    walk_at "ru"
    have o := Out.free1 g3.1 g3.2.1 fe hk k1 k2
    by_cases c0 : 0 < T.R (Q.m - 1) (k + 1)
    · rw [if_pos c0] at o ⊢
      refine s_course tw3 sz hN hm' hk (.inl rfl) ?_ ?_
      · exact gh0 g3.1 hk
      · walk_at "ru"
        exact q _ _ o (X f3)
    · rw [if_neg c0] at o ⊢
      refine s_course tw3 sz hN hm' hk (.inr rfl) ?_ ?_
      · exact gh0 g3.1 hk
      · walk_at "ru"
        exact q _ _ o (X f3)
end
end K04
end
section
set_option Elab.async false
set_option linter.all false
set_option maxRecDepth 100000
set_option maxHeartbeats 1000000
namespace K04
open PySem Ri.Z Lb
open Ri (Cl W O Hw hset hdel En KW XW Calls Bop Cop Kd Blt Met ItK Tg Ex Sm Df slot put clr clrs bindT bindTs vw toD toDs lim MulOk rep binW eqD eqW flatW eqF inW cmpW isNon atW cutL slW revW kdW isiOk intsOf prsOf blsOf strsOf leP rngW bltW metTy metW fmtV enmW zipW seqW itrW itrV itsOf fldW isCls frzW delW isEnd initOf nmOf lcL lcL2 wpE wpEs wpJ Dn puts setW atLI augW storeF lstAt isLoL insAt handle forL whlP wpS wpSs wpHs start wpF callD)
local macro_rules | `(tactic| walk_at "ru") => `(tactic| try simp only [r_var, r_int, r_bl, r_non, r_str, r_cst, r_bin, r_neg, r_cmp, r_isN, r_chn, r_and, r_or, r_not, r_ite, r_tup, r_lst, r_sub, r_sli, r_rev, r_call, r_new, r_mth, r_prp, r_eqo, r_fld, r_blt, r_met, r_fmt, r_isi, r_itr, r_lcm, r_lcm2, r_frz, r_own, r_del, r_nil, r_cons, r_jn, r_jc,
  v_set, v_unp, v_par, v_setI, v_augI, v_aug, v_ext, v_setF, v_setII, v_setIN, v_ex, v_app, v_ins, v_revI, v_ret, v_retN, v_ite, v_whl, v_for, v_brk, v_pass, v_frz, v_nil, v_cons,
  okW_some, brW_bl, blW_bl, inW_int, okE_some, tpW_tup, lsW_lst, itW_lst, itW_loc, slot, put, puts, clr, clrs, bindT, bindTs, Option.bind_some, add_i, sub_i, mod_i, add_l, add_t, add_s, rep_l, pow_i, List.any_cons, List.any_nil, List.map_cons, List.map_nil, List.length_cons, List.length_nil,
  iv_seq_l, iv_seq_t, iv_seq_s, iv_rng1, iv_rng2, at_t0, at_t1, at_t2, at_t3, at_l0, at_l1, at_l2, eq_str, eq_int, eq_bl, eq_ll, wt0, wt1, wt2, wt3, frw0, frw1, am0, am1, am2, blist_frs, eq_nn, kx_tuple_fr, kx_list_fr, kx_int_fr, kx_bool_fr, kx_str_fr, ix_fr, nx_fr, kx_tuple_frs, kx_list_frs, kx_int_frs, kx_bool_frs, kx_str_frs, ix_frs, nx_frs, kx_tuple_am, kx_list_am, kx_int_am, kx_bool_am, kx_str_am, ix_am, nx_am, kx_tuple_rd, kx_list_rd, kx_int_rd, kx_bool_rd, kx_str_rd, ix_rd, nx_rd, kx_tuple_fW, kx_list_fW, kx_int_fW, kx_bool_fW, kx_str_fW, ix_fW, nx_fW, kx_tuple_wt, kx_list_wt, kx_int_wt, kx_bool_wt, kx_str_wt, ix_wt, nx_wt, kx_tuple_rw, kx_list_rw, kx_int_rw, kx_bool_rw, kx_str_rw, ix_rw, nx_rw, it_enm_rw, it_enm_l, it_enm_t, in_modes, in_kinds, cut1, b_all, iv_rw, iv_frs, bl_rw, bl_frs, eq_fr, vw_fr, vw_frs, vw_am, vw_rd, vw_fW, vw_t, vw_rw, vv_non, isn_non, isi_non, vv_bl, isn_bl, isi_bl, vv_int, isn_int, isi_int, vv_str, isn_str, isi_str, vv_tup, isn_tup, isi_tup, vv_lst, isn_lst, isi_lst, vv_obj, isn_obj, isi_obj, vv_exc, isn_exc, vv_scr, isn_scr, kd_int_non, kd_int_bl, kd_int_int, kd_int_str, kd_int_tup, kd_int_lst, kd_int_obj, kd_bool_non, kd_bool_bl, kd_bool_int, kd_bool_str, kd_bool_tup, kd_bool_lst, kd_bool_obj, kd_str_non, kd_str_bl, kd_str_int, kd_str_str, kd_str_tup, kd_str_lst, kd_str_obj, kd_tuple_non, kd_tuple_bl, kd_tuple_int, kd_tuple_str, kd_tuple_tup, kd_tuple_lst, kd_tuple_obj, kd_list_non, kd_list_bl, kd_list_int, kd_list_str, kd_list_tup, kd_list_lst, kd_list_obj, cmp_lt, cmp_le, cmp_gt, cmp_ge, cmp_eq, cmp_ne, cmp_inn, cmp_nin, b_lenl, b_lent, b_lens, b_inti, b_abs, b_max2, b_min2, b_tupl, b_tupt, b_lstl, b_lstt, b_lsts, b_lr1, b_strs, b_stri, dw_nil, dw_cons, au_add, au_sub, ie_non_non, ie_non_int, ie_non_bl, ie_non_str, ie_int, ie_var, ie_bin, ie_neg, sl_l, sl_t, sl_ln, sl_tn, sl_lb, fo0, fo1, fo2, fo3, io, kdi, Mo.e1, Mo.e2, Mo.e3, Kn.e1, Kn.e2, Kn.e3, List.append_nil, List.cons_append, List.nil_append, List.replicate, Nat.reduceAdd, Nat.reduceSub, Nat.reduceLeDiff, Nat.reduceEqDiff,
  true_and, and_true, if_true, if_false, decide_eq_true_eq, Bool.not_eq_true', decide_eq_false_iff_not, Bool.or_false, Bool.or_true, Bool.false_or, Bool.true_or, Bool.not_true, Bool.not_false, reduceCtorEq, ite_true, ite_false, Bool.false_eq_true, forall_const, eq_self, decide_true, decide_false, List.contains_cons, List.contains_nil, List.elem_cons, beq_self_eq_true, ne_eq, not_true_eq_false, not_false_eq_true])
local macro_rules | `(tactic| walk_at "st") => `(tactic| ((try refine z_cons ?_); walk_at "ru"))
local macro_rules | `(tactic| walk_at "to") => `(tactic| (refine z_to ?t ?h (fun K hK => ?q1) ?q2))
section
variable {n : Nat} {h : Hw} {P : KW} {E : XW}
end
end K04
end
section
set_option Elab.async false
set_option linter.all false
set_option maxRecDepth 100000
set_option maxHeartbeats 1000000
namespace K04
open PySem Ri.Z Lb
open Ri (Cl W O Hw hset hdel En KW XW Calls Bop Cop Kd Blt Met ItK Tg Ex Sm Df slot put clr clrs bindT bindTs vw toD toDs lim MulOk rep binW eqD eqW flatW eqF inW cmpW isNon atW cutL slW revW kdW isiOk intsOf prsOf blsOf strsOf leP rngW bltW metTy metW fmtV enmW zipW seqW itrW itrV itsOf fldW isCls frzW delW isEnd initOf nmOf lcL lcL2 wpE wpEs wpJ Dn puts setW atLI augW storeF lstAt isLoL insAt handle forL whlP wpS wpSs wpHs start wpF callD)
local macro_rules | `(tactic| walk_at "ru") => `(tactic| try simp only [r_var, r_int, r_bl, r_non, r_str, r_cst, r_bin, r_neg, r_cmp, r_isN, r_chn, r_and, r_or, r_not, r_ite, r_tup, r_lst, r_sub, r_sli, r_rev, r_call, r_new, r_mth, r_prp, r_eqo, r_fld, r_blt, r_met, r_fmt, r_isi, r_itr, r_lcm, r_lcm2, r_frz, r_own, r_del, r_nil, r_cons, r_jn, r_jc,
  v_set, v_unp, v_par, v_setI, v_augI, v_aug, v_ext, v_setF, v_setII, v_setIN, v_ex, v_app, v_ins, v_revI, v_ret, v_retN, v_ite, v_whl, v_for, v_brk, v_pass, v_frz, v_nil, v_cons,
  okW_some, brW_bl, blW_bl, inW_int, okE_some, tpW_tup, lsW_lst, itW_lst, itW_loc, slot, put, puts, clr, clrs, bindT, bindTs, Option.bind_some, add_i, sub_i, mod_i, add_l, add_t, add_s, rep_l, pow_i, List.any_cons, List.any_nil, List.map_cons, List.map_nil, List.length_cons, List.length_nil,
  iv_seq_l, iv_seq_t, iv_seq_s, iv_rng1, iv_rng2, at_t0, at_t1, at_t2, at_t3, at_l0, at_l1, at_l2, eq_str, eq_int, eq_bl, eq_ll, wt0, wt1, wt2, wt3, frw0, frw1, am0, am1, am2, blist_frs, eq_nn, kx_tuple_fr, kx_list_fr, kx_int_fr, kx_bool_fr, kx_str_fr, ix_fr, nx_fr, kx_tuple_frs, kx_list_frs, kx_int_frs, kx_bool_frs, kx_str_frs, ix_frs, nx_frs, kx_tuple_am, kx_list_am, kx_int_am, kx_bool_am, kx_str_am, ix_am, nx_am, kx_tuple_rd, kx_list_rd, kx_int_rd, kx_bool_rd, kx_str_rd, ix_rd, nx_rd, kx_tuple_fW, kx_list_fW, kx_int_fW, kx_bool_fW, kx_str_fW, ix_fW, nx_fW, kx_tuple_wt, kx_list_wt, kx_int_wt, kx_bool_wt, kx_str_wt, ix_wt, nx_wt, kx_tuple_rw, kx_list_rw, kx_int_rw, kx_bool_rw, kx_str_rw, ix_rw, nx_rw, it_enm_rw, it_enm_l, it_enm_t, in_modes, in_kinds, cut1, b_all, iv_rw, iv_frs, bl_rw, bl_frs, eq_fr, vw_fr, vw_frs, vw_am, vw_rd, vw_fW, vw_t, vw_rw, vv_non, isn_non, isi_non, vv_bl, isn_bl, isi_bl, vv_int, isn_int, isi_int, vv_str, isn_str, isi_str, vv_tup, isn_tup, isi_tup, vv_lst, isn_lst, isi_lst, vv_obj, isn_obj, isi_obj, vv_exc, isn_exc, vv_scr, isn_scr, kd_int_non, kd_int_bl, kd_int_int, kd_int_str, kd_int_tup, kd_int_lst, kd_int_obj, kd_bool_non, kd_bool_bl, kd_bool_int, kd_bool_str, kd_bool_tup, kd_bool_lst, kd_bool_obj, kd_str_non, kd_str_bl, kd_str_int, kd_str_str, kd_str_tup, kd_str_lst, kd_str_obj, kd_tuple_non, kd_tuple_bl, kd_tuple_int, kd_tuple_str, kd_tuple_tup, kd_tuple_lst, kd_tuple_obj, kd_list_non, kd_list_bl, kd_list_int, kd_list_str, kd_list_tup, kd_list_lst, kd_list_obj, cmp_lt, cmp_le, cmp_gt, cmp_ge, cmp_eq, cmp_ne, cmp_inn, cmp_nin, b_lenl, b_lent, b_lens, b_inti, b_abs, b_max2, b_min2, b_tupl, b_tupt, b_lstl, b_lstt, b_lsts, b_lr1, b_strs, b_stri, dw_nil, dw_cons, au_add, au_sub, ie_non_non, ie_non_int, ie_non_bl, ie_non_str, ie_int, ie_var, ie_bin, ie_neg, sl_l, sl_t, sl_ln, sl_tn, sl_lb, fo0, fo1, fo2, fo3, io, kdi, Mo.e1, Mo.e2, Mo.e3, Kn.e1, Kn.e2, Kn.e3, List.append_nil, List.cons_append, List.nil_append, List.replicate, Nat.reduceAdd, Nat.reduceSub, Nat.reduceLeDiff, Nat.reduceEqDiff,
  true_and, and_true, if_true, if_false, decide_eq_true_eq, Bool.not_eq_true', decide_eq_false_iff_not, Bool.or_false, Bool.or_true, Bool.false_or, Bool.true_or, Bool.not_true, Bool.not_false, reduceCtorEq, ite_true, ite_false, Bool.false_eq_true, forall_const, eq_self, decide_true, decide_false, List.contains_cons, List.contains_nil, List.elem_cons, beq_self_eq_true, ne_eq, not_true_eq_false, not_false_eq_true])
local macro_rules | `(tactic| walk_at "st") => `(tactic| ((try refine z_cons ?_); walk_at "ru"))
local macro_rules | `(tactic| walk_at "to") => `(tactic| (refine z_to ?t ?h (fun K hK => ?q1) ?q2))
section
variable {n : Nat} {h : Hw} {P : KW} {E : XW}
theorem s_forms_of {w : Wb} {r : Rd} (hl : w.l ≤ 4) (hn : w.n ≤ 6) (ok : r.ok w.l w.n) (q : P (.lst ((formsOf w r).map fW)) h) : callD T (n + 3) "forms_of" [w.o, r.w] h P E := by
  refine c_forms_of ?_
  unfold Rd.w
  walk_at "st"
  walk_at "st"
  refine s_blank hl hn fun a ha => s_blank hl hn fun b hb => ?_
  obtain ⟨nb, hb⟩ := hset_none hb
  walk_at "ru"
  have lb : (blank w).length = w.len := blank_len
  have ls : 1 + r.s < w.len := by have := ok.1; unfold Wb.len; omega
  walk_at "st"
  refine s_put_level (by rw [hset_ne (Ne.symm nb)]; exact hset_same) (by rw [lb]; exact ls) ?_
  rw [hset_swap (Ne.symm nb)]
  walk_at "st"
  refine s_put_level hset_same (by rw [lb]; exact ls) ?_
  rw [hset_two]
  generalize e1 : putL (blank w) r.s 1 = low
  generalize e2 : putL (blank w) r.s (-1) = high
  have l1 : low.length = w.len := by rw [← e1, putL_len, lb]
  have l2 : high.length = w.len := by rw [← e2, putL_len, lb]
  have p0 : 0 < w.len := by unfold Wb.len; omega
  walk_at "st"
  unfold formsOf at q
  simp only [e1, e2] at q
  have ga : ∀ o, hset (hset h a o) b (.lst (iws high)) a = some o := fun o => by rw [hset_ne (Ne.symm nb)]; exact hset_same
  split
  · rename_i k
    simp only [k, List.map_cons, List.map_nil] at q
    walk_at "st"
    refine sub_at (ga _) (j := 0) rfl (by omega) ?_
    rw [hset_swap (Ne.symm nb)]
    walk_at "st"
    refine aug_at hset_same (j := 0) rfl (by omega) ?_
    rw [hset_two]
    walk_at "st"
    simp only [vw_loc (show (hset (hset h a (.lst (iws (addAt low 0 (-(r.a : Int)))))) b (.lst (iws (addAt high 0 (r.b : Int))))) a = _ by rw [hset_ne (Ne.symm nb)]; exact hset_same), vw_loc hset_same]
    walk_at "ru"
    rw [hdel_hset2 ha nb, hdel_hset hb]
    exact q
  · rename_i k
    have hlt : r.a < w.l := by
      have := ok.2
      cases hk : r.k <;> simp only [hk] at this k
      · exact this.1
      · exact this.1
      · exact (k trivial).elim
    walk_at "st"
    refine s_put_result (ga _) l1 hlt (by decide) ?_
    rw [hset_swap (Ne.symm nb)]
    walk_at "st"
    rw [frz_l (show (hset (hset h a (.lst (iws (putR w low r.a r.b (-1))))) b (.lst (iws high))) a = _ by rw [hset_ne (Ne.symm nb)]; exact hset_same), hdel_hset2 ha nb]
    walk_at "st"
    refine s_put_result hset_same l2 hlt (by decide) ?_
    rw [hset_two]
    walk_at "st"
    rw [frz_l hset_same, hdel_hset hb]
    walk_at "st"
    cases hk : r.k <;> simp only [hk] at q k
    · exact q
    · exact q
    · exact (k trivial).elim
theorem s_forms {w : Wb} (ok : w.ok) (q : ∀ a, h a = none → P (.loc a) (hset h a (.lst (w.forms.map fW)))) : callD T (n + 4) "forms" [w.o] h P E := by
  have hl := ok.1.2
  have hn := ok.2.1.2
  refine c_forms ?_
  walk_at "st"
  refine lcL2_map w.rs Rd.w (fun r => (formsOf w r).map fW) trivial (fun r m => ?_) ?_ ?_
  · walk_at "ru"
    intro acc K q
    refine s_forms_of hl hn (ok.2.2.2 r m) ?_
    walk_at "ru"
    refine ⟨?_, ?_⟩
    · rw [List.length_map]; exact Nat.le_trans formsOf_len (by decide)
    · refine lcL_map (formsOf w r) fW fW trivial (fun f m => ?_) q
      walk_at "ru"
      exact fun K q => q
  · have h1 := flat_le (f := fun r => (formsOf w r).map fW) (c := 2) (fun r => by rw [List.length_map]; exact formsOf_len) w.rs
    have := ok.2.2.1
    simp only [List.length_nil]
    have : 24 ≤ lim := by decide
    omega
  intro a ha
  rw [List.nil_append]
  refine z_seq (fun τ h1 => h1 = hset h a (.lst (w.forms.map fW)) ∧ ∃ o2 o5 o6, τ = [some w.o, some (.loc a), o2, none, none, o5, o6]) (fun K hK => ?_) ?_
  · walk_at "ru"
    refine ⟨by omega, ?_⟩
    rw [rng1_eq]
    refine forL_inv (fun i τ h1 => h1 = hset h a (.lst ((w.rs.flatMap (formsOf w) ++ (List.range i).flatMap fun k => scaleForms w (1 + k)).map fW)) ∧ ∃ o2 o5 o6, τ = [some w.o, some (.loc a), o2, none, none, o5, o6]) ?_ ?_ ?_
    · exact ⟨by simp [List.map_flatMap], none, none, none, rfl⟩
    · rintro k τ h1 x hx ⟨rfl, o2, o5, o6, rfl⟩
      obtain ⟨hk, ex⟩ := rng_get hx
      subst ex
      refine ⟨trivial, ?_⟩
      walk_at "ru"
      intro K hK
      rw [List.range_succ, List.flatMap_append, ← List.append_assoc] at hK
      have hfs : (w.rs.flatMap (formsOf w) ++ (List.range k).flatMap fun k => scaleForms w (1 + k)).length ≤ 1000 := by
        have h1 := flat_le (f := formsOf w) (c := 2) (fun r => formsOf_len) w.rs
        have h2 := flat_le (f := fun k => scaleForms w (1 + k)) (c := 2) (fun r => scaleForms_len) (List.range k)
        have := ok.2.2.1
        simp only [List.length_range] at h2
        simp only [List.length_append]
        omega
      generalize w.rs.flatMap (formsOf w) ++ (List.range k).flatMap (fun k => scaleForms w (1 + k)) = fs at *
      have e0 : (List.flatMap (fun k => scaleForms w (1 + k)) [k]) = scaleForms w (1 + k) := by simp
      rw [e0] at hK
      walk_at "st"
      refine s_has_scale ?_
      walk_at "ru"
      unfold scaleForms at hK
      split
      · rename_i c
        rw [if_pos c] at hK
        walk_at "st"
        refine s_blank hl hn fun b hb => s_blank hl hn fun d hd => ?_
        obtain ⟨nd, hd⟩ := hset_none hd
        obtain ⟨nb, hb'⟩ := hset_none hb
        obtain ⟨nd', hd'⟩ := hset_none hd
        have lb : (blank w).length = w.len := blank_len
        have hi : (1 + (w.n : Int) + ((1 + k : Nat) : Int)).toNat = 1 + w.n + (1 + k) := by omega
        have hi2 : 1 + w.n + (1 + k) < w.len := by unfold Wb.len; omega
        have p0 : 0 < w.len := by omega
        walk_at "st"
        rw [set_z (ws := iws (blank w)) (by rw [hset_ne (Ne.symm nd)]; exact hset_same) (by rw [iws_len, lb]; exact p0), iws_set, hset_swap (Ne.symm nd)]
        rw [set_n (ws := iws ((blank w).set 0 (-1))) (by rw [hset_ne (Ne.symm nd)]; exact hset_same) (by omega) (by rw [iws_len, List.length_set, lb, hi]; exact hi2), iws_set, hset_swap (Ne.symm nd), hi]
        walk_at "st"
        rw [frz_l (show (hset (hset (hset h a (.lst (fs.map fW))) b (.lst (iws (((blank w).set 0 (-1)).set (1 + w.n + (1 + k)) 4)))) d (.lst (iws (blank w)))) b = _ by rw [hset_ne (Ne.symm nd)]; exact hset_same), hdel_hset2 hb nd]
        walk_at "st"
        rw [set_z (ws := iws (blank w)) hset_same (by rw [iws_len, lb]; exact p0), iws_set, hset_two]
        rw [set_n (ws := iws ((blank w).set 0 4)) hset_same (by omega) (by rw [iws_len, List.length_set, lb, hi]; exact hi2), iws_set, hset_two, hi]
        walk_at "st"
        rw [frz_l hset_same, hdel_hset hd]
        walk_at "st"
        rw [lstAt_l hset_same]
        refine ⟨?_, ?_⟩
        · rw [List.length_map]
          have : 1002 ≤ lim := by decide
          omega
        · rw [hset_two]
          have e1 : (fs.map fW ++ [.tup (iws (((blank w).set 0 (-1)).set (1 + w.n + (1 + k)) 4)), .tup (iws (((blank w).set 0 4).set (1 + w.n + (1 + k)) (-1)))] : List W) = (fs ++ [((blank w).set 0 (-1)).set (1 + w.n + (1 + k)) 4, ((blank w).set 0 4).set (1 + w.n + (1 + k)) (-1)]).map fW := by
            simp [fW]
          rw [e1]
          exact hK _ _ ⟨rfl, _, _, _, rfl⟩
      · rename_i c
        rw [if_neg c, List.append_nil] at hK
        exact hK _ _ ⟨rfl, _, _, _, rfl⟩
    · rintro τ h1 ⟨rfl, o2, o5, o6, rfl⟩
      refine ⟨trivial, hK _ _ ⟨?_, o2, o5, o6, rfl⟩⟩
      simp only [List.length_map, List.length_range]
      rfl
  rintro τ h1 ⟨rfl, o2, o5, o6, rfl⟩
  walk_at "st"
  exact q a ha
end
end K04
end
section
set_option Elab.async false
set_option linter.all false
set_option maxRecDepth 100000
set_option maxHeartbeats 2000000
namespace K04
open PySem Ri.Z Lb Lm
open Ri (Cl W O Hw hset hdel En KW XW Calls Bop Cop Kd Blt Met ItK Tg Ex Sm Df slot put clr clrs bindT bindTs vw toD toDs lim MulOk rep binW eqD eqW flatW eqF inW cmpW isNon atW cutL slW revW kdW isiOk intsOf prsOf blsOf strsOf leP rngW bltW metTy metW fmtV enmW zipW seqW itrW itrV itsOf fldW isCls frzW delW isEnd initOf nmOf lcL lcL2 wpE wpEs wpJ Dn puts setW atLI augW storeF lstAt isLoL insAt handle forL whlP wpS wpSs wpHs start wpF callD)
local macro_rules | `(tactic| walk_at "ru") => `(tactic| try simp only [r_var, r_int, r_bl, r_non, r_str, r_cst, r_bin, r_neg, r_cmp, r_isN, r_chn, r_and, r_or, r_not, r_ite, r_tup, r_lst, r_sub, r_sli, r_rev, r_call, r_new, r_mth, r_prp, r_eqo, r_fld, r_blt, r_met, r_fmt, r_isi, r_itr, r_lcm, r_lcm2, r_frz, r_own, r_del, r_nil, r_cons, r_jn, r_jc,
  v_set, v_unp, v_par, v_setI, v_augI, v_aug, v_ext, v_setF, v_setII, v_setIN, v_ex, v_app, v_ins, v_revI, v_ret, v_retN, v_ite, v_whl, v_for, v_brk, v_pass, v_frz, v_nil, v_cons,
  okW_some, brW_bl, blW_bl, inW_int, okE_some, tpW_tup, lsW_lst, itW_lst, itW_loc, slot, put, puts, clr, clrs, bindT, bindTs, Option.bind_some, add_i, sub_i, mod_i, add_l, add_t, add_s, rep_l, pow_i, List.any_cons, List.any_nil, List.map_cons, List.map_nil, List.length_cons, List.length_nil,
  iv_seq_l, iv_seq_t, iv_seq_s, iv_rng1, iv_rng2, at_t0, at_t1, at_t2, at_t3, at_l0, at_l1, at_l2, eq_str, eq_int, eq_bl, eq_ll, vw_lW, iv_lW, bl_fW, bl_lW, bt_lW, ln_lW, iv_zipL, wt0, wt1, wt2, wt3, frw0, frw1, am0, am1, am2, blist_frs, eq_nn, kx_tuple_fr, kx_list_fr, kx_int_fr, kx_bool_fr, kx_str_fr, ix_fr, nx_fr, kx_tuple_frs, kx_list_frs, kx_int_frs, kx_bool_frs, kx_str_frs, ix_frs, nx_frs, kx_tuple_am, kx_list_am, kx_int_am, kx_bool_am, kx_str_am, ix_am, nx_am, kx_tuple_rd, kx_list_rd, kx_int_rd, kx_bool_rd, kx_str_rd, ix_rd, nx_rd, kx_tuple_fW, kx_list_fW, kx_int_fW, kx_bool_fW, kx_str_fW, ix_fW, nx_fW, kx_tuple_wt, kx_list_wt, kx_int_wt, kx_bool_wt, kx_str_wt, ix_wt, nx_wt, kx_tuple_rw, kx_list_rw, kx_int_rw, kx_bool_rw, kx_str_rw, ix_rw, nx_rw, it_enm_rw, it_enm_l, it_enm_t, in_modes, in_kinds, cut1, b_all, iv_rw, iv_frs, bl_rw, bl_frs, eq_fr, vw_fr, vw_frs, vw_am, vw_rd, vw_fW, vw_t, vw_rw, vv_non, isn_non, isi_non, vv_bl, isn_bl, isi_bl, vv_int, isn_int, isi_int, vv_str, isn_str, isi_str, vv_tup, isn_tup, isi_tup, vv_lst, isn_lst, isi_lst, vv_obj, isn_obj, isi_obj, vv_exc, isn_exc, vv_scr, isn_scr, kd_int_non, kd_int_bl, kd_int_int, kd_int_str, kd_int_tup, kd_int_lst, kd_int_obj, kd_bool_non, kd_bool_bl, kd_bool_int, kd_bool_str, kd_bool_tup, kd_bool_lst, kd_bool_obj, kd_str_non, kd_str_bl, kd_str_int, kd_str_str, kd_str_tup, kd_str_lst, kd_str_obj, kd_tuple_non, kd_tuple_bl, kd_tuple_int, kd_tuple_str, kd_tuple_tup, kd_tuple_lst, kd_tuple_obj, kd_list_non, kd_list_bl, kd_list_int, kd_list_str, kd_list_tup, kd_list_lst, kd_list_obj, cmp_lt, cmp_le, cmp_gt, cmp_ge, cmp_eq, cmp_ne, cmp_inn, cmp_nin, b_lenl, b_lent, b_lens, b_inti, b_abs, b_max2, b_min2, b_tupl, b_tupt, b_lstl, b_lstt, b_lsts, b_lr1, b_strs, b_stri, dw_nil, dw_cons, au_add, au_sub, ie_non_non, ie_non_int, ie_non_bl, ie_non_str, ie_int, ie_var, ie_bin, ie_neg, sl_l, sl_t, sl_ln, sl_tn, sl_lb, fo0, fo1, fo2, fo3, io, kdi, Mo.e1, Mo.e2, Mo.e3, Kn.e1, Kn.e2, Kn.e3, List.append_nil, List.cons_append, List.nil_append, List.replicate, Nat.reduceAdd, Nat.reduceSub, Nat.reduceLeDiff, Nat.reduceEqDiff,
  true_and, and_true, if_true, if_false, decide_eq_true_eq, Bool.not_eq_true', decide_eq_false_iff_not, Bool.or_false, Bool.or_true, Bool.false_or, Bool.true_or, Bool.not_true, Bool.not_false, reduceCtorEq, ite_true, ite_false, Bool.false_eq_true, forall_const, eq_self, decide_true, decide_false, List.contains_cons, List.contains_nil, List.elem_cons, beq_self_eq_true, ne_eq, not_true_eq_false, not_false_eq_true])
local macro_rules | `(tactic| walk_at "st") => `(tactic| ((try refine z_cons ?_); walk_at "ru"))
local macro_rules | `(tactic| walk_at "to") => `(tactic| (refine z_to ?t ?h (fun K hK => ?q1) ?q2))
section
variable {n : Nat} {h : Hw} {P : KW} {E : XW} {w : Wb}
theorem sn1 : ((("most" : Str) = ("none" : Str))) = False := eq_false (by decide +kernel)
theorem sn2 : ((("free" : Str) = ("none" : Str))) = False := eq_false (by decide +kernel)
theorem sn3 : ((("none" : Str) = ("none" : Str))) = True := eq_true rfl
theorem s_amounts_of {pt : List (Int × Int)} (hl : w.l ≤ 4) (hn : w.n ≤ 6) (hp : pt.length = w.n + 2 * w.l) (q : P (amP w pt).w h) : callD K04.T (n + 2) "amounts_of" [w.o, .lst (pt.map frW)] h P E := by
  refine c_amounts_of ?_
  have l20 : 20 ≤ lim := by decide
  walk_at "st"
  simp only [ie_fld, sl_ln, cutTo]
  walk_at "ru"
  refine ⟨by omega, ?_⟩
  rw [rng0_eq, ← List.map_take]
  walk_at "st"
  refine ⟨by rw [List.length_map, List.length_range]; omega, ?_⟩
  have gp : ∀ i : Nat, i < pt.length → (pt.map frW)[i]? = some (frW (pt.getD i (0, 1))) := fun i hi => by
    rw [List.getElem?_map, List.getElem?_eq_getElem hi]
    simp [List.getD, hi]
  refine lcL_map (List.range w.l) _ (fun lot => frW (if hasScale w.m lot = true then pt.getD (w.n + lot) (0, 1) else (1, 1))) trivial (fun lot ml => ?_) ?_
  · have hl := List.mem_range.mp ml
    walk_at "ru"
    intro K q
    refine s_has_scale ?_
    walk_at "ru"
    cases hs : hasScale w.m lot with
    | true =>
      rw [hs] at q
      simp only [if_true] at q ⊢
      rw [at_li (w := frW (pt.getD (w.n + lot) (0, 1))) (by omega) (by rw [show ((w.n : Int) + (lot : Int)).toNat = w.n + lot by omega]; exact gp _ (by omega))]
      exact q
    | false =>
      rw [hs] at q
      simp only [Bool.false_eq_true, if_false] at q ⊢
      exact q
  rw [List.nil_append]
  walk_at "st"
  refine ⟨by rw [List.length_map, List.length_range]; omega, ?_⟩
  refine lcL_map (List.range w.l) _ (fun lot => frW (if hasShift w.m lot = true then pt.getD (w.n + w.l + lot) (0, 1) else (0, 1))) trivial (fun lot ml => ?_) ?_
  · have hl := List.mem_range.mp ml
    walk_at "ru"
    intro K q
    refine s_has_shift ?_
    walk_at "ru"
    cases hs : hasShift w.m lot with
    | true =>
      rw [hs] at q
      simp only [if_true] at q ⊢
      rw [at_li (w := frW (pt.getD (w.n + w.l + lot) (0, 1))) (by omega) (by rw [show ((w.n : Int) + (w.l : Int) + (lot : Int)).toNat = w.n + w.l + lot by omega]; exact gp _ (by omega))]
      exact q
    | false =>
      rw [hs] at q
      simp only [Bool.false_eq_true, if_false] at q ⊢
      exact q
  rw [List.nil_append]
  walk_at "st"
  have e : (W.tup [.tup ((pt.take w.n).map frW), .tup ((List.range w.l).map fun lot => frW (if hasScale w.m lot = true then pt.getD (w.n + lot) (0, 1) else (1, 1))), .tup ((List.range w.l).map fun lot => frW (if hasShift w.m lot = true then pt.getD (w.n + w.l + lot) (0, 1) else (0, 1)))]) = (amP w pt).w := by
    simp only [Am.w, amP, frs, List.map_map]
    rfl
  rw [e]
  exact q
/-- the problem of a web without a wish -/
def Q0 (w : Wb) : Pb := prob (w.n + 2 * w.l) w.forms (blank w)
theorem Q0_n : (Q0 w).n = w.n + 2 * w.l := rfl
theorem Q0_F (ok : w.ok) : FB (Q0 w) (2 ^ 32) := FB_of (fun f m => ((forms_ok ok f m).2).mono (by omega)) (Bd.blank.mono (by omega))
/-- what is said of a web at which no amounts fit, and at which some do -/
def NoF (w : Wb) : Prop := ∀ as : List (Int × Int), (∀ f ∈ w.forms, 0 ≤ rv (w.n + 2 * w.l) f as) → False
theorem out0 (ok : w.ok) {o : W} (h : Out (Q0 w) o) : (∃ ws, Cert w ws ∧ NoF w ∧ o = .tup [.str "none", frs ws]) ∨ ∃ pt v ws, ((∀ p ∈ pt, FrOk p) ∧ (∀ p ∈ pt, PB p) ∧ pt.length = w.n + 2 * w.l ∧ ∀ f ∈ w.forms, 0 ≤ rv (w.n + 2 * w.l) f pt) ∧ o = .tup [.str "most", v, ws, .lst (pt.map frW)] := by
  have hF := Q0_F ok
  have hN : (Q0 w).n ≤ 14 := by have := ok.1; have := ok.2.1; rw [Q0_n]; omega
  have hz : ∀ c, (blank w).getD c 0 = 0 := fun c => blank_getD
  cases h with
  | @none T i g z l no =>
    obtain ⟨r, e1, e2, e3⟩ := g.wf.row l.1
    have hr : ∀ l, r.getD l 0 = T.R i l := fun l => by unfold Tb.R; rw [e2]
    have hd : 0 < - T.R i 0 := by have := l.2.2.1; omega
    have sz := big_sz g hF hN
    refine .inl ⟨_, ⟨nw (w.n + 2 * w.l) T r (T.st.b i), - T.R i 0, hd, ?_, fun t _ => nw_pos g hr no t, fun p m => ?_, fun c hc => ?_⟩, fun as h => none_no g z l no h, rfl⟩
    · rw [e2]
      rfl
    · obtain ⟨t, _, e⟩ := List.mem_map.mp m
      subst e
      refine mkF_pb5 hd ?_ (by rw [Int.natAbs_neg]; exact sz.1 i 0 l.1 (by omega))
      split
      · exact sz.2.2
      · rw [e2]
        have hw : wv (Q0 w).n T r (Q0 w).n t = _ := wv_sum g.ok hr (Nat.le_refl _)
        rw [hw]
        by_cases ex : ∃ k, k < (Q0 w).n ∧ T.st.h k = ((Q0 w).n : Int) + t
        · obtain ⟨k, hk, hh⟩ := ex
          have hh' : T.st.h k = ((w.n + 2 * w.l : Nat) : Int) + t := hh
          rw [sm_one (k := k) hk fun k' hk' ne => by
            rw [if_neg]
            intro y
            exact ne (g.ok.hi k' k hk' hk (y.trans hh.symm)), if_pos hh', Int.natAbs_neg]
          exact sz.1 i (k + 1) l.1 (by omega)
        · rw [sm_zero fun k hk => by rw [if_neg]; intro y; exact ex ⟨k, hk, y⟩]
          simp
    · have := none_sum (c := c) g z l.1 l.2.1 hr hc
      simp only [prob_s] at this
      rw [this]
      split <;> omega
  | @most T g z y fe op =>
    have sz := big_sz g hF hN
    obtain ⟨p1, p2, p3⟩ := pt_fr (N := w.n + 2 * w.l) (m := w.forms.length + 1) sz.2.1 (fun i hi => sz.1 i 0 hi (by omega)) sz.2.2
    exact .inr ⟨_, _, _, ⟨p1, p2, p3, pt_ok g fe⟩, rfl⟩
  | @free1 T k g z fe hk hf ne =>
    exact (ne (zero_row g hz (by show k + 1 < w.n + 2 * w.l + 1; have : k < w.n + 2 * w.l := hk; omega))).elim
  | @free2 T0 T k m g ga no =>
    have := ga.2.2.1
    have hk : k < w.n + 2 * w.l := ga.1
    have z : T.R w.forms.length (k + 1) = 0 := zero_row g.1.1 hz (by omega)
    have z2 : T.R ((Q0 w).m - 1) (k + 1) = 0 := z
    omega
theorem s_solve0 (ok : w.ok) (q1 : ∀ ws h', Cert w ws → NoF w → Ext h h' → P (.tup [.str "none", frs ws]) h')
    (q2 : ∀ pt v ws h', (∀ p ∈ pt, FrOk p) → (∀ p ∈ pt, PB p) → pt.length = w.n + 2 * w.l → (∀ f ∈ w.forms, 0 ≤ rv (w.n + 2 * w.l) f pt) → Ext h h' → P (.tup [.str "most", v, ws, .lst (pt.map frW)]) h') :
    callD K04.T (n + 5) "solve" [.lst (w.forms.map fW), .lst (iws (blank w))] h P E := by
  have hN : w.n + 2 * w.l ≤ 14 := by have := ok.1; have := ok.2.1; omega
  have lf := forms_len ok
  refine s_solve (Rws.all w.forms) (.inr rfl) (by rw [blank_len]; unfold Wb.len; omega) (fun f m => by rw [(forms_ok ok f m).1]; unfold Wb.len; omega) hN (by omega) (Q0_F ok) fun o h' ho ex => ?_
  rcases out0 ok ho with ⟨ws, c, nf, e⟩ | ⟨pt, v, ws, ⟨p1, p2, p3, p4⟩, e⟩
  · subst e
    exact q1 ws h' c nf ex
  · subst e
    exact q2 pt v ws h' p1 p2 p3 p4 ex
theorem s_find (ok : w.ok) (q1 : ∀ h', NoF w → Ext h h' → P .non h') (q2 : ∀ A h', AmG w A → (∀ f ∈ w.forms, 0 ≤ rv (w.n + 2 * w.l) f A.all) → Ext h h' → P A.w h') : callD K04.T (n + 6) "find_amounts" [w.o] h P E := by
  refine c_find_amounts ?_
  have hl := ok.1.2
  have hn := ok.2.1.2
  walk_at "st"
  refine s_forms ok fun a ha => ?_
  rw [frz_l hset_same, hdel_hset ha]
  refine s_blank hl hn fun b hb => ?_
  rw [frz_l hset_same, hdel_hset hb]
  refine s_solve0 ok (fun ws h' c nf ex => ?_) fun pt v ws h' p1 p2 p3 p4 ex => ?_
  · walk_at "st"
    try simp only [sn3, if_true]
    exact q1 h' nf ex
  · walk_at "st"
    try simp only [sn1, if_false]
    refine s_amounts_of hl hn p3 ?_
    exact q2 _ _ ⟨amP_ok ok p3 p1 p4, amP_pb p2⟩ (fun f m => by rw [rv_amP p3 (supp_forms ok f m)]; exact p4 f m) ex
theorem s_against (ok : w.ok) (q1 : ∀ ws h', Cert w ws → NoF w → Ext h h' → P (frs ws) h') (q2 : ∀ h', ¬ NoF w → Ext h h' → P .non h') : callD K04.T (n + 6) "against" [w.o] h P E := by
  refine c_against ?_
  have hl := ok.1.2
  have hn := ok.2.1.2
  walk_at "st"
  refine s_forms ok fun a ha => ?_
  rw [frz_l hset_same, hdel_hset ha]
  refine s_blank hl hn fun b hb => ?_
  rw [frz_l hset_same, hdel_hset hb]
  refine s_solve0 ok (fun ws h' c nf ex => ?_) fun pt v ws h' p1 p2 p3 p4 ex => ?_
  · walk_at "st"
    try simp only [sn3, if_true]
    walk_at "ru"
    exact q1 ws h' c nf ex
  · walk_at "st"
    try simp only [sn1, if_false]
    exact q2 h' (fun nf => nf pt p4) ex
end
end K04
end
section
set_option Elab.async false
set_option linter.all false
set_option maxRecDepth 100000
set_option maxHeartbeats 1000000
set_option exponentiation.threshold 100
namespace K04
open PySem Ri.Z Lb
open Ri (Cl W O Hw hset hdel En KW XW Calls Bop Cop Kd Blt Met ItK Tg Ex Sm Df slot put clr clrs bindT bindTs vw toD toDs lim MulOk rep binW eqD eqW flatW eqF inW cmpW isNon atW cutL slW revW kdW isiOk intsOf prsOf blsOf strsOf leP rngW bltW metTy metW fmtV enmW zipW seqW itrW itrV itsOf fldW isCls frzW delW isEnd initOf nmOf lcL lcL2 wpE wpEs wpJ Dn puts setW atLI augW storeF lstAt isLoL insAt handle forL whlP wpS wpSs wpHs start wpF callD)
local macro_rules | `(tactic| walk_at "ru") => `(tactic| try simp only [r_var, r_int, r_bl, r_non, r_str, r_cst, r_bin, r_neg, r_cmp, r_isN, r_chn, r_and, r_or, r_not, r_ite, r_tup, r_lst, r_sub, r_sli, r_rev, r_call, r_new, r_mth, r_prp, r_eqo, r_fld, r_blt, r_met, r_fmt, r_isi, r_itr, r_lcm, r_lcm2, r_frz, r_own, r_del, r_nil, r_cons, r_jn, r_jc,
  v_set, v_unp, v_par, v_setI, v_augI, v_aug, v_ext, v_setF, v_setII, v_setIN, v_ex, v_app, v_ins, v_revI, v_ret, v_retN, v_ite, v_whl, v_for, v_brk, v_pass, v_frz, v_nil, v_cons,
  okW_some, brW_bl, blW_bl, inW_int, okE_some, tpW_tup, lsW_lst, itW_lst, itW_loc, slot, put, puts, clr, clrs, bindT, bindTs, Option.bind_some, add_i, sub_i, mod_i, add_l, add_t, add_s, rep_l, pow_i, List.any_cons, List.any_nil, List.map_cons, List.map_nil, List.length_cons, List.length_nil,
  iv_seq_l, iv_seq_t, iv_seq_s, iv_rng1, iv_rng2, at_t0, at_t1, at_t2, at_t3, at_l0, at_l1, at_l2, eq_str, eq_int, eq_bl, eq_ll, wt0, wt1, wt2, wt3, frw0, frw1, am0, am1, am2, blist_frs, eq_nn, kx_tuple_fr, kx_list_fr, kx_int_fr, kx_bool_fr, kx_str_fr, ix_fr, nx_fr, kx_tuple_frs, kx_list_frs, kx_int_frs, kx_bool_frs, kx_str_frs, ix_frs, nx_frs, kx_tuple_am, kx_list_am, kx_int_am, kx_bool_am, kx_str_am, ix_am, nx_am, kx_tuple_rd, kx_list_rd, kx_int_rd, kx_bool_rd, kx_str_rd, ix_rd, nx_rd, kx_tuple_fW, kx_list_fW, kx_int_fW, kx_bool_fW, kx_str_fW, ix_fW, nx_fW, kx_tuple_wt, kx_list_wt, kx_int_wt, kx_bool_wt, kx_str_wt, ix_wt, nx_wt, kx_tuple_rw, kx_list_rw, kx_int_rw, kx_bool_rw, kx_str_rw, ix_rw, nx_rw, it_enm_rw, it_enm_l, it_enm_t, in_modes, in_kinds, cut1, b_all, iv_rw, iv_frs, bl_rw, bl_frs, eq_fr, vw_fr, vw_frs, vw_am, vw_rd, vw_fW, vw_t, vw_rw, vv_non, isn_non, isi_non, vv_bl, isn_bl, isi_bl, vv_int, isn_int, isi_int, vv_str, isn_str, isi_str, vv_tup, isn_tup, isi_tup, vv_lst, isn_lst, isi_lst, vv_obj, isn_obj, isi_obj, vv_exc, isn_exc, vv_scr, isn_scr, kd_int_non, kd_int_bl, kd_int_int, kd_int_str, kd_int_tup, kd_int_lst, kd_int_obj, kd_bool_non, kd_bool_bl, kd_bool_int, kd_bool_str, kd_bool_tup, kd_bool_lst, kd_bool_obj, kd_str_non, kd_str_bl, kd_str_int, kd_str_str, kd_str_tup, kd_str_lst, kd_str_obj, kd_tuple_non, kd_tuple_bl, kd_tuple_int, kd_tuple_str, kd_tuple_tup, kd_tuple_lst, kd_tuple_obj, kd_list_non, kd_list_bl, kd_list_int, kd_list_str, kd_list_tup, kd_list_lst, kd_list_obj, cmp_lt, cmp_le, cmp_gt, cmp_ge, cmp_eq, cmp_ne, cmp_inn, cmp_nin, b_lenl, b_lent, b_lens, b_inti, b_abs, b_max2, b_min2, b_tupl, b_tupt, b_lstl, b_lstt, b_lsts, b_lr1, b_strs, b_stri, dw_nil, dw_cons, au_add, au_sub, ie_non_non, ie_non_int, ie_non_bl, ie_non_str, ie_int, ie_var, ie_bin, ie_neg, sl_l, sl_t, sl_ln, sl_tn, sl_lb, fo0, fo1, fo2, fo3, io, kdi, Mo.e1, Mo.e2, Mo.e3, Kn.e1, Kn.e2, Kn.e3, List.append_nil, List.cons_append, List.nil_append, List.replicate, Nat.reduceAdd, Nat.reduceSub, Nat.reduceLeDiff, Nat.reduceEqDiff,
  true_and, and_true, if_true, if_false, decide_eq_true_eq, Bool.not_eq_true', decide_eq_false_iff_not, Bool.or_false, Bool.or_true, Bool.false_or, Bool.true_or, Bool.not_true, Bool.not_false, reduceCtorEq, ite_true, ite_false, Bool.false_eq_true, forall_const, eq_self, decide_true, decide_false, List.contains_cons, List.contains_nil, List.elem_cons, beq_self_eq_true, ne_eq, not_true_eq_false, not_false_eq_true])
local macro_rules | `(tactic| walk_at "st") => `(tactic| ((try refine z_cons ?_); walk_at "ru"))
local macro_rules | `(tactic| walk_at "to") => `(tactic| (refine z_to ?t ?h (fun K hK => ?q1) ?q2))
section
variable {n : Nat} {h : Hw} {P : KW} {E : XW}
theorem vb_mul {i : Nat} {s : Int × Int} {x : Int × (Int × Int)} (v : VB i s) (hi : i ≤ 14) (hx : x.1.natAbs ≤ 2 ^ 64) (hp : PB x.2) :
    (s.1.natAbs < 2 ^ 400000 ∧ s.2.natAbs < 2 ^ 400000 ∧ x.2.2.natAbs < 2 ^ 400000) ∧ (x.1.natAbs < 2 ^ 400000 ∧ x.2.1.natAbs < 2 ^ 400000) ∧ (x.1 * x.2.1).natAbs < 2 ^ 400000 := by
  obtain ⟨v1, v2, v3⟩ := v
  obtain ⟨p1, p2, p3⟩ := hp
  refine ⟨⟨big v1 (by omega), big v3 (by omega), big p3 (by decide)⟩, ⟨big hx (by decide), big p1 (by decide)⟩, ?_⟩
  have : (x.1 * x.2.1).natAbs ≤ 2 ^ (64 + 600) := by rw [Int.natAbs_mul, Nat.pow_add]; exact Nat.mul_le_mul hx p1
  exact big this (by decide)
structure Am.bd (w : Wb) (A : Am) : Prop where
  ok : A.ok w
  pb : ∀ p ∈ A.all, PB p
end
end K04
end
section
set_option Elab.async false
set_option linter.all false
set_option maxRecDepth 100000
set_option maxHeartbeats 1000000
namespace K04
open PySem Ri.Z Lb
open Ri (Cl W O Hw hset hdel En KW XW Calls Bop Cop Kd Blt Met ItK Tg Ex Sm Df slot put clr clrs bindT bindTs vw toD toDs lim MulOk rep binW eqD eqW flatW eqF inW cmpW isNon atW cutL slW revW kdW isiOk intsOf prsOf blsOf strsOf leP rngW bltW metTy metW fmtV enmW zipW seqW itrW itrV itsOf fldW isCls frzW delW isEnd initOf nmOf lcL lcL2 wpE wpEs wpJ Dn puts setW atLI augW storeF lstAt isLoL insAt handle forL whlP wpS wpSs wpHs start wpF callD)
local macro_rules | `(tactic| walk_at "ru") => `(tactic| try simp only [r_var, r_int, r_bl, r_non, r_str, r_cst, r_bin, r_neg, r_cmp, r_isN, r_chn, r_and, r_or, r_not, r_ite, r_tup, r_lst, r_sub, r_sli, r_rev, r_call, r_new, r_mth, r_prp, r_eqo, r_fld, r_blt, r_met, r_fmt, r_isi, r_itr, r_lcm, r_lcm2, r_frz, r_own, r_del, r_nil, r_cons, r_jn, r_jc,
  v_set, v_unp, v_par, v_setI, v_augI, v_aug, v_ext, v_setF, v_setII, v_setIN, v_ex, v_app, v_ins, v_revI, v_ret, v_retN, v_ite, v_whl, v_for, v_brk, v_pass, v_frz, v_nil, v_cons,
  okW_some, brW_bl, blW_bl, inW_int, okE_some, tpW_tup, lsW_lst, itW_lst, itW_loc, slot, put, puts, clr, clrs, bindT, bindTs, Option.bind_some, add_i, sub_i, mod_i, add_l, add_t, add_s, rep_l, pow_i, List.any_cons, List.any_nil, List.map_cons, List.map_nil, List.length_cons, List.length_nil,
  iv_seq_l, iv_seq_t, iv_seq_s, iv_rng1, iv_rng2, at_t0, at_t1, at_t2, at_t3, at_l0, at_l1, at_l2, eq_str, eq_int, eq_bl, eq_ll, wt0, wt1, wt2, wt3, frw0, frw1, am0, am1, am2, blist_frs, eq_nn, kx_tuple_fr, kx_list_fr, kx_int_fr, kx_bool_fr, kx_str_fr, ix_fr, nx_fr, kx_tuple_frs, kx_list_frs, kx_int_frs, kx_bool_frs, kx_str_frs, ix_frs, nx_frs, kx_tuple_am, kx_list_am, kx_int_am, kx_bool_am, kx_str_am, ix_am, nx_am, kx_tuple_rd, kx_list_rd, kx_int_rd, kx_bool_rd, kx_str_rd, ix_rd, nx_rd, kx_tuple_fW, kx_list_fW, kx_int_fW, kx_bool_fW, kx_str_fW, ix_fW, nx_fW, kx_tuple_wt, kx_list_wt, kx_int_wt, kx_bool_wt, kx_str_wt, ix_wt, nx_wt, kx_tuple_rw, kx_list_rw, kx_int_rw, kx_bool_rw, kx_str_rw, ix_rw, nx_rw, it_enm_rw, it_enm_l, it_enm_t, in_modes, in_kinds, cut1, b_all, iv_rw, iv_frs, bl_rw, bl_frs, eq_fr, vw_fr, vw_frs, vw_am, vw_rd, vw_fW, vw_t, vw_rw, vv_non, isn_non, isi_non, vv_bl, isn_bl, isi_bl, vv_int, isn_int, isi_int, vv_str, isn_str, isi_str, vv_tup, isn_tup, isi_tup, vv_lst, isn_lst, isi_lst, vv_obj, isn_obj, isi_obj, vv_exc, isn_exc, vv_scr, isn_scr, kd_int_non, kd_int_bl, kd_int_int, kd_int_str, kd_int_tup, kd_int_lst, kd_int_obj, kd_bool_non, kd_bool_bl, kd_bool_int, kd_bool_str, kd_bool_tup, kd_bool_lst, kd_bool_obj, kd_str_non, kd_str_bl, kd_str_int, kd_str_str, kd_str_tup, kd_str_lst, kd_str_obj, kd_tuple_non, kd_tuple_bl, kd_tuple_int, kd_tuple_str, kd_tuple_tup, kd_tuple_lst, kd_tuple_obj, kd_list_non, kd_list_bl, kd_list_int, kd_list_str, kd_list_tup, kd_list_lst, kd_list_obj, cmp_lt, cmp_le, cmp_gt, cmp_ge, cmp_eq, cmp_ne, cmp_inn, cmp_nin, b_lenl, b_lent, b_lens, b_inti, b_abs, b_max2, b_min2, b_tupl, b_tupt, b_lstl, b_lstt, b_lsts, b_lr1, b_strs, b_stri, dw_nil, dw_cons, au_add, au_sub, ie_non_non, ie_non_int, ie_non_bl, ie_non_str, ie_int, ie_var, ie_bin, ie_neg, sl_l, sl_t, sl_ln, sl_tn, sl_lb, fo0, fo1, fo2, fo3, io, kdi, Mo.e1, Mo.e2, Mo.e3, Kn.e1, Kn.e2, Kn.e3, List.append_nil, List.cons_append, List.nil_append, List.replicate, Nat.reduceAdd, Nat.reduceSub, Nat.reduceLeDiff, Nat.reduceEqDiff,
  true_and, and_true, if_true, if_false, decide_eq_true_eq, Bool.not_eq_true', decide_eq_false_iff_not, Bool.or_false, Bool.or_true, Bool.false_or, Bool.true_or, Bool.not_true, Bool.not_false, reduceCtorEq, ite_true, ite_false, Bool.false_eq_true, forall_const, eq_self, decide_true, decide_false, List.contains_cons, List.contains_nil, List.elem_cons, beq_self_eq_true, ne_eq, not_true_eq_false, not_false_eq_true])
local macro_rules | `(tactic| walk_at "st") => `(tactic| ((try refine z_cons ?_); walk_at "ru"))
local macro_rules | `(tactic| walk_at "to") => `(tactic| (refine z_to ?t ?h (fun K hK => ?q1) ?q2))
section
variable {n : Nat} {h : Hw} {P : KW} {E : XW}
theorem s_is_reading {l m : Nat} {r : Rd} (ok : r.ok l m) (q : P (.bl true) h) : callD T (n + 2) "is_reading" [.int l, .int m, r.w] h P E := by
  refine c_is_reading ?_
  unfold Rd.w
  walk_at "st"
  walk_at "st"
  obtain ⟨o1, o2⟩ := ok
  refine s_is_integer ?_
  rw [show (decide ((0 : Int) ≤ r.s) && decide ((r.s : Int) ≤ m - 1)) = true by simp; omega]
  walk_at "ru"
  walk_at "st"
  by_cases k : r.k = .told
  · simp only [k] at o2
    simp only [k, if_true]
    walk_at "st"
    refine s_is_integer ?_
    rw [show (decide ((0 : Int) ≤ r.a) && decide ((r.a : Int) ≤ 9999)) = true by simp; omega]
    walk_at "ru"
    refine s_is_integer ?_
    rw [show (decide ((r.a : Int) ≤ r.b) && decide ((r.b : Int) ≤ 9999)) = true by simp; omega]
    exact q
  · have o3 : r.a < l ∧ r.b ≤ 999 := by
      cases hk : r.k <;> simp only [hk] at o2 k
      · exact o2
      · exact o2
      · exact (k trivial).elim
    rw [if_neg k]
    walk_at "st"
    simp only [k]
    walk_at "ru"
    refine s_is_integer ?_
    rw [show (decide ((0 : Int) ≤ r.a) && decide ((r.a : Int) ≤ l - 1)) = true by simp; omega]
    walk_at "ru"
    refine s_is_integer ?_
    rw [show (decide ((0 : Int) ≤ r.b) && decide ((r.b : Int) ≤ 999)) = true by simp; omega]
    exact q
theorem s_init {w : Wb} {a : Addr} (ok : w.ok) (ha : h a = none) (q : P .non (hset h a (.ins .web [.str w.m.s, .int w.l, .int w.n, w.rw]))) :
    callD T (n + 3) "Web.__init__" [.loc a, .str w.m.s, .int w.l, .int w.n, w.rw] (hset h a (.ins .web [])) P E := by
  refine c_Web___init__ ?_
  obtain ⟨o1, o2, o3, o4⟩ := ok
  walk_at "st"
  walk_at "st"
  refine s_is_integer ?_
  rw [show (decide ((1 : Int) ≤ w.l) && decide ((w.l : Int) ≤ 4)) = true by simp; omega]
  walk_at "ru"
  walk_at "st"
  refine s_is_integer ?_
  rw [show (decide ((1 : Int) ≤ w.n) && decide ((w.n : Int) ≤ 6)) = true by simp; omega]
  walk_at "ru"
  walk_at "st"
  rw [if_neg (show ¬ (12 : Int) < w.rs.length by omega)]
  refine z_seq (fun τ h1 => h1 = hset h a (.ins .web []) ∧ ∃ o5 o6, τ = [some (.loc a), some (.str w.m.s), some (.int w.l), some (.int w.n), some w.rw, o5, o6]) (fun K hK => ?_) ?_
  · walk_at "ru"
    refine forL_inv (fun _ τ h1 => h1 = hset h a (.ins .web []) ∧ ∃ o5 o6, τ = [some (.loc a), some (.str w.m.s), some (.int w.l), some (.int w.n), some w.rw, o5, o6]) ⟨rfl, _, _, rfl⟩ ?_ (fun τ h1 i => ⟨trivial, hK _ _ i⟩)
    rintro i τ h1 x hx ⟨rfl, o5, o6, rfl⟩
    obtain ⟨y, hy, ex⟩ := enm_getW hx
    subst ex
    rw [List.getElem?_map] at hy
    obtain ⟨r, hr, er⟩ := Option.map_eq_some_iff.mp hy
    subst er
    refine ⟨trivial, ?_⟩
    walk_at "ru"
    intro K hK
    walk_at "st"
    refine s_is_reading (o4 r (List.mem_of_getElem? hr)) ?_
    walk_at "ru"
    exact hK _ _ ⟨rfl, _, _, rfl⟩
  rintro τ h1 ⟨rfl, o5, o6, rfl⟩
  walk_at "st"
  rw [st_new (k := 0) (ws := []) hset_same rfl, hset_two]
  walk_at "st"
  rw [st_new (k := 1) (ws := [_]) hset_same rfl, hset_two]
  walk_at "st"
  rw [st_new (k := 2) (ws := [_, _]) hset_same rfl, hset_two]
  walk_at "st"
  rw [st_new (k := 3) (ws := [_, _, _]) hset_same rfl, hset_two]
  exact q
theorem s_made {w : Wb} (ok : w.ok) (q : P w.o h) : callD T (n + 4) "_law_made" [w.t] h P E := by
  refine c__law_made ?_
  unfold Wb.t
  walk_at "st"
  intro a ha
  refine s_init ok ha ?_
  walk_at "ru"
  rw [frz_i hset_same, hdel_hset ha]
  exact q
end
end K04
end
section
set_option Elab.async false
set_option linter.all false
set_option maxRecDepth 100000
set_option maxHeartbeats 1000000
namespace K04
open PySem Ri.Z Lb
open Ri (Cl W O Hw hset hdel En KW XW Calls Bop Cop Kd Blt Met ItK Tg Ex Sm Df slot put clr clrs bindT bindTs vw toD toDs lim MulOk rep binW eqD eqW flatW eqF inW cmpW isNon atW cutL slW revW kdW isiOk intsOf prsOf blsOf strsOf leP rngW bltW metTy metW fmtV enmW zipW seqW itrW itrV itsOf fldW isCls frzW delW isEnd initOf nmOf lcL lcL2 wpE wpEs wpJ Dn puts setW atLI augW storeF lstAt isLoL insAt handle forL whlP wpS wpSs wpHs start wpF callD)
local macro_rules | `(tactic| walk_at "ru") => `(tactic| try simp only [r_var, r_int, r_bl, r_non, r_str, r_cst, r_bin, r_neg, r_cmp, r_isN, r_chn, r_and, r_or, r_not, r_ite, r_tup, r_lst, r_sub, r_sli, r_rev, r_call, r_new, r_mth, r_prp, r_eqo, r_fld, r_blt, r_met, r_fmt, r_isi, r_itr, r_lcm, r_lcm2, r_frz, r_own, r_del, r_nil, r_cons, r_jn, r_jc,
  v_set, v_unp, v_par, v_setI, v_augI, v_aug, v_ext, v_setF, v_setII, v_setIN, v_ex, v_app, v_ins, v_revI, v_ret, v_retN, v_ite, v_whl, v_for, v_brk, v_pass, v_frz, v_nil, v_cons,
  okW_some, brW_bl, blW_bl, inW_int, okE_some, tpW_tup, lsW_lst, itW_lst, itW_loc, slot, put, puts, clr, clrs, bindT, bindTs, Option.bind_some, add_i, sub_i, mod_i, add_l, add_t, add_s, rep_l, pow_i, List.any_cons, List.any_nil, List.map_cons, List.map_nil, List.length_cons, List.length_nil,
  iv_seq_l, iv_seq_t, iv_seq_s, iv_rng1, iv_rng2, at_t0, at_t1, at_t2, at_t3, at_l0, at_l1, at_l2, eq_str, eq_int, eq_bl, eq_ll, wt0, wt1, wt2, wt3, frw0, frw1, am0, am1, am2, blist_frs, eq_nn, kx_tuple_fr, kx_list_fr, kx_int_fr, kx_bool_fr, kx_str_fr, ix_fr, nx_fr, kx_tuple_frs, kx_list_frs, kx_int_frs, kx_bool_frs, kx_str_frs, ix_frs, nx_frs, kx_tuple_am, kx_list_am, kx_int_am, kx_bool_am, kx_str_am, ix_am, nx_am, kx_tuple_rd, kx_list_rd, kx_int_rd, kx_bool_rd, kx_str_rd, ix_rd, nx_rd, kx_tuple_fW, kx_list_fW, kx_int_fW, kx_bool_fW, kx_str_fW, ix_fW, nx_fW, kx_tuple_wt, kx_list_wt, kx_int_wt, kx_bool_wt, kx_str_wt, ix_wt, nx_wt, kx_tuple_rw, kx_list_rw, kx_int_rw, kx_bool_rw, kx_str_rw, ix_rw, nx_rw, it_enm_rw, it_enm_l, it_enm_t, in_modes, in_kinds, cut1, b_all, iv_rw, iv_frs, bl_rw, bl_frs, eq_fr, vw_fr, vw_frs, vw_am, vw_rd, vw_fW, vw_t, vw_rw, vv_non, isn_non, isi_non, vv_bl, isn_bl, isi_bl, vv_int, isn_int, isi_int, vv_str, isn_str, isi_str, vv_tup, isn_tup, isi_tup, vv_lst, isn_lst, isi_lst, vv_obj, isn_obj, isi_obj, vv_exc, isn_exc, vv_scr, isn_scr, kd_int_non, kd_int_bl, kd_int_int, kd_int_str, kd_int_tup, kd_int_lst, kd_int_obj, kd_bool_non, kd_bool_bl, kd_bool_int, kd_bool_str, kd_bool_tup, kd_bool_lst, kd_bool_obj, kd_str_non, kd_str_bl, kd_str_int, kd_str_str, kd_str_tup, kd_str_lst, kd_str_obj, kd_tuple_non, kd_tuple_bl, kd_tuple_int, kd_tuple_str, kd_tuple_tup, kd_tuple_lst, kd_tuple_obj, kd_list_non, kd_list_bl, kd_list_int, kd_list_str, kd_list_tup, kd_list_lst, kd_list_obj, cmp_lt, cmp_le, cmp_gt, cmp_ge, cmp_eq, cmp_ne, cmp_inn, cmp_nin, b_lenl, b_lent, b_lens, b_inti, b_abs, b_max2, b_min2, b_tupl, b_tupt, b_lstl, b_lstt, b_lsts, b_lr1, b_strs, b_stri, dw_nil, dw_cons, au_add, au_sub, ie_non_non, ie_non_int, ie_non_bl, ie_non_str, ie_int, ie_var, ie_bin, ie_neg, sl_l, sl_t, sl_ln, sl_tn, sl_lb, fo0, fo1, fo2, fo3, io, kdi, Mo.e1, Mo.e2, Mo.e3, Kn.e1, Kn.e2, Kn.e3, List.append_nil, List.cons_append, List.nil_append, List.replicate, Nat.reduceAdd, Nat.reduceSub, Nat.reduceLeDiff, Nat.reduceEqDiff,
  true_and, and_true, if_true, if_false, decide_eq_true_eq, Bool.not_eq_true', decide_eq_false_iff_not, Bool.or_false, Bool.or_true, Bool.false_or, Bool.true_or, Bool.not_true, Bool.not_false, reduceCtorEq, ite_true, ite_false, Bool.false_eq_true, forall_const, eq_self, decide_true, decide_false, List.contains_cons, List.contains_nil, List.elem_cons, beq_self_eq_true, ne_eq, not_true_eq_false, not_false_eq_true])
local macro_rules | `(tactic| walk_at "st") => `(tactic| ((try refine z_cons ?_); walk_at "ru"))
local macro_rules | `(tactic| walk_at "to") => `(tactic| (refine z_to ?t ?h (fun K hK => ?q1) ?q2))
section
variable {n : Nat} {h : Hw} {P : KW} {E : XW}
theorem s_mix {ns : List Int} {seed : Int} (hl : ns.length ≤ 63) (q : ∀ a b h', h a = none → h b = none → LH a b h' → Fr a b h h' → P (.loc a) h') : callD T (n + 1) "_law_mix" [.scr (ns.map .int), .int seed] h P E := by
  refine c__law_mix ?_
  walk_at "st"
  refine z_seq (fun τ h1 => h1 = h ∧ ∃ (s : Int) (o3 : Option W), τ = [some (.scr (ns.map .int)), some (.int seed), some (.int s), o3]) (fun K hK => ?_) ?_
  · walk_at "ru"
    refine forL_inv (fun _ τ h1 => h1 = h ∧ ∃ (s : Int) (o3 : Option W), τ = [some (.scr (ns.map .int)), some (.int seed), some (.int s), o3]) ⟨rfl, _, _, rfl⟩ ?_ (fun τ h1 i => ⟨trivial, hK _ _ i⟩)
    rintro i τ h1 x hx ⟨rfl, s, o3, rfl⟩
    rw [List.getElem?_map] at hx
    obtain ⟨y, hy, ex⟩ := Option.map_eq_some_iff.mp hx
    subst ex
    refine ⟨trivial, ?_⟩
    walk_at "ru"
    intro K hK
    walk_at "st"
    simp only [mul_r (show -(2 ^ 64) < (48271 : Int) ∧ (48271 : Int) < 2 ^ 64 by decide)]
    walk_at "ru"
    exact ⟨by decide, by decide, hK _ _ ⟨rfl, _, _, rfl⟩⟩
  rintro τ h1 ⟨rfl, s, o3, rfl⟩
  walk_at "st"
  intro b hb a ha
  obtain ⟨nab, ha⟩ := hset_none ha
  refine q a b _ ha hb ⟨nab, s, ns, 0, hset_same, ?_, hl⟩ (Fr.refl.set2.set)
  rw [hset_ne (Ne.symm nab)]
  exact hset_same
theorem s_next {a b : Addr} {cap : Int} (L : LH a b h) (h0 : 0 < cap) (h1 : cap.natAbs < 2 ^ 8999) (q : ∀ (v : Int) h', 0 ≤ v → v < cap → LH a b h' → Fr a b h h' → P (.int v) h') : callD T (n + 1) "_law_next" [.loc a, .int cap] h P E := by
  obtain ⟨ne, s, cells, i, e1, e2, e3⟩ := L
  refine c__law_next ?_
  refine z_seq (fun τ h1 => h1 = h ∧ ∃ (c : Int), (c ≠ 0 → 0 < cells.length) ∧ τ = [some (.loc a), some (.int cap), some (.int c)]) (fun K hK => ?_) ?_
  · walk_at "ru"
    simp only [vw_loc e1]
    walk_at "ru"
    simp only [vw_loc e2]
    walk_at "ru"
    rw [iws_len]
    have hm : ∃ m : Int, (if (cells.length : Int) > 1 then (cells.length : Int) else 1) = m ∧ 0 < m ∧ m ≤ cells.length + 1 ∧ (cells.length = 0 → m = 1) := ⟨_, rfl, by split <;> omega, by split <;> omega, by split <;> omega⟩
    obtain ⟨m, em, m1, m2, m3⟩ := hm
    rw [em]
    refine ⟨?_, m1, ?_⟩
    · have : 64 ≤ lim := by decide
      omega
    · obtain ⟨r1, r2⟩ := mod_rng (x := i) m1
      have lt : (i % m).toNat < (cells ++ [0]).length := by simp; omega
      have e : (iws cells ++ [.int 0])[(i % m).toNat]? = some (.int ((cells ++ [0])[(i % m).toNat])) := by
        rw [show iws cells ++ [.int 0] = iws (cells ++ [0]) by simp [iws], iws_get, List.getElem?_eq_getElem lt]
        rfl
      rw [at_li r1 e]
      refine hK _ _ ⟨rfl, _, fun c => ?_, rfl⟩
      apply Classical.byContradiction
      intro z
      have z0 : cells.length = 0 := by omega
      have z1 : cells = [] := List.length_eq_zero_iff.mp z0
      subst z1
      have := m3 rfl
      subst this
      exact c (by simp)
  rintro τ h2 ⟨rfl, c, hc, rfl⟩
  walk_at "st"
  refine ⟨by decide, ?_⟩
  rw [show (10 : Int) ^ Int.toNat 18 = 1000000000000000000 by decide]
  split
  · rename_i big
    have hp := hc (by omega)
    walk_at "st"
    rw [fdiv_i h0]
    refine ⟨h1, ?_⟩
    simp only [vw_loc e1]
    walk_at "ru"
    simp only [vw_loc e2]
    walk_at "ru"
    rw [iws_len]
    have m1 : (0 : Int) < cells.length := by omega
    obtain ⟨r1, r2⟩ := mod_rng (x := i) m1
    refine ⟨m1, ?_⟩
    rw [set_n e2 r1 (by rw [iws_len]; omega), iws_set]
    walk_at "st"
    obtain ⟨r3, r4⟩ := mod_rng (x := c) h0
    refine ⟨h0, q _ _ r3 r4 ⟨ne, s, _, i, ?_, hset_same, ?_⟩ Fr.refl.set2⟩
    · rw [hset_ne ne]; exact e1
    · rw [List.length_set]; exact e3
  · walk_at "st"
    simp only [vw_loc e1]
    walk_at "ru"
    simp only [mul_r (show -(2 ^ 64) < (48271 : Int) ∧ (48271 : Int) < 2 ^ 64 by decide), mul_r (show -(2 ^ 64) < (69621 : Int) ∧ (69621 : Int) < 2 ^ 64 by decide)]
    walk_at "ru"
    refine ⟨by decide, ?_⟩
    rw [set_z e1 (by simp)]
    walk_at "st"
    simp only [vw_loc hset_same, List.set_cons_zero]
    walk_at "ru"
    rw [set_k (i := 2) (j := 2) hset_same rfl (by exact (by decide : 2 < 3)), hset_two]
    walk_at "st"
    simp only [vw_loc hset_same, List.set_cons_zero, List.set_cons_succ]
    walk_at "ru"
    rw [fdiv_i (by decide)]
    refine ⟨by decide, ?_⟩
    walk_at "ru"
    obtain ⟨r3, r4⟩ := mod_rng (x := (s * 48271 + c * 69621 + 11) % 2147483647 / 7) h0
    refine ⟨h0, q _ _ r3 r4 ⟨ne, _, cells, _, hset_same, ?_, e3⟩ Fr.refl.set⟩
    rw [hset_ne (Ne.symm ne)]
    exact e2
theorem s_pick {a b : Addr} {ws : List W} (L : LH a b h) (h0 : ws ≠ []) (h1 : ws.length ≤ 1000) (q : ∀ w h', w ∈ ws → LH a b h' → Fr a b h h' → P w h') : callD T (n + 2) "_law_pick" [.loc a, .lst ws] h P E := by
  have hp : 0 < ws.length := List.length_pos_iff.mpr h0
  refine c__law_pick ?_
  walk_at "st"
  refine s_next L (by omega) ?_ fun v h' v0 v1 L' f => ?_
  · have : (1000 : Nat) < 2 ^ 8999 := Nat.lt_of_lt_of_le (by decide : 1000 < 2 ^ 10) (Nat.pow_le_pow_right (by decide) (by decide))
    omega
  · walk_at "ru"
    have lt : v.toNat < ws.length := by omega
    rw [at_li v0 (List.getElem?_eq_getElem lt)]
    exact q _ _ (List.getElem_mem lt) L' f
theorem s_frac {a b : Int} (hb : 0 < b) (hs : b.natAbs < 2 ^ 8999) (q : P (frW (mkF a b)) h) : callD T (n + 2) "_law_frac" [.int a, .int b] h P E := by
  refine c__law_frac ?_
  have g := gcd_pos (a := a) hb
  have g2 := gcd_le (a := a) hb
  have g3 : (Int.gcd a b : Int).natAbs < 2 ^ 8999 := Nat.lt_of_le_of_lt (by omega) hs
  walk_at "st"
  simp only [absW]
  refine z_seq (fun τ h1 => h1 = h ∧ ∃ o3, τ = [some (.int a), some (.int b), some (.int (Int.gcd a b : Int)), o3]) (fun K hK => ?_) ?_
  · simp only [v_whl]
    refine whl_inv (fun m τ h1 => h1 = h ∧ ∃ x : Nat, τ = [some (.int a), some (.int b), some (.int x), some (.int m)] ∧ Nat.gcd x m = Int.gcd a b) b.natAbs ⟨rfl, _, rfl, rfl⟩ ?_
    rintro m τ h1 ⟨rfl, x, rfl, hg⟩
    walk_at "ru"
    split
    · rename_i c
      have c' : 0 < m := by omega
      walk_at "st"
      refine ⟨by omega, x % m, Nat.mod_lt _ c', m, ?_, ?_⟩
      · rw [Int.natCast_emod]
      · rw [gcd_step]; exact hg
    · rename_i c
      have c' : m = 0 := by omega
      subst c'
      rw [Nat.gcd_zero_right] at hg
      rw [hg]
      exact hK _ _ ⟨rfl, _, rfl⟩
  rintro τ h1 ⟨rfl, o3, rfl⟩
  walk_at "st"
  rw [if_neg (show ¬ b < 0 by omega)]
  walk_at "st"
  rw [fdiv_i (by omega)]
  refine ⟨g3, ?_⟩
  rw [fdiv_i (by omega)]
  refine ⟨g3, ?_⟩
  exact q
theorem av : ∀ (d : Nat) (v : W) (h : Hw), aOk d v = true → vw h v = v := by
  intro d v h a
  cases v <;> first | rfl | skip
  cases d <;> simp [aOk] at a
end
end K04
end
section
set_option Elab.async false
set_option linter.all false
set_option maxRecDepth 100000
set_option maxHeartbeats 1000000
namespace K04
open PySem Ri.Z Lb
open Ri (Cl W O Hw hset hdel En KW XW Calls Bop Cop Kd Blt Met ItK Tg Ex Sm Df slot put clr clrs bindT bindTs vw toD toDs lim MulOk rep binW eqD eqW flatW eqF inW cmpW isNon atW cutL slW revW kdW isiOk intsOf prsOf blsOf strsOf leP rngW bltW metTy metW fmtV enmW zipW seqW itrW itrV itsOf fldW isCls frzW delW isEnd initOf nmOf lcL lcL2 wpE wpEs wpJ Dn puts setW atLI augW storeF lstAt isLoL insAt handle forL whlP wpS wpSs wpHs start wpF callD)
local macro_rules | `(tactic| walk_at "ru") => `(tactic| try simp only [r_var, r_int, r_bl, r_non, r_str, r_cst, r_bin, r_neg, r_cmp, r_isN, r_chn, r_and, r_or, r_not, r_ite, r_tup, r_lst, r_sub, r_sli, r_rev, r_call, r_new, r_mth, r_prp, r_eqo, r_fld, r_blt, r_met, r_fmt, r_isi, r_itr, r_lcm, r_lcm2, r_frz, r_own, r_del, r_nil, r_cons, r_jn, r_jc,
  v_set, v_unp, v_par, v_setI, v_augI, v_aug, v_ext, v_setF, v_setII, v_setIN, v_ex, v_app, v_ins, v_revI, v_ret, v_retN, v_ite, v_whl, v_for, v_brk, v_pass, v_frz, v_nil, v_cons,
  okW_some, brW_bl, blW_bl, inW_int, okE_some, tpW_tup, lsW_lst, itW_lst, itW_loc, slot, put, puts, clr, clrs, bindT, bindTs, Option.bind_some, add_i, sub_i, mod_i, add_l, add_t, add_s, rep_l, pow_i, List.any_cons, List.any_nil, List.map_cons, List.map_nil, List.length_cons, List.length_nil,
  iv_seq_l, iv_seq_t, iv_seq_s, iv_rng1, iv_rng2, at_t0, at_t1, at_t2, at_t3, at_l0, at_l1, at_l2, eq_str, eq_int, eq_bl, eq_ll, wt0, wt1, wt2, wt3, frw0, frw1, am0, am1, am2, blist_frs, eq_nn, kx_tuple_fr, kx_list_fr, kx_int_fr, kx_bool_fr, kx_str_fr, ix_fr, nx_fr, kx_tuple_frs, kx_list_frs, kx_int_frs, kx_bool_frs, kx_str_frs, ix_frs, nx_frs, kx_tuple_am, kx_list_am, kx_int_am, kx_bool_am, kx_str_am, ix_am, nx_am, kx_tuple_rd, kx_list_rd, kx_int_rd, kx_bool_rd, kx_str_rd, ix_rd, nx_rd, kx_tuple_fW, kx_list_fW, kx_int_fW, kx_bool_fW, kx_str_fW, ix_fW, nx_fW, kx_tuple_wt, kx_list_wt, kx_int_wt, kx_bool_wt, kx_str_wt, ix_wt, nx_wt, kx_tuple_rw, kx_list_rw, kx_int_rw, kx_bool_rw, kx_str_rw, ix_rw, nx_rw, it_enm_rw, it_enm_l, it_enm_t, in_modes, in_kinds, cut1, b_all, iv_rw, iv_frs, bl_rw, bl_frs, eq_fr, vw_fr, vw_frs, vw_am, vw_rd, vw_fW, vw_t, vw_rw, vv_non, isn_non, isi_non, vv_bl, isn_bl, isi_bl, vv_int, isn_int, isi_int, vv_str, isn_str, isi_str, vv_tup, isn_tup, isi_tup, vv_lst, isn_lst, isi_lst, vv_obj, isn_obj, isi_obj, vv_exc, isn_exc, vv_scr, isn_scr, kd_int_non, kd_int_bl, kd_int_int, kd_int_str, kd_int_tup, kd_int_lst, kd_int_obj, kd_bool_non, kd_bool_bl, kd_bool_int, kd_bool_str, kd_bool_tup, kd_bool_lst, kd_bool_obj, kd_str_non, kd_str_bl, kd_str_int, kd_str_str, kd_str_tup, kd_str_lst, kd_str_obj, kd_tuple_non, kd_tuple_bl, kd_tuple_int, kd_tuple_str, kd_tuple_tup, kd_tuple_lst, kd_tuple_obj, kd_list_non, kd_list_bl, kd_list_int, kd_list_str, kd_list_tup, kd_list_lst, kd_list_obj, cmp_lt, cmp_le, cmp_gt, cmp_ge, cmp_eq, cmp_ne, cmp_inn, cmp_nin, b_lenl, b_lent, b_lens, b_inti, b_abs, b_max2, b_min2, b_tupl, b_tupt, b_lstl, b_lstt, b_lsts, b_lr1, b_strs, b_stri, dw_nil, dw_cons, au_add, au_sub, ie_non_non, ie_non_int, ie_non_bl, ie_non_str, ie_int, ie_var, ie_bin, ie_neg, sl_l, sl_t, sl_ln, sl_tn, sl_lb, fo0, fo1, fo2, fo3, io, kdi, Mo.e1, Mo.e2, Mo.e3, Kn.e1, Kn.e2, Kn.e3, List.append_nil, List.cons_append, List.nil_append, List.replicate, Nat.reduceAdd, Nat.reduceSub, Nat.reduceLeDiff, Nat.reduceEqDiff,
  true_and, and_true, if_true, if_false, decide_eq_true_eq, Bool.not_eq_true', decide_eq_false_iff_not, Bool.or_false, Bool.or_true, Bool.false_or, Bool.true_or, Bool.not_true, Bool.not_false, reduceCtorEq, ite_true, ite_false, Bool.false_eq_true, forall_const, eq_self, decide_true, decide_false, List.contains_cons, List.contains_nil, List.elem_cons, beq_self_eq_true, ne_eq, not_true_eq_false, not_false_eq_true])
local macro_rules | `(tactic| walk_at "st") => `(tactic| ((try refine z_cons ?_); walk_at "ru"))
local macro_rules | `(tactic| walk_at "to") => `(tactic| (refine z_to ?t ?h (fun K hK => ?q1) ?q2))
section
variable {n : Nat} {h : Hw} {P : KW} {E : XW}
theorem s_line {w : Wb} {lv : List (Nat × Int)} {rs : List (Nat × Nat × Int)} (hl : w.l ≤ 4) (hn : w.n ≤ 6) (h1 : ∀ x ∈ lv, x.1 < w.n) (h2 : ∀ x ∈ rs, x.1 < w.l ∧ -(2 ^ 64) < x.2.2 ∧ x.2.2 < 2 ^ 64)
    (q : ∀ a, h a = none → P (.loc a) (hset h a (.lst (iws (lineV w lv rs))))) : callD T (n + 1) "_law_line" [w.t, .lst (lv.map lvW), .lst (rs.map rsW)] h P E := by
  refine c__law_line ?_
  walk_at "st"
  rw [mul_l (by decide)]
  walk_at "ru"
  refine ⟨⟨by omega, by omega⟩, fun a ha => ?_⟩
  have e : (1 + (w.n : Int) + 2 * w.l).toNat = w.len := by unfold Wb.len; omega
  rw [e, rep_zero]
  have lw : w.len = 1 + w.n + 2 * w.l := rfl
  refine z_seq (fun τ h1 => h1 = hset h a (.lst (iws (lv.foldl (fun row x => putL row x.1 x.2) (blank w)))) ∧ ∃ o4 o5, τ = [some w.t, some (.lst (lv.map lvW)), some (.lst (rs.map rsW)), some (.loc a), o4, o5, none, none, none]) (fun K hK => ?_) ?_
  · walk_at "ru"
    refine forL_fold lv lvW (fun row x => putL row x.1 x.2) (fun row τ h1 => (h1 = hset h a (.lst (iws row)) ∧ row.length = w.len) ∧ ∃ o4 o5, τ = [some w.t, some (.lst (lv.map lvW)), some (.lst (rs.map rsW)), some (.loc a), o4, o5, none, none, none]) (blank w) ⟨⟨rfl, blank_len⟩, _, _, rfl⟩ ?_ ?_
    · rintro row ⟨s, t⟩ τ h1' hx ⟨⟨rfl, el⟩, o4, o5, rfl⟩
      have hs := h1 _ hx
      refine ⟨trivial, ?_⟩
      rw [show lvW (s, t) = .tup [.int s, .int t] from rfl]
      walk_at "ru"
      intro K hK
      walk_at "st"
      rw [rd_at hset_same (j := 1 + s) (by omega) (by omega)]
      walk_at "ru"
      rw [st_at hset_same (j := 1 + s) (by omega) (by omega), hset_two]
      exact hK _ _ ⟨⟨rfl, by rw [putL_len]; exact el⟩, _, _, rfl⟩
    · rintro τ h1' ⟨⟨rfl, el⟩, o4, o5, rfl⟩
      exact ⟨trivial, hK _ _ ⟨rfl, _, _, rfl⟩⟩
  rintro τ h1' ⟨rfl, o4, o5, rfl⟩
  refine z_seq (fun τ h1 => h1 = hset h a (.lst (iws (lineV w lv rs))) ∧ ∃ o4 o5 o6 o7 o8, τ = [some w.t, some (.lst (lv.map lvW)), some (.lst (rs.map rsW)), some (.loc a), o4, o5, o6, o7, o8]) (fun K hK => ?_) ?_
  · walk_at "ru"
    refine forL_fold rs rsW (fun row x => putR w row x.1 x.2.1 x.2.2) (fun row τ h1 => (h1 = hset h a (.lst (iws row)) ∧ row.length = w.len) ∧ ∃ o4 o5 o6 o7 o8, τ = [some w.t, some (.lst (lv.map lvW)), some (.lst (rs.map rsW)), some (.loc a), o4, o5, o6, o7, o8]) _ ⟨⟨rfl, by rw [foldL_len, blank_len]⟩, _, _, _, _, _, rfl⟩ ?_ ?_
    · rintro row ⟨lot, r, t⟩ τ h1' hx ⟨⟨rfl, el⟩, o4, o5, o6, o7, o8, rfl⟩
      obtain ⟨hs, ht⟩ := h2 _ hx
      refine ⟨trivial, ?_⟩
      rw [show rsW (lot, r, t) = .tup [.int lot, .int r, .int t] from rfl]
      walk_at "ru"
      intro K hK
      have hK2 : ∀ o8, K [some w.t, some (.lst (lv.map lvW)), some (.lst (rs.map rsW)), some (.loc a), o4, some (.int t), some (.int lot), some (.int r), o8] (hset h a (.lst (iws (putR w row lot r t)))) := fun o8 => hK _ _ ⟨⟨rfl, by rw [putR_len]; exact el⟩, _, _, _, _, _, rfl⟩
      clear hK
      refine z_to [some w.t, some (.lst (lv.map lvW)), some (.lst (rs.map rsW)), some (.loc a), o4, some (.int t), some (.int lot), some (.int r), some (.int (if hasScale w.m lot = true then 1 + w.n + lot else 0 : Nat))] (hset h a (.lst (iws row))) (fun K hK => ?_) ?_
      · walk_at "ru"
        by_cases c : lot = 0
        · subst c
          simpa [hasScale] using hK
        · rw [if_neg (show ¬ ((lot : Int) = 0) by omega)]
          by_cases d : w.m = .shift
          · rw [if_pos d]
            simpa [hasScale, d] using hK
          · rw [if_neg d]
            walk_at "ru"
            have e1 : hasScale w.m lot = true := by simp [hasScale, d]; omega
            rw [e1, if_pos rfl] at hK
            have e2 : (1 + (w.n : Int) + lot) = ((1 + w.n + lot : Nat) : Int) := by omega
            rw [e2]
            exact hK
      generalize hp : (if hasScale w.m lot = true then 1 + w.n + lot else 0 : Nat) = pl
      have pl1 : pl < row.length := by rw [← hp]; split <;> omega
      have e1 : putR1 w row lot r t = addAt row pl (t * r) := by unfold putR1; rw [← hp]; split <;> rfl
      walk_at "st"
      rw [rd_at hset_same (j := pl) rfl pl1, mul_l ht]
      walk_at "ru"
      rw [st_at hset_same (j := pl) rfl pl1, hset_two]
      unfold putR at hK2
      rw [e1] at hK2
      walk_at "st"
      have gg : (row.set pl (row.getD pl 0 + t * r)) = addAt row pl (t * r) := rfl
      rw [gg]
      by_cases c : 0 < lot
      · rw [if_pos (show (0 : Int) < lot by omega)]
        by_cases d : w.m = .scale
        · simp only [d, hasShift] at hK2
          simp only [d]
          walk_at "ru"
          simpa using hK2 _
        · have e3 : hasShift w.m lot = true := by simp [hasShift, d, c]
          rw [e3] at hK2
          simp only [if_true] at hK2
          simp only [d]
          walk_at "ru"
          walk_at "st"
          walk_at "st"
          rw [rd_at hset_same (j := 1 + w.n + w.l + lot) (by omega) (by rw [addAt_len]; omega)]
          walk_at "ru"
          rw [st_at hset_same (j := 1 + w.n + w.l + lot) (by omega) (by rw [addAt_len]; omega), hset_two]
          exact hK2 _
      · rw [if_neg (show ¬ (0 : Int) < lot by omega)]
        have e3 : hasShift w.m lot = false := by simp [hasShift, c]
        rw [e3] at hK2
        exact hK2 _
    · rintro τ h1' ⟨⟨rfl, el⟩, o4, o5, o6, o7, o8, rfl⟩
      exact ⟨trivial, hK _ _ ⟨rfl, _, _, _, _, _, rfl⟩⟩
  rintro τ h1' ⟨rfl, o4, o5, o6, o7, o8, rfl⟩
  walk_at "st"
  exact q a ha
theorem s_line0 {w : Wb} (hl : w.l ≤ 4) (hn : w.n ≤ 6) (q : ∀ a, h a = none → P (.loc a) (hset h a (.lst (iws (blank w))))) : callD T (n + 1) "_law_line" [w.t, .lst [], .lst []] h P E :=
  s_line (lv := []) (rs := []) hl hn (fun _ m => nomatch m) (fun _ m => nomatch m) q
theorem s_line1 {w : Wb} {s lot : Nat} {r : Nat} {t u : Int} (hl : w.l ≤ 4) (hn : w.n ≤ 6) (h1 : s < w.n) (h2 : lot < w.l) (hu : -(2 ^ 64) < u ∧ u < 2 ^ 64) (q : P (.lst (iws (putR w (putL (blank w) s t) lot r u))) h) :
    callD T (n + 1) "_law_line" [w.t, .lst [.tup [.int s, .int t]], .lst [.tup [.int lot, .int r, .int u]]] h (fun x h1 => frzW h1 x P) E := by
  refine s_line (lv := [(s, t)]) (rs := [(lot, r, u)]) hl hn (fun x m => ?_) (fun x m => ?_) fun a ha => ?_
  · rw [List.mem_singleton.mp m]; exact h1
  · rw [List.mem_singleton.mp m]; exact ⟨h2, hu⟩
  · rw [frz_l hset_same, hdel_hset ha]
    exact q
theorem app_l {fs : List (List Int)} {f : List Int} : fs.map lW ++ [.lst (iws f)] = (fs ++ [f]).map lW := by simp [lW]
theorem len_l {fs : List (List Int)} (h : fs.length ≤ 1000) : (fs.map lW).length < lim := by
  rw [List.length_map]
  exact Nat.lt_of_le_of_lt h (by decide)
theorem s_lforms {w : Wb} (ok : w.ok) (q : P (.lst (w.forms.map lW)) h) : callD T (n + 2) "_law_forms" [w.t] h P E := by
  have hl := ok.1.2
  have hn := ok.2.1.2
  have hl1 := ok.1.1
  refine c__law_forms ?_
  walk_at "st"
  intro a ha
  refine z_seq (fun τ h1 => h1 = hset h a (.lst ((w.rs.flatMap (formsOf w)).map lW)) ∧ ∃ o2 o3 o4 o5, τ = [some w.t, some (.loc a), o2, o3, o4, o5, none, none]) (fun K hK => ?_) ?_
  · walk_at "ru"
    refine forL_inv (fun i τ h1 => h1 = hset h a (.lst (((w.rs.take i).flatMap (formsOf w)).map lW)) ∧ ∃ o2 o3 o4 o5, τ = [some w.t, some (.loc a), o2, o3, o4, o5, none, none]) ⟨rfl, _, _, _, _, rfl⟩ ?_ ?_
    · rintro i τ h1 x hx ⟨rfl, o2, o3, o4, o5, rfl⟩
      rw [List.getElem?_map] at hx
      obtain ⟨r, hr, ex⟩ := Option.map_eq_some_iff.mp hx
      subst ex
      refine ⟨trivial, ?_⟩
      have mr := List.mem_of_getElem? hr
      obtain ⟨r1, r2⟩ := ok.2.2.2 r mr
      have et : (w.rs.take (i + 1)).flatMap (formsOf w) = (w.rs.take i).flatMap (formsOf w) ++ formsOf w r := by
        rw [List.take_add_one, hr]
        simp [List.flatMap_append]
      rw [et]
      have hb : ((w.rs.take i).flatMap (formsOf w)).length ≤ 900 := by
        have h1 := flat_le (f := formsOf w) (c := 2) (fun r => formsOf_len) (w.rs.take i)
        have h2 : (w.rs.take i).length ≤ w.rs.length := by rw [List.length_take]; omega
        have := ok.2.2.1
        omega
      generalize (w.rs.take i).flatMap (formsOf w) = fs at *
      unfold formsOf
      unfold Rd.w
      walk_at "ru"
      intro K hK
      walk_at "st"
      by_cases k : r.k = .told
      · simp only [k] at hK r2
        rw [if_pos k]
        walk_at "st"
        rw [isLoL_l hset_same]
        refine ⟨by first | rfl | trivial, ?_⟩
        refine s_line1 (r := r.a) (lot := 0) hl hn r1 (by omega) (by decide) ?_
        rw [lstAt_l hset_same]
        refine ⟨len_l (by omega), ?_⟩
        rw [app_l, hset_two]
        walk_at "st"
        rw [isLoL_l hset_same]
        refine ⟨by first | rfl | trivial, ?_⟩
        refine s_line1 (r := r.b) (lot := 0) hl hn r1 (by omega) (by decide) ?_
        rw [lstAt_l hset_same]
        refine ⟨len_l (by simp; omega), ?_⟩
        rw [app_l, hset_two]
        rw [putR_zero, putR_zero]
        refine hK _ _ ⟨?_, _, _, _, _, rfl⟩
        rw [List.append_assoc, Int.one_mul, Int.neg_mul, Int.one_mul]
        rfl
      · have o3 : r.a < w.l ∧ r.b ≤ 999 := by
          cases hk : r.k <;> simp only [hk] at r2 k
          · exact r2
          · exact r2
          · exact (k trivial).elim
        rw [if_neg k]
        walk_at "st"
        rw [isLoL_l hset_same]
        refine ⟨by first | rfl | trivial, ?_⟩
        refine s_line1 hl hn r1 o3.1 (by decide) ?_
        rw [lstAt_l hset_same]
        refine ⟨len_l (by omega), ?_⟩
        rw [app_l, hset_two]
        walk_at "st"
        cases hk : r.k with
        | at_ =>
          simp only [hk] at hK
          walk_at "st"
          rw [isLoL_l hset_same]
          refine ⟨by first | rfl | trivial, ?_⟩
          refine s_line1 (r := r.b + 1) hl hn r1 o3.1 (by decide) ?_
          rw [lstAt_l hset_same]
          refine ⟨len_l (by simp; omega), ?_⟩
          rw [app_l, hset_two]
          refine hK _ _ ⟨?_, _, _, _, _, rfl⟩
          rw [List.append_assoc]
          rfl
        | above =>
          simp only [hk] at hK
          walk_at "ru"
          exact hK _ _ ⟨rfl, _, _, _, _, rfl⟩
        | told => exact (k hk).elim
    · rintro τ h1 ⟨rfl, o2, o3, o4, o5, rfl⟩
      refine ⟨trivial, hK _ _ ⟨?_, _, _, _, _, rfl⟩⟩
      rw [List.length_map, List.take_length]
  rintro τ h1 ⟨rfl, o2, o3, o4, o5, rfl⟩
  walk_at "st"
  rw [frz_l hset_same, hdel_hset ha]
  refine z_seq (fun τ h1 => h1 = h ∧ ∃ o2 o3 o4 o5 o6 o7, τ = [some w.t, some (.lst (w.forms.map lW)), o2, o3, o4, o5, o6, o7]) (fun K hK => ?_) ?_
  · walk_at "ru"
    refine ⟨by omega, ?_⟩
    rw [rng1_eq]
    refine forL_inv (fun i τ h1 => h1 = h ∧ ∃ o2 o3 o4 o5 o6 o7, τ = [some w.t, some (.lst ((w.rs.flatMap (formsOf w) ++ (List.range i).flatMap fun k => scaleForms w (1 + k)).map lW)), o2, o3, o4, o5, o6, o7]) ?_ ?_ ?_
    · exact ⟨rfl, o2, o3, o4, o5, none, none, by simp⟩
    · rintro k τ h1 x hx ⟨rfl, o2, o3, o4, o5, o6, o7, rfl⟩
      obtain ⟨hk, ex⟩ := rng_get hx
      subst ex
      refine ⟨trivial, ?_⟩
      walk_at "ru"
      intro K hK
      rw [List.range_succ, List.flatMap_append, ← List.append_assoc] at hK
      have hfs : (w.rs.flatMap (formsOf w) ++ (List.range k).flatMap fun k => scaleForms w (1 + k)).length ≤ 900 := by
        have h1 := flat_le (f := formsOf w) (c := 2) (fun r => formsOf_len) w.rs
        have h2 := flat_le (f := fun k => scaleForms w (1 + k)) (c := 2) (fun r => scaleForms_len) (List.range k)
        have := ok.2.2.1
        simp only [List.length_range] at h2
        simp only [List.length_append]
        omega
      generalize w.rs.flatMap (formsOf w) ++ (List.range k).flatMap (fun k => scaleForms w (1 + k)) = fs at *
      have e0 : (List.flatMap (fun k => scaleForms w (1 + k)) [k]) = scaleForms w (1 + k) := by simp
      rw [e0] at hK
      walk_at "st"
      unfold scaleForms hasScale at hK
      by_cases c : w.m = .shift
      · simp only [c]
        walk_at "ru"
        rw [if_neg (by simp [c]), List.append_nil] at hK
        exact hK _ _ ⟨rfl, _, _, _, _, _, _, rfl⟩
      · have c1 : (decide (0 < 1 + k) && decide (w.m ≠ .shift)) = true := by simp [c]; omega
        rw [if_pos c1] at hK
        simp only [c]
        walk_at "ru"
        walk_at "st"
        refine s_line0 hl hn fun b hb => s_line0 hl hn fun d hd => ?_
        obtain ⟨nd, hd⟩ := hset_none hd
        have lb : (blank w).length = w.len := blank_len
        have hi2 : 1 + w.n + (1 + k) < w.len := by unfold Wb.len; omega
        have p0 : 0 < w.len := by omega
        walk_at "st"
        rw [st_at (row := blank w) (i := 0) (j := 0) (by rw [hset_ne (Ne.symm nd)]; exact hset_same) rfl (by rw [lb]; exact p0), hset_swap (Ne.symm nd)]
        rw [st_at (row := blank w) (i := 0) (j := 0) hset_same rfl (by rw [lb]; exact p0), hset_two]
        walk_at "st"
        rw [st_at (row := (blank w).set 0 (-1)) (j := 1 + w.n + (1 + k)) (by rw [hset_ne (Ne.symm nd)]; exact hset_same) (by omega) (by rw [List.length_set, lb]; exact hi2), hset_swap (Ne.symm nd)]
        rw [st_at (row := (blank w).set 0 4) (j := 1 + w.n + (1 + k)) hset_same (by omega) (by rw [List.length_set, lb]; exact hi2), hset_two]
        walk_at "st"
        rw [frz_l (show (hset (hset h1 b (.lst (iws (((blank w).set 0 (-1)).set (1 + w.n + (1 + k)) 4)))) d (.lst (iws (((blank w).set 0 4).set (1 + w.n + (1 + k)) (-1))))) b = _ by rw [hset_ne (Ne.symm nd)]; exact hset_same), hdel_hset2 hb nd]
        walk_at "st"
        rw [frz_l hset_same, hdel_hset hd]
        walk_at "st"
        refine ⟨?_, fun e he => ?_⟩
        · rw [List.length_map]
          have : 1002 ≤ lim := by decide
          omega
        · walk_at "st"
          rw [frz_l hset_same, hdel_hset he]
          have e1 : ∀ f g : List Int, fs.map lW ++ [.lst (iws f), .lst (iws g)] = (fs ++ [f, g]).map lW := fun f g => by simp [lW]
          rw [e1]
          exact hK _ _ ⟨rfl, _, _, _, _, _, _, rfl⟩
    · rintro τ h1 ⟨rfl, o2, o3, o4, o5, o6, o7, rfl⟩
      refine ⟨trivial, hK _ _ ⟨rfl, o2, o3, o4, o5, o6, o7, ?_⟩⟩
      simp only [List.length_map, List.length_range]
      rfl
  rintro τ h1 ⟨rfl, o2, o3, o4, o5, o6, o7, rfl⟩
  walk_at "st"
  exact q
end
end K04
end
section
set_option Elab.async false
set_option linter.all false
set_option maxRecDepth 100000
set_option maxHeartbeats 1000000
namespace K04
open PySem Ri.Z Lb
open Ri (Cl W O Hw hset hdel En KW XW Calls Bop Cop Kd Blt Met ItK Tg Ex Sm Df slot put clr clrs bindT bindTs vw toD toDs lim MulOk rep binW eqD eqW flatW eqF inW cmpW isNon atW cutL slW revW kdW isiOk intsOf prsOf blsOf strsOf leP rngW bltW metTy metW fmtV enmW zipW seqW itrW itrV itsOf fldW isCls frzW delW isEnd initOf nmOf lcL lcL2 wpE wpEs wpJ Dn puts setW atLI augW storeF lstAt isLoL insAt handle forL whlP wpS wpSs wpHs start wpF callD)
local macro_rules | `(tactic| walk_at "ru") => `(tactic| try simp only [r_var, r_int, r_bl, r_non, r_str, r_cst, r_bin, r_neg, r_cmp, r_isN, r_chn, r_and, r_or, r_not, r_ite, r_tup, r_lst, r_sub, r_sli, r_rev, r_call, r_new, r_mth, r_prp, r_eqo, r_fld, r_blt, r_met, r_fmt, r_isi, r_itr, r_lcm, r_lcm2, r_frz, r_own, r_del, r_nil, r_cons, r_jn, r_jc,
  v_set, v_unp, v_par, v_setI, v_augI, v_aug, v_ext, v_setF, v_setII, v_setIN, v_ex, v_app, v_ins, v_revI, v_ret, v_retN, v_ite, v_whl, v_for, v_brk, v_pass, v_frz, v_nil, v_cons,
  okW_some, brW_bl, blW_bl, inW_int, okE_some, tpW_tup, lsW_lst, itW_lst, itW_loc, slot, put, puts, clr, clrs, bindT, bindTs, Option.bind_some, add_i, sub_i, mod_i, add_l, add_t, add_s, rep_l, pow_i, List.any_cons, List.any_nil, List.map_cons, List.map_nil, List.length_cons, List.length_nil,
  iv_seq_l, iv_seq_t, iv_seq_s, iv_rng1, iv_rng2, at_t0, at_t1, at_t2, at_t3, at_l0, at_l1, at_l2, eq_str, eq_int, eq_bl, eq_ll, wt0, wt1, wt2, wt3, frw0, frw1, am0, am1, am2, blist_frs, eq_nn, kx_tuple_fr, kx_list_fr, kx_int_fr, kx_bool_fr, kx_str_fr, ix_fr, nx_fr, kx_tuple_frs, kx_list_frs, kx_int_frs, kx_bool_frs, kx_str_frs, ix_frs, nx_frs, kx_tuple_am, kx_list_am, kx_int_am, kx_bool_am, kx_str_am, ix_am, nx_am, kx_tuple_rd, kx_list_rd, kx_int_rd, kx_bool_rd, kx_str_rd, ix_rd, nx_rd, kx_tuple_fW, kx_list_fW, kx_int_fW, kx_bool_fW, kx_str_fW, ix_fW, nx_fW, kx_tuple_wt, kx_list_wt, kx_int_wt, kx_bool_wt, kx_str_wt, ix_wt, nx_wt, kx_tuple_rw, kx_list_rw, kx_int_rw, kx_bool_rw, kx_str_rw, ix_rw, nx_rw, it_enm_rw, it_enm_l, it_enm_t, in_modes, in_kinds, cut1, b_all, iv_rw, iv_frs, bl_rw, bl_frs, eq_fr, vw_fr, vw_frs, vw_am, vw_rd, vw_fW, vw_t, vw_rw, vv_non, isn_non, isi_non, vv_bl, isn_bl, isi_bl, vv_int, isn_int, isi_int, vv_str, isn_str, isi_str, vv_tup, isn_tup, isi_tup, vv_lst, isn_lst, isi_lst, vv_obj, isn_obj, isi_obj, vv_exc, isn_exc, vv_scr, isn_scr, kd_int_non, kd_int_bl, kd_int_int, kd_int_str, kd_int_tup, kd_int_lst, kd_int_obj, kd_bool_non, kd_bool_bl, kd_bool_int, kd_bool_str, kd_bool_tup, kd_bool_lst, kd_bool_obj, kd_str_non, kd_str_bl, kd_str_int, kd_str_str, kd_str_tup, kd_str_lst, kd_str_obj, kd_tuple_non, kd_tuple_bl, kd_tuple_int, kd_tuple_str, kd_tuple_tup, kd_tuple_lst, kd_tuple_obj, kd_list_non, kd_list_bl, kd_list_int, kd_list_str, kd_list_tup, kd_list_lst, kd_list_obj, cmp_lt, cmp_le, cmp_gt, cmp_ge, cmp_eq, cmp_ne, cmp_inn, cmp_nin, b_lenl, b_lent, b_lens, b_inti, b_abs, b_max2, b_min2, b_tupl, b_tupt, b_lstl, b_lstt, b_lsts, b_lr1, b_strs, b_stri, dw_nil, dw_cons, au_add, au_sub, ie_non_non, ie_non_int, ie_non_bl, ie_non_str, ie_int, ie_var, ie_bin, ie_neg, sl_l, sl_t, sl_ln, sl_tn, sl_lb, fo0, fo1, fo2, fo3, io, kdi, Mo.e1, Mo.e2, Mo.e3, Kn.e1, Kn.e2, Kn.e3, List.append_nil, List.cons_append, List.nil_append, List.replicate, Nat.reduceAdd, Nat.reduceSub, Nat.reduceLeDiff, Nat.reduceEqDiff,
  true_and, and_true, if_true, if_false, decide_eq_true_eq, Bool.not_eq_true', decide_eq_false_iff_not, Bool.or_false, Bool.or_true, Bool.false_or, Bool.true_or, Bool.not_true, Bool.not_false, reduceCtorEq, ite_true, ite_false, Bool.false_eq_true, forall_const, eq_self, decide_true, decide_false, List.contains_cons, List.contains_nil, List.elem_cons, beq_self_eq_true, ne_eq, not_true_eq_false, not_false_eq_true])
local macro_rules | `(tactic| walk_at "st") => `(tactic| ((try refine z_cons ?_); walk_at "ru"))
local macro_rules | `(tactic| walk_at "to") => `(tactic| (refine z_to ?t ?h (fun K hK => ?q1) ?q2))
section
variable {n : Nat} {h : Hw} {P : KW} {E : XW}
theorem s_nx {a b : Addr} {cap : Int} (L : LH a b h) (h0 : 0 < cap) (h1 : cap ≤ 1000000000) (q : ∀ (v : Int) h', 0 ≤ v → v < cap → LH a b h' → Fr a b h h' → P (.int v) h') : callD T (n + 1) "_law_next" [.loc a, .int cap] h P E :=
  s_next L h0 (cap_s (by omega) h1) q
theorem s_amounts {a b : Addr} {m : Mo} {l k : Nat} (L : LH a b h) (hl : l ≤ 4) (hk : k ≤ 6) (q : ∀ A h', DrA m l k A → LH a b h' → Fr a b h h' → P A.w h') :
    callD T (n + 3) "_law_amounts" [.loc a, .str m.s, .int l, .int k] h P E := by
  refine c__law_amounts ?_
  walk_at "st"
  refine s_pick L (by simp) (by simp) fun w h1 hw L1 f1 => ?_
  have hc : ∃ c : Int, w = .int c ∧ 1 ≤ c ∧ c ≤ 900 := by
    simp only [List.mem_cons, List.not_mem_nil, or_false] at hw
    rcases hw with e | e | e | e <;> subst e <;> exact ⟨_, rfl, by decide, by decide⟩
  obtain ⟨c, ew, c1, c2⟩ := hc
  subst ew
  walk_at "ru"
  intro x7 e7 x8 e8 x9 e9
  obtain ⟨n78, e8⟩ := hset_none e8
  obtain ⟨n89, e9⟩ := hset_none e9
  obtain ⟨n79, e9⟩ := hset_none e9
  obtain ⟨a7, b7⟩ := L1.none e7
  obtain ⟨a8, b8⟩ := L1.none e8
  obtain ⟨a9, b9⟩ := L1.none e9
  -- what holds of the heap
  let G : List (Int × Int) → List (Int × Int) → List (Int × Int) → Hw → Prop := fun lv sc sh h' => LH a b h' ∧ h' x7 = some (.lst (lv.map frW)) ∧ h' x8 = some (.lst (sc.map frW)) ∧ h' x9 = some (.lst (sh.map frW)) ∧
    ∀ y, y ≠ a → y ≠ b → y ≠ x7 → y ≠ x8 → y ≠ x9 → h' y = h1 y
  have g0 : G [] [] [] (hset (hset (hset h1 x7 (.lst [])) x8 (.lst [])) x9 (.lst [])) := by
    refine ⟨((L1.put a7 b7).put a8 b8).put a9 b9, ?_, ?_, hset_same, fun y _ _ y7 y8 y9 => ?_⟩
    · rw [hset_ne (Ne.symm n79), hset_ne (Ne.symm n78)]; exact hset_same
    · rw [hset_ne (Ne.symm n89)]; exact hset_same
    · rw [hset_ne y9, hset_ne y8, hset_ne y7]
  have ap : ∀ (xs : List (Int × Int)) (p : Int × Int), xs.map frW ++ [frW p] = (xs ++ [p]).map frW := fun xs p => by simp
  have le : ∀ (xs : List (Int × Int)), xs.length ≤ 10 → (xs.map frW).length < lim := fun xs h => by
    rw [List.length_map]
    exact Nat.lt_of_le_of_lt h (by decide)
  refine z_seq (fun τ h' => ∃ lv, (lv.length = k ∧ (∀ p ∈ lv, LvOk p) ∧ G lv [] [] h') ∧ ∃ o4 o10, τ = [some (.loc a), some (.str m.s), some (.int l), some (.int k), o4, none, some (.int c), some (.loc x7), some (.loc x8), some (.loc x9), o10, none, none, none]) (fun K hK => ?_) ?_
  · walk_at "ru"
    refine ⟨by omega, ?_⟩
    rw [rng0_eq]
    refine forL_inv (fun i τ h' => ∃ lv, (lv.length = i ∧ (∀ p ∈ lv, LvOk p) ∧ G lv [] [] h') ∧ ∃ o4 o10, τ = [some (.loc a), some (.str m.s), some (.int l), some (.int k), o4, none, some (.int c), some (.loc x7), some (.loc x8), some (.loc x9), o10, none, none, none]) ⟨[], ⟨rfl, fun _ m => (nomatch m), g0⟩, _, _, rfl⟩ ?_ ?_
    · rintro i τ h' x hx ⟨lv, ⟨el, hlv, g⟩, o4, o10, rfl⟩
      obtain ⟨hi, ex⟩ := rng_get hx
      subst ex
      refine ⟨trivial, ?_⟩
      walk_at "ru"
      intro K hK
      walk_at "st"
      refine s_nx g.1 (by decide) (by decide) fun v h2 v0 v1 L2 f2 => ?_
      walk_at "ru"
      walk_at "st"
      have gl : h2 x7 = some (.lst (lv.map frW)) := f2.at g.2.1 a7 b7
      rw [isLoL_l gl]
      refine ⟨rfl, ?_⟩
      rw [mul_l (by omega)]
      walk_at "ru"
      have cp : 0 < c * (1 + v) := Int.mul_pos (by omega) (by omega)
      have cq : c * (1 + v) ≤ 900 * 4 := Int.mul_le_mul c2 (by omega) (by omega) (by omega)
      refine s_nx L2 cp (by omega) fun u h3 u0 u1 L3 f3 => ?_
      refine s_frac (by omega) (cap_s (by omega) (by omega)) ?_
      walk_at "ru"
      have gl3 : h3 x7 = some (.lst (lv.map frW)) := f3.at gl a7 b7
      rw [lstAt_l gl3, ap]
      refine ⟨le _ (by omega), ?_⟩
      refine hK _ _ ⟨lv ++ [mkF u (1 + v)], ⟨by simp [el], ?_, L3.put a7 b7, hset_same, ?_, ?_, ?_⟩, _, _, rfl⟩
      · intro p mp
        rcases List.mem_append.mp mp with mp | mp
        · exact hlv p mp
        · rw [List.mem_singleton.mp mp]
          exact lv_ok (by omega) (by omega) c2 u0 u1
      · rw [hset_ne n78]; exact f3.at (f2.at g.2.2.1 a8 b8) a8 b8
      · rw [hset_ne n79]; exact f3.at (f2.at g.2.2.2.1 a9 b9) a9 b9
      · intro y ya yb y7 y8 y9
        rw [hset_ne y7, f3 y ya yb, f2 y ya yb]
        exact g.2.2.2.2 y ya yb y7 y8 y9
    · rintro τ h' ⟨lv, ⟨el, hlv, g⟩, o4, o10, rfl⟩
      refine ⟨trivial, hK _ _ ⟨lv, ⟨?_, hlv, g⟩, _, _, rfl⟩⟩
      simpa using el
  rintro τ h2 ⟨lv, ⟨el, hlv, g⟩, o4, o10, rfl⟩
  walk_at "st"
  rw [frz_l g.2.1]
  let G2 : List (Int × Int) → List (Int × Int) → Hw → Prop := fun sc sh h' => LH a b h' ∧ h' x8 = some (.lst (sc.map frW)) ∧ h' x9 = some (.lst (sh.map frW)) ∧ ∀ y, y ≠ a → y ≠ b → y ≠ x8 → y ≠ x9 → h' y = h1 y
  have g2 : G2 [] [] (hdel h2 x7) := by
    refine ⟨g.1.del a7 b7, ?_, ?_, fun y ya yb y8 y9 => ?_⟩
    · unfold hdel; rw [if_neg n78]; exact g.2.2.1
    · unfold hdel; rw [if_neg n79]; exact g.2.2.2.1
    · unfold hdel
      by_cases y7 : y = x7
      · rw [if_pos y7, y7, e7]
      · rw [if_neg y7]; exact g.2.2.2.2 y ya yb y7 y8 y9
  let I2 : Nat → List (Int × Int) → List (Int × Int) → Prop := fun i sc sh => (sc.length = i ∧ sh.length = i) ∧ (∀ p ∈ sc, ScOk p ∧ Sml p) ∧ (∀ p ∈ sh, FrOk p ∧ Sml p) ∧ (∀ j, j < i → hasScale m j = false → sc[j]? = some (1, 1)) ∧ (∀ j, j < i → hasShift m j = false → sh[j]? = some (0, 1))
  have i0 : I2 0 [] [] := ⟨⟨rfl, rfl⟩, fun _ m => (nomatch m), fun _ m => (nomatch m), fun j z => (by omega), fun j z => (by omega)⟩
  refine z_seq (fun τ h' => ∃ sc sh, (I2 l sc sh ∧ G2 sc sh h') ∧ ∃ o4 o5 o10 o11 o12 o13, τ = [some (.loc a), some (.str m.s), some (.int l), some (.int k), o4, o5, some (.int c), some (.lst (lv.map frW)), some (.loc x8), some (.loc x9), o10, o11, o12, o13]) (fun K hK => ?_) ?_
  · walk_at "ru"
    refine ⟨by omega, ?_⟩
    rw [rng0_eq]
    refine forL_inv (fun i τ h' => ∃ sc sh, (I2 i sc sh ∧ G2 sc sh h') ∧ ∃ o4 o5 o10 o11 o12 o13, τ = [some (.loc a), some (.str m.s), some (.int l), some (.int k), o4, o5, some (.int c), some (.lst (lv.map frW)), some (.loc x8), some (.loc x9), o10, o11, o12, o13]) ⟨[], [], ⟨i0, g2⟩, _, _, _, _, _, _, rfl⟩ ?_ ?_
    · rintro i τ h' x hx ⟨sc, sh, ⟨ii, g⟩, o4, o5, o10, o11, o12, o13, rfl⟩
      obtain ⟨hi, ex⟩ := rng_get hx
      subst ex
      refine ⟨trivial, ?_⟩
      walk_at "ru"
      intro K hK
      walk_at "st"
      refine s_nx g.1 (by decide) (by decide) fun v1 h3 v10 v11 L3 f3 => ?_
      walk_at "ru"
      refine s_nx L3 (by decide) (by decide) fun v2 h4 v20 v21 L4 f4 => ?_
      walk_at "ru"
      refine s_nx L4 (by decide) (by decide) fun v3 h5 v30 v31 L5 f5 => ?_
      walk_at "ru"
      walk_at "st"
      rw [mul_l (by decide)]
      walk_at "ru"
      refine s_nx L5 (by omega) (by omega) fun v4 h6 v40 v41 L6 f6 => ?_
      walk_at "ru"
      rw [mul_l (by decide)]
      walk_at "ru"
      refine s_frac (by omega) (cap_s (by omega) (by omega)) ?_
      have f : Fr a b h' h6 := ((f3.trans f4).trans f5).trans f6
      have s0 : FrOk (mkF (v4 - 40 * (1 + v3)) (1 + v3)) ∧ Sml (mkF (v4 - 40 * (1 + v3)) (1 + v3)) := ⟨mkF_ok (by omega), mkF_sm (by omega) (by omega) (by omega) (by omega)⟩
      generalize mkF (v4 - 40 * (1 + v3)) (1 + v3) = sp at *
      refine z_seq (fun τ h' => h' = h6 ∧ ∃ one two : Int, ((1 ≤ one ∧ one ≤ 8) ∧ (1 ≤ two ∧ two ≤ 8) ∧ (one ≤ 4 * two ∧ two ≤ 4 * one) ∧ (hasScale m i = false → one = 1 ∧ two = 1)) ∧ τ = [some (.loc a), some (.str m.s), some (.int l), some (.int k), o4, some (.int i), some (.int c), some (.lst (lv.map frW)), some (.loc x8), some (.loc x9), some (.int (1 + v3)), some (frW sp), some (.int one), some (.int two)]) (fun K hK => ?_) ?_
      · walk_at "ru"
        have k1 : K [some (.loc a), some (.str m.s), some (.int l), some (.int k), o4, some (.int i), some (.int c), some (.lst (lv.map frW)), some (.loc x8), some (.loc x9), some (.int (1 + v3)), some (frW sp), some (.int 1), some (.int 1)] h6 := hK _ _ ⟨rfl, 1, 1, ⟨by omega, by omega, by omega, fun _ => ⟨rfl, rfl⟩⟩, rfl⟩
        by_cases c0 : (i : Int) = 0
        · rw [if_pos c0]; exact k1
        rw [if_neg c0]
        by_cases c1 : m = .shift
        · rw [if_pos c1]; exact k1
        rw [if_neg c1]
        simp only [mul_l (show -(2 ^ 64) < (4 : Int) ∧ (4 : Int) < 2 ^ 64 by decide)]
        walk_at "ru"
        by_cases c2 : 4 * (1 + v2) < 1 + v1
        · rw [if_pos c2]; exact k1
        rw [if_neg c2]
        by_cases c3 : 4 * (1 + v1) < 1 + v2
        · rw [if_pos c3]; exact k1
        rw [if_neg c3]
        refine hK _ _ ⟨rfl, 1 + v1, 1 + v2, ⟨by omega, by omega, by omega, fun q => ?_⟩, rfl⟩
        have : hasScale m i = true := by simp [hasScale, c1]; omega
        rw [this] at q
        cases q
      rintro τ h7 ⟨rfl, one, two, ⟨o1, o2, o3, o4'⟩, rfl⟩
      refine z_seq (fun τ h' => h' = h7 ∧ ∃ sp, ((FrOk sp ∧ Sml sp) ∧ (hasShift m i = false → sp = (0, 1))) ∧ τ = [some (.loc a), some (.str m.s), some (.int l), some (.int k), o4, some (.int i), some (.int c), some (.lst (lv.map frW)), some (.loc x8), some (.loc x9), some (.int (1 + v3)), some (frW sp), some (.int one), some (.int two)]) (fun K hK => ?_) ?_
      · walk_at "ru"
        have k1 : K [some (.loc a), some (.str m.s), some (.int l), some (.int k), o4, some (.int i), some (.int c), some (.lst (lv.map frW)), some (.loc x8), some (.loc x9), some (.int (1 + v3)), some (.tup [.int 0, .int 1]), some (.int one), some (.int two)] h7 := hK _ _ ⟨rfl, (0, 1), ⟨⟨by unfold FrOk; decide, by unfold Sml; decide⟩, fun _ => rfl⟩, rfl⟩
        by_cases c0 : (i : Int) = 0
        · rw [if_pos c0]; exact k1
        rw [if_neg c0]
        by_cases c1 : m = .scale
        · rw [if_pos c1]; exact k1
        rw [if_neg c1]
        refine hK _ _ ⟨rfl, sp, ⟨s0, fun q => ?_⟩, rfl⟩
        have : hasShift m i = true := by simp [hasShift, c1]; omega
        rw [this] at q
        cases q
      rintro τ h8 ⟨rfl, sp2, ⟨s1, s2⟩, rfl⟩
      walk_at "st"
      have g8 : h8 x8 = some (.lst (sc.map frW)) := f.at g.2.1 a8 b8
      have g9 : h8 x9 = some (.lst (sh.map frW)) := f.at g.2.2.1 a9 b9
      rw [isLoL_l g8]
      refine ⟨rfl, ?_⟩
      refine s_frac (by omega) (cap_s (by omega) (by omega)) ?_
      walk_at "ru"
      rw [lstAt_l g8, ap]
      obtain ⟨⟨l1, l2⟩, i1, i2, i3, i4⟩ := ii
      refine ⟨le _ (by omega), ?_⟩
      walk_at "st"
      have g9' : (hset h8 x8 (.lst ((sc ++ [mkF one two]).map frW))) x9 = some (.lst (sh.map frW)) := by rw [hset_ne n89]; exact g9
      rw [isLoL_l g9']
      refine ⟨rfl, ?_⟩
      rw [lstAt_l g9', ap]
      refine ⟨le _ (by omega), ?_⟩
      have sc1 := sc_ok o1.1 o1.2 o2.1 o2.2 o3.1 o3.2
      refine hK _ _ ⟨sc ++ [mkF one two], sh ++ [sp2], ⟨⟨by simp [l1, l2], ?_, ?_, ?_, ?_⟩, (L6.put a8 b8).put a9 b9, ?_, hset_same, ?_⟩, _, _, _, _, _, _, rfl⟩
      · intro p mp
        rcases List.mem_append.mp mp with mp | mp
        · exact i1 p mp
        · rw [List.mem_singleton.mp mp]; exact sc1
      · intro p mp
        rcases List.mem_append.mp mp with mp | mp
        · exact i2 p mp
        · rw [List.mem_singleton.mp mp]; exact s1
      · intro j hj hs
        by_cases e : j < i
        · rw [List.getElem?_append_left (by omega)]; exact i3 j e hs
        · have e' : j = i := by omega
          subst e'
          rw [List.getElem?_append_right (by omega), l1]
          obtain ⟨z1, z2⟩ := o4' hs
          simp [z1, z2, mkF_one]
      · intro j hj hs
        by_cases e : j < i
        · rw [List.getElem?_append_left (by omega)]; exact i4 j e hs
        · have e' : j = i := by omega
          subst e'
          rw [List.getElem?_append_right (by omega), l2]
          simp [s2 hs]
      · rw [hset_ne (Ne.symm n89)]; exact hset_same
      · intro y ya yb y8 y9
        rw [hset_ne y9, hset_ne y8, f y ya yb]
        exact g.2.2.2 y ya yb y8 y9
    · rintro τ h' ⟨sc, sh, ⟨ii, g⟩, o4, o5, o10, o11, o12, o13, rfl⟩
      refine ⟨trivial, hK _ _ ⟨sc, sh, ⟨?_, g⟩, _, _, _, _, _, _, rfl⟩⟩
      simpa using ii
  rintro τ h3 ⟨sc, sh, ⟨⟨⟨l1, l2⟩, i1, i2, i3, i4⟩, g3⟩, o4, o5, o10, o11, o12, o13, rfl⟩
  walk_at "st"
  rw [frz_l g3.2.1]
  walk_at "st"
  have g9 : (hdel h3 x8) x9 = some (.lst (sh.map frW)) := by unfold hdel; rw [if_neg n89]; exact g3.2.2.1
  rw [frz_l g9]
  walk_at "st"
  refine q ⟨lv, sc, sh⟩ _ ⟨⟨el, l1, l2, fun p m => (hlv p m).1, fun p m => (i1 p m).1, fun p m => (i2 p m).1, i3, i4⟩, hlv, i1, i2⟩ ((g3.1.del a8 b8).del a9 b9) fun y ya yb => ?_
  unfold hdel
  by_cases y9 : y = x9
  · rw [if_pos y9, y9]
    rw [← f1 x9 a9 b9]
    exact e9.symm
  · rw [if_neg y9]
    by_cases y8 : y = x8
    · rw [if_pos y8, y8]
      rw [← f1 x8 a8 b8]
      exact e8.symm
    · rw [if_neg y8, g3.2.2.2 y ya yb y8 y9]
      exact f1 y ya yb
end
end K04
end
section
set_option Elab.async false
set_option linter.all false
set_option maxRecDepth 100000
set_option maxHeartbeats 2000000
namespace K04
open PySem Ri.Z Lb Lm
open Ri (Cl W O Hw hset hdel En KW XW Calls Bop Cop Kd Blt Met ItK Tg Ex Sm Df slot put clr clrs bindT bindTs vw toD toDs lim MulOk rep binW eqD eqW flatW eqF inW cmpW isNon atW cutL slW revW kdW isiOk intsOf prsOf blsOf strsOf leP rngW bltW metTy metW fmtV enmW zipW seqW itrW itrV itsOf fldW isCls frzW delW isEnd initOf nmOf lcL lcL2 wpE wpEs wpJ Dn puts setW atLI augW storeF lstAt isLoL insAt handle forL whlP wpS wpSs wpHs start wpF callD)
local macro_rules | `(tactic| walk_at "ru") => `(tactic| try simp only [r_var, r_int, r_bl, r_non, r_str, r_cst, r_bin, r_neg, r_cmp, r_isN, r_chn, r_and, r_or, r_not, r_ite, r_tup, r_lst, r_sub, r_sli, r_rev, r_call, r_new, r_mth, r_prp, r_eqo, r_fld, r_blt, r_met, r_fmt, r_isi, r_itr, r_lcm, r_lcm2, r_frz, r_own, r_del, r_nil, r_cons, r_jn, r_jc,
  v_set, v_unp, v_par, v_setI, v_augI, v_aug, v_ext, v_setF, v_setII, v_setIN, v_ex, v_app, v_ins, v_revI, v_ret, v_retN, v_ite, v_whl, v_for, v_brk, v_pass, v_frz, v_nil, v_cons,
  okW_some, brW_bl, blW_bl, inW_int, okE_some, tpW_tup, lsW_lst, itW_lst, itW_loc, slot, put, puts, clr, clrs, bindT, bindTs, Option.bind_some, add_i, sub_i, mod_i, add_l, add_t, add_s, rep_l, pow_i, List.any_cons, List.any_nil, List.map_cons, List.map_nil, List.length_cons, List.length_nil,
  iv_seq_l, iv_seq_t, iv_seq_s, iv_rng1, iv_rng2, at_t0, at_t1, at_t2, at_t3, at_l0, at_l1, at_l2, eq_str, eq_int, eq_bl, eq_ll, vw_lW, iv_lW, bl_fW, bl_lW, bt_lW, ln_lW, iv_zipL, wt0, wt1, wt2, wt3, frw0, frw1, am0, am1, am2, blist_frs, eq_nn, kx_tuple_fr, kx_list_fr, kx_int_fr, kx_bool_fr, kx_str_fr, ix_fr, nx_fr, kx_tuple_frs, kx_list_frs, kx_int_frs, kx_bool_frs, kx_str_frs, ix_frs, nx_frs, kx_tuple_am, kx_list_am, kx_int_am, kx_bool_am, kx_str_am, ix_am, nx_am, kx_tuple_rd, kx_list_rd, kx_int_rd, kx_bool_rd, kx_str_rd, ix_rd, nx_rd, kx_tuple_fW, kx_list_fW, kx_int_fW, kx_bool_fW, kx_str_fW, ix_fW, nx_fW, kx_tuple_wt, kx_list_wt, kx_int_wt, kx_bool_wt, kx_str_wt, ix_wt, nx_wt, kx_tuple_rw, kx_list_rw, kx_int_rw, kx_bool_rw, kx_str_rw, ix_rw, nx_rw, it_enm_rw, it_enm_l, it_enm_t, in_modes, in_kinds, cut1, b_all, iv_rw, iv_frs, bl_rw, bl_frs, eq_fr, vw_fr, vw_frs, vw_am, vw_rd, vw_fW, vw_t, vw_rw, vv_non, isn_non, isi_non, vv_bl, isn_bl, isi_bl, vv_int, isn_int, isi_int, vv_str, isn_str, isi_str, vv_tup, isn_tup, isi_tup, vv_lst, isn_lst, isi_lst, vv_obj, isn_obj, isi_obj, vv_exc, isn_exc, vv_scr, isn_scr, kd_int_non, kd_int_bl, kd_int_int, kd_int_str, kd_int_tup, kd_int_lst, kd_int_obj, kd_bool_non, kd_bool_bl, kd_bool_int, kd_bool_str, kd_bool_tup, kd_bool_lst, kd_bool_obj, kd_str_non, kd_str_bl, kd_str_int, kd_str_str, kd_str_tup, kd_str_lst, kd_str_obj, kd_tuple_non, kd_tuple_bl, kd_tuple_int, kd_tuple_str, kd_tuple_tup, kd_tuple_lst, kd_tuple_obj, kd_list_non, kd_list_bl, kd_list_int, kd_list_str, kd_list_tup, kd_list_lst, kd_list_obj, cmp_lt, cmp_le, cmp_gt, cmp_ge, cmp_eq, cmp_ne, cmp_inn, cmp_nin, b_lenl, b_lent, b_lens, b_inti, b_abs, b_max2, b_min2, b_tupl, b_tupt, b_lstl, b_lstt, b_lsts, b_lr1, b_strs, b_stri, dw_nil, dw_cons, au_add, au_sub, ie_non_non, ie_non_int, ie_non_bl, ie_non_str, ie_int, ie_var, ie_bin, ie_neg, sl_l, sl_t, sl_ln, sl_tn, sl_lb, fo0, fo1, fo2, fo3, io, kdi, Mo.e1, Mo.e2, Mo.e3, Kn.e1, Kn.e2, Kn.e3, List.append_nil, List.cons_append, List.nil_append, List.replicate, Nat.reduceAdd, Nat.reduceSub, Nat.reduceLeDiff, Nat.reduceEqDiff,
  true_and, and_true, if_true, if_false, decide_eq_true_eq, Bool.not_eq_true', decide_eq_false_iff_not, Bool.or_false, Bool.or_true, Bool.false_or, Bool.true_or, Bool.not_true, Bool.not_false, reduceCtorEq, ite_true, ite_false, Bool.false_eq_true, forall_const, eq_self, decide_true, decide_false, List.contains_cons, List.contains_nil, List.elem_cons, beq_self_eq_true, ne_eq, not_true_eq_false, not_false_eq_true])
local macro_rules | `(tactic| walk_at "st") => `(tactic| ((try refine z_cons ?_); walk_at "ru"))
local macro_rules | `(tactic| walk_at "to") => `(tactic| (refine z_to ?t ?h (fun K hK => ?q1) ?q2))
section
variable {n : Nat} {h : Hw} {P : KW} {E : XW} {w : Wb} {A : Am}
theorem vb_mul2 {i : Nat} {s : Int × Int} {x : Int × (Int × Int)} (v : VB i s) (hi : i ≤ 100) (hx : x.1.natAbs ≤ 2 ^ 64) (hp : PB x.2) :
    (s.1.natAbs < 2 ^ 400000 ∧ s.2.natAbs < 2 ^ 400000 ∧ x.2.2.natAbs < 2 ^ 400000) ∧ (x.1.natAbs < 2 ^ 400000 ∧ x.2.1.natAbs < 2 ^ 400000) ∧ (x.1 * x.2.1).natAbs < 2 ^ 400000 := by
  obtain ⟨v1, v2, v3⟩ := v
  obtain ⟨p1, p2, p3⟩ := hp
  refine ⟨⟨big v1 (by omega), big v3 (by omega), big p3 (by decide)⟩, ⟨big hx (by decide), big p1 (by decide)⟩, ?_⟩
  have : (x.1 * x.2.1).natAbs ≤ 2 ^ (64 + 600) := by rw [Int.natAbs_mul, Nat.pow_add]; exact Nat.mul_le_mul hx p1
  exact big this (by decide)
theorem eq_ff {p s : Int × Int} {K : Bool → Prop} : eqW (frW p) (frW s) K = K (decide (p = s)) := by
  obtain ⟨c, d⟩ := s
  exact eq_fr
theorem mkF_id {p : Int × Int} (h : FrOk p) : mkF p.1 p.2 = p := by
  unfold mkF
  rw [h.2]
  simp
theorem pb_den {p : Int × Int} (h : PB p) : p.2.natAbs < 2 ^ 8999 := Nat.lt_of_le_of_lt h.2.2 (Nat.pow_lt_pow_right (by decide) (by omega))
theorem s_is_frac {p : Int × Int} (hp : FrOk p) (hb : PB p) (q : P (.bl true) h) : callD K04.T (n + 3) "_law_is_frac" [frW p] h P E := by
  refine c__law_is_frac ?_
  have e0 : frW p = .tup [.int p.1, .int p.2] := rfl
  refine z_to [some (frW p), none] h (fun K hK => ?_) ?_
  · walk_at "ru"
    rw [e0]
    walk_at "ru"
    exact hK
  refine z_seq (fun τ h' => h' = h ∧ ∃ o1, τ = [some (frW p), o1]) (fun K hK => ?_) ?_
  · walk_at "ru"
    rw [e0]
    walk_at "ru"
    refine forL_inv (fun i τ h' => h' = h ∧ ∃ o1, τ = [some (frW p), o1]) ⟨rfl, _, rfl⟩ ?_ (fun τ h' i => ⟨trivial, hK _ _ i⟩)
    rintro i τ h' x hx ⟨rfl, o1, rfl⟩
    have ex : ∃ y : Int, x = .int y := by
      match i, hx with
      | 0, hx => exact ⟨_, (Option.some.inj hx).symm⟩
      | 1, hx => exact ⟨_, (Option.some.inj hx).symm⟩
      | _ + 2, hx => simp at hx
    obtain ⟨y, ex⟩ := ex
    subst ex
    refine ⟨trivial, ?_⟩
    walk_at "ru"
    intro K hK
    walk_at "st"
    exact hK _ _ ⟨rfl, _, rfl⟩
  rintro τ h' ⟨rfl, o1, rfl⟩
  walk_at "st"
  have d0 : 0 < p.2 := by have := hp.1; omega
  rw [if_pos d0]
  refine s_frac d0 (pb_den hb) ?_
  rw [mkF_id hp]
  walk_at "ru"
  rw [eq_ff]
  simpa using q
def B2 (x : Int) : Prop := x.natAbs ≤ 2 ^ 2000
theorem B2.mul {x y : Int} {K : W → Prop} (hx : B2 x) (hy : B2 y) : binW .mul (.int x) (.int y) K = K (.int (x * y)) := mul_b (big hx (by decide)) (big hy (by decide))
theorem PB.b1 {p : Int × Int} (h : PB p) : B2 p.1 := Nat.le_trans h.1 (Nat.pow_le_pow_right (by decide) (by omega))
theorem PB.b2 {p : Int × Int} (h : PB p) : B2 p.2 := Nat.le_trans h.2.2 (Nat.pow_le_pow_right (by decide) (by omega))
theorem stands_bd {s t : Int × Int} {r : Int} (hs : PB s) (ht : PB t) (hr : r.natAbs ≤ 2 ^ 64) : (s.1 * r).natAbs ≤ 2 ^ 664 ∧ (s.1 * r * t.2).natAbs ≤ 2 ^ 1264 ∧ (t.1 * s.2).natAbs ≤ 2 ^ 1200 ∧ (s.2 * t.2).natAbs ≤ 2 ^ 1200 ∧ (s.1 * r * t.2 + t.1 * s.2).natAbs ≤ 2 ^ 1265 := by
  have a1 : (s.1 * r).natAbs ≤ 2 ^ 664 := by
    rw [Int.natAbs_mul, show 664 = 600 + 64 by rfl, Nat.pow_add]
    exact Nat.mul_le_mul hs.1 hr
  have a2 : (s.1 * r * t.2).natAbs ≤ 2 ^ 1264 := by
    rw [Int.natAbs_mul, show 1264 = 664 + 600 by rfl, Nat.pow_add]
    exact Nat.mul_le_mul a1 ht.2.2
  have a3 : (t.1 * s.2).natAbs ≤ 2 ^ 1200 := by
    rw [Int.natAbs_mul, show 1200 = 600 + 600 by rfl, Nat.pow_add]
    exact Nat.mul_le_mul ht.1 hs.2.2
  have a4 : (s.2 * t.2).natAbs ≤ 2 ^ 1200 := by
    rw [Int.natAbs_mul, show 1200 = 600 + 600 by rfl, Nat.pow_add]
    exact Nat.mul_le_mul hs.2.2 ht.2.2
  refine ⟨a1, a2, a3, a4, ?_⟩
  have := Int.natAbs_add_le (s.1 * r * t.2) (t.1 * s.2)
  have e1 : 2 ^ 1200 ≤ 2 ^ 1264 := Nat.pow_le_pow_right (by decide) (by omega)
  have e2 : 2 ^ 1265 = 2 ^ 1264 * 2 := Nat.pow_succ ..
  generalize 2 ^ 1265 = M3 at *
  generalize 2 ^ 1264 = M2 at *
  generalize 2 ^ 1200 = M1 at *
  omega
/-- what a result stands for, as a fraction -/
def stF (s t : Int × Int) (r : Int) : Int × Int := mkF (s.1 * r * t.2 + t.1 * s.2) (s.2 * t.2)
theorem stF_ok {s t : Int × Int} {r : Int} (hs : PB s) (ht : PB t) (hr : r.natAbs ≤ 2 ^ 64) : B2 (stF s t r).1 ∧ B2 (stF s t r).2 ∧ 0 < (stF s t r).2 ∧ qv (stF s t r) = (r : Rat) * qv s + qv t := by
  obtain ⟨a1, a2, a3, a4, a5⟩ := stands_bd hs ht hr
  have d0 : 0 < s.2 * t.2 := Int.mul_pos (by have := hs.2.1; omega) (by have := ht.2.1; omega)
  have dn := mkF_den (a := s.1 * r * t.2 + t.1 * s.2) d0
  have nu := mkF_num (a := s.1 * r * t.2 + t.1 * s.2) d0
  refine ⟨Nat.le_trans nu (Nat.le_trans a5 (Nat.pow_le_pow_right (by decide) (by omega))), ?_, by unfold stF; omega, ?_⟩
  · refine Nat.le_trans ?_ (Nat.le_trans a4 (Nat.pow_le_pow_right (by decide) (by omega)))
    unfold stF
    omega
  · unfold stF
    rw [qv_mk d0]
    have h1 := cast_pos (show 0 < s.2 by have := hs.2.1; omega)
    have h2 := cast_pos (show 0 < t.2 by have := ht.2.1; omega)
    unfold qv
    rw [Rat.intCast_add, Rat.intCast_mul, Rat.intCast_mul, Rat.intCast_mul, Rat.intCast_mul]
    grind
theorem s_stands {s t : Int × Int} {r : Int} (hs : PB s) (ht : PB t) (hr : r.natAbs ≤ 2 ^ 64) (q : P (frW (stF s t r)) h) : callD K04.T (n + 3) "_law_stands" [frW s, frW t, .int r] h P E := by
  refine c__law_stands ?_
  obtain ⟨a1, a2, a3, a4, a5⟩ := stands_bd hs ht hr
  have br : B2 r := Nat.le_trans hr (Nat.pow_le_pow_right (by decide) (by omega))
  have c1 : B2 (s.1 * r) := Nat.le_trans a1 (Nat.pow_le_pow_right (by decide) (by omega))
  walk_at "st"
  simp only [B2.mul (PB.b1 hs) br, vv_int, B2.mul c1 (PB.b2 ht), B2.mul (PB.b1 ht) (PB.b2 hs), add_i, B2.mul (PB.b2 hs) (PB.b2 ht)]
  refine s_frac (Int.mul_pos (by have := hs.2.1; omega) (by have := ht.2.1; omega)) (Nat.lt_of_le_of_lt a4 (Nat.pow_lt_pow_right (by decide) (by omega))) ?_
  exact q
theorem s_most {p s : Int × Int} (h1 : B2 p.1) (h2 : B2 p.2) (h3 : B2 s.1) (h4 : B2 s.2) (q : P (.bl (decide (p.1 * s.2 ≤ s.1 * p.2))) h) : callD K04.T (n + 1) "_law_most" [frW p, frW s] h P E := by
  refine c__law_most ?_
  walk_at "st"
  simp only [B2.mul h1 h4, B2.mul h3 h2, vv_int, cmp_le]
  exact q
theorem s_are (wk : w.ok) (g : AmG w A) (q : P (.bl true) h) : callD K04.T (n + 4) "_law_are" [w.t, A.w] h P E := by
  refine c__law_are ?_
  have hl := wk.1.2
  have hn := wk.2.1.2
  have ok := g.ok
  have eA : A.w = .tup [frs A.lv, frs A.sc, frs A.sh] := rfl
  have pb := g.pb
  unfold Am.all at pb
  refine z_to [some w.t, some A.w, none, none, none, none, none, none] h (fun K hK => ?_) ?_
  · walk_at "ru"
    rw [eA]
    walk_at "ru"
    exact hK
  refine z_seq (fun τ h1 => h1 = h ∧ ∃ o3 o4, τ = [some w.t, some A.w, none, o3, o4, none, none, none]) (fun K hK => ?_) ?_
  · walk_at "ru"
    rw [show itrV h .zip [A.w, .lst [.int w.n, .int w.l, .int w.l]] = fun K => K (.lst [.tup [frs A.lv, .int w.n], .tup [frs A.sc, .int w.l], .tup [frs A.sh, .int w.l]]) from rfl]
    walk_at "ru"
    refine forL_inv (fun _ τ h1 => h1 = h ∧ ∃ o3 o4, τ = [some w.t, some A.w, none, o3, o4, none, none, none]) ⟨rfl, _, _, rfl⟩ ?_ (fun τ h1 i => ⟨trivial, hK _ _ i⟩)
    rintro i τ h1 x hx ⟨rfl, o3, o4, rfl⟩
    refine ⟨trivial, ?_⟩
    have key : ∃ xs : List (Int × Int), x = .tup [frs xs, .int (xs.length : Nat)] ∧ xs.length ≤ 6 ∧ ∀ p ∈ xs, FrOk p ∧ PB p := by
      match i, hx with
      | 0, hx => exact ⟨A.lv, by simpa [ok.nl] using hx.symm, by rw [ok.nl]; exact hn, fun p m => ⟨ok.fl p m, pb p (by simp [m])⟩⟩
      | 1, hx => exact ⟨A.sc, by simpa [ok.ns] using hx.symm, by rw [ok.ns]; omega, fun p m => ⟨(ok.fs p m).1, pb p (by simp [m])⟩⟩
      | 2, hx => exact ⟨A.sh, by simpa [ok.nh] using hx.symm, by rw [ok.nh]; omega, fun p m => ⟨ok.fh p m, pb p (by simp [m])⟩⟩
      | _ + 3, hx => simp at hx
    obtain ⟨xs, ex, hxl, hxo⟩ := key
    subst ex
    walk_at "ru"
    intro K hK
    walk_at "st"
    refine ⟨by rw [List.length_map]; exact Nat.le_trans hxl (by decide), lcL_fil xs frW frW (fun _ => false) trivial (fun p m => ?_) ?_⟩
    · walk_at "ru"
      intro K B _ qB
      refine s_is_frac (hxo p m).1 (hxo p m).2 ?_
      walk_at "ru"
      exact qB
    rw [List.filter_eq_nil_iff.mpr (fun _ _ => by simp), List.map_nil, List.append_nil]
    walk_at "ru"
    exact hK _ _ ⟨rfl, _, _, rfl⟩
  rintro τ h1 ⟨rfl, o3, o4, rfl⟩
  refine z_seq (fun τ h2 => h2 = h1 ∧ ∃ o2 o3 o4 o5 o6, τ = [some w.t, some A.w, o2, o3, o4, o5, o6, none]) (fun K hK => ?_) ?_
  · walk_at "ru"
    refine ⟨by omega, ?_⟩
    rw [rng0_eq]
    refine forL_inv (fun _ τ h2 => h2 = h1 ∧ ∃ o2 o3 o4 o5 o6, τ = [some w.t, some A.w, o2, o3, o4, o5, o6, none]) ⟨rfl, _, _, _, _, _, rfl⟩ ?_ (fun τ h1 i => ⟨trivial, hK _ _ i⟩)
    rintro k τ h2 x hx ⟨rfl, o2, o3, o4, o5, o6, rfl⟩
    obtain ⟨hk, ex⟩ := rng_get hx
    subst ex
    refine ⟨trivial, ?_⟩
    walk_at "ru"
    intro K hK
    obtain ⟨p, ep⟩ : ∃ p, A.sc[k]? = some p := ⟨_, List.getElem?_eq_getElem (by rw [ok.ns]; exact hk)⟩
    obtain ⟨r, er⟩ : ∃ p, A.sh[k]? = some p := ⟨_, List.getElem?_eq_getElem (by rw [ok.nh]; exact hk)⟩
    have mp : p ∈ A.sc := List.mem_of_getElem? ep
    obtain ⟨_, s1, s2⟩ := ok.fs p mp
    walk_at "st"
    rw [at_frs (by omega) (by simpa using ep), at_frs (by omega) (by simpa using er)]
    walk_at "st"
    simp only [mul_l (show -(2 ^ 64) < (4 : Int) ∧ (4 : Int) < 2 ^ 64 by decide)]
    walk_at "ru"
    rw [if_neg (show ¬ 4 * p.1 < p.2 by omega), if_neg (show ¬ 4 * p.2 < p.1 by omega)]
    refine z_to [some w.t, some A.w, some (.int k), o3, o4, some (frW p), some (frW r), none] h2 (fun K hK => ?_) ?_
    · walk_at "ru"
      by_cases c1 : p = (1, 1)
      · simp only [c1]
        walk_at "ru"
        subst c1
        exact hK
      · have hs : hasScale w.m k = true := by
          cases hs : hasScale w.m k with
          | true => rfl
          | false =>
            have z := ok.k1 k hk hs
            rw [ep] at z
            exact (c1 (Option.some.inj z)).elim
        unfold hasScale at hs
        simp only [Bool.and_eq_true, decide_eq_true_eq] at hs
        rw [if_neg (show ¬ (k : Int) = 0 by omega), if_neg hs.2]
        simpa using hK
    · walk_at "st"
      by_cases c1 : r = (0, 1)
      · subst c1
        simp only [decide_true]
        walk_at "ru"
        exact hK _ _ ⟨rfl, _, _, _, _, _, rfl⟩
      · have hs : hasShift w.m k = true := by
          cases hs : hasShift w.m k with
          | true => rfl
          | false =>
            have z := ok.k2 k hk hs
            rw [er] at z
            exact (c1 (Option.some.inj z)).elim
        unfold hasShift at hs
        simp only [Bool.and_eq_true, decide_eq_true_eq] at hs
        rw [if_neg (show ¬ (k : Int) = 0 by omega), if_neg hs.2]
        have := hK _ _ ⟨rfl, some (.int k), o3, o4, some (frW p), some (frW r), rfl⟩
        simpa using this
  rintro τ h2 ⟨rfl, o2, o3, o4, o5, o6, rfl⟩
  walk_at "st"
  exact q
end
end K04
end
section
set_option Elab.async false
set_option linter.all false
set_option maxRecDepth 100000
set_option maxHeartbeats 2000000
namespace K04
open PySem Ri.Z Lb Lm
open Ri (Cl W O Hw hset hdel En KW XW Calls Bop Cop Kd Blt Met ItK Tg Ex Sm Df slot put clr clrs bindT bindTs vw toD toDs lim MulOk rep binW eqD eqW flatW eqF inW cmpW isNon atW cutL slW revW kdW isiOk intsOf prsOf blsOf strsOf leP rngW bltW metTy metW fmtV enmW zipW seqW itrW itrV itsOf fldW isCls frzW delW isEnd initOf nmOf lcL lcL2 wpE wpEs wpJ Dn puts setW atLI augW storeF lstAt isLoL insAt handle forL whlP wpS wpSs wpHs start wpF callD)
local macro_rules | `(tactic| walk_at "ru") => `(tactic| try simp only [r_var, r_int, r_bl, r_non, r_str, r_cst, r_bin, r_neg, r_cmp, r_isN, r_chn, r_and, r_or, r_not, r_ite, r_tup, r_lst, r_sub, r_sli, r_rev, r_call, r_new, r_mth, r_prp, r_eqo, r_fld, r_blt, r_met, r_fmt, r_isi, r_itr, r_lcm, r_lcm2, r_frz, r_own, r_del, r_nil, r_cons, r_jn, r_jc,
  v_set, v_unp, v_par, v_setI, v_augI, v_aug, v_ext, v_setF, v_setII, v_setIN, v_ex, v_app, v_ins, v_revI, v_ret, v_retN, v_ite, v_whl, v_for, v_brk, v_pass, v_frz, v_nil, v_cons,
  okW_some, brW_bl, blW_bl, inW_int, okE_some, tpW_tup, lsW_lst, itW_lst, itW_loc, slot, put, puts, clr, clrs, bindT, bindTs, Option.bind_some, add_i, sub_i, mod_i, add_l, add_t, add_s, rep_l, pow_i, List.any_cons, List.any_nil, List.map_cons, List.map_nil, List.length_cons, List.length_nil,
  iv_seq_l, iv_seq_t, iv_seq_s, iv_rng1, iv_rng2, at_t0, at_t1, at_t2, at_t3, at_l0, at_l1, at_l2, eq_str, eq_int, eq_bl, eq_ll, vw_lW, iv_lW, bl_fW, bl_lW, bt_lW, ln_lW, iv_zipL, wt0, wt1, wt2, wt3, frw0, frw1, am0, am1, am2, blist_frs, eq_nn, kx_tuple_fr, kx_list_fr, kx_int_fr, kx_bool_fr, kx_str_fr, ix_fr, nx_fr, kx_tuple_frs, kx_list_frs, kx_int_frs, kx_bool_frs, kx_str_frs, ix_frs, nx_frs, kx_tuple_am, kx_list_am, kx_int_am, kx_bool_am, kx_str_am, ix_am, nx_am, kx_tuple_rd, kx_list_rd, kx_int_rd, kx_bool_rd, kx_str_rd, ix_rd, nx_rd, kx_tuple_fW, kx_list_fW, kx_int_fW, kx_bool_fW, kx_str_fW, ix_fW, nx_fW, kx_tuple_wt, kx_list_wt, kx_int_wt, kx_bool_wt, kx_str_wt, ix_wt, nx_wt, kx_tuple_rw, kx_list_rw, kx_int_rw, kx_bool_rw, kx_str_rw, ix_rw, nx_rw, it_enm_rw, it_enm_l, it_enm_t, in_modes, in_kinds, cut1, b_all, iv_rw, iv_frs, bl_rw, bl_frs, eq_fr, vw_fr, vw_frs, vw_am, vw_rd, vw_fW, vw_t, vw_rw, vv_non, isn_non, isi_non, vv_bl, isn_bl, isi_bl, vv_int, isn_int, isi_int, vv_str, isn_str, isi_str, vv_tup, isn_tup, isi_tup, vv_lst, isn_lst, isi_lst, vv_obj, isn_obj, isi_obj, vv_exc, isn_exc, vv_scr, isn_scr, kd_int_non, kd_int_bl, kd_int_int, kd_int_str, kd_int_tup, kd_int_lst, kd_int_obj, kd_bool_non, kd_bool_bl, kd_bool_int, kd_bool_str, kd_bool_tup, kd_bool_lst, kd_bool_obj, kd_str_non, kd_str_bl, kd_str_int, kd_str_str, kd_str_tup, kd_str_lst, kd_str_obj, kd_tuple_non, kd_tuple_bl, kd_tuple_int, kd_tuple_str, kd_tuple_tup, kd_tuple_lst, kd_tuple_obj, kd_list_non, kd_list_bl, kd_list_int, kd_list_str, kd_list_tup, kd_list_lst, kd_list_obj, cmp_lt, cmp_le, cmp_gt, cmp_ge, cmp_eq, cmp_ne, cmp_inn, cmp_nin, b_lenl, b_lent, b_lens, b_inti, b_abs, b_max2, b_min2, b_tupl, b_tupt, b_lstl, b_lstt, b_lsts, b_lr1, b_strs, b_stri, dw_nil, dw_cons, au_add, au_sub, ie_non_non, ie_non_int, ie_non_bl, ie_non_str, ie_int, ie_var, ie_bin, ie_neg, sl_l, sl_t, sl_ln, sl_tn, sl_lb, fo0, fo1, fo2, fo3, io, kdi, Mo.e1, Mo.e2, Mo.e3, Kn.e1, Kn.e2, Kn.e3, List.append_nil, List.cons_append, List.nil_append, List.replicate, Nat.reduceAdd, Nat.reduceSub, Nat.reduceLeDiff, Nat.reduceEqDiff,
  true_and, and_true, if_true, if_false, decide_eq_true_eq, Bool.not_eq_true', decide_eq_false_iff_not, Bool.or_false, Bool.or_true, Bool.false_or, Bool.true_or, Bool.not_true, Bool.not_false, reduceCtorEq, ite_true, ite_false, Bool.false_eq_true, forall_const, eq_self, decide_true, decide_false, List.contains_cons, List.contains_nil, List.elem_cons, beq_self_eq_true, ne_eq, not_true_eq_false, not_false_eq_true])
local macro_rules | `(tactic| walk_at "st") => `(tactic| ((try refine z_cons ?_); walk_at "ru"))
local macro_rules | `(tactic| walk_at "to") => `(tactic| (refine z_to ?t ?h (fun K hK => ?q1) ?q2))
section
variable {n : Nat} {h : Hw} {P : KW} {E : XW} {w : Wb} {A : Am}
theorem getD_of {xs : List (Int × Int)} {i : Nat} {p : Int × Int} (e : xs[i]? = some p) : xs.getD i (0, 1) = p := by simp [List.getD, e]
theorem qv_n1 {a : Int} : qv (a, 1) = (a : Rat) := by
  unfold qv
  show (a : Rat) / ((1 : Int) : Rat) = _
  have : ((1 : Int) : Rat) = 1 := rfl
  rw [this]
  grind
theorem s_fit {b : Bool} (wk : w.ok) (g : AmG w A) (hb : b = true ↔ ∀ r ∈ w.rs, FitR A r) (q : P (.bl b) h) : callD K04.T (n + 5) "_law_fit" [w.t, A.w] h P E := by
  refine c__law_fit ?_
  have hl := wk.1.2
  have hn := wk.2.1.2
  have ok := g.ok
  have pb := g.pb
  unfold Am.all at pb
  walk_at "st"
  refine s_are wk g ?_
  walk_at "st"
  refine forL_inv (fun i τ h1 => h1 = h ∧ (∀ r ∈ w.rs.take i, FitR A r) ∧ ∃ o2 o3 o4 o5 o6 o7 o8, τ = [some w.t, some A.w, o2, o3, o4, o5, o6, o7, o8]) ⟨rfl, fun _ m => (nomatch m), _, _, _, _, _, _, _, rfl⟩ ?_ ?_
  · rintro i τ h1 x hx ⟨rfl, hf, o2, o3, o4, o5, o6, o7, o8, rfl⟩
    rw [List.getElem?_map] at hx
    obtain ⟨r, hr, ex⟩ := Option.map_eq_some_iff.mp hx
    subst ex
    have mr := List.mem_of_getElem? hr
    obtain ⟨r1, r2⟩ := wk.2.2.2 r mr
    refine ⟨trivial, ?_⟩
    unfold Rd.w
    walk_at "ru"
    intro K hK
    have bad : ¬ FitR A r → b = false := fun c => by
      cases e : b with
      | false => rfl
      | true => exact (c (hb.mp e r mr)).elim
    have good : FitR A r → ∀ r' ∈ w.rs.take (i + 1), FitR A r' := fun c r' m => by
      rw [List.take_add_one, hr] at m
      rcases List.mem_append.mp m with m | m
      · exact hf r' m
      · simp at m
        rw [m]; exact c
    obtain ⟨p, ep⟩ : ∃ p, A.lv[r.s]? = some p := ⟨_, List.getElem?_eq_getElem (by rw [ok.nl]; exact r1)⟩
    have pbp : PB p := pb p (by simp [List.mem_of_getElem? ep])
    have gp := getD_of ep
    walk_at "st"
    rw [at_frs (by omega) (by simpa using ep)]
    refine z_seq (fun τ h' => h' = h1 ∧ ∃ lo hi : Int × Int, ((B2 lo.1 ∧ B2 lo.2 ∧ 0 < lo.2) ∧ (B2 hi.1 ∧ B2 hi.2 ∧ 0 < hi.2) ∧ (FitR A r ↔ (qv lo ≤ qv p ∧ (r.k ≠ .above → qv p ≤ qv hi)))) ∧ τ = [some w.t, some A.w, some (.str r.k.s), some (.int r.s), some (.int r.a), some (.int r.b), some (frW p), some (frW lo), some (frW hi)]) (fun K hK => ?_) ?_
    · walk_at "ru"
      by_cases k : r.k = .told
      · simp only [k] at r2
        rw [if_pos k]
        walk_at "ru"
        refine hK _ _ ⟨rfl, (r.a, 1), (r.b, 1), ⟨⟨?_, ?_, Int.one_pos⟩, ⟨?_, ?_, Int.one_pos⟩, ?_⟩, rfl⟩
        · exact Nat.le_trans (show (r.a : Int).natAbs ≤ 2 ^ 64 by omega) (Nat.pow_le_pow_right (by decide) (by omega))
        · exact Nat.le_trans (show (1 : Int).natAbs ≤ 2 ^ 64 by omega) (Nat.pow_le_pow_right (by decide) (by omega))
        · exact Nat.le_trans (show (r.b : Int).natAbs ≤ 2 ^ 64 by omega) (Nat.pow_le_pow_right (by decide) (by omega))
        · exact Nat.le_trans (show (1 : Int).natAbs ≤ 2 ^ 64 by omega) (Nat.pow_le_pow_right (by decide) (by omega))
        · unfold FitR
          simp only [k, gp, qv_n1, ne_eq, reduceCtorEq, not_false_eq_true, forall_const]
      · have o3 : r.a < w.l ∧ r.b ≤ 999 := by
          cases hk : r.k <;> simp only [hk] at r2 k
          · exact r2
          · exact r2
          · exact (k trivial).elim
        obtain ⟨s, es⟩ : ∃ p, A.sc[r.a]? = some p := ⟨_, List.getElem?_eq_getElem (by rw [ok.ns]; exact o3.1)⟩
        obtain ⟨t, et⟩ : ∃ p, A.sh[r.a]? = some p := ⟨_, List.getElem?_eq_getElem (by rw [ok.nh]; exact o3.1)⟩
        have pbs : PB s := pb s (by simp [List.mem_of_getElem? es])
        have pbt : PB t := pb t (by simp [List.mem_of_getElem? et])
        rw [if_neg k]
        walk_at "st"
        rw [at_frs (by omega) (by simpa using es), at_frs (by omega) (by simpa using et)]
        refine s_stands pbs pbt (by omega) ?_
        walk_at "st"
        rw [at_frs (by omega) (by simpa using es), at_frs (by omega) (by simpa using et)]
        refine s_stands pbs pbt (by omega) ?_
        obtain ⟨b1, b2, b3, b4⟩ := stF_ok pbs pbt (r := (r.b : Int)) (by omega)
        obtain ⟨c1, c2, c3, c4⟩ := stF_ok pbs pbt (r := (r.b : Int) + 1) (by omega)
        refine hK _ _ ⟨rfl, _, _, ⟨⟨b1, b2, b3⟩, ⟨c1, c2, c3⟩, ?_⟩, rfl⟩
        have e1 : qv (stF s t (r.b : Int)) = stq A r.a ((r.b : Int) : Rat) := by
          rw [b4]
          unfold stq
          rw [getD_of es, getD_of et]
        have e2 : qv (stF s t ((r.b : Int) + 1)) = stq A r.a (((r.b + 1 : Nat) : Int) : Rat) := by
          rw [c4]
          unfold stq
          rw [getD_of es, getD_of et, show (((r.b + 1 : Nat) : Int)) = (r.b : Int) + 1 by omega]
        rw [e1, e2]
        unfold FitR
        cases hk : r.k <;> simp only [hk] at k
        · simp only [gp, ne_eq, reduceCtorEq, not_false_eq_true, forall_const]
        · simp only [gp, ne_eq, not_true_eq_false, false_implies, and_true]
        · exact (k trivial).elim
    rintro τ h' ⟨rfl, lo, hi, ⟨⟨b1, b2, b3⟩, ⟨c1, c2, c3⟩, fi⟩, rfl⟩
    have dp : 0 < p.2 := by have := pbp.2.1; omega
    walk_at "st"
    refine s_most b1 b2 (PB.b1 pbp) (PB.b2 pbp) ?_
    walk_at "ru"
    have l1 := qv_le b3 dp
    have l2 := qv_le dp c3
    by_cases d1 : lo.1 * p.2 ≤ p.1 * lo.2
    · simp only [d1, decide_true]
      walk_at "ru"
      by_cases d2 : r.k = .above
      · simp only [d2, decide_true]
        walk_at "ru"
        exact hK _ _ ⟨rfl, good (fi.mpr ⟨l1.mp d1, fun z => (z d2).elim⟩), _, _, _, _, _, _, _, rfl⟩
      · simp only [d2, decide_false]
        walk_at "ru"
        refine s_most (PB.b1 pbp) (PB.b2 pbp) c1 c2 ?_
        walk_at "ru"
        by_cases d3 : p.1 * hi.2 ≤ hi.1 * p.2
        · simp only [d3, decide_true]
          walk_at "ru"
          exact hK _ _ ⟨rfl, good (fi.mpr ⟨l1.mp d1, fun _ => l2.mp d3⟩), _, _, _, _, _, _, _, rfl⟩
        · simp only [d3, decide_false]
          walk_at "ru"
          rw [bad fun c => d3 (l2.mpr ((fi.mp c).2 d2))] at q
          exact q
    · simp only [d1, decide_false]
      walk_at "ru"
      rw [bad fun c => d1 (l1.mpr (fi.mp c).1)] at q
      exact q
  · rintro τ h1 ⟨rfl, hf, o2, o3, o4, o5, o6, o7, o8, rfl⟩
    refine ⟨trivial, ?_⟩
    walk_at "st"
    rw [List.length_map, List.take_length] at hf
    rw [hb.mpr hf] at q
    exact q
theorem zip_fr {fs : List (List Int)} {ws : List (Int × Int)} : zipW (fs.map lW) (ws.map frW) = (fs.zip ws).map fun x => .tup [lW x.1, frW x.2] := by
  induction fs generalizing ws with
  | nil => simp [zipW]
  | cons a fs ih =>
    cases ws with
    | nil => simp [zipW]
    | cons b ws => simp [zipW, ih]
/-- the shares of a row -/
theorem acc_step {N D d x o u S nu : Int} (h : N * d = S * D) (e : o * d = nu * u) : (N * u + x * o * D) * d = (S + x * nu) * (D * u) := by
  have : (N * u + x * o * D) * d = (N * d) * u + x * (o * d) * D := by grind
  rw [this, h, e]
  grind
theorem s_gives {ws du : List (Int × Int)} (wk : w.ok) (c : Cert w ws) (hd : du = (-1, 1) :: (List.range (w.n + 2 * w.l)).map fun _ => (0, 1)) (q : P (.bl true) h) : callD K04.T (n + 4) "_law_gives" [w.t, frs ws, .lst (du.map frW)] h P E := by
  refine c__law_gives ?_
  obtain ⟨nu, d, d0, ews, hnn, hpb, hsum⟩ := c
  have lf := forms_len wk
  have lw : ws.length = w.forms.length := by rw [ews]; simp
  have hl := wk.1.2
  have hn := wk.2.1.2
  have ld : du.length = w.n + 2 * w.l + 1 := by rw [hd]; simp
  walk_at "st"
  refine s_lforms wk ?_
  walk_at "st"
  rw [lw, List.length_map]
  walk_at "st"
  refine ⟨by rw [List.length_map, lw]; exact Nat.le_trans lf (by decide), ?_⟩
  refine lcL_fil ws frW frW (fun _ => false) trivial (fun p m => ?_) ?_
  · have hp := hpb p m
    have fo : FrOk p ∧ 0 ≤ p.1 := by
      rw [ews] at m
      obtain ⟨t, mt, e⟩ := List.mem_map.mp m
      rw [← e]
      exact ⟨mkF_ok d0, (mkF_sign d0).2.mpr (hnn t (List.mem_range.mp mt))⟩
    walk_at "ru"
    intro K B _ qB
    refine s_is_frac fo.1 hp ?_
    walk_at "ru"
    rw [if_neg (show ¬ p.1 < 0 by have := fo.2; omega)]
    exact qB
  rw [List.filter_eq_nil_iff.mpr (fun _ _ => by simp), List.map_nil, List.append_nil]
  walk_at "st"
  refine z_seq (fun τ h1 => h1 = h ∧ ∃ o4 o5 o6 o7 o8, τ = [some w.t, some (frs ws), some (.lst (du.map frW)), some (.lst (w.forms.map lW)), o4, o5, o6, o7, o8, none]) (fun K hK => ?_) ?_
  · walk_at "ru"
    try rw [List.length_map, ld]
    refine ⟨by omega, ?_⟩
    rw [rng0_eq]
    refine forL_inv (fun _ τ h1 => h1 = h ∧ ∃ o4 o5 o6 o7 o8, τ = [some w.t, some (frs ws), some (.lst (du.map frW)), some (.lst (w.forms.map lW)), o4, o5, o6, o7, o8, none]) ⟨rfl, _, _, _, _, _, rfl⟩ ?_ (fun τ h1 i => ⟨trivial, hK _ _ i⟩)
    rintro cc τ h1 x hx ⟨rfl, o4, o5, o6, o7, o8, rfl⟩
    obtain ⟨hc, ex⟩ := rng_get hx
    subst ex
    refine ⟨trivial, ?_⟩
    walk_at "ru"
    intro K hK
    walk_at "st"
    refine z_seq (fun τ h' => h' = h1 ∧ ∃ (N D : Int) (o7 o8 : Option W), (VB w.forms.length (N, D) ∧ N * d = (sm w.forms.length fun t => nu t * (w.forms.getD t []).getD cc 0) * D) ∧ τ = [some w.t, some (frs ws), some (.lst (du.map frW)), some (.lst (w.forms.map lW)), some (.int (cc : Int)), some (.int N), some (.int D), o7, o8, none]) (fun K hK => ?_) ?_
    · walk_at "ru"
      rw [show itrV h1 .zip [.lst (w.forms.map lW), frs ws] = fun K => K (.lst (zipW (w.forms.map lW) (ws.map frW))) from rfl, zip_fr]
      walk_at "ru"
      refine forL_inv (fun i τ h' => h' = h1 ∧ ∃ (N D : Int) (o7 o8 : Option W), (VB i (N, D) ∧ N * d = (sm i fun t => nu t * (w.forms.getD t []).getD cc 0) * D) ∧ τ = [some w.t, some (frs ws), some (.lst (du.map frW)), some (.lst (w.forms.map lW)), some (.int (cc : Int)), some (.int N), some (.int D), o7, o8, none]) ?_ ?_ ?_
      · refine ⟨rfl, 0, 1, o7, o8, ⟨⟨?_, Int.le_refl 1, ?_⟩, ?_⟩, rfl⟩
        · show (0 : Int).natAbs ≤ _
          simp
        · show (1 : Int).natAbs ≤ 2 ^ 0
          decide
        · simp [sm]
      · rintro i τ h' x hx ⟨rfl, N, D, o7, o8, ⟨v, eq⟩, rfl⟩
        rw [List.getElem?_map] at hx
        obtain ⟨y, hy, ex⟩ := Option.map_eq_some_iff.mp hx
        subst ex
        refine ⟨trivial, ?_⟩
        obtain ⟨f, p⟩ := y
        have hz := List.getElem?_zip_eq_some.mp hy
        obtain ⟨hf, hp⟩ := hz
        have hf : w.forms[i]? = some f := hf
        have hp : ws[i]? = some p := hp
        have li : i < w.forms.length := by
          rcases Nat.lt_or_ge i w.forms.length with g | g
          · exact g
          · rw [List.getElem?_eq_none g] at hf; cases hf
        have mf := List.mem_of_getElem? hf
        have pbp := hpb p (List.mem_of_getElem? hp)
        obtain ⟨f1, f2⟩ := forms_ok wk f mf
        have lc : cc < f.length := by rw [f1]; unfold Wb.len; omega
        have fx : (f.getD cc 0).natAbs ≤ 2 ^ 64 := by
          simp only [List.getD, List.getElem?_eq_getElem lc, Option.getD_some]
          have := f2 _ (List.getElem_mem lc)
          omega
        have ep : p.1 * d = nu i * p.2 := by
          rw [ews, List.getElem?_map, List.getElem?_range li] at hp
          have := Option.some.inj hp
          rw [← this]
          exact mkF_cross
        have eg : w.forms.getD i [] = f := by simp [List.getD, hf]
        have v2 := v.step (x := (f.getD cc 0, p)) fx pbp
        obtain ⟨⟨b1, b2, b3⟩, ⟨b4, b5⟩, b6⟩ := vb_mul2 (x := (f.getD cc 0, p)) v (by omega) fx pbp
        dsimp only at b1 b2 b3 b4 b5 b6
        walk_at "ru"
        intro K hK
        walk_at "st"
        simp only [at_lW (f := f) (i := (cc : Int)) (j := cc) rfl lc, mul_b b1 b3, vv_int, mul_b b4 b5, mul_b b6 b2]
        walk_at "st"
        simp only [mul_b b2 b3]
        refine hK _ _ ⟨rfl, _, _, _, _, ⟨v2, ?_⟩, rfl⟩
        show (N * p.2 + f.getD cc 0 * p.1 * D) * d = _ * (D * p.2)
        simp only [sm]
        rw [eg, Int.mul_comm (nu i)]
        exact acc_step eq ep
      · rintro τ h' ⟨rfl, N, D, o7, o8, v, rfl⟩
        refine ⟨trivial, hK _ _ ⟨rfl, N, D, o7, o8, ?_, rfl⟩⟩
        have e : ((w.forms.zip ws).map fun x => W.tup [lW x.1, frW x.2]).length = w.forms.length := by
          rw [List.length_map, List.length_zip, lw, Nat.min_self]
        rw [e] at v
        exact v
    rintro τ h' ⟨rfl, N, D, o7, o8, ⟨v, eq⟩, rfl⟩
    have hc' : cc < du.length := by rw [ld]; exact hc
    have ed : (du.map frW)[cc]? = some (frW (if cc = 0 then (-1, 1) else (0, 1))) := by
      rw [hd]
      cases cc with
      | zero => rfl
      | succ j =>
        have hj : j < w.n + 2 * w.l := by omega
        rw [List.map_cons, List.getElem?_cons_succ, List.getElem?_map, List.getElem?_map, List.getElem?_range hj, if_neg (by omega)]
        rfl
    rw [hsum cc hc] at eq
    walk_at "st"
    simp only [at_ln ed]
    walk_at "ru"
    have fin : N * (if cc = 0 then ((-1 : Int), (1 : Int)) else (0, 1)).2 = (if cc = 0 then ((-1 : Int), (1 : Int)) else (0, 1)).1 * D := by
      by_cases z : cc = 0
      · rw [if_pos z] at eq ⊢
        show N * 1 = -1 * D
        have : N * d = (-D) * d := by rw [eq]; grind
        have := Int.eq_of_mul_eq_mul_right (by omega) this
        omega
      · rw [if_neg z] at eq ⊢
        show N * 1 = 0 * D
        have : N * d = 0 * d := by rw [eq]; grind
        have := Int.eq_of_mul_eq_mul_right (by omega) this
        omega
    have s1 : -(2 ^ 64) < (if cc = 0 then ((-1 : Int), (1 : Int)) else (0, 1)).2 ∧ (if cc = 0 then ((-1 : Int), (1 : Int)) else (0, 1)).2 < 2 ^ 64 := by split <;> decide
    have s2 : -(2 ^ 64) < (if cc = 0 then ((-1 : Int), (1 : Int)) else (0, 1)).1 ∧ (if cc = 0 then ((-1 : Int), (1 : Int)) else (0, 1)).1 < 2 ^ 64 := by split <;> decide
    simp only [mul_r s1, mul_l s2, vv_int]
    walk_at "ru"
    simp only [fin, decide_true]
    walk_at "ru"
    exact hK _ _ ⟨rfl, _, _, _, _, _, rfl⟩
  rintro τ h1 ⟨rfl, o4, o5, o6, o7, o8, rfl⟩
  walk_at "st"
  exact q
theorem s_none {ws : List (Int × Int)} (wk : w.ok) (c : Cert w ws) (q : P (.bl true) h) : callD K04.T (n + 5) "_law_none" [w.t, frs ws] h P E := by
  refine c__law_none ?_
  have hl := wk.1.2
  have hn := wk.2.1.2
  have l20 : 20 ≤ lim := by decide
  walk_at "st"
  rw [mul_l (by decide)]
  walk_at "ru"
  have e : ((w.n : Int) + 2 * w.l).toNat = w.n + 2 * w.l := by omega
  rw [e, rep_frs]
  refine ⟨by omega, ?_⟩
  simp only [List.length_map, List.length_range]
  refine ⟨by omega, ?_⟩
  have e2 : (W.tup [.int (-1), .int 1] :: ((List.range (w.n + 2 * w.l)).map fun _ => ((0 : Int), (1 : Int))).map frW) = ((-1, 1) :: (List.range (w.n + 2 * w.l)).map fun _ => ((0 : Int), (1 : Int))).map frW := rfl
  first
    | rw [e2]
    | (simp only [List.cons_append, List.nil_append]; rw [e2])
  exact s_gives wk c rfl q
end
end K04
end
section
set_option Elab.async false
set_option linter.all false
set_option maxRecDepth 100000
set_option maxHeartbeats 1000000
namespace K04
open PySem Ri.Z Lb
open Ri (Cl W O Hw hset hdel En KW XW Calls Bop Cop Kd Blt Met ItK Tg Ex Sm Df slot put clr clrs bindT bindTs vw toD toDs lim MulOk rep binW eqD eqW flatW eqF inW cmpW isNon atW cutL slW revW kdW isiOk intsOf prsOf blsOf strsOf leP rngW bltW metTy metW fmtV enmW zipW seqW itrW itrV itsOf fldW isCls frzW delW isEnd initOf nmOf lcL lcL2 wpE wpEs wpJ Dn puts setW atLI augW storeF lstAt isLoL insAt handle forL whlP wpS wpSs wpHs start wpF callD)
local macro_rules | `(tactic| walk_at "ru") => `(tactic| try simp only [r_var, r_int, r_bl, r_non, r_str, r_cst, r_bin, r_neg, r_cmp, r_isN, r_chn, r_and, r_or, r_not, r_ite, r_tup, r_lst, r_sub, r_sli, r_rev, r_call, r_new, r_mth, r_prp, r_eqo, r_fld, r_blt, r_met, r_fmt, r_isi, r_itr, r_lcm, r_lcm2, r_frz, r_own, r_del, r_nil, r_cons, r_jn, r_jc,
  v_set, v_unp, v_par, v_setI, v_augI, v_aug, v_ext, v_setF, v_setII, v_setIN, v_ex, v_app, v_ins, v_revI, v_ret, v_retN, v_ite, v_whl, v_for, v_brk, v_pass, v_frz, v_nil, v_cons,
  okW_some, brW_bl, blW_bl, inW_int, okE_some, tpW_tup, lsW_lst, itW_lst, itW_loc, slot, put, puts, clr, clrs, bindT, bindTs, Option.bind_some, add_i, sub_i, mod_i, add_l, add_t, add_s, rep_l, pow_i, List.any_cons, List.any_nil, List.map_cons, List.map_nil, List.length_cons, List.length_nil,
  iv_seq_l, iv_seq_t, iv_seq_s, iv_rng1, iv_rng2, at_t0, at_t1, at_t2, at_t3, at_l0, at_l1, at_l2, eq_str, eq_int, eq_bl, eq_ll, wt0, wt1, wt2, wt3, frw0, frw1, am0, am1, am2, blist_frs, eq_nn, kx_tuple_fr, kx_list_fr, kx_int_fr, kx_bool_fr, kx_str_fr, ix_fr, nx_fr, kx_tuple_frs, kx_list_frs, kx_int_frs, kx_bool_frs, kx_str_frs, ix_frs, nx_frs, kx_tuple_am, kx_list_am, kx_int_am, kx_bool_am, kx_str_am, ix_am, nx_am, kx_tuple_rd, kx_list_rd, kx_int_rd, kx_bool_rd, kx_str_rd, ix_rd, nx_rd, kx_tuple_fW, kx_list_fW, kx_int_fW, kx_bool_fW, kx_str_fW, ix_fW, nx_fW, kx_tuple_wt, kx_list_wt, kx_int_wt, kx_bool_wt, kx_str_wt, ix_wt, nx_wt, kx_tuple_rw, kx_list_rw, kx_int_rw, kx_bool_rw, kx_str_rw, ix_rw, nx_rw, it_enm_rw, it_enm_l, it_enm_t, in_modes, in_kinds, cut1, b_all, iv_rw, iv_frs, bl_rw, bl_frs, eq_fr, vw_fr, vw_frs, vw_am, vw_rd, vw_fW, vw_t, vw_rw, vv_non, isn_non, isi_non, vv_bl, isn_bl, isi_bl, vv_int, isn_int, isi_int, vv_str, isn_str, isi_str, vv_tup, isn_tup, isi_tup, vv_lst, isn_lst, isi_lst, vv_obj, isn_obj, isi_obj, vv_exc, isn_exc, vv_scr, isn_scr, kd_int_non, kd_int_bl, kd_int_int, kd_int_str, kd_int_tup, kd_int_lst, kd_int_obj, kd_bool_non, kd_bool_bl, kd_bool_int, kd_bool_str, kd_bool_tup, kd_bool_lst, kd_bool_obj, kd_str_non, kd_str_bl, kd_str_int, kd_str_str, kd_str_tup, kd_str_lst, kd_str_obj, kd_tuple_non, kd_tuple_bl, kd_tuple_int, kd_tuple_str, kd_tuple_tup, kd_tuple_lst, kd_tuple_obj, kd_list_non, kd_list_bl, kd_list_int, kd_list_str, kd_list_tup, kd_list_lst, kd_list_obj, cmp_lt, cmp_le, cmp_gt, cmp_ge, cmp_eq, cmp_ne, cmp_inn, cmp_nin, b_lenl, b_lent, b_lens, b_inti, b_abs, b_max2, b_min2, b_tupl, b_tupt, b_lstl, b_lstt, b_lsts, b_lr1, b_strs, b_stri, dw_nil, dw_cons, au_add, au_sub, ie_non_non, ie_non_int, ie_non_bl, ie_non_str, ie_int, ie_var, ie_bin, ie_neg, sl_l, sl_t, sl_ln, sl_tn, sl_lb, fo0, fo1, fo2, fo3, io, kdi, Mo.e1, Mo.e2, Mo.e3, Kn.e1, Kn.e2, Kn.e3, List.append_nil, List.cons_append, List.nil_append, List.replicate, Nat.reduceAdd, Nat.reduceSub, Nat.reduceLeDiff, Nat.reduceEqDiff,
  true_and, and_true, if_true, if_false, decide_eq_true_eq, Bool.not_eq_true', decide_eq_false_iff_not, Bool.or_false, Bool.or_true, Bool.false_or, Bool.true_or, Bool.not_true, Bool.not_false, reduceCtorEq, ite_true, ite_false, Bool.false_eq_true, forall_const, eq_self, decide_true, decide_false, List.contains_cons, List.contains_nil, List.elem_cons, beq_self_eq_true, ne_eq, not_true_eq_false, not_false_eq_true])
local macro_rules | `(tactic| walk_at "st") => `(tactic| ((try refine z_cons ?_); walk_at "ru"))
local macro_rules | `(tactic| walk_at "to") => `(tactic| (refine z_to ?t ?h (fun K hK => ?q1) ?q2))
section
variable {n : Nat} {h : Hw} {P : KW} {E : XW}
theorem rd_eq {k : Kn} {x y z : Int} (hx : 0 ≤ x) (hy : 0 ≤ y) (hz : 0 ≤ z) : W.tup [.str k.s, .int x, .int y, .int z] = (⟨k, x.toNat, y.toNat, z.toNat⟩ : Rd).w := by
  unfold Rd.w
  simp only [Int.toNat_of_nonneg hx, Int.toNat_of_nonneg hy, Int.toNat_of_nonneg hz]
theorem kn_at : W.str "at" = W.str (Kn.at_).s := by simp only [Kn.s]
theorem kn_above : W.str "above" = W.str (Kn.above).s := by simp only [Kn.s]
theorem kn_told : W.str "told" = W.str (Kn.told).s := by simp only [Kn.s]
theorem s_kind {a b : Addr} {ws : List W} (L : LH a b h) (h0 : ws ≠ []) (h1 : ws.length ≤ 1000) (hw : ∀ w ∈ ws, ∃ k : Kn, w = .str k.s) (q : ∀ (k : Kn) h', LH a b h' → Fr a b h h' → P (.str k.s) h') : callD T (n + 2) "_law_pick" [.loc a, .lst ws] h P E := by
  refine s_pick L h0 h1 fun w h' m L' f => ?_
  obtain ⟨k, e⟩ := hw w m
  subst e
  exact q k h' L' f
theorem kinds1 : ∀ w ∈ ([.str "at", .str "at", .str "at", .str "above", .str "told"] : List W), ∃ k : Kn, w = .str k.s := by
  intro w m
  simp only [List.mem_cons, List.not_mem_nil, or_false] at m
  rcases m with e | e | e | e | e <;> rw [e] <;> first | exact ⟨_, kn_at⟩ | exact ⟨_, kn_above⟩ | exact ⟨_, kn_told⟩
theorem kinds2 : ∀ w ∈ ([.str "at", .str "at", .str "above", .str "told"] : List W), ∃ k : Kn, w = .str k.s := by
  intro w m
  simp only [List.mem_cons, List.not_mem_nil, or_false] at m
  rcases m with e | e | e | e <;> rw [e] <;> first | exact ⟨_, kn_at⟩ | exact ⟨_, kn_above⟩ | exact ⟨_, kn_told⟩
end
end K04
end
section
set_option Elab.async false
set_option linter.all false
set_option maxRecDepth 100000
set_option maxHeartbeats 1000000
namespace K04
open PySem Ri.Z Lb
open Ri (Cl W O Hw hset hdel En KW XW Calls Bop Cop Kd Blt Met ItK Tg Ex Sm Df slot put clr clrs bindT bindTs vw toD toDs lim MulOk rep binW eqD eqW flatW eqF inW cmpW isNon atW cutL slW revW kdW isiOk intsOf prsOf blsOf strsOf leP rngW bltW metTy metW fmtV enmW zipW seqW itrW itrV itsOf fldW isCls frzW delW isEnd initOf nmOf lcL lcL2 wpE wpEs wpJ Dn puts setW atLI augW storeF lstAt isLoL insAt handle forL whlP wpS wpSs wpHs start wpF callD)
local macro_rules | `(tactic| walk_at "ru") => `(tactic| try simp only [r_var, r_int, r_bl, r_non, r_str, r_cst, r_bin, r_neg, r_cmp, r_isN, r_chn, r_and, r_or, r_not, r_ite, r_tup, r_lst, r_sub, r_sli, r_rev, r_call, r_new, r_mth, r_prp, r_eqo, r_fld, r_blt, r_met, r_fmt, r_isi, r_itr, r_lcm, r_lcm2, r_frz, r_own, r_del, r_nil, r_cons, r_jn, r_jc,
  v_set, v_unp, v_par, v_setI, v_augI, v_aug, v_ext, v_setF, v_setII, v_setIN, v_ex, v_app, v_ins, v_revI, v_ret, v_retN, v_ite, v_whl, v_for, v_brk, v_pass, v_frz, v_nil, v_cons,
  okW_some, brW_bl, blW_bl, inW_int, okE_some, tpW_tup, lsW_lst, itW_lst, itW_loc, slot, put, puts, clr, clrs, bindT, bindTs, Option.bind_some, add_i, sub_i, mod_i, add_l, add_t, add_s, rep_l, pow_i, List.any_cons, List.any_nil, List.map_cons, List.map_nil, List.length_cons, List.length_nil,
  iv_seq_l, iv_seq_t, iv_seq_s, iv_rng1, iv_rng2, at_t0, at_t1, at_t2, at_t3, at_l0, at_l1, at_l2, eq_str, eq_int, eq_bl, eq_ll, wt0, wt1, wt2, wt3, frw0, frw1, am0, am1, am2, blist_frs, eq_nn, kx_tuple_fr, kx_list_fr, kx_int_fr, kx_bool_fr, kx_str_fr, ix_fr, nx_fr, kx_tuple_frs, kx_list_frs, kx_int_frs, kx_bool_frs, kx_str_frs, ix_frs, nx_frs, kx_tuple_am, kx_list_am, kx_int_am, kx_bool_am, kx_str_am, ix_am, nx_am, kx_tuple_rd, kx_list_rd, kx_int_rd, kx_bool_rd, kx_str_rd, ix_rd, nx_rd, kx_tuple_fW, kx_list_fW, kx_int_fW, kx_bool_fW, kx_str_fW, ix_fW, nx_fW, kx_tuple_wt, kx_list_wt, kx_int_wt, kx_bool_wt, kx_str_wt, ix_wt, nx_wt, kx_tuple_rw, kx_list_rw, kx_int_rw, kx_bool_rw, kx_str_rw, ix_rw, nx_rw, it_enm_rw, it_enm_l, it_enm_t, in_modes, in_kinds, cut1, b_all, iv_rw, iv_frs, bl_rw, bl_frs, eq_fr, vw_fr, vw_frs, vw_am, vw_rd, vw_fW, vw_t, vw_rw, vv_non, isn_non, isi_non, vv_bl, isn_bl, isi_bl, vv_int, isn_int, isi_int, vv_str, isn_str, isi_str, vv_tup, isn_tup, isi_tup, vv_lst, isn_lst, isi_lst, vv_obj, isn_obj, isi_obj, vv_exc, isn_exc, vv_scr, isn_scr, kd_int_non, kd_int_bl, kd_int_int, kd_int_str, kd_int_tup, kd_int_lst, kd_int_obj, kd_bool_non, kd_bool_bl, kd_bool_int, kd_bool_str, kd_bool_tup, kd_bool_lst, kd_bool_obj, kd_str_non, kd_str_bl, kd_str_int, kd_str_str, kd_str_tup, kd_str_lst, kd_str_obj, kd_tuple_non, kd_tuple_bl, kd_tuple_int, kd_tuple_str, kd_tuple_tup, kd_tuple_lst, kd_tuple_obj, kd_list_non, kd_list_bl, kd_list_int, kd_list_str, kd_list_tup, kd_list_lst, kd_list_obj, cmp_lt, cmp_le, cmp_gt, cmp_ge, cmp_eq, cmp_ne, cmp_inn, cmp_nin, b_lenl, b_lent, b_lens, b_inti, b_abs, b_max2, b_min2, b_tupl, b_tupt, b_lstl, b_lstt, b_lsts, b_lr1, b_strs, b_stri, dw_nil, dw_cons, au_add, au_sub, ie_non_non, ie_non_int, ie_non_bl, ie_non_str, ie_int, ie_var, ie_bin, ie_neg, sl_l, sl_t, sl_ln, sl_tn, sl_lb, fo0, fo1, fo2, fo3, io, kdi, Mo.e1, Mo.e2, Mo.e3, Kn.e1, Kn.e2, Kn.e3, List.append_nil, List.cons_append, List.nil_append, List.replicate, Nat.reduceAdd, Nat.reduceSub, Nat.reduceLeDiff, Nat.reduceEqDiff,
  true_and, and_true, if_true, if_false, decide_eq_true_eq, Bool.not_eq_true', decide_eq_false_iff_not, Bool.or_false, Bool.or_true, Bool.false_or, Bool.true_or, Bool.not_true, Bool.not_false, reduceCtorEq, ite_true, ite_false, Bool.false_eq_true, forall_const, eq_self, decide_true, decide_false, List.contains_cons, List.contains_nil, List.elem_cons, beq_self_eq_true, ne_eq, not_true_eq_false, not_false_eq_true])
local macro_rules | `(tactic| walk_at "st") => `(tactic| ((try refine z_cons ?_); walk_at "ru"))
local macro_rules | `(tactic| walk_at "to") => `(tactic| (refine z_to ?t ?h (fun K hK => ?q1) ?q2))
section
variable {n : Nat} {h : Hw} {P : KW} {E : XW}
theorem s_any {a b : Addr} {l k : Nat} (L : LH a b h) (hl : 1 ≤ l ∧ l ≤ 4) (hk : 1 ≤ k ∧ k ≤ 6) (q : ∀ (r : Rd) h', r.ok l k → LH a b h' → Fr a b h h' → P r.w h') :
    callD T (n + 3) "_law_any" [.loc a, .int l, .int k] h P E := by
  refine c__law_any ?_
  walk_at "st"
  refine s_nx L (by omega) (by omega) fun v7 h1 v70 v71 L1 f1 => ?_
  walk_at "ru"
  refine s_nx L1 (by omega) (by omega) fun v8 h2 v80 v81 L2 f2 => ?_
  walk_at "ru"
  refine s_kind L2 (by simp) (by simp) kinds2 fun kn h3 L3 f3 => ?_
  walk_at "st"
  have f : Fr a b h h3 := (f1.trans f2).trans f3
  refine s_pick L3 (by simp) (by simp) fun w h4 hw L4 f4 => ?_
  have hc : ∃ c : Int, w = .int c ∧ 1 ≤ c ∧ c ≤ 1000 := by
    simp only [List.mem_cons, List.not_mem_nil, or_false] at hw
    rcases hw with e | e | e <;> subst e <;> exact ⟨_, rfl, by decide, by decide⟩
  obtain ⟨c, ew, c1, c2⟩ := hc
  subst ew
  walk_at "ru"
  refine s_nx L4 (by omega) (by omega) fun v h5 v0 v1 L5 f5 => ?_
  walk_at "st"
  have f' : Fr a b h h5 := (f.trans f4).trans f5
  by_cases c0 : kn = .told
  · rw [if_pos c0]
    walk_at "st"
    refine s_pick L5 (by simp) (by simp) fun w h6 hw L6 f6 => ?_
    have hc : ∃ c : Int, w = .int c ∧ 1 ≤ c ∧ c ≤ 9 := by
      simp only [List.mem_cons, List.not_mem_nil, or_false] at hw
      rcases hw with e | e | e <;> subst e <;> exact ⟨_, rfl, by decide, by decide⟩
    obtain ⟨d, ew, d1, d2⟩ := hc
    subst ew
    walk_at "ru"
    rw [mul_l (by omega)]
    walk_at "st"
    refine s_nx L6 (by decide) (by decide) fun y h7 y0 y1 L7 f7 => ?_
    walk_at "ru"
    have m0 : 0 ≤ v * d := Int.mul_nonneg v0 (by omega)
    have m1 : v * d ≤ 999 * 9 := Int.mul_le_mul (by omega) d2 (by omega) (by omega)
    generalize v * d = mx at *
    rw [kn_told, rd_eq v70 m0 (by omega)]
    refine q _ _ ⟨?_, ?_⟩ L7 ((f'.trans f6).trans f7)
    · show v7.toNat < k
      omega
    · show mx.toNat ≤ (mx + y).toNat ∧ (mx + y).toNat ≤ 9999
      omega
  · rw [if_neg c0]
    walk_at "st"
    rw [rd_eq v70 v80 v0]
    refine q _ _ ⟨?_, ?_⟩ L5 f'
    · show v7.toNat < k
      omega
    · cases kn with
      | told => exact (c0 rfl).elim
      | at_ => show v8.toNat < l ∧ v.toNat ≤ 999; omega
      | above => show v8.toNat < l ∧ v.toNat ≤ 999; omega
end
end K04
end
section
set_option Elab.async false
set_option linter.all false
set_option maxRecDepth 100000
set_option maxHeartbeats 1000000
namespace K04
open PySem Ri.Z Lb
open Ri (Cl W O Hw hset hdel En KW XW Calls Bop Cop Kd Blt Met ItK Tg Ex Sm Df slot put clr clrs bindT bindTs vw toD toDs lim MulOk rep binW eqD eqW flatW eqF inW cmpW isNon atW cutL slW revW kdW isiOk intsOf prsOf blsOf strsOf leP rngW bltW metTy metW fmtV enmW zipW seqW itrW itrV itsOf fldW isCls frzW delW isEnd initOf nmOf lcL lcL2 wpE wpEs wpJ Dn puts setW atLI augW storeF lstAt isLoL insAt handle forL whlP wpS wpSs wpHs start wpF callD)
local macro_rules | `(tactic| walk_at "ru") => `(tactic| try simp only [r_var, r_int, r_bl, r_non, r_str, r_cst, r_bin, r_neg, r_cmp, r_isN, r_chn, r_and, r_or, r_not, r_ite, r_tup, r_lst, r_sub, r_sli, r_rev, r_call, r_new, r_mth, r_prp, r_eqo, r_fld, r_blt, r_met, r_fmt, r_isi, r_itr, r_lcm, r_lcm2, r_frz, r_own, r_del, r_nil, r_cons, r_jn, r_jc,
  v_set, v_unp, v_par, v_setI, v_augI, v_aug, v_ext, v_setF, v_setII, v_setIN, v_ex, v_app, v_ins, v_revI, v_ret, v_retN, v_ite, v_whl, v_for, v_brk, v_pass, v_frz, v_nil, v_cons,
  okW_some, brW_bl, blW_bl, inW_int, okE_some, tpW_tup, lsW_lst, itW_lst, itW_loc, slot, put, puts, clr, clrs, bindT, bindTs, Option.bind_some, add_i, sub_i, mod_i, add_l, add_t, add_s, rep_l, pow_i, List.any_cons, List.any_nil, List.map_cons, List.map_nil, List.length_cons, List.length_nil,
  iv_seq_l, iv_seq_t, iv_seq_s, iv_rng1, iv_rng2, at_t0, at_t1, at_t2, at_t3, at_l0, at_l1, at_l2, eq_str, eq_int, eq_bl, eq_ll, wt0, wt1, wt2, wt3, frw0, frw1, am0, am1, am2, blist_frs, eq_nn, kx_tuple_fr, kx_list_fr, kx_int_fr, kx_bool_fr, kx_str_fr, ix_fr, nx_fr, kx_tuple_frs, kx_list_frs, kx_int_frs, kx_bool_frs, kx_str_frs, ix_frs, nx_frs, kx_tuple_am, kx_list_am, kx_int_am, kx_bool_am, kx_str_am, ix_am, nx_am, kx_tuple_rd, kx_list_rd, kx_int_rd, kx_bool_rd, kx_str_rd, ix_rd, nx_rd, kx_tuple_fW, kx_list_fW, kx_int_fW, kx_bool_fW, kx_str_fW, ix_fW, nx_fW, kx_tuple_wt, kx_list_wt, kx_int_wt, kx_bool_wt, kx_str_wt, ix_wt, nx_wt, kx_tuple_rw, kx_list_rw, kx_int_rw, kx_bool_rw, kx_str_rw, ix_rw, nx_rw, it_enm_rw, it_enm_l, it_enm_t, in_modes, in_kinds, cut1, b_all, iv_rw, iv_frs, bl_rw, bl_frs, eq_fr, vw_fr, vw_frs, vw_am, vw_rd, vw_fW, vw_t, vw_rw, vv_non, isn_non, isi_non, vv_bl, isn_bl, isi_bl, vv_int, isn_int, isi_int, vv_str, isn_str, isi_str, vv_tup, isn_tup, isi_tup, vv_lst, isn_lst, isi_lst, vv_obj, isn_obj, isi_obj, vv_exc, isn_exc, vv_scr, isn_scr, kd_int_non, kd_int_bl, kd_int_int, kd_int_str, kd_int_tup, kd_int_lst, kd_int_obj, kd_bool_non, kd_bool_bl, kd_bool_int, kd_bool_str, kd_bool_tup, kd_bool_lst, kd_bool_obj, kd_str_non, kd_str_bl, kd_str_int, kd_str_str, kd_str_tup, kd_str_lst, kd_str_obj, kd_tuple_non, kd_tuple_bl, kd_tuple_int, kd_tuple_str, kd_tuple_tup, kd_tuple_lst, kd_tuple_obj, kd_list_non, kd_list_bl, kd_list_int, kd_list_str, kd_list_tup, kd_list_lst, kd_list_obj, cmp_lt, cmp_le, cmp_gt, cmp_ge, cmp_eq, cmp_ne, cmp_inn, cmp_nin, b_lenl, b_lent, b_lens, b_inti, b_abs, b_max2, b_min2, b_tupl, b_tupt, b_lstl, b_lstt, b_lsts, b_lr1, b_strs, b_stri, dw_nil, dw_cons, au_add, au_sub, ie_non_non, ie_non_int, ie_non_bl, ie_non_str, ie_int, ie_var, ie_bin, ie_neg, sl_l, sl_t, sl_ln, sl_tn, sl_lb, fo0, fo1, fo2, fo3, io, kdi, Mo.e1, Mo.e2, Mo.e3, Kn.e1, Kn.e2, Kn.e3, List.append_nil, List.cons_append, List.nil_append, List.replicate, Nat.reduceAdd, Nat.reduceSub, Nat.reduceLeDiff, Nat.reduceEqDiff,
  true_and, and_true, if_true, if_false, decide_eq_true_eq, Bool.not_eq_true', decide_eq_false_iff_not, Bool.or_false, Bool.or_true, Bool.false_or, Bool.true_or, Bool.not_true, Bool.not_false, reduceCtorEq, ite_true, ite_false, Bool.false_eq_true, forall_const, eq_self, decide_true, decide_false, List.contains_cons, List.contains_nil, List.elem_cons, beq_self_eq_true, ne_eq, not_true_eq_false, not_false_eq_true])
local macro_rules | `(tactic| walk_at "st") => `(tactic| ((try refine z_cons ?_); walk_at "ru"))
local macro_rules | `(tactic| walk_at "to") => `(tactic| (refine z_to ?t ?h (fun K hK => ?q1) ?q2))
section
variable {n : Nat} {h : Hw} {P : KW} {E : XW}
theorem ite3 {a b c : Prop} [Decidable a] [Decidable b] [Decidable c] {X Y : Prop} : (if a then X else if b then X else if c then X else Y) = if a ∨ b ∨ c then X else Y := by
  by_cases ha : a <;> by_cases hb : b <;> by_cases hc : c <;> simp [ha, hb, hc]
theorem s_true {a b : Addr} {m : Mo} {l k : Nat} {A : Am} (L : LH a b h) (hA : DrA m l k A) (hl : 1 ≤ l ∧ l ≤ 4) (hk : 1 ≤ k ∧ k ≤ 6) (q : ∀ (r : Rd) h', r.ok l k → LH a b h' → Fr a b h h' → P r.w h') :
    callD T (n + 3) "_law_true" [.loc a, .int l, .int k, A.w] h P E := by
  refine c__law_true ?_
  walk_at "st"
  refine s_nx L (by omega) (by omega) fun v7 h1 v70 v71 L1 f1 => ?_
  walk_at "ru"
  refine s_nx L1 (by omega) (by omega) fun v8 h2 v80 v81 L2 f2 => ?_
  walk_at "ru"
  refine s_kind L2 (by simp) (by simp) kinds1 fun kn h3 L3 f3 => ?_
  walk_at "ru"
  obtain ⟨p, ep⟩ : ∃ p, A.lv[v7.toNat]? = some p := ⟨_, List.getElem?_eq_getElem (by rw [hA.ok.nl]; show v7.toNat < k; omega)⟩
  obtain ⟨s, es⟩ : ∃ p, A.sc[v8.toNat]? = some p := ⟨_, List.getElem?_eq_getElem (by rw [hA.ok.ns]; show v8.toNat < l; omega)⟩
  obtain ⟨t, et⟩ : ∃ p, A.sh[v8.toNat]? = some p := ⟨_, List.getElem?_eq_getElem (by rw [hA.ok.nh]; show v8.toNat < l; omega)⟩
  obtain ⟨_, ⟨p1, p2, p3, p4⟩, p5, p6⟩ := hA.lv p (List.mem_of_getElem? ep)
  obtain ⟨⟨_, s5, s6⟩, ⟨s1, s2, s3, s4⟩⟩ := hA.sc s (List.mem_of_getElem? es)
  obtain ⟨_, ⟨t1, t2, t3, t4⟩⟩ := hA.sh t (List.mem_of_getElem? et)
  obtain ⟨p1', p2'⟩ := p
  obtain ⟨s1', s2'⟩ := s
  obtain ⟨t1', t2'⟩ := t
  dsimp only at *
  have f : Fr a b h h3 := (f1.trans f2).trans f3
  walk_at "st"
  rw [at_frs v70 ep]
  walk_at "st"
  rw [at_frs v80 es, at_frs v80 et]
  walk_at "st"
  have sq : -(2 ^ 64) < p1' ∧ p1' < 2 ^ 64 := by omega
  have sq2 : -(2 ^ 64) < t1' ∧ t1' < 2 ^ 64 := by omega
  have sq3 : -(2 ^ 64) < s2' ∧ s2' < 2 ^ 64 := by omega
  have sq4 : -(2 ^ 64) < p2' ∧ p2' < 2 ^ 64 := by omega
  have sq5 : -(2 ^ 64) < s1' ∧ s1' < 2 ^ 64 := by omega
  simp only [mul_l sq, mul_l sq2, vv_int, sub_i, mul_r sq3]
  walk_at "st"
  simp only [mul_l sq4, vv_int, mul_r sq5]
  have d0 : 0 < p2' * t2' * s1' := Int.mul_pos (Int.mul_pos (by omega) (by omega)) (by omega)
  have d1 : (p2' * t2' * s1').natAbs < 2 ^ 8999 := by
    rw [Int.natAbs_mul, Int.natAbs_mul]
    have : p2'.natAbs * t2'.natAbs * s1'.natAbs ≤ 2 ^ 32 * 2 ^ 32 * 2 ^ 32 := Nat.mul_le_mul (Nat.mul_le_mul (by omega) (by omega)) (by omega)
    rw [← Nat.pow_add, ← Nat.pow_add] at this
    exact Nat.lt_of_le_of_lt this (Nat.pow_lt_pow_right (by decide) (by omega))
  rw [fdiv_i d0]
  refine ⟨d1, ?_⟩
  generalize (p1' * t2' - t1' * p2') * s2' / (p2' * t2' * s1') = v6
  walk_at "st"
  rw [ite3]
  split
  · rename_i c0
    walk_at "st"
    rw [fdiv_i (by omega)]
    refine ⟨cap_s (by omega) (by omega), ?_⟩
    have w0 : 0 ≤ p1' / p2' := Int.ediv_nonneg p5 (by omega)
    have w1 : p1' / p2' < 900 := Int.ediv_lt_of_lt_mul (by omega) (by omega)
    obtain ⟨wh, ew⟩ : ∃ wh, wh = p1' / p2' := ⟨_, rfl⟩
    rw [← ew] at w0 w1 ⊢
    clear ew
    refine z_cons ?_
    simp only [v_ret, r_tup, r_cons, r_str, r_var, slot, okW_some, r_blt, r_int, r_bin, r_call, r_nil, List.map_cons, List.map_nil]
    refine s_nx L3 (by decide) (by decide) fun x h4 x0 x1 L4 f4 => ?_
    walk_at "ru"
    refine s_nx L4 (by decide) (by decide) fun y h5 y0 y1 L5 f5 => ?_
    walk_at "ru"
    have m0 : 0 ≤ (if wh - x > 0 then wh - x else 0) := by split <;> omega
    have m1 : (if wh - x > 0 then wh - x else 0) ≤ wh := by split <;> omega
    generalize (if wh - x > 0 then wh - x else 0) = mx at *
    rw [kn_told, rd_eq v70 m0 (by omega)]
    refine q _ _ ⟨?_, ?_⟩ L5 ((f.trans f4).trans f5)
    · show v7.toNat < k
      omega
    · show mx.toNat ≤ (wh + 1 + y).toNat ∧ (wh + 1 + y).toNat ≤ 9999
      omega
  rename_i c0
  have c1 : ¬ v6 < 0 := fun z => c0 (.inr (.inl z))
  have c2 : ¬ 999 < v6 := fun z => c0 (.inr (.inr z))
  walk_at "st"
  by_cases c3 : kn = .above
  · rw [if_pos c3]
    walk_at "st"
    refine s_nx L3 (by decide) (by decide) fun x h4 x0 x1 L4 f4 => ?_
    walk_at "ru"
    have m0 : 0 ≤ (if v6 - x > 0 then v6 - x else 0) := by split <;> omega
    have m1 : (if v6 - x > 0 then v6 - x else 0) ≤ v6 := by split <;> omega
    generalize (if v6 - x > 0 then v6 - x else 0) = mx at *
    rw [kn_above, rd_eq v70 v80 m0]
    refine q _ _ ⟨?_, ?_⟩ L4 (f.trans f4)
    · show v7.toNat < k
      omega
    · show v8.toNat < l ∧ mx.toNat ≤ 999
      omega
  · rw [if_neg c3]
    walk_at "st"
    rw [kn_at, rd_eq v70 v80 (by omega)]
    refine q _ _ ⟨?_, ?_⟩ L3 f
    · show v7.toNat < k
      omega
    · show v8.toNat < l ∧ v6.toNat ≤ 999
      omega
end
end K04
end
section
set_option Elab.async false
set_option linter.all false
set_option maxRecDepth 100000
set_option maxHeartbeats 1000000
namespace K04
open PySem Ri.Z Lb
open Ri (Cl W O Hw hset hdel En KW XW Calls Bop Cop Kd Blt Met ItK Tg Ex Sm Df slot put clr clrs bindT bindTs vw toD toDs lim MulOk rep binW eqD eqW flatW eqF inW cmpW isNon atW cutL slW revW kdW isiOk intsOf prsOf blsOf strsOf leP rngW bltW metTy metW fmtV enmW zipW seqW itrW itrV itsOf fldW isCls frzW delW isEnd initOf nmOf lcL lcL2 wpE wpEs wpJ Dn puts setW atLI augW storeF lstAt isLoL insAt handle forL whlP wpS wpSs wpHs start wpF callD)
local macro_rules | `(tactic| walk_at "ru") => `(tactic| try simp only [r_var, r_int, r_bl, r_non, r_str, r_cst, r_bin, r_neg, r_cmp, r_isN, r_chn, r_and, r_or, r_not, r_ite, r_tup, r_lst, r_sub, r_sli, r_rev, r_call, r_new, r_mth, r_prp, r_eqo, r_fld, r_blt, r_met, r_fmt, r_isi, r_itr, r_lcm, r_lcm2, r_frz, r_own, r_del, r_nil, r_cons, r_jn, r_jc,
  v_set, v_unp, v_par, v_setI, v_augI, v_aug, v_ext, v_setF, v_setII, v_setIN, v_ex, v_app, v_ins, v_revI, v_ret, v_retN, v_ite, v_whl, v_for, v_brk, v_pass, v_frz, v_nil, v_cons,
  okW_some, brW_bl, blW_bl, inW_int, okE_some, tpW_tup, lsW_lst, itW_lst, itW_loc, slot, put, puts, clr, clrs, bindT, bindTs, Option.bind_some, add_i, sub_i, mod_i, add_l, add_t, add_s, rep_l, pow_i, List.any_cons, List.any_nil, List.map_cons, List.map_nil, List.length_cons, List.length_nil,
  iv_seq_l, iv_seq_t, iv_seq_s, iv_rng1, iv_rng2, at_t0, at_t1, at_t2, at_t3, at_l0, at_l1, at_l2, eq_str, eq_int, eq_bl, eq_ll, wt0, wt1, wt2, wt3, frw0, frw1, am0, am1, am2, blist_frs, eq_nn, kx_tuple_fr, kx_list_fr, kx_int_fr, kx_bool_fr, kx_str_fr, ix_fr, nx_fr, kx_tuple_frs, kx_list_frs, kx_int_frs, kx_bool_frs, kx_str_frs, ix_frs, nx_frs, kx_tuple_am, kx_list_am, kx_int_am, kx_bool_am, kx_str_am, ix_am, nx_am, kx_tuple_rd, kx_list_rd, kx_int_rd, kx_bool_rd, kx_str_rd, ix_rd, nx_rd, kx_tuple_fW, kx_list_fW, kx_int_fW, kx_bool_fW, kx_str_fW, ix_fW, nx_fW, kx_tuple_wt, kx_list_wt, kx_int_wt, kx_bool_wt, kx_str_wt, ix_wt, nx_wt, kx_tuple_rw, kx_list_rw, kx_int_rw, kx_bool_rw, kx_str_rw, ix_rw, nx_rw, it_enm_rw, it_enm_l, it_enm_t, in_modes, in_kinds, cut1, b_all, iv_rw, iv_frs, bl_rw, bl_frs, eq_fr, vw_fr, vw_frs, vw_am, vw_rd, vw_fW, vw_t, vw_rw, vv_non, isn_non, isi_non, vv_bl, isn_bl, isi_bl, vv_int, isn_int, isi_int, vv_str, isn_str, isi_str, vv_tup, isn_tup, isi_tup, vv_lst, isn_lst, isi_lst, vv_obj, isn_obj, isi_obj, vv_exc, isn_exc, vv_scr, isn_scr, kd_int_non, kd_int_bl, kd_int_int, kd_int_str, kd_int_tup, kd_int_lst, kd_int_obj, kd_bool_non, kd_bool_bl, kd_bool_int, kd_bool_str, kd_bool_tup, kd_bool_lst, kd_bool_obj, kd_str_non, kd_str_bl, kd_str_int, kd_str_str, kd_str_tup, kd_str_lst, kd_str_obj, kd_tuple_non, kd_tuple_bl, kd_tuple_int, kd_tuple_str, kd_tuple_tup, kd_tuple_lst, kd_tuple_obj, kd_list_non, kd_list_bl, kd_list_int, kd_list_str, kd_list_tup, kd_list_lst, kd_list_obj, cmp_lt, cmp_le, cmp_gt, cmp_ge, cmp_eq, cmp_ne, cmp_inn, cmp_nin, b_lenl, b_lent, b_lens, b_inti, b_abs, b_max2, b_min2, b_tupl, b_tupt, b_lstl, b_lstt, b_lsts, b_lr1, b_strs, b_stri, dw_nil, dw_cons, au_add, au_sub, ie_non_non, ie_non_int, ie_non_bl, ie_non_str, ie_int, ie_var, ie_bin, ie_neg, sl_l, sl_t, sl_ln, sl_tn, sl_lb, fo0, fo1, fo2, fo3, io, kdi, Mo.e1, Mo.e2, Mo.e3, Kn.e1, Kn.e2, Kn.e3, List.append_nil, List.cons_append, List.nil_append, List.replicate, Nat.reduceAdd, Nat.reduceSub, Nat.reduceLeDiff, Nat.reduceEqDiff,
  true_and, and_true, if_true, if_false, decide_eq_true_eq, Bool.not_eq_true', decide_eq_false_iff_not, Bool.or_false, Bool.or_true, Bool.false_or, Bool.true_or, Bool.not_true, Bool.not_false, reduceCtorEq, ite_true, ite_false, Bool.false_eq_true, forall_const, eq_self, decide_true, decide_false, List.contains_cons, List.contains_nil, List.elem_cons, beq_self_eq_true, ne_eq, not_true_eq_false, not_false_eq_true])
local macro_rules | `(tactic| walk_at "st") => `(tactic| ((try refine z_cons ?_); walk_at "ru"))
local macro_rules | `(tactic| walk_at "to") => `(tactic| (refine z_to ?t ?h (fun K hK => ?q1) ?q2))
section
variable {n : Nat} {h : Hw} {P : KW} {E : XW}
theorem md_1 : W.str "shift" = W.str (Mo.shift).s := by simp only [Mo.s]
theorem md_2 : W.str "scale" = W.str (Mo.scale).s := by simp only [Mo.s]
theorem md_3 : W.str "both" = W.str (Mo.both).s := by simp only [Mo.s]
theorem modes : ∀ w ∈ ([.str "shift", .str "scale", .str "both", .str "both"] : List W), ∃ k : Mo, w = .str k.s := by
  intro w m
  simp only [List.mem_cons, List.not_mem_nil, or_false] at m
  rcases m with e | e | e | e <;> rw [e] <;> first | exact ⟨_, md_1⟩ | exact ⟨_, md_2⟩ | exact ⟨_, md_3⟩
theorem insAt_map {rs : List Rd} {k : Int} {r : Rd} : insAt (rs.map Rd.w) k r.w = (insAt rs k r).map Rd.w := by
  simp [insAt, List.map_take, List.map_drop]
theorem insAt_mem {rs : List Rd} {k : Int} {r x : Rd} (m : x ∈ insAt rs k r) : x ∈ rs ∨ x = r := by
  unfold insAt at m
  simp only [List.mem_append, List.mem_singleton] at m
  rcases m with (m | m) | m
  · exact .inl (List.mem_of_mem_take m)
  · exact .inr m
  · exact .inl (List.mem_of_mem_drop m)
theorem insAt_len {rs : List Rd} {k : Int} {r : Rd} : (insAt rs k r).length = rs.length + 1 := by
  unfold insAt
  simp only [List.length_append, List.length_take, List.length_drop, List.length_singleton]
  omega
theorem s_web {a b : Addr} {l k many wild : Nat} (L : LH a b h) (hl : 1 ≤ l ∧ l ≤ 4) (hk : 1 ≤ k ∧ k ≤ 6) (hm : many + wild ≤ 12) (q : ∀ (w : Wb) (A : Am) h', w.ok → w.l = l → w.n = k → DrA w.m w.l w.n A → LH a b h' → Fr a b h h' → P (.tup [w.t, A.w]) h') :
    callD T (n + 4) "_law_web" [.loc a, .int l, .int k, .int many, .int wild] h P E := by
  refine c__law_web ?_
  walk_at "st"
  refine s_pick L (by simp) (by simp) fun w h1 hw L1 f1 => ?_
  obtain ⟨m, ew⟩ := modes w hw
  subst ew
  walk_at "st"
  refine s_amounts L1 hl.2 hk.2 fun A h2 hA L2 f2 => ?_
  walk_at "st"
  refine ⟨by omega, ?_, ?_⟩
  · rw [rng0_eq, List.length_map, List.length_range]
    exact Nat.le_trans (by omega : many ≤ 12) (by decide)
  rw [rng0_eq]
  refine lcL_invK (fun i acc h' => ∃ rs : List Rd, acc = rs.map Rd.w ∧ rs.length = i ∧ (∀ r ∈ rs, r.ok l k) ∧ LH a b h' ∧ Fr a b h h') ⟨[], rfl, rfl, fun _ m => (nomatch m), L2, f1.trans f2⟩ ?_ ?_
  · rintro i acc h' x hx ⟨rs, rfl, el, hr, L', f'⟩
    obtain ⟨hi, ex⟩ := rng_get hx
    subst ex
    refine ⟨trivial, ?_⟩
    walk_at "ru"
    intro K hK
    refine s_true L' hA hl hk fun r h3 ro L3 f3 => ?_
    refine hK _ _ ⟨rs ++ [r], by simp, by simp [el], fun x m => ?_, L3, f'.trans f3⟩
    rcases List.mem_append.mp m with m | m
    · exact hr x m
    · rw [List.mem_singleton.mp m]; exact ro
  rintro acc h3 ⟨rs, rfl, el, hr, L3, f3⟩
  refine ⟨trivial, fun c hc => ?_⟩
  have el : rs.length = many := by simpa using el
  obtain ⟨ca, cb⟩ := L3.none hc
  have hc0 : h c = none := by rw [← f3 c ca cb]; exact hc
  refine z_seq (fun τ h' => ∃ rs : List Rd, (rs.length = many + wild ∧ (∀ r ∈ rs, r.ok l k) ∧ LH a b h' ∧ h' c = some (.lst (rs.map Rd.w)) ∧ ∀ y, y ≠ a → y ≠ b → y ≠ c → h' y = h y) ∧ ∃ o8, τ = [some (.loc a), some (.int l), some (.int k), some (.int many), some (.int wild), some (.str m.s), some A.w, some (.loc c), o8]) (fun K hK => ?_) ?_
  · walk_at "ru"
    refine ⟨by omega, ?_⟩
    rw [rng0_eq]
    refine forL_inv (fun i τ h' => ∃ rs : List Rd, (rs.length = many + i ∧ (∀ r ∈ rs, r.ok l k) ∧ LH a b h' ∧ h' c = some (.lst (rs.map Rd.w)) ∧ ∀ y, y ≠ a → y ≠ b → y ≠ c → h' y = h y) ∧ ∃ o8, τ = [some (.loc a), some (.int l), some (.int k), some (.int many), some (.int wild), some (.str m.s), some A.w, some (.loc c), o8])
      ⟨rs, ⟨el, hr, L3.put ca cb, hset_same, fun y ya yb yc => by rw [hset_ne yc]; exact f3 y ya yb⟩, _, rfl⟩ ?_ ?_
    · rintro i τ h' x hx ⟨rs, ⟨el, hr, L', g, fr⟩, o8, rfl⟩
      obtain ⟨hi, ex⟩ := rng_get hx
      subst ex
      refine ⟨trivial, ?_⟩
      walk_at "ru"
      intro K hK
      walk_at "st"
      rw [isLoL_l g]
      refine ⟨rfl, ?_⟩
      simp only [vw_loc g]
      walk_at "ru"
      rw [List.length_map]
      refine s_nx L' (by omega) (by omega) fun v h4 v0 v1 L4 f4 => ?_
      refine s_any L4 hl hk fun r h5 ro L5 f5 => ?_
      have g5 : h5 c = some (.lst (rs.map Rd.w)) := f5.at (f4.at g ca cb) ca cb
      rw [lstAt_l g5]
      walk_at "ru"
      rw [List.length_map, insAt_map]
      refine ⟨⟨?_, v0, by omega⟩, ?_⟩
      · have : 13 < lim := by decide
        omega
      · refine hK _ _ ⟨insAt rs v r, ⟨by rw [insAt_len]; omega, fun x m => ?_, L5.put ca cb, hset_same, fun y ya yb yc => ?_⟩, _, rfl⟩
        · rcases insAt_mem m with m | m
          · exact hr x m
          · rw [m]; exact ro
        · rw [hset_ne yc, f5 y ya yb, f4 y ya yb]
          exact fr y ya yb yc
    · rintro τ h' ⟨rs, ⟨el, hr, L', g, fr⟩, o8, rfl⟩
      refine ⟨trivial, hK _ _ ⟨rs, ⟨?_, hr, L', g, fr⟩, _, rfl⟩⟩
      simpa using el
  rintro τ h4 ⟨rs, ⟨el, hr, L4, g, fr⟩, o8, rfl⟩
  walk_at "st"
  rw [frz_l g]
  walk_at "st"
  refine q ⟨m, l, k, rs⟩ A _ ⟨hl, hk, by show rs.length ≤ 12; omega, hr⟩ rfl rfl hA (L4.del ca cb) fun y ya yb => ?_
  unfold hdel
  by_cases yc : y = c
  · rw [if_pos yc, yc, hc0]
  · rw [if_neg yc]; exact fr y ya yb yc
end
end K04
end
section
set_option Elab.async false
set_option linter.all false
set_option maxRecDepth 100000
set_option maxHeartbeats 2000000
--SLOTS 2 10
namespace K04
open PySem Ri.Z Lb Lm
open Ri (Cl W O Hw hset hdel En KW XW Calls Bop Cop Kd Blt Met ItK Tg Ex Sm Df slot put clr clrs bindT bindTs vw toD toDs lim MulOk rep binW eqD eqW flatW eqF inW cmpW isNon atW cutL slW revW kdW isiOk intsOf prsOf blsOf strsOf leP rngW bltW metTy metW fmtV enmW zipW seqW itrW itrV itsOf fldW isCls frzW delW isEnd initOf nmOf lcL lcL2 wpE wpEs wpJ Dn puts setW atLI augW storeF lstAt isLoL insAt handle forL whlP wpS wpSs wpHs start wpF callD)
local macro_rules | `(tactic| walk_at "ru") => `(tactic| try simp only [r_var, r_int, r_bl, r_non, r_str, r_cst, r_bin, r_neg, r_cmp, r_isN, r_chn, r_and, r_or, r_not, r_ite, r_tup, r_lst, r_sub, r_sli, r_rev, r_call, r_new, r_mth, r_prp, r_eqo, r_fld, r_blt, r_met, r_fmt, r_isi, r_itr, r_lcm, r_lcm2, r_frz, r_own, r_del, r_nil, r_cons, r_jn, r_jc,
  v_set, v_unp, v_par, v_setI, v_augI, v_aug, v_ext, v_setF, v_setII, v_setIN, v_ex, v_app, v_ins, v_revI, v_ret, v_retN, v_ite, v_whl, v_for, v_brk, v_pass, v_frz, v_nil, v_cons,
  okW_some, brW_bl, blW_bl, inW_int, okE_some, tpW_tup, lsW_lst, itW_lst, itW_loc, slot, put, puts, clr, clrs, bindT, bindTs, Option.bind_some, add_i, sub_i, mod_i, add_l, add_t, add_s, rep_l, pow_i, List.any_cons, List.any_nil, List.map_cons, List.map_nil, List.length_cons, List.length_nil,
  iv_seq_l, iv_seq_t, iv_seq_s, iv_rng1, iv_rng2, at_t0, at_t1, at_t2, at_t3, at_l0, at_l1, at_l2, eq_str, eq_int, eq_bl, eq_ll, vw_lW, iv_lW, bl_fW, bl_lW, bt_lW, ln_lW, iv_zipL, wt0, wt1, wt2, wt3, frw0, frw1, am0, am1, am2, blist_frs, eq_nn, kx_tuple_fr, kx_list_fr, kx_int_fr, kx_bool_fr, kx_str_fr, ix_fr, nx_fr, kx_tuple_frs, kx_list_frs, kx_int_frs, kx_bool_frs, kx_str_frs, ix_frs, nx_frs, kx_tuple_am, kx_list_am, kx_int_am, kx_bool_am, kx_str_am, ix_am, nx_am, kx_tuple_rd, kx_list_rd, kx_int_rd, kx_bool_rd, kx_str_rd, ix_rd, nx_rd, kx_tuple_fW, kx_list_fW, kx_int_fW, kx_bool_fW, kx_str_fW, ix_fW, nx_fW, kx_tuple_wt, kx_list_wt, kx_int_wt, kx_bool_wt, kx_str_wt, ix_wt, nx_wt, kx_tuple_rw, kx_list_rw, kx_int_rw, kx_bool_rw, kx_str_rw, ix_rw, nx_rw, it_enm_rw, it_enm_l, it_enm_t, in_modes, in_kinds, cut1, b_all, iv_rw, iv_frs, bl_rw, bl_frs, eq_fr, vw_fr, vw_frs, vw_am, vw_rd, vw_fW, vw_t, vw_rw, vv_non, isn_non, isi_non, vv_bl, isn_bl, isi_bl, vv_int, isn_int, isi_int, vv_str, isn_str, isi_str, vv_tup, isn_tup, isi_tup, vv_lst, isn_lst, isi_lst, vv_obj, isn_obj, isi_obj, vv_exc, isn_exc, vv_scr, isn_scr, kd_int_non, kd_int_bl, kd_int_int, kd_int_str, kd_int_tup, kd_int_lst, kd_int_obj, kd_bool_non, kd_bool_bl, kd_bool_int, kd_bool_str, kd_bool_tup, kd_bool_lst, kd_bool_obj, kd_str_non, kd_str_bl, kd_str_int, kd_str_str, kd_str_tup, kd_str_lst, kd_str_obj, kd_tuple_non, kd_tuple_bl, kd_tuple_int, kd_tuple_str, kd_tuple_tup, kd_tuple_lst, kd_tuple_obj, kd_list_non, kd_list_bl, kd_list_int, kd_list_str, kd_list_tup, kd_list_lst, kd_list_obj, cmp_lt, cmp_le, cmp_gt, cmp_ge, cmp_eq, cmp_ne, cmp_inn, cmp_nin, b_lenl, b_lent, b_lens, b_inti, b_abs, b_max2, b_min2, b_tupl, b_tupt, b_lstl, b_lstt, b_lsts, b_lr1, b_strs, b_stri, dw_nil, dw_cons, au_add, au_sub, ie_non_non, ie_non_int, ie_non_bl, ie_non_str, ie_int, ie_var, ie_bin, ie_neg, sl_l, sl_t, sl_ln, sl_tn, sl_lb, fo0, fo1, fo2, fo3, io, kdi, Mo.e1, Mo.e2, Mo.e3, Kn.e1, Kn.e2, Kn.e3, List.append_nil, List.cons_append, List.nil_append, List.replicate, Nat.reduceAdd, Nat.reduceSub, Nat.reduceLeDiff, Nat.reduceEqDiff,
  true_and, and_true, if_true, if_false, decide_eq_true_eq, Bool.not_eq_true', decide_eq_false_iff_not, Bool.or_false, Bool.or_true, Bool.false_or, Bool.true_or, Bool.not_true, Bool.not_false, reduceCtorEq, ite_true, ite_false, Bool.false_eq_true, forall_const, eq_self, decide_true, decide_false, List.contains_cons, List.contains_nil, List.elem_cons, beq_self_eq_true, ne_eq, not_true_eq_false, not_false_eq_true])
local macro_rules | `(tactic| walk_at "st") => `(tactic| ((try refine z_cons ?_); walk_at "ru"))
local macro_rules | `(tactic| walk_at "to") => `(tactic| (refine z_to ?t ?h (fun K hK => ?q1) ?q2))
section
variable {n : Nat} {h : Hw} {P : KW} {E : XW}
theorem LH.ext {a b : Addr} {h' : Hw} (L : LH a b h) (e : Ext h h') : LH a b h' := by
  obtain ⟨ne, s, cells, i, e1, e2, e3⟩ := L
  exact ⟨ne, s, cells, i, e _ _ e1, e _ _ e2, e3⟩
theorem law : Ri.LawD T 40 := by
  intro ns hns
  refine c_law ?_
  walk_at "st"
  refine s_mix hns fun a b h0 ha hb L0 f0 => ?_
  walk_at "ru"
  refine z_seq (fun τ h' => True ∧ ∃ o2 o3 o4 o5 o6 o7 o8 o9 o10, τ = [some (.scr (ns.map .int)), some (.loc a), o2, o3, o4, o5, o6, o7, o8, o9, o10]) (fun K hK => ?_) ?_
  · walk_at "ru"
    refine ⟨by omega, ?_⟩
    rw [show rngW 0 4 = (List.range 4).map fun k => .int (k : Int) from rng0_eq (n := 4)]
    refine forL_inv (fun i τ h' => LH a b h' ∧ ∃ o2 o3 o4 o5 o6 o7 o8 o9 o10, τ = [some (.scr (ns.map .int)), some (.loc a), o2, o3, o4, o5, o6, o7, o8, o9, o10]) ⟨L0, _, _, _, _, _, _, _, _, _, rfl⟩ ?_ (fun τ h' i => ⟨trivial, hK _ _ ⟨trivial, i.2⟩⟩)
    rintro i τ h1 x hx ⟨L1, o2, o3, o4, o5, o6, o7, o8, o9, o10, rfl⟩
    obtain ⟨hi, ex⟩ := rng_get hx
    subst ex
    refine ⟨trivial, ?_⟩
    walk_at "ru"
    intro K hK
    have hK' : ∀ o2 o3 o4 o5 o6 o7 o8 o9 o10 h', LH a b h' → K [some (.scr (ns.map .int)), some (.loc a), o2, o3, o4, o5, o6, o7, o8, o9, o10] h' := fun o2 o3 o4 o5 o6 o7 o8 o9 o10 h' L => hK _ _ ⟨L, _, _, _, _, _, _, _, _, _, rfl⟩
    clear hK
    walk_at "st"
    refine s_nx L1 (by decide) (by decide) fun v4 h2 v40 v41 L2 _ => ?_
    walk_at "ru"
    refine s_nx L2 (by decide) (by decide) fun v5 h3 v50 v51 L3 _ => ?_
    walk_at "ru"
    refine s_nx L3 (by decide) (by decide) fun v6 h4 v60 v61 L4 _ => ?_
    refine z_seq (fun τ h' => LH a b h' ∧ ∃ l k many : Nat, ((1 ≤ l ∧ l ≤ 4) ∧ (1 ≤ k ∧ k ≤ 6) ∧ many ≤ 9) ∧ τ = [some (.scr (ns.map .int)), some (.loc a), some (.int (i : Int)), o3, some (.int (l : Int)), some (.int (k : Int)), some (.int (many : Int)), o7, o8, o9, o10]) (fun K hK => ?_) ?_
    · walk_at "ru"
      refine s_nx L4 (by decide) (by decide) fun v h5 _ _ L5 _ => ?_
      walk_at "ru"
      split
      · walk_at "st"
        exact hK _ _ ⟨L5, 4, 6, 9, by omega, rfl⟩
      · refine hK _ _ ⟨L5, (1 + v4).toNat, (1 + v5).toNat, v6.toNat, by omega, ?_⟩
        rw [show (((1 + v4).toNat : Nat) : Int) = 1 + v4 by omega, show (((1 + v5).toNat : Nat) : Int) = 1 + v5 by omega, show ((v6.toNat : Nat) : Int) = v6 by omega]
    rintro τ h5 ⟨L5, l, k, many, ⟨hl, hk, hm⟩, rfl⟩
    walk_at "st"
    refine s_nx L5 (by decide) (by decide) fun vw h6 vw0 vw1 L6 _ => ?_
    rw [show vw = ((vw.toNat : Nat) : Int) by omega]
    refine s_web L6 hl hk (by omega) fun w A h7 ok wl wn hA L7 _ => ?_
    walk_at "st"
    refine s_made ok ?_
    walk_at "st"
    have gA : AmG w A := ⟨hA.am, fun p m => (hA.sm p m).pb⟩
    refine s_find ok (fun h8 nf e8 => ?_) fun B h8 gB fB e8 => ?_
    · refine s_against ok (fun ws h9 ce _ e9 => ?_) fun h9 nn e9 => (nn nf).elim
      have L9 := LH.ext (LH.ext L7 e8) e9
      walk_at "st"
      walk_at "st"
      refine s_fit (b := false) ok gA ⟨fun z => (nomatch z), fun z => (nf A.all ((forms_iff gA.ok ok).mpr z)).elim⟩ ?_
      walk_at "ru"
      refine s_none ok ce ?_
      walk_at "ru"
      exact hK' _ _ _ _ _ _ _ _ _ _ L9
    · refine s_against ok (fun ws h9 ce nf e9 => (nf B.all fB).elim) fun h9 _ e9 => ?_
      have L9 := LH.ext (LH.ext L7 e8) e9
      walk_at "st"
      walk_at "st"
      refine s_fit (b := true) ok gB ⟨fun _ => (forms_iff gB.ok ok).mp fB, fun _ => rfl⟩ ?_
      walk_at "ru"
      exact hK' _ _ _ _ _ _ _ _ _ _ L9
  rintro τ h' ⟨_, o2, o3, o4, o5, o6, o7, o8, o9, o10, rfl⟩
  walk_at "st"
end
end K04
end
section
set_option Elab.async false
set_option linter.all false
set_option maxRecDepth 100000
set_option maxHeartbeats 0

open PySem PySem.W PySem.Calls PyProof.Rows
theorem K04.bp : ∀ d ∈ K04.ds, Ri.BindsP d := by
  intro d hd
  simp only [K04.ds, List.mem_cons, List.not_mem_nil, or_false] at hd
  rcases hd with e | e | e | e | e | e | e | e | e | e | e | e | e | e | e | e | e | e | e | e | e | e | e | e | e | e | e | e | e | e | e | e | e | e | e | e | e | e | e | e | e | e | e | e | e | e | e <;> subst e <;> intro kV doc pm an cdv ct us hl <;>
    (first
      | (match us, hl with
        | [], _ => rfl)
      | (match us, hl with
        | [_], _ => rfl)
      | (match us, hl with
        | [_, _], _ => rfl)
      | (match us, hl with
        | [_, _, _], _ => rfl)
      | (match us, hl with
        | [_, _, _, _], _ => rfl)
      | (match us, hl with
        | [_, _, _, _, _], _ => rfl)
      | (match us, hl with
        | [_, _, _, _, _, _], _ => rfl)
      | (match us, hl with
        | [_, _, _, _, _, _, _], _ => rfl))
theorem K04.rd : K04.ds.all (Ri.rdB 200 K04.S K04.T) = true := by decide +kernel
theorem K04.holds (main : Ri.LawD K04.T 40) : PySem.Challenge.rw_lotbridge_k04_whole_amounts_or_weights.Holds := by
  w_on; o_law
  refine HandSHeadRun.head_any (r := OpenLaw.row PySem.Challenge.rw_lotbridge_k04_whole_amounts_or_weights) (q := view (OpenLaw.row PySem.Challenge.rw_lotbridge_k04_whole_amounts_or_weights).prog [53]) (H := K04.hk) (ob := K04.ob) (M := 4000) (loose := K04.loose) (d := HandSHeadRun.topDef (OpenLaw.row PySem.Challenge.rw_lotbridge_k04_whole_amounts_or_weights).prog 53) (kwd := []) K04.ob_eq
    (by kernel_rfl) (fun s => by kernel_rfl) K04.run (by kernel_rfl) (by kernel_rfl) (by kernel_rfl) (by rfl) (by first | assumption | decide +kernel) (by decide +kernel) ⟨rfl, rfl, rfl, rfl, rfl, by decide +kernel⟩ ?hw ?hc
  case hw => w_witness2
  case hc =>
    refine Ri.walk_ri (l := PySem.Challenge.rw_lotbridge_k04_whole_amounts_or_weights) (n := 63) (k := 80) (x := "_law_script") rfl (by decide) (by kernel_rfl) ⟨rfl, by decide, by decide⟩ ?F
    intro w mg fa h Y G hmg0
    obtain ⟨K, KX, c⟩ := Y
    have hmg : mg ("law" : PySem.Str) = some (.ref fa) := by
      have e : (HandSHeadRun.topDef (OpenLaw.row PySem.Challenge.rw_lotbridge_k04_whole_amounts_or_weights).prog 53).name = ("law" : PySem.Str) := by kernel_rfl
      rw [← e]
      exact hmg0
    obtain ⟨fd, sp, h1, h2, h3⟩ := Ri.law_fn (P := (PySem.Challenge.rw_lotbridge_k04_whole_amounts_or_weights).prog) (w := w) (dl := K04.d46) (x := "_law_script") (d := 40) KX G hmg c K04.bp K04.rd (List.mem_of_getElem? (i := 46) (rfl : K04.ds[46]? = some K04.d46)) rfl rfl rfl rfl (by decide) main
    exact ⟨K, fd, sp, KX, h1, h2, h3⟩
end
set_option Elab.async false
theorem PySem.Challenge.cw_lotbridge_k04_whole_amounts_or_weights_holds : PySem.Challenge.rw_lotbridge_k04_whole_amounts_or_weights.Holds := by
  exact K04.holds K04.law
