import PyProof.Rows.All
import Wide.All
import OpenK.AllK
import Wide.FinOn
import HandS.ForMost
import KE.DataCmp
import KE.SortData
import HandS.ForExc
import HandS.TupAny
import HandS.IsInst
import HandS.Deep
import HandS.HeadHook1
import HandS.SortInts
import HandS.SortRule
import HandS.Strs
import HandS.Zip
import HandS.Style
import HandS.SetFor
import HandS.Flow
import HandS.Defaults
import HandS.WordsExc
import HandS.Head0
import HandS.Head1
import HandS.Head2
import HandS.HeadEnd
import HandS.HeadHook2
import HandS.HeadHook3
import HandS.HeadHook4
import HandS.More
import PySem.Challenge.RW_keypanes_k42_pressed
section
set_option Elab.async false
set_option linter.all false
set_option maxRecDepth 100000
set_option maxHeartbeats 4000000
/-! Dl1: data by value (D), a store of shared things, and what each piece of syntax means over them: plain Lean, no machine. -/
namespace Dl
open PySem

abbrev Key := Sum Int Str
/-- a value as a tree: tuples, lists and dicts by what they hold; obj n: the n-th shared thing of the store -/
inductive D where
  | non | bl (b : Bool) | int (i : Int) | str (x : Str) | tup (xs : List D) | lst (xs : List D) | dct (kvs : List (Key × D)) | obj (n : Nat)
  deriving Inhabited
/-- a shared thing -/
inductive SO where
  | cell (xs : List D)
  | inst (c : Str) (fs : List (Str × D))
abbrev Store := List SO
/-- an error: its class's name, its fields -/
structure Exn where
  cls : Str
  fs : List (Str × D)
inductive Out (α : Type) where
  | ok (a : α) (st : Store)
  | ex (e : Exn) (st : Store)
  | bad
def Out.bind {α β : Type} : Out α → (α → Store → Out β) → Out β
  | .ok a st, f => f a st
  | .ex e st, _ => .ex e st
  | .bad, _ => .bad
@[simp] theorem bind_ok {α β : Type} (a : α) (st : Store) (f : α → Store → Out β) : (Out.ok a st).bind f = f a st := rfl
@[simp] theorem bind_ex {α β : Type} (e : Exn) (st : Store) (f : α → Store → Out β) : (Out.ex e st : Out α).bind f = .ex e st := rfl
@[simp] theorem bind_bad {α β : Type} (f : α → Store → Out β) : (Out.bad : Out α).bind f = .bad := rfl
/-- an outcome is wanted so -/
@[simp] def Out.Sat {α : Type} (o : Out α) (W : Exn → Store → Prop) (P : α → Store → Prop) : Prop := match o with
  | .ok a st => P a st
  | .ex e st => W e st
  | .bad => False
theorem Out.sat_bind {α β : Type} {o : Out α} {f : α → Store → Out β} {W : Exn → Store → Prop} {P : β → Store → Prop} (h : (o.bind f).Sat W P) : o.Sat W fun a st => (f a st).Sat W P := by
  cases o <;> exact h
theorem Out.Sat.mono {α : Type} {o : Out α} {W : Exn → Store → Prop} {P P' : α → Store → Prop} (h : o.Sat W P) (k : ∀ a st, P a st → P' a st) : o.Sat W P' := by
  cases o with
  | ok a st => exact k a st h
  | ex e st => exact h
  | bad => exact h
/-- a name: unset, a value that is read, a list or dict that is the name's own -/
inductive Sl where
  | un | vl (d : D) | ow (d : D)
abbrev En := List Sl
abbrev Ev := Store → En → Out D
abbrev Tv := Store → En → Out Bool
abbrev Av := Store → En → Out (List D)
abbrev Fn := Store → List D → Out D

/-! ### no list or dict within -/
mutual
def D.imm : D → Bool
  | .lst _ => false
  | .dct _ => false
  | .tup xs => D.imms xs
  | _ => true
def D.imms : List D → Bool
  | [] => true
  | d :: ds => d.imm && D.imms ds
end
@[simp] theorem imms_eq (ds : List D) : D.imms ds = ds.all D.imm := by
  induction ds with
  | nil => simp [D.imms]
  | cons d ds ih => simp [D.imms, ih]
@[simp] theorem imm_non : D.imm .non = true := by simp [D.imm]
@[simp] theorem imm_bl (b : Bool) : D.imm (.bl b) = true := by simp [D.imm]
@[simp] theorem imm_int (i : Int) : D.imm (.int i) = true := by simp [D.imm]
@[simp] theorem imm_str (i : Str) : D.imm (.str i) = true := by simp [D.imm]
@[simp] theorem imm_obj (i : Nat) : D.imm (.obj i) = true := by simp [D.imm]
@[simp] theorem imm_lst (xs : List D) : D.imm (.lst xs) = false := by simp [D.imm]
@[simp] theorem imm_dct (xs : List (Key × D)) : D.imm (.dct xs) = false := by simp [D.imm]
@[simp] theorem imm_tup (xs : List D) : D.imm (.tup xs) = xs.all D.imm := by simp [D.imm]

/-! ### data as the library's: == -/
mutual
def D.py : D → Option PyData
  | .non => some .none
  | .bl b => some (.bool b)
  | .int i => some (.int i)
  | .str x => some (.str x)
  | .tup xs => (D.pys xs).map .tuple
  | .lst xs => (D.pys xs).map .list
  | _ => none
def D.pys : List D → Option (List PyData)
  | [] => some []
  | d :: ds => (d.py).bind fun p => (D.pys ds).map (p :: ·)
end
/-- ==, None where it is not told -/
def deq (x y : D) : Option Bool := (x.py).bind fun p => (y.py).bind fun q => if SeqAt.shaped p && SeqAt.shaped q then some (PyData.eqv p q) else none

/-! ### pieces -/
def b2i (b : Bool) : Int := if b then 1 else 0
def LINE : Nat := 16777216
def intsOf : List D → Option (List Int)
  | [] => some []
  | .int i :: r => (intsOf r).map (i :: ·)
  | _ => none
def bigs : List D → Option (List Bool)
  | [] => some []
  | .bl i :: r => (bigs r).map (i :: ·)
  | _ => none
def strsOf : List D → Option (List Str)
  | [] => some []
  | .str i :: r => (strsOf r).map (i :: ·)
  | _ => none
def pairOf : D → Option (Int × Int)
  | .tup [.int i, .int j] => some (i, j)
  | _ => none
def pairsOf : List D → Option (List (Int × Int))
  | [] => some []
  | d :: r => (pairOf d).bind fun p => (pairsOf r).map (p :: ·)
@[simp] theorem intsOf_map (ns : List Int) : intsOf (ns.map D.int) = some ns := by
  induction ns with
  | nil => rfl
  | cons a r ih => simp [intsOf, ih]
@[simp] theorem bigs_map (ns : List Bool) : bigs (ns.map D.bl) = some ns := by
  induction ns with
  | nil => rfl
  | cons a r ih => simp [bigs, ih]
@[simp] theorem strsOf_map (ns : List Str) : strsOf (ns.map D.str) = some ns := by
  induction ns with
  | nil => rfl
  | cons a r ih => simp [strsOf, ih]
theorem intsOf_some : ∀ {ds : List D} {ns : List Int}, intsOf ds = some ns → ds = ns.map D.int
  | [], ns, h => by simp [intsOf] at h; subst h; rfl
  | .int i :: r, ns, h => by
    simp only [intsOf, Option.map_eq_some_iff] at h
    obtain ⟨m, h1, rfl⟩ := h
    simp [intsOf_some h1]
  | .non :: _, _, h => by simp [intsOf] at h
  | .bl _ :: _, _, h => by simp [intsOf] at h
  | .str _ :: _, _, h => by simp [intsOf] at h
  | .tup _ :: _, _, h => by simp [intsOf] at h
  | .lst _ :: _, _, h => by simp [intsOf] at h
  | .dct _ :: _, _, h => by simp [intsOf] at h
  | .obj _ :: _, _, h => by simp [intsOf] at h
theorem bigs_some : ∀ {ds : List D} {ns : List Bool}, bigs ds = some ns → ds = ns.map D.bl
  | [], ns, h => by simp [bigs] at h; subst h; rfl
  | .bl i :: r, ns, h => by
    simp only [bigs, Option.map_eq_some_iff] at h
    obtain ⟨m, h1, rfl⟩ := h
    simp [bigs_some h1]
  | .non :: _, _, h => by simp [bigs] at h
  | .int _ :: _, _, h => by simp [bigs] at h
  | .str _ :: _, _, h => by simp [bigs] at h
  | .tup _ :: _, _, h => by simp [bigs] at h
  | .lst _ :: _, _, h => by simp [bigs] at h
  | .dct _ :: _, _, h => by simp [bigs] at h
  | .obj _ :: _, _, h => by simp [bigs] at h
theorem strsOf_some : ∀ {ds : List D} {ns : List Str}, strsOf ds = some ns → ds = ns.map D.str
  | [], ns, h => by simp [strsOf] at h; subst h; rfl
  | .str i :: r, ns, h => by
    simp only [strsOf, Option.map_eq_some_iff] at h
    obtain ⟨m, h1, rfl⟩ := h
    simp [strsOf_some h1]
  | .non :: _, _, h => by simp [strsOf] at h
  | .int _ :: _, _, h => by simp [strsOf] at h
  | .bl _ :: _, _, h => by simp [strsOf] at h
  | .tup _ :: _, _, h => by simp [strsOf] at h
  | .lst _ :: _, _, h => by simp [strsOf] at h
  | .dct _ :: _, _, h => by simp [strsOf] at h
  | .obj _ :: _, _, h => by simp [strsOf] at h

/-! ### dicts by their pairs -/
def dGet (kvs : List (Key × D)) (k : Key) : Option D := (kvs.find? fun kv => decide (kv.1 = k)).map (·.2)
def dPut (kvs : List (Key × D)) (k : Key) (v : D) : List (Key × D) := if (kvs.any fun kv => decide (kv.1 = k)) = true then kvs.map fun kv => if kv.1 = k then (k, v) else kv else kvs ++ [(k, v)]
def keyOf : D → Option Key
  | .int i => some (.inl i)
  | .str x => some (.inr x)
  | _ => none
def kD : Key → D
  | .inl i => .int i
  | .inr x => .str x
def dMerge (kvs more : List (Key × D)) : List (Key × D) := more.foldl (fun acc kv => dPut acc kv.1 kv.2) kvs
def kpairs : List D → Option (List (Key × D))
  | [] => some []
  | .tup [k, v] :: r => (keyOf k).bind fun k => (kpairs r).map ((k, v) :: ·)
  | _ => none

/-! ### slices, places (the layer's own functions over D) -/
def cutD (xs : List D) (lo hi : Option Int) : List D := (xs.drop (HT.sIx xs.length 0 lo)).take (HT.sIx xs.length xs.length hi - HT.sIx xs.length 0 lo)

/-! ### sorting -/
def insBy {α : Type} (lt : α → α → Bool) (x : α) : List α → List α
  | [] => [x]
  | y :: r => if lt y x then y :: insBy lt x r else x :: y :: r
def isort {α : Type} (lt : α → α → Bool) : List α → List α
  | [] => []
  | x :: r => insBy lt x (isort lt r)
def ltP (p q : Int × Int) : Bool := decide (p.1 < q.1) || (decide (p.1 = q.1) && decide (p.2 < q.2))
def ltS (x y : Str) : Bool := decide (x.cps.toList < y.cps.toList)
def prD (p : Int × Int) : D := .tup [.int p.1, .int p.2]

/-! ### expressions -/
def eC (d : D) : Ev := fun st _ => .ok d st
def eVar (i : Nat) : Ev := fun st env => match env.getD i .un with
  | .vl d => .ok d st
  | .ow d => .ok d st
  | .un => .bad
def un1 (f : D → Store → Out D) (A : Ev) : Ev := fun st env => (A st env).bind fun x st => f x st
def bin2 (f : D → D → Store → Out D) (A B : Ev) : Ev := fun st env => (A st env).bind fun x st => (B st env).bind fun y st => f x y st
/-- the first one is looked at ahead of the second -/
def bin2c (chk : D → Bool) (f : D → D → Store → Out D) (A B : Ev) : Ev := fun st env => (A st env).bind fun x st => if chk x = true then (B st env).bind fun y st => f x y st else .bad
def D.isStr : D → Bool
  | .str _ => true
  | _ => false
def D.isLst : D → Bool
  | .lst _ => true
  | _ => false
/-- as a value of its own: nothing that could be changed -/
def eImm (A : Ev) : Ev := fun st env => (A st env).bind fun d st => if d.imm then .ok d st else .bad
def dAdd (x y : D) (st : Store) : Out D := match x, y with
  | .int i, .int j => .ok (.int (i + j)) st
  | .str a, .str b => if a.length + b.length ≤ LINE then .ok (.str (a ++ b)) st else .bad
  | .lst a, .lst b => if (D.imms a && D.imms b && decide (a.length + b.length ≤ LINE)) = true then .ok (.lst (a ++ b)) st else .bad
  | .tup a, .tup b => if (D.imms a && D.imms b && decide (a.length + b.length ≤ LINE)) = true then .ok (.tup (a ++ b)) st else .bad
  | _, _ => .bad
def eAdd (A B : Ev) : Ev := bin2 dAdd A B
def dSub (x y : D) (st : Store) : Out D := match x, y with
  | .int i, .int j => .ok (.int (i - j)) st
  | _, _ => .bad
def eSub (A B : Ev) : Ev := bin2 dSub A B
def small64 (i : Int) : Bool := decide (-(2 ^ 64) < i ∧ i < 2 ^ 64)
def dMul (x y : D) (st : Store) : Out D := match x, y with
  | .int i, .int j => if (small64 i || small64 j) = true then .ok (.int (i * j)) st else .bad
  | .lst xs, .int k => if (D.imms xs && decide (k < 4294967296) && decide (-4294967296 < k) && decide (xs.length * k.toNat ≤ LINE)) = true then .ok (.lst (List.replicate k.toNat xs).flatten) st else .bad
  | _, _ => .bad
def eMul (A B : Ev) : Ev := bin2 dMul A B
def dMod (x y : D) (st : Store) : Out D := match x, y with
  | .int i, .int j => if 0 < j then .ok (.int (i % j)) st else .bad
  | _, _ => .bad
def eMod (A B : Ev) : Ev := bin2 dMod A B
def dFdiv (x y : D) (st : Store) : Out D := match x, y with
  | .int i, .int j => if 0 < j ∧ j < 1073741824 then .ok (.int (i / j)) st else .bad
  | _, _ => .bad
def eFdiv (A B : Ev) : Ev := bin2 dFdiv A B
def dPow (x y : D) (st : Store) : Out D := match x, y with
  | .int i, .int j => if 0 ≤ j ∧ j ≤ 1000000 ∧ i.natAbs < 2 ^ 64 then .ok (.int (i ^ j.toNat)) st else .bad
  | _, _ => .bad
def ePow (A B : Ev) : Ev := bin2 dPow A B
def dNeg (x : D) (st : Store) : Out D := match x with
  | .int i => .ok (.int (-i)) st
  | _ => .bad
def eNeg (A : Ev) : Ev := un1 dNeg A
/-- comparisons of whole numbers and texts -/
inductive Cm where | lt | le | gt | ge
def Cm.int : Cm → Int → Int → Bool
  | .lt, i, j => decide (i < j)
  | .le, i, j => decide (i ≤ j)
  | .gt, i, j => decide (j < i)
  | .ge, i, j => decide (j ≤ i)
def Cm.str : Cm → Str → Str → Bool
  | .lt, i, j => decide (i.cps.toList < j.cps.toList)
  | .le, i, j => !decide (j.cps.toList < i.cps.toList)
  | .gt, i, j => decide (j.cps.toList < i.cps.toList)
  | .ge, i, j => !decide (i.cps.toList < j.cps.toList)
def cmI (c : Cm) (x y : D) (st : Store) : Out D := match x, y with
  | .int i, .int j => .ok (.bl (c.int i j)) st
  | .str i, .str j => .ok (.bl (c.str i j)) st
  | _, _ => .bad
def Cm.dat : Cm → PyData → PyData → Bool
  | .lt, p, q => PySem.W.dataLt p q
  | .le, p, q => !PySem.W.dataLt q p
  | .gt, p, q => PySem.W.dataLt q p
  | .ge, p, q => !PySem.W.dataLt p q
/-- tuples that can be compared, place by place -/
def cmDat (c : Cm) (xs ys : List D) : Option Bool := (D.pys xs).bind fun p => (D.pys ys).bind fun q => if PySem.W.alike (.tuple p) (.tuple q) && decide (PyData.depth (.tuple p) ≤ 60) then some (c.dat (.tuple p) (.tuple q)) else none
def cmD (c : Cm) (x y : D) (st : Store) : Out D := match x, y with
  | .int i, .int j => .ok (.bl (c.int i j)) st
  | .str i, .str j => .ok (.bl (c.str i j)) st
  | .tup xs, .tup ys => (match cmDat c xs ys with
    | some b => .ok (.bl b) st
    | none => .bad)
  | _, _ => .bad
def eCm (c : Cm) (A B : Ev) : Ev := bin2 (cmD c) A B
/-- a c b c2 e -/
def eChain (c c2 : Cm) (A B C : Ev) : Ev := fun st env => (A st env).bind fun x st => (B st env).bind fun y st => (cmI c x y st).bind fun z st => match z with
  | .bl true => (C st env).bind fun w st => cmI c2 y w st
  | .bl false => .ok (.bl false) st
  | _ => .bad
def dEq (neg : Bool) (x y : D) (st : Store) : Out D := match deq x y with
  | some b => .ok (.bl (if neg then !b else b)) st
  | none => .bad
def eEq (neg : Bool) (A B : Ev) : Ev := bin2 (dEq neg) A B
def D.isNon : D → Bool
  | .non => true
  | _ => false
def dIsN (neg : Bool) (x : D) (st : Store) : Out D := .ok (.bl (if neg then !x.isNon else x.isNon)) st
def eIsN (neg : Bool) (A : Ev) : Ev := un1 (dIsN neg) A
/-- flat values -/
def D.flat : D → Bool
  | .non => true
  | .bl _ => true
  | .int _ => true
  | .str _ => true
  | _ => false
def feq : D → D → Bool
  | .non, .non => true
  | .bl a, .bl b => a == b
  | .bl a, .int b => (if a then 1 else 0) == b
  | .int a, .bl b => a == (if b then 1 else 0)
  | .int a, .int b => a == b
  | .str a, .str b => a == b
  | _, _ => false
/-- x in c -/
def inD (x c : D) : Option Bool := match c with
  | .tup ds => if x.flat && ds.all D.flat then some (ds.any fun y => feq y x) else none
  | .lst ds => if x.flat && ds.all D.flat then some (ds.any fun y => feq y x) else
      (x.py).bind fun p => (D.pys ds).bind fun qs => if SeqAt.shaped p && SeqAt.shaped (.list qs) then some (qs.any fun q => PyData.eqv q p) else none
  | .dct kvs => (keyOf x).map fun k => (dGet kvs k).isSome
  | .str z => match x with
    | .str y => match y.cps.toList with
      | [c] => some (decide (c ∈ z.cps.toList))
      | _ => none
    | _ => none
  | _ => none
def dIn (neg : Bool) (x y : D) (st : Store) : Out D := match inD x y with
  | some b => .ok (.bl (if neg then !b else b)) st
  | none => .bad
def eIn (neg : Bool) (A B : Ev) : Ev := bin2 (dIn neg) A B
def dNot (x : D) (st : Store) : Out D := match x with
  | .bl b => .ok (.bl (!b)) st
  | _ => .bad
def eNot (A : Ev) : Ev := un1 dNot A
def eAnd (A B : Ev) : Ev := fun st env => (A st env).bind fun x st => match x with
  | .bl true => B st env
  | .bl false => .ok (.bl false) st
  | _ => .bad
def eIf (T : Tv) (A B : Ev) : Ev := fun st env => (T st env).bind fun b st => if b = true then A st env else B st env
/-! arguments -/
def aNil : Av := fun st _ => .ok [] st
def aCons (A : Ev) (R : Av) : Av := fun st env => (A st env).bind fun x st => (R st env).bind fun xs st => .ok (x :: xs) st
def eTup (A : Av) : Ev := fun st env => (A st env).bind fun xs st => if xs.length ≤ LINE then .ok (.tup xs) st else .bad
def eLst (A : Av) : Ev := fun st env => (A st env).bind fun xs st => if xs.length ≤ LINE then .ok (.lst xs) st else .bad
/-- a list that is shared from its making on -/
def eNewCell (A : Av) : Ev := fun st env => (A st env).bind fun xs st => if (D.imms xs && decide (xs.length ≤ LINE)) = true then .ok (.obj st.length) (st ++ [.cell xs]) else .bad
def eCall (F : Fn) (A : Av) : Ev := fun st env => (A st env).bind fun xs st => F st xs
/-! subscripts -/
def dIx (x i : D) (st : Store) : Out D := match x, i with
  | .tup xs, .int k => match L2.atI xs k with
    | some d => .ok d st
    | none => .bad
  | .lst xs, .int k => match L2.atI xs k with
    | some d => .ok d st
    | none => .bad
  | .str z, .int k => match L2.atI z.cps.toList k with
    | some c => .ok (.str ⟨#[c]⟩) st
    | none => .bad
  | .dct kvs, k => match (keyOf k).bind (dGet kvs) with
    | some d => .ok d st
    | none => .bad
  | .obj n, .int k => match st[n]? with
    | some (.cell xs) => (match L2.atI xs k with
      | some d => .ok d st
      | none => .bad)
    | _ => .bad
  | _, _ => .bad
def eIx (A B : Ev) : Ev := bin2 dIx A B
/-- a slice's part -/
abbrev Pv := Store → En → Out (Option Int)
def pNo : Pv := fun st _ => .ok none st
def pSome (A : Ev) : Pv := fun st env => (A st env).bind fun x st => match x with
  | .int i => .ok (some i) st
  | _ => .bad
def dSl (x : D) (lo hi : Option Int) (st : Store) : Out D := match x with
  | .tup xs => if D.imms xs then .ok (.tup (cutD xs lo hi)) st else .bad
  | .lst xs => if D.imms xs then .ok (.lst (cutD xs lo hi)) st else .bad
  | .str z => .ok (.str (L2.cutS z lo hi)) st
  | _ => .bad
def eSl (A : Ev) (P R : Pv) : Ev := fun st env => (A st env).bind fun x st => (P st env).bind fun lo st => (R st env).bind fun hi st => dSl x lo hi st
/-- x[::-1] -/
def dRev (x : D) (st : Store) : Out D := match x with
  | .tup xs => if D.imms xs then .ok (.tup xs.reverse) st else .bad
  | .lst xs => if D.imms xs then .ok (.lst xs.reverse) st else .bad
  | _ => .bad
def eRev (A : Ev) : Ev := un1 dRev A
/-! built-ins -/
def dLen (x : D) (st : Store) : Out D := match x with
  | .tup xs => .ok (.int xs.length) st
  | .lst xs => .ok (.int xs.length) st
  | .str z => .ok (.int z.length) st
  | .dct kvs => .ok (.int kvs.length) st
  | _ => .bad
def eLen (A : Ev) : Ev := un1 dLen A
def dAll (x : D) (st : Store) : Out D := match x with
  | .lst xs => match bigs xs with
    | some bs => .ok (.bl (bs.all id)) st
    | none => .bad
  | _ => .bad
def eAll (A : Ev) : Ev := un1 dAll A
def maxI : List Int → Int
  | [] => 0
  | [a] => a
  | a :: b :: r => max a (maxI (b :: r))
def minI : List Int → Int
  | [] => 0
  | [a] => a
  | a :: b :: r => min a (minI (b :: r))
def dMax1 (x : D) (st : Store) : Out D := match x with
  | .lst xs => match intsOf xs with
    | some (a :: r) => .ok (.int (maxI (a :: r))) st
    | _ => .bad
  | _ => .bad
def eMax1 (A : Ev) : Ev := un1 dMax1 A
def dMin1 (x : D) (st : Store) : Out D := match x with
  | .lst xs => match intsOf xs with
    | some (a :: r) => .ok (.int (minI (a :: r))) st
    | _ => .bad
  | _ => .bad
def eMin1 (A : Ev) : Ev := un1 dMin1 A
def dMax2 (x y : D) (st : Store) : Out D := match x, y with
  | .int i, .int j => .ok (.int (if j > i then j else i)) st
  | _, _ => .bad
def eMax2 (A B : Ev) : Ev := bin2 dMax2 A B
def dMin2 (x y : D) (st : Store) : Out D := match x, y with
  | .int i, .int j => .ok (.int (if j < i then j else i)) st
  | _, _ => .bad
def eMin2 (A B : Ev) : Ev := bin2 dMin2 A B
def dSum (x : D) (st : Store) : Out D := match x with
  | .lst xs => match intsOf xs with
    | some ns => .ok (.int ns.sum) st
    | _ => .bad
  | _ => .bad
def eSum (A : Ev) : Ev := un1 dSum A
/-- list(x) -/
def dList (x : D) (st : Store) : Out D := match x with
  | .tup xs => if D.imms xs then .ok (.lst xs) st else .bad
  | .lst xs => if D.imms xs then .ok (.lst xs) st else .bad
  | _ => .bad
def eList (A : Ev) : Ev := un1 dList A
/-- tuple(x) -/
def dTuple (x : D) (st : Store) : Out D := match x with
  | .tup xs => if D.imms xs then .ok (.tup xs) st else .bad
  | .lst xs => if D.imms xs then .ok (.tup xs) st else .bad
  | _ => .bad
def eTuple (A : Ev) : Ev := un1 dTuple A
/-- int(x) -/
def dInt (x : D) (st : Store) : Out D := match x with
  | .int i => .ok (.int i) st
  | .bl b => .ok (.int (b2i b)) st
  | .str a => match PySem.intText? a with
    | some n => if a.length ≤ 640 then .ok (.int n) st else .bad
    | none => .bad
  | _ => .bad
def eInt (A : Ev) : Ev := un1 dInt A
def dStr (x : D) (st : Store) : Out D := match x with
  | .int i => if i.natAbs.log2 < 1920 ∧ (toString i : Str).length ≤ LINE then .ok (.str (toString i)) st else .bad
  | _ => .bad
def eStr (A : Ev) : Ev := un1 dStr A
/-- dict(list of pairs) -/
def dDict (x : D) (st : Store) : Out D := match x with
  | .lst xs => match kpairs xs with
    | some kvs => if D.imms (kvs.map (·.2)) then .ok (.dct (dMerge [] kvs)) st else .bad
    | none => .bad
  | _ => .bad
def eDict (A : Ev) : Ev := un1 dDict A
def uniqI : List Int → List Int
  | [] => []
  | x :: r => if x ∈ r then uniqI r else x :: uniqI r
theorem mem_uniqI {k : Int} : ∀ {l : List Int}, k ∈ uniqI l ↔ k ∈ l
  | [] => Iff.rfl
  | x :: r => by
    unfold uniqI
    split
    · rename_i h
      rw [mem_uniqI, List.mem_cons]
      exact ⟨Or.inr, fun h' => h'.elim (fun e => e ▸ h) id⟩
    · rw [List.mem_cons, List.mem_cons, mem_uniqI]
theorem nodup_uniqI : ∀ l : List Int, (uniqI l).Nodup
  | [] => List.nodup_nil
  | x :: r => by
    unfold uniqI
    split
    · exact nodup_uniqI r
    · rename_i h
      exact List.nodup_cons.mpr ⟨fun m => h (mem_uniqI.mp m), nodup_uniqI r⟩
theorem uniqI_len : ∀ l : List Int, (uniqI l).length ≤ l.length
  | [] => Nat.le_refl _
  | x :: r => by
    unfold uniqI
    split
    · exact Nat.le_succ_of_le (uniqI_len r)
    · exact Nat.succ_le_succ (uniqI_len r)
/-- len(set(x)), whole numbers -/
def dLenSet (x : D) (st : Store) : Out D := match x with
  | .tup xs => match intsOf xs with
    | some ns => if ns.length ≤ 4000 then .ok (.int (uniqI ns).length) st else .bad
    | none => .bad
  | _ => .bad
def eLenSet (A : Ev) : Ev := un1 dLenSet A
/-- a value as data -/
def pyD (d : D) : PyData := d.py.getD .none
def leD (a b : D) : Bool := PySem.W.dataLe false pyD a b
/-- tuples, not empty, of plain things, that can be compared with one another -/
def srtOk (xs : List D) : Bool := D.imms xs && xs.all (fun d => (match d with | .tup (_ :: _) => true | _ => false) && d.py.isSome && decide ((pyD d).depth ≤ 60) && xs.all fun e => PySem.W.alike (pyD d) (pyD e))
def dSorted (x : D) (st : Store) : Out D := match x with
  | .lst xs => match intsOf xs with
    | some ns => .ok (.lst ((isort (fun a b => decide (a < b)) ns).map D.int)) st
    | none => match strsOf xs with
      | some ns => if ns.length < 64 then .ok (.lst ((isort ltS ns).map D.str)) st else .bad
      | none => match pairsOf xs with
        | some ps => .ok (.lst ((isort ltP ps).map prD)) st
        | none => if srtOk xs = true then .ok (.lst (xs.mergeSort leD)) st else .bad
  | _ => .bad
def eSorted (A : Ev) : Ev := un1 dSorted A
inductive Ty where | int | bool | str | tuple | list
def Ty.has : Ty → D → Bool
  | .int, .int _ => true
  | .int, .bl _ => true
  | .bool, .bl _ => true
  | .str, .str _ => true
  | .tuple, .tup _ => true
  | .list, .lst _ => true
  | _, _ => false
def dIsi (ts : List Ty) (x : D) (st : Store) : Out D := match x with
  | .obj _ => .bad
  | _ => .ok (.bl (ts.any fun t => t.has x)) st
def eIsi (ts : List Ty) (A : Ev) : Ev := un1 (dIsi ts) A
/-! dicts -/
def eDict0 : Ev := fun st _ => .ok (.dct []) st
def eDict1 (k : Key) (A : Ev) : Ev := fun st env => (A st env).bind fun v st => .ok (.dct [(k, v)]) st
def D.isDct : D → Bool
  | .dct _ => true
  | _ => false
def dGet2 (x k z : D) (st : Store) : Out D := match x, keyOf k with
  | .dct kvs, some k => .ok ((dGet kvs k).getD z) st
  | _, _ => .bad
def eGet2 (A B C : Ev) : Ev := fun st env => (A st env).bind fun x st => if x.isDct = true then (B st env).bind fun k st => (C st env).bind fun z st => dGet2 x k z st else .bad
/-! texts -/
def dJoin (x y : D) (st : Store) : Out D := match x, y with
  | .str a, .lst xs => (match strsOf xs with
    | some ys => if (Txt.join a ys).length ≤ LINE ∧ (ys.map (·.length)).sum + ys.length * a.length ≤ LINE then .ok (.str (Txt.join a ys)) st else .bad
    | none => .bad)
  | .str a, .tup xs => (match strsOf xs with
    | some ys => if (Txt.join a ys).length ≤ LINE ∧ (ys.map (·.length)).sum + ys.length * a.length ≤ LINE then .ok (.str (Txt.join a ys)) st else .bad
    | none => .bad)
  | _, _ => .bad
def eJoin (A B : Ev) : Ev := bin2c D.isStr dJoin A B
/-- xs.index(y): the first place of an equal one -/
def dIndex (x y : D) (st : Store) : Out D := match x with
  | .lst xs => if y.flat && xs.all D.flat then (match xs.findIdx? (fun z => feq z y) with
    | some j => .ok (.int j) st
    | none => .bad) else .bad
  | _ => .bad
def eIndex (A B : Ev) : Ev := bin2c D.isLst dIndex A B

/-! ### comprehensions, loops: what is walked -/
/-- the items of what is walked -/
abbrev Iv := Store → En → Out (List D)
def iSeq (A : Ev) : Iv := fun st env => (A st env).bind fun x st => match x with
  | .tup xs => .ok xs st
  | .lst xs => .ok xs st
  | _ => .bad
def iStr (A : Ev) : Iv := fun st env => (A st env).bind fun x st => match x with
  | .str z => .ok (z.cps.toList.map fun c => .str ⟨#[c]⟩) st
  | _ => .bad
def iRange1 (A : Ev) : Iv := fun st env => (A st env).bind fun x st => match x with
  | .int n => if n ≤ LINE ∧ -(2 ^ 62) ≤ n then .ok ((List.range n.toNat).map fun k : Nat => D.int k) st else .bad
  | _ => .bad
def iRange2 (A B : Ev) : Iv := fun st env => (A st env).bind fun x st => (B st env).bind fun y st => match x, y with
  | .int m, .int n => if n - m ≤ LINE ∧ -(2 ^ 62) ≤ m ∧ m < 2 ^ 62 ∧ -(2 ^ 62) ≤ n ∧ n < 2 ^ 62 then .ok ((List.range (n - m).toNat).map fun k : Nat => D.int (m + k)) st else .bad
  | _, _ => .bad
/-- a name that is not written while it is walked -/
def eVarC (i : Nat) : Ev := fun st env => match env.getD i .un with
  | .vl d => .ok d st
  | _ => .bad
/-- enumerate(xs), xs without lists in it -/
def iEnum (A : Ev) : Iv := fun st env => (A st env).bind fun x st => match x with
  | .lst xs => .ok (xs.mapIdx fun i d => D.tup [.int i, d]) st
  | _ => .bad
def iZip (A B : Ev) : Iv := fun st env => (A st env).bind fun x st => (B st env).bind fun y st => match x, y with
  | .lst xs, .lst ys => .ok (List.zipWith (fun a b => D.tup [a, b]) xs ys) st
  | .tup xs, .tup ys => .ok (List.zipWith (fun a b => D.tup [a, b]) xs ys) st
  | _, _ => .bad
/-- a target: a name, a tuple of names -/
inductive Tg where
  | one (i : Nat)
  | tup (is : List Nat)
def setAll : List Nat → List D → En → Option En
  | [], [], env => some env
  | i :: is, d :: ds, env => setAll is ds (env.set i (.vl d))
  | _, _, _ => none
def Tg.set : Tg → D → En → Option En
  | .one i, d, env => some (env.set i (.vl d))
  | .tup is, .tup ds, env => setAll is ds env
  | _, _, _ => none
def Tg.slots : Tg → List Nat
  | .one i => [i]
  | .tup is => is
def wipeE (env : En) : List Nat → En
  | [] => env
  | i :: is => (wipeE env is).set i .un
/-- one pass of a comprehension over the items left -/
def lcGo (g : Tg) (T : Tv) (A : Ev) : List D → Store → En → Out (List D)
  | [], st, _ => .ok [] st
  | d :: ds, st, env => match g.set d (wipeE env g.slots) with
    | none => .bad
    | some env' => (T st env').bind fun b st => if b = true then (A st env').bind fun x st => (lcGo g T A ds st env).bind fun xs st => .ok (x :: xs) st else lcGo g T A ds st env
def tTrue : Tv := fun st _ => .ok true st
/-- no error leaves -/
@[simp] def Out.calm {α : Type} : Out α → Out α
  | .ok a st => .ok a st
  | _ => .bad
def eLc (W : Iv) (g : Tg) (T : Tv) (A : Ev) : Ev := fun st env => (W st env).bind fun ds st => ((lcGo g T A ds st env).calm).bind fun xs st => if xs.length ≤ LINE then .ok (.lst xs) st else .bad

/-! ### tests -/
def D.truth : D → Option Bool
  | .non => some false
  | .bl b => some b
  | .int i => some (i != 0)
  | .str x => some ((x.length : Int) != 0)
  | .tup xs => some (!xs.isEmpty)
  | .lst xs => some (!xs.isEmpty)
  | _ => none
@[simp] theorem truth_bl (b : Bool) : D.truth (.bl b) = some b := rfl
/-- x or y, as a value -/
def eOr (A B : Ev) : Ev := fun st env => (A st env).bind fun x st => match x.truth with
  | some true => .ok x st
  | some false => B st env
  | none => .bad
def tVal (A : Ev) : Tv := fun st env => (A st env).bind fun x st => match x with
  | .bl b => .ok b st
  | _ => .bad
def tTruth (A : Ev) : Tv := fun st env => (A st env).bind fun x st => match x.truth with
  | some b => .ok b st
  | none => .bad
def tNot (T : Tv) : Tv := fun st env => (T st env).bind fun b st => .ok (!b) st
def tAnd (T U : Tv) : Tv := fun st env => (T st env).bind fun b st => if b = true then U st env else .ok false st
def tOr (T U : Tv) : Tv := fun st env => (T st env).bind fun b st => if b = true then .ok true st else U st env

/-! ### statements -/
inductive SOut where
  | nx (st : Store) (env : En)
  | rt (d : D) (st : Store)
  | bk (st : Store) (env : En)
  | ct (st : Store) (env : En)
  | ex (e : Exn) (st : Store)
  | bad
abbrev Sv := Store → En → SOut
def Out.stm {α : Type} (x : Out α) (f : α → Store → SOut) : SOut := match x with
  | .ok a st => f a st
  | .ex e st => .ex e st
  | .bad => .bad
def sPass : Sv := fun st env => .nx st env
def sBreak : Sv := fun st env => .bk st env
def sCont : Sv := fun st env => .ct st env
def sNever : Sv := fun _ _ => .bad
def SOut.thn (x : SOut) (f : Sv) : SOut := match x with
  | .nx st env => f st env
  | o => o
def sSeq (A B : Sv) : Sv := fun st env => (A st env).thn B
def sIf (T : Tv) (A B : Sv) : Sv := fun st env => (T st env).stm fun b st => if b = true then A st env else B st env
def sRet (A : Ev) : Sv := fun st env => (A st env).stm fun d st => .rt d st
def sRetN : Sv := fun st _ => .rt .non st
/-- return x, x the name of a list or dict of the def's own -/
def sRetVar (i : Nat) : Sv := fun st env => match env.getD i .un with
  | .ow d => .rt d st
  | .vl d => if d.imm then .rt d st else .bad
  | .un => .bad
def sDrop (A : Ev) : Sv := fun st env => (A st env).stm fun _ st => .nx st env
/-- a fresh value: a list or a dict of plain things is the name's own -/
def own (d : D) : Sl := match d with
  | .lst ds => if D.imms ds = true then .ow d else .vl d
  | .dct kvs => if D.imms (kvs.map (·.2)) = true then .ow d else .vl d
  | _ => .vl d
def sSet (i : Nat) (A : Ev) : Sv := fun st env => (A st env).stm fun d st => .nx st (env.set i (own d))
/-- a, b = x, y: all reckoned, then stored -/
def setsGo : List Nat → List Ev → Store → En → En → Out En
  | [], [], st, _, acc => .ok acc st
  | i :: is, A :: As, st, env, acc => (A st env).bind fun d st => setsGo is As st env (acc.set i (own d))
  | _, _, _, _, _ => .bad
def sSets (is : List Nat) (As : List Ev) : Sv := fun st env => (setsGo is As st env env).stm fun env st => .nx st env
/-- a, b, .. = x, x a tuple -/
def sUnpack (is : List Nat) (A : Ev) : Sv := fun st env => (A st env).stm fun d st => match (Tg.tup is).set d env with
  | some env => .nx st env
  | none => .bad
/-- x.append(e), x a list of the name's own -/
def ownL (i : Nat) (env : En) : Option (List D) := match env.getD i .un with
  | .ow (.lst xs) => some xs
  | _ => none
def appTo (i : Nat) (d : D) (st : Store) (env : En) : SOut := match ownL i env with
  | some xs => if xs.length < LINE then .nx st (env.set i (.ow (.lst (xs ++ [d])))) else .bad
  | none => .bad
def sApp (i : Nat) (A : Ev) : Sv := fun st env => match ownL i env with
  | some xs => (A st env).stm fun d st => if xs.length < LINE then .nx st (env.set i (.ow (.lst (xs ++ [d])))) else .bad
  | none => .bad
/-- x.extend(e) -/
def sExt (i : Nat) (A : Ev) : Sv := fun st env => match ownL i env with
  | some xs => (A st env).stm fun d st => (match d with
    | .lst ys => if (D.imms ys && decide (xs.length + ys.length ≤ LINE)) = true then .nx st (env.set i (.ow (.lst (xs ++ ys)))) else .bad
    | _ => .bad)
  | none => .bad
/-- x.pop() -/
def popTo (i : Nat) (st : Store) (env : En) (f : D → Store → En → SOut) : SOut := match ownL i env with
  | some xs => (match xs.getLast? with
    | some d => if d.imm = true then f d st (env.set i (.ow (.lst xs.dropLast))) else .bad
    | none => .bad)
  | none => .bad
/-- j = x.pop() -/
def sSetPop (j i : Nat) : Sv := fun st env => popTo i st env fun d st env => .nx st (env.set j (.vl d))
/-- j.append(x.pop()) -/
def sAppPop (j i : Nat) : Sv := fun st env => if j = i then .bad else match ownL j env with
  | some _ => popTo i st env fun d st env => appTo j d st env
  | none => .bad
/-- x.pop(e) -/
def popAt (i : Nat) (A : Ev) (st : Store) (env : En) (f : D → Store → En → SOut) : SOut := match ownL i env with
  | some xs => (A st env).stm fun k st => (match k with
    | .int k => if 0 ≤ k ∧ k < 9223372036854775808 then (match xs[k.toNat]? with
      | some d => if d.imm = true then f d st (env.set i (.ow (.lst (xs.eraseIdx k.toNat)))) else .bad
      | none => .bad) else .bad
    | _ => .bad)
  | none => .bad
def sSetPopAt (j i : Nat) (A : Ev) : Sv := fun st env => popAt i A st env fun d st env => .nx st (env.set j (.vl d))
def sAppPopAt (j i : Nat) (A : Ev) : Sv := fun st env => if j = i then .bad else match ownL j env with
  | some _ => popAt i A st env fun d st env => appTo j d st env
  | none => .bad
/-- x[k] = e -/
def putTo (i : Nat) (s : Sl) (d k : D) (st : Store) (env : En) : SOut := match s with
  | .ow (.dct kvs) => (match keyOf k with
    | some k => if kvs.length < LINE then .nx st (env.set i (.ow (.dct (dPut kvs k d)))) else .bad
    | none => .bad)
  | .ow (.lst xs) => (match k with
    | .int k => (match L2.ixN xs.length k with
      | some j => .nx st (env.set i (.ow (.lst (xs.set j d))))
      | none => .bad)
    | _ => .bad)
  | .vl (.obj n) => (match st[n]?, k with
    | some (.cell xs), .int k => (match L2.ixN xs.length k with
      | some j => if d.imm = true then .nx (st.set n (.cell (xs.set j d))) env else .bad
      | none => .bad)
    | _, _ => .bad)
  | _ => .bad
def Sl.isUn : Sl → Bool
  | .un => true
  | _ => false
def sPut (i : Nat) (B A : Ev) : Sv := fun st env => (A st env).stm fun d st => if (env.getD i .un).isUn = true then .bad else (B st env).stm fun k st => putTo i (env.getD i .un) d k st env
def sRaise (c : Str) : Sv := fun st _ => .ex ⟨c, []⟩ st
/-- for .. in ..: body -/
def forGo (g : Tg) (B : Sv) : List D → Store → En → SOut
  | [], st, env => .nx st env
  | d :: ds, st, env => match g.set d env with
    | none => .bad
    | some env => match B st env with
      | .nx st env => forGo g B ds st env
      | .ct st env => forGo g B ds st env
      | .bk st env => .nx st env
      | o => o
/-- what is walked is not written meanwhile -/
def frz (is : List Nat) (env : En) : En := is.foldl (fun env i => match env.getD i .un with
  | .ow d => env.set i (.vl d)
  | _ => env) env
def sFor (is : List Nat) (W : Iv) (g : Tg) (B : Sv) : Sv := fun st env => (W st (frz is env)).stm fun ds st => forGo g B ds st (frz is env)
/-- while ..: body; n: turns at most -/
def whileGo (T : Tv) (B : Sv) : Nat → Store → En → SOut
  | 0, _, _ => .bad
  | n + 1, st, env => (T st env).stm fun b st => if b = true then (match B st env with
      | .nx st env => whileGo T B n st env
      | .ct st env => whileGo T B n st env
      | .bk st env => .nx st env
      | o => o) else .nx st env
/-- more turns than any loop takes -/
def TURNS : Nat := 1000000000
def sWhile (T : Tv) (B : Sv) : Sv := fun st env => whileGo T B TURNS st env

/-! ### a def -/
def runFn (n m : Nat) (B : Sv) : Fn := fun st ds => if ds.length = n then (match B st (ds.map Sl.vl ++ List.replicate m Sl.un) with
  | .nx st _ => .ok .non st
  | .rt d st => .ok d st
  | .ex e st => .ex e st
  | _ => .bad) else .bad
end Dl
end
section
set_option Elab.async false
set_option linter.all false
set_option maxRecDepth 100000
set_option maxHeartbeats 4000000
/-! Dl2: the layer's heap bears data: Rep, the store, a frame's names; readings over data. -/
namespace Dl
open PySem PySem.Spec PyProof.Rows L2

theorem line_eq : LINE = sizeLine := by rw [sizeLine_eq]; rfl

/-! ### a value bears a datum -/
mutual
inductive Rep (K : PySem.W.Frag) (ι : List Addr) (H : Hp) (S : Addr → Prop) : V → D → Prop
  | non : Rep K ι H S .non .non
  | bl (b : Bool) : Rep K ι H S (.bl b) (.bl b)
  | int (i : Int) : Rep K ι H S (.int i) (.int i)
  | str (x : Str) : x.length ≤ LINE → Rep K ι H S (.str x) (.str x)
  | tup {a : Addr} {xs : List V} {ds : List D} : SqT K H a xs → xs.length ≤ LINE → Reps K ι H S xs ds → Rep K ι H S (.ref a) (.tup ds)
  | lst {a : Addr} {xs : List V} {ds : List D} : Rd H a (.lst xs) → S a → xs.length ≤ LINE → Reps K ι H S xs ds → Rep K ι H S (.ref a) (.lst ds)
  | dct {a : Addr} {kvs : List (Key × V)} {ds : List (Key × D)} : Rd H a (.dK kvs) → S a → kvs.length ≤ LINE → RepKs K ι H S kvs ds → Rep K ι H S (.ref a) (.dct ds)
  | obj {n : Nat} {a : Addr} : ι[n]? = some a → Rep K ι H S (.ref a) (.obj n)
inductive Reps (K : PySem.W.Frag) (ι : List Addr) (H : Hp) (S : Addr → Prop) : List V → List D → Prop
  | nil : Reps K ι H S [] []
  | cons {v : V} {vs : List V} {d : D} {ds : List D} : Rep K ι H S v d → Reps K ι H S vs ds → Reps K ι H S (v :: vs) (d :: ds)
inductive RepKs (K : PySem.W.Frag) (ι : List Addr) (H : Hp) (S : Addr → Prop) : List (Key × V) → List (Key × D) → Prop
  | nil : RepKs K ι H S [] []
  | cons {k : Key} {v : V} {vs : List (Key × V)} {d : D} {ds : List (Key × D)} : Rep K ι H S v d → RepKs K ι H S vs ds → RepKs K ι H S ((k, v) :: vs) ((k, d) :: ds)
end

section
variable {K : PySem.W.Frag} {ι ι' : List Addr} {H H' : Hp} {S S' : Addr → Prop}
/-- what a datum's bearing leans on -/
structure Carry (K : PySem.W.Frag) (ι : List Addr) (H : Hp) (S : Addr → Prop) (ι' : List Addr) (H' : Hp) (S' : Addr → Prop) : Prop where
  tup : ∀ a xs, SqT K H a xs → SqT K H' a xs
  lst : ∀ a xs, S a → Rd H a (.lst xs) → Rd H' a (.lst xs) ∧ S' a
  dct : ∀ a xs, S a → Rd H a (.dK xs) → Rd H' a (.dK xs) ∧ S' a
  obj : ∀ (n : Nat) a, ι[n]? = some a → ι'[n]? = some a
theorem Carry.all (c : Carry K ι H S ι' H' S') : (∀ {v d}, Rep K ι H S v d → Rep K ι' H' S' v d) ∧ (∀ {v d}, Reps K ι H S v d → Reps K ι' H' S' v d) ∧ (∀ {v d}, RepKs K ι H S v d → RepKs K ι' H' S' v d) := by
  have h1 : ∀ {v d}, Rep K ι H S v d → Rep K ι' H' S' v d := fun {v d} h => by
    refine Rep.rec (motive_1 := fun v d _ => Rep K ι' H' S' v d) (motive_2 := fun v d _ => Reps K ι' H' S' v d) (motive_3 := fun v d _ => RepKs K ι' H' S' v d) ?_ ?_ ?_ ?_ ?_ ?_ ?_ ?_ ?_ ?_ ?_ ?_ h
    · exact .non
    · exact fun b => .bl b
    · exact fun i => .int i
    · exact fun x hx => .str x hx
    · exact fun q z _ r => .tup (c.tup _ _ q) z r
    · exact fun q s z _ r => .lst (c.lst _ _ s q).1 (c.lst _ _ s q).2 z r
    · exact fun q s z _ r => .dct (c.dct _ _ s q).1 (c.dct _ _ s q).2 z r
    · exact fun q => .obj (c.obj _ _ q)
    · exact .nil
    · exact fun _ _ a b => .cons a b
    · exact .nil
    · exact fun _ _ a b => .cons a b
  have h2 : ∀ {v d}, Reps K ι H S v d → Reps K ι' H' S' v d := by
    intro v
    induction v with
    | nil => intro d h; cases h; exact .nil
    | cons a r ih => intro d h; cases h with | cons x y => exact .cons (h1 x) (ih y)
  refine ⟨h1, h2, ?_⟩
  intro v
  induction v with
  | nil => intro d h; cases h; exact .nil
  | cons a r ih => intro d h; cases h with | cons x y => exact .cons (h1 x) (ih y)
theorem Reps.length : ∀ {vs : List V} {ds : List D}, Reps K ι H S vs ds → vs.length = ds.length
  | [], _, h => by cases h; rfl
  | _ :: _, _, h => by cases h with | cons _ t => simp [Reps.length t]
theorem RepKs.length : ∀ {vs : List (Key × V)} {ds : List (Key × D)}, RepKs K ι H S vs ds → vs.length = ds.length
  | [], _, h => by cases h; rfl
  | _ :: _, _, h => by cases h with | cons _ t => simp [RepKs.length t]
theorem Reps.get : ∀ {vs : List V} {ds : List D} {i : Nat} {d : D}, Reps K ι H S vs ds → ds[i]? = some d → ∃ v, vs[i]? = some v ∧ Rep K ι H S v d
  | [], _, _, _, h, e => by cases h; simp at e
  | v :: vs, _, 0, _, h, e => by cases h with | cons r _ => simp at e; subst e; exact ⟨_, rfl, r⟩
  | v :: vs, _, i + 1, _, h, e => by
    cases h with
    | cons _ t =>
      obtain ⟨u, h1, h2⟩ := Reps.get (i := i) t (by simpa using e)
      exact ⟨u, by simpa using h1, h2⟩
theorem Reps.getV : ∀ {vs : List V} {ds : List D} {i : Nat} {v : V}, Reps K ι H S vs ds → vs[i]? = some v → ∃ d, ds[i]? = some d ∧ Rep K ι H S v d
  | [], _, _, _, h, e => by cases h; simp at e
  | v :: vs, _, 0, _, h, e => by cases h with | cons r _ => simp at e; subst e; exact ⟨_, rfl, r⟩
  | v :: vs, _, i + 1, _, h, e => by
    cases h with
    | cons _ t =>
      obtain ⟨u, h1, h2⟩ := Reps.getV (i := i) t (by simpa using e)
      exact ⟨u, by simpa using h1, h2⟩
theorem Reps.append : ∀ {vs us : List V} {ds es : List D}, Reps K ι H S vs ds → Reps K ι H S us es → Reps K ι H S (vs ++ us) (ds ++ es)
  | [], _, _, _, h, r => by cases h; exact r
  | _ :: _, _, _, _, h, r => by cases h with | cons a t => exact .cons a (Reps.append t r)
theorem Reps.take : ∀ {vs : List V} {ds : List D} (n : Nat), Reps K ι H S vs ds → Reps K ι H S (vs.take n) (ds.take n)
  | [], _, n, h => by cases h; cases n <;> exact .nil
  | _ :: _, _, 0, h => by cases h; exact .nil
  | _ :: _, _, n + 1, h => by cases h with | cons a t => exact .cons a (Reps.take n t)
theorem Reps.drop : ∀ {vs : List V} {ds : List D} (n : Nat), Reps K ι H S vs ds → Reps K ι H S (vs.drop n) (ds.drop n)
  | [], _, n, h => by cases h; cases n <;> exact .nil
  | _ :: _, _, 0, h => h
  | _ :: _, _, n + 1, h => by cases h with | cons a t => exact Reps.drop n t
theorem Reps.reverse : ∀ {vs : List V} {ds : List D}, Reps K ι H S vs ds → Reps K ι H S vs.reverse ds.reverse
  | [], _, h => by cases h; exact .nil
  | _ :: _, _, h => by
    cases h with
    | cons a t =>
      simp only [List.reverse_cons]
      exact (Reps.reverse t).append (.cons a .nil)
theorem Reps.cut {vs : List V} {ds : List D} (lo hi : Option Int) (h : Reps K ι H S vs ds) : Reps K ι H S (cutV vs lo hi) (cutD ds lo hi) := by
  unfold cutV cutD
  rw [h.length]
  exact (h.drop _).take _
theorem Reps.set : ∀ {vs : List V} {ds : List D} {v : V} {d : D} (i : Nat), Reps K ι H S vs ds → Rep K ι H S v d → Reps K ι H S (vs.set i v) (ds.set i d)
  | [], _, _, _, i, h, _ => by cases h; exact .nil
  | _ :: _, _, _, _, 0, h, r => by cases h with | cons a t => exact .cons r t
  | _ :: _, _, _, _, i + 1, h, r => by cases h with | cons a t => exact .cons a (Reps.set i t r)
theorem Reps.eraseIdx : ∀ {vs : List V} {ds : List D} (i : Nat), Reps K ι H S vs ds → Reps K ι H S (vs.eraseIdx i) (ds.eraseIdx i)
  | [], _, i, h => by cases h; exact .nil
  | _ :: _, _, 0, h => by cases h with | cons a t => exact t
  | _ :: _, _, i + 1, h => by cases h with | cons a t => exact .cons a (Reps.eraseIdx i t)
theorem Reps.dropLast : ∀ {vs : List V} {ds : List D}, Reps K ι H S vs ds → Reps K ι H S vs.dropLast ds.dropLast
  | [], _, h => by cases h; exact .nil
  | [_], _, h => by cases h with | cons a t => cases t; exact .nil
  | _ :: b :: r, _, h => by
    cases h with
    | cons a t =>
      cases t with
      | cons a2 t2 => exact .cons a (Reps.dropLast (.cons a2 t2))
/-- no list or dict within: whatever may be written -/
theorem Rep.imm (S' : Addr → Prop) : (∀ {v d}, Rep K ι H S v d → d.imm = true → Rep K ι H S' v d) ∧ (∀ {v d}, Reps K ι H S v d → D.imms d = true → Reps K ι H S' v d) := by
  have h1 : ∀ {v d}, Rep K ι H S v d → d.imm = true → Rep K ι H S' v d := fun {v d} h => by
    refine Rep.rec (motive_1 := fun v d _ => d.imm = true → Rep K ι H S' v d) (motive_2 := fun v d _ => D.imms d = true → Reps K ι H S' v d) (motive_3 := fun v d _ => True) ?_ ?_ ?_ ?_ ?_ ?_ ?_ ?_ ?_ ?_ ?_ ?_ h
    · exact fun _ => .non
    · exact fun b _ => .bl b
    · exact fun i _ => .int i
    · exact fun x hx _ => .str x hx
    · exact fun q z _ r e => .tup q z (r (by simpa [D.imm] using e))
    · intro a xs ds _ _ _ _ _ e; simp at e
    · intro a xs ds _ _ _ _ _ e; simp at e
    · exact fun q _ => .obj q
    · exact fun _ => .nil
    · intro v vs d ds _ _ a b e
      simp only [D.imms, Bool.and_eq_true] at e
      exact .cons (a e.1) (b e.2)
    · trivial
    · intros; trivial
  refine ⟨h1, ?_⟩
  intro v
  induction v with
  | nil => intro d h _; cases h; exact .nil
  | cons a r ih =>
    intro d h e
    cases h with
    | cons x y =>
      simp only [D.imms, Bool.and_eq_true] at e
      exact .cons (h1 x e.1) (ih y e.2)
theorem Reps.imm {v d} (S' : Addr → Prop) (h : Reps K ι H S v d) (e : D.imms d = true) : Reps K ι H S' v d := (Rep.imm S').2 h e
/-- the library's data -/
theorem Rep.dp : (∀ {v d}, Rep K ι H S v d → ∀ p, d.py = some p → Dp K H v p) ∧ (∀ {v d}, Reps K ι H S v d → ∀ p, D.pys d = some p → DpAll K H v p) := by
  have h1 : ∀ {v d}, Rep K ι H S v d → ∀ p, d.py = some p → Dp K H v p := fun {v d} h => by
    refine Rep.rec (motive_1 := fun v d _ => ∀ p, d.py = some p → Dp K H v p) (motive_2 := fun v d _ => ∀ p, D.pys d = some p → DpAll K H v p) (motive_3 := fun v d _ => True) ?_ ?_ ?_ ?_ ?_ ?_ ?_ ?_ ?_ ?_ ?_ ?_ h
    · intro p e; simp [D.py] at e; subst e; exact .non
    · intro b p e; simp [D.py] at e; subst e; exact .bl b
    · intro b p e; simp [D.py] at e; subst e; exact .int b
    · intro b _ p e; simp [D.py] at e; subst e; exact .str b
    · intro a xs ds q z _ r p e
      simp only [D.py, Option.map_eq_some_iff] at e
      obtain ⟨ps, e1, rfl⟩ := e
      exact .tup q (r _ e1)
    · intro a xs ds q s z _ r p e
      simp only [D.py, Option.map_eq_some_iff] at e
      obtain ⟨ps, e1, rfl⟩ := e
      exact .lst (.inl q) (r _ e1)
    · intro a xs ds _ _ _ _ _ p e; simp [D.py] at e
    · intro n a _ p e; simp [D.py] at e
    · intro p e; simp [D.pys] at e; subst e; exact .nil
    · intro v vs d ds _ _ a b p e
      simp only [D.pys, Option.bind_eq_some_iff, Option.map_eq_some_iff] at e
      obtain ⟨q, e1, qs, e2, rfl⟩ := e
      exact .cons (a _ e1) (b _ e2)
    · trivial
    · intros; trivial
  refine ⟨h1, ?_⟩
  intro v
  induction v with
  | nil => intro d h p e; cases h; simp [D.pys] at e; subst e; exact .nil
  | cons a r ih =>
    intro d h p e
    cases h with
    | cons x y =>
      simp only [D.pys, Option.bind_eq_some_iff, Option.map_eq_some_iff] at e
      obtain ⟨q, e1, qs, e2, rfl⟩ := e
      exact .cons (h1 x _ e1) (ih y _ e2)
end

/-! ### the store, what a step leaves -/
def SOk (K : PySem.W.Frag) (ι : List Addr) (H : Hp) (a : Addr) : SO → Prop
  | .cell ds => ∃ xs, H a = some (.lst xs) ∧ xs.length ≤ LINE ∧ D.imms ds = true ∧ Reps K ι H (fun _ => False) xs ds
  | .inst c fs => ∃ dx vs, H a = some (.ins (He.ga K c) dx vs) ∧ vs.length = fs.length ∧ vs.length ≤ 500 ∧ vs.map (·.1) = fs.map (·.1) ∧ D.imms (fs.map (·.2)) = true ∧ Reps K ι H (fun _ => False) (vs.map (·.2)) (fs.map (·.2))
structure StoreOk (K : PySem.W.Frag) (ι : List Addr) (H : Hp) (st : Store) : Prop where
  len : ι.length = st.length
  nd : ι.Nodup
  at_ : ∀ (n : Nat) o a, st[n]? = some o → ι[n]? = some a → SOk K ι H a o
theorem StoreOk.track {K : PySem.W.Frag} {ι : List Addr} {H : Hp} {st : Store} (s : StoreOk K ι H st) {a : Addr} (h : a ∈ ι) : (∃ xs, H a = some (.lst xs)) ∨ ∃ C dx vs, H a = some (.ins C dx vs) := by
  obtain ⟨n, hn, e⟩ := List.mem_iff_getElem.mp h
  have hs : n < st.length := by rw [← s.len]; exact hn
  have q := s.at_ n st[n] a (by simp [hs]) (by simp [hn, e])
  revert q
  generalize st[n] = o
  intro q
  cases o with
  | cell ds => obtain ⟨xs, e, _⟩ := q; exact .inl ⟨xs, e⟩
  | inst c fs => obtain ⟨dx, vs, e, _⟩ := q; exact .inr ⟨_, _, _, e⟩
theorem StoreOk.notTup {K : PySem.W.Frag} {ι : List Addr} {H : Hp} {st : Store} (s : StoreOk K ι H st) {a : Addr} {xs : List V} (h : Rd H a (.tup xs)) : a ∉ ι := fun m => by
  rcases s.track m with ⟨ys, e⟩ | ⟨C, dx, vs, e⟩
  · rcases h with h | ⟨o, h⟩ <;> (rw [e] at h; cases h)
  · rcases h with h | ⟨o, h⟩ <;> (rw [e] at h; cases h)
structure Step (K : PySem.W.Frag) (H : Hp) (ι : List Addr) (H' : Hp) (ι' : List Addr) (st' : Store) : Prop where
  keep : ∀ a o, H a = some o → a ∉ ι → H' a = some o
  pre : ι <+: ι'
  new : ∀ a, a ∈ ι' → a ∈ ι ∨ H a = none
  live : ∀ a, a ∈ ι → ∃ o, H a = some o
  store : StoreOk K ι' H' st'
  nf : ∀ a o u, H' a = some (.frz o u) → H a = some (.frz o u)
section
variable {K : PySem.W.Frag} {ι ι' ι2 : List Addr} {H H' H2 : Hp} {st st' st2 : Store} {S S' : Addr → Prop}
theorem StoreOk.live (s : StoreOk K ι H st) {a : Addr} (h : a ∈ ι) : ∃ o, H a = some o := by
  rcases s.track h with ⟨_, e⟩ | ⟨_, _, _, e⟩ <;> exact ⟨_, e⟩
theorem Step.refl (s : StoreOk K ι H st) : Step K H ι H ι st := ⟨fun _ _ e _ => e, List.prefix_refl _, fun _ h => .inl h, fun _ h => s.live h, s, fun _ _ _ h => h⟩
theorem Step.noneOf (x : Step K H ι H' ι' st') {a : Addr} (h : H' a = none) : H a = none := by
  cases q : H a with
  | none => rfl
  | some o =>
    by_cases m : a ∈ ι
    · have m' : a ∈ ι' := x.pre.subset m
      obtain ⟨o', e⟩ := x.store.live m'
      rw [h] at e; cases e
    · rw [x.keep a o q m] at h; cases h
theorem Step.out (x : Step K H ι H' ι' st') {a : Addr} {o : HO} (h : H a = some o) (m : a ∉ ι) : a ∉ ι' := fun m' => by
  rcases x.new a m' with q | q
  · exact m q
  · rw [h] at q; cases q
theorem Step.trans (x : Step K H ι H' ι' st') (y : Step K H' ι' H2 ι2 st2) : Step K H ι H2 ι2 st2 where
  keep := fun a o e m => y.keep a o (x.keep a o e m) (x.out e m)
  pre := x.pre.trans y.pre
  new := fun a m => by
    rcases y.new a m with q | q
    · exact x.new a q
    · exact .inr (x.noneOf q)
  live := x.live
  store := y.store
  nf := fun a o u h => x.nf a o u (y.nf a o u h)
theorem Step.rd (x : Step K H ι H' ι' st') {a : Addr} {u : HO} (h : Rd H a u) (m : a ∉ ι) : Rd H' a u := by
  rcases h with h | ⟨o, h⟩
  · exact .inl (x.keep _ _ h m)
  · exact .inr ⟨o, x.keep _ _ h m⟩
theorem Step.sqT (s : StoreOk K ι H st) (x : Step K H ι H' ι' st') {a : Addr} {xs : List V} (h : SqT K H a xs) : SqT K H' a xs := by
  rcases h with h | h
  · exact .inl (x.rd h (s.notTup h))
  · exact .inr h
theorem Rd.some {a : Addr} {u : HO} (h : Rd H a u) : ∃ o, H a = some o := by
  rcases h with h | ⟨o, h⟩ <;> exact ⟨_, h⟩
theorem prefix_get {a : Addr} {n : Nat} (p : ι <+: ι') (h : ι[n]? = some a) : ι'[n]? = some a := by
  obtain ⟨t, rfl⟩ := p
  have hn : n < ι.length := (List.getElem?_eq_some_iff.mp h).1
  rw [List.getElem?_append_left hn]; exact h
theorem Step.carry (s : StoreOk K ι H st) (x : Step K H ι H' ι' st') (hS : ∀ a, S a → (∃ o, H a = some o) → a ∉ ι) (hS' : ∀ a, S a → (∃ o, H a = some o) → S' a) : Carry K ι H S ι' H' S' where
  tup := fun a xs h => x.sqT s h
  lst := fun a xs h r => ⟨x.rd r (hS a h (Rd.some r)), hS' a h (Rd.some r)⟩
  dct := fun a xs h r => ⟨x.rd r (hS a h (Rd.some r)), hS' a h (Rd.some r)⟩
  obj := fun n a h => prefix_get x.pre h
/-- weaker about what may be written -/
theorem Carry.sub (h : ∀ a, S a → (∃ o, H a = some o) → S' a) : Carry K ι H S ι H S' := ⟨fun _ _ h => h, fun a _ s r => ⟨r, h a s (Rd.some r)⟩, fun a _ s r => ⟨r, h a s (Rd.some r)⟩, fun _ _ h => h⟩
end

/-! ### a frame -/
structure Gs where
  K : PySem.W.Frag
  H0 : Hp
  i0 : List Addr
  n : Nat
abbrev Own := Nat → Option Addr
def Clean (O : Own) (ι : List Addr) (a : Addr) : Prop := (∀ i, O i ≠ some a) ∧ a ∉ ι
def Mine (G : Gs) (O : Own) (ι : List Addr) (a : Addr) : Prop := G.H0 a = none ∧ Clean O ι a
def NewA (H : Hp) (ι : List Addr) (a : Addr) : Prop := H a = none ∧ a ∉ ι
def OutA (ι : List Addr) (a : Addr) : Prop := a ∉ ι
def SlotOk (G : Gs) (H : Hp) (ι : List Addr) (O : Own) (i : Nat) (sv : Option (Option V)) : Sl → Prop
  | .un => O i = none
  | .vl d => O i = none ∧ ∃ v, sv = some (some v) ∧ Rep G.K ι H (Clean O ι) v d
  | .ow d => ∃ a, O i = some a ∧ sv = some (some (.ref a)) ∧ G.H0 a = none ∧ a ∉ ι ∧ (match d with
    | .lst ds => ∃ xs, H a = some (.lst xs) ∧ xs.length ≤ LINE ∧ Reps G.K ι H (Mine G O ι) xs ds
    | .dct ds => ∃ xs, H a = some (.dK xs) ∧ xs.length ≤ LINE ∧ RepKs G.K ι H (Mine G O ι) xs ds
    | _ => False)
structure StOk (G : Gs) (σ : L2.St) (H : Hp) (env : En) (st : Store) (ι : List Addr) (O : Own) : Prop where
  base : Step G.K G.H0 G.i0 H ι st
  ln1 : σ.length = G.n
  ln2 : env.length = G.n
  slot : ∀ i, SlotOk G H ι O i (σ[i]?) (env.getD i .un)
  inj : ∀ i j a, O i = some a → O j = some a → i = j
section
variable {G : Gs} {σ : L2.St} {H H' : Hp} {env : En} {st st' : Store} {ι ι' : List Addr} {O : Own}
theorem StOk.owned (x : StOk G σ H env st ι O) {i : Nat} {a : Addr} (h : O i = some a) : (∃ o, H a = some o) ∧ a ∉ ι ∧ G.H0 a = none := by
  have q := x.slot i
  cases e : env.getD i .un with
  | un => rw [e] at q; have q' : O i = none := q; rw [h] at q'; cases q'
  | vl d => rw [e] at q; have q' := q.1; rw [h] at q'; cases q'
  | ow d =>
    rw [e] at q
    obtain ⟨b, h1, h2, h3, h4, h5⟩ := q
    rw [h] at h1; cases h1
    refine ⟨?_, h4, h3⟩
    cases d with
    | lst ds => obtain ⟨xs, e, _⟩ := h5; exact ⟨_, e⟩
    | dct ds => obtain ⟨xs, e, _⟩ := h5; exact ⟨_, e⟩
    | _ => exact h5.elim
theorem StOk.step (x : StOk G σ H env st ι O) (y : Step G.K H ι H' ι' st') : StOk G σ H' env st' ι' O where
  base := x.base.trans y
  ln1 := x.ln1
  ln2 := x.ln2
  inj := x.inj
  slot := fun i => by
    have q := x.slot i
    have cc : Carry G.K ι H (Clean O ι) ι' H' (Clean O ι') := y.carry x.base.store (fun a h _ => h.2) fun a h ⟨o, e⟩ => ⟨h.1, y.out e h.2⟩
    have cm : Carry G.K ι H (Mine G O ι) ι' H' (Mine G O ι') := y.carry x.base.store (fun a h _ => h.2.2) fun a h ⟨o, e⟩ => ⟨h.1, h.2.1, y.out e h.2.2⟩
    cases e : env.getD i .un with
    | un => rw [e] at q; exact q
    | vl d =>
      rw [e] at q
      obtain ⟨h1, v, h2, h3⟩ := q
      exact ⟨h1, v, h2, cc.all.1 h3⟩
    | ow d =>
      rw [e] at q
      obtain ⟨a, h1, h2, h3, h4, h5⟩ := q
      cases d with
      | lst ds =>
        obtain ⟨xs, h6, h7, h8⟩ := h5
        exact ⟨a, h1, h2, h3, y.out h6 h4, xs, y.keep _ _ h6 h4, h7, cm.all.2.1 h8⟩
      | dct ds =>
        obtain ⟨xs, h6, h7, h8⟩ := h5
        exact ⟨a, h1, h2, h3, y.out h6 h4, xs, y.keep _ _ h6 h4, h7, cm.all.2.2 h8⟩
      | _ => exact h5.elim
end

/-! ### readings over data -/
/-- what an error bears -/
def ExRep (K : PySem.W.Frag) (ι : List Addr) (H : Hp) (cls : Value) (d : Option Addr) (e : Exn) : Prop :=
  cls = .ref (He.ga K e.cls) ∧ (e.fs = [] ∨ ∃ dx vs, d = some dx ∧ H dx = some (.xd vs) ∧ vs.map (·.1) = e.fs.map (·.1) ∧ D.imms (e.fs.map (·.2)) = true ∧ Reps K ι H (fun _ => False) (vs.map (·.2)) (e.fs.map (·.2)))
/-- the wish about errors: which error with which store -/
abbrev Wish := Exn → Store → Prop
/-- .. over the layer -/
def XW (G : Gs) (W : Wish) : XK := fun cls d H' => ∃ e st' ι', W e st' ∧ ExRep G.K ι' H' cls d e ∧ Step G.K G.H0 G.i0 H' ι' st'
def Kind (v : Bool) (H : Hp) (ι : List Addr) : Addr → Prop := if v then NewA H ι else OutA ι
/-- an expression: v: its value is new or holds nothing that could be changed -/
def tE (G : Gs) (W : Wish) (v : Bool) (E : Ev) : TE := fun σ H Q => ∃ env st ι O, StOk G σ H env st ι O ∧ (E st env).Sat W fun d st' => ∀ u H' ι', Step G.K H ι H' ι' st' → Rep G.K ι' H' (Kind v H ι') u d → Q u H'
def tT (G : Gs) (W : Wish) (T : Tv) : TT := fun σ H Q => ∃ env st ι O, StOk G σ H env st ι O ∧ (T st env).Sat W fun b st' => ∀ H' ι', Step G.K H ι H' ι' st' → Q b H'
def tA (G : Gs) (W : Wish) (v : Bool) (A : Av) : TA := fun σ H Q => ∃ env st ι O, StOk G σ H env st ι O ∧ (A st env).Sat W fun ds st' => ∀ us H' ι', Step G.K H ι H' ι' st' → Reps G.K ι' H' (Kind v H ι') us ds → Q us H'
/-- a def's promise -/
def spD (K : PySem.W.Frag) (F : Fn) : Sp := fun vs H Q E => ∃ ds st ι, StoreOk K ι H st ∧ Reps K ι H (OutA ι) vs ds ∧
  (F st ds).Sat (fun e st' => ∀ cls d H' ι', Step K H ι H' ι' st' → ExRep K ι' H' cls d e → E cls d H') fun d st' => ∀ v H' ι', Step K H ι H' ι' st' → Rep K ι' H' (NewA H ι') v d → Q v H'
end Dl
end
section
set_option Elab.async false
set_option linter.all false
set_option maxRecDepth 100000
set_option maxHeartbeats 4000000
/-! Dl3: the rules of expressions over data. -/
namespace Dl
open PySem PySem.Spec PyProof.Rows L2

theorem pe_weak {X : Cx} {e : Expr} {t t' : TE} (h : PE X e t) (w : ∀ σ H Q, t' σ H Q → t σ H Q) : PE X e t' := ⟨fun pins s σ H Q I q => h.run pins s σ H Q I (w σ H Q q)⟩
theorem pt_weak {X : Cx} {e : Expr} {t t' : TT} (h : PT X e t) (w : ∀ σ H Q, t' σ H Q → t σ H Q) : PT X e t' := ⟨fun pins s σ H Q I q => h.run pins s σ H Q I (w σ H Q q)⟩
theorem pw_weak {X : Cx} {e : Expr} {t t' : TT} (h : PW X e t) (w : ∀ σ H Q, t' σ H Q → t σ H Q) : PW X e t' := ⟨fun wh pins s σ H Q I q => h.run wh pins s σ H Q I (w σ H Q q)⟩
theorem pa_weak {X : Cx} {e : List Expr} {t t' : TA} (h : PA X e t) (w : ∀ σ H Q, t' σ H Q → t σ H Q) : PA X e t' := ⟨fun pos pins s σ H Q I q => h.run pos pins s σ H Q I (w σ H Q q)⟩

/-- what a body's rules lean on -/
structure Cok (X : Cx) (G : Gs) (k : Nat) : Prop where
  K : G.K = X.K
  calm : X.calm = true
  room : Room k X.A
  nd : X.N.Nodup
  n : G.n = X.N.length

section
variable {X : Cx} {G : Gs} {W : Wish} {k : Nat} {a b c : Expr} {A B : Ev} {pos : Pos} {v : Bool} {σ : L2.St} {H : Hp} {Q : VK}
variable {K : PySem.W.Frag} {ι : List Addr} {st : Store} {S : Addr → Prop}

/-! ### kinds -/
theorem Rep.weaken {ι : List Addr} {S S' : Addr → Prop} {u : V} {d : D} (h : Rep K ι H S u d) (w : ∀ a, S a → (∃ o, H a = some o) → S' a) : Rep K ι H S' u d := (Carry.sub w).all.1 h
theorem Reps.weaken {ι : List Addr} {S S' : Addr → Prop} {u : List V} {d : List D} (h : Reps K ι H S u d) (w : ∀ a, S a → (∃ o, H a = some o) → S' a) : Reps K ι H S' u d := (Carry.sub w).all.2.1 h
theorem Kind.out {H : Hp} {ι : List Addr} {a : Addr} : ∀ {v : Bool}, Kind v H ι a → OutA ι a
  | true, h => h.2
  | false, h => h
theorem Kind.of_new {H : Hp} {ι : List Addr} {a : Addr} : ∀ {v : Bool}, NewA H ι a → Kind v H ι a
  | true, h => h
  | false, h => h.2
/-- a value may be looked at -/
theorem de_look (h : PE X a (tE G W v A)) : PE X a (tE G W false A) := pe_weak h fun σ H Q ⟨env, st, ι, O, x, q⟩ => ⟨env, st, ι, O, x, q.mono fun d st' k u H' ι' s r => k u H' ι' s (r.weaken fun _ h _ => h.out)⟩
theorem de_new (h : PE X a (tE G W true A)) : PE X a (tE G W v A) := by
  cases v with
  | true => exact h
  | false => exact de_look h

/-- what follows an expression, as from its own start -/
def After (K : PySem.W.Frag) (v : Bool) (H : Hp) (ι : List Addr) (Q : VK) (d : D) (st' : Store) : Prop := ∀ u H' ι', Step K H ι H' ι' st' → Rep K ι' H' (Kind v H ι') u d → Q u H'
theorem Kind.back {H H1 : Hp} {ι ι1 ι' : List Addr} {st1 : Store} {a : Addr} (s : Step K H ι H1 ι1 st1) : ∀ {v : Bool}, Kind v H1 ι' a → Kind v H ι' a
  | true, h => ⟨s.noneOf h.1, h.2⟩
  | false, h => h
theorem After.shift {H H1 : Hp} {ι ι1 : List Addr} {st1 st' : Store} {d : D} (s : Step K H ι H1 ι1 st1) (h : After K v H ι Q d st') : After K v H1 ι1 Q d st' := fun u H' ι' s' r =>
  h u H' ι' (s.trans s') (r.weaken fun _ q _ => Kind.back s q)
theorem look_step {H H1 : Hp} {ι ι1 : List Addr} {st st1 : Store} {u : V} {d : D} (t : StoreOk K ι H st) (s : Step K H ι H1 ι1 st1) (r : Rep K ι H (OutA ι) u d) : Rep K ι1 H1 (OutA ι1) u d :=
  (s.carry (S' := OutA ι1) t (fun _ h _ => h) fun a h ⟨o, e⟩ => s.out e h).all.1 r
theorem look_steps {H H1 : Hp} {ι ι1 : List Addr} {st st1 : Store} {u : List V} {d : List D} (t : StoreOk K ι H st) (s : Step K H ι H1 ι1 st1) (r : Reps K ι H (OutA ι) u d) : Reps K ι1 H1 (OutA ι1) u d :=
  (s.carry (S' := OutA ι1) t (fun _ h _ => h) fun a h ⟨o, e⟩ => s.out e h).all.2.1 r
theorem new_step {H0 H H1 : Hp} {ι ι1 : List Addr} {st st1 : Store} {u : V} {d : D} (t : StoreOk K ι H st) (s : Step K H ι H1 ι1 st1) (r : Rep K ι H (NewA H0 ι) u d) : Rep K ι1 H1 (NewA H0 ι1) u d :=
  (s.carry (S' := NewA H0 ι1) t (fun _ h _ => h.2) fun a h ⟨o, e⟩ => ⟨h.1, s.out e h.2⟩).all.1 r
theorem new_steps {H0 H H1 : Hp} {ι ι1 : List Addr} {st st1 : Store} {u : List V} {d : List D} (t : StoreOk K ι H st) (s : Step K H ι H1 ι1 st1) (r : Reps K ι H (NewA H0 ι) u d) : Reps K ι1 H1 (NewA H0 ι1) u d :=
  (s.carry (S' := NewA H0 ι1) t (fun _ h _ => h.2) fun a h ⟨o, e⟩ => ⟨h.1, s.out e h.2⟩).all.2.1 r

/-- an operation by values over data -/
def Ob1 (X : Cx) (v : Bool) (f : D → Store → Out D) (r : V → Hp → VK → Prop) : Prop :=
  ∀ (x : V) (dx : D) (H : Hp) (ι : List Addr) (st : Store) (Q : VK) (W : Wish), StoreOk X.K ι H st → Rep X.K ι H (OutA ι) x dx → (f dx st).Sat W (After X.K v H ι Q) → r x H Q
def Ob2 (X : Cx) (v : Bool) (f : D → D → Store → Out D) (r : R2) : Prop :=
  ∀ (x y : V) (dx dy : D) (H : Hp) (ι : List Addr) (st : Store) (Q : VK) (W : Wish), StoreOk X.K ι H st → Rep X.K ι H (OutA ι) x dx → Rep X.K ι H (OutA ι) y dy → (f dx dy st).Sat W (After X.K v H ι Q) → r x y H Q
theorem un1_reads {f : D → Store → Out D} {r : V → Hp → VK → Prop} (hK : G.K = X.K) (hf : Ob1 X v f r) (h : tE G W v (un1 f A) σ H Q) : tE G W false A σ H fun x H1 => r x H1 Q := by
  obtain ⟨env, st, ι, O, x, q⟩ := h
  refine ⟨env, st, ι, O, x, (Out.sat_bind q).mono fun d st1 q1 u H1 ι1 s1 r1 => ?_⟩
  rw [hK] at s1 r1
  refine hf u d H1 ι1 st1 Q W s1.store r1 (q1.mono fun d' st' k => ?_)
  rw [hK] at k
  exact After.shift s1 k
theorem bin2_reads {f : D → D → Store → Out D} {r : R2} (hK : G.K = X.K) (hf : Ob2 X v f r) (h : tE G W v (bin2 f A B) σ H Q) : tOp r (tE G W false A) (tE G W false B) σ H Q := by
  obtain ⟨env, st, ι, O, x, q⟩ := h
  refine ⟨env, st, ι, O, x, (Out.sat_bind q).mono fun d st1 q1 u H1 ι1 s1 r1 => ?_⟩
  refine ⟨env, st1, ι1, O, x.step s1, (Out.sat_bind q1).mono fun d2 st2 q2 u2 H2 ι2 s2 r2 => ?_⟩
  have r1' := look_step s1.store s2 r1
  have s12 := s1.trans s2
  rw [hK] at s12 r1' r2
  refine hf u u2 d d2 H2 ι2 st2 Q W s12.store r1' r2 (q2.mono fun d' st' k => ?_)
  rw [hK] at k
  exact After.shift s12 k
theorem de_bin {op : Operator} {f : D → D → Store → Out D} {r : R2} (hK : G.K = X.K) (ho : OpR X (binaryOp op) r) (hf : Ob2 X v f r) (ha : PE X a (tE G W false A)) (hb : PE X b (tE G W false B)) : PE X (.BinOp a op b pos) (tE G W v (bin2 f A B)) :=
  pe_weak (pe_op ho ha hb) fun _ _ _ h => bin2_reads hK hf h
theorem de_un {op : UnaryOp} {f : D → Store → Out D} {r : V → Hp → VK → Prop} (hK : G.K = X.K) (ho : UnR X (unaryOp op) r) (hf : Ob1 X v f r) (ha : PE X a (tE G W false A)) : PE X (.UnaryOp op a pos) (tE G W v (un1 f A)) :=
  pe_weak (pe_un ho ha) fun _ _ _ h => un1_reads hK hf h
theorem de_cmp {op : CmpOp} {f : D → D → Store → Out D} {r : R2} (hK : G.K = X.K) (ho : OpR X (compareOp op) r) (hf : Ob2 X v f r) (ha : PE X a (tE G W false A)) (hb : PE X b (tE G W false B)) (hm : behindInMarks op b = false) :
    PE X (.Compare a [op] [b] pos) (tE G W v (bin2 f A B)) := pe_weak (pe_cmpR ho ha hb hm) fun _ _ _ h => bin2_reads hK hf h
/-- a value's reading as a test -/
theorem tVal_reads (h : tT G W (tVal A) σ H Q') : tE G W false A σ H fun x H' => ∃ k, x = .bl k ∧ Q' k H' := by
  obtain ⟨env, st, ι, O, x, q⟩ := h
  refine ⟨env, st, ι, O, x, (Out.sat_bind q).mono fun d st1 q1 u H1 ι1 s1 r1 => ?_⟩
  cases r1 with
  | bl b => exact ⟨b, rfl, q1 H1 ι1 s1⟩
  | _ => exact (show False from q1).elim
theorem dt_cmp {op : CmpOp} {f : D → D → Store → Out D} {r : R2} (hK : G.K = X.K) (ho : OpR X (compareOp op) r) (hf : Ob2 X false f r) (ha : PE X a (tE G W false A)) (hb : PE X b (tE G W false B)) (hm : behindInMarks op b = false) :
    PT X (.Compare a [op] [b] pos) (tT G W (tVal (bin2 f A B))) := pt_weak (pt_cmpR ho ha hb hm) fun _ _ _ h => bin2_reads hK hf (tVal_reads h)
theorem dt_val {e : Expr} (h : PE X e (tE G W v A)) (he : ∀ whole, isTrue e X.env whole = (do let v ← whole; standAt e.pos; holding [v] (truthy v))) : PT X e (tT G W (tVal A)) :=
  pt_weak (pt_val (de_look h) he) fun _ _ _ h => tVal_reads h

/-! ### constants, names -/
theorem fin_after {d : D} {u : V} {H : Hp} {ι : List Addr} {st : Store} (t : StoreOk K ι H st) (k : After K v H ι Q d st) (r : Rep K ι H (fun _ => False) u d) : Q u H := k u H ι (Step.refl t) (r.weaken fun _ h _ => h.elim)
theorem tE_const {d : D} {u : V} (r : ∀ (H : Hp) (ι : List Addr), Rep G.K ι H (fun _ => False) u d) (h : tE G W v (eC d) σ H Q) : tC u σ H Q := by
  obtain ⟨env, st, ι, O, x, q⟩ := h
  exact q u H ι (Step.refl x.base.store) ((r H ι).weaken fun _ h _ => h.elim)
theorem de_int {i : Int} {j : Nat} : PE X (.Constant (.int i) j pos) (tE G W v (eC (.int i))) := pe_weak pe_int fun _ _ _ h => tE_const (fun _ _ => .int i) h
theorem de_bl {i : Bool} {j : Nat} : PE X (.Constant (.bool i) j pos) (tE G W v (eC (.bl i))) := pe_weak pe_bl fun _ _ _ h => tE_const (fun _ _ => .bl i) h
theorem de_non {j : Nat} : PE X (.Constant .none j pos) (tE G W v (eC .non)) := pe_weak pe_non fun _ _ _ h => tE_const (fun _ _ => .non) h
theorem de_str {i : Str} {j : Nat} (hz : i.length ≤ LINE) : PE X (.Constant (.str i) j pos) (tE G W v (eC (.str i))) := pe_weak pe_str fun _ _ _ h => tE_const (fun _ _ => .str i hz) h
/-- a constant of the module -/
theorem de_glob {x : Str} {u : V} {w : Value} {d : D} (hg : Gl X x) (hm : X.mg x = some w) (r : RelV u w) (rd : ∀ (H : Hp) (ι : List Addr), Rep G.K ι H (fun _ => False) u d) (hd : (x == ("__debug__" : Str)) = false) : PE X (.Name x pos) (tE G W v (eC d)) :=
  pe_weak (pe_glob hg hm r hd) fun _ _ _ h => tE_const rd h
theorem tE_var {i : Nat} (h : tE G W false (eVar i) σ H Q) : tVar i σ H Q := by
  obtain ⟨env, st, ι, O, x, q⟩ := h
  have z := x.slot i
  unfold eVar at q
  cases e : env.getD i .un with
  | un => rw [e] at q; exact q.elim
  | vl d =>
    rw [e] at q z
    obtain ⟨_, u, h1, h2⟩ := z
    exact ⟨u, h1, q u H ι (Step.refl x.base.store) (h2.weaken fun _ h _ => h.2)⟩
  | ow d =>
    rw [e] at q z
    obtain ⟨p, h1, h2, h3, h4, h5⟩ := z
    refine ⟨.ref p, h2, q _ H ι (Step.refl x.base.store) ?_⟩
    cases d with
    | lst ds =>
      obtain ⟨xs, h6, h7, h8⟩ := h5
      exact .lst (.inl h6) h4 h7 (h8.weaken fun _ h _ => h.2.2)
    | dct ds =>
      obtain ⟨xs, h6, h7, h8⟩ := h5
      exact .dct (.inl h6) h4 h7 ((Carry.sub fun _ h _ => h.2.2).all.2.2 h8)
    | _ => exact h5.elim
theorem de_var {i : Nat} {x : Str} (hN : X.N[i]? = some x) (hv : Vis X.env.scope x) (hd : (x == ("__debug__" : Str)) = false) (hcd : (x == ("__classdict__" : Str)) = false) : PE X (.Name x pos) (tE G W false (eVar i)) :=
  pe_weak (pe_var hN hv hd hcd) fun _ _ _ h => tE_var h
/-- nothing that could be changed: as a value of its own -/
theorem tE_imm (h : tE G W v (eImm A) σ H Q) : tE G W false A σ H Q := by
  obtain ⟨env, st, ι, O, x, q⟩ := h
  refine ⟨env, st, ι, O, x, (Out.sat_bind q).mono fun d st1 q1 u H1 ι1 s1 r1 => ?_⟩
  cases e : d.imm with
  | true =>
    simp only [e, if_true] at q1
    exact q1 u H1 ι1 s1 ((Rep.imm _).1 r1 e)
  | false =>
    simp only [e] at q1
    exact (show False from q1).elim
theorem de_imm (h : PE X a (tE G W false A)) : PE X a (tE G W v (eImm A)) := pe_weak h fun _ _ _ h => tE_imm h
end
end Dl
end
section
set_option Elab.async false
set_option linter.all false
set_option maxRecDepth 100000
set_option maxHeartbeats 4000000
/-! Dl4: operators, subscripts, built-ins over data. -/
namespace Dl
open PySem PySem.Spec PyProof.Rows L2

/-- a new list, tuple is laid -/
theorem Step.laid {K : PySem.W.Frag} {H : Hp} {ι : List Addr} {st : Store} (t : StoreOk K ι H st) {p : Addr} (hp : H p = none) (o : HO) (ho : ∀ q u, o ≠ .frz q u := by intro _ _ h; cases h) : Step K H ι (upd H p o) ι st := by
  have keep : ∀ a o', H a = some o' → (upd H p o) a = some o' := fun a o' e => by rw [upd_ne (ne_of_none e hp)]; exact e
  have c : Carry K ι H (fun _ => False) ι (upd H p o) (fun _ => False) := ⟨fun a xs h => by
    rcases h with (h | ⟨q, h⟩) | h
    · exact .inl (.inl (keep _ _ h))
    · exact .inl (.inr ⟨q, keep _ _ h⟩)
    · exact .inr h, fun _ _ h => h.elim, fun _ _ h => h.elim, fun _ _ h => h⟩
  refine ⟨fun a o' e _ => keep a o' e, List.prefix_refl _, fun _ h => .inl h, fun _ h => t.live h, ⟨t.len, t.nd, fun n so a h1 h2 => ?_⟩, fun a q u h => ?_⟩
  rotate_left
  · by_cases e : a = p
    · subst e; rw [upd_same] at h; exact absurd (Option.some.inj h) (ho q u)
    · rw [upd_ne e] at h; exact h
  have q := t.at_ n so a h1 h2
  cases so with
  | cell ds => obtain ⟨xs, e, h3, h4, h5⟩ := q; exact ⟨xs, keep _ _ e, h3, h4, c.all.2.1 h5⟩
  | inst cl fs => obtain ⟨dx, vs, e, h3, h4, h5, h6, h7⟩ := q; exact ⟨dx, vs, keep _ _ e, h3, h4, h5, h6, c.all.2.1 h7⟩
theorem not_iota {K : PySem.W.Frag} {H : Hp} {ι : List Addr} {st : Store} (t : StoreOk K ι H st) {p : Addr} (hp : H p = none) : p ∉ ι := fun m => by
  obtain ⟨o, e⟩ := t.live m
  rw [hp] at e; cases e
section
variable {X : Cx} {v : Bool} {K : PySem.W.Frag} {H : Hp} {ι : List Addr} {st : Store} {Q : VK} {W : Wish}
theorem after_lst {ds : List D} {xs : List V} {p : Addr} (t : StoreOk K ι H st) (k : After K v H ι Q (.lst ds) st) (hp : H p = none) (hl : xs.length ≤ LINE) (r : Reps K ι H (NewA H ι) xs ds) : Q (.ref p) (upd H p (.lst xs)) := by
  have s := Step.laid t hp (.lst xs)
  refine k _ _ _ s (.lst (.inl upd_same) (Kind.of_new ⟨hp, not_iota t hp⟩) hl ?_)
  exact (s.carry (S' := Kind v H ι) t (fun _ h _ => h.2) fun a h _ => Kind.of_new h).all.2.1 r
theorem after_tup {ds : List D} {xs : List V} {p : Addr} (t : StoreOk K ι H st) (k : After K v H ι Q (.tup ds) st) (hp : H p = none) (hl : xs.length ≤ LINE) (r : Reps K ι H (NewA H ι) xs ds) : Q (.ref p) (upd H p (.tup xs)) := by
  have s := Step.laid t hp (.tup xs)
  refine k _ _ _ s (.tup (.inl (.inl upd_same)) hl ?_)
  exact (s.carry (S' := Kind v H ι) t (fun _ h _ => h.2) fun a h _ => Kind.of_new h).all.2.1 r
theorem after_flat {d : D} {u : V} (t : StoreOk K ι H st) (k : After K v H ι Q d st) (r : Rep K ι H (fun _ => False) u d) : Q u H := k u H ι (Step.refl t) (r.weaken fun _ h _ => h.elim)

/-! ### arithmetic -/
theorem opI_ok {f : Value → Value → Sem Value} {g : Int → Int → V} : OpR X f (rI0 g) → OpR X f (rI0 g) := id
theorem ob_sub : Ob2 X v dSub (rI0 fun i j => .int (i - j)) := by
  intro x y dx dy H ι st Q W t rx ry q
  cases rx <;> cases ry <;> first | exact (show False from q).elim | skip
  exact ⟨_, _, rfl, rfl, after_flat t q (.int _)⟩
theorem small64_ok {i : Int} (h : small64 i = true) : -(2 ^ 64) < i ∧ i < 2 ^ 64 := of_decide_eq_true h
/-- a list times an int, whichever may be read -/
def rRepL : R2 := fun x y H Q => ∃ l k xs, x = .ref l ∧ y = .int k ∧ Rd H l (.lst xs) ∧ -(2 ^ 63) ≤ k ∧ k < 2 ^ 63 ∧ xs.length * k.toNat ≤ sizeLine ∧
  ∀ p, H p = none → Q (.ref p) (upd H p (.lst (List.replicate k.toNat xs).flatten))
theorem op_repL : OpR X (binaryOp .Mult) rRepL := by
  intro pins s σ H x y v u Q I rx ry h
  obtain ⟨l, k, xs, rfl, rfl, hH, h1, h2, hz, q⟩ := h
  cases rx
  obtain ⟨t, rfl⟩ := ry
  obtain ⟨z, its, n, r, e⟩ := (show ObjOk X.prog X.w H s.heap l (.lst xs) from hH.ok I.hok)
  have hl := r.length
  have hlen : its.toArray.size * k.toNat ≤ sizeLine := by rw [List.size_toArray, ← hl]; exact hz
  have hcap : ¬ its.toArray.size * k.toNat > (2 ^ 63 - 1) / 8 := by
    have : (sizeLine : Nat) ≤ (2 ^ 63 - 1) / 8 := by decide
    omega
  have hfit : ¬ (!Builtin.List.listFitsIndex k) = true := by
    rw [fitsIndex_both h1 h2]
    exact Bool.false_ne_true
  have hlong : ¬ Builtin.List.listTooLong (its.toArray.size * k.toNat) = true := by
    rw [notLongL hlen]
    exact Bool.false_ne_true
  have hnew : List.foldl (fun x1 x2 => x1 ++ x2) #[] (List.replicate (if its.toArray.isEmpty = true then 0 else k.toNat) its.toArray) = (List.replicate k.toNat its).flatten.toArray := by
    have f0 : ∀ m : Nat, List.foldl (fun x1 x2 => x1 ++ x2) #[] (List.replicate m its.toArray) = (List.replicate m its).flatten.toArray := fun m => by
      have := foldl_rep its m []
      rw [List.nil_append] at this
      exact this
    rw [f0]
    cases its with
    | nil => simp
    | cons a r' => rw [if_neg (by simp)]
  refine wpAny_binaryOp_repeat_ref (T := "list") (U := "int") (by decide) ⟨_, e, rfl⟩ (fun s' => typeIs_int s' k t) noFill_list_mul F.fills_int_mul F.slot_int_rmul repeat_list F.slot_int_index.lookup
    (call_meets F.slot_int_rmul (typeIs_int s k t) F.entry_int_rmul (F.args_int_rmul_2 _ _) (int___rmul___int_list k t l its.toArray n)
      ⟨e, rfl, ⟨_, e, rfl⟩, call_meets F.slot_list_mul ⟨_, e, rfl⟩ F.entry_list_mul (F.args_list_mul_2 _ _) (AutoListH.list___mul___list_int_3 l its.toArray n k t hfit hcap hlong) ⟨e, ?_⟩⟩)
  rw [hnew]
  exact ⟨.ref _, _, I.lnew (t' := s.toks) (r.rep k.toNat) (by rw [PyProof.Rows.lm_len_rep_flat, Nat.mul_comm]; exact hz), rfl, q _ I.fresh⟩
theorem Reps.rep {S : Addr → Prop} {vs : List V} {ds : List D} (h : Reps K ι H S vs ds) : ∀ n : Nat, Reps K ι H S (List.replicate n vs).flatten (List.replicate n ds).flatten
  | 0 => .nil
  | n + 1 => by
    rw [List.replicate_succ, List.replicate_succ, List.flatten_cons, List.flatten_cons]
    exact h.append (Reps.rep h n)
theorem ob_mul : Ob2 X v dMul (fun x y H Q => rI CMul (fun i j => .int (i * j)) x y H Q ∨ rRepL x y H Q) := by
  intro x y dx dy H ι st Q W t rx ry q
  cases rx <;> cases ry <;> first | exact (show False from q).elim | skip
  · simp only [dMul] at q
    split at q
    · rename_i h
      rw [Bool.or_eq_true] at h
      exact .inl ⟨_, _, rfl, rfl, h.imp small64_ok small64_ok, after_flat t q (.int _)⟩
    · exact (show False from q).elim
  · rename_i a xs ds h1 h2 h3 h4 k
    simp only [dMul] at q
    split at q
    · rename_i h
      simp only [Bool.and_eq_true, decide_eq_true_eq] at h
      obtain ⟨⟨⟨h5, h6⟩, h7⟩, h8⟩ := h
      have hl : xs.length * k.toNat ≤ LINE := by rw [h4.length]; exact h8
      refine .inr ⟨a, k, xs, rfl, rfl, h1, by omega, by omega, by rw [← line_eq]; exact hl, fun p hp => after_lst t q hp ?_ ((h4.imm _ h5).rep _)⟩
      rw [PyProof.Rows.lm_len_rep_flat, Nat.mul_comm]; exact hl
    · exact (show False from q).elim
theorem op_mulD : OpR X (binaryOp .Mult) (fun x y H Q => rI CMul (fun i j => .int (i * j)) x y H Q ∨ rRepL x y H Q) := OpR.or op_mul op_repL
theorem ob_mod : Ob2 X v dMod (rI (fun _ j => 0 < j) fun i j => .int (i % j)) := by
  intro x y dx dy H ι st Q W t rx ry q
  cases rx <;> cases ry <;> first | exact (show False from q).elim | skip
  simp only [dMod] at q
  split at q
  · rename_i h; exact ⟨_, _, rfl, rfl, h, after_flat t q (.int _)⟩
  · exact (show False from q).elim
theorem ob_fdiv : Ob2 X v dFdiv (rI CDiv fun i j => .int (i / j)) := by
  intro x y dx dy H ι st Q W t rx ry q
  cases rx <;> cases ry <;> first | exact (show False from q).elim | skip
  simp only [dFdiv] at q
  split at q
  · rename_i h; exact ⟨_, _, rfl, rfl, h, after_flat t q (.int _)⟩
  · exact (show False from q).elim
theorem ob_pow : Ob2 X v dPow (rI CPow fun i j => .int (i ^ j.toNat)) := by
  intro x y dx dy H ι st Q W t rx ry q
  cases rx <;> cases ry <;> first | exact (show False from q).elim | skip
  simp only [dPow] at q
  split at q
  · rename_i h; exact ⟨_, _, rfl, rfl, h, after_flat t q (.int _)⟩
  · exact (show False from q).elim
theorem ob_neg : Ob1 X v dNeg (rU fun i => .int (-i)) := by
  intro x dx H ι st Q W t rx q
  cases rx <;> first | exact (show False from q).elim | skip
  exact ⟨_, rfl, after_flat t q (.int _)⟩
/-- list + list, whichever may be read -/
def rCatL : R2 := fun x y H Q => ∃ l b xs zs, x = .ref l ∧ y = .ref b ∧ Rd H l (.lst xs) ∧ Rd H b (.lst zs) ∧ xs.length + zs.length ≤ sizeLine ∧ ∀ p, H p = none → Q (.ref p) (upd H p (.lst (xs ++ zs)))
theorem op_catL : OpR X (binaryOp .Add) rCatL := by
  intro pins s σ H x y v u Q I rx ry h
  obtain ⟨l, b, xs, zs, rfl, rfl, hH, hB, hz, q⟩ := h
  cases rx
  cases ry
  obtain ⟨z, its, n, r, e⟩ := (show ObjOk X.prog X.w H s.heap l (.lst xs) from hH.ok I.hok)
  obtain ⟨z2, its2, n2, r2, e2⟩ := (show ObjOk X.prog X.w H s.heap b (.lst zs) from hB.ok I.hok)
  have hl := r.length
  have hl2 := r2.length
  refine PySem.P.add_list e e2 ?_ (by rw [List.size_toArray, List.size_toArray]; omega)
  have ea : its.toArray ++ its2.toArray = (its ++ its2).toArray := by simp
  rw [ea]
  exact ⟨.ref _, _, I.lnew (t' := s.toks) (r.append r2) (by rw [List.length_append]; omega), rfl, q _ I.fresh⟩
theorem ob_add : Ob2 X v dAdd (fun x y H Q => rI0 (fun i j => .int (i + j)) x y H Q ∨ ((∃ i j, x = .str i ∧ y = .str j ∧ i.length + j.length ≤ sizeLine ∧ Q (.str (i ++ j)) H) ∨ (rCatL x y H Q ∨ rCatA X.K x y H Q))) := by
  intro x y dx dy H ι st Q W t rx ry q
  cases rx <;> cases ry <;> first | exact (show False from q).elim | skip
  · exact .inl ⟨_, _, rfl, rfl, after_flat t q (.int _)⟩
  · simp only [dAdd] at q
    split at q
    · rename_i h
      refine .inr (.inl ⟨_, _, rfl, rfl, by rw [← line_eq]; exact h, after_flat t q (.str _ ?_)⟩)
      rename_i a _ b _
      have e : (a ++ b).length = a.length + b.length := by
        show (Str.append a b).cps.size = _
        simp [Str.append, Str.length]
      rw [e]; exact h
    · exact (show False from q).elim
  · rename_i a xs ds h1 h2 h3 b ys es g1 g2 g3
    simp only [dAdd] at q
    split at q
    · rename_i h
      simp only [Bool.and_eq_true, decide_eq_true_eq] at h
      obtain ⟨⟨i1, i2⟩, i3⟩ := h
      have l1 := h3.length
      have l2 := g3.length
      have rr := (h3.imm (NewA H ι) i1).append (g3.imm (NewA H ι) i2)
      refine .inr (.inr (.inr ⟨_, _, xs, ys, rfl, rfl, h1, g1, by rw [← line_eq]; omega, fun e => ?_, fun _ e => ?_, fun _ _ p hp => after_tup t q hp (by rw [List.length_append]; omega) rr⟩))
      · subst e
        have : ds = [] := by cases h3; rfl
        subst this
        exact q _ _ _ (Step.refl t) (.tup g1 g2 (g3.imm _ i2))
      · subst e
        have : es = [] := by cases g3; rfl
        subst this
        rw [List.append_nil] at q
        exact q _ _ _ (Step.refl t) (.tup h1 h2 (h3.imm _ i1))
    · exact (show False from q).elim
  · rename_i a xs ds h1 h2 h3 h4 b ys es g1 g2 g3 g4
    simp only [dAdd] at q
    split at q
    · rename_i h
      simp only [Bool.and_eq_true, decide_eq_true_eq] at h
      obtain ⟨⟨i1, i2⟩, i3⟩ := h
      have l1 := h4.length
      have l2 := g4.length
      have rr := (h4.imm (NewA H ι) i1).append (g4.imm (NewA H ι) i2)
      exact .inr (.inr (.inl ⟨_, _, xs, ys, rfl, rfl, h1, g1, by rw [← line_eq]; omega, fun p hp => after_lst t q hp (by rw [List.length_append]; omega) rr⟩))
    · exact (show False from q).elim
theorem op_addD : OpR X (binaryOp .Add) (fun x y H Q => rI0 (fun i j => .int (i + j)) x y H Q ∨ ((∃ i j, x = .str i ∧ y = .str j ∧ i.length + j.length ≤ sizeLine ∧ Q (.str (i ++ j)) H) ∨ (rCatL x y H Q ∨ rCatA X.K x y H Q))) :=
  OpR.or op_add (OpR.or op_add_str (OpR.or op_catL op_catA))

/-! ### comparisons -/
def cmOp : Cm → CmpOp
  | .lt => .Lt
  | .le => .LtE
  | .gt => .Gt
  | .ge => .GtE
def rCm (c : Cm) : R2 := fun x y H Q => (∃ i j, x = .int i ∧ y = .int j ∧ Q (.bl (c.int i j)) H) ∨ ∃ i j, x = .str i ∧ y = .str j ∧ Q (.bl (c.str i j)) H
theorem op_cm : ∀ c : Cm, OpR X (compareOp (cmOp c)) (rCm c)
  | .lt => OpR.or op_lt op_lt_str
  | .le => OpR.or op_le op_le_str
  | .gt => OpR.or op_gt op_gt_str
  | .ge => OpR.or op_ge op_ge_str
theorem ob_cm (c : Cm) : Ob2 X v (cmI c) (rCm c) := by
  intro x y dx dy H ι st Q W t rx ry q
  cases rx <;> cases ry <;> first | exact (show False from q).elim | skip
  · exact .inl ⟨_, _, rfl, rfl, after_flat t q (.bl _)⟩
  · exact .inr ⟨_, _, rfl, rfl, after_flat t q (.bl _)⟩
/-- .. of tuples, too -/
def rCmT (K : PySem.W.Frag) (c : Cm) : R2 := fun x y H Q => ∃ p q, Dp K H x p ∧ Dp K H y q ∧ PySem.W.alike p q = true ∧ p ≠ .none ∧ p.depth ≤ 60 ∧ Q (.bl (c.dat p q)) H
theorem op_cmT (hu : X.A.units + 64 < cLine) (c : Cm) : OpR X (compareOp (cmOp c)) (rCmT X.K c) := by
  intro pins s σ H x y v u Q I rx ry h
  obtain ⟨p, q, hp, hq, al, ne, dp, k⟩ := h
  obtain ⟨as, r1⟩ := Dp.reads I p x v hp rx
  obtain ⟨bs, r2⟩ := Dp.reads I q y u hq ry
  have hm : X.A.units + min p.depth q.depth < cLine := by omega
  cases c with
  | lt => exact PySem.W.lt_data r1 r2 al ne hm ⟨.bl _, H, I, rfl, k⟩
  | le => exact PySem.W.le_data r1 r2 al ne hm ⟨.bl _, H, I, rfl, k⟩
  | gt => exact PySem.W.gt_data r1 r2 al ne hm ⟨.bl _, H, I, rfl, k⟩
  | ge => exact PySem.W.ge_data r1 r2 al ne hm ⟨.bl _, H, I, rfl, k⟩
theorem op_cmD (hu : X.A.units + 64 < cLine) (c : Cm) : OpR X (compareOp (cmOp c)) (fun x y H Q => rCm c x y H Q ∨ rCmT X.K c x y H Q) := OpR.or (op_cm c) (op_cmT hu c)
theorem ob_cmD (c : Cm) : Ob2 X v (cmD c) (fun x y H Q => rCm c x y H Q ∨ rCmT X.K c x y H Q) := by
  intro x y dx dy H ι st Q W t rx ry q
  cases hx : dx with
  | tup xs =>
    cases hy : dy with
    | tup ys =>
      rw [hx, hy] at q
      rw [hx] at rx
      rw [hy] at ry
      simp only [cmD] at q
      split at q
      · rename_i b hb
        unfold cmDat at hb
        simp only [Option.bind_eq_some_iff] at hb
        obtain ⟨p, e1, r, e2, h⟩ := hb
        split at h
        · rename_i hs
          rw [Bool.and_eq_true, decide_eq_true_eq] at hs
          cases h
          exact .inr ⟨.tuple p, .tuple r, Rep.dp.1 rx _ (by simp [D.py, e1]), Rep.dp.1 ry _ (by simp [D.py, e2]), hs.1, (by intro z; cases z), hs.2, after_flat t q (.bl _)⟩
        · cases h
      · exact (show False from q).elim
    | _ => rw [hx, hy] at q; exact (show False from q).elim
  | int i =>
    cases hy : dy with
    | int j => rw [hx, hy] at q; rw [hx] at rx; rw [hy] at ry; exact .inl (ob_cm c x y _ _ H ι st Q W t rx ry q)
    | _ => rw [hx, hy] at q; exact (show False from q).elim
  | str i =>
    cases hy : dy with
    | str j => rw [hx, hy] at q; rw [hx] at rx; rw [hy] at ry; exact .inl (ob_cm c x y _ _ H ι st Q W t rx ry q)
    | _ => rw [hx, hy] at q; exact (show False from q).elim
  | _ => rw [hx] at q; cases dy <;> exact (show False from q).elim
theorem deq_some {x y : D} {b : Bool} (h : deq x y = some b) : ∃ p q, x.py = some p ∧ y.py = some q ∧ SeqAt.shaped p = true ∧ SeqAt.shaped q = true ∧ b = PyData.eqv p q := by
  unfold deq at h
  simp only [Option.bind_eq_some_iff] at h
  obtain ⟨p, e1, q, e2, h⟩ := h
  split at h
  · rename_i hs
    rw [Bool.and_eq_true] at hs
    exact ⟨p, q, e1, e2, hs.1, hs.2, (Option.some.inj h).symm⟩
  · cases h
theorem ob_eq : Ob2 X v (dEq false) (rEqD X.K) := by
  intro x y dx dy H ι st Q W t rx ry q
  simp only [dEq] at q
  split at q
  · rename_i b hb
    obtain ⟨p, r, e1, e2, s1, s2, rfl⟩ := deq_some hb
    exact ⟨p, r, Rep.dp.1 rx p e1, Rep.dp.1 ry r e2, s1, s2, after_flat t q (.bl _)⟩
  · exact (show False from q).elim
theorem ob_ne : Ob2 X v (dEq true) (rNeD X.K) := by
  intro x y dx dy H ι st Q W t rx ry q
  simp only [dEq] at q
  split at q
  · rename_i b hb
    obtain ⟨p, r, e1, e2, s1, s2, rfl⟩ := deq_some hb
    exact ⟨p, r, Rep.dp.1 rx p e1, Rep.dp.1 ry r e2, s1, s2, after_flat t q (.bl _)⟩
  · exact (show False from q).elim
theorem isNon_eq {x : V} {d : D} {S : Addr → Prop} (r : Rep K ι H S x d) : d.isNon = decide (x = .non) := by
  cases r <;> rfl
/-! ### in -/
theorem flat_of {x : V} {d : D} {S : Addr → Prop} (r : Rep K ι H S x d) (h : d.flat = true) : flatV x = true := by
  cases r <;> first | rfl | (simp [D.flat] at h)
theorem flats_of {S : Addr → Prop} : ∀ {xs : List V} {ds : List D}, Reps K ι H S xs ds → ds.all D.flat = true → xs.all flatV = true
  | [], _, h, _ => by cases h; rfl
  | _ :: _, _, h, e => by
    cases h with
    | cons a r =>
      rw [List.all_cons, Bool.and_eq_true] at e
      rw [List.all_cons, flat_of a e.1, flats_of r e.2] <;> rfl
theorem feq_of {S S' : Addr → Prop} {x y : V} {d e : D} (r : Rep K ι H S x d) (r' : Rep K ι H S' y e) (h : d.flat = true) (h' : e.flat = true) : eqV y x = feq e d := by
  cases r <;> cases r' <;> first | rfl | (simp [D.flat] at h) | (simp [D.flat] at h')
theorem inV_of {S S' : Addr → Prop} {x : V} {d : D} (r : Rep K ι H S x d) (h : d.flat = true) : ∀ {xs : List V} {ds : List D}, Reps K ι H S' xs ds → ds.all D.flat = true → inV x xs = ds.any fun e => feq e d
  | [], _, q, _ => by cases q; rfl
  | _ :: _, _, q, e => by
    cases q with
    | cons a t =>
      rw [List.all_cons, Bool.and_eq_true] at e
      have ih := inV_of r h t e.2
      unfold inV at ih ⊢
      rw [List.any_cons, List.any_cons, feq_of r a h e.1, ih]
theorem kV_of {x : V} {d : D} {k : Key} {S : Addr → Prop} (r : Rep K ι H S x d) (h : keyOf d = some k) : x = kV k := by
  cases r <;> simp [keyOf] at h <;> subst h <;> rfl
theorem RepKs.val {S : Addr → Prop} (k : Key) : ∀ {kvs : List (Key × V)} {ds : List (Key × D)}, RepKs K ι H S kvs ds → (valV kvs k = none ∧ dGet ds k = none) ∨ ∃ v d, valV kvs k = some v ∧ dGet ds k = some d ∧ Rep K ι H S v d
  | [], _, h => by cases h; exact .inl ⟨rfl, rfl⟩
  | (j, v) :: r, _, h => by
    cases h with
    | cons a t =>
      rename_i d ds
      by_cases e : j = k
      · refine .inr ⟨v, d, ?_, ?_, a⟩
        · unfold valV; rw [List.find?_cons_of_pos (by simp [e])]; rfl
        · unfold dGet; rw [List.find?_cons_of_pos (by simp [e])]; rfl
      · have h1 : valV ((j, v) :: r) k = valV r k := by unfold valV; rw [List.find?_cons_of_neg (by simp [e])]
        have h2 : dGet ((j, d) :: ds) k = dGet ds k := by unfold dGet; rw [List.find?_cons_of_neg (by simp [e])]
        rw [h1, h2]
        exact RepKs.val k t
def rInK (neg : Bool) : R2 := fun x y H Q => ∃ a o, y = .ref a ∧ DGet H a x o ∧ Q (.bl (if neg then !o.isSome else o.isSome)) H
theorem op_inK (hu : X.A.units + 1 < cLine) : OpR X (compareOp .In) (rInK false) := by
  intro pins s σ H x y v u Q I rx ry h
  obtain ⟨a, o, rfl, g, q⟩ := h
  cases ry
  exact d_in hu I g rx fun s' I' => ⟨.bl _, H, I', rfl, q⟩
theorem op_notInK (hu : X.A.units + 1 < cLine) : OpR X (compareOp .NotIn) (rInK true) := by
  intro pins s σ H x y v u Q I rx ry h
  obtain ⟨a, o, rfl, g, q⟩ := h
  cases ry
  exact d_notIn hu I g rx fun s' I' => ⟨.bl _, H, I', rfl, q⟩
end
end Dl
end
section
set_option Elab.async false
set_option linter.all false
set_option maxRecDepth 100000
set_option maxHeartbeats 4000000
/-! Dl5: in, subscripts, slices, built-ins over data. -/
namespace HT
open PySem PySem.Calls PyProof.Rows
section
variable {prog : Program} {w : World} {A : Around} {E : Value → Shared → Prop} {s : Shared}
theorem sliceApplied_rev {sl : Addr} {vl vu vs : Value} {n : Nat} {Q : Int × Int × Nat → Shared → Prop} (hs : s.heap.IsSliceOf sl vl vu vs) (pl : IsPart vl none) (pu : IsPart vu none) (ps : IsPart vs (some (-1)))
    (h : Q ((n : Int) - 1, -1, n) s) : wpAny (model prog w) A (Builtin.Slice.sliceApplied (.ref sl) (pure (n : Int))) Q E s := by
  obtain ⟨os, hos, hcs, hds⟩ := id hs
  unfold Builtin.Slice.sliceApplied Builtin.Slice.sliceFields
  refine wpAny_bind (wpAny_bind (wpAny_field hos hds (x := vl) rfl (wpAny_bind (wpAny_field hos hds (x := vu) rfl (wpAny_bind (wpAny_field hos hds (x := vs) rfl (wpAny_pure ?_)))))))
  refine wpAny_bind (slicePart_ ps ?_)
  show wpAny _ _ (if ((-1 : Int) == 0) = true then _ else _) _ _ s
  rw [if_neg (by decide)]
  refine wpAny_bind (slicePart_ pl (wpAny_bind (slicePart_ pu (wpAny_bind (wpAny_pure ?_)))))
  have e : Builtin.Slice.sliceAdjust none none (-1) (n : Int) = ((n : Int) - 1, -1) := rfl
  have p : Builtin.Slice.slicePlaces ((n : Int) - 1) (-1) (-1) = n := by
    unfold Builtin.Slice.slicePlaces
    have h1 : ¬ ((-1 : Int) > 0) := by omega
    have h2 : (- -1 : Int) = 1 := by decide
    simp only [h1, if_false, h2, Int.ediv_one]
    split <;> omega
  show wpAny _ _ (match Builtin.Slice.sliceAdjust none none (-1) (n : Int) with | (lo, hi) => pure (lo, (-1 : Int), Builtin.Slice.slicePlaces lo hi (-1))) _ _ s
  rw [e]
  show wpAny _ _ (pure ((n : Int) - 1, (-1 : Int), Builtin.Slice.slicePlaces ((n : Int) - 1) (-1) (-1))) _ _ s
  rw [p]
  exact wpAny_pure h
theorem filterMap_all {α β : Type} {f : α → Option β} {g : α → β} : ∀ {l : List α}, (∀ m ∈ l, f m = some (g m)) → l.filterMap f = l.map g
  | [], _ => rfl
  | a :: r, h => by
    rw [List.filterMap_cons, h a List.mem_cons_self, List.map_cons, filterMap_all fun m hm => h m (List.mem_cons_of_mem _ hm)]
theorem pick_rev (xs : Array Value) : ((List.range xs.size).filterMap fun (m : Nat) => xs[(((xs.size : Int) - 1) + (m : Int) * (-1)).toNat]?).toArray = xs.toList.reverse.toArray := by
  congr 1
  apply List.ext_getElem?
  intro i
  have e : ((List.range xs.size).filterMap fun (m : Nat) => xs[(((xs.size : Int) - 1) + (m : Int) * (-1)).toNat]?) = (List.range xs.size).map fun m => xs.toList.getD (xs.size - 1 - m) .none := by
    refine filterMap_all fun m hm => ?_
    have hm' : m < xs.size := List.mem_range.mp hm
    have : (((xs.size : Int) - 1) + (m : Int) * (-1)).toNat = xs.size - 1 - m := by omega
    rw [this]
    have hl : xs.size - 1 - m < xs.size := by omega
    simp [hl, List.getD]
  rw [e, List.getElem?_map]
  by_cases hi : i < xs.size
  · rw [List.getElem?_range hi, List.getElem?_reverse (by simpa using hi)]
    simp only [Option.map_some]
    have hl : xs.size - 1 - i < xs.toList.length := by simp; omega
    simp [List.getD, hl]
    have hl2 : xs.size - 1 - i < xs.size := by omega
    simp [hl2]
  · rw [List.getElem?_eq_none (by simpa using hi), List.getElem?_eq_none (by simpa using hi)]
    rfl
theorem getItem_tuple_rev {t sl : Addr} {items : Array Value} {vl vu vs : Value} {Q : Value → Shared → Prop} (ht : IsTup s.heap t items) (hs : s.heap.IsSliceOf sl vl vu vs) (pl : IsPart vl none) (pu : IsPart vu none) (ps : IsPart vs (some (-1)))
    (h : Q (.ref s.heap.objs.size) { s with heap := s.heap.push { cls := .type "tuple", data := .seq items.toList.reverse.toArray } })
    (hsz : items.size ≤ sizeLine) : wpAny (model prog w) A (getItem (.ref t) (.ref sl)) Q E s := by
  have htake : sizeOk (.seq items.toList.reverse.toArray) := by
    show items.toList.reverse.toArray.size ≤ sizeLine
    rw [List.size_toArray, List.length_reverse, Array.length_toList]
    omega
  obtain ⟨os, hos, hcs, hds⟩ := id hs
  have hTs : s.TypeIs (.ref sl) "slice" := ⟨os, hos, hcs⟩
  unfold getItem
  try with_reducible refine wpAny_holding ?_
  first | refine wpAny_bind (wpAny_pure ?_) | skip
  refine wpAny_bind (wpAny_sequenceKey ht.typeIs (by decide) ?_)
  refine wpAny_bind (wpAny_callSpecial?_slot (name := Str.ofString "__getitem__") ht.typeIs PyProof.Rows.slot_tuple_getitem
    (wpAny_call_entry PyProof.Rows.slot_tuple_getitem ht.typeIs entry_tuple_getitem ?_ (args_tuple_getitem _ _)))
  show wpAny _ _ (Builtin.Tuple.tupleItemsOf (.ref t) >>= _) _ _ s
  refine wpAny_bind (tupleItemsOf_ ht ?_)
  refine wpAny_bind (wpAny_typeOf hTs ?_)
  rw [if_pos (by decide)]
  refine wpAny_bind (sliceApplied_rev hs pl pu ps ?_)
  have hno : ¬ (((((items.size : Int) - 1)) == 0 && (-1 : Int) == 1 && items.size == items.size) = true) := by
    simp
  show wpAny _ _ (if ((((items.size : Int) - 1)) == 0 && (-1 : Int) == 1 && items.size == items.size) = true then _ else _) _ _ s
  rw [if_neg hno, pick_rev]
  first
    | exact wpAny_bind (m := Builtin.Tuple.tupleExact _) (wpAny_newObj_type (wpAny_pure ⟨_, rfl, wpAny_pure h⟩) htake)
    | exact wpAny_bind (m := Builtin.Tuple.tupleExact _) (wpAny_newObj_type (wpAny_bind (wpAny_pure (wpAny_pure ⟨_, rfl, wpAny_pure h⟩))) htake)
    | exact wpAny_bind (wpAny_bind (m := Builtin.Tuple.tupleExact _) (wpAny_newObj_type (wpAny_pure (wpAny_pure ⟨_, rfl, wpAny_pure h⟩)) htake))
    | exact wpAny_bind (wpAny_bind (m := Builtin.Tuple.tupleExact _) (wpAny_newObj_type (wpAny_pure ⟨_, rfl, wpAny_pure h⟩) htake))
end
end HT
namespace Dl
open PySem PySem.Spec PyProof.Rows L2
section
variable {X : Cx} {v : Bool} {K : PySem.W.Frag} {H : Hp} {ι : List Addr} {st : Store} {Q : VK} {W : Wish} {G : Gs} {a b c : Expr} {A B C : Ev} {pos : Pos} {σ : L2.St}
/-! ### in -/
def rSign (neg : Bool) : R2 := fun x y H Q => ∃ (c : Nat) (z : Str), x = .str ⟨#[c]⟩ ∧ y = .str z ∧ Q (.bl (if neg then !decide (c ∈ z.cps.toList) else decide (c ∈ z.cps.toList))) H
def rInA (K : PySem.W.Frag) (neg : Bool) : R2 := fun x y H Q => rIn K neg x y H Q ∨ ((if neg then rNotInD K else rInD K) x y H Q ∨ (rInK neg x y H Q ∨ rSign neg x y H Q))
theorem op_inA {k : Nat} (hr : Room (k + 1) X.A) : OpR X (compareOp .In) (rInA X.K false) := by
  have hu := hr.un
  exact OpR.or op_in_seq (OpR.or (op_inD (by omega)) (OpR.or (op_inK (by omega)) op_in_sign))
theorem op_notInA {k : Nat} (hr : Room (k + 1) X.A) : OpR X (compareOp .NotIn) (rInA X.K true) := by
  have hu := hr.un
  exact OpR.or op_notIn_seq (OpR.or (op_notInD (by omega)) (OpR.or (op_notInK (by omega)) op_notIn_sign))
theorem ob_in (neg : Bool) : Ob2 X v (dIn neg) (rInA X.K neg) := by
  intro x y dx dy H ι st Q W t rx ry q
  simp only [dIn] at q
  split at q
  · rename_i r hr
    have fin : Q (.bl (if neg then !r else r)) H := after_flat t q (.bl _)
    cases ry with
    | tup h1 h2 h3 =>
      simp only [inD] at hr
      split at hr
      · rename_i hf
        rw [Bool.and_eq_true] at hf
        refine .inl ⟨_, _, rfl, .inr h1, flat_of rx hf.1, flats_of h3 hf.2, ?_⟩
        rw [inV_of rx hf.1 h3 hf.2, Option.some.inj hr]
        exact fin
      · cases hr
    | lst h1 h2 h3 h4 =>
      simp only [inD] at hr
      split at hr
      · rename_i hf
        rw [Bool.and_eq_true] at hf
        refine .inl ⟨_, _, rfl, .inl (.inl h1), flat_of rx hf.1, flats_of h4 hf.2, ?_⟩
        rw [inV_of rx hf.1 h4 hf.2, Option.some.inj hr]
        exact fin
      · simp only [Option.bind_eq_some_iff] at hr
        obtain ⟨p, e1, qs, e2, hr⟩ := hr
        split at hr
        · rename_i hs
          rw [Bool.and_eq_true] at hs
          have fin' := fin
          rw [← Option.some.inj hr] at fin'
          refine .inr (.inl ?_)
          cases neg with
          | false => exact ⟨p, qs, Rep.dp.1 rx p e1, .lst (.inl h1) (Rep.dp.2 h4 qs e2), hs.1, hs.2, fin'⟩
          | true => exact ⟨p, qs, Rep.dp.1 rx p e1, .lst (.inl h1) (Rep.dp.2 h4 qs e2), hs.1, hs.2, fin'⟩
        · cases hr
    | dct h1 h2 h3 h4 =>
      simp only [inD, Option.map_eq_some_iff] at hr
      obtain ⟨k, hk, rfl⟩ := hr
      have ex := kV_of rx hk
      subst ex
      refine .inr (.inr (.inl ⟨_, _, rfl, .inl ⟨_, k, h1, rfl, rfl⟩, ?_⟩))
      rcases RepKs.val k h4 with ⟨e1, e2⟩ | ⟨u, d, e1, e2, _⟩
      · rw [e1]; rw [e2] at fin; exact fin
      · rw [e1]; rw [e2] at fin; exact fin
    | str z hz =>
      simp only [inD] at hr
      split at hr
      · rename_i yy
        split at hr
        · rename_i cc hc
          cases rx with
          | str _ _ =>
            have e : yy = ⟨#[cc]⟩ := by
              cases yy with
              | mk cps => exact congrArg Str.mk (Array.ext' (by simpa using hc))
            subst e
            refine .inr (.inr (.inr ⟨cc, z, rfl, rfl, ?_⟩))
            rw [Option.some.inj hr]
            exact fin
        · cases hr
      · cases hr
    | _ => simp [inD] at hr
  · exact (show False from q).elim
/-! ### subscripts -/
def rIxK : R2 := fun x y H Q => ∃ a v, x = .ref a ∧ DGet H a y (some v) ∧ Q v H
theorem ix_dict {k : Nat} (hr : Room (k + 1) X.A) : IxR X rIxK := by
  intro value slice pins s σ H x y v u Q I rx ry h hs
  obtain ⟨p, w, rfl, g, q⟩ := h
  cases rx
  have hu := hr.un
  exact tail_any (dict_typeIs I g) PySem.F.slot_dict_getitem.lookup (d_getItem (by omega) I g ry fun w' s' I' r => ⟨w, H, I', r, q⟩) hs
def rIxA (K : PySem.W.Frag) : R2 := fun x y H Q => rIx K x y H Q ∨ rIxK x y H Q
theorem ix_all {k : Nat} (hr : Room (k + 1) X.A) : IxR X (rIxA X.K) := IxR.or ix_seq (ix_dict hr)
theorem after_look {d : D} {u : V} (t : StoreOk K ι H st) (k : After K false H ι Q d st) (r : Rep K ι H (OutA ι) u d) : Q u H := k u H ι (Step.refl t) r
theorem Reps.atI {S : Addr → Prop} {vs : List V} {ds : List D} {i : Int} {d : D} (h : Reps K ι H S vs ds) (e : L2.atI ds i = some d) : ∃ u, L2.atI vs i = some u ∧ Rep K ι H S u d := by
  unfold L2.atI at e ⊢
  rw [h.length]
  cases q : ixN ds.length i with
  | none => rw [q] at e; cases e
  | some j =>
    rw [q] at e
    obtain ⟨u, h1, h2⟩ := h.get (show ds[j]? = some d from e)
    exact ⟨u, h1, h2⟩
theorem ob_ix : Ob2 X false dIx (rIxA X.K) := by
  intro x y dx dy H ι st Q W t rx ry q
  cases rx with
  | tup h1 h2 h3 =>
    cases ry <;> first | exact (show False from q).elim | skip
    simp only [dIx] at q
    split at q
    · rename_i d hd
      obtain ⟨u, e, r⟩ := h3.atI hd
      exact .inl (.inr (.inl ⟨_, _, _, u, rfl, rfl, h1, e, after_look t q r⟩))
    · exact (show False from q).elim
  | lst h1 h2 h3 h4 =>
    cases ry <;> first | exact (show False from q).elim | skip
    simp only [dIx] at q
    split at q
    · rename_i d hd
      obtain ⟨u, e, r⟩ := h4.atI hd
      exact .inl (.inl ⟨_, _, _, u, rfl, rfl, .inl h1, e, after_look t q r⟩)
    · exact (show False from q).elim
  | str z hz =>
    cases ry <;> first | exact (show False from q).elim | skip
    simp only [dIx] at q
    split at q
    · rename_i c hc
      refine .inl (.inr (.inr ⟨z, _, c, rfl, rfl, by rw [← line_eq]; exact hz, hc, after_flat t q (.str _ ?_)⟩))
      exact (by decide : 1 ≤ LINE)
    · exact (show False from q).elim
  | dct h1 h2 h3 h4 =>
    simp only [dIx] at q
    split at q
    · rename_i d hd
      simp only [Option.bind_eq_some_iff] at hd
      obtain ⟨k, hk, hd⟩ := hd
      have ex := kV_of ry hk
      subst ex
      rcases RepKs.val k h4 with ⟨e1, e2⟩ | ⟨u, d', e1, e2, r⟩
      · rw [e2] at hd; cases hd
      · rw [e2] at hd; cases hd
        exact .inr ⟨_, u, rfl, .inl ⟨_, k, h1, rfl, e1.symm⟩, after_look t q r⟩
    · exact (show False from q).elim
  | obj hn =>
    cases ry <;> first | exact (show False from q).elim | skip
    simp only [dIx] at q
    split at q
    · rename_i xs hx
      split at q
      · rename_i d hd
        obtain ⟨zs, e1, e2, e3, e4⟩ := t.at_ _ _ _ hx hn
        obtain ⟨u, e, r⟩ := e4.atI hd
        exact .inl (.inl ⟨_, _, _, u, rfl, rfl, .inl (.inl e1), e, after_flat t q r⟩)
      · exact (show False from q).elim
    · exact (show False from q).elim
  | _ => exact (show False from (by cases ry <;> exact q)).elim
theorem de_ix {k : Nat} (hK : G.K = X.K) (hr : Room (k + 1) X.A) (ha : PE X a (tE G W false A)) (hb : PE X b (tE G W false B)) (hs : PlainIx b) : PE X (.Subscript a b pos) (tE G W false (eIx A B)) :=
  pe_weak (pe_ix (ix_all hr) ha hb hs) fun _ _ _ h => bin2_reads hK ob_ix h
/-! ### slices -/
def tP (G : Gs) (W : Wish) (P : Pv) : TO := fun σ H Q => ∃ env st ι O, StOk G σ H env st ι O ∧ (P st env).Sat W fun o st' => ∀ H' ι', Step G.K H ι H' ι' st' → Q o H'
theorem po_weak {e : Option Expr} {t t' : TO} (h : PO X e t) (w : ∀ σ H Q, t' σ H Q → t σ H Q) : PO X e t' := ⟨fun pins s σ H Q I q => h.run pins s σ H Q I (w σ H Q q)⟩
theorem dp_no : PO X none (tP G W pNo) := po_weak po_none fun _ H Q ⟨env, st, ι, O, x, q⟩ => q H ι (Step.refl x.base.store)
theorem dp_some (h : PE X a (tE G W false A)) : PO X (some a) (tP G W (pSome A)) := po_weak (po_some h) fun σ H Q ⟨env, st, ι, O, x, q⟩ =>
  ⟨env, st, ι, O, x, (Out.sat_bind q).mono fun d st1 q1 u H1 ι1 s1 r1 => by
    cases r1 with
    | int i => exact ⟨i, rfl, q1 H1 ι1 s1⟩
    | _ => exact (show False from q1).elim⟩
def rSl (K : PySem.W.Frag) : V → Option Int → Option Int → Hp → VK → Prop := fun x lo hi H Q => rSlL K x lo hi H Q ∨ (rSlA K x lo hi H Q ∨ rSlS x lo hi H Q)
theorem sl_all : SlR X (rSl X.K) := SlR.or sl_list (SlR.or sl_tupA sl_str)
theorem cut_whole {xs : List D} {lo hi : Option Int} (h : HT.sIx xs.length 0 lo = 0 ∧ HT.sIx xs.length xs.length hi = xs.length) : cutD xs lo hi = xs := by
  unfold cutD
  rw [h.1, h.2]
  simp
theorem cutS_len {z : Str} {lo hi : Option Int} : (cutS z lo hi).length ≤ z.length := by
  unfold cutS
  show (_ : Array Nat).size ≤ z.cps.size
  first
    | (simp; omega)
    | (split <;> simp <;> omega)
    | simp
theorem ob_sl {x : V} {dx : D} {lo hi : Option Int} (t : StoreOk X.K ι H st) (r : Rep X.K ι H (OutA ι) x dx) (q : (dSl dx lo hi st).Sat W (After X.K v H ι Q)) : rSl X.K x lo hi H Q := by
  cases r with
  | tup h1 h2 h3 =>
    simp only [dSl] at q
    split at q
    · rename_i hi'
      refine .inr (.inl ⟨_, _, rfl, h1, fun e => ?_, fun _ p hp => after_tup t q hp ?_ ((h3.imm (NewA H ι) hi').cut lo hi)⟩)
      · rw [h3.length] at e
        rw [cut_whole e] at q
        exact q _ _ _ (Step.refl t) (.tup h1 h2 (h3.imm _ hi'))
      · exact Nat.le_trans (cutV_length _ _ _) h2
    · exact (show False from q).elim
  | lst h1 h2 h3 h4 =>
    simp only [dSl] at q
    split at q
    · rename_i hi'
      exact .inl ⟨_, _, rfl, .inl h1, fun p hp => after_lst t q hp (Nat.le_trans (cutV_length _ _ _) h3) ((h4.imm (NewA H ι) hi').cut lo hi)⟩
    · exact (show False from q).elim
  | str z hz => exact .inr (.inr ⟨z, rfl, by rw [← line_eq]; exact hz, after_flat t q (.str _ (Nat.le_trans cutS_len hz))⟩)
  | _ => exact (show False from q).elim
theorem de_slice {lo hi : Option Expr} {P R : Pv} {p2 : Pos} (hK : G.K = X.K) (ha : PE X a (tE G W false A)) (hl : PO X lo (tP G W P)) (hh : PO X hi (tP G W R)) : PE X (.Subscript a (.Slice lo hi none p2) pos) (tE G W v (eSl A P R)) :=
  pe_weak (pe_slice sl_all ha hl hh) fun σ H Q ⟨env, st, ι, O, x, q⟩ =>
    ⟨env, st, ι, O, x, (Out.sat_bind q).mono fun d st1 q1 u H1 ι1 s1 r1 => ⟨env, st1, ι1, O, x.step s1, (Out.sat_bind q1).mono fun o st2 q2 H2 ι2 s2 => ⟨env, st2, ι2, O, (x.step s1).step s2, (Out.sat_bind q2).mono fun o2 st3 q3 H3 ι3 s3 => by
      have s13 := s2.trans s3
      have r3 := look_step s1.store s13 r1
      have s03 := s1.trans s13
      rw [hK] at r3 s03
      refine ob_sl (v := v) (W := W) s03.store r3 (q3.mono fun d' st' k => ?_)
      rw [hK] at k
      exact After.shift s03 k⟩⟩⟩
/-- x[::-1], a list or a tuple -/
def tRevA (K : PySem.W.Frag) (te : TE) : TE := fun σ H Q => te σ H fun x H1 => ∃ a xs, x = .ref a ∧ ((SqL K H1 a xs ∧ ∀ p, H1 p = none → Q (.ref p) (upd H1 p (.lst xs.reverse))) ∨ (SqT K H1 a xs ∧ ∀ p, H1 p = none → Q (.ref p) (upd H1 p (.tup xs.reverse))))
theorem pe_revA {e : Expr} {te : TE} {k : Nat} {p1 p2 p3 pos : Pos} (he : PE X e te) : PE X (.Subscript e (.Slice none none (some (.UnaryOp .USub (.Constant (.int 1) k p1) p2)) p3) pos) (tRevA X.K te) := by
  refine ⟨fun pins s σ H Q I h => ?_⟩
  refine Subscript_ (thn (he.run pins s σ H _ I h) fun v s1 ⟨x, H1, I1, r1, q1⟩ => ?_)
  obtain ⟨a, xs, ex, q⟩ := q1
  subst ex
  cases r1
  have hst : PO X (some (.UnaryOp .USub (.Constant (.int 1) k p1) p2)) (tPart (tUn (rU fun i => .int (-i)) (tC (.int 1)))) := po_some (pe_un un_neg pe_int)
  refine wpAny_Slice (thn (po_none.run pins s1 σ H1 (fun o H2 => o = none ∧ H2 = H1) I1 ⟨rfl, rfl⟩) fun vl s2 ⟨l, H2, I2, pl, el, e2⟩ => ?_)
  subst el e2
  refine thn (po_none.run pins s2 σ H2 (fun o H3 => o = none ∧ H3 = H2) I2 ⟨rfl, rfl⟩) fun vu s3 ⟨u, H3, I3, pu, eu, e3⟩ => ?_
  subst eu e3
  refine thn (hst.run pins s3 σ H3 (fun o H4 => o = some (-1) ∧ H4 = H3) I3 ⟨1, rfl, -1, rfl, rfl, rfl⟩) fun vs s4 ⟨o, H4, I4, ps, eo, e4⟩ => ?_
  subst eo e4
  have I5 : Inv X pins σ H4 { s4 with heap := s4.heap.push { cls := .type "slice", data := .fields #[vl, vu, vs] } } := I4.kept (t' := s4.toks) fun b ob q => Heap.get?_push_of_some _ q
  rcases q with ⟨hx, q⟩ | ⟨hx, q⟩
  · obtain ⟨its, r, ht, hz⟩ := I5.list hx
    have hlen := r.length
    show wpAny (model X.prog X.w) X.A (subscriptTail e (.Slice none none (some (.UnaryOp .USub (.Constant (.int 1) k p1) p2)) p3) (.ref a) (.ref s4.heap.objs.size)) (EP X pins σ Q) X.xe { s4 with heap := s4.heap.push { cls := .type "slice", data := .fields #[vl, vu, vs] } }
    refine tail_any (ops := [.ref a, .ref s4.heap.objs.size]) ht.isList.typeIs (PySem.slot_list_getitem.lookup) ?_ (by with_unfolding_all rfl)
    refine wpAny_getItem_list_slice ht.isList (Heap.IsSliceOf.new _ vl vu vs) pl pu ps (by decide) ?_ (by rw [List.size_toArray]; omega)
    rw [PySem.W.krv_pick]
    refine ⟨.ref _, _, I5.laid (t' := s4.toks) (o := .lst xs.reverse) (fun b ob q => Heap.get?_push_of_some _ q) (Nat.le_refl _) ?_, rfl, q _ (I5.hok.fresh (Nat.le_refl _))⟩
    exact ⟨by rw [List.length_reverse]; exact hz, _, 0, r.reverse, Heap.get?_push_size _ rfl⟩
  · obtain ⟨its, r, ht, hz⟩ := I5.tuple hx
    have hlen := r.length
    show wpAny (model X.prog X.w) X.A (subscriptTail e (.Slice none none (some (.UnaryOp .USub (.Constant (.int 1) k p1) p2)) p3) (.ref a) (.ref s4.heap.objs.size)) (EP X pins σ Q) X.xe { s4 with heap := s4.heap.push { cls := .type "slice", data := .fields #[vl, vu, vs] } }
    refine tail_any (ops := [.ref a, .ref s4.heap.objs.size]) ht.typeIs (PyProof.Rows.slot_tuple_getitem.lookup) ?_ (by with_unfolding_all rfl)
    refine HT.getItem_tuple_rev ht (Heap.IsSliceOf.new _ vl vu vs) pl pu ps ?_ (by rw [List.size_toArray]; omega)
    refine ⟨.ref _, _, I5.laid (t' := s4.toks) (o := .tup xs.reverse) (fun b ob q => Heap.get?_push_of_some _ q) (Nat.le_refl _) ?_, rfl, q _ (I5.hok.fresh (Nat.le_refl _))⟩
    refine ⟨by rw [List.length_reverse]; exact hz, _, r.reverse, ?_⟩
    have e : its.toArray.toList.reverse.toArray = its.reverse.toArray := by simp
    rw [e]
    exact IsTup.new _ _
theorem ob_rev : Ob1 X v dRev (fun x H Q => ∃ a xs, x = .ref a ∧ ((SqL X.K H a xs ∧ ∀ p, H p = none → Q (.ref p) (upd H p (.lst xs.reverse))) ∨ (SqT X.K H a xs ∧ ∀ p, H p = none → Q (.ref p) (upd H p (.tup xs.reverse))))) := by
  intro x dx H ι st Q W t rx q
  cases rx with
  | tup h1 h2 h3 =>
    simp only [dRev] at q
    split at q
    · rename_i hi
      exact ⟨_, _, rfl, .inr ⟨h1, fun p hp => after_tup t q hp (by rw [List.length_reverse]; exact h2) (h3.imm (NewA H ι) hi).reverse⟩⟩
    · exact (show False from q).elim
  | lst h1 h2 h3 h4 =>
    simp only [dRev] at q
    split at q
    · rename_i hi
      exact ⟨_, _, rfl, .inl ⟨.inl h1, fun p hp => after_lst t q hp (by rw [List.length_reverse]; exact h3) (h4.imm (NewA H ι) hi).reverse⟩⟩
    · exact (show False from q).elim
  | _ => exact (show False from q).elim
theorem de_rev {k : Nat} {p1 p2 p3 : Pos} (hK : G.K = X.K) (ha : PE X a (tE G W false A)) : PE X (.Subscript a (.Slice none none (some (.UnaryOp .USub (.Constant (.int 1) k p1) p2)) p3) pos) (tE G W v (eRev A)) :=
  pe_weak (pe_revA ha) fun _ _ _ h => un1_reads hK ob_rev h
end
end Dl
end
section
set_option Elab.async false
set_option linter.all false
set_option maxRecDepth 100000
set_option maxHeartbeats 4000000
/-! Dl6: built-ins, displays, calls over data. -/
namespace Dl
open PySem PySem.Spec PyProof.Rows L2
section
variable {X : Cx} {v : Bool} {K : PySem.W.Frag} {H : Hp} {ι : List Addr} {st : Store} {Q : VK} {W : Wish} {G : Gs} {a b c e : Expr} {es : List Expr} {A B C : Ev} {R : Av} {p pos : Pos} {σ : L2.St} {x : Str}
theorem CallR.or {f : Value} {r r' : List V → Hp → VK → Prop} (h : CallR X f r) (h' : CallR X f r') : CallR X f (fun x H Q => r x H Q ∨ r' x H Q) := by
  intro pins s σ H xs us Q I rv q
  rcases q with q | q
  · exact h pins s σ H xs us Q I rv q
  · exact h' pins s σ H xs us Q I rv q
/-! ### a built-in of one or two arguments -/
def Oc1 (X : Cx) (v : Bool) (f : D → Store → Out D) (r : List V → Hp → VK → Prop) : Prop := Ob1 X v f fun x H Q => r [x] H Q
def Oc2 (X : Cx) (v : Bool) (f : D → D → Store → Out D) (r : List V → Hp → VK → Prop) : Prop := Ob2 X v f fun x y H Q => r [x, y] H Q
theorem de_b1 {id : String} {r : List V → Hp → VK → Prop} {f : D → Store → Out D} (hK : G.K = X.K) (hc : CallR X (.builtin id) r) (hf : Oc1 X v f r) (hg : Gl X x) (hm : X.mg x = none) (hv : bootBuiltins x = some (.builtin id)) (hn : x ≠ "__name__") (hdb : (x == ("__debug__" : Str)) = false)
    (he : starEach [a] X.env = (false, eval a X.env) :: starEach [] X.env) (ha : PE X a (tE G W false A)) : PE X (.Call (.Name x p) [a] [] pos) (tE G W v (un1 f A)) :=
  pe_weak (pe_callB hc hg hm hv (pa_cons ha pa_nil he) hn hdb he rfl) fun _ _ _ h => un1_reads hK hf h
theorem de_t1 {id : String} {r : List V → Hp → VK → Prop} {f : D → Store → Out D} (hK : G.K = X.K) (hc : CallR X (.type id) r) (hf : Oc1 X v f r) (hg : Gl X x) (hm : X.mg x = none) (hv : bootBuiltins x = some (.type id)) (hn : x ≠ "__name__") (hdb : (x == ("__debug__" : Str)) = false)
    (he : starEach [a] X.env = (false, eval a X.env) :: starEach [] X.env) (ha : PE X a (tE G W false A)) : PE X (.Call (.Name x p) [a] [] pos) (tE G W v (un1 f A)) :=
  pe_weak (pe_callTy hc hg hm hv (pa_cons ha pa_nil he) hn hdb he rfl) fun _ _ _ h => un1_reads hK hf h
theorem de_b2 {id : String} {r : List V → Hp → VK → Prop} {f : D → D → Store → Out D} (hK : G.K = X.K) (hc : CallR X (.builtin id) r) (hf : Oc2 X v f r) (hg : Gl X x) (hm : X.mg x = none) (hv : bootBuiltins x = some (.builtin id)) (hn : x ≠ "__name__") (hdb : (x == ("__debug__" : Str)) = false)
    (he : starEach [a, b] X.env = (false, eval a X.env) :: starEach [b] X.env) (he2 : starEach [b] X.env = (false, eval b X.env) :: starEach [] X.env) (ha : PE X a (tE G W false A)) (hb : PE X b (tE G W false B)) : PE X (.Call (.Name x p) [a, b] [] pos) (tE G W v (bin2 f A B)) :=
  pe_weak (pe_callB hc hg hm hv (pa_cons ha (pa_cons hb pa_nil he2) he) hn hdb he (by rw [he2] <;> rfl)) fun _ _ _ h => bin2_reads hK hf h
/-! ### what they are -/
theorem reps_int {S : Addr → Prop} : ∀ {xs : List V} {ns : List Int}, Reps K ι H S xs (ns.map D.int) → xs = ns.map V.int
  | [], [], _ => rfl
  | [], _ :: _, h => by cases h
  | _ :: _, [], h => by cases h
  | _ :: _, _ :: _, h => by
    cases h with
    | cons a t =>
      cases a
      rw [List.map_cons, ← reps_int t]
theorem reps_bl {S : Addr → Prop} : ∀ {xs : List V} {ns : List Bool}, Reps K ι H S xs (ns.map D.bl) → xs = ns.map V.bl
  | [], [], _ => rfl
  | [], _ :: _, h => by cases h
  | _ :: _, [], h => by cases h
  | _ :: _, _ :: _, h => by
    cases h with
    | cons a t =>
      cases a
      rw [List.map_cons, ← reps_bl t]
theorem reps_str {S : Addr → Prop} : ∀ {xs : List V} {ns : List Str}, Reps K ι H S xs (ns.map D.str) → xs = ns.map V.str ∧ ∀ z ∈ ns, z.length ≤ LINE
  | [], [], _ => ⟨rfl, fun _ h => absurd h (by simp)⟩
  | [], _ :: _, h => by cases h
  | _ :: _, [], h => by cases h
  | _ :: _, _ :: _, h => by
    cases h with
    | cons a t =>
      cases a with
      | str _ hz =>
        obtain ⟨h1, h2⟩ := reps_str t
        exact ⟨by rw [List.map_cons, ← h1], fun z hz' => (List.mem_cons.mp hz').elim (fun e => e ▸ hz) (h2 z)⟩
theorem int_reps {S : Addr → Prop} : ∀ (ns : List Int), Reps K ι H S (ns.map V.int) (ns.map D.int)
  | [] => .nil
  | n :: ns => .cons (.int n) (int_reps ns)
theorem str_reps {S : Addr → Prop} : ∀ (ns : List Str), (∀ z ∈ ns, z.length ≤ LINE) → Reps K ι H S (ns.map V.str) (ns.map D.str)
  | [], _ => .nil
  | n :: ns, h => .cons (.str n (h n List.mem_cons_self)) (str_reps ns fun z hz => h z (List.mem_cons_of_mem _ hz))
/-- len -/
def rLenA (K : PySem.W.Frag) : List V → Hp → VK → Prop := fun xs H Q => (∃ x n, xs = [x] ∧ LenV K x H n ∧ Q (.int n) H) ∨ ∃ a kvs, xs = [V.ref a] ∧ Rd H a (.dK kvs) ∧ Q (.int kvs.length) H
theorem call_lenA : CallR X (.builtin "len") (rLenA X.K) := CallR.or call_len (by
  intro pins s σ H xs us Q I r h
  obtain ⟨a, kvs, rfl, ha, q⟩ := h
  obtain ⟨u, rfl, ru⟩ := vals1 r
  cases ru
  exact d_len I ha fun t s' I' => ⟨.int kvs.length, H, I', ⟨t, rfl⟩, q⟩)
theorem oc_len : Oc1 X v dLen (rLenA X.K) := by
  intro x dx H ι st Q W t rx q
  cases rx with
  | tup h1 h2 h3 => exact .inl ⟨_, _, rfl, .inr ⟨_, h1, rfl⟩, by rw [h3.length]; exact after_flat t q (.int _)⟩
  | lst h1 h2 h3 h4 => exact .inl ⟨_, _, rfl, .inl ⟨_, .inl h1, rfl⟩, by rw [h4.length]; exact after_flat t q (.int _)⟩
  | str z hz => exact .inl ⟨_, _, rfl, ⟨by rw [← line_eq]; exact hz, rfl⟩, after_flat t q (.int _)⟩
  | dct h1 h2 h3 h4 => exact .inr ⟨_, _, rfl, h1, by rw [h4.length]; exact after_flat t q (.int _)⟩
  | _ => exact (show False from q).elim
theorem oc_all : Oc1 X v dAll (rAll X.K) := by
  intro x dx H ι st Q W t rx q
  cases rx with
  | lst h1 h2 h3 h4 =>
    simp only [dAll] at q
    split at q
    · rename_i bs hb
      have e := bigs_some hb
      subst e
      have e2 := reps_bl h4
      subst e2
      exact ⟨_, bs, rfl, .inl h1, after_flat t q (.bl _)⟩
    · exact (show False from q).elim
  | _ => exact (show False from q).elim
theorem maxI_mem : ∀ (a : Int) (r : List Int), maxI (a :: r) ∈ a :: r
  | a, [] => by simp [maxI]
  | a, b :: r => by
    have ih := maxI_mem b r
    simp only [maxI]
    rcases Int.le_total a (maxI (b :: r)) with h | h
    · rw [Int.max_eq_right h]; exact List.mem_cons_of_mem _ ih
    · rw [Int.max_eq_left h]; exact List.mem_cons_self
theorem maxI_le : ∀ (a : Int) (r : List Int) (y : Int), y ∈ a :: r → y ≤ maxI (a :: r)
  | a, [], y, h => by simp at h; subst h; simp [maxI]
  | a, b :: r, y, h => by
    simp only [maxI]
    rcases List.mem_cons.mp h with rfl | h
    · exact Int.le_max_left _ _
    · exact Int.le_trans (maxI_le b r y h) (Int.le_max_right _ _)
theorem minI_mem : ∀ (a : Int) (r : List Int), minI (a :: r) ∈ a :: r
  | a, [] => by simp [minI]
  | a, b :: r => by
    have ih := minI_mem b r
    simp only [minI]
    rcases Int.le_total a (minI (b :: r)) with h | h
    · rw [Int.min_eq_left h]; exact List.mem_cons_self
    · rw [Int.min_eq_right h]; exact List.mem_cons_of_mem _ ih
theorem minI_le : ∀ (a : Int) (r : List Int) (y : Int), y ∈ a :: r → minI (a :: r) ≤ y
  | a, [], y, h => by simp at h; subst h; simp [minI]
  | a, b :: r, y, h => by
    simp only [minI]
    rcases List.mem_cons.mp h with rfl | h
    · exact Int.min_le_left _ _
    · exact Int.le_trans (Int.min_le_right _ _) (minI_le b r y h)
theorem oc_max1 : Oc1 X v dMax1 (rMax X.K) := by
  intro x dx H ι st Q W t rx q
  cases rx with
  | lst h1 h2 h3 h4 =>
    simp only [dMax1] at q
    split at q
    · rename_i n r hb
      have e := intsOf_some hb
      subst e
      have e2 := reps_int h4
      subst e2
      refine ⟨_, n :: r, rfl, .inl h1, by simp, fun m hm hle => ?_⟩
      have : m = maxI (n :: r) := Int.le_antisymm (maxI_le n r m hm) (hle _ (maxI_mem n r))
      rw [this]
      exact after_flat t q (.int _)
    · exact (show False from q).elim
  | _ => exact (show False from q).elim
theorem oc_min1 : Oc1 X v dMin1 (rMin X.K) := by
  intro x dx H ι st Q W t rx q
  cases rx with
  | lst h1 h2 h3 h4 =>
    simp only [dMin1] at q
    split at q
    · rename_i n r hb
      have e := intsOf_some hb
      subst e
      have e2 := reps_int h4
      subst e2
      refine ⟨_, n :: r, rfl, .inl h1, by simp, fun m hm hle => ?_⟩
      have : m = minI (n :: r) := Int.le_antisymm (hle _ (minI_mem n r)) (minI_le n r m hm)
      rw [this]
      exact after_flat t q (.int _)
    · exact (show False from q).elim
  | _ => exact (show False from q).elim
theorem oc_sum : Oc1 X v dSum (rSum X.K) := by
  intro x dx H ι st Q W t rx q
  cases rx with
  | lst h1 h2 h3 h4 =>
    simp only [dSum] at q
    split at q
    · rename_i ns hb
      have e := intsOf_some hb
      subst e
      have e2 := reps_int h4
      subst e2
      exact ⟨_, ns, rfl, .inl h1, after_flat t q (.int _)⟩
    · exact (show False from q).elim
  | _ => exact (show False from q).elim
theorem oc_max2 : Oc2 X v dMax2 (fun xs H Q => ∃ i j, xs = [.int i, .int j] ∧ Q (.int (if j > i then j else i)) H) := by
  intro x y dx dy H ι st Q W t rx ry q
  cases rx <;> cases ry <;> first | exact (show False from q).elim | skip
  exact ⟨_, _, rfl, after_flat t q (.int _)⟩
theorem oc_min2 : Oc2 X v dMin2 (fun xs H Q => ∃ i j, xs = [.int i, .int j] ∧ Q (.int (if j < i then j else i)) H) := by
  intro x y dx dy H ι st Q W t rx ry q
  cases rx <;> cases ry <;> first | exact (show False from q).elim | skip
  exact ⟨_, _, rfl, after_flat t q (.int _)⟩
theorem oc_list : Oc1 X v dList (fun xs H Q => ∃ p ys, xs = [.ref p] ∧ (SqL X.K H p ys ∨ SqT X.K H p ys) ∧ ∀ l, H l = none → Q (.ref l) (upd H l (.lst ys))) := by
  intro x dx H ι st Q W t rx q
  cases rx with
  | tup h1 h2 h3 =>
    simp only [dList] at q
    split at q
    · rename_i hi
      exact ⟨_, _, rfl, .inr h1, fun l hl => after_lst t q hl h2 (h3.imm _ hi)⟩
    · exact (show False from q).elim
  | lst h1 h2 h3 h4 =>
    simp only [dList] at q
    split at q
    · rename_i hi
      exact ⟨_, _, rfl, .inl (.inl h1), fun l hl => after_lst t q hl h3 (h4.imm _ hi)⟩
    · exact (show False from q).elim
  | _ => exact (show False from q).elim
theorem oc_tuple : Oc1 X v dTuple (fun xs H Q => ∃ p ys, xs = [.ref p] ∧ ((SqL X.K H p ys ∧ ∀ l, H l = none → Q (.ref l) (upd H l (.tup ys))) ∨ (SqT X.K H p ys ∧ Q (.ref p) H))) := by
  intro x dx H ι st Q W t rx q
  cases rx with
  | tup h1 h2 h3 =>
    simp only [dTuple] at q
    split at q
    · rename_i hi
      exact ⟨_, _, rfl, .inr ⟨h1, q _ _ _ (Step.refl t) (.tup h1 h2 (h3.imm _ hi))⟩⟩
    · exact (show False from q).elim
  | lst h1 h2 h3 h4 =>
    simp only [dTuple] at q
    split at q
    · rename_i hi
      exact ⟨_, _, rfl, .inl ⟨.inl h1, fun l hl => after_tup t q hl h3 (h4.imm _ hi)⟩⟩
    · exact (show False from q).elim
  | _ => exact (show False from q).elim
def rInt : List V → Hp → VK → Prop := fun xs H Q => ((∃ i, xs = [.int i] ∧ Q (.int i) H) ∨ ∃ k, xs = [.bl k] ∧ Q (.int (if k then 1 else 0)) H) ∨ ∃ a n, xs = [.str a] ∧ PySem.intText? a = some n ∧ a.length ≤ 640 ∧ Q (.int n) H
theorem call_intA : CallR X (.type "int") rInt := CallR.or call_int1 call_int_str
theorem oc_int : Oc1 X v dInt rInt := by
  intro x dx H ι st Q W t rx q
  cases rx with
  | int i => exact .inl (.inl ⟨_, rfl, after_flat t q (.int _)⟩)
  | bl b => exact .inl (.inr ⟨_, rfl, after_flat t q (.int _)⟩)
  | str z hz =>
    simp only [dInt] at q
    split at q
    · rename_i n hn
      split at q
      · rename_i hl
        exact .inr ⟨_, n, rfl, hn, hl, after_flat t q (.int _)⟩
      · exact (show False from q).elim
    · exact (show False from q).elim
  | _ => exact (show False from q).elim
theorem oc_str : Oc1 X v dStr (fun xs H Q => ∃ i, xs = [.int i] ∧ i.natAbs.log2 < 1920 ∧ Q (.str (toString i)) H) := by
  intro x dx H ι st Q W t rx q
  cases rx with
  | int i =>
    simp only [dStr] at q
    split at q
    · rename_i h
      exact ⟨_, rfl, h.1, after_flat t q (.str _ h.2)⟩
    · exact (show False from q).elim
  | _ => exact (show False from q).elim
/-! dict(pairs) -/
theorem key_of {S : Addr → Prop} {x : V} {d : D} {k : Key} (r : Rep K ι H S x d) (h : Dl.keyOf d = some k) : x = kV k := kV_of r h
theorem kpairs_of {S : Addr → Prop} : ∀ {xs : List V} {ds : List D} {kvs : List (Key × D)}, Reps K ι H S xs ds → kpairs ds = some kvs → ∃ (ps : List Addr) (vs : List (Key × V)), xs = ps.map V.ref ∧ Paired (fun p kv => SqT K H p [kV kv.1, kv.2]) ps vs ∧ RepKs K ι H S vs kvs
  | [], _, kvs, h, e => by
    cases h
    simp [kpairs] at e
    subst e
    exact ⟨[], [], rfl, .nil, .nil⟩
  | x :: xs, _, kvs, h, e => by
    cases h with
    | cons a t =>
      rename_i d ds
      cases a with
      | tup h1 h2 h3 =>
        cases h3 with
        | nil => simp [kpairs] at e
        | cons r1 t1 =>
          cases t1 with
          | nil => simp [kpairs] at e
          | cons r2 t2 =>
            cases t2 with
            | nil =>
              simp only [kpairs, Option.bind_eq_some_iff, Option.map_eq_some_iff] at e
              obtain ⟨k, hk, kvs', e', rfl⟩ := e
              obtain ⟨ps, vs, e1, e2, e3⟩ := kpairs_of t e'
              have ek := kV_of r1 hk
              subst ek
              exact ⟨_ :: ps, (k, _) :: vs, by rw [e1]; rfl, .cons h1 e2, .cons r2 e3⟩
            | cons _ _ => simp [kpairs] at e
      | _ => simp [kpairs] at e
theorem repks_any {S : Addr → Prop} (k : Key) : ∀ {vs : List (Key × V)} {ds : List (Key × D)}, RepKs K ι H S vs ds → (vs.any fun kv => decide (kv.1 = k)) = ds.any fun kv => decide (kv.1 = k)
  | [], _, h => by cases h; rfl
  | _ :: _, _, h => by
    cases h with
    | cons a t => rw [List.any_cons, List.any_cons, repks_any k t]
theorem repks_set {S : Addr → Prop} {k : Key} {u : V} {d : D} (r : Rep K ι H S u d) : ∀ {vs : List (Key × V)} {ds : List (Key × D)}, RepKs K ι H S vs ds → RepKs K ι H S (vs.map fun kv => if kv.1 = k then (kv.1, u) else kv) (ds.map fun kv => if kv.1 = k then (k, d) else kv)
  | [], _, h => by cases h; exact .nil
  | _ :: _, _, h => by
    cases h with
    | cons x y =>
      rename_i vs j w e es
      rw [List.map_cons, List.map_cons]
      by_cases ej : j = k
      · subst ej
        simp only [if_true]
        exact .cons r (repks_set r y)
      · simp only [ej, if_false]
        exact .cons x (repks_set r y)
theorem repks_snoc {S : Addr → Prop} {k : Key} {u : V} {d : D} (r : Rep K ι H S u d) : ∀ {vs : List (Key × V)} {ds : List (Key × D)}, RepKs K ι H S vs ds → RepKs K ι H S (vs ++ [(k, u)]) (ds ++ [(k, d)])
  | [], _, h => by cases h; exact .cons r .nil
  | _ :: _, _, h => by
    cases h with
    | cons x y => exact .cons x (repks_snoc r y)
theorem repks_put {S : Addr → Prop} {k : Key} {u : V} {d : D} (r : Rep K ι H S u d) {vs : List (Key × V)} {ds : List (Key × D)} (h : RepKs K ι H S vs ds) : RepKs K ι H S (putK vs k u) (dPut ds k d) := by
  unfold putK dPut
  rw [repks_any k h]
  by_cases e : (ds.any fun kv => decide (kv.1 = k)) = true
  · rw [if_pos e, if_pos e]; exact repks_set r h
  · rw [if_neg e, if_neg e]; exact repks_snoc r h
theorem repks_merge {S : Addr → Prop} : ∀ {ms : List (Key × V)} {es : List (Key × D)}, RepKs K ι H S ms es → ∀ {vs : List (Key × V)} {ds : List (Key × D)}, RepKs K ι H S vs ds → RepKs K ι H S (mergeK vs ms) (dMerge ds es)
  | [], _, h, _, _, r => by cases h; exact r
  | _ :: _, _, h, _, _, r => by
    cases h with
    | cons x y => exact repks_merge y (repks_put x r)
theorem repks_imm {S S' : Addr → Prop} : ∀ {ms : List (Key × V)} {es : List (Key × D)}, RepKs K ι H S ms es → D.imms (es.map (·.2)) = true → RepKs K ι H S' ms es
  | [], _, h, _ => by cases h; exact .nil
  | _ :: _, _, h, e => by
    cases h with
    | cons x y =>
      rw [List.map_cons] at e
      simp only [D.imms, Bool.and_eq_true] at e
      exact .cons ((Rep.imm _).1 x e.1) (repks_imm y e.2)
theorem after_dct {ds : List (Key × D)} {xs : List (Key × V)} {p : Addr} (t : StoreOk K ι H st) (k : After K v H ι Q (.dct ds) st) (hp : H p = none) (hl : xs.length ≤ LINE) (r : RepKs K ι H (NewA H ι) xs ds) : Q (.ref p) (upd H p (.dK xs)) := by
  have s := Step.laid t hp (.dK xs)
  refine k _ _ _ s (.dct (.inl upd_same) (Kind.of_new ⟨hp, not_iota t hp⟩) hl ?_)
  exact (s.carry (S' := Kind v H ι) t (fun _ h _ => h.2) fun a h _ => Kind.of_new h).all.2.2 r
theorem oc_dict : Oc1 X v dDict (fun xs H Q => ∃ (a : Addr) (ps : List Addr) (kvs : List (Key × V)), xs = [.ref a] ∧ SqL X.K H a (ps.map V.ref) ∧ Paired (fun p kv => SqT X.K H p [kV kv.1, kv.2]) ps kvs ∧ ∀ p, H p = none → Q (.ref p) (upd H p (.dK (mergeK [] kvs)))) := by
  intro x dx H ι st Q W t rx q
  cases rx with
  | lst h1 h2 h3 h4 =>
    simp only [dDict] at q
    split at q
    · rename_i kvs hk
      split at q
      · rename_i hi
        obtain ⟨ps, vs, e1, e2, e3⟩ := kpairs_of h4 hk
        subst e1
        refine ⟨_, ps, vs, rfl, .inl h1, e2, fun p hp => after_dct t q hp ?_ (repks_merge (repks_imm e3 hi) .nil)⟩
        have hl : (mergeK [] vs).length ≤ ([] : List (Key × V)).length + vs.length := length_mergeK vs []
        have l2 : ps.length = vs.length := Paired.length e2
        rw [List.length_map] at h3
        rw [List.length_nil] at hl
        omega
      · exact (show False from q).elim
    · exact (show False from q).elim
  | _ => exact (show False from q).elim
/-! sorted -/
theorem insBy_perm {α : Type} (lt : α → α → Bool) (x : α) : ∀ l : List α, (insBy lt x l).Perm (x :: l)
  | [] => List.Perm.refl _
  | y :: r => by
    unfold insBy
    split
    · exact ((insBy_perm lt x r).cons y).trans (List.Perm.swap x y r)
    · exact List.Perm.refl _
theorem isort_perm {α : Type} (lt : α → α → Bool) : ∀ l : List α, (isort lt l).Perm l
  | [] => List.Perm.refl _
  | x :: r => (insBy_perm lt x _).trans ((isort_perm lt r).cons x)
theorem insBy_sorted {α : Type} {lt : α → α → Bool} (tot : ∀ x y, lt x y = false → lt y x = false → x = y) (tr : ∀ x y z, lt y x = false → lt z y = false → lt z x = false) (asy : ∀ x y, lt x y = true → lt y x = false) (x : α) :
    ∀ l : List α, l.Pairwise (fun a b => lt b a = false) → (insBy lt x l).Pairwise (fun a b => lt b a = false)
  | [], _ => by simp [insBy]
  | y :: r, h => by
    obtain ⟨h1, h2⟩ := List.pairwise_cons.mp h
    unfold insBy
    split
    · rename_i hyx
      refine List.pairwise_cons.mpr ⟨fun z hz => ?_, insBy_sorted tot tr asy x r h2⟩
      rcases List.mem_cons.mp ((insBy_perm lt x r).mem_iff.mp hz) with rfl | hz
      · exact asy _ _ hyx
      · exact h1 z hz
    · rename_i hyx
      have hyx' : lt y x = false := by simpa using hyx
      refine List.pairwise_cons.mpr ⟨fun z hz => ?_, h⟩
      rcases List.mem_cons.mp hz with rfl | hz
      · exact hyx'
      · exact tr _ _ _ hyx' (h1 z hz)
theorem isort_sorted {α : Type} {lt : α → α → Bool} (tot : ∀ x y, lt x y = false → lt y x = false → x = y) (tr : ∀ x y z, lt y x = false → lt z y = false → lt z x = false) (asy : ∀ x y, lt x y = true → lt y x = false) :
    ∀ l : List α, (isort lt l).Pairwise (fun a b => lt b a = false)
  | [] => List.Pairwise.nil
  | x :: r => insBy_sorted tot tr asy x _ (isort_sorted tot tr asy r)
theorem sorted_one {α : Type} {le : α → α → Prop} (anti : ∀ x y, le x y → le y x → x = y) : ∀ {l m : List α}, l.Perm m → l.Pairwise le → m.Pairwise le → l = m
  | [], m, h, _, _ => (List.Perm.eq_nil h.symm).symm
  | x :: l, [], h, _, _ => absurd h.length_eq (by simp)
  | x :: l, y :: m, h, hl, hm => by
    obtain ⟨l1, l2⟩ := List.pairwise_cons.mp hl
    obtain ⟨m1, m2⟩ := List.pairwise_cons.mp hm
    have e : x = y := by
      rcases List.mem_cons.mp (h.mem_iff.mp (List.mem_cons_self (a := x) (l := l))) with e | hx
      · exact e
      · rcases List.mem_cons.mp (h.mem_iff.mpr (List.mem_cons_self (a := y) (l := m))) with e | hy
        · exact e.symm
        · exact anti _ _ (l1 y hy) (m1 x hx)
    subst e
    rw [sorted_one anti h.cons_inv l2 m2]
theorem isort_int (ns ns' : List Int) (h : ns'.Perm ns) (h2 : ns'.Pairwise (· ≤ ·)) : ns' = isort (fun a b => decide (a < b)) ns := by
  have s := isort_sorted (lt := fun a b : Int => decide (a < b)) (fun x y h1 h2 => by simp at h1 h2; omega) (fun x y z h1 h2 => by simp at h1 h2 ⊢; omega) (fun x y h => by simp at h ⊢; omega) ns
  refine sorted_one (le := fun a b : Int => a ≤ b) (fun x y h1 h2 => Int.le_antisymm h1 h2) (h.trans (isort_perm _ ns).symm) h2 (s.imp fun {a b} q => by simpa using q)
theorem Str.ext' {x y : Str} (h : x.cps.toList = y.cps.toList) : x = y := by
  cases x
  cases y
  exact congrArg Str.mk (Array.ext' h)
theorem ltS_tot (x y : Str) (h1 : ltS x y = false) (h2 : ltS y x = false) : x = y := by
  unfold ltS at h1 h2
  have a : ¬ x.cps.toList < y.cps.toList := of_decide_eq_false h1
  have b : ¬ y.cps.toList < x.cps.toList := of_decide_eq_false h2
  exact Str.ext' (List.le_antisymm (List.not_lt.mp b) (List.not_lt.mp a))
theorem ltS_tr (x y z : Str) (h1 : ltS y x = false) (h2 : ltS z y = false) : ltS z x = false := by
  unfold ltS at *
  have a : ¬ y.cps.toList < x.cps.toList := of_decide_eq_false h1
  have b : ¬ z.cps.toList < y.cps.toList := of_decide_eq_false h2
  exact decide_eq_false (List.not_lt.mpr (List.le_trans (List.not_lt.mp a) (List.not_lt.mp b)))
theorem ltS_asy (x y : Str) (h : ltS x y = true) : ltS y x = false := by
  unfold ltS at *
  have a : x.cps.toList < y.cps.toList := of_decide_eq_true h
  exact decide_eq_false (List.not_lt.mpr (List.le_of_lt a))
theorem ltP_iff {p q : Int × Int} : ltP p q = true ↔ p.1 < q.1 ∨ (p.1 = q.1 ∧ p.2 < q.2) := by
  unfold ltP
  simp
theorem ltP_no {p q : Int × Int} : ltP p q = false ↔ ¬ (p.1 < q.1 ∨ (p.1 = q.1 ∧ p.2 < q.2)) := by
  rw [← ltP_iff]
  cases ltP p q <;> simp
theorem ltP_tot (x y : Int × Int) (h1 : ltP x y = false) (h2 : ltP y x = false) : x = y := by
  have a := ltP_no.mp h1
  have b := ltP_no.mp h2
  refine Prod.ext ?_ ?_ <;> omega
theorem ltP_tr (x y z : Int × Int) (h1 : ltP y x = false) (h2 : ltP z y = false) : ltP z x = false := by
  have a := ltP_no.mp h1
  have b := ltP_no.mp h2
  exact ltP_no.mpr (by omega)
theorem ltP_asy (x y : Int × Int) (h : ltP x y = true) : ltP y x = false := by
  have a := ltP_iff.mp h
  exact ltP_no.mpr (by omega)
end
end Dl
end
section
set_option Elab.async false
set_option linter.all false
set_option maxRecDepth 100000
set_option maxHeartbeats 4000000
/-! Dl7: sorted, isinstance, join, index, sets; displays, calls over data. -/
namespace Dl
open PySem PySem.Spec PyProof.Rows L2
section
variable {X : Cx} {v : Bool} {K : PySem.W.Frag} {H : Hp} {ι : List Addr} {st : Store} {Q : VK} {W : Wish} {G : Gs} {a b c e : Expr} {es : List Expr} {A B C : Ev} {R : Av} {p pos : Pos} {σ : L2.St} {x : Str}
/-! ### sorted -/
def IsP (K : PySem.W.Frag) (H : Hp) (x : V) (p : Int × Int) : Prop := ∃ t, x = V.ref t ∧ SqT K H t [.int p.1, .int p.2]
def rSortedPD (K : PySem.W.Frag) : List V → Hp → VK → Prop := fun vs H Q => ∃ (a : Addr) (xs : List V) (ps : List (Int × Int)), vs = [V.ref a] ∧ SqL K H a xs ∧ Paired (IsP K H) xs ps ∧
  ∀ ys p, ys.length = xs.length → Paired (IsP K H) ys (isort ltP ps) → H p = none → Q (.ref p) (upd H p (.lst ys))
theorem Paired.mem1 {α β : Type} {F : α → β → Prop} : ∀ {l : List α} {m : List β}, Paired F l m → ∀ x ∈ l, ∃ y, y ∈ m ∧ F x y
  | _, _, .nil, x, h => absurd h (by simp)
  | _, _, .cons r t, x, h => by
    rcases List.mem_cons.mp h with rfl | h
    · exact ⟨_, List.mem_cons_self, r⟩
    · obtain ⟨y, hy, q⟩ := Paired.mem1 t x h
      exact ⟨y, List.mem_cons_of_mem _ hy, q⟩
theorem Paired.map_eq {α β : Type} {F : α → β → Prop} {k : α → β} (h : ∀ x y, F x y → k x = y) : ∀ {l : List α} {m : List β}, Paired F l m → l.map k = m
  | _, _, .nil => rfl
  | _, _, .cons r t => by rw [List.map_cons, h _ _ r, Paired.map_eq h t]
theorem Paired.of_map {α β : Type} {F : α → β → Prop} {k : α → β} : ∀ {l : List α}, (∀ x ∈ l, F x (k x)) → Paired F l (l.map k)
  | [], _ => .nil
  | x :: l, h => .cons (h x List.mem_cons_self) (Paired.of_map fun y hy => h y (List.mem_cons_of_mem _ hy))
theorem lexB_ltP (p q : Int × Int) : SrtO.lexB p q = ltP p q := by
  rw [Bool.eq_iff_iff, SrtO.lexB_iff, ltP_iff]
theorem cr_sortedPD : CallR X (.builtin "sorted") (rSortedPD X.K) := by
  intro pins s σ H vs us Q I r h
  obtain ⟨a, xs, ps, rfl, hs, hx, q⟩ := h
  obtain ⟨its, rv, hl, hz⟩ := I.list hs
  obtain ⟨u, rfl, ru⟩ := vals1 r
  obtain rfl : u = Value.ref a := ru
  classical
  -- which pair a value is
  have one : ∀ y p p', IsP X.K H y p → IsP X.K H y p' → p = p' := fun y p p' ⟨t, e1, h1⟩ ⟨t', e2, h2⟩ => by
    rw [e1] at e2
    cases e2
    have z := I.tuple_inj h1 h2
    simp only [List.cons.injEq, V.int.injEq, and_true] at z
    exact Prod.ext z.1 z.2
  let k : V → Int × Int := fun y => if h : ∃ p, IsP X.K H y p then Classical.choose h else (0, 0)
  have kOf : ∀ y p, IsP X.K H y p → k y = p := fun y p hp => by
    have ex : ∃ p, IsP X.K H y p := ⟨p, hp⟩
    show (if h : ∃ p, IsP X.K H y p then Classical.choose h else (0, 0)) = p
    rw [dif_pos ex]
    exact one y _ _ (Classical.choose_spec ex) hp
  have hk : xs.map k = ps := Paired.map_eq (fun y p h => kOf y p h) hx
  obtain ⟨e1, e2⟩ := refs_back rv fun y m => by
    obtain ⟨p, _, t, e, _⟩ := Paired.mem1 hx y m
    exact ⟨t, e⟩
  refine SrtO.sorted_pairsO (k := fun u => k (backV u)) hl.isList (by rw [← rv.length]; exact hz) (fun w hw => ?_) fun h' d out h1 h2 kp hd hn => ?_
  · obtain ⟨t, rfl⟩ := e2 w hw
    have hm : V.ref t ∈ xs := by rw [e1]; exact List.mem_map.mpr ⟨_, hw, rfl⟩
    obtain ⟨p, _, hp⟩ := Paired.mem1 hx _ hm
    have ek : k (backV (.ref t)) = p := kOf _ _ hp
    rw [ek]
    obtain ⟨t', et, ht⟩ := hp
    cases et
    obtain ⟨its2, r2, ⟨o, ho, hc, n, hd⟩, _⟩ := I.tuple ht
    obtain ⟨u1, u2, rfl, ri, rj⟩ := vals2 r2
    obtain ⟨t1, rfl⟩ := ri
    obtain ⟨t2, rfl⟩ := rj
    exact ⟨t, o, t1, t2, n, rfl, ho, hc, hd⟩
  · have h3 : ∀ u ∈ out, ∃ a, u = Value.ref a := fun u hu => e2 u (h2.perm.mem_iff.mp hu)
    obtain ⟨n, hn⟩ := hn
    have pm : (out.map backV).Perm xs := by rw [e1]; exact h2.perm.map backV
    have hlen : (out.map backV).length = xs.length := pm.length_eq
    refine ⟨.ref d, upd H d (.lst (out.map backV)), I.laid (t' := s.toks) kp hd ⟨by rw [hlen]; exact hz, out, n, vals_back h3, hn⟩, rfl, q _ d hlen ?_ (I.hok.fresh hd)⟩
    have srt : (out.map backV).Pairwise fun y z => ltP (k z) (k y) = false := List.pairwise_map.mpr (h1.imp fun {y z} h => by rw [← lexB_ltP]; exact h)
    have e3 : (out.map backV).map k = isort ltP ps := by
      have srt2 : ((out.map backV).map k).Pairwise fun p q => ltP q p = false := List.pairwise_map.mpr srt
      refine sorted_one (le := fun p q : Int × Int => ltP q p = false) (fun p q h1 h2 => ltP_tot _ _ h2 h1) ?_ srt2 (isort_sorted ltP_tot (fun x y z h1 h2 => ltP_tr x y z h1 h2) ltP_asy ps)
      have z := pm.map k
      rw [hk] at z
      exact z.trans (isort_perm _ ps).symm
    rw [← e3]
    refine Paired.of_map fun y hy => ?_
    obtain ⟨p, _, hp⟩ := Paired.mem1 hx y (pm.mem_iff.mp hy)
    rw [kOf y p hp]
    exact hp
/-- tuples that can be compared with one another -/
def rSortedDat (K : PySem.W.Frag) : List V → Hp → VK → Prop := fun vs H Q => ∃ (a : Addr) (bs : List (V × PyData)), vs = [V.ref a] ∧ SqL K H a (bs.map (·.1)) ∧ (∀ b ∈ bs, Dp K H b.1 b.2) ∧ PySem.W.AllAlike (bs.map (·.2)) ∧ PySem.W.Sortable (bs.map (·.2)) ∧ (∀ b ∈ bs, b.2.depth ≤ 60) ∧
  ∀ p, H p = none → Q (.ref p) (upd H p (.lst ((bs.mergeSort (PySem.W.dataLe false (·.2))).map (·.1))))
theorem each_vals {β : Type} {P : β → Prop} : ∀ {bs : List (V × β)} {its : List Value}, Vals (bs.map (·.1)) its → PySem.W.EachIs (fun u b => RelV b.1 u) its bs
  | [], _, r => by
    cases r
    exact .nil
  | b :: bs, _, r => by
    have r' : Vals (b.1 :: bs.map (·.1)) _ := r
    cases r' with
    | cons h t => exact .cons h (each_vals (P := P) t)
theorem vals_each {β : Type} : ∀ {bs : List (V × β)} {its : List Value}, PySem.W.EachIs (fun u b => RelV b.1 u) its bs → Vals (bs.map (·.1)) its
  | _, _, .nil => .nil
  | _, _, .cons h t => .cons h (vals_each t)
theorem each_reads {pins : List (Addr × Obj)} {σ : L2.St} {H : Hp} {s : Shared} (I : L2.Inv X pins σ H s) : ∀ {bs : List (V × PyData)} {its : List Value}, (∀ b ∈ bs, Dp X.K H b.1 b.2) → PySem.W.EachIs (fun u b => RelV b.1 u) its bs → PySem.W.EachIs (fun u b => ∃ as, Reads s.heap u b.2 as) its bs
  | _, _, _, .nil => .nil
  | b :: _, _, hd, .cons h t => .cons (Dp.reads I b.2 b.1 _ (hd b List.mem_cons_self) h) (each_reads I (fun b' m => hd b' (List.mem_cons_of_mem _ m)) t)
theorem cr_sortedDat (hu : X.A.units + 64 < cLine) : CallR X (.builtin "sorted") (rSortedDat X.K) := by
  intro pins s σ H vs us Q I r h
  obtain ⟨a, bs, rfl, hs, hd, hal, hk, hdep, q⟩ := h
  obtain ⟨its, rv, hl, hz⟩ := I.list hs
  obtain ⟨u, rfl, ru⟩ := vals1 r
  obtain rfl : u = Value.ref a := ru
  have e := each_vals (P := fun _ => True) rv
  have hz2 : bs.length ≤ sizeLine := by rwa [List.length_map] at hz
  refine PySem.W.sorted_data (R := fun u b => RelV b.1 u) (bs := bs) (enc := (·.2)) (vs := its) hl.isList e (each_reads I hd e) hal hk hz2 (fun b hb => by have := hdep b hb; omega) fun out h1 h2 => ?_
  have ml : (bs.mergeSort (PySem.W.dataLe false (·.2))).length = bs.length := List.length_mergeSort _
  refine ⟨.ref (s.heap.objs.size + 1), upd H (s.heap.objs.size + 1) (.lst ((bs.mergeSort (PySem.W.dataLe false (·.2))).map (·.1))), I.laid (t' := s.toks) (fun b o e => sortedAll_old e) (Nat.le_succ _) ?_, rfl, q _ (I.hok.fresh (Nat.le_succ _))⟩
  obtain ⟨n, hn⟩ := sortedAll_at s.heap its out.toArray
  exact ⟨by rw [List.length_map, ml]; exact hz2, out, n, vals_each h2, hn⟩
def rSortA (K : PySem.W.Frag) : List V → Hp → VK → Prop := fun vs H Q => rSortedI K vs H Q ∨ (rSortedS K vs H Q ∨ (rSortedPD K vs H Q ∨ rSortedDat K vs H Q))
theorem call_sortedA (hu : X.A.units + 64 < cLine) : CallR X (.builtin "sorted") (rSortA X.K) := CallR.or cr_sortedI (CallR.or cr_sortedS (CallR.or cr_sortedPD (cr_sortedDat hu)))
theorem zip_fst {α β : Type} : ∀ {l : List α} {m : List β}, l.length = m.length → (l.zip m).map (·.1) = l
  | [], [], _ => rfl
  | a :: l, b :: m, h => by
    rw [List.zip_cons_cons, List.map_cons, zip_fst (by simpa using h)]
theorem zip_snd {α β : Type} : ∀ {l : List α} {m : List β}, l.length = m.length → (l.zip m).map (·.2) = m
  | [], [], _ => rfl
  | a :: l, b :: m, h => by
    rw [List.zip_cons_cons, List.map_cons, zip_snd (by simpa using h)]
theorem reps_zip {S : Addr → Prop} : ∀ {vs : List V} {ds : List D}, Reps K ι H S vs ds → ∀ c ∈ vs.zip ds, Rep K ι H S c.1 c.2
  | _, _, .nil, c, h => by cases h
  | _, _, .cons r t, c, h => by
    rw [List.zip_cons_cons] at h
    rcases List.mem_cons.mp h with rfl | h
    · exact r
    · exact reps_zip t c h
theorem zip_reps {S : Addr → Prop} : ∀ {l : List (V × D)}, (∀ c ∈ l, Rep K ι H S c.1 c.2) → Reps K ι H S (l.map (·.1)) (l.map (·.2))
  | [], _ => .nil
  | c :: l, h => .cons (h c List.mem_cons_self) (zip_reps fun d m => h d (List.mem_cons_of_mem _ m))
theorem py_pyD {d : D} (h : d.py.isSome = true) : d.py = some (pyD d) := by
  unfold pyD
  cases e : d.py with
  | some p => rfl
  | none => rw [e] at h; cases h
theorem rising_pw : ∀ (ys : List Str) (p : Str), risingS p ys = true → (p :: ys).Pairwise fun a b => ltS b a = false
  | [], p, _ => by simp
  | y :: ys, p, h => by
    unfold risingS at h
    rw [Bool.and_eq_true] at h
    have h1 : ltS y p = false := by
      have z := h.1
      have e : ltCps y.cps.toList p.cps.toList = ltS y p := by
        unfold ltS
        exact ltCps_eq _ _
      rw [e] at z
      simpa using z
    have ih := rising_pw ys y h.2
    refine List.pairwise_cons.mpr ⟨fun z hz => ?_, ih⟩
    rcases List.mem_cons.mp hz with rfl | hz
    · exact h1
    · exact ltS_tr _ _ _ h1 ((List.pairwise_cons.mp ih).1 z hz)
theorem isort_str (ns ns' : List Str) (h : ns'.Perm ns) (h2 : sortedS ns' = true) : ns' = isort ltS ns := by
  have s := isort_sorted ltS_tot ltS_tr ltS_asy ns
  refine sorted_one (le := fun a b : Str => ltS b a = false) (fun x y h1 h2 => ltS_tot _ _ h2 h1) (h.trans (isort_perm _ ns).symm) ?_ s
  cases ns' with
  | nil => exact List.Pairwise.nil
  | cons y ys => exact rising_pw ys y h2
theorem pairs_reps {S : Addr → Prop} : ∀ {xs : List V} {ps : List (Int × Int)}, Paired (IsP K H) xs ps → Reps K ι H S xs (ps.map prD)
  | _, _, .nil => .nil
  | _, _, .cons ⟨t, e, h⟩ r => by
    subst e
    exact .cons (.tup h (show 2 ≤ LINE by decide) (.cons (.int _) (.cons (.int _) .nil))) (pairs_reps r)
theorem pairsOf_reps {S : Addr → Prop} : ∀ {xs : List V} {ds : List D} {ps : List (Int × Int)}, Reps K ι H S xs ds → Dl.pairsOf ds = some ps → Paired (IsP K H) xs ps
  | [], _, ps, h, e => by
    cases h
    simp [Dl.pairsOf] at e
    subst e
    exact .nil
  | _ :: _, _, ps, h, e => by
    cases h with
    | cons r t =>
      simp only [Dl.pairsOf, Option.bind_eq_some_iff, Option.map_eq_some_iff] at e
      obtain ⟨p, e1, ps', e2, rfl⟩ := e
      refine .cons ?_ (pairsOf_reps t e2)
      cases r with
      | tup h1 h2 h3 =>
        cases h3 with
        | nil => simp [pairOf] at e1
        | cons r1 t1 =>
          cases t1 with
          | nil => cases r1 <;> simp [pairOf] at e1
          | cons r2 t2 =>
            cases t2 with
            | nil =>
              cases r1 <;> cases r2 <;> simp [pairOf] at e1
              subst e1
              exact ⟨_, rfl, h1⟩
            | cons _ _ => cases r1 <;> cases r2 <;> simp [pairOf] at e1
      | _ => simp [pairOf] at e1
theorem oc_sorted : Oc1 X v dSorted (rSortA X.K) := by
  intro x dx H ι st Q W t rx q
  cases rx with
  | @lst a vs xs h1 h2 h3 h4 =>
    simp only [dSorted] at q
    split at q
    · rename_i ns hn
      have e := intsOf_some hn
      subst e
      have e2 := reps_int h4
      subst e2
      refine .inl ⟨_, ns, rfl, .inl h1, fun ns' p pm srt hp => ?_⟩
      have e3 := isort_int ns ns' pm srt
      rw [List.length_map] at h3
      rw [← e3] at q
      exact after_lst t q hp (by rw [List.length_map, pm.length_eq]; exact h3) (int_reps ns')
    · split at q
      · rename_i ns hn
        split at q
        · rename_i h64
          have e := strsOf_some hn
          subst e
          obtain ⟨e2, e4⟩ := reps_str h4
          subst e2
          refine .inr (.inl ⟨_, ns, rfl, .inl h1, h64, fun ns' p pm srt hp => ?_⟩)
          have e3 := isort_str ns ns' pm srt
          rw [List.length_map] at h3
          rw [← e3] at q
          exact after_lst t q hp (by rw [List.length_map, pm.length_eq]; exact h3) (str_reps ns' fun z hz => e4 z (pm.mem_iff.mp hz))
        · exact (show False from q).elim
      · split at q
        · rename_i ps hps
          refine .inr (.inr (.inl ⟨_, _, ps, rfl, .inl h1, pairsOf_reps h4 hps, fun ys p hl hy hp => ?_⟩))
          exact after_lst t q hp (by rw [hl]; exact h3) (pairs_reps hy)
        · split at q
          · rename_i hs
            unfold srtOk at hs
            simp only [Bool.and_eq_true, List.all_eq_true, decide_eq_true_eq] at hs
            obtain ⟨hi, hs⟩ := hs
            have hlen := h4.length
            have hr := h4.imm (NewA H ι) hi
            have cz := reps_zip h4
            refine .inr (.inr (.inr ⟨_, (vs.zip xs).map fun c => (c.1, pyD c.2), rfl, .inl (by rw [List.map_map]; show Rd H a (.lst ((vs.zip xs).map (·.1))); rw [zip_fst hlen]; exact h1), fun b hb => ?_, ?_, .inl fun d hd => ?_, fun b hb => ?_, fun p hp => ?_⟩))
            · obtain ⟨c, hc, rfl⟩ := List.mem_map.mp hb
              have hm : c.2 ∈ xs := (List.of_mem_zip hc).2
              exact Rep.dp.1 (cz c hc) _ (py_pyD (hs _ hm).1.1.2)
            · intro d hd d' hd'
              rw [List.map_map] at hd hd'
              obtain ⟨c, hc, rfl⟩ := List.mem_map.mp hd
              obtain ⟨c', hc', rfl⟩ := List.mem_map.mp hd'
              exact (hs _ (List.of_mem_zip hc).2).2 _ (List.of_mem_zip hc').2
            · rw [List.map_map] at hd
              obtain ⟨c, hc, rfl⟩ := List.mem_map.mp hd
              have h9 := (hs _ (List.of_mem_zip hc).2).1.1
              have h8 := h9.1
              have h7 := h9.2
              show ∃ x r, pyD c.2 = .tuple (x :: r)
              generalize c.2 = d at h7 h8
              cases d with
              | tup ys =>
                cases ys with
                | nil => simp at h8
                | cons y ys =>
                  have e := py_pyD h7
                  simp only [D.py, D.pys, Option.map_eq_some_iff, Option.bind_eq_some_iff] at e
                  obtain ⟨l, ⟨p, _, q, _, rfl⟩, e⟩ := e
                  exact ⟨p, q, e.symm⟩
              | _ => simp at h8
            · obtain ⟨c, hc, rfl⟩ := List.mem_map.mp hb
              exact (hs _ (List.of_mem_zip hc).2).1.2
            · have e1 : ((vs.zip xs).map fun c => (c.1, pyD c.2)).mergeSort (PySem.W.dataLe false (·.2)) = ((vs.zip xs).mergeSort fun c c' => leD c.2 c'.2).map fun c => (c.1, pyD c.2) :=
                (List.map_mergeSort (r := fun c c' : V × D => leD c.2 c'.2) (s := PySem.W.dataLe false (·.2)) (f := fun c : V × D => (c.1, pyD c.2)) (fun _ _ _ _ => rfl)).symm
              have e2 : xs.mergeSort leD = ((vs.zip xs).mergeSort fun c c' => leD c.2 c'.2).map (·.2) := by
                rw [List.map_mergeSort (r := fun c c' : V × D => leD c.2 c'.2) (s := leD) (fun _ _ _ _ => rfl), zip_snd hlen]
              rw [e1, List.map_map]
              rw [e2] at q
              have hz : ((vs.zip xs).mergeSort fun c c' => leD c.2 c'.2).length = xs.length := by
                rw [List.length_mergeSort, List.length_zip]; omega
              exact after_lst t q hp (by show (((vs.zip xs).mergeSort fun c c' => leD c.2 c'.2).map (·.1)).length ≤ LINE; rw [List.length_map, hz, ← hlen]; exact h3) (zip_reps fun c hc => reps_zip hr c (List.mem_mergeSort.mp hc))
          · exact (show False from q).elim
  | _ => exact (show False from q).elim
/-! ### isinstance -/
def Ty.name : Ty → String
  | .int => "int"
  | .bool => "bool"
  | .str => "str"
  | .tuple => "tuple"
  | .list => "list"
def D.tn : D → String
  | .non => "NoneType"
  | .bl _ => "bool"
  | .int _ => "int"
  | .str _ => "str"
  | .tup _ => "tuple"
  | .lst _ => "list"
  | .dct _ => "dict"
  | .obj _ => ""
theorem kit_has (t : Ty) (d : D) (h : ∀ n, d ≠ .obj n) : kitB d.tn t.name = some (t.has d) := by
  cases t <;> cases d <;> first | exact absurd rfl (h _) | (show kitB _ _ = some _; simp only [D.tn, Ty.name, Ty.has]; decide +kernel)
theorem ty_of {S : Addr → Prop} {x : V} {d : D} (r : Rep K ι H S x d) (h : ∀ n, d ≠ .obj n) : TyX K H x (.type d.tn) := by
  cases r with
  | non => exact .base .non
  | bl b => exact .base (.bl b)
  | int i => exact .base (.int i)
  | str z _ => exact .base (.str z)
  | tup q _ _ =>
    rcases q with (q | ⟨o, q⟩) | ⟨o, its, n, hk, hc, _⟩
    · exact .base (.tup q)
    · exact .fTuple q
    · exact .kTuple hk hc
  | lst q _ _ _ =>
    rcases q with q | ⟨o, q⟩
    · exact .base (.lst q)
    · exact .base (.frz q)
  | dct q _ _ _ =>
    rcases q with q | ⟨o, q⟩
    · exact .base (.dK q)
    · exact .fDict q
  | obj _ => exact absurd rfl (h _)
theorem dIsi_ok {ts : List Ty} {d : D} {W : Wish} {P : D → Store → Prop} (q : (dIsi ts d st).Sat W P) : (∀ n, d ≠ .obj n) ∧ P (.bl (ts.any fun t => t.has d)) st := by
  cases d <;> first | exact (show False from q).elim | exact ⟨fun n => (by intro h; cases h), q⟩
/-- isinstance(x, T) -/
theorem de_isi {t : Ty} {y : Str} {p2 : Pos} (hK : G.K = X.K) (hg : Gl X "isinstance") (hm : X.mg "isinstance" = none) (hg2 : Gl X y) (hm2 : X.mg y = none) (hy : bootBuiltins y = some (.type t.name)) (hyn : y ≠ "__name__") (hyd : (y == ("__debug__" : Str)) = false)
    (he : starEach [a, .Name y p2] X.env = (false, eval a X.env) :: starEach [.Name y p2] X.env) (ha : PE X a (tE G W false A)) : PE X (.Call (.Name "isinstance" p) [a, .Name y p2] [] pos) (tE G W v (eIsi [t] A)) :=
  pe_weak (pe_callB call_isi hg hm PyProof.Rows.boot_isinstance (pa_cons ha (pa_cons (pe_bltn (v := .ty t.name) hg2 hm2 hy rfl hyn hyd) pa_nil rfl) he) (by decide) (by decide) he rfl) fun σ H Q h =>
    un1_reads (X := X) (v := v) (f := dIsi [t]) (r := fun x H Q => rIsi X.K [x, .ty t.name] H Q) hK (fun x dx H ι st Q W tt rx q => by
      obtain ⟨h1, h2⟩ := dIsi_ok q
      refine ⟨x, .ty t.name, _, .type t.name, t.has dx, rfl, .ty _, ty_of rx h1, kit_ty (kit_has t dx h1), ?_⟩
      have q' : After X.K v H ι Q (.bl (t.has dx)) st := by
        have z := h2
        simp only [List.any_cons, List.any_nil, Bool.or_false] at z
        exact z
      exact after_flat tt q' (.bl _)) h
theorem kit_any {K : PySem.W.Frag} (d : D) (h : ∀ n, d ≠ .obj n) : ∀ ts : List Ty, PySem.W.kitAny K (.type d.tn) (ts.map fun t => .type t.name) = some (ts.any fun t => t.has d)
  | [] => kitAny_nil
  | t :: ts => by
    rw [List.map_cons, List.any_cons]
    exact kitAny_cons (kit_ty (kit_has t d h)) (fun hb => by rw [hb, Bool.false_or]; exact kit_any d h ts) fun hb => by rw [hb, Bool.true_or]
/-- isinstance(x, (T, U)) -/
theorem de_isi2 {t u : Ty} {y z : Str} {p2 p3 p4 : Pos} {kk : Nat} (hK : G.K = X.K) (hg : Gl X "isinstance") (hm : X.mg "isinstance" = none) (hg2 : Gl X y) (hm2 : X.mg y = none) (hy : bootBuiltins y = some (.type t.name)) (hyn : y ≠ "__name__") (hyd : (y == ("__debug__" : Str)) = false)
    (hg3 : Gl X z) (hm3 : X.mg z = none) (hz : bootBuiltins z = some (.type u.name)) (hzn : z ≠ "__name__") (hzd : (z == ("__debug__" : Str)) = false)
    (he : starEach [a, .Tuple [.Name y p2, .Name z p3] kk p4] X.env = (false, eval a X.env) :: starEach [.Tuple [.Name y p2, .Name z p3] kk p4] X.env) (ha : PE X a (tE G W false A)) :
    PE X (.Call (.Name "isinstance" p) [a, .Tuple [.Name y p2, .Name z p3] kk p4] [] pos) (tE G W v (eIsi [t, u] A)) :=
  pe_weak (pe_callB call_isiT hg hm PyProof.Rows.boot_isinstance (pa_cons ha (pa_cons (pe_tup (pa_cons (pe_bltn (v := .ty t.name) hg2 hm2 hy rfl hyn hyd) (pa_cons (pe_bltn (v := .ty u.name) hg3 hm3 hz rfl hzn hzd) pa_nil rfl) rfl)) pa_nil rfl) he) (by decide) (by decide) he rfl) fun σ H Q h =>
    un1_reads (X := X) (v := v) (f := dIsi [t, u]) (r := fun x H Q => ([V.ty t.name, .ty u.name].length ≤ sizeLine ∧ ∀ q, H q = none → rIsiT X.K [x, .ref q] (upd H q (.tup [.ty t.name, .ty u.name])) Q)) hK (fun x dx H ι st Q W tt rx q => by
      obtain ⟨h1, h2⟩ := dIsi_ok q
      refine ⟨by rw [sizeLine_eq]; exact (by decide : 2 ≤ 16777216), fun q hq => ?_⟩
      have s := Step.laid tt hq (.tup [V.ty t.name, .ty u.name])
      have rx' := look_step tt s rx
      exact ⟨x, q, _, _, [t, u].map fun t => .type t.name, _, rfl, upd_same, .cons (.ty _) (.cons (.ty _) .nil), ty_of rx' h1, kit_any dx h1 [t, u], h2 _ _ _ s (.bl _)⟩) h
/-! ### join, index -/
theorem join_len (a : Str) (ys : List Str) : True := trivial
def rJoinM (K : PySem.W.Frag) : V → List V → Hp → VK → Prop := fun x xs H Q => ∃ a p, ∃ ys : List Str, x = .str a ∧ xs = [.ref p] ∧ (SqL K H p (ys.map V.str) ∨ SqT K H p (ys.map V.str)) ∧
    (ys.map (·.length)).sum + ys.length * a.length ≤ 16777216 ∧ Q (.str (Txt.join a ys)) H
theorem ob_join (x y : V) (dx dy : D) (H : Hp) (ι : List Addr) (st : Store) (Q : VK) (W : Wish) (hd : dx.isStr = true) (t : StoreOk X.K ι H st) (rx : Rep X.K ι H (OutA ι) x dx) (ry : Rep X.K ι H (OutA ι) y dy) (q : (dJoin dx dy st).Sat W (After X.K v H ι Q)) : rJoinM X.K x [y] H Q := by
  cases rx with
  | str a ha =>
    cases ry with
    | lst h1 h2 h3 h4 =>
      simp only [dJoin] at q
      split at q
      · rename_i ys hy
        split at q
        · rename_i h
          have e := strsOf_some hy
          subst e
          obtain ⟨e2, _⟩ := reps_str h4
          subst e2
          exact ⟨a, _, ys, rfl, rfl, .inl (.inl h1), h.2, after_flat t q (.str _ h.1)⟩
        · exact (show False from q).elim
      · exact (show False from q).elim
    | tup h1 h2 h3 =>
      simp only [dJoin] at q
      split at q
      · rename_i ys hy
        split at q
        · rename_i h
          have e := strsOf_some hy
          subst e
          obtain ⟨e2, _⟩ := reps_str h3
          subst e2
          exact ⟨a, _, ys, rfl, rfl, .inr h1, h.2, after_flat t q (.str _ h.1)⟩
        · exact (show False from q).elim
      · exact (show False from q).elim
    | _ => exact (show False from q).elim
  | _ => simp [D.isStr] at hd
theorem bin2c_reads {f : D → D → Store → Out D} {r : R2} {chk : D → Bool} {C : V → Hp → Prop} (hK : G.K = X.K) (hC : ∀ (x : V) (dx : D) (H : Hp) (ι : List Addr), Rep X.K ι H (OutA ι) x dx → chk dx = true → C x H) (hf : ∀ (x y : V) (dx dy : D) (H : Hp) (ι : List Addr) (st : Store) (Q : VK) (W : Wish), chk dx = true → StoreOk X.K ι H st → Rep X.K ι H (OutA ι) x dx → Rep X.K ι H (OutA ι) y dy → (f dx dy st).Sat W (After X.K v H ι Q) → r x y H Q)
    (h : tE G W v (bin2c chk f A B) σ H Q) : tE G W false A σ H fun x H1 => C x H1 ∧ tE G W false B σ H1 fun y H2 => r x y H2 Q := by
  obtain ⟨env, st, ι, O, x, q⟩ := h
  refine ⟨env, st, ι, O, x, (Out.sat_bind q).mono fun d st1 q1 u H1 ι1 s1 r1 => ?_⟩
  split at q1
  · rename_i hd
    have r1X := r1
    rw [hK] at r1X
    refine ⟨hC u d H1 ι1 r1X hd, env, st1, ι1, O, x.step s1, (Out.sat_bind q1).mono fun d2 st2 q2 u2 H2 ι2 s2 r2 => ?_⟩
    have r1' := look_step s1.store s2 r1
    have s12 := s1.trans s2
    rw [hK] at s12 r1' r2
    refine hf u u2 d d2 H2 ι2 st2 Q W hd s12.store r1' r2 (q2.mono fun d' st' k => ?_)
    rw [hK] at k
    exact After.shift s12 k
  · exact (show False from q1).elim
theorem de_join {o : Expr} {apos : Pos} (hK : G.K = X.K) (ho : PE X o (tE G W false A)) (he : PE X e (tE G W false B)) (hs : starEach [e] X.env = [(false, eval e X.env)]) (hbase : attributeBase o "join" X.env (eval o X.env) = eval o X.env) (hline : (apos.endLine == pos.line) = true) :
    PE X (.Call (.Attribute o "join" apos) [e] [] pos) (tE G W v (eJoin A B)) :=
  pe_weak (pe_join ho he hs hbase hline) fun _ _ _ h => bin2c_reads (C := fun x _ => ∃ a, x = V.str a) hK (fun x dx H ι r hd => by
    cases r with
    | str a _ => exact ⟨a, rfl⟩
    | _ => simp [D.isStr] at hd) ob_join h
theorem ob_index (x y : V) (dx dy : D) (H : Hp) (ι : List Addr) (st : Store) (Q : VK) (W : Wish) (hd : dx.isLst = true) (t : StoreOk X.K ι H st) (rx : Rep X.K ι H (OutA ι) x dx) (ry : Rep X.K ι H (OutA ι) y dy) (q : (dIndex dx dy st).Sat W (After X.K v H ι Q)) : rIndex X.K x [y] H Q := by
  cases rx with
  | @lst la xs ds h1 h2 h3 h4 =>
    simp only [dIndex] at q
    split at q
    · rename_i hf
      rw [Bool.and_eq_true] at hf
      split at q
      · rename_i j hj
        rw [List.findIdx?_eq_some_iff_getElem] at hj
        obtain ⟨hlt, hp, hno⟩ := hj
        have e1 : ds[j]? = some ds[j] := List.getElem?_eq_getElem hlt
        obtain ⟨z, hz, rz⟩ := h4.get e1
        have fz : ds[j].flat = true := List.all_eq_true.mp hf.2 _ (List.getElem_mem hlt)
        refine ⟨_, xs, y, j, z, rfl, rfl, .inl h1, flat_of ry hf.1, flats_of h4 hf.2, hz, ?_, fun m z' hm hz' => ?_, after_flat t q (.int _)⟩
        · rw [feq_of ry rz hf.1 fz]; exact hp
        · obtain ⟨d', hd', rd'⟩ := h4.getV hz'
          have hml : m < ds.length := (List.getElem?_eq_some_iff.mp hd').1
          have e2 : ds[m] = d' := (List.getElem?_eq_some_iff.mp hd').2
          have fd : d'.flat = true := List.all_eq_true.mp hf.2 _ (e2 ▸ List.getElem_mem hml)
          rw [feq_of ry rd' hf.1 fd, ← e2]
          simpa using hno m hm
      · exact (show False from q).elim
    · exact (show False from q).elim
  | _ => simp [D.isLst] at hd
theorem de_index {o : Expr} {apos : Pos} (hK : G.K = X.K) (ho : PE X o (tE G W false A)) (he : PE X e (tE G W false B)) (hbase : attributeBase o "index" X.env (eval o X.env) = eval o X.env)
    (hfew : ((backTo pos (starEach [e] X.env)).all (fun x => !x.1) && (backToKw pos (keywordEach [] X.env)).all (fun x => x.1.isSome)
      && decide ([e].length + ([] : List Keyword).length + (if ([] : List Keyword).isEmpty then 0 else 1) < 30)) = true)
    (hline : (apos.endLine == pos.line) = true) (hs : starEach [e] X.env = (false, eval e X.env) :: starEach [] X.env) :
    PE X (.Call (.Attribute o "index" apos) [e] [] pos) (tE G W v (eIndex A B)) :=
  pe_weak (pe_bm PySem.F.plainAttrs_list PySem.F.slot_list_index PySem.F.type_list_index mt_index ho (pa_cons he pa_nil hs) hbase hfew hline hs rfl) fun _ _ _ h =>
    bin2c_reads (C := fun x H => tyV X.K "list" x H) hK (fun x dx H ι r hd => by
      cases r with
      | lst h1 _ _ _ => exact .inl ⟨rfl, _, .inl h1⟩
      | _ => simp [D.isLst] at hd) ob_index h
/-! ### a set's size -/
def rLenSetT (K : PySem.W.Frag) : V → Hp → VK → Prop := fun x H Q => ∃ (l : Addr) (ns : List Int), x = .ref l ∧ SqT K H l (ns.map V.int) ∧ ns.length ≤ 4000 ∧ Q (.int ((uniqI ns).length : Nat)) H
theorem nodup_len {l m : List Int} (hl : l.Nodup) (hm : m.Nodup) (h : ∀ k, k ∈ l ↔ k ∈ m) : l.length = m.length := by
  refine List.Perm.length_eq ?_
  exact (List.perm_ext_iff_of_nodup hl hm).mpr h
theorem pe_lenSetT {ta : TE} {p2 q : Pos} (hc : X.calm = true) (hg : Gl X "len") (hm : X.mg "len" = none) (hg2 : Gl X "set") (hm2 : X.mg "set" = none) (ha : PE X a ta)
    (na : starEach [a] X.env = (false, eval a X.env) :: starEach [] X.env) : PE X (.Call (.Name "len" p) [.Call (.Name "set" p2) [a] [] q] [] pos) (fun σ H Q => ta σ H fun x H1 => rLenSetT X.K x H1 Q) := by
  refine ⟨fun pins s σ H Q I h => ?_⟩
  refine Call_ (ld_blt I hg hm boot_len ?_)
  refine PyProof.Rows.callWith_builtin1 (PyProof.Rows.args_cons ?_ rfl) rfl rfl
  refine Call_ (ld_blt I hg2 hm2 boot_set ?_)
  refine PyProof.Rows.callWith_type1 (PyProof.Rows.args_cons (thn (ha.run pins s σ H _ I h) fun v s1 ⟨x, H1, I1, r1, q1⟩ => PyProof.Rows.args_nil ?_) na) na rfl
  obtain ⟨l, ns, rfl, hq, hl, q1⟩ := q1
  cases r1
  obtain ⟨its, r, pl, hz⟩ := I1.tuple hq
  refine call_set_tupI ns (I1.ok.hd hc) pl (by simpa using r.ints) (by unfold scanBound; omega) fun h' tk c R hcl hk => ?_
  refine PyProof.Rows.args_nil ?_
  obtain ⟨o, es, ep, t, ho, hex, hd, _, hnd, hmem, _, hf, hn, _⟩ := R
  have I2 : Inv X pins σ H1 { s1 with heap := h', toks := tk } := I1.kept hk
  have ec : es.size = (uniqI ns).length := by
    have e1 : es.size = (es.toList.map L2.keyOf).length := by simp
    rw [e1]
    refine nodup_len hnd (nodup_uniqI ns) fun k => ?_
    rw [← hmem k, mem_uniqI]
    simp
  have hb : (uniqI ns).length ≤ 4000 := Nat.le_trans (uniqI_len ns) hl
  refine call_len_set ho hex hd hf (by rw [ec]; omega) ⟨.int ((uniqI ns).length : Nat), H1, I2.tok _, ⟨_, by rw [ec]⟩, q1⟩
theorem ob_lenset : Ob1 X v dLenSet (rLenSetT X.K) := by
  intro x dx H ι st Q W t rx q
  cases rx with
  | tup h1 h2 h3 =>
    simp only [dLenSet] at q
    split at q
    · rename_i ns hn
      split at q
      · rename_i hl
        have e := intsOf_some hn
        subst e
        have e2 := reps_int h3
        subst e2
        exact ⟨_, ns, rfl, h1, hl, after_flat t q (.int _)⟩
      · exact (show False from q).elim
    · exact (show False from q).elim
  | _ => exact (show False from q).elim
theorem de_lenset {p2 q : Pos} (hK : G.K = X.K) (hc : X.calm = true) (hg : Gl X "len") (hm : X.mg "len" = none) (hg2 : Gl X "set") (hm2 : X.mg "set" = none) (ha : PE X a (tE G W false A))
    (na : starEach [a] X.env = (false, eval a X.env) :: starEach [] X.env) : PE X (.Call (.Name "len" p) [.Call (.Name "set" p2) [a] [] q] [] pos) (tE G W v (eLenSet A)) :=
  pe_weak (pe_lenSetT hc hg hm hg2 hm2 ha na) fun _ _ _ h => un1_reads hK ob_lenset h
end
end Dl
end
section
set_option Elab.async false
set_option linter.all false
set_option maxRecDepth 100000
set_option maxHeartbeats 4000000
/-! Dl8: displays, calls, tests, what is walked, comprehensions over data. -/
namespace Dl
open PySem PySem.Spec PyProof.Rows L2
section
variable {X : Cx} {v : Bool} {K : PySem.W.Frag} {H : Hp} {ι : List Addr} {st : Store} {Q : VK} {W : Wish} {G : Gs} {a b c e : Expr} {es : List Expr} {A B C : Ev} {R : Av} {T U : Tv} {p pos : Pos} {σ : L2.St} {x : Str}
/-! ### arguments -/
theorem da_nil : PA X [] (tA G W v aNil) := pa_weak pa_nil fun σ H Q ⟨env, st, ι, O, x, q⟩ => q [] H ι (Step.refl x.base.store) .nil
theorem Kind.step {H H1 : Hp} {ι ι1 : List Addr} {st1 : Store} {a : Addr} (s : Step K H ι H1 ι1 st1) : ∀ {v : Bool} {H0 : Hp}, Kind v H0 ι a → (∃ o, H a = some o) → Kind v H0 ι1 a
  | true, _, h, ⟨o, e⟩ => ⟨h.1, s.out e h.2⟩
  | false, _, h, ⟨o, e⟩ => s.out e h
theorem Kind.notIn {H0 : Hp} {ι : List Addr} {a : Addr} : ∀ {v : Bool}, Kind v H0 ι a → a ∉ ι
  | true, h => h.2
  | false, h => h
theorem kind_step {H0 H H1 : Hp} {ι ι1 : List Addr} {st st1 : Store} {u : V} {d : D} (t : StoreOk K ι H st) (s : Step K H ι H1 ι1 st1) (r : Rep K ι H (Kind v H0 ι) u d) : Rep K ι1 H1 (Kind v H0 ι1) u d :=
  (s.carry (S' := Kind v H0 ι1) t (fun _ h _ => h.notIn) fun a h e => Kind.step s h e).all.1 r
theorem da_cons (ha : PE X a (tE G W v A)) (hr : PA X es (tA G W v R)) (hs : starEach (a :: es) X.env = (false, eval a X.env) :: starEach es X.env) : PA X (a :: es) (tA G W v (aCons A R)) :=
  pa_weak (pa_cons ha hr hs) fun σ H Q ⟨env, st, ι, O, x, q⟩ =>
    ⟨env, st, ι, O, x, (Out.sat_bind q).mono fun d st1 q1 u H1 ι1 s1 r1 => ⟨env, st1, ι1, O, x.step s1, (Out.sat_bind q1).mono fun ds st2 q2 us H2 ι2 s2 r2 =>
      q2 (u :: us) H2 ι2 (s1.trans s2) (.cons (kind_step s1.store s2 r1) (r2.weaken fun _ h _ => Kind.back s1 h))⟩⟩
/-! ### displays -/
theorem de_tup {kk : Nat} (hK : G.K = X.K) (h : PA X es (tA G W true R)) : PE X (.Tuple es kk pos) (tE G W v (eTup R)) := de_new (pe_weak (pe_tup h) fun σ H Q ⟨env, st, ι, O, x, q⟩ =>
  ⟨env, st, ι, O, x, (Out.sat_bind q).mono fun ds st1 q1 us H1 ι1 s1 r1 => by
    split at q1
    · rename_i hl
      refine ⟨by rw [r1.length, ← line_eq]; exact hl, fun p hp => ?_⟩
      have s2 := Step.laid s1.store hp (.tup us)
      refine q1 _ _ _ (s1.trans s2) (.tup (.inl (.inl upd_same)) (by rw [r1.length]; exact hl) ?_)
      exact new_steps s1.store s2 r1
    · exact (show False from q1).elim⟩)
theorem de_lst (h : PA X es (tA G W true R)) : PE X (.List es pos) (tE G W v (eLst R)) := de_new (pe_weak (pe_lst h) fun σ H Q ⟨env, st, ι, O, x, q⟩ =>
  ⟨env, st, ι, O, x, (Out.sat_bind q).mono fun ds st1 q1 us H1 ι1 s1 r1 => by
    split at q1
    · rename_i hl
      refine ⟨by rw [r1.length, ← line_eq]; exact hl, fun p hp => ?_⟩
      have s2 := Step.laid s1.store hp (.lst us)
      refine q1 _ _ _ (s1.trans s2) (.lst (.inl upd_same) ⟨s1.noneOf hp, not_iota s1.store hp⟩ (by rw [r1.length]; exact hl) ?_)
      exact new_steps s1.store s2 r1
    · exact (show False from q1).elim⟩)
/-- a new shared list -/
theorem Step.cell {st : Store} (t : StoreOk K ι H st) {p : Addr} (hp : H p = none) {us : List V} {ds : List D} (hl : us.length ≤ LINE) (hi : D.imms ds = true) {S : Addr → Prop} (r : Reps K ι H S us ds) : Step K H ι (upd H p (.lst us)) (ι ++ [p]) (st ++ [.cell ds]) := by
  have s := Step.laid t hp (.lst us)
  have np := not_iota t hp
  have c : ∀ {S : Addr → Prop}, Carry K ι H (fun _ => False) (ι ++ [p]) (upd H p (.lst us)) S := fun {S} => by
    refine ⟨fun a xs h => s.sqT t h, fun _ _ h => h.elim, fun _ _ h => h.elim, fun n a h => prefix_get (List.prefix_append _ _) h⟩
  refine ⟨fun a o e m => s.keep a o e m, List.prefix_append _ _, fun a m => ?_, s.live, ⟨?_, ?_, ?_⟩, s.nf⟩
  · rcases List.mem_append.mp m with m | m
    · exact .inl m
    · exact .inr (by rw [List.mem_singleton.mp m]; exact hp)
  · rw [List.length_append, List.length_append, t.len] <;> rfl
  · refine List.nodup_append.mpr ⟨t.nd, by simp, fun a ha b hb => ?_⟩
    rw [List.mem_singleton.mp hb]
    exact fun e => np (e ▸ ha)
  · intro n o a h1 h2
    by_cases hn : n < st.length
    · rw [List.getElem?_append_left hn] at h1
      rw [List.getElem?_append_left (by rw [t.len]; exact hn)] at h2
      have q := s.store.at_ n o a h1 h2
      cases o with
      | cell ds' => obtain ⟨xs, e, h3, h4, h5⟩ := q; exact ⟨xs, e, h3, h4, (Carry.all (S' := fun _ => False) ⟨fun a xs h => h, fun _ _ h => h.elim, fun _ _ h => h.elim, fun n a h => prefix_get (List.prefix_append _ _) h⟩).2.1 h5⟩
      | inst cl fs => obtain ⟨dx, vs, e, h3, h4, h5, h6, h7⟩ := q; exact ⟨dx, vs, e, h3, h4, h5, h6, (Carry.all (S' := fun _ => False) ⟨fun a xs h => h, fun _ _ h => h.elim, fun _ _ h => h.elim, fun n a h => prefix_get (List.prefix_append _ _) h⟩).2.1 h7⟩
    · have e : n = st.length := by
        have z := (List.getElem?_eq_some_iff.mp h1).1
        rw [List.length_append, List.length_singleton] at z
        omega
      subst e
      rw [List.getElem?_append_right (Nat.le_refl _), Nat.sub_self] at h1
      cases h1
      rw [← t.len, List.getElem?_append_right (Nat.le_refl _), Nat.sub_self] at h2
      cases h2
      exact ⟨us, upd_same, hl, hi, c.all.2.1 (r.imm _ hi)⟩
theorem de_cell (h : PA X es (tA G W true R)) : PE X (.List es pos) (tE G W v (eNewCell R)) := pe_weak (pe_lst h) fun σ H Q ⟨env, st, ι, O, x, q⟩ =>
  ⟨env, st, ι, O, x, (Out.sat_bind q).mono fun ds st1 q1 us H1 ι1 s1 r1 => by
    split at q1
    · rename_i hl
      rw [Bool.and_eq_true, decide_eq_true_eq] at hl
      refine ⟨by rw [r1.length, ← line_eq]; exact hl.2, fun p hp => ?_⟩
      have s2 := Step.cell s1.store hp (by rw [r1.length]; exact hl.2) hl.1 r1
      refine q1 _ _ _ (s1.trans s2) (.obj ?_)
      rw [← s1.store.len, List.getElem?_append_right (Nat.le_refl _), Nat.sub_self] <;> rfl
    · exact (show False from q1).elim⟩
/-! ### calls -/
theorem de_call {f : Addr} {fd : FuncData} {ps : List Str} {k : Nat} {F : Fn} (hK : G.K = X.K) (hF : FnOk X.prog X.w X.K X.mg X.base (L2.CX X.prog X.w) k f fd ps (spD X.K F)) (hr : Room k X.A) (hg : Gl X x) (hm : X.mg x = some (.ref f)) (hk : PySem.W.keepIn X.K (.ref f) = true) (hb : Binds X.K fd ps [])
    (tk : Takes X fun cls d _ H => XW G W cls d H) (ha : PA X (a :: es) (tA G W false R))
    (hdb : (x == ("__debug__" : Str)) = false) (he : starEach (a :: es) X.env = (false, eval a X.env) :: starEach es X.env) (hpl : (backTo pos (starEach es X.env)).any (·.1) = false) :
    PE X (.Call (.Name x p) (a :: es) [] pos) (tE G W v (eCall F R)) :=
  de_new (pe_weak (pe_call (E := XW G W) hF hr hg hm hk hb .nil (passes_call tk fun _ _ _ _ h => h) ha hdb he hpl) fun σ H Q ⟨env, st, ι, O, x, q⟩ => by
    refine ⟨env, st, ι, O, x, (Out.sat_bind q).mono fun ds st2 q2 us H1 ι2 s2 r2 => ?_⟩
    show spD X.K F (us ++ []) H1 Q (XW G W)
    rw [List.append_nil]
    have s2X := s2
    rw [hK] at s2X r2
    refine ⟨ds, st2, ι2, s2X.store, r2, ?_⟩
    have xb := x.base
    cases e : F st2 ds with
    | bad => rw [e] at q2; exact q2
    | ex er st3 =>
      rw [e] at q2
      intro cls d H' ι3 s3 xr
      rw [← hK] at s3 xr
      exact ⟨er, st3, ι3, q2, xr, (xb.trans s2).trans s3⟩
    | ok d st3 =>
      rw [e] at q2
      intro u H' ι3 s3 r3
      rw [← hK] at s3 r3
      exact q2 u H' ι3 (s2.trans s3) (r3.weaken fun _ h _ => ⟨s2.noneOf h.1, h.2⟩))
/-! ### tests, and, or, not -/
theorem dt_not (h : PT X a (tT G W T)) : PT X (.UnaryOp .Not a pos) (tT G W (Dl.tNot T)) := pt_weak (pt_not h) fun σ H Q ⟨env, st, ι, O, x, q⟩ =>
  ⟨env, st, ι, O, x, (Out.sat_bind q).mono fun b st1 q1 H1 ι1 s1 => q1 H1 ι1 s1⟩
theorem dw_and1 (h : PT X a (tT G W T)) : PW X (.BoolOp .And [a] pos) (tT G W T) := pw_and1 h
theorem dw_or1 (h : PT X a (tT G W T)) : PW X (.BoolOp .Or [a] pos) (tT G W T) := pw_or1 h
theorem dw_and {rest : List Expr} (h : PT X a (tT G W T)) (h2 : PW X (.BoolOp .And (b :: rest) pos) (tT G W U)) : PW X (.BoolOp .And (a :: b :: rest) pos) (tT G W (Dl.tAnd T U)) := pw_weak (pw_and h h2) fun σ H Q ⟨env, st, ι, O, x, q⟩ =>
  ⟨env, st, ι, O, x, (Out.sat_bind q).mono fun b st1 q1 H1 ι1 s1 => by
    cases b with
    | true => exact ⟨env, st1, ι1, O, x.step s1, Out.Sat.mono q1 fun c st2 q2 H2 ι2 s2 => q2 H2 ι2 (s1.trans s2)⟩
    | false => exact q1 H1 ι1 s1⟩
theorem dw_or {rest : List Expr} (h : PT X a (tT G W T)) (h2 : PW X (.BoolOp .Or (b :: rest) pos) (tT G W U)) : PW X (.BoolOp .Or (a :: b :: rest) pos) (tT G W (Dl.tOr T U)) := pw_weak (pw_or h h2) fun σ H Q ⟨env, st, ι, O, x, q⟩ =>
  ⟨env, st, ι, O, x, (Out.sat_bind q).mono fun b st1 q1 H1 ι1 s1 => by
    cases b with
    | true => exact q1 H1 ι1 s1
    | false => exact ⟨env, st1, ι1, O, x.step s1, Out.Sat.mono q1 fun c st2 q2 H2 ι2 s2 => q2 H2 ι2 (s1.trans s2)⟩⟩
theorem tru_of {S : Addr → Prop} {x : V} {d : D} {k : Bool} (r : Rep K ι H S x d) (h : d.truth = some k) : TruV K x H k := by
  cases r with
  | non => exact (Option.some.inj h).symm
  | bl b => exact (Option.some.inj h).symm
  | int i => exact (Option.some.inj h).symm
  | str z hz => exact ⟨by rw [← line_eq]; exact hz, (Option.some.inj h).symm⟩
  | tup q _ r =>
    refine .inr (.inl ⟨_, q, ?_⟩)
    rw [← Option.some.inj h]
    cases r <;> rfl
  | lst q _ _ r =>
    refine .inl ⟨_, .inl q, ?_⟩
    rw [← Option.some.inj h]
    cases r <;> rfl
  | _ => simp [D.truth] at h
theorem dt_truth (hK : G.K = X.K) (h : PE X a (tE G W false A)) (he : ∀ whole, isTrue a X.env whole = (do let v ← whole; standAt a.pos; holding [v] (truthy v))) : PT X a (tT G W (tTruth A)) :=
  pt_weak (pt_truth h he) fun σ H Q ⟨env, st, ι, O, x, q⟩ => ⟨env, st, ι, O, x, (Out.sat_bind q).mono fun d st1 q1 u H1 ι1 s1 r1 => by
    split at q1
    · rename_i k hk
      rw [hK] at r1
      exact ⟨k, tru_of r1 hk, q1 H1 ι1 s1⟩
    · exact (show False from q1).elim⟩
theorem de_and {rest : List Expr} (ha : PE X a (tE G W false A)) (hb : PE X (.BoolOp .And (b :: rest) pos) (tE G W v B)) : PE X (.BoolOp .And (a :: b :: rest) pos) (tE G W v (eAnd A B)) :=
  pe_weak (pe_and ha hb) fun σ H Q ⟨env, st, ι, O, x, q⟩ => ⟨env, st, ι, O, x, (Out.sat_bind q).mono fun d st1 q1 u H1 ι1 s1 r1 => by
    cases r1 with
    | bl b =>
      refine ⟨b, rfl, ?_⟩
      cases b with
      | true => exact ⟨env, st1, ι1, O, x.step s1, Out.Sat.mono q1 fun c st2 q2 u H2 ι2 s2 r2 => q2 u H2 ι2 (s1.trans s2) (r2.weaken fun _ h _ => Kind.back s1 h)⟩
      | false => exact q1 _ H1 ι1 s1 (.bl false)
    | _ => exact (show False from q1).elim⟩
theorem kind_new {H : Hp} {ι : List Addr} {a : Addr} : ∀ {v : Bool}, Kind true H ι a → Kind v H ι a
  | true, h => h
  | false, h => h.out
theorem de_or {rest : List Expr} (hK : G.K = X.K) (ha : PE X a (tE G W true A)) (hb : PE X (.BoolOp .Or (b :: rest) pos) (tE G W v B)) : PE X (.BoolOp .Or (a :: b :: rest) pos) (tE G W v (eOr A B)) :=
  pe_weak (pe_orT ha hb) fun σ H Q ⟨env, st, ι, O, x, q⟩ => ⟨env, st, ι, O, x, (Out.sat_bind q).mono fun d st1 q1 u H1 ι1 s1 r1 => by
    split at q1
    · rename_i hk
      refine ⟨true, tru_of (hK ▸ r1) hk, ?_⟩
      rw [if_pos rfl]
      exact q1 _ H1 ι1 s1 (r1.weaken fun _ h _ => kind_new h)
    · rename_i hk
      refine ⟨false, tru_of (hK ▸ r1) hk, ?_⟩
      rw [if_neg (by simp)]
      exact ⟨env, st1, ι1, O, x.step s1, Out.Sat.mono q1 fun c st2 q2 u H2 ι2 s2 r2 => q2 u H2 ι2 (s1.trans s2) (r2.weaken fun _ h _ => Kind.back s1 h)⟩
    · exact (show False from q1).elim⟩
theorem de_not (ha : PE X a (tE G W false A)) : PE X (.UnaryOp .Not a pos) (tE G W v (eNot A)) :=
  pe_weak (pe_not ha) fun σ H Q ⟨env, st, ι, O, x, q⟩ => ⟨env, st, ι, O, x, (Out.sat_bind q).mono fun d st1 q1 u H1 ι1 s1 r1 => by
    cases r1 with
    | bl b => exact ⟨b, rfl, q1 _ H1 ι1 s1 (.bl _)⟩
    | _ => exact (show False from q1).elim⟩
theorem de_if (hc : PT X c (tT G W T)) (ha : PE X a (tE G W v A)) (hb : PE X b (tE G W v B)) : PE X (.IfExp c a b pos) (tE G W v (eIf T A B)) :=
  pe_weak (pe_ifExp hc ha hb) fun σ H Q ⟨env, st, ι, O, x, q⟩ => ⟨env, st, ι, O, x, (Out.sat_bind q).mono fun d st1 q1 H1 ι1 s1 => by
    cases d with
    | true => exact ⟨env, st1, ι1, O, x.step s1, Out.Sat.mono q1 fun c st2 q2 u H2 ι2 s2 r2 => q2 u H2 ι2 (s1.trans s2) (r2.weaken fun _ h _ => Kind.back s1 h)⟩
    | false => exact ⟨env, st1, ι1, O, x.step s1, Out.Sat.mono q1 fun c st2 q2 u H2 ι2 s2 r2 => q2 u H2 ι2 (s1.trans s2) (r2.weaken fun _ h _ => Kind.back s1 h)⟩⟩
/-- is None, is not None -/
theorem ob_isn : Ob2 X v (fun x y st => match y with | .non => dIsN false x st | _ => .bad) (fun x y H Q => y = .non ∧ Q (.bl (decide (x = .non))) H) := by
  intro x y dx dy H ι st Q W t rx ry q
  cases ry <;> first | exact (show False from q).elim | skip
  refine ⟨rfl, ?_⟩
  have q' : After X.K v H ι Q (.bl dx.isNon) st := q
  rw [isNon_eq rx] at q'
  exact after_flat t q' (.bl _)
theorem isN_reads {neg : Bool} (hK : G.K = X.K) (h : tE G W v (eIsN neg A) σ H Q) : tE G W false A σ H fun x H1 => Q (.bl (if neg then !decide (x = .non) else decide (x = .non))) H1 :=
  un1_reads (X := X) (v := v) (f := dIsN neg) (r := fun x H1 Q => Q (.bl (if neg then !decide (x = .non) else decide (x = .non))) H1) hK (fun x dx H ι st Q W t rx q => by
    have q' : After X.K v H ι Q (.bl (if neg then !dx.isNon else dx.isNon)) st := q
    rw [isNon_eq rx] at q'
    exact after_flat t q' (.bl _)) h
theorem de_isN {j : Nat} {pos' : Pos} (hK : G.K = X.K) (ha : PE X a (tE G W false A)) : PE X (.Compare a [.Is] [.Constant .none j pos'] pos) (tE G W v (eIsN false A)) :=
  pe_weak (pe_cmp (pc_isN ha) rfl) fun _ _ _ h => isN_reads hK h
theorem de_notN {j : Nat} {pos' : Pos} (hK : G.K = X.K) (ha : PE X a (tE G W false A)) : PE X (.Compare a [.IsNot] [.Constant .none j pos'] pos) (tE G W v (eIsN true A)) :=
  pe_weak (pe_cmp (pc_notN ha) rfl) fun _ _ _ h => isN_reads hK h
theorem dt_isN {j : Nat} {pos' : Pos} (hK : G.K = X.K) (ha : PE X a (tE G W false A)) : PT X (.Compare a [.Is] [.Constant .none j pos'] pos) (tT G W (tVal (eIsN false A))) :=
  pt_weak (pt_cmp (pc_isN ha) rfl) fun _ _ _ h => isN_reads (v := false) hK (tVal_reads h)
theorem dt_notN {j : Nat} {pos' : Pos} (hK : G.K = X.K) (ha : PE X a (tE G W false A)) : PT X (.Compare a [.IsNot] [.Constant .none j pos'] pos) (tT G W (tVal (eIsN true A))) :=
  pt_weak (pt_cmp (pc_notN ha) rfl) fun _ _ _ h => isN_reads (v := false) hK (tVal_reads h)
/-- a c b c2 e -/
theorem chain_reads {c1 c2 : Cm} (hK : G.K = X.K) (h : tE G W v (eChain c1 c2 A B C) σ H Q) : tChain (rCm c1) (rCm c2) (tE G W false A) (tE G W false B) (tE G W false C) σ H Q := by
  obtain ⟨env, st, ι, O, x, q⟩ := h
  refine ⟨env, st, ι, O, x, (Out.sat_bind q).mono fun d st1 q1 u H1 ι1 s1 r1 => ?_⟩
  refine ⟨env, st1, ι1, O, x.step s1, (Out.sat_bind q1).mono fun d2 st2 q2 u2 H2 ι2 s2 r2 => ?_⟩
  have r1' := look_step s1.store s2 r1
  have s12 := s1.trans s2
  have cm : ∀ {c : Cm} {z w : V} {dz dw : D} {H' : Hp} {ι' : List Addr} {st' : Store} {P : Bool → Store → Prop} {Q' : VK}, StoreOk G.K ι' H' st' → Rep G.K ι' H' (OutA ι') z dz → Rep G.K ι' H' (OutA ι') w dw → (cmI c dz dw st').Sat W (fun d st'' => ∃ b, d = .bl b ∧ P b st'') → (∀ b, P b st' → Q' (.bl b) H') → rCm c z w H' Q' := fun {c z w dz dw H' ι' st' P Q'} t rz rw' q hP => by
    cases rz <;> cases rw' <;> first | exact (show False from q).elim | skip
    · obtain ⟨b, e, p⟩ := (show ∃ b, D.bl _ = .bl b ∧ P b st' from q)
      cases e
      exact .inl ⟨_, _, rfl, rfl, hP _ p⟩
    · obtain ⟨b, e, p⟩ := (show ∃ b, D.bl _ = .bl b ∧ P b st' from q)
      cases e
      exact .inr ⟨_, _, rfl, rfl, hP _ p⟩
  have q3 := Out.sat_bind q2
  refine cm (P := fun b st' => (match b with | true => (C st' env).bind fun w st => cmI c2 d2 w st | false => .ok (.bl false) st').Sat W fun d st' => ∀ u H' ι', Step G.K H ι H' ι' st' → Rep G.K ι' H' (Kind v H ι') u d → Q u H') s12.store r1' r2 ?_ fun b p => ?_
  · cases e : cmI c1 d d2 st2 with
    | bad => rw [e] at q3; exact q3
    | ex er st3 => rw [e] at q3; exact q3
    | ok z st3 =>
      rw [e] at q3
      cases z with
      | bl b => exact ⟨b, rfl, by cases b <;> exact q3⟩
      | _ => exact (show False from q3).elim
  · refine ⟨b, rfl, ?_⟩
    cases b with
    | false => exact p _ H2 ι2 s12 (.bl false)
    | true =>
      refine ⟨env, st2, ι2, O, x.step s12, (Out.sat_bind p).mono fun d3 st3 q4 u3 H3 ι3 s3 r3 => ?_⟩
      have r2' := look_step s12.store s3 r2
      have s13 := s12.trans s3
      refine cm (P := fun b st' => ∀ u H' ι', Step G.K H ι H' ι' st' → Rep G.K ι' H' (Kind v H ι') u (.bl b) → Q u H') s13.store r2' r3 ?_ fun b p => p _ H3 ι3 s13 (.bl b)
      cases e : cmI c2 d2 d3 st3 with
      | bad => rw [e] at q4; exact q4
      | ex er st3 => rw [e] at q4; exact q4
      | ok z st4 =>
        rw [e] at q4
        have : ∃ b, z = .bl b := by
          unfold cmI at e
          split at e
          · cases e; exact ⟨_, rfl⟩
          · cases e; exact ⟨_, rfl⟩
          · cases e
        obtain ⟨b, rfl⟩ := this
        exact ⟨b, rfl, q4⟩
theorem de_chain {c1 c2 : Cm} (hK : G.K = X.K) (ha : PE X a (tE G W false A)) (hb : PE X b (tE G W false B)) (hc : PE X c (tE G W false C)) (h : ∀ {r r' : R2}, OpR X (compareOp (cmOp c1)) r → OpR X (compareOp (cmOp c2)) r' → PE X (.Compare a [cmOp c1, cmOp c2] [b, c] pos) (tChain r r' (tE G W false A) (tE G W false B) (tE G W false C))) :
    PE X (.Compare a [cmOp c1, cmOp c2] [b, c] pos) (tE G W v (eChain c1 c2 A B C)) := pe_weak (h (op_cm c1) (op_cm c2)) fun _ _ _ h => chain_reads hK h
end
end Dl
end
section
set_option Elab.async false
set_option linter.all false
set_option maxRecDepth 100000
set_option maxHeartbeats 4000000
/-! Dl9: what is walked, comprehensions over data. -/
namespace Dl
open PySem PySem.Spec PyProof.Rows L2
section
variable {X : Cx} {v : Bool} {K : PySem.W.Frag} {H H' : Hp} {ι ι' : List Addr} {st st' : Store} {Q : VK} {W : Wish} {G : Gs} {a b c e : Expr} {es : List Expr} {A B C : Ev} {R : Av} {T U : Tv} {p pos : Pos} {σ : L2.St} {x : Str} {env : En} {O : Own} {m : Bool}
/-! ### slots written -/
def noOwn (O : Own) (i : Nat) : Own := fun j => if j = i then none else O j
theorem noOwn_some {O : Own} {i j : Nat} {b : Addr} (h : noOwn O i j = some b) : O j = some b := by
  unfold noOwn at h
  split at h
  · cases h
  · exact h
theorem clean_sub {O O' : Own} {ι : List Addr} {a : Addr} (h : ∀ j b, O' j = some b → O j = some b) (c : Clean O ι a) : Clean O' ι a := ⟨fun i e => c.1 i (h i a e), c.2⟩
theorem SlotOk.sub {O O' : Own} {i : Nat} {sv : Option (Option V)} {s : Sl} (h : ∀ j b, O' j = some b → O j = some b) (e : O' i = O i) (z : SlotOk G H ι O i sv s) : SlotOk G H ι O' i sv s := by
  cases s with
  | un => exact e.trans z
  | vl d =>
    obtain ⟨h1, v, h2, h3⟩ := z
    exact ⟨e.trans h1, v, h2, h3.weaken fun _ c _ => clean_sub h c⟩
  | ow d =>
    obtain ⟨a, h1, h2, h3, h4, h5⟩ := z
    refine ⟨a, e.trans h1, h2, h3, h4, ?_⟩
    cases d with
    | lst ds => obtain ⟨xs, h6, h7, h8⟩ := h5; exact ⟨xs, h6, h7, h8.weaken fun _ c _ => ⟨c.1, clean_sub h c.2⟩⟩
    | dct ds => obtain ⟨xs, h6, h7, h8⟩ := h5; exact ⟨xs, h6, h7, (Carry.sub fun _ c _ => ⟨c.1, clean_sub h c.2⟩).all.2.2 h8⟩
    | _ => exact h5.elim
theorem getD_set {α : Type} {l : List α} {i j : Nat} {x d : α} : (l.set i x).getD j d = if i = j ∧ j < l.length then x else l.getD j d := by
  rw [List.getD_eq_getElem?_getD, List.getD_eq_getElem?_getD, List.getElem?_set]
  by_cases e : i = j
  · subst e
    by_cases h : i < l.length
    · simp [h]
    · simp [h, List.getElem?_eq_none (Nat.not_lt.mp h)]
  · simp [e]
/-- a slot forgotten -/
theorem StOk.unset (x : StOk G σ H env st ι O) (i : Nat) : StOk G (σ.set i none) H (env.set i .un) st ι (noOwn O i) where
  base := x.base
  ln1 := by rw [List.length_set]; exact x.ln1
  ln2 := by rw [List.length_set]; exact x.ln2
  inj := fun j k a h1 h2 => x.inj j k a (noOwn_some h1) (noOwn_some h2)
  slot := fun j => by
    rw [getD_set]
    by_cases e : i = j ∧ j < env.length
    · obtain ⟨rfl, hl⟩ := e
      rw [if_pos ⟨rfl, hl⟩]
      show noOwn O i i = none
      unfold noOwn
      rw [if_pos rfl]
    · rw [if_neg e]
      by_cases ej : j = i
      · subst ej
        have hl : ¬ j < env.length := fun h => e ⟨rfl, h⟩
        rw [List.getD_eq_getElem?_getD, List.getElem?_eq_none (Nat.not_lt.mp hl)]
        show noOwn O j j = none
        unfold noOwn
        rw [if_pos rfl]
      · rw [List.getElem?_set_ne (Ne.symm ej)]
        refine (x.slot j).sub (fun _ _ h => noOwn_some h) ?_
        unfold noOwn
        rw [if_neg ej]
/-- a value that is read only -/
theorem StOk.setVl (x : StOk G σ H env st ι O) {i : Nat} (hi : i < G.n) {u : V} {d : D} (r : Rep G.K ι H (Clean O ι) u d) : StOk G (σ.set i (some u)) H (env.set i (.vl d)) st ι (noOwn O i) where
  base := x.base
  ln1 := by rw [List.length_set]; exact x.ln1
  ln2 := by rw [List.length_set]; exact x.ln2
  inj := fun j k a h1 h2 => x.inj j k a (noOwn_some h1) (noOwn_some h2)
  slot := fun j => by
    rw [getD_set]
    by_cases e : i = j ∧ j < env.length
    · obtain ⟨rfl, hl⟩ := e
      rw [if_pos ⟨rfl, hl⟩]
      refine ⟨by unfold noOwn; rw [if_pos rfl], u, ?_, r.weaken fun _ c _ => clean_sub (fun _ _ h => noOwn_some h) c⟩
      rw [List.getElem?_set_self (by rw [x.ln1]; exact hi)]
    · rw [if_neg e]
      by_cases ej : j = i
      · subst ej
        exact absurd ⟨rfl, by rw [x.ln2]; exact hi⟩ e
      · rw [List.getElem?_set_ne (Ne.symm ej)]
        refine (x.slot j).sub (fun _ _ h => noOwn_some h) ?_
        unfold noOwn
        rw [if_neg ej]
theorem StOk.wipe : ∀ (vs : List Nat) {σ : L2.St} {env : En} {O : Own}, StOk G σ H env st ι O → ∃ O', (∀ j b, O' j = some b → O j = some b) ∧ StOk G (L2.wipe σ vs) H (wipeE env vs) st ι O'
  | [], _, _, O, x => ⟨O, fun _ _ h => h, x⟩
  | i :: is, _, _, O, x => by
    obtain ⟨O', h, y⟩ := StOk.wipe is x
    exact ⟨noOwn O' i, fun j b e => h j b (noOwn_some e), y.unset i⟩
/-! ### targets -/
def gNames : List Nat → TGs
  | [] => gNil
  | i :: is => gCons (gName i) (gNames is)
def tgR (K : PySem.W.Frag) : Tg → TG
  | .one i => gName i
  | .tup is => gTup K is.length (gNames is)
def agree (vs : List Nat) (σ σ' : L2.St) : Prop := σ'.length = σ.length ∧ ∀ k, k ∉ vs → σ'[k]? = σ[k]?
theorem names_reads {is : List Nat} : ∀ {us : List V} {ds : List D} {σ : L2.St} {env env' : En} {O : Own} {Q : L2.St → Hp → Prop}, (∀ i ∈ is, i < G.n) → StOk G σ H env st ι O → Reps G.K ι H (Clean O ι) us ds → setAll is ds env = some env' →
    (∀ σ' O', (∀ j b, O' j = some b → O j = some b) → StOk G σ' H env' st ι O' → agree is σ σ' → Q σ' H) → gNames is us σ H Q := by
  induction is with
  | nil =>
    intro us ds σ env env' O Q hn x r e k
    cases ds with
    | cons _ _ => simp [setAll] at e
    | nil =>
      cases r
      simp [setAll] at e
      subst e
      exact ⟨rfl, k σ O (fun _ _ h => h) x ⟨rfl, fun _ _ => rfl⟩⟩
  | cons i is ih =>
    intro us ds σ env env' O Q hn x r e k
    cases ds with
    | nil => simp [setAll] at e
    | cons d ds =>
      cases r with
      | cons a t =>
        rename_i u us
        simp only [setAll] at e
        refine ⟨u, us, rfl, ?_⟩
        refine ih (fun j hj => hn j (List.mem_cons_of_mem _ hj)) (x.setVl (hn i List.mem_cons_self) a) (t.weaken fun _ c _ => clean_sub (fun _ _ h => noOwn_some h) c) e fun σ' O' h y ag => ?_
        refine k σ' O' (fun j b h' => noOwn_some (h j b h')) y ⟨?_, fun q hq => ?_⟩
        · rw [ag.1, List.length_set]
        · rw [ag.2 q fun z => hq (List.mem_cons_of_mem _ z), List.getElem?_set_ne fun z : i = q => hq (by rw [← z]; exact List.mem_cons_self)]
theorem setAll_len : ∀ {is : List Nat} {ds : List D} {env env' : En}, setAll is ds env = some env' → ds.length = is.length
  | [], [], _, _, _ => rfl
  | [], _ :: _, _, _, e => by simp [setAll] at e
  | _ :: _, [], _, _, e => by simp [setAll] at e
  | i :: is, d :: ds, _, _, e => by
    simp only [setAll] at e
    rw [List.length_cons, List.length_cons, setAll_len e]
theorem tg_reads {g : Tg} {u : V} {d : D} {env' : En} {Q : L2.St → Hp → Prop} (hn : ∀ i ∈ g.slots, i < G.n) (x : StOk G σ H env st ι O) (r : Rep G.K ι H (Clean O ι) u d) (e : g.set d env = some env')
    (k : ∀ σ' O', (∀ j b, O' j = some b → O j = some b) → StOk G σ' H env' st ι O' → agree g.slots σ σ' → Q σ' H) : tgR G.K g u σ H Q := by
  cases g with
  | one i =>
    simp only [Tg.set, Option.some.injEq] at e
    subst e
    exact k _ _ (fun _ _ h => noOwn_some h) (x.setVl (hn i (by simp [Tg.slots])) r) ⟨List.length_set .., fun q hq => List.getElem?_set_ne fun z => hq (by simp [Tg.slots, z])⟩
  | tup is =>
    cases d with
    | tup ds =>
      cases r with
      | tup h1 h2 h3 =>
        rename_i ad xs
        have hl : ds.length = is.length := setAll_len e
        exact ⟨ad, xs, rfl, h1, h3.length.trans hl, names_reads hn x h3 e k⟩
    | _ => simp [Tg.set] at e
theorem wipe_get (σ : L2.St) (k : Nat) : ∀ vs : List Nat, (L2.wipe σ vs)[k]? = if k ∈ vs ∧ k < σ.length then some none else σ[k]?
  | [] => by simp [L2.wipe]
  | v :: vs => by
    unfold L2.wipe
    rw [List.getElem?_set, wipe_length, wipe_get σ k vs]
    by_cases e : v = k
    · subst e
      by_cases h : v < σ.length
      · simp [h]
      · simp [h, List.getElem?_eq_none (Nat.not_lt.mp h)]
    · have e' : ¬ k = v := fun z => e z.symm
      simp [e, e']
theorem wipe_agree {σ σ' : L2.St} {vs : List Nat} (h : agree vs σ σ') : L2.wipe σ' vs = L2.wipe σ vs := by
  apply List.ext_getElem?
  intro k
  rw [wipe_get, wipe_get, h.1]
  by_cases hk : k ∈ vs ∧ k < σ.length
  · rw [if_pos hk, if_pos hk]
  · rw [if_neg hk, if_neg hk]
    by_cases hv : k ∈ vs
    · have hl : ¬ k < σ.length := fun z => hk ⟨hv, z⟩
      rw [List.getElem?_eq_none (by rw [h.1]; exact Nat.not_lt.mp hl), List.getElem?_eq_none (Nat.not_lt.mp hl)]
    · exact h.2 k hv
theorem wipe_wipe (σ : L2.St) (vs : List Nat) : L2.wipe (L2.wipe σ vs) vs = L2.wipe σ vs := by
  apply List.ext_getElem?
  intro k
  rw [wipe_get, wipe_length, wipe_get]
  by_cases hk : k ∈ vs ∧ k < σ.length
  · rw [if_pos hk, if_pos hk]
  · rw [if_neg hk, if_neg hk]
/-! ### what is walked -/
def Loose (m : Bool) (O : Own) (a : Addr) : Prop := m = true ∧ ∃ i, O i = some a
structure LStep (K : PySem.W.Frag) (L : Addr → Prop) (H : Hp) (ι : List Addr) (H' : Hp) (ι' : List Addr) (st' : Store) : Prop where
  keep : ∀ a o, H a = some o → a ∉ ι → ¬ L a → H' a = some o
  pre : ι <+: ι'
  new : ∀ a, a ∈ ι' → a ∈ ι ∨ H a = none
  store : StoreOk K ι' H' st'
theorem Step.loose {L : Addr → Prop} (s : Step K H ι H' ι' st') : LStep K L H ι H' ι' st' := ⟨fun a o e m _ => s.keep a o e m, s.pre, s.new, s.store⟩
theorem LStep.out {L : Addr → Prop} (x : LStep K L H ι H' ι' st') {a : Addr} {o : HO} (h : H a = some o) (m : a ∉ ι) : a ∉ ι' := fun m' => by
  rcases x.new a m' with q | q
  · exact m q
  · rw [h] at q; cases q
theorem LStep.rd {L : Addr → Prop} (x : LStep K L H ι H' ι' st') {a : Addr} {u : HO} (h : Rd H a u) (m : a ∉ ι) (l : ¬ L a) : Rd H' a u := by
  rcases h with h | ⟨o, h⟩
  · exact .inl (x.keep _ _ h m l)
  · exact .inr ⟨o, x.keep _ _ h m l⟩
/-- an item: what could be changed in it is nobody's, and stood at H -/
def ItemA (O : Own) (H : Hp) (ι' : List Addr) (a : Addr) : Prop := Clean O ι' a ∧ ∃ o, H a = some o
def Walk (K : PySem.W.Frag) (J : It) (ds : List D) (m : Bool) (O : Own) (H : Hp) (ι : List Addr) : Prop :=
  ∀ (i : Nat) (H' : Hp) (ι' : List Addr) (st' : Store), LStep K (Loose m O) H ι H' ι' st' →
    (∀ d, ds[i]? = some d → J.go i H' ∧ ∀ x H'', J.yld i H' x H'' → Step K H' ι' H'' ι' st' ∧ Rep K ι' H'' (ItemA O H ι') x d) ∧ (ds.length ≤ i → J.stop i H')
/-- what may be walked: itself untouched meanwhile, its items nobody's -/
inductive RepI (K : PySem.W.Frag) (ι : List Addr) (H : Hp) (m : Bool) (O : Own) : V → D → Prop
  | tup {a : Addr} {xs : List V} {ds : List D} : SqT K H a xs → xs.length ≤ LINE → Reps K ι H (Clean O ι) xs ds → RepI K ι H m O (.ref a) (.tup ds)
  | lst {a : Addr} {xs : List V} {ds : List D} : Rd H a (.lst xs) → a ∉ ι → ¬ Loose m O a → xs.length ≤ LINE → Reps K ι H (Clean O ι) xs ds → RepI K ι H m O (.ref a) (.lst ds)
  | str (z : Str) : z.length ≤ LINE → RepI K ι H m O (.str z) (.str z)
  | int (i : Int) : RepI K ι H m O (.int i) (.int i)
  | oth {u : V} {d : D} : (match d with | .tup _ => false | .lst _ => false | .str _ => false | .int _ => false | _ => true) = true → RepI K ι H m O u d
def tO (G : Gs) (W : Wish) (m : Bool) (A : Ev) : TE := fun σ H Q => ∃ env st ι O, StOk G σ H env st ι O ∧ (A st env).Sat W fun d st' => ∀ u H' ι', Step G.K H ι H' ι' st' → RepI G.K ι' H' m O u d → Q u H'
theorem isI_of {S : Addr → Prop} {u : V} {d : D} {m : Bool} (r : Rep K ι H S u d) (hS : ∀ a, S a → Clean O ι a) : RepI K ι H m O u d := by
  cases r with
  | tup h1 h2 h3 => exact .tup h1 h2 (h3.weaken fun _ c _ => hS _ c)
  | lst h1 h2 h3 h4 => exact .lst h1 (hS _ h2).2 (fun l => by obtain ⟨_, i, e⟩ := l; exact (hS _ h2).1 i e) h3 (h4.weaken fun _ c _ => hS _ c)
  | str z hz => exact .str z hz
  | int i => exact .int i
  | _ => exact .oth rfl
theorem dO_new (h : PE X a (tE G W true A)) : PE X a (tO G W m A) := pe_weak h fun σ H Q ⟨env, st, ι, O, x, q⟩ =>
  ⟨env, st, ι, O, x, q.mono fun d st' k u H' ι' s r => k u H' ι' s (isI_of r fun a n => ⟨(fun i e => by
    obtain ⟨⟨o, eo⟩, _, _⟩ := x.owned e
    rw [n.1] at eo
    cases eo), n.2⟩)⟩
theorem dO_var {i : Nat} {x : Str} (hN : X.N[i]? = some x) (hv : Vis X.env.scope x) (hd : (x == ("__debug__" : Str)) = false) (hcd : (x == ("__classdict__" : Str)) = false) : PE X (.Name x pos) (tO G W m (if m then eVarC i else eVar i)) :=
  pe_weak (pe_var hN hv hd hcd) fun σ H Q ⟨env, st, ι, O, x, q⟩ => by
    have z := x.slot i
    cases e : env.getD i .un with
    | un => cases m <;> (simp [eVar, eVarC, -List.getD_eq_getElem?_getD, e] at q)
    | vl d =>
      rw [e] at z
      obtain ⟨h1, u, h2, h3⟩ := z
      refine ⟨u, h2, ?_⟩
      have q' : ∀ u H' ι', Step G.K H ι H' ι' st → RepI G.K ι' H' m O u d → Q u H' := by
        cases m <;> (simpa [eVar, eVarC, -List.getD_eq_getElem?_getD, e] using q)
      exact q' u H ι (Step.refl x.base.store) (isI_of h3 fun _ c => c)
    | ow d =>
      cases m with
      | true => simp [eVarC, -List.getD_eq_getElem?_getD, e] at q
      | false =>
        rw [e] at z
        obtain ⟨p, h1, h2, h3, h4, h5⟩ := z
        refine ⟨.ref p, h2, ?_⟩
        have q' : ∀ u H' ι', Step G.K H ι H' ι' st → RepI G.K ι' H' false O u d → Q u H' := by
          simpa [eVar, -List.getD_eq_getElem?_getD, e] using q
        refine q' _ H ι (Step.refl x.base.store) ?_
        cases d with
        | lst ds =>
          obtain ⟨xs, h6, h7, h8⟩ := h5
          exact .lst (.inl h6) h4 (fun l => absurd l.1 (by decide)) h7 (h8.weaken fun _ c _ => c.2)
        | dct ds => exact .oth rfl
        | _ => exact h5.elim
/-- a walk over data -/
def DI (X : Cx) (G : Gs) (W : Wish) (m : Bool) (tg iter : Expr) (Wv : Iv) : Prop := ∃ wi, PI X tg iter wi ∧ ∀ (σ : L2.St) (H : Hp) (env : En) (st : Store) (ι : List Addr) (O : Own) (R : It → Hp → Prop), StOk G σ H env st ι O →
  (Wv st env).Sat W (fun ds st' => ∀ J H' ι', Step G.K H ι H' ι' st' → Walk G.K J ds m O H' ι' → R J H') → wi σ H R
def iSeqR (K : PySem.W.Frag) (tl : TE) : TI := fun σ H R => tl σ H fun x H1 => ∃ a, x = .ref a ∧ (((∃ xs, SqL K H1 a xs) ∧ R (Itl K a) H1) ∨ ((∃ xs, SqT K H1 a xs) ∧ R (Itt K a) H1))
theorem pi_seq {l tg : Expr} {tl : TE} (hl : PE X l tl) : PI X tg l (iSeqR X.K tl) := by
  refine ⟨fun pins s σ H R I h => ?_⟩
  refine thn (hl.run pins s σ H _ I h) fun v s1 ⟨x, H1, I1, r1, q1⟩ => ?_
  obtain ⟨a, e, q⟩ := q1
  subst e
  cases r1
  rcases q with ⟨⟨xs, hq⟩, q⟩ | ⟨⟨xs, hq⟩, q⟩
  · obtain ⟨its, rv, p, hz⟩ := I1.list hq
    refine wpAny_pyIter_list p.isList ?_
    refine ⟨s1.heap.objs.size, [s1.heap.objs.size], _, _, H1, rfl, I1.kept (t' := s1.toks) fun b o e => Heap.get?_push_of_some _ e, turn_list a _, ⟨_, Heap.get?_push_size _ rfl, rfl, rfl⟩, fun b hb => ?_, q⟩
    have e : b = s1.heap.objs.size := by simpa using hb
    subst e
    exact I1.fpOk (Nat.le_refl _) (I1.hok.fresh (Nat.le_refl _))
  · obtain ⟨its, rv, p, hz⟩ := I1.tuple hq
    refine wpAny_pyIter_tuple (show s1.heap.IsTuple a its.toArray from p) ?_
    refine ⟨s1.heap.objs.size, [s1.heap.objs.size], _, _, H1, rfl, I1.kept (t' := s1.toks) fun b o e => Heap.get?_push_of_some _ e, turn_tuple a _, ⟨_, Heap.get?_push_size _ rfl, rfl, rfl⟩, fun b hb => ?_, q⟩
    have e : b = s1.heap.objs.size := by simpa using hb
    subst e
    exact I1.fpOk (Nat.le_refl _) (I1.hok.fresh (Nat.le_refl _))
end
end Dl
end
section
set_option Elab.async false
set_option linter.all false
set_option maxRecDepth 100000
set_option maxHeartbeats 4000000
/-! Dl10: walks, comprehensions over data. -/
namespace Dl
open PySem PySem.Spec PyProof.Rows L2
section
variable {X : Cx} {v : Bool} {K : PySem.W.Frag} {H H' : Hp} {ι ι' : List Addr} {st st' : Store} {Q : VK} {W : Wish} {G : Gs} {a b c e : Expr} {es : List Expr} {A B C : Ev} {R : Av} {T U : Tv} {p pos : Pos} {σ : L2.St} {x : Str} {env : En} {O : Own} {m : Bool}
/-- nothing of a def's own is a tuple -/
def NoTup (H : Hp) (m : Bool) (O : Own) : Prop := ∀ a xs, Loose m O a → ¬ Rd H a (.tup xs)
theorem StOk.noTup (x : StOk G σ H env st ι O) : NoTup H m O := fun a xs ⟨_, i, e⟩ h => by
  have q := x.slot i
  cases ee : env.getD i .un with
  | un => rw [ee] at q; rw [show O i = none from q] at e; cases e
  | vl d => rw [ee] at q; rw [q.1] at e; cases e
  | ow d =>
    rw [ee] at q
    obtain ⟨b, h1, h2, h3, h4, h5⟩ := q
    rw [e] at h1; cases h1
    cases d with
    | lst ds => obtain ⟨xs, e6, _⟩ := h5; rcases h with h | ⟨o, h⟩ <;> (rw [e6] at h; cases h)
    | dct ds => obtain ⟨xs, e6, _⟩ := h5; rcases h with h | ⟨o, h⟩ <;> (rw [e6] at h; cases h)
    | _ => exact h5.elim
theorem NoTup.step {st0 : Store} (t : StoreOk K ι H st0) (n : NoTup H m O) (own : ∀ a, Loose m O a → ∃ o, H a = some o ∧ a ∉ ι) (s : Step K H ι H' ι' st') : NoTup H' m O := fun a xs l h => by
  obtain ⟨o, e, m'⟩ := own a l
  have e' := s.keep a o e m'
  refine n a xs l ?_
  rcases h with h | ⟨q, h⟩
  · rw [e'] at h; cases h; exact .inl e
  · rw [e'] at h; cases h; exact .inr ⟨_, e⟩
theorem item_carry {st0 : Store} (t : StoreOk K ι H st0) (n : NoTup H m O) (s : LStep K (Loose m O) H ι H' ι' st') : Carry K ι H (Clean O ι) ι' H' (ItemA O H ι') where
  tup := fun a xs h => by
    rcases h with h | h
    · exact .inl (s.rd h (t.notTup h) fun l => n a xs l h)
    · exact .inr h
  lst := fun a xs c h => by
    obtain ⟨o, e⟩ := Rd.some h
    exact ⟨s.rd h c.2 fun ⟨_, i, q⟩ => c.1 i q, ⟨c.1, s.out e c.2⟩, o, e⟩
  dct := fun a xs c h => by
    obtain ⟨o, e⟩ := Rd.some h
    exact ⟨s.rd h c.2 fun ⟨_, i, q⟩ => c.1 i q, ⟨c.1, s.out e c.2⟩, o, e⟩
  obj := fun n a h => prefix_get s.pre h
theorem LStep.sqT {st0 : Store} (t : StoreOk K ι H st0) (n : NoTup H m O) (s : LStep K (Loose m O) H ι H' ι' st') {a : Addr} {xs : List V} (h : SqT K H a xs) : SqT K H' a xs := (item_carry t n s).tup a xs h
theorem walk_list {st0 : Store} {a : Addr} {xs : List V} {ds : List D} (t : StoreOk K ι H st0) (n : NoTup H m O) (h1 : Rd H a (.lst xs)) (h2 : a ∉ ι) (h3 : ¬ Loose m O a) (r : Reps K ι H (Clean O ι) xs ds) : Walk K (Itl K a) ds m O H ι := by
  intro i H' ι' st' s
  have hq : SqL K H' a xs := .inl (s.rd h1 h2 h3)
  refine ⟨fun d hd => ?_, fun hi => ⟨xs, hq, by rw [r.length]; exact hi⟩⟩
  obtain ⟨u, hu, ru⟩ := r.get hd
  refine ⟨⟨xs, u, hq, hu⟩, fun x H'' hy => ?_⟩
  obtain ⟨e, hy⟩ := hy
  subst e
  have ex := hy xs hq
  rw [hu] at ex
  cases ex
  exact ⟨Step.refl s.store, (item_carry t n s).all.1 ru⟩
theorem walk_tup {st0 : Store} {a : Addr} {xs : List V} {ds : List D} (t : StoreOk K ι H st0) (n : NoTup H m O) (h1 : SqT K H a xs) (r : Reps K ι H (Clean O ι) xs ds) : Walk K (Itt K a) ds m O H ι := by
  intro i H' ι' st' s
  have hq : SqT K H' a xs := s.sqT t n h1
  refine ⟨fun d hd => ?_, fun hi => ⟨xs, hq, by rw [r.length]; exact hi⟩⟩
  obtain ⟨u, hu, ru⟩ := r.get hd
  refine ⟨⟨xs, u, hq, hu⟩, fun x H'' hy => ?_⟩
  obtain ⟨e, hy⟩ := hy
  subst e
  have ex := hy xs hq
  rw [hu] at ex
  cases ex
  exact ⟨Step.refl s.store, (item_carry t n s).all.1 ru⟩
theorem walk_str (z : Str) {st0 : Store} : Walk K (Its z) (z.cps.toList.map fun c => .str ⟨#[c]⟩) m O H ι := by
  intro i H' ι' st' s
  refine ⟨fun d hd => ?_, fun hi => (show z.cps.size ≤ i by simpa using hi)⟩
  rw [List.getElem?_map, Option.map_eq_some_iff] at hd
  obtain ⟨c, hc, rfl⟩ := hd
  have hc' : z.cps[i]? = some c := by simpa using hc
  refine ⟨(Array.getElem?_eq_some_iff.mp hc').1, fun x H'' hy => ?_⟩
  obtain ⟨e, c2, h2, rfl⟩ := hy
  subst e
  rw [hc'] at h2
  cases h2
  exact ⟨Step.refl s.store, .str _ (by exact (by decide : 1 ≤ LINE))⟩
theorem walk_range (lo : Int) (k : Nat) : Walk K (Itr lo k) ((List.range k).map fun j : Nat => D.int (lo + j)) m O H ι := by
  intro i H' ι' st' s
  refine ⟨fun d hd => ?_, fun hi => (show k ≤ i by simpa using hi)⟩
  rw [List.getElem?_map, Option.map_eq_some_iff] at hd
  obtain ⟨j, hj, rfl⟩ := hd
  obtain ⟨hlt, e⟩ := List.getElem?_eq_some_iff.mp hj
  rw [List.getElem_range] at e
  subst e
  refine ⟨(show i < k by simpa using hlt), fun x H'' hy => ?_⟩
  obtain ⟨e, rfl⟩ := hy
  subst e
  exact ⟨Step.refl s.store, .int _⟩
/-- a new pair is yielded -/
theorem pair_step {T : Addr} {u w : V} {d1 d2 : D} {S : Addr → Prop} {st0 : Store} (t : StoreOk K ι H st0) (hT : H T = none) (r1 : Rep K ι H S u d1) (r2 : Rep K ι H S w d2) (hS : ∀ a, S a → a ∉ ι) : Step K H ι (upd H T (.tup [u, w])) ι st0 ∧ Rep K ι (upd H T (.tup [u, w])) S (.ref T) (.tup [d1, d2]) := by
  have s := Step.laid t hT (.tup [u, w])
  have c : Carry K ι H S ι (upd H T (.tup [u, w])) S := s.carry t (fun a h _ => hS a h) fun a h _ => h
  exact ⟨s, .tup (.inl (.inl upd_same)) (show 2 ≤ LINE by decide) (.cons (c.all.1 r1) (.cons (c.all.1 r2) .nil))⟩
theorem walk_enum {st0 : Store} {a : Addr} {xs : List V} {ds : List D} (t : StoreOk K ι H st0) (n : NoTup H m O) (h1 : Rd H a (.lst xs)) (h2 : a ∉ ι) (h3 : ¬ Loose m O a) (r : Reps K ι H (Clean O ι) xs ds) : Walk K (Ite K a) (ds.mapIdx fun i d => D.tup [.int i, d]) m O H ι := by
  intro i H' ι' st' s
  have hq : SqL K H' a xs := .inl (s.rd h1 h2 h3)
  refine ⟨fun d hd => ?_, fun hi => ⟨xs, hq, by rw [r.length]; simpa using hi⟩⟩
  rw [List.getElem?_mapIdx, Option.map_eq_some_iff] at hd
  obtain ⟨d0, hd0, rfl⟩ := hd
  obtain ⟨u, hu, ru⟩ := r.get hd0
  refine ⟨⟨xs, u, hq, hu⟩, fun x H'' hy => ?_⟩
  obtain ⟨T, x0, rfl, hT, rfl, hy⟩ := hy
  have ex := hy xs hq
  rw [hu] at ex
  cases ex
  exact pair_step s.store hT (.int _) ((item_carry t n s).all.1 ru) fun a h => h.1.2
theorem walk_zipL {st0 : Store} {a b : Addr} {xs ys : List V} {ds es : List D} (t : StoreOk K ι H st0) (n : NoTup H m O) (h1 : Rd H a (.lst xs)) (h2 : a ∉ ι) (h3 : ¬ Loose m O a) (r : Reps K ι H (Clean O ι) xs ds) (g1 : Rd H b (.lst ys)) (g2 : b ∉ ι) (g3 : ¬ Loose m O b) (q : Reps K ι H (Clean O ι) ys es) :
    Walk K (Itz K a b) (List.zipWith (fun a b => D.tup [a, b]) ds es) m O H ι := by
  intro i H' ι' st' s
  have hq : SqL K H' a xs := .inl (s.rd h1 h2 h3)
  have gq : SqL K H' b ys := .inl (s.rd g1 g2 g3)
  refine ⟨fun d hd => ?_, fun hi => ⟨xs, ys, hq, gq, ?_⟩⟩
  · rw [List.getElem?_zipWith] at hd
    cases e1 : ds[i]? with
    | none => rw [e1] at hd; simp at hd
    | some d1 =>
      cases e2 : es[i]? with
      | none => rw [e1, e2] at hd; simp at hd
      | some d2 =>
        rw [e1, e2] at hd
        simp only [Option.some.injEq] at hd
        subst hd
        obtain ⟨u, hu, ru⟩ := r.get e1
        obtain ⟨w, hw, rw'⟩ := q.get e2
        refine ⟨⟨xs, ys, u, w, hq, gq, hu, hw⟩, fun x H'' hy => ?_⟩
        obtain ⟨T, x0, y0, rfl, hT, rfl, hx, hy⟩ := hy
        have ex := hx xs hq
        rw [hu] at ex
        cases ex
        have ey := hy ys gq
        rw [hw] at ey
        cases ey
        exact pair_step s.store hT ((item_carry t n s).all.1 ru) ((item_carry t n s).all.1 rw') fun a h => h.1.2
  · rw [List.length_zipWith] at hi
    have l1 := r.length
    have l2 := q.length
    omega
theorem walk_zipT {st0 : Store} {a b : Addr} {xs ys : List V} {ds es : List D} (t : StoreOk K ι H st0) (n : NoTup H m O) (h1 : SqT K H a xs) (r : Reps K ι H (Clean O ι) xs ds) (g1 : SqT K H b ys) (q : Reps K ι H (Clean O ι) ys es) :
    Walk K (RZ.ItzT K a b) (List.zipWith (fun a b => D.tup [a, b]) ds es) m O H ι := by
  intro i H' ι' st' s
  have hq : SqT K H' a xs := s.sqT t n h1
  have gq : SqT K H' b ys := s.sqT t n g1
  refine ⟨fun d hd => ?_, fun hi => ⟨xs, ys, hq, gq, ?_⟩⟩
  · rw [List.getElem?_zipWith] at hd
    cases e1 : ds[i]? with
    | none => rw [e1] at hd; simp at hd
    | some d1 =>
      cases e2 : es[i]? with
      | none => rw [e1, e2] at hd; simp at hd
      | some d2 =>
        rw [e1, e2] at hd
        simp only [Option.some.injEq] at hd
        subst hd
        obtain ⟨u, hu, ru⟩ := r.get e1
        obtain ⟨w, hw, rw'⟩ := q.get e2
        refine ⟨⟨xs, ys, u, w, hq, gq, hu, hw⟩, fun x H'' hy => ?_⟩
        obtain ⟨T, x0, y0, rfl, hT, rfl, hx, hy⟩ := hy
        have ex := hx xs hq
        rw [hu] at ex
        cases ex
        have ey := hy ys gq
        rw [hw] at ey
        cases ey
        exact pair_step s.store hT ((item_carry t n s).all.1 ru) ((item_carry t n s).all.1 rw') fun a h => h.1.2
  · rw [List.length_zipWith] at hi
    have l1 := r.length
    have l2 := q.length
    omega
theorem StOk.looseOwn (x : StOk G σ H env st ι O) (a : Addr) (l : Loose m O a) : ∃ o, H a = some o ∧ a ∉ ι := by
  obtain ⟨_, i, e⟩ := l
  obtain ⟨⟨o, eo⟩, h, _⟩ := x.owned e
  exact ⟨o, eo, h⟩
/-! ### walks as rules -/
variable {tg : Expr}
theorem di_seq (hK : G.K = X.K) (h : PE X a (tO G W m A)) : DI X G W m tg a (iSeq A) := by
  refine ⟨_, pi_seq h, fun σ H env st ι O R x q => ⟨env, st, ι, O, x, (Out.sat_bind q).mono fun d st1 q1 u H1 ι1 s1 ri => ?_⟩⟩
  have nt : NoTup H1 m O := (x.noTup (m := m)).step x.base.store x.looseOwn s1
  rw [← hK]
  cases ri with
  | tup h1 h2 h3 => exact ⟨_, rfl, .inr ⟨⟨_, h1⟩, q1 _ H1 ι1 s1 (walk_tup s1.store nt h1 h3)⟩⟩
  | lst h1 h2 h3 h4 h5 => exact ⟨_, rfl, .inl ⟨⟨_, .inl h1⟩, q1 _ H1 ι1 s1 (walk_list s1.store nt h1 h2 h3 h5)⟩⟩
  | oth hd => cases d <;> first | exact (show False from q1).elim | simp at hd
  | _ => exact (show False from q1).elim
theorem di_str (h : PE X a (tO G W m A)) : DI X G W m tg a (Dl.iStr A) := by
  refine ⟨_, pi_str h, fun σ H env st ι O R x q => ⟨env, st, ι, O, x, (Out.sat_bind q).mono fun d st1 q1 u H1 ι1 s1 ri => ?_⟩⟩
  cases ri with
  | str z hz => exact ⟨z, rfl, q1 _ H1 ι1 s1 (walk_str (st0 := st1) z)⟩
  | oth hd => cases d <;> first | exact (show False from q1).elim | simp at hd
  | _ => exact (show False from q1).elim
theorem di_range1 (hg : Gl X "range") (hm : X.mg "range" = none) (h : PE X a (tE G W false A)) (hs : starEach [a] X.env = [(false, eval a X.env)]) : DI X G W m tg (.Call (.Name "range" p) [a] [] pos) (iRange1 A) := by
  refine ⟨_, pi_range1 hg hm (pa_cons h pa_nil hs) hs, fun σ H env st ι O R x q => ⟨env, st, ι, O, x, (Out.sat_bind q).mono fun d st1 q1 u H1 ι1 s1 ri => ?_⟩⟩
  cases ri with
  | int n =>
    simp only at q1
    split at q1
    · rename_i hn
      have hl : (LINE : Int) = 16777216 := rfl
      refine ⟨n, rfl, hn.2, by omega, q1 _ H1 ι1 s1 ?_⟩
      have w := walk_range (K := G.K) (H := H1) (ι := ι1) (O := O) (m := m) 0 n.toNat
      simpa using w
    · exact (show False from q1).elim
  | _ => exact (show False from q1).elim
theorem di_range2 (hg : Gl X "range") (hm : X.mg "range" = none) (h : PE X a (tE G W false A)) (h2 : PE X b (tE G W false B)) (hs : starEach [a, b] X.env = [(false, eval a X.env), (false, eval b X.env)]) (hs2 : starEach [b] X.env = [(false, eval b X.env)]) : DI X G W m tg (.Call (.Name "range" p) [a, b] [] pos) (iRange2 A B) := by
  refine ⟨_, pi_range2 hg hm (pa_cons h (pa_cons h2 pa_nil hs2) (by rw [hs, hs2])) hs hs2, fun σ H env st ι O R x q => ⟨env, st, ι, O, x, (Out.sat_bind q).mono fun d st1 q1 u H1 ι1 s1 ri => ?_⟩⟩
  refine ⟨env, st1, ι1, O, x.step s1, (Out.sat_bind q1).mono fun d2 st2 q2 u2 H2 ι2 s2 rj => ?_⟩
  cases ri with
  | int i =>
    cases rj with
    | int j =>
      simp only at q2
      split at q2
      · rename_i hn
        exact ⟨i, j, rfl, ⟨hn.2.1, hn.2.2.1, hn.2.2.2.1, hn.2.2.2.2⟩, q2 _ H2 ι2 (s1.trans s2) (walk_range (K := G.K) (H := H2) (ι := ι2) (O := O) (m := m) i (j - i).toNat)⟩
      · exact (show False from q2).elim
    | _ => exact (show False from q2).elim
  | _ => exact (show False from (by cases rj <;> exact q2)).elim
theorem di_enum {elts : List Expr} {kk : Nat} {tpos : Pos} (hK : G.K = X.K) (hg : Gl X "enumerate") (hm : X.mg "enumerate" = none) (h : PE X a (tO G W m A)) (hs : starEach [a] X.env = [(false, eval a X.env)]) : DI X G W m (.Tuple elts kk tpos) (.Call (.Name "enumerate" p) [a] [] pos) (Dl.iEnum A) := by
  refine ⟨_, pi_enum hg hm (pa_cons h pa_nil hs) hs, fun σ H env st ι O R x q => ⟨env, st, ι, O, x, (Out.sat_bind q).mono fun d st1 q1 u H1 ι1 s1 ri => ?_⟩⟩
  have nt : NoTup H1 m O := (x.noTup (m := m)).step x.base.store x.looseOwn s1
  show ∃ a xs, [u] = [V.ref a] ∧ SqL X.K H1 a xs ∧ R (Ite X.K a) H1
  rw [← hK]
  cases ri with
  | lst h1 h2 h3 h4 h5 => exact ⟨_, _, rfl, .inl h1, q1 _ H1 ι1 s1 (walk_enum s1.store nt h1 h2 h3 h5)⟩
  | oth hd => cases d <;> first | exact (show False from q1).elim | simp at hd
  | _ => exact (show False from q1).elim
theorem repI_step {u : V} {d : D} {st0 : Store} (t : StoreOk K ι H st0) (n : NoTup H m O) (own : ∀ a, Loose m O a → ∃ o, H a = some o ∧ a ∉ ι) (s : Step K H ι H' ι' st') (r : RepI K ι H m O u d) : RepI K ι' H' m O u d := by
  have c : Carry K ι H (Clean O ι) ι' H' (Clean O ι') := s.carry t (fun _ c _ => c.2) fun a c ⟨o, e⟩ => ⟨c.1, s.out e c.2⟩
  cases r with
  | tup h1 h2 h3 => exact .tup (s.sqT t h1) h2 (c.all.2.1 h3)
  | lst h1 h2 h3 h4 h5 =>
    obtain ⟨o, e⟩ := Rd.some h1
    exact .lst (s.rd h1 h2) (s.out e h2) h3 h4 (c.all.2.1 h5)
  | str z hz => exact .str z hz
  | int i => exact .int i
  | oth h => exact .oth h
theorem di_zip {elts : List Expr} {kk : Nat} {tpos : Pos} (hK : G.K = X.K) (hg : Gl X "zip") (hm : X.mg "zip" = none) (h : PE X a (tO G W m A)) (h2 : PE X b (tO G W m B))
    (hs : starEach [a, b] X.env = (false, eval a X.env) :: starEach [b] X.env) (hs2 : starEach [b] X.env = (false, eval b X.env) :: starEach [] X.env) : DI X G W m (.Tuple elts kk tpos) (.Call (.Name "zip" p) [a, b] [] pos) (Dl.iZip A B) := by
  refine ⟨_, RZ.pi_zipA hg hm (pa_cons h (pa_cons h2 pa_nil hs2) hs) hs (by rw [hs2] <;> rfl), fun σ H env st ι O R x q => ⟨env, st, ι, O, x, (Out.sat_bind q).mono fun d st1 q1 u H1 ι1 s1 ri => ?_⟩⟩
  have nt1 : NoTup H1 m O := (x.noTup (m := m)).step x.base.store x.looseOwn s1
  have x1 := x.step s1
  refine ⟨env, st1, ι1, O, x1, (Out.sat_bind q1).mono fun d2 st2 q2 u2 H2 ι2 s2 rj => ?_⟩
  have nt : NoTup H2 m O := (x1.noTup (m := m)).step x1.base.store x1.looseOwn s2
  have ri' := repI_step x1.base.store nt1 x1.looseOwn s2 ri
  show ∃ a b xs ys, [u, u2] = [V.ref a, V.ref b] ∧ ((SqL X.K H2 a xs ∧ SqL X.K H2 b ys ∧ R (Itz X.K a b) H2) ∨ (SqT X.K H2 a xs ∧ SqT X.K H2 b ys ∧ R (RZ.ItzT X.K a b) H2))
  rw [← hK]
  cases ri' with
  | tup h1 h2 h3 =>
    cases rj with
    | tup g1 g2 g3 => exact ⟨_, _, _, _, rfl, .inr ⟨h1, g1, q2 _ H2 ι2 (s1.trans s2) (walk_zipT s2.store nt h1 h3 g1 g3)⟩⟩
    | oth hd => cases d2 <;> first | exact (show False from q2).elim | simp at hd
    | _ => exact (show False from q2).elim
  | lst h1 h2 h3 h4 h5 =>
    cases rj with
    | lst g1 g2 g3 g4 g5 => exact ⟨_, _, _, _, rfl, .inl ⟨.inl h1, .inl g1, q2 _ H2 ι2 (s1.trans s2) (walk_zipL s2.store nt h1 h2 h3 h5 g1 g2 g3 g5)⟩⟩
    | oth hd => cases d2 <;> first | exact (show False from q2).elim | simp at hd
    | _ => exact (show False from q2).elim
  | oth hd => cases d <;> first | (exfalso; simp at hd; done) | (exfalso; cases d2 <;> exact q2)
  | _ => exfalso; cases rj <;> first | exact q2 | (cases d2 <;> exact q2)
end
end Dl
end
section
set_option Elab.async false
set_option linter.all false
set_option maxRecDepth 100000
set_option maxHeartbeats 4000000
/-! Dl11: comprehensions, statements over data. -/
namespace Dl
open PySem PySem.Spec PyProof.Rows L2
section
variable {X : Cx} {v : Bool} {K : PySem.W.Frag} {H H' : Hp} {ι ι' : List Addr} {st st' : Store} {Q : VK} {W : Wish} {G : Gs} {a b c e : Expr} {es : List Expr} {A B C : Ev} {R : Av} {T U : Tv} {p pos : Pos} {σ : L2.St} {x : Str} {env : En} {O : Own} {m : Bool} {tg iter : Expr} {Wv : Iv} {g : Tg}
def NoW : Wish := fun _ _ => False
/-! ### comprehensions -/
theorem lcGo_len (g : Tg) (T : Tv) (A : Ev) (env : En) : ∀ (ds : List D) (st : Store) (xs : List D) (st' : Store), lcGo g T A ds st env = .ok xs st' → xs.length ≤ ds.length
  | [], st, xs, st', h => by simp [lcGo] at h; simp [← h.1]
  | d :: ds, st, xs, st', h => by
    unfold lcGo at h
    split at h
    · cases h
    · rename_i env' he
      cases e1 : T st env' with
      | bad => rw [e1] at h; cases h
      | ex _ _ => rw [e1] at h; cases h
      | ok b st1 =>
        rw [e1] at h
        simp only [Out.bind] at h
        cases b with
        | false =>
          have ih := lcGo_len g T A env ds st1 xs st' h
          rw [List.length_cons]; omega
        | true =>
          rw [if_pos rfl] at h
          cases e2 : A st1 env' with
          | bad => rw [e2] at h; cases h
          | ex _ _ => rw [e2] at h; cases h
          | ok y st2 =>
            rw [e2] at h
            simp only [Out.bind] at h
            cases e3 : lcGo g T A ds st2 env with
            | bad => rw [e3] at h; cases h
            | ex _ _ => rw [e3] at h; cases h
            | ok ys st3 =>
              rw [e3] at h
              simp only [Out.ok.injEq] at h
              have ih := lcGo_len g T A env ds st2 ys st3 e3
              rw [← h.1, List.length_cons, List.length_cons]
              omega
/-- an object that is no tuple is written: what leans on others stands -/
theorem upd_carry {S : Addr → Prop} {D : Addr} {o : HO} (hS : ∀ a, S a → a ≠ D) (hD : ∀ xs, ¬ Rd H D (.tup xs)) : Carry K ι H S ι (upd H D o) S := by
  have ne : ∀ a u, a ≠ D → Rd H a u → Rd (upd H D o) a u := fun a u h r => by
    rcases r with r | ⟨z, r⟩
    · exact .inl (by rw [upd_ne h]; exact r)
    · exact .inr ⟨z, by rw [upd_ne h]; exact r⟩
  refine ⟨fun a xs h => ?_, fun a xs s r => ⟨ne a _ (hS a s) r, s⟩, fun a xs s r => ⟨ne a _ (hS a s) r, s⟩, fun _ _ h => h⟩
  rcases h with h | h
  · exact .inl (ne a _ (fun e => hD xs (e ▸ h)) h)
  · exact .inr h
theorem lst_noTup {D : Addr} {xs : List V} (h : H D = some (.lst xs)) : ∀ ys, ¬ Rd H D (.tup ys) := fun ys r => by
  rcases r with r | ⟨z, r⟩ <;> (rw [h] at r; cases r)
theorem dk_noTup {D : Addr} {xs : List (Key × V)} (h : H D = some (.dK xs)) : ∀ ys, ¬ Rd H D (.tup ys) := fun ys r => by
  rcases r with r | ⟨z, r⟩ <;> (rw [h] at r; cases r)
theorem StoreOk.upd {D : Addr} {o : HO} (t : StoreOk K ι H st) (hD : ∀ xs, ¬ Rd H D (.tup xs)) (nD : D ∉ ι) : StoreOk K ι (upd H D o) st where
  len := t.len
  nd := t.nd
  at_ := fun n so a h1 h2 => by
    have q := t.at_ n so a h1 h2
    have na : a ≠ D := fun e => nD (e ▸ List.mem_of_getElem? h2)
    have c : Carry K ι H (fun _ => False) ι (L2.upd H D o) (fun _ => False) := upd_carry (fun _ h => h.elim) hD
    cases so with
    | cell ds => obtain ⟨xs, e, h3, h4, h5⟩ := q; exact ⟨xs, by rw [upd_ne na]; exact e, h3, h4, c.all.2.1 h5⟩
    | inst cl fs => obtain ⟨dx, vs, e, h3, h4, h5, h6, h7⟩ := q; exact ⟨dx, vs, by rw [upd_ne na]; exact e, h3, h4, h5, h6, c.all.2.1 h7⟩
theorem Step.upd {D : Addr} {o : HO} (s : Step K H ι H' ι' st') (hn : H D = none) (hD : ∀ xs, ¬ Rd H' D (.tup xs)) (nD : D ∉ ι') (ho : ∀ q u, o ≠ .frz q u := by intro _ _ h; cases h) : Step K H ι (L2.upd H' D o) ι' st' :=
  ⟨fun a u e m => by rw [upd_ne (ne_of_none e hn)]; exact s.keep a u e m, s.pre, s.new, s.live, s.store.upd hD nD, fun a q u h => by
    by_cases e : a = D
    · subst e; rw [upd_same] at h; exact absurd (Option.some.inj h) (ho q u)
    · rw [upd_ne e] at h; exact s.nf a q u h⟩
/-- the reading of a comprehension -/
theorem lc_reads {wi : TI} (hK : G.K = X.K) (hn : ∀ i ∈ g.slots, i < G.n)
    (h : ∃ env st ι O, StOk G σ H env st ι O ∧ (∀ R : It → Hp → Prop, (Wv st env).Sat W (fun ds st' => ∀ J H' ι', Step G.K H ι H' ι' st' → Walk G.K J ds false O H' ι' → R J H') → wi σ H R) ∧
      (eLc Wv g T A st env).Sat W fun d st' => ∀ u H' ι', Step G.K H ι H' ι' st' → Rep G.K ι' H' (Kind true H ι') u d → Q u H') : tLc wi (tgR G.K g) (tT G NoW T) (tE G NoW true A) g.slots σ H Q := by
  obtain ⟨env, st, ι, O, x, hw, q⟩ := h
  refine hw _ ((Out.sat_bind q).mono fun ds st1 q1 J H1 ι1 s1 wk => ?_)
  intro D hD
  have nD := not_iota s1.store hD
  -- the end's value
  obtain ⟨xs, stE, hgo, hlen, fin⟩ : ∃ xs stE, lcGo g T A ds st1 env = .ok xs stE ∧ xs.length ≤ LINE ∧ ∀ u H' ι', Step G.K H ι H' ι' stE → Rep G.K ι' H' (Kind true H ι') u (.lst xs) → Q u H' := by
    cases e : lcGo g T A ds st1 env with
    | bad => rw [e] at q1; exact (show False from q1).elim
    | ex _ _ => rw [e] at q1; exact (show False from q1).elim
    | ok xs stE =>
      rw [e] at q1
      simp only [Out.calm, Out.bind] at q1
      split at q1
      · rename_i hl; exact ⟨xs, stE, rfl, hl, q1⟩
      · exact (show False from q1).elim
  refine ⟨fun i mm Hc => mm = ds.length - i ∧ i ≤ ds.length ∧ ∃ acc accD ι' st'' rest, Hc D = some (.lst acc) ∧ D ∉ ι' ∧ Step G.K H1 ι1 Hc ι' st'' ∧ Reps G.K ι' Hc (fun a => NewA H1 ι' a ∧ a ≠ D) acc accD ∧ lcGo g T A (ds.drop i) st'' env = .ok rest stE ∧ accD ++ rest = xs,
    ⟨ds.length, by simp, Nat.zero_le _, [], [], ι1, st1, xs, upd_same, nD, Step.laid s1.store hD _, .nil, by simpa using hgo, rfl⟩, ?_⟩
  rintro i mm Hc ⟨rfl, hi, acc, accD, ι', st'', rest, hacc, nD2, s2, racc, hgo2, happ⟩
  have ls : LStep G.K (Loose false O) H1 ι1 Hc ι' st'' := s2.loose
  obtain ⟨wk1, wk2⟩ := wk i Hc ι' st'' ls
  by_cases hlt : i < ds.length
  · refine .inr ?_
    have hd : ds[i]? = some ds[i] := List.getElem?_eq_getElem hlt
    obtain ⟨hgo3, hyld⟩ := wk1 _ hd
    rw [List.drop_eq_getElem_cons hlt] at hgo2
    unfold lcGo at hgo2
    refine ⟨hgo3, fun H' => ∃ acc accD ι' st'' rest, H' D = some (.lst acc) ∧ D ∉ ι' ∧ Step G.K H1 ι1 H' ι' st'' ∧ Reps G.K ι' H' (fun a => NewA H1 ι' a ∧ a ≠ D) acc accD ∧ lcGo g T A (ds.drop (i + 1)) st'' env = .ok rest stE ∧ accD ++ rest = xs,
      fun H' hN => ⟨ds.length - (i + 1), by omega, rfl, hlt, hN⟩, fun u H2 hy => ?_⟩
    obtain ⟨s3, ru⟩ := hyld u H2 hy
    split at hgo2
    · cases hgo2
    · rename_i env' henv
      have s23 := s2.trans s3
      have x2 : StOk G σ H2 env st'' ι' O := (x.step s1).step s23
      obtain ⟨O2, hO2, x3⟩ := StOk.wipe g.slots x2
      have ru2 : Rep G.K ι' H2 (Clean O2 ι') u ds[i] := ru.weaken fun a h _ => clean_sub hO2 h.1
      refine tg_reads hn x3 ru2 henv fun σ2 O3 hO3 x4 ag => ⟨?_, ?_⟩
      · rw [wipe_agree ag, wipe_wipe]
      -- what stood stands on
      have go : ∀ {H4 : Hp} {ι4 : List Addr} {st4 : Store}, Step G.K Hc ι' H4 ι4 st4 → H4 D = some (.lst acc) ∧ D ∉ ι4 ∧ Step G.K H1 ι1 H4 ι4 st4 ∧ Reps G.K ι4 H4 (fun a => NewA H1 ι4 a ∧ a ≠ D) acc accD := fun {H4 ι4 st4} s => by
        refine ⟨s.keep _ _ hacc nD2, s.out hacc nD2, s2.trans s, ?_⟩
        exact (s.carry (S' := fun a => NewA H1 ι4 a ∧ a ≠ D) s2.store (fun a h _ => h.1.2) fun a h ⟨o, e⟩ => ⟨⟨h.1.1, s.out e h.1.2⟩, h.2⟩).all.2.1 racc
      cases eT : T st'' env' with
      | bad => rw [eT] at hgo2; cases hgo2
      | ex _ _ => rw [eT] at hgo2; cases hgo2
      | ok b st3 =>
        rw [eT] at hgo2
        simp only [Out.bind] at hgo2
        refine ⟨env', st'', ι', O3, x4, ?_⟩
        rw [eT]
        intro H3 ι3 s4
        cases b with
        | false =>
          rw [if_neg Bool.false_ne_true] at hgo2 ⊢
          obtain ⟨g1, g2, g3, g4⟩ := go (s3.trans s4)
          exact ⟨acc, accD, ι3, st3, rest, g1, g2, g3, g4, hgo2, happ⟩
        | true =>
          rw [if_pos rfl] at hgo2 ⊢
          cases eA : A st3 env' with
          | bad => rw [eA] at hgo2; cases hgo2
          | ex _ _ => rw [eA] at hgo2; cases hgo2
          | ok y st4 =>
            rw [eA] at hgo2
            simp only [Out.bind] at hgo2
            cases eR : lcGo g T A (ds.drop (i + 1)) st4 env with
            | bad => rw [eR] at hgo2; cases hgo2
            | ex _ _ => rw [eR] at hgo2; cases hgo2
            | ok ys st5 =>
              rw [eR] at hgo2
              simp only [Out.ok.injEq] at hgo2
              obtain ⟨rfl, rfl⟩ := hgo2
              refine ⟨env', st3, ι3, O3, x4.step s4, ?_⟩
              rw [eA]
              intro u4 H4 ι4 s5 r5
              obtain ⟨k1, _, k3, _⟩ := go (s3.trans s4)
              obtain ⟨g1, g2, g3, g4⟩ := go ((s3.trans s4).trans s5)
              have hlen2 : acc.length < sizeLine := by
                rw [← line_eq, racc.length]
                rw [← happ, List.length_append, List.length_cons] at hlen
                omega
              have nt := lst_noTup g1
              have cc : Carry G.K ι4 H4 (fun a => NewA H1 ι4 a ∧ a ≠ D) ι4 (L2.upd H4 D (.lst (acc ++ [u4]))) (fun a => NewA H1 ι4 a ∧ a ≠ D) := upd_carry (fun a h => h.2) nt
              have r6 : Rep G.K ι4 H4 (fun a => NewA H1 ι4 a ∧ a ≠ D) u4 y := r5.weaken fun a h _ => ⟨⟨k3.noneOf h.1, h.2⟩, fun e => by
                have h1 : H3 a = none := h.1
                rw [e, k1] at h1
                cases h1⟩
              refine ⟨acc, g1, hlen2, acc ++ [u4], accD ++ [y], ι4, st4, ys, upd_same, g2, g3.upd hD nt g2, (cc.all.2.1 g4).append (.cons (cc.all.1 r6) .nil), eR, ?_⟩
              rw [List.append_assoc]
              exact happ
  · have e : i = ds.length := by omega
    subst e
    refine .inl ⟨wk2 (Nat.le_refl _), ?_⟩
    rw [List.drop_length] at hgo2
    simp only [lcGo, Out.ok.injEq] at hgo2
    obtain ⟨rfl, rfl⟩ := hgo2
    rw [List.append_nil] at happ
    subst happ
    refine fin _ Hc ι' (s1.trans s2) (.lst (.inl hacc) ⟨s1.noneOf hD, nD2⟩ ?_ (racc.weaken fun a h _ => ⟨s1.noneOf h.1.1, h.1.2⟩))
    rw [racc.length]; exact hlen
/-- [elt for .. in .. if ..] -/
theorem de_lc {elt : Expr} {ifs : List Expr} {scope : Scope} {own : List (Str × Nat)} (hK : G.K = X.K) (hc : X.calm = true) (hN : X.N.Nodup) (hn : ∀ i ∈ g.slots, i < G.n) (hi : DI X G W false tg iter Wv) (ok : BlkOk X.N X.env.scope scope own) (ho : own.map (·.2) = g.slots)
    (hg : ∀ (s : Shared) (H : Hp) (C : Addr) (cl : List (Str × Addr)) (fp : List Addr), PG (X.blk s H scope (compEnvC scope cl C X.env) fp) tg (tgR G.K g)) (ht : ∀ (s : Shared) (H : Hp) (C : Addr) (cl : List (Str × Addr)) (fp : List Addr), PTs (X.blk s H scope (compEnvC scope cl C X.env) fp) ifs (tT G NoW T))
    (he : ∀ (s : Shared) (H : Hp) (C : Addr) (cl : List (Str × Addr)) (fp : List Addr), PE (X.blk s H scope (compEnvC scope cl C X.env) fp) elt (tE G NoW true A)) (hs : ∀ x, foldedSetIterable iter X.env x = pure x) :
    PE X (.ListComp elt [⟨tg, iter, ifs, 0⟩] scope pos) (tE G W v (eLc Wv g T A)) := by
  obtain ⟨wi, h1, h2⟩ := hi
  refine de_new (pe_weak (pe_lc hc hN h1 ok hg ht he hs) fun σ H Q h => ?_)
  rw [ho]
  obtain ⟨env, st, ι, O, x, q⟩ := h
  exact lc_reads hK hn ⟨env, st, ι, O, x, fun R => h2 σ H env st ι O R x, q⟩
end
end Dl
end
section
set_option Elab.async false
set_option linter.all false
set_option maxRecDepth 100000
set_option maxHeartbeats 4000000
/-! Dl12: statements over data. -/
namespace Dl
open PySem PySem.Spec PyProof.Rows L2
section
variable {X : Cx} {v : Bool} {K : PySem.W.Frag} {H H' H2 : Hp} {ι ι' ι2 : List Addr} {st st' st2 : Store} {Q : VK} {W : Wish} {G : Gs} {a b c e : Expr} {es : List Expr} {A B C : Ev} {R : Av} {T U : Tv} {p pos pos' : Pos} {σ : L2.St} {x : Str} {env : En} {O O' O2 : Own} {m : Bool} {tg iter : Expr} {Wv : Iv} {g : Tg} {S S2 : Sv} {s s2 : Stmt} {ss ss2 : List Stmt}
/-- what a statement leaves: all but what is the def's own -/
structure SRel (K : PySem.W.Frag) (H : Hp) (ι : List Addr) (O : Own) (H' : Hp) (ι' : List Addr) (O' : Own) (st' : Store) : Prop where
  ls : LStep K (fun a => ∃ i, O i = some a) H ι H' ι' st'
  own : ∀ i b, O' i = some b → (∃ j, O j = some b) ∨ H b = none
  all : ∀ a o, H a = some o → ∃ o', H' a = some o'
theorem Step.all (s : Step K H ι H' ι' st') : ∀ a o, H a = some o → ∃ o', H' a = some o' := fun a o e => by
  by_cases m : a ∈ ι
  · exact s.store.live (s.pre.subset m)
  · exact ⟨o, s.keep a o e m⟩
theorem SRel.of_step (s : Step K H ι H' ι' st') : SRel K H ι O H' ι' O st' := ⟨s.loose, fun i b e => .inl ⟨i, e⟩, s.all⟩
theorem SRel.sub (h : SRel K H ι O H' ι' O' st') (hs : ∀ i b, O2 i = some b → O' i = some b) : SRel K H ι O H' ι' O2 st' := ⟨h.ls, fun i b e => h.own i b (hs i b e), h.all⟩
theorem SRel.noneOf (h : SRel K H ι O H' ι' O' st') {a : Addr} (e : H' a = none) : H a = none := by
  cases q : H a with
  | none => rfl
  | some o =>
    obtain ⟨o', e'⟩ := h.all a o q
    rw [e] at e'; cases e'
theorem SRel.trans (h : SRel K H ι O H' ι' O' st') (k : SRel K H' ι' O' H2 ι2 O2 st2) : SRel K H ι O H2 ι2 O2 st2 where
  ls := by
    refine ⟨fun a o e m l => k.ls.keep a o (h.ls.keep a o e m l) (h.ls.out e m) ?_, h.ls.pre.trans k.ls.pre, fun a q => ?_, k.ls.store⟩
    · rintro ⟨i, q⟩
      rcases h.own i a q with z | z
      · exact l z
      · rw [e] at z; cases z
    · rcases k.ls.new a q with z | z
      · exact h.ls.new a z
      · exact .inr (h.noneOf z)
  own := fun i b e => by
    rcases k.own i b e with ⟨j, q⟩ | q
    · exact h.own j b q
    · exact .inr (h.noneOf q)
  all := fun a o e => by
    obtain ⟨o', e'⟩ := h.all a o e
    exact k.all a o' e'
/-- behind a statement: what is wanted of a state -/
def Nx (G : Gs) (H : Hp) (ι : List Addr) (O : Own) (st' : Store) (env' : En) (P : L2.St → Hp → Prop) : Prop := ∀ σ' H' ι' O', SRel G.K H ι O H' ι' O' st' → StOk G σ' H' env' st' ι' O' → P σ' H'
theorem Nx.shift {P : L2.St → Hp → Prop} (h : SRel G.K H ι O H' ι' O' st') (k : Nx G H ι O st2 env P) : Nx G H' ι' O' st2 env P := fun σ2 H2 ι2 O2 r x => k σ2 H2 ι2 O2 (h.trans r) x
/-- an outcome is wanted so -/
def SSat (G : Gs) (W : Wish) (H : Hp) (ι : List Addr) (O : Own) (D : Ends) : SOut → Prop
  | .bad => False
  | .ex e st' => W e st'
  | .nx st' env' => Nx G H ι O st' env' D.nx
  | .bk st' env' => Nx G H ι O st' env' D.bk
  | .ct st' env' => Nx G H ι O st' env' D.ct
  | .rt d st' => ∀ u H' ι', Step G.K G.H0 G.i0 H' ι' st' → Rep G.K ι' H' (NewA G.H0 ι') u d → D.rt u H'
def tS (G : Gs) (W : Wish) (S : Sv) : TS := fun D σ H => ∃ env st ι O, StOk G σ H env st ι O ∧ SSat G W H ι O D (S st env)
theorem SSat.shift {D : Ends} {o : SOut} (h : SRel G.K H ι O H' ι' O' st') (k : SSat G W H ι O D o) : SSat G W H' ι' O' D o := by
  cases o with
  | nx st' env' => exact Nx.shift h k
  | bk st' env' => exact Nx.shift h k
  | ct st' env' => exact Nx.shift h k
  | _ => exact k
theorem stm_sat {α : Type} {o : Out α} {f : α → Store → SOut} {D : Ends} (h : SSat G W H ι O D (o.stm f)) : o.Sat W fun d st' => SSat G W H ι O D (f d st') := by
  cases o <;> exact h
theorem ps_weak {t t' : TS} (h : PS X s t) (w : ∀ D σ H, t' D σ H → t D σ H) : PS X s t' := ⟨fun pins s σ H D I q => h.run pins s σ H D I (w D σ H q)⟩
theorem pss_weak {t t' : TS} (h : PSs X ss t) (w : ∀ D σ H, t' D σ H → t D σ H) : PSs X ss t' := ⟨fun pins s σ H D I q => h.run pins s σ H D I (w D σ H q)⟩
theorem Nx.here {P : L2.St → Hp → Prop} (x : StOk G σ H env st ι O) (k : Nx G H ι O st env P) : P σ H := k σ H ι O (.of_step (Step.refl x.base.store)) x
theorem Nx.step {P : L2.St → Hp → Prop} (x : StOk G σ H env st ι O) (s : Step G.K H ι H' ι' st') (k : Nx G H ι O st' env P) : P σ H' := k σ H' ι' O (.of_step s) (x.step s)
/-! ### small statements -/
theorem ds_pass : PS X (.Pass pos) (tS G W sPass) := ps_weak ps_pass fun D σ H ⟨env, st, ι, O, x, q⟩ => Nx.here x q
theorem ds_break : PS X (.Break pos) (tS G W sBreak) := ps_weak ps_break fun D σ H ⟨env, st, ι, O, x, q⟩ => Nx.here x q
theorem ds_cont : PS X (.Continue pos) (tS G W sCont) := ps_weak ps_continue fun D σ H ⟨env, st, ι, O, x, q⟩ => Nx.here x q
theorem ds_never : PS X s (tS G W sNever) := ps_weak ps_never fun D σ H ⟨env, st, ι, O, x, q⟩ => q
theorem dss_nil : PSs X [] (tS G W sPass) := pss_weak pss_nil fun D σ H ⟨env, st, ι, O, x, q⟩ => Nx.here x q
theorem dss_cons (h : PS X s (tS G W S)) (h2 : PSs X ss (tS G W S2)) : PSs X (s :: ss) (tS G W (sSeq S S2)) := pss_weak (pss_cons h h2) fun D σ H ⟨env, st, ι, O, x, q⟩ => by
  refine ⟨env, st, ι, O, x, ?_⟩
  unfold sSeq SOut.thn at q
  cases e : S st env with
  | nx st' env' =>
    rw [e] at q
    intro σ' H' ι' O' r x'
    exact ⟨env', st', ι', O', x', SSat.shift r q⟩
  | _ => rw [e] at q; exact q
theorem ds_if (hc : PT X c (tT G W T)) (h : PSs X ss (tS G W S)) (h2 : PSs X ss2 (tS G W S2)) : PS X (.If c ss ss2 pos) (tS G W (sIf T S S2)) := ps_weak (ps_if hc h h2) fun D σ H ⟨env, st, ι, O, x, q⟩ =>
  ⟨env, st, ι, O, x, (stm_sat q).mono fun b st1 q1 H1 ι1 s1 => by
    have r := SRel.of_step (O := O) s1
    cases b with
    | true => exact ⟨env, st1, ι1, O, x.step s1, SSat.shift r q1⟩
    | false => exact ⟨env, st1, ι1, O, x.step s1, SSat.shift r q1⟩⟩
theorem ds_ret (h : PE X a (tE G W true A)) : PS X (.Return (some a) pos) (tS G W (sRet A)) := ps_weak (ps_ret h) fun D σ H ⟨env, st, ι, O, x, q⟩ =>
  ⟨env, st, ι, O, x, (stm_sat q).mono fun d st1 q1 u H1 ι1 s1 r1 => q1 u H1 ι1 (x.base.trans s1) (r1.weaken fun _ n _ => ⟨x.base.noneOf n.1, n.2⟩)⟩
theorem ds_retN : PS X (.Return none pos) (tS G W sRetN) := ps_weak ps_retN fun D σ H ⟨env, st, ι, O, x, q⟩ => q .non H ι x.base .non
theorem ds_retVar {i : Nat} (hN : X.N[i]? = some x) (hv : Vis X.env.scope x) (hd : (x == ("__debug__" : Str)) = false) (hcd : (x == ("__classdict__" : Str)) = false) : PS X (.Return (some (.Name x pos')) pos) (tS G W (sRetVar i)) :=
  ps_weak (ps_ret (pe_var hN hv hd hcd)) fun D σ H ⟨env, st, ι, O, x, q⟩ => by
    have z := x.slot i
    unfold sRetVar at q
    cases e : env.getD i .un with
    | un => rw [e] at q; exact q.elim
    | vl d =>
      rw [e] at q z
      obtain ⟨_, u, h1, h2⟩ := z
      simp only at q
      split at q
      · rename_i hi
        exact ⟨u, h1, q u H ι x.base ((Rep.imm _).1 h2 hi)⟩
      · exact q.elim
    | ow d =>
      rw [e] at q z
      obtain ⟨p, h1, h2, h3, h4, h5⟩ := z
      refine ⟨.ref p, h2, q _ H ι x.base ?_⟩
      cases d with
      | lst ds =>
        obtain ⟨xs, h6, h7, h8⟩ := h5
        exact .lst (.inl h6) ⟨h3, h4⟩ h7 (h8.weaken fun _ h _ => ⟨h.1, h.2.2⟩)
      | dct ds =>
        obtain ⟨xs, h6, h7, h8⟩ := h5
        exact .dct (.inl h6) ⟨h3, h4⟩ h7 ((Carry.sub fun _ h _ => ⟨h.1, h.2.2⟩).all.2.2 h8)
      | _ => exact h5.elim
theorem ds_drop (h : PE X a (tE G W v A)) (hs : swapsWith a none pos.line X.env = pure false) : PS X (.Expr a pos) (tS G W (sDrop A)) := ps_weak (ps_expr h hs) fun D σ H ⟨env, st, ι, O, x, q⟩ =>
  ⟨env, st, ι, O, x, (stm_sat q).mono fun d st1 q1 u H1 ι1 s1 _ => Nx.step x s1 q1⟩
/-! ### a name is stored -/
def withOwn (O : Own) (i : Nat) (a : Addr) : Own := fun j => if j = i then some a else O j
/-- behind a step: what is told of a slot, with nobody but i owning what is new -/
theorem SlotOk.step {O' : Own} (x : StOk G σ H env st ι O) (s : Step G.K H ι H' ι' st') {i j : Nat} (ej : j ≠ i) (hO : ∀ k b, O' k = some b → (k ≠ i ∧ O k = some b) ∨ H b = none) (hj : O' j = O j) : SlotOk G H' ι' O' j (σ[j]?) (env.getD j .un) := by
  have q := x.slot j
  have cl : ∀ a, Clean O ι a → (∃ o, H a = some o) → Clean O' ι' a := fun a c ⟨o, e⟩ => ⟨(fun k h => by
    rcases hO k a h with ⟨_, z⟩ | z
    · exact c.1 k z
    · rw [e] at z; cases z), s.out e c.2⟩
  have cc : Carry G.K ι H (Clean O ι) ι' H' (Clean O' ι') := s.carry x.base.store (fun a h _ => h.2) cl
  have cm : Carry G.K ι H (Mine G O ι) ι' H' (Mine G O' ι') := s.carry x.base.store (fun a h _ => h.2.2) fun a h e => ⟨h.1, cl a h.2 e⟩
  cases e : env.getD j .un with
  | un => rw [e] at q; exact hj.trans q
  | vl d =>
    rw [e] at q
    obtain ⟨h1, v, h2, h3⟩ := q
    exact ⟨hj.trans h1, v, h2, cc.all.1 h3⟩
  | ow d =>
    rw [e] at q
    obtain ⟨a, h1, h2, h3, h4, h5⟩ := q
    refine ⟨a, hj.trans h1, h2, h3, ?_⟩
    cases d with
    | lst ds => obtain ⟨xs, h6, h7, h8⟩ := h5; exact ⟨s.out h6 h4, xs, s.keep _ _ h6 h4, h7, cm.all.2.1 h8⟩
    | dct ds => obtain ⟨xs, h6, h7, h8⟩ := h5; exact ⟨s.out h6 h4, xs, s.keep _ _ h6 h4, h7, cm.all.2.2 h8⟩
    | _ => exact h5.elim
/-- a fresh value: a list or dict of plain things is the name's own from now on -/
theorem StOk.setOwn (x : StOk G σ H env st ι O) {i : Nat} (hi : i < G.n) {u : V} {d : D} (s : Step G.K H ι H' ι' st') (r : Rep G.K ι' H' (NewA H ι') u d) :
    ∃ O', (∀ k b, O' k = some b → O k = some b ∨ H b = none) ∧ StOk G (σ.set i (some u)) H' (env.set i (own d)) st' ι' O' := by
  have plain : own d = .vl d → ∃ O', (∀ k b, O' k = some b → O k = some b ∨ H b = none) ∧ StOk G (σ.set i (some u)) H' (env.set i (own d)) st' ι' O' := fun ho => by
    rw [ho]
    refine ⟨noOwn O i, fun k b h => .inl (noOwn_some h), (x.step s).setVl hi (r.weaken fun a n _ => ⟨fun k h => ?_, n.2⟩)⟩
    obtain ⟨⟨o, e⟩, _⟩ := x.owned h
    rw [n.1] at e; cases e
  have mine : ∀ a, O i = some a ∨ H a = none → True := fun _ _ => trivial
  have newOwn : ∀ (a : Addr), NewA H ι' a → own d = .ow d → u = .ref a → (match d with
      | .lst ds => ∃ xs, H' a = some (.lst xs) ∧ xs.length ≤ LINE ∧ Reps G.K ι' H' (Mine G (withOwn O i a) ι') xs ds
      | .dct ds => ∃ xs, H' a = some (.dK xs) ∧ xs.length ≤ LINE ∧ RepKs G.K ι' H' (Mine G (withOwn O i a) ι') xs ds
      | _ => False) → ∃ O', (∀ k b, O' k = some b → O k = some b ∨ H b = none) ∧ StOk G (σ.set i (some u)) H' (env.set i (own d)) st' ι' O' := fun a n ho hu hc => by
    have hO : ∀ k b, withOwn O i a k = some b → (k ≠ i ∧ O k = some b) ∨ H b = none := fun k b h => by
      unfold withOwn at h
      split at h
      · cases h; exact .inr n.1
      · rename_i hk; exact .inl ⟨hk, h⟩
    refine ⟨withOwn O i a, fun k b h => (hO k b h).imp (fun z => z.2) id, x.base.trans s, by rw [List.length_set]; exact x.ln1, by rw [List.length_set]; exact x.ln2, fun j => ?_, fun j k b h1 h2 => ?_⟩
    · rw [getD_set]
      by_cases e : i = j ∧ j < env.length
      · obtain ⟨rfl, hl⟩ := e
        rw [if_pos ⟨rfl, hl⟩, ho]
        exact ⟨a, by unfold withOwn; rw [if_pos rfl], by rw [List.getElem?_set_self (by rw [x.ln1]; exact hi), hu], x.base.noneOf n.1, n.2, hc⟩
      · rw [if_neg e]
        by_cases ej : j = i
        · subst ej
          exact absurd ⟨rfl, by rw [x.ln2]; exact hi⟩ e
        · rw [List.getElem?_set_ne (Ne.symm ej)]
          exact SlotOk.step x s ej hO (by unfold withOwn; rw [if_neg ej])
    · have ow : ∀ q, O q = some a → False := fun q h => by
        obtain ⟨⟨o, e⟩, _⟩ := x.owned h
        rw [n.1] at e; cases e
      unfold withOwn at h1 h2
      split at h1
      · rename_i ej
        split at h2
        · rename_i ek; rw [ej, ek]
        · cases h1; exact (ow k h2).elim
      · split at h2
        · cases h2; exact (ow j h1).elim
        · exact x.inj j k b h1 h2
  cases r with
  | lst h1 h2 h3 h4 =>
    rename_i a xs ds
    by_cases hi' : D.imms ds = true
    · have ho : own (.lst ds) = .ow (.lst ds) := by show (if D.imms ds = true then Sl.ow _ else Sl.vl _) = _; rw [if_pos hi']
      refine newOwn a h2 ho rfl ⟨xs, ?_, h3, h4.imm _ hi'⟩
      rcases h1 with h1 | ⟨q, h1⟩
      · exact h1
      · have z := s.nf a q _ h1
        rw [h2.1] at z; cases z
    · exact plain (by show (if D.imms ds = true then Sl.ow _ else Sl.vl _) = _; rw [if_neg hi'])
  | dct h1 h2 h3 h4 =>
    rename_i a xs ds
    by_cases hi' : D.imms (ds.map (·.2)) = true
    · have ho : own (.dct ds) = .ow (.dct ds) := by show (if D.imms (ds.map (·.2)) = true then Sl.ow _ else Sl.vl _) = _; rw [if_pos hi']
      refine newOwn a h2 ho rfl ⟨xs, ?_, h3, repks_imm h4 hi'⟩
      rcases h1 with h1 | ⟨q, h1⟩
      · exact h1
      · have z := s.nf a q _ h1
        rw [h2.1] at z; cases z
    · exact plain (by show (if D.imms (ds.map (·.2)) = true then Sl.ow _ else Sl.vl _) = _; rw [if_neg hi'])
  | _ => exact plain rfl
theorem SRel.set (s : Step G.K H ι H' ι' st') (h : ∀ k b, O' k = some b → O k = some b ∨ H b = none) : SRel G.K H ι O H' ι' O' st' := ⟨s.loose, fun i b e => (h i b e).imp (fun z => ⟨i, z⟩) id, s.all⟩
theorem set_reads {i : Nat} {D : Ends} (hi : i < G.n) (h : tS G W (sSet i A) D σ H) : tE G W true A σ H fun u H1 => gName i u σ H1 D.nx := by
  obtain ⟨env, st, ι, O, x, q⟩ := h
  refine ⟨env, st, ι, O, x, (stm_sat q).mono fun d st1 q1 u H1 ι1 s1 r1 => ?_⟩
  obtain ⟨O', h1, x'⟩ := x.setOwn hi s1 r1
  exact q1 _ H1 ι1 O' (.set s1 h1) x'
theorem ix_lt (hn : G.n = X.N.length) {i : Nat} (h : X.N[i]? = some x) : i < G.n := by rw [hn]; exact (List.getElem?_eq_some_iff.mp h).1
theorem ds_set {i : Nat} (hn : G.n = X.N.length) (hN : X.N.Nodup) (hi : X.N[i]? = some x) (hx : Loc X.env.scope x) (he : PE X e (tE G W true A)) (hs : swapsWith e (some (.Name x pos')) pos.line X.env = pure false) (hf : X.fn x = true ∨ X.env.scope.names.lookup x = some .local) :
    PS X (.Assign [.Name x pos'] e pos) (tS G W (sSet i A)) := ps_weak (ps_set hN hi hx he hs hf) fun D σ H h => set_reads (ix_lt hn hi) h
theorem ds_setLc {i : Nat} {elt : Expr} {ifs : List Expr} {scope : Scope} {own : List (Str × Nat)} {spos : Pos} (hK : G.K = X.K) (hnn : G.n = X.N.length) (hc : X.calm = true) (hN : X.N.Nodup) (hy : X.N[i]? = some x) (hyl : X.env.scope.names.lookup x = some .local)
    (hsw : swapsWith (.ListComp elt [⟨tg, iter, ifs, 0⟩] scope pos) (some (.Name x pos')) spos.line X.env = pure true) (hn : ∀ i ∈ g.slots, i < G.n) (hi : DI X G W false tg iter Wv) (ok : BlkOk X.N X.env.scope scope own) (ho : own.map (·.2) = g.slots)
    (hg : ∀ (s : Shared) (H : Hp) (C : Addr) (cl : List (Str × Addr)) (fp : List Addr), PG (X.blk s H scope (compEnvC scope cl C X.env) fp) tg (tgR G.K g)) (ht : ∀ (s : Shared) (H : Hp) (C : Addr) (cl : List (Str × Addr)) (fp : List Addr), PTs (X.blk s H scope (compEnvC scope cl C X.env) fp) ifs (tT G NoW T))
    (he : ∀ (s : Shared) (H : Hp) (C : Addr) (cl : List (Str × Addr)) (fp : List Addr), PE (X.blk s H scope (compEnvC scope cl C X.env) fp) elt (tE G NoW true A)) (hs : ∀ x, foldedSetIterable iter X.env x = pure x) :
    PS X (.Assign [.Name x pos'] (.ListComp elt [⟨tg, iter, ifs, 0⟩] scope pos) spos) (tS G W (sSet i (eLc Wv g T A))) := by
  obtain ⟨wi, h1, h2⟩ := hi
  refine ps_weak (ps_setLc hc hN hy hyl hsw h1 ok hg ht he hs) fun D σ H h => ?_
  show tLc _ _ _ _ _ σ H fun u H1 => gName i u σ H1 D.nx
  rw [ho]
  obtain ⟨env, st, ι, O, x, q⟩ := set_reads (ix_lt hnn hy) h
  exact lc_reads hK hn ⟨env, st, ι, O, x, fun R => h2 σ H env st ι O R x, q⟩
end
end Dl
end
section
set_option Elab.async false
set_option linter.all false
set_option maxRecDepth 100000
set_option maxHeartbeats 4000000
/-! Dl13: statements over data: several names, lists and dicts written. -/
namespace Dl
open PySem PySem.Spec PyProof.Rows L2
section
variable {X : Cx} {v : Bool} {K : PySem.W.Frag} {H H' H2 : Hp} {ι ι' ι2 : List Addr} {st st' st2 : Store} {Q : VK} {W : Wish} {G : Gs} {a b c e o : Expr} {es : List Expr} {A B C : Ev} {R : Av} {T U : Tv} {p pos pos' : Pos} {σ : L2.St} {x : Str} {env : En} {O O' O2 : Own} {m : Bool} {tg iter : Expr} {Wv : Iv} {g : Tg} {S S2 : Sv} {s s2 : Stmt} {ss ss2 : List Stmt}
/-! ### several names at once -/
def taN (G : Gs) (W : Wish) : List Ev → TA
  | [] => tNil
  | A :: r => tCons (tE G W true A) (taN G W r)
def setS : L2.St → List Nat → List V → L2.St
  | σ, i :: is, u :: us => setS (σ.set i (some u)) is us
  | σ, _, _ => σ
theorem sets_reads {H0 : Hp} {ι0 : List Addr} {O0 : Own} : ∀ {is : List Nat} {As : List Ev} {σa : L2.St} {enva : En} {Oa : Own} {H : Hp} {ι : List Addr} {st : Store} {O : Own} {Q : List V → Hp → Prop}, (∀ i ∈ is, i < G.n) → StOk G σ H env st ι O → StOk G σa H enva st ι Oa → SRel G.K H0 ι0 O0 H ι Oa st →
    (setsGo is As st env enva).Sat W (fun env' st' => ∀ us H' ι' O', us.length = is.length → SRel G.K H0 ι0 O0 H' ι' O' st' → StOk G (setS σa is us) H' env' st' ι' O' → Q us H') → taN G W As σ H Q
  | [], [], σa, enva, Oa, H, ι, st, O, Q, hn, x, xa, r, q => by
    exact q [] H ι Oa rfl r xa
  | [], _ :: _, _, _, _, _, _, _, _, _, _, _, _, _, q => q.elim
  | _ :: _, [], _, _, _, _, _, _, _, _, _, _, _, _, q => q.elim
  | i :: is, A :: As, σa, enva, Oa, H, ι, st, O, Q, hn, x, xa, r, q => by
    refine ⟨env, st, ι, O, x, (Out.sat_bind q).mono fun d st1 q1 u H1 ι1 s1 r1 => ?_⟩
    obtain ⟨O1, h1, x1⟩ := xa.setOwn (hn i List.mem_cons_self) s1 r1
    refine sets_reads (fun j hj => hn j (List.mem_cons_of_mem _ hj)) (x.step s1) x1 (r.trans (.set s1 h1)) (q1.mono fun env' st' k us H' ι' O' hl r' x' => ?_)
    exact k (u :: us) H' ι' O' (by simp [hl]) r' x'
theorem gNames_reads : ∀ {is : List Nat} {us : List V} {σ : L2.St} {H : Hp} {Q : L2.St → Hp → Prop}, us.length = is.length → Q (setS σ is us) H → gNames is us σ H Q
  | [], [], _, _, _, _, q => ⟨rfl, q⟩
  | _ :: _, u :: us, _, _, _, hl, q => ⟨u, us, rfl, gNames_reads (by simpa using hl) q⟩
theorem sets_stm {is : List Nat} {As : List Ev} {D : Ends} {P : List V → Hp → Prop} (hn : ∀ i ∈ is, i < G.n) (h : tS G W (sSets is As) D σ H)
    (hp : ∀ us H1, us.length = is.length → D.nx (setS σ is us) H1 → (∀ q, H1 q = none → D.nx (setS σ is us) (L2.upd H1 q (.tup us))) → P us H1) : taN G W As σ H P := by
  obtain ⟨env, st, ι, O, x, q⟩ := h
  refine sets_reads hn x x (.of_step (Step.refl x.base.store)) ((stm_sat q).mono fun env' st' k us H' ι' O' hl r' x' => hp _ _ hl (k _ H' ι' O' r' x') fun p hp => ?_)
  have s2 : Step G.K H' ι' (L2.upd H' p (.tup us)) ι' st' := Step.laid x'.base.store hp _
  exact k _ _ ι' O' (r'.trans (.of_step s2)) (x'.step s2)
theorem ds_sets2 {i j : Nat} {x y : Str} {px py pt pt2 : Pos} {kt k2 : Nat} (hc : X.calm = true) (hN : X.N.Nodup) (hG : G.n = X.N.length) (hi : X.N[i]? = some x) (hj : X.N[j]? = some y) (hij : i ≠ j)
    (hx : X.env.scope.names.lookup x = some .local) (hy : X.env.scope.names.lookup y = some .local) (ha : PE X a (tE G W true A)) (hb : PE X b (tE G W true B))
    (hw : swappedStores [.Tuple [.Name x px, .Name y py] kt pt] (.Tuple [a, b] k2 pt2) X.env = pure (some [x, y]))
    (ha1 : starEach [a, b] X.env = (false, eval a X.env) :: starEach [b] X.env) (hb1 : starEach [b] X.env = (false, eval b X.env) :: starEach [] X.env) :
    PS X (.Assign [.Tuple [.Name x px, .Name y py] kt pt] (.Tuple [a, b] k2 pt2) pos) (tS G W (sSets [i, j] [A, B])) :=
  ps_weak (ps_par hc hN hi hj hij hx hy (pa_cons ha (pa_cons hb pa_nil hb1) ha1) hw) fun D σ H h => by
    have hn : ∀ q ∈ [i, j], q < G.n := fun q hq => by
      simp only [List.mem_cons, List.not_mem_nil, or_false] at hq
      rcases hq with rfl | rfl
      · exact ix_lt hG hi
      · exact ix_lt hG hj
    exact sets_stm (As := [A, B]) hn h fun us H1 hl q _ => by
      match us, hl with
      | [u, w], _ => exact ⟨u, w, rfl, q⟩
theorem ds_sets3 {i j l : Nat} {x y z : Str} {px py pz pt pt2 : Pos} {kt k2 : Nat} (hc : X.calm = true) (hN : X.N.Nodup) (hG : G.n = X.N.length) (hi : X.N[i]? = some x) (hj : X.N[j]? = some y) (hl : X.N[l]? = some z) (hij : i ≠ j) (hil : i ≠ l) (hjl : j ≠ l)
    (hx : X.env.scope.names.lookup x = some .local) (hy : X.env.scope.names.lookup y = some .local) (hz : X.env.scope.names.lookup z = some .local) (ha : PE X a (tE G W true A)) (hb : PE X b (tE G W true B)) (hcc : PE X c (tE G W true C))
    (hw : swappedStores [.Tuple [.Name x px, .Name y py, .Name z pz] kt pt] (.Tuple [a, b, c] k2 pt2) X.env = pure (some [x, y, z]))
    (ha1 : starEach [a, b, c] X.env = (false, eval a X.env) :: starEach [b, c] X.env) (hb1 : starEach [b, c] X.env = (false, eval b X.env) :: starEach [c] X.env) (hc1 : starEach [c] X.env = (false, eval c X.env) :: starEach [] X.env) :
    PS X (.Assign [.Tuple [.Name x px, .Name y py, .Name z pz] kt pt] (.Tuple [a, b, c] k2 pt2) pos) (tS G W (sSets [i, j, l] [A, B, C])) :=
  ps_weak (ps_par3 hc hN hi hj hl hij hil hjl hx hy hz (pa_cons ha (pa_cons hb (pa_cons hcc pa_nil hc1) hb1) ha1) hw) fun D σ H h => by
    have hn : ∀ q ∈ [i, j, l], q < G.n := fun q hq => by
      simp only [List.mem_cons, List.not_mem_nil, or_false] at hq
      rcases hq with rfl | rfl | rfl
      · exact ix_lt hG hi
      · exact ix_lt hG hj
      · exact ix_lt hG hl
    exact sets_stm (As := [A, B, C]) hn h fun us H1 hl q _ => by
      match us, hl with
      | [u, w, t], _ => exact ⟨u, w, t, rfl, q⟩
/-- the pair is made, then taken apart -/
theorem ds_setsT {is : List Nat} {As : List Ev} {ts : List Expr} {kt k2 : Nat} {pt pt2 : Pos} (hc : X.calm = true) (hK : G.K = X.K) (hn : ∀ q ∈ is, q < G.n) (hl : is.length ≤ 100) (ha : PA X es (taN G W As)) (hg : PGs X ts (gNames is))
    (hl1 : (assignEach ts X.env).length = is.length) (hst : (assignEach ts X.env).findIdx? (·.1) = none) (hw : swappedStores [.Tuple ts kt pt] (.Tuple es k2 pt2) X.env = pure none) :
    PS X (.Assign [.Tuple ts kt pt] (.Tuple es k2 pt2) pos) (tS G W (sSets is As)) :=
  ps_weak (ps_asg (pe_tup ha) (pg_tup hc hg hl1 hst) rfl hw) fun D σ H h => by
    refine sets_stm hn h fun us H1 hlu _ q => ⟨?_, fun p hp => ⟨p, us, rfl, .inl (.inl (by rw [upd_same])), hlu, gNames_reads hlu (q p hp)⟩⟩
    rw [← line_eq]
    have : LINE = 16777216 := rfl
    omega
/-- a, b, .. = x -/
theorem ds_unpack {is : List Nat} {ts : List Expr} {kt : Nat} {pt : Pos} (hc : X.calm = true) (hK : G.K = X.K) (hn : ∀ q ∈ is, q < G.n) (he : PE X e (tO G W true A)) (hg : PGs X ts (gNames is))
    (hl1 : (assignEach ts X.env).length = is.length) (hst : (assignEach ts X.env).findIdx? (·.1) = none) (hs : swapsWithSole [.Tuple ts kt pt] e pos.line X.env = pure false) (hw : swappedStores [.Tuple ts kt pt] e X.env = pure none) :
    PS X (.Assign [.Tuple ts kt pt] e pos) (tS G W (sUnpack is A)) :=
  ps_weak (ps_asg he (pg_tup hc hg hl1 hst) hs hw) fun D σ H ⟨env, st, ι, O, x, q⟩ => by
    refine ⟨env, st, ι, O, x, (stm_sat q).mono fun d st1 q1 u H1 ι1 s1 r1 => ?_⟩
    cases d with
    | tup ds =>
      cases r1 with
      | tup h1 h2 h3 =>
        cases e : (Tg.tup is).set (.tup ds) env with
        | none => rw [e] at q1; exact q1.elim
        | some env' =>
          rw [e] at q1
          have x1 := x.step s1
          rw [← hK]
          exact tg_reads (G := G) (g := .tup is) hn x1 (Rep.tup (K := G.K) h1 h2 h3) e fun σ' O' ho x2 _ => q1 σ' H1 ι1 O' (.sub (.of_step s1) ho) x2
      | oth h => cases h
    | _ => exact (show False from q1).elim
/-! ### a list, a dict of the name's own is written -/
def Cont (G : Gs) (H : Hp) (ι : List Addr) (O : Own) (u : HO) : D → Prop
  | .lst ds => ∃ xs, u = .lst xs ∧ xs.length ≤ LINE ∧ Reps G.K ι H (Mine G O ι) xs ds
  | .dct ds => ∃ xs, u = .dK xs ∧ xs.length ≤ LINE ∧ RepKs G.K ι H (Mine G O ι) xs ds
  | _ => False
theorem StOk.write (x : StOk G σ H env st ι O) {i : Nat} {a : Addr} (h : O i = some a) {u : HO} {d : D} (hw : Cont G H ι O u d) : StOk G σ (L2.upd H a u) (env.set i (.ow d)) st ι O ∧ SRel G.K H ι O (L2.upd H a u) ι O st := by
  have own := x.owned h
  have hi : i < env.length := by
    by_cases q : i < env.length
    · exact q
    · have z := x.slot i
      rw [List.getD_eq_getElem?_getD, List.getElem?_eq_none (Nat.not_lt.mp q)] at z
      have z' : O i = none := z
      rw [h] at z'; cases z'
  obtain ⟨p, hp1, hp2, hp3, hp4, hp5⟩ : ∃ d0, env.getD i .un = .ow d0 ∧ σ[i]? = some (some (.ref a)) ∧ G.H0 a = none ∧ a ∉ ι ∧ ((∃ xs, H a = some (.lst xs)) ∨ ∃ xs, H a = some (.dK xs)) := by
    have z := x.slot i
    cases e : env.getD i .un with
    | un => rw [e] at z; have z' : O i = none := z; rw [h] at z'; cases z'
    | vl d => rw [e] at z; have z' := z.1; rw [h] at z'; cases z'
    | ow d =>
      rw [e] at z
      obtain ⟨b, h1, h2, h3, h4, h5⟩ := z
      rw [h] at h1; cases h1
      refine ⟨d, rfl, h2, h3, h4, ?_⟩
      cases d with
      | lst ds => obtain ⟨xs, e, _⟩ := h5; exact .inl ⟨_, e⟩
      | dct ds => obtain ⟨xs, e, _⟩ := h5; exact .inr ⟨_, e⟩
      | _ => exact h5.elim
  have nt : ∀ ys, ¬ Rd H a (.tup ys) := by
    rcases hp5 with ⟨xs, e⟩ | ⟨xs, e⟩
    · exact lst_noTup e
    · exact dk_noTup e
  have nf : ∀ q w, u ≠ .frz q w := fun q w e => by
    subst e
    cases d <;> simp [Cont] at hw
  have ne : ∀ b, Clean O ι b → b ≠ a := fun b c e => c.1 i (e ▸ h)
  have cc : Carry G.K ι H (Clean O ι) ι (L2.upd H a u) (Clean O ι) := upd_carry ne nt
  have cm : Carry G.K ι H (Mine G O ι) ι (L2.upd H a u) (Mine G O ι) := upd_carry (fun b c => ne b c.2) nt
  refine ⟨⟨x.base.upd hp3 nt hp4 nf, x.ln1, by rw [List.length_set]; exact x.ln2, fun j => ?_, x.inj⟩, ⟨⟨fun b o e m l => ?_, List.prefix_refl _, fun b m => .inl m, x.base.store.upd nt hp4⟩, fun j b e => .inl ⟨j, e⟩, fun b o e => ?_⟩⟩
  · rw [getD_set]
    by_cases e : i = j ∧ j < env.length
    · obtain ⟨rfl, _⟩ := e
      rw [if_pos ⟨rfl, hi⟩]
      refine ⟨a, h, hp2, hp3, hp4, ?_⟩
      cases d with
      | lst ds => obtain ⟨xs, h1, h2, h3⟩ := hw; exact ⟨xs, by rw [upd_same, h1], h2, cm.all.2.1 h3⟩
      | dct ds => obtain ⟨xs, h1, h2, h3⟩ := hw; exact ⟨xs, by rw [upd_same, h1], h2, cm.all.2.2 h3⟩
      | _ => exact hw.elim
    · rw [if_neg e]
      have z := x.slot j
      have ij : i ≠ j := fun q => e ⟨q, q ▸ hi⟩
      cases e2 : env.getD j .un with
      | un => rw [e2] at z; exact z
      | vl d => rw [e2] at z; obtain ⟨h1, w, h2, h3⟩ := z; exact ⟨h1, w, h2, cc.all.1 h3⟩
      | ow d =>
        rw [e2] at z
        obtain ⟨b, h1, h2, h3, h4, h5⟩ := z
        have nb : b ≠ a := fun q => ij (x.inj i j a h (q ▸ h1))
        refine ⟨b, h1, h2, h3, h4, ?_⟩
        cases d with
        | lst ds => obtain ⟨xs, h6, h7, h8⟩ := h5; exact ⟨xs, by rw [upd_ne nb]; exact h6, h7, cm.all.2.1 h8⟩
        | dct ds => obtain ⟨xs, h6, h7, h8⟩ := h5; exact ⟨xs, by rw [upd_ne nb]; exact h6, h7, cm.all.2.2 h8⟩
        | _ => exact h5.elim
  · rw [upd_ne fun q => l ⟨i, by rw [q]; exact h⟩]; exact e
  · by_cases q : b = a
    · subst q; exact ⟨_, upd_same ..⟩
    · exact ⟨o, by rw [upd_ne q]; exact e⟩
/-- the name's own list -/
theorem StOk.ownL (x : StOk G σ H env st ι O) {i : Nat} {ds : List D} (h : Dl.ownL i env = some ds) : ∃ a xs, O i = some a ∧ σ[i]? = some (some (.ref a)) ∧ H a = some (.lst xs) ∧ xs.length ≤ LINE ∧ Reps G.K ι H (Mine G O ι) xs ds := by
  unfold Dl.ownL at h
  split at h
  · rename_i e
    cases h
    have z := x.slot i
    rw [e] at z
    obtain ⟨a, h1, h2, h3, h4, xs, h6, h7, h8⟩ := z
    exact ⟨a, xs, h1, h2, h6, h7, h8⟩
  · cases h
theorem StOk.mineOf (x : StOk G σ H env st ι O) (s : Step G.K H ι H' ι' st') {u : V} {d : D} (r : Rep G.K ι' H' (NewA H ι') u d) : Rep G.K ι' H' (Mine G O ι') u d := r.weaken fun a n _ => ⟨x.base.noneOf n.1, (fun k h => by
  obtain ⟨⟨o, e⟩, _⟩ := x.owned h
  rw [n.1] at e; cases e), n.2⟩
theorem app_reads {i : Nat} {D : Ends} (h : tS G W (sApp i A) D σ H) : tBM X.K "list" rAppend (tVar i) (tCons (tE G W true A) tNil) σ H fun _ H1 => D.nx σ H1 := by
  obtain ⟨env, st, ι, O, x, q⟩ := h
  unfold sApp at q
  cases e : ownL i env with
  | none => rw [e] at q; exact q.elim
  | some ds =>
    rw [e] at q
    obtain ⟨a, xs, h1, h2, h3, h4, h5⟩ := x.ownL e
    refine ⟨_, h2, .inl ⟨rfl, xs, .inl (.inl h3)⟩, env, st, ι, O, x, (stm_sat q).mono fun d st1 q1 u H1 ι1 s1 r1 => ?_⟩
    have x1 := x.step s1
    obtain ⟨a', xs', k1, k2, k3, k4, k5⟩ := x1.ownL e
    rw [h1] at k1; cases k1
    by_cases hl : ds.length < LINE
    · simp only [if_pos hl] at q1
      obtain ⟨y, r⟩ := x1.write h1 (u := .lst (xs' ++ [u])) (d := .lst (ds ++ [d])) ⟨_, rfl, by rw [List.length_append, k5.length]; exact hl, k5.append (.cons (x.mineOf s1 r1) .nil)⟩
      exact ⟨a, xs', u, rfl, rfl, k3, by rw [← line_eq, k5.length]; exact hl, q1 _ _ _ _ ((SRel.of_step s1).trans r) y⟩
    · simp only [if_neg hl] at q1
      exact q1.elim
theorem ext_reads {i : Nat} {D : Ends} (h : tS G W (sExt i A) D σ H) : tBM X.K "list" rExtend (tVar i) (tCons (tE G W true A) tNil) σ H fun _ H1 => D.nx σ H1 := by
  obtain ⟨env, st, ι, O, x, q⟩ := h
  unfold sExt at q
  cases e : ownL i env with
  | none => rw [e] at q; exact q.elim
  | some ds =>
    rw [e] at q
    obtain ⟨a, xs, h1, h2, h3, h4, h5⟩ := x.ownL e
    refine ⟨_, h2, .inl ⟨rfl, xs, .inl (.inl h3)⟩, env, st, ι, O, x, (stm_sat q).mono fun d st1 q1 u H1 ι1 s1 r1 => ?_⟩
    have x1 := x.step s1
    obtain ⟨a', xs', k1, k2, k3, k4, k5⟩ := x1.ownL e
    rw [h1] at k1; cases k1
    cases r1 with
    | @lst b ys es l1 l2 l3 l4 =>
      by_cases hl : (Dl.D.imms es && decide (ds.length + es.length ≤ LINE)) = true
      · simp only [if_pos hl] at q1
        rw [Bool.and_eq_true, decide_eq_true_eq] at hl
        have l1' : H1 b = some (.lst ys) := by
          rcases l1 with l1 | ⟨q, l1⟩
          · exact l1
          · have z := s1.nf b q _ l1
            rw [l2.1] at z; cases z
        obtain ⟨y, r⟩ := x1.write h1 (u := .lst (xs' ++ ys)) (d := .lst (ds ++ es)) ⟨_, rfl, by rw [List.length_append, k5.length, l4.length]; exact hl.2, k5.append (l4.imm _ hl.1)⟩
        exact ⟨a, b, xs', ys, rfl, rfl, k3, l1', by rw [← line_eq, k5.length, l4.length]; exact hl.2, q1 _ _ _ _ ((SRel.of_step s1).trans r) y⟩
      · simp only [if_neg hl] at q1
        exact q1.elim
    | _ => exact (show False from q1).elim
/-- the last one is taken off -/
theorem pop_reads {i : Nat} {D : Ends} {env : En} {f : Dl.D → Store → En → SOut} {P : V → L2.St → Hp → Prop} (x : StOk G σ H env st ι O) (q : SSat G W H ι O D (popTo i st env f))
    (k : ∀ a xs y d ds, H a = some (.lst xs) → xs[xs.length - 1]? = some y → O i = some a → Rep G.K ι (L2.upd H a (.lst xs.dropLast)) (fun _ => False) y d → StOk G σ (L2.upd H a (.lst xs.dropLast)) (env.set i (.ow (.lst ds))) st ι O →
      SRel G.K H ι O (L2.upd H a (.lst xs.dropLast)) ι O st → SSat G W H ι O D (f d st (env.set i (.ow (.lst ds)))) → P y σ (L2.upd H a (.lst xs.dropLast))) :
    ∃ a xs y, σ[i]? = some (some (.ref a)) ∧ H a = some (.lst xs) ∧ xs[xs.length - 1]? = some y ∧ P y σ (L2.upd H a (.lst xs.dropLast)) := by
  unfold popTo at q
  cases e : ownL i env with
  | none => rw [e] at q; exact q.elim
  | some ds =>
    rw [e] at q
    obtain ⟨a, xs, h1, h2, h3, h4, h5⟩ := x.ownL e
    cases e2 : ds.getLast? with
    | none => simp only [e2] at q; exact q.elim
    | some d =>
      simp only [e2] at q
      by_cases hi : d.imm = true
      · rw [if_pos hi] at q
        rw [List.getLast?_eq_getElem?] at e2
        obtain ⟨y, hy, ry⟩ := h5.get e2
        rw [← h5.length] at hy
        obtain ⟨z, r⟩ := x.write h1 (u := .lst xs.dropLast) (d := .lst ds.dropLast) ⟨_, rfl, by rw [List.length_dropLast]; omega, h5.dropLast⟩
        have c : Carry G.K ι H (fun _ => False) ι (L2.upd H a (.lst xs.dropLast)) (fun _ => False) := upd_carry (fun _ h => h.elim) (lst_noTup h3)
        exact ⟨a, xs, y, h2, h3, hy, k a xs y d _ h3 hy h1 (c.all.1 ((Rep.imm _).1 ry hi)) z r q⟩
      · rw [if_neg hi] at q; exact q.elim
theorem setPop_reads {i j : Nat} {D : Ends} (hj : j < G.n) (h : tS G W (sSetPop j i) D σ H) : tBM0 X.K "list" rPop (tVar i) σ H fun u H1 => gName j u σ H1 D.nx := by
  obtain ⟨env, st, ι, O, x, q⟩ := h
  obtain ⟨a, xs, y, h1, h2, h3, h4⟩ := pop_reads (P := fun u σ H1 => gName j u σ H1 D.nx) x q fun a xs y d ds k1 k2 k3 k4 k5 k6 k7 => by
    refine k7 _ _ ι (noOwn O j) (k6.sub fun _ _ z => noOwn_some z) (k5.setVl hj (k4.weaken fun _ z _ => z.elim))
  exact ⟨_, h1, .inl ⟨rfl, xs, .inl (.inl h2)⟩, a, xs, y, rfl, rfl, h2, h3, h4⟩
theorem ownL_set {i j : Nat} {env : En} {s : Sl} (h : j ≠ i) : ownL j (env.set i s) = ownL j env := by
  unfold ownL
  rw [getD_set, if_neg fun z => h z.1.symm]
theorem appTo_reads {j : Nat} {D : Ends} {env : En} {y : V} {d : Dl.D} (x : StOk G σ H env st ι O) (r : Rep G.K ι H (fun _ => False) y d) (q : SSat G W H ι O D (appTo j d st env)) : ∃ a xs, σ[j]? = some (some (.ref a)) ∧ O j = some a ∧ H a = some (.lst xs) ∧ xs.length < LINE ∧ D.nx σ (L2.upd H a (.lst (xs ++ [y]))) := by
  unfold appTo at q
  cases e : ownL j env with
  | none => rw [e] at q; exact q.elim
  | some ds =>
    rw [e] at q
    obtain ⟨a, xs, h1, h2, h3, h4, h5⟩ := x.ownL e
    by_cases hl : ds.length < LINE
    · simp only [if_pos hl] at q
      obtain ⟨z, w⟩ := x.write h1 (u := .lst (xs ++ [y])) (d := .lst (ds ++ [d])) ⟨_, rfl, by rw [List.length_append, h5.length]; exact hl, h5.append (.cons (r.weaken fun _ z _ => z.elim) .nil)⟩
      exact ⟨a, xs, h2, h1, h3, by rw [h5.length]; exact hl, q _ _ _ _ w z⟩
    · simp only [if_neg hl] at q
      exact q.elim
theorem appPop_reads {i j : Nat} {D : Ends} (h : tS G W (sAppPop j i) D σ H) : tBM X.K "list" rAppend (tVar j) (tCons (tBM0 X.K "list" rPop (tVar i)) tNil) σ H fun _ H1 => D.nx σ H1 := by
  obtain ⟨env, st, ι, O, x, q⟩ := h
  unfold sAppPop at q
  split at q
  · exact q.elim
  · rename_i ij
    cases e : ownL j env with
    | none => rw [e] at q; exact q.elim
    | some js =>
      rw [e] at q
      obtain ⟨b, ys, g1, g2, g3, g4, g5⟩ := x.ownL e
      obtain ⟨a, xs, y, h1, h2, h3, h4⟩ := pop_reads (P := fun y σ H1 => rAppend (.ref b) [y] H1 fun _ H2 => D.nx σ H2) x q fun a xs y d ds k1 k2 k3 k4 k5 k6 k7 => by
        obtain ⟨b', ys', f1, f2, f3, f4, f5⟩ := appTo_reads k5 k4 (SSat.shift k6 k7)
        rw [g2] at f1
        cases f1
        exact ⟨b, ys', y, rfl, rfl, f3, by rw [← line_eq]; exact f4, f5⟩
      exact ⟨_, g2, .inl ⟨rfl, ys, .inl (.inl g3)⟩, _, h1, .inl ⟨rfl, xs, .inl (.inl h2)⟩, a, xs, y, rfl, rfl, h2, h3, h4⟩
/-- the k-th is taken out -/
theorem popAt_reads {i : Nat} {D : Ends} {env : En} {f : Dl.D → Store → En → SOut} {P : V → L2.St → Hp → Prop} (x : StOk G σ H env st ι O) (q : SSat G W H ι O D (popAt i A st env f))
    (k : ∀ H1 ι1 st1 a xs' y d ds, Step G.K H ι H1 ι1 st1 → O i = some a → Rep G.K ι1 (L2.upd H1 a (.lst xs')) (fun _ => False) y d → StOk G σ (L2.upd H1 a (.lst xs')) (env.set i (.ow (.lst ds))) st1 ι1 O →
      SRel G.K H ι O (L2.upd H1 a (.lst xs')) ι1 O st1 → SSat G W H ι O D (f d st1 (env.set i (.ow (.lst ds)))) → P y σ (L2.upd H1 a (.lst xs'))) :
    tBM X.K "list" rPopAt (tVar i) (tCons (tE G W false A) tNil) σ H fun y H1 => P y σ H1 := by
  unfold popAt at q
  cases e : ownL i env with
  | none => rw [e] at q; exact q.elim
  | some ds =>
    rw [e] at q
    obtain ⟨a, xs, h1, h2, h3, h4, h5⟩ := x.ownL e
    refine ⟨_, h2, .inl ⟨rfl, xs, .inl (.inl h3)⟩, env, st, ι, O, x, (stm_sat q).mono fun kd st1 q1 u H1 ι1 s1 r1 => ?_⟩
    have x1 := x.step s1
    obtain ⟨a', xs', k1, k2, k3, k4, k5⟩ := x1.ownL e
    rw [h1] at k1; cases k1
    cases r1 with
    | int kk =>
      by_cases hk : 0 ≤ kk ∧ kk < 9223372036854775808
      · simp only [if_pos hk] at q1
        cases e2 : ds[kk.toNat]? with
        | none => simp only [e2] at q1; exact q1.elim
        | some d =>
          simp only [e2] at q1
          by_cases hi : d.imm = true
          · rw [if_pos hi] at q1
            obtain ⟨y, hy, ry⟩ := k5.get e2
            obtain ⟨z, r⟩ := x1.write h1 (u := .lst (xs'.eraseIdx kk.toNat)) (d := .lst (ds.eraseIdx kk.toNat)) ⟨_, rfl, Nat.le_trans (List.length_eraseIdx_le ..) k4, k5.eraseIdx _⟩
            have c : Carry G.K ι1 H1 (fun _ => False) ι1 (L2.upd H1 a (.lst (xs'.eraseIdx kk.toNat))) (fun _ => False) := upd_carry (fun _ h => h.elim) (lst_noTup k3)
            have hlt : kk.toNat < xs'.length := (List.getElem?_eq_some_iff.mp hy).1
            exact ⟨a, xs', kk, kk.toNat, y, rfl, rfl, k3, by omega, by omega, seqIndex_of hk.1 (by omega), hy, k H1 ι1 st1 a _ y d _ s1 h1 (c.all.1 ((Rep.imm _).1 ry hi)) z ((SRel.of_step s1).trans r) q1⟩
          · rw [if_neg hi] at q1; exact q1.elim
      · simp only [if_neg hk] at q1
        exact q1.elim
    | _ => exact (show False from q1).elim
theorem setPopAt_reads {i j : Nat} {D : Ends} (hj : j < G.n) (h : tS G W (sSetPopAt j i A) D σ H) : tBM X.K "list" rPopAt (tVar i) (tCons (tE G W false A) tNil) σ H fun u H1 => gName j u σ H1 D.nx := by
  obtain ⟨env, st, ι, O, x, q⟩ := h
  refine popAt_reads (P := fun u σ H1 => gName j u σ H1 D.nx) x q fun H1 ι1 st1 a xs' y d ds s1 k3 k4 k5 k6 k7 => ?_
  exact k7 _ _ ι1 (noOwn O j) (k6.sub fun _ _ z => noOwn_some z) (k5.setVl hj (k4.weaken fun _ z _ => z.elim))
theorem appPopAt_reads {i j : Nat} {D : Ends} (h : tS G W (sAppPopAt j i A) D σ H) : tBM X.K "list" rAppend (tVar j) (tCons (tBM X.K "list" rPopAt (tVar i) (tCons (tE G W false A) tNil)) tNil) σ H fun _ H1 => D.nx σ H1 := by
  obtain ⟨env, st, ι, O, x, q⟩ := h
  unfold sAppPopAt at q
  split at q
  · exact q.elim
  · rename_i ij
    cases e : ownL j env with
    | none => rw [e] at q; exact q.elim
    | some js =>
      rw [e] at q
      obtain ⟨b, ys, g1, g2, g3, g4, g5⟩ := x.ownL e
      refine ⟨_, g2, .inl ⟨rfl, ys, .inl (.inl g3)⟩, ?_⟩
      refine popAt_reads (P := fun y σ H1 => rAppend (.ref b) [y] H1 fun _ H2 => D.nx σ H2) x q fun H1 ι1 st1 a xs' y d ds s1 k3 k4 k5 k6 k7 => ?_
      obtain ⟨b', ys', f1, f2, f3, f4, f5⟩ := appTo_reads k5 k4 (SSat.shift k6 k7)
      rw [g2] at f1
      cases f1
      exact ⟨b, ys', y, rfl, rfl, f3, by rw [← line_eq]; exact f4, f5⟩
/-! ### x[k] = e -/
theorem Step.putCell {n : Nat} {a : Addr} {ds ds' : List Dl.D} {xs xs' : List V} (t : StoreOk K ι H st) (h1 : st[n]? = some (.cell ds)) (h2 : ι[n]? = some a) (h3 : H a = some (.lst xs)) (hl : xs'.length ≤ LINE) (hi : Dl.D.imms ds' = true) (r : Reps K ι H (fun _ => False) xs' ds') :
    Step K H ι (L2.upd H a (.lst xs')) ι (st.set n (.cell ds')) := by
  have c : Carry K ι H (fun _ => False) ι (L2.upd H a (.lst xs')) (fun _ => False) := upd_carry (fun _ h => h.elim) (lst_noTup h3)
  refine ⟨fun b o e m => ?_, List.prefix_refl _, fun b m => .inl m, fun b m => t.live m, ⟨by rw [List.length_set]; exact t.len, t.nd, fun k so b e1 e2 => ?_⟩, fun b q u e => ?_⟩
  · rw [upd_ne fun q => m (by rw [q]; exact List.mem_of_getElem? h2)]; exact e
  · rw [List.getElem?_set] at e1
    by_cases ek : n = k
    · subst ek
      rw [h2] at e2; cases e2
      have hn : n < st.length := (List.getElem?_eq_some_iff.mp h1).1
      rw [if_pos rfl, if_pos hn] at e1
      cases e1
      exact ⟨xs', upd_same .., hl, hi, c.all.2.1 r⟩
    · rw [if_neg ek] at e1
      have na : b ≠ a := fun q => by
        subst q
        exact ek ((List.getElem?_inj (List.getElem?_eq_some_iff.mp h2).1 t.nd).mp (h2.trans e2.symm))
      have q := t.at_ k so b e1 e2
      cases so with
      | cell ds => obtain ⟨ys, e, h3, h4, h5⟩ := q; exact ⟨ys, by rw [upd_ne na]; exact e, h3, h4, c.all.2.1 h5⟩
      | inst cl fs => obtain ⟨dx, vs, e, h3, h4, h5, h6, h7⟩ := q; exact ⟨dx, vs, by rw [upd_ne na]; exact e, h3, h4, h5, h6, c.all.2.1 h7⟩
  · by_cases z : b = a
    · subst z; rw [upd_same] at e; cases e
    · rw [upd_ne z] at e; exact e
def rSetD : TSet := fun o i v H Q => ∃ a H', o = .ref a ∧ DPut H a i v H' ∧ Q H'
theorem set_dict (hu : X.A.units + 1 < cLine) : PSet X rSetD := by
  intro pins s σ H o i v ov iv u Q I ro ri rv h
  obtain ⟨a, H', rfl, g, q⟩ := h
  obtain rfl : ov = Value.ref a := ro
  exact d_setItem hu I g ri rv fun s' I' => ⟨H', I', q⟩
theorem PSet.or {r r' : TSet} (h : PSet X r) (h' : PSet X r') : PSet X fun o i v H Q => r o i v H Q ∨ r' o i v H Q := fun pins s σ H o i v ov iv u Q I ro ri rv q => q.elim (h pins s σ H o i v ov iv u Q I ro ri rv) (h' pins s σ H o i v ov iv u Q I ro ri rv)
theorem put_reads {i : Nat} {D : Ends} (h : tS G W (sPut i B A) D σ H) : tE G W true A σ H fun u H1 => gSub (tVar i) (tE G W false B) (fun o i v H Q => rSetL o i v H Q ∨ rSetD o i v H Q) u σ H1 D.nx := by
  obtain ⟨env, st, ι, O, x, q⟩ := h
  refine ⟨env, st, ι, O, x, (stm_sat q).mono fun d st1 q1 u H1 ι1 s1 r1 => ?_⟩
  have x1 := x.step s1
  have r1' := x.mineOf s1 r1
  split at q1
  · exact q1.elim
  · rename_i hun
    have z := x1.slot i
    cases e : env.getD i .un with
    | un => rw [e] at hun; exact absurd rfl hun
    | vl dv =>
      rw [e] at z q1
      obtain ⟨_, w, h1, h2⟩ := z
      refine ⟨w, h1, env, st1, ι1, O, x1, (stm_sat q1).mono fun kd st2 q2 k H2 ι2 s2 r2 => ?_⟩
      unfold putTo at q2
      cases dv with
      | obj n =>
        cases h2 with
        | @obj _ a ha =>
          simp only at q2
          split at q2
          · rename_i xs kk e1
            cases r2
            have t2 := s2.store
            have ha2 := prefix_get s2.pre ha
            obtain ⟨ys, g1, g2, g3, g4⟩ := t2.at_ n _ a e1 ha2
            split at q2
            · rename_i jj hj
              split at q2
              · rename_i hi
                have ru : Rep G.K ι2 H2 (fun _ => False) u d := (Rep.imm _).1 (look_step s1.store s2 (r1.weaken fun _ n _ => n.2)) hi
                have c : Carry G.K ι2 H2 (fun _ => False) ι2 (L2.upd H2 a (.lst (ys.set jj u))) (fun _ => False) := upd_carry (fun _ h => h.elim) (lst_noTup g1)
                have im : Dl.D.imms (xs.set jj d) = true := by
                  rw [imms_eq, List.all_eq_true] at g3 ⊢
                  intro y hy
                  rcases List.mem_or_eq_of_mem_set hy with hy | rfl
                  · exact g3 y hy
                  · exact hi
                have s3 := Step.putCell t2 e1 ha2 g1 (xs' := ys.set jj u) (ds' := xs.set jj d) (by rw [List.length_set]; exact g2) im (g4.set jj ru)
                exact .inl ⟨a, ys, kk, jj, rfl, rfl, g1, by rw [g4.length]; exact hj, q2 _ _ _ O (.of_step (s1.trans (s2.trans s3))) ((x1.step s2).step s3)⟩
              · exact q2.elim
            · exact q2.elim
          · exact q2.elim
      | _ => exact q2.elim
    | ow dv =>
      rw [e] at z q1
      obtain ⟨a, h0, h1, h2, h3, h4⟩ := z
      refine ⟨_, h1, env, st1, ι1, O, x1, (stm_sat q1).mono fun kd st2 q2 k H2 ι2 s2 r2 => ?_⟩
      have x2 := x1.step s2
      have ru : Rep G.K ι2 H2 (Mine G O ι2) u d := (s2.carry s1.store (fun a h _ => h.2.2) fun a h ⟨o, e⟩ => ⟨h.1, h.2.1, s2.out e h.2.2⟩).all.1 r1'
      have z := x2.slot i
      rw [e] at z
      obtain ⟨a', g0, g1, g2, g3, g4⟩ := z
      rw [h0] at g0; cases g0
      unfold putTo at q2
      cases dv with
      | dct kvs =>
        obtain ⟨ys, k1, k2, k3⟩ := g4
        simp only at q2
        split at q2
        · rename_i kk hk
          split at q2
          · rename_i hl
            have ek := kV_of r2 hk
            subst ek
            obtain ⟨z, r⟩ := x2.write h0 (u := .dK (putK ys kk u)) (d := .dct (dPut kvs kk d)) ⟨_, rfl, by have := length_putK ys kk u; rw [k3.length] at this; omega, repks_put ru k3⟩
            exact .inr ⟨a, _, rfl, .k k1 (by rw [← line_eq, k3.length]; exact hl), q2 _ _ _ _ ((SRel.of_step (s1.trans s2)).trans r) z⟩
          · exact q2.elim
        · exact q2.elim
      | lst xs =>
        obtain ⟨ys, k1, k2, k3⟩ := g4
        simp only at q2
        split at q2
        · rename_i kk
          cases r2
          split at q2
          · rename_i jj hj
            obtain ⟨z, r⟩ := x2.write h0 (u := .lst (ys.set jj u)) (d := .lst (xs.set jj d)) ⟨_, rfl, by rw [List.length_set]; exact k2, k3.set jj ru⟩
            exact .inl ⟨a, ys, kk, jj, rfl, rfl, k1, by rw [k3.length]; exact hj, q2 _ _ _ _ ((SRel.of_step (s1.trans s2)).trans r) z⟩
          · exact q2.elim
        · exact q2.elim
      | _ => exact h4.elim
end
end Dl
end
section
set_option Elab.async false
set_option linter.all false
set_option maxRecDepth 100000
set_option maxHeartbeats 4000000
/-! Dl14: statements over data: the rules for calls that write, raise, loops. -/
namespace Dl
open PySem PySem.Spec PyProof.Rows L2
section
variable {X : Cx} {v : Bool} {K : PySem.W.Frag} {H H' H2 : Hp} {ι ι' ι2 : List Addr} {st st' st2 : Store} {Q : VK} {W : Wish} {G : Gs} {a b c e o : Expr} {es : List Expr} {A B C : Ev} {R : Av} {T U : Tv} {p pos pos' : Pos} {σ : L2.St} {x y : Str} {env : En} {O O' O2 : Own} {m : Bool} {tg iter : Expr} {Wv : Iv} {g : Tg} {S S2 : Sv} {s s2 : Stmt} {ss ss2 : List Stmt}
variable {px py p1 p2 p3 : Pos} {i j : Nat}
/-- a name of the frame, as it may be read -/
structure Vn (X : Cx) (i : Nat) (x : Str) : Prop where
  ix : X.N[i]? = some x
  vis : Vis X.env.scope x
  db : (x == ("__debug__" : Str)) = false
  cd : (x == ("__classdict__" : Str)) = false
theorem Vn.pe (h : Vn X i x) : PE X (.Name x pos) (tVar i) := pe_var h.ix h.vis h.db h.cd
theorem st1 {env : Env} (h : starEach [a] env = (false, eval a env) :: starEach [] env) (pos : Pos) : ((backTo pos (starEach [a] env)).all (fun x => !x.1) && (backToKw pos (keywordEach [] env)).all (fun x => x.1.isSome)
      && decide ([a].length + ([] : List Keyword).length + (if ([] : List Keyword).isEmpty then 0 else 1) < 30)) = true := by
  rw [h]; rfl
theorem ds_app (hv : Vn X i x) (ha : PE X a (tE G W true A)) (hs : starEach [a] X.env = (false, eval a X.env) :: starEach [] X.env) (hline : (p1.endLine == p2.line) = true) :
    PS X (.Expr (.Call (.Attribute (.Name x px) "append" p1) [a] [] p2) pos) (tS G W (sApp i A)) :=
  ps_weak (ps_expr (pe_bm PySem.F.plainAttrs_list PySem.F.slot_list_append PySem.F.type_list_append mt_append hv.pe (pa_cons ha pa_nil hs) rfl (st1 hs p2) hline hs rfl) rfl) fun D σ H h => app_reads h
theorem ds_ext (hv : Vn X i x) (ha : PE X a (tE G W true A)) (hs : starEach [a] X.env = (false, eval a X.env) :: starEach [] X.env) (hline : (p1.endLine == p2.line) = true) :
    PS X (.Expr (.Call (.Attribute (.Name x px) "extend" p1) [a] [] p2) pos) (tS G W (sExt i A)) :=
  ps_weak (ps_expr (pe_bm PySem.F.plainAttrs_list PySem.F.slot_list_extend PySem.F.type_list_extend mt_extend hv.pe (pa_cons ha pa_nil hs) rfl (st1 hs p2) hline hs rfl) rfl) fun D σ H h => ext_reads h
theorem ds_setPop (hn : G.n = X.N.length) (hN : X.N.Nodup) (hj : X.N[j]? = some y) (hy : Loc X.env.scope y) (hf : X.fn y = true ∨ X.env.scope.names.lookup y = some .local) (hv : Vn X i x) (hline : (p1.endLine == p2.line) = true) :
    PS X (.Assign [.Name y py] (.Call (.Attribute (.Name x px) "pop" p1) [] [] p2) pos) (tS G W (sSetPop j i)) :=
  ps_weak (ps_set hN hj hy (pe_bm0 PySem.F.plainAttrs_list PySem.F.slot_list_pop PySem.F.type_list_pop mt_pop hv.pe rfl hline) rfl hf) fun D σ H h => setPop_reads (ix_lt hn hj) h
theorem ds_appPop (hw : Vn X j y) (hv : Vn X i x) (hline : (p1.endLine == p2.line) = true) (hline2 : (p3.endLine == p.line) = true) :
    PS X (.Expr (.Call (.Attribute (.Name y py) "append" p3) [.Call (.Attribute (.Name x px) "pop" p1) [] [] p2] [] p) pos) (tS G W (sAppPop j i)) :=
  ps_weak (ps_expr (pe_bm PySem.F.plainAttrs_list PySem.F.slot_list_append PySem.F.type_list_append mt_append hw.pe (pa_cons (pe_bm0 PySem.F.plainAttrs_list PySem.F.slot_list_pop PySem.F.type_list_pop mt_pop hv.pe rfl hline) pa_nil rfl) rfl (st1 rfl p) hline2 rfl rfl) rfl) fun D σ H h => appPop_reads h
theorem ds_setPopAt (hn : G.n = X.N.length) (hN : X.N.Nodup) (hj : X.N[j]? = some y) (hy : Loc X.env.scope y) (hf : X.fn y = true ∨ X.env.scope.names.lookup y = some .local) (hv : Vn X i x) (ha : PE X a (tE G W false A)) (hs : starEach [a] X.env = (false, eval a X.env) :: starEach [] X.env) (hline : (p1.endLine == p2.line) = true) :
    PS X (.Assign [.Name y py] (.Call (.Attribute (.Name x px) "pop" p1) [a] [] p2) pos) (tS G W (sSetPopAt j i A)) :=
  ps_weak (ps_set hN hj hy (pe_bm PySem.F.plainAttrs_list PySem.F.slot_list_pop PySem.F.type_list_pop mt_popAt hv.pe (pa_cons ha pa_nil hs) rfl (st1 hs p2) hline hs rfl) rfl hf) fun D σ H h => setPopAt_reads (ix_lt hn hj) h
theorem ds_appPopAt (hw : Vn X j y) (hv : Vn X i x) (ha : PE X a (tE G W false A)) (hs : starEach [a] X.env = (false, eval a X.env) :: starEach [] X.env) (hline : (p1.endLine == p2.line) = true) (hline2 : (p3.endLine == p.line) = true) :
    PS X (.Expr (.Call (.Attribute (.Name y py) "append" p3) [.Call (.Attribute (.Name x px) "pop" p1) [a] [] p2] [] p) pos) (tS G W (sAppPopAt j i A)) :=
  ps_weak (ps_expr (pe_bm PySem.F.plainAttrs_list PySem.F.slot_list_append PySem.F.type_list_append mt_append hw.pe (pa_cons (pe_bm PySem.F.plainAttrs_list PySem.F.slot_list_pop PySem.F.type_list_pop mt_popAt hv.pe (pa_cons ha pa_nil hs) rfl (st1 hs p2) hline hs rfl) pa_nil rfl) rfl (st1 rfl p) hline2 rfl rfl) rfl) fun D σ H h => appPopAt_reads h
theorem ds_put (hu : X.A.units + 1 < cLine) (hv : Vn X i x) (hb : PE X b (tE G W false B)) (ha : PE X a (tE G W true A)) (hs : swapsWith a (some (.Subscript (.Name x px) b p1)) pos.line X.env = pure false) (hw : swappedStores [.Subscript (.Name x px) b p1] a X.env = pure none)
    (hx : ∀ v, assign (.Subscript (.Name x px) b p1) X.env v = (do
      let ov ← holding [v] (eval (.Name x px) X.env)
      let iv ← holding [v, ov] (eval b X.env)
      standAt p1
      holding [v, ov, iv] (setItem ov iv v)
      release [v, ov, iv] [])) :
    PS X (.Assign [.Subscript (.Name x px) b p1] a pos) (tS G W (sPut i B A)) :=
  ps_weak (ps_asg ha (pg_sub hv.pe hb (PSet.or set_list (set_dict hu)) hx) hs hw rfl) fun D σ H h => put_reads h
theorem ds_raise (hc : X.calm = true) (hK : G.K = X.K) (tk : Takes X fun cls d _ H => XW G W cls d H) (he : PMk X e fun _ H Q => Q (.ref (He.ga X.K x)) none H) : PS X (.Raise (some e) none pos) (tS G W (sRaise x)) :=
  ps_weak (ps_raise hc tk he) fun D σ H ⟨env, st, ι, O, x, q⟩ => ⟨_, st, ι, q, ⟨by rw [hK], .inl rfl⟩, x.base⟩
/-! ### loops -/
theorem LStep.imp {L L' : Addr → Prop} (x : LStep K L H ι H' ι' st') (h : ∀ a, L a → L' a) : LStep K L' H ι H' ι' st' := ⟨fun a o e m l => x.keep a o e m fun z => l (h a z), x.pre, x.new, x.store⟩
theorem StOk.frz1 (x : StOk G σ H env st ι O) {i : Nat} {d : D} (e : env.getD i .un = .ow d) : StOk G σ H (env.set i (.vl d)) st ι (noOwn O i) := by
  have z := x.slot i
  rw [e] at z
  obtain ⟨a, h1, h2, h3, h4, h5⟩ := z
  have c : Clean (noOwn O i) ι a := ⟨fun k h => by
    unfold noOwn at h
    split at h
    · cases h
    · rename_i hk; exact hk (x.inj _ _ _ h h1), h4⟩
  have r : Rep G.K ι H (Clean (noOwn O i) ι) (.ref a) d := by
    cases d with
    | lst ds => obtain ⟨xs, h6, h7, h8⟩ := h5; exact .lst (.inl h6) c h7 (h8.weaken fun _ z _ => clean_sub (fun _ _ h => noOwn_some h) z.2)
    | dct ds => obtain ⟨xs, h6, h7, h8⟩ := h5; exact .dct (.inl h6) c h7 ((Carry.sub fun _ z _ => clean_sub (fun _ _ h => noOwn_some h) z.2).all.2.2 h8)
    | _ => exact h5.elim
  refine ⟨x.base, x.ln1, by rw [List.length_set]; exact x.ln2, fun j => ?_, fun j k a h1 h2 => x.inj j k a (noOwn_some h1) (noOwn_some h2)⟩
  rw [getD_set]
  by_cases q : i = j ∧ j < env.length
  · obtain ⟨rfl, _⟩ := q
    rw [if_pos ⟨rfl, by assumption⟩]
    exact ⟨by unfold noOwn; rw [if_pos rfl], _, h2, r⟩
  · rw [if_neg q]
    by_cases ij : j = i
    · subst ij
      have : ¬ j < env.length := fun z => q ⟨rfl, z⟩
      rw [List.getD_eq_getElem?_getD, List.getElem?_eq_none (Nat.not_lt.mp this)] at e
      cases e
    · exact (x.slot j).sub (fun _ _ h => noOwn_some h) (by unfold noOwn; rw [if_neg ij])
theorem StOk.frz : ∀ (is : List Nat) {env : En} {O : Own}, StOk G σ H env st ι O → ∃ O', (∀ j b, O' j = some b → O j = some b) ∧ StOk G σ H (Dl.frz is env) st ι O'
  | [], env, O, x => ⟨O, fun _ _ h => h, x⟩
  | i :: is, env, O, x => by
    cases e : env.getD i .un with
    | ow d =>
      obtain ⟨O', h, y⟩ := StOk.frz is (x.frz1 e)
      refine ⟨O', fun j b z => noOwn_some (h j b z), ?_⟩
      have : Dl.frz (i :: is) env = Dl.frz is (env.set i (.vl d)) := by
        unfold Dl.frz
        rw [List.foldl_cons, e]
      rw [this]; exact y
    | un =>
      obtain ⟨O', h, y⟩ := StOk.frz is x
      refine ⟨O', h, ?_⟩
      have : Dl.frz (i :: is) env = Dl.frz is env := by
        unfold Dl.frz
        rw [List.foldl_cons, e]
      rw [this]; exact y
    | vl d =>
      obtain ⟨O', h, y⟩ := StOk.frz is x
      refine ⟨O', h, ?_⟩
      have : Dl.frz (i :: is) env = Dl.frz is env := by
        unfold Dl.frz
        rw [List.foldl_cons, e]
      rw [this]; exact y
theorem for_reads {is : List Nat} {wi : TI} {D : Ends} (hn : ∀ i ∈ g.slots, i < G.n)
    (h : ∃ env st ι O O0, StOk G σ H env st ι O ∧ StOk G σ H (Dl.frz is env) st ι O0 ∧ (∀ j b, O0 j = some b → O j = some b) ∧ (∀ R : It → Hp → Prop, (Wv st (Dl.frz is env)).Sat W (fun ds st' => ∀ J H' ι', Step G.K H ι H' ι' st' → Walk G.K J ds true O0 H' ι' → R J H') → wi σ H R) ∧
      SSat G W H ι O D (sFor is Wv g S st env)) : tFor wi (tgR G.K g) (tS G W S) D σ H := by
  obtain ⟨env, st, ι, O, O0, x, x0, hO, hw, q⟩ := h
  refine hw _ ((stm_sat q).mono fun ds st1 q1 J H1 ι1 s1 wk => ?_)
  have q1' : SSat G W H1 ι1 O0 D (forGo g S ds st1 (Dl.frz is env)) := SSat.shift ((SRel.of_step s1).sub hO) q1
  refine ⟨fun i m σ' H' => ∃ env' st' ι' O', StOk G σ' H' env' st' ι' O' ∧ SRel G.K H1 ι1 O0 H' ι' O' st' ∧ SSat G W H1 ι1 O0 D (forGo g S (ds.drop i) st' env') ∧ m = ds.length - i, ⟨_, _, st1, ι1, O0, x0.step s1, .of_step (Step.refl s1.store), by rw [List.drop_zero]; exact q1', rfl⟩, ?_⟩
  rintro i m σ' H' ⟨env', st', ι', O', x', r', q', rfl⟩
  obtain ⟨w1, w2⟩ := wk i H' ι' st' (r'.ls.imp fun a ⟨j, e⟩ => ⟨rfl, j, e⟩)
  cases e : ds[i]? with
  | none =>
    have hl : ds.length ≤ i := List.getElem?_eq_none_iff.mp e
    rw [List.drop_eq_nil_of_le hl] at q'
    exact .inl ⟨w2 hl, q' σ' H' ι' O' r' x'⟩
  | some d =>
    obtain ⟨hlt, hd⟩ := List.getElem?_eq_some_iff.mp e
    rw [List.drop_eq_getElem_cons hlt, hd] at q'
    obtain ⟨go, w3⟩ := w1 d e
    refine .inr ⟨go, fun σ3 H3 => ∃ env3 st3 ι3 O3, StOk G σ3 H3 env3 st3 ι3 O3 ∧ SRel G.K H1 ι1 O0 H3 ι3 O3 st3 ∧ SSat G W H1 ι1 O0 D (forGo g S (ds.drop (i + 1)) st3 env3), fun σ3 H3 ⟨env3, st3, ι3, O3, z1, z2, z3⟩ => ⟨ds.length - (i + 1), by omega, env3, st3, ι3, O3, z1, z2, z3, rfl⟩, fun u H2 hy => ?_⟩
    obtain ⟨s2, ru⟩ := w3 u H2 hy
    have x2 := x'.step s2
    have ru' : Rep G.K ι' H2 (Clean O' ι') u d := ru.weaken fun a ⟨cl, o, eo⟩ _ => ⟨(fun k h => by
      rcases r'.own k a h with ⟨j, z⟩ | z
      · exact cl.1 j z
      · rw [eo] at z; cases z), cl.2⟩
    unfold forGo at q'
    cases eg : g.set d env' with
    | none => rw [eg] at q'; exact q'.elim
    | some env2 =>
      rw [eg] at q'
      refine tg_reads hn x2 ru' eg fun σ2 O2 ho x3 _ => ?_
      have r2 : SRel G.K H1 ι1 O0 H2 ι' O2 st' := (r'.trans (.of_step s2)).sub ho
      refine ⟨env2, st', ι', O2, x3, ?_⟩
      simp only at q'
      cases eb : S st' env2 with
      | nx st3 env3 =>
        rw [eb] at q'
        exact fun σ3 H3 ι3 O3 r3 x4 => ⟨env3, st3, ι3, O3, x4, r2.trans r3, q'⟩
      | ct st3 env3 =>
        rw [eb] at q'
        exact fun σ3 H3 ι3 O3 r3 x4 => ⟨env3, st3, ι3, O3, x4, r2.trans r3, q'⟩
      | bk st3 env3 =>
        rw [eb] at q'
        exact fun σ3 H3 ι3 O3 r3 x4 => q' σ3 H3 ι3 O3 (r2.trans r3) x4
      | rt d st3 => rw [eb] at q'; exact q'
      | ex d st3 => rw [eb] at q'; exact q'
      | bad => rw [eb] at q'; exact q'
theorem ds_for {is : List Nat} (hK : G.K = X.K) (hp : PassesOwn (model X.prog X.w) X.A X.env X.xe) (hc : X.calm = true) (hn : ∀ i ∈ g.slots, i < G.n) (hi : DI X G W true tg iter Wv) (hg : PG X tg (tgR G.K g)) (hb : PSs X ss (tS G W S))
    (hs : ∀ x, foldedSetIterable iter X.env x = pure x) : PS X (.For tg iter ss [] pos) (tS G W (sFor is Wv g S)) := by
  obtain ⟨wi, h1, h2⟩ := hi
  refine ps_weak (ps_for hp hc h1 hg hb hs) fun D σ H ⟨env, st, ι, O, x, q⟩ => ?_
  obtain ⟨O0, hO, x0⟩ := StOk.frz is x
  exact for_reads hn ⟨env, st, ι, O, O0, x, x0, hO, fun R => h2 σ H _ st ι O0 R x0, q⟩
theorem ds_while (hp : PassesOwn (model X.prog X.w) X.A X.env X.xe) (hc : PT X c (tT G W T)) (hb : PSs X ss (tS G W S)) : PS X (.While c ss [] pos) (tS G W (sWhile T S)) :=
  ps_weak (ps_while hp hc hb) fun D σ H ⟨env, st, ι, O, x, q⟩ => by
    refine ⟨fun m σ' H' => ∃ env' st' ι' O', StOk G σ' H' env' st' ι' O' ∧ SRel G.K H ι O H' ι' O' st' ∧ SSat G W H ι O D (whileGo T S m st' env'), ⟨TURNS, env, st, ι, O, x, .of_step (Step.refl x.base.store), q⟩, ?_⟩
    rintro m σ' H' ⟨env', st', ι', O', x', r', q'⟩
    cases m with
    | zero => exact q'.elim
    | succ m =>
      unfold whileGo at q'
      refine ⟨env', st', ι', O', x', (stm_sat q').mono fun b st2 q2 H2 ι2 s2 => ?_⟩
      have x2 := x'.step s2
      have r2 : SRel G.K H ι O H2 ι2 O' st2 := r'.trans (.of_step s2)
      cases b with
      | false => exact q2 σ' H2 ι2 O' r2 x2
      | true =>
        simp only [if_true] at q2 ⊢
        refine ⟨fun σ3 H3 => ∃ env3 st3 ι3 O3, StOk G σ3 H3 env3 st3 ι3 O3 ∧ SRel G.K H ι O H3 ι3 O3 st3 ∧ SSat G W H ι O D (whileGo T S m st3 env3), fun σ3 H3 ⟨env3, st3, ι3, O3, z1, z2, z3⟩ => ⟨m, Nat.lt_succ_self m, env3, st3, ι3, O3, z1, z2, z3⟩, env', st2, ι2, O', x2, ?_⟩
        cases eb : S st2 env' with
        | nx st3 env3 =>
          rw [eb] at q2
          exact fun σ3 H3 ι3 O3 r3 x4 => ⟨env3, st3, ι3, O3, x4, r2.trans r3, q2⟩
        | ct st3 env3 =>
          rw [eb] at q2
          exact fun σ3 H3 ι3 O3 r3 x4 => ⟨env3, st3, ι3, O3, x4, r2.trans r3, q2⟩
        | bk st3 env3 =>
          rw [eb] at q2
          exact fun σ3 H3 ι3 O3 r3 x4 => q2 σ3 H3 ι3 O3 (r2.trans r3) x4
        | rt d st3 => rw [eb] at q2; exact q2
        | ex d st3 => rw [eb] at q2; exact q2
        | bad => rw [eb] at q2; exact q2
end
end Dl
end
section
set_option Elab.async false
set_option linter.all false
set_option maxRecDepth 100000
set_option maxHeartbeats 4000000
/-! Dl15: dicts: displays, get, walks (the dict is locked meanwhile). -/
namespace Dl
open PySem PySem.Spec PyProof.Rows L2
/-! ### what is walked, by kind -/
def keyOk : Key → Bool
  | .inl _ => true
  | .inr x => decide (x.length ≤ LINE)
def itemsOf (d : D) (st : Store) : Out (List D) := match d with
  | .tup xs => .ok xs st
  | .lst xs => .ok xs st
  | .str z => .ok (z.cps.toList.map fun c => .str ⟨#[c]⟩) st
  | .dct kvs => if kvs.all (fun kv => keyOk kv.1) = true then .ok (kvs.map fun kv => kD kv.1) st else .bad
  | _ => .bad
def vlOf (i : Nat) (env : En) : Option D := match env.getD i .un with
  | .vl d => some d
  | _ => none
/-- a name, whatever it is -/
def iVar (i : Nat) : Iv := fun st env => match vlOf i env with
  | some d => itemsOf d st
  | none => .bad
def iVals (i : Nat) : Iv := fun st env => match vlOf i env with
  | some (.dct kvs) => .ok (kvs.map (·.2)) st
  | _ => .bad
def iItems (i : Nat) : Iv := fun st env => match vlOf i env with
  | some (.dct kvs) => if kvs.all (fun kv => keyOk kv.1) = true then .ok (kvs.map fun kv => .tup [kD kv.1, kv.2]) st else .bad
  | _ => .bad
/-- an expression: no dict -/
def iExp (A : Ev) : Iv := fun st env => (A st env).bind fun x st => match x with
  | .tup xs => .ok xs st
  | .lst xs => .ok xs st
  | .str z => .ok (z.cps.toList.map fun c => .str ⟨#[c]⟩) st
  | _ => .bad
def Sl.immOw : Sl → Bool
  | .ow (.lst ds) => D.imms ds
  | .ow (.dct kvs) => D.imms (kvs.map (·.2))
  | _ => true
def isDct : Option D → Bool
  | some (.dct _) => true
  | _ => false
/-- a dict at i: may be locked -/
def lockOk (i : Nat) (env : En) : Bool := !isDct (vlOf i env) || env.all Sl.immOw
def eLcV (i : Nat) (W : Iv) (g : Tg) (T : Tv) (A : Ev) : Ev := fun st env => if lockOk i (frz [i] env) = true then eLc W g T A st (frz [i] env) else .bad
def SOut.calm : SOut → SOut
  | .ex _ _ => .bad
  | o => o
def sForV (i : Nat) (W : Iv) (g : Tg) (B : Sv) : Sv := fun st env => if isDct (vlOf i (frz [i] env)) = true then (if lockOk i (frz [i] env) = true then (sFor [i] W g B st env).calm else .bad) else sFor [i] W g B st env
section
variable {X : Cx} {v : Bool} {K : PySem.W.Frag} {H H' H2 : Hp} {ι ι' ι2 : List Addr} {st st' st2 : Store} {Q : VK} {W : Wish} {G : Gs} {a b c e o : Expr} {es : List Expr} {A B C : Ev} {R : Av} {T U : Tv} {p pos pos' : Pos} {σ : L2.St} {x y : Str} {env : En} {O O' O2 : Own} {m : Bool} {tg iter : Expr} {Wv : Iv} {g : Tg} {S S2 : Sv} {s s2 : Stmt} {ss ss2 : List Stmt}
variable {px py p1 p2 p3 : Pos} {i j : Nat}
/-! ### displays -/
theorem de_dict0 : PE X (.Dict [] [] pos) (tE G W v eDict0) := de_new (pe_weak pe_dnewK fun σ H Q ⟨env, st, ι, O, x, q⟩ p hp =>
  q _ _ ι (Step.laid x.base.store hp _) (.dct (.inl upd_same) ⟨hp, not_iota x.base.store hp⟩ (Nat.zero_le _) .nil))
theorem de_dict1 {k : Key} (ha : PE X a (tE G W true A)) (hk : PE X b (tC (kV k))) : PE X (.Dict [some b] [a] pos) (tE G W v (eDict1 k A)) := de_new (pe_weak (pe_disp (pps_cons hk ha pps_nil) rfl rfl (by simp) (by simp)) fun σ H Q ⟨env, st, ι, O, x, q⟩ p hp => by
  have s0 := Step.laid (K := G.K) (st := st) x.base.store hp (.dK [])
  refine ⟨env, st, ι, O, x.step s0, (Out.sat_bind q).mono fun d st1 q1 u H1 ι1 s1 r1 => ?_⟩
  have hp1 : H1 p = some (.dK []) := s1.keep _ _ upd_same (not_iota x.base.store hp)
  have np : p ∉ ι1 := s1.out upd_same (not_iota x.base.store hp)
  have nt : ∀ ys, ¬ Rd H1 p (.tup ys) := dk_noTup hp1
  refine ⟨hp1, [(k, u)], rfl, by simp, q1 _ _ ι1 ((s0.trans s1).upd hp nt np) (.dct (.inl upd_same) ⟨hp, np⟩ (by show 1 ≤ LINE; decide) (.cons ?_ .nil))⟩
  have r2 : Rep G.K ι1 H1 (fun a => NewA H ι1 a ∧ a ≠ p) u d := r1.weaken fun a n _ => ⟨⟨s0.noneOf n.1, n.2⟩, fun e => by
    have h1 : (L2.upd H p (.dK [])) a = none := n.1
    rw [e, upd_same] at h1; cases h1⟩
  have c : Carry G.K ι1 H1 (fun a => NewA H ι1 a ∧ a ≠ p) ι1 (L2.upd H1 p (.dK (mergeK [] [(k, u)]))) (fun a => NewA H ι1 a ∧ a ≠ p) := upd_carry (fun a h => h.2) nt
  exact (c.all.1 r2).weaken fun _ h _ => h.1)
/-! ### d.get(k, x) -/
theorem de_get2 {apos : Pos} (hK : G.K = X.K) (hu : X.A.units + 1 < cLine) (ha : PE X a (tE G W false A)) (hb : PE X b (tE G W false B)) (hc : PE X c (tE G W false C)) (hm : M2 X a "get" apos b c pos) : PE X (.Call (.Attribute a "get" apos) [b, c] [] pos) (tE G W false (eGet2 A B C)) :=
  pe_weak (pe_dget2 hu ha hb hc hm) fun σ H Q ⟨env, st, ι, O, x, q⟩ => by
    refine ⟨env, st, ι, O, x, (Out.sat_bind q).mono fun d st1 q1 u H1 ι1 s1 r1 => ?_⟩
    split at q1
    · rename_i hd
      cases d with
      | dct kvs =>
        cases r1 with
        | @dct ad xs _ h1 h2 h3 h4 =>
          refine ⟨ad, rfl, .inl ⟨xs, h1⟩, env, st1, ι1, O, x.step s1, (Out.sat_bind q1).mono fun kd st2 q2 k H2 ι2 s2 r2 => ?_⟩
          refine ⟨env, st2, ι2, O, (x.step s1).step s2, (Out.sat_bind q2).mono fun zd st3 q3 z H3 ι3 s3 r3 => ?_⟩
          have s23 := s2.trans s3
          have r1 : Rep G.K ι3 H3 (OutA ι3) (.ref ad) (.dct kvs) := look_step s1.store s23 (.dct h1 h2 h3 h4)
          unfold dGet2 at q3
          cases ek : keyOf kd with
          | none => rw [ek] at q3; exact q3.elim
          | some kk =>
            rw [ek] at q3
            have ekv := kV_of r2 ek
            subst ekv
            cases r1 with
            | dct g1 g2 g3 g4 =>
              rename_i ys
              have q4 : ∀ u H' ι', Step G.K H ι H' ι' st3 → Rep G.K ι' H' (Kind false H ι') u ((dGet kvs kk).getD zd) → Q u H' := q3
              refine ⟨_, .inl ⟨ys, kk, g1, rfl, rfl⟩, q4 _ H3 ι3 (s1.trans s23) ?_⟩
              rcases RepKs.val kk g4 with ⟨e1, e2⟩ | ⟨w, d2, e1, e2, e3⟩
              · rw [e1, e2]; exact r3
              · rw [e1, e2]; exact e3
      | _ => simp [D.isDct] at hd
    · exact (show False from q1).elim
/-! ### a dict is locked -/
def lockG (G : Gs) (d : Addr) (u : HO) : Gs := { G with H0 := L2.upd G.H0 d u }
/-- what is known where the dict at d is locked -/
structure Lk (G : Gs) (d : Addr) (xs : List (Key × V)) : Prop where
  same : ∀ o, G.H0 d = some o → o = .dK xs
  live : ∀ a ∈ G.i0, ∃ o, G.H0 a = some o
  out : d ∉ G.i0
theorem lock_carry {S : Addr → Prop} {d : Addr} {xs : List (Key × V)} {od : Obj} (h : H d = some (.dK xs)) : Carry K ι H S ι (L2.upd H d (.frz od (.dK xs))) S := by
  have ne : ∀ a u, a ≠ d → Rd H a u → Rd (L2.upd H d (.frz od (.dK xs))) a u := fun a u h r => by
    rcases r with r | ⟨z, r⟩
    · exact .inl (by rw [upd_ne h]; exact r)
    · exact .inr ⟨z, by rw [upd_ne h]; exact r⟩
  refine ⟨fun a ys r => ?_, fun a ys s r => ⟨?_, s⟩, fun a ys s r => ⟨?_, s⟩, fun _ _ h => h⟩
  · rcases r with r | r
    · exact .inl (ne a _ (fun e => dk_noTup h ys (e ▸ r)) r)
    · exact .inr r
  · exact ne a _ (fun e => by
      subst e
      rcases r with r | ⟨z, r⟩ <;> (rw [h] at r; cases r)) r
  · by_cases e : a = d
    · subst e
      rcases r with r | ⟨z, r⟩
      · rw [h] at r; cases r; exact .inr ⟨od, upd_same⟩
      · rw [h] at r; cases r
    · exact ne a _ e r
theorem unlock_carry {S : Addr → Prop} {d : Addr} {xs : List (Key × V)} {od : Obj} (h : H d = some (.frz od (.dK xs))) : Carry K ι H S ι (L2.upd H d (.dK xs)) S := by
  have ne : ∀ a u, a ≠ d → Rd H a u → Rd (L2.upd H d (.dK xs)) a u := fun a u h r => by
    rcases r with r | ⟨z, r⟩
    · exact .inl (by rw [upd_ne h]; exact r)
    · exact .inr ⟨z, by rw [upd_ne h]; exact r⟩
  refine ⟨fun a ys r => ?_, fun a ys s r => ⟨?_, s⟩, fun a ys s r => ⟨?_, s⟩, fun _ _ h => h⟩
  · rcases r with r | r
    · exact .inl (ne a _ (fun e => by
        subst e
        rcases r with r | ⟨z, r⟩ <;> (rw [h] at r; cases r)) r)
    · exact .inr r
  · exact ne a _ (fun e => by
      subst e
      rcases r with r | ⟨z, r⟩ <;> (rw [h] at r; cases r)) r
  · by_cases e : a = d
    · subst e
      rcases r with r | ⟨z, r⟩
      · rw [h] at r; cases r
      · rw [h] at r; cases r; exact .inl upd_same
    · exact ne a _ e r
theorem StOk.lk (x : StOk G σ H env st ι O) {d : Addr} {xs : List (Key × V)} (h : H d = some (.dK xs)) (nd : d ∉ ι) : Lk G d xs := ⟨fun o e => by
    have z := x.base.keep d o e (fun m => nd (x.base.pre.subset m))
    rw [h] at z; cases z; rfl, x.base.live, fun m => nd (x.base.pre.subset m)⟩
theorem StoreOk.ofCarry (t : StoreOk K ι H st) (c : Carry K ι H (fun _ => False) ι H' (fun _ => False)) (k : ∀ a ∈ ι, ∀ o, H a = some o → H' a = some o) : StoreOk K ι H' st := ⟨t.len, t.nd, fun n so a h1 h2 => by
  have q := t.at_ n so a h1 h2
  have m := List.mem_of_getElem? h2
  cases so with
  | cell ds => obtain ⟨ys, e, h3, h4, h5⟩ := q; exact ⟨ys, k a m _ e, h3, h4, c.all.2.1 h5⟩
  | inst cl fs => obtain ⟨dx, vs, e, h3, h4, h5, h6, h7⟩ := q; exact ⟨dx, vs, k a m _ e, h3, h4, h5, h6, c.all.2.1 h7⟩⟩
theorem StOk.lock (x : StOk G σ H env st ι O) {d : Addr} {xs : List (Key × V)} (od : Obj) (h : H d = some (.dK xs)) (nd : d ∉ ι) (no : ∀ i, O i ≠ some d) (im : env.all Sl.immOw = true) : StOk (lockG G d (.frz od (.dK xs))) σ (L2.upd H d (.frz od (.dK xs))) env st ι O := by
  have k := x.lk h nd
  have cc : ∀ S : Addr → Prop, Carry G.K ι H S ι (L2.upd H d (.frz od (.dK xs))) S := fun S => lock_carry h
  have ni : ∀ a ∈ ι, a ≠ d := fun a m e => nd (e ▸ m)
  refine ⟨⟨fun a o e m => ?_, x.base.pre, fun a m => (x.base.new a m).imp id fun z => ?_, fun a m => ?_, x.base.store.ofCarry (cc _) (fun a m o e => by rw [upd_ne (ni a m)]; exact e), fun a q w e => ?_⟩, x.ln1, x.ln2, fun i => ?_, x.inj⟩
  · by_cases z : a = d
    · subst z
      have e' : (L2.upd G.H0 a (.frz od (.dK xs))) a = some o := e
      rw [upd_same] at e' ⊢
      exact e'
    · have e' : (L2.upd G.H0 d (.frz od (.dK xs))) a = some o := e
      rw [upd_ne z] at e' ⊢
      exact x.base.keep a o e' m
  · show (L2.upd G.H0 d _) a = none
    rw [upd_ne (ni a m)]; exact z
  · obtain ⟨o, e⟩ := k.live a m
    exact ⟨o, by show (L2.upd G.H0 d _) a = some o; rw [upd_ne (fun z => k.out (by rw [← z]; exact m))]; exact e⟩
  · by_cases z : a = d
    · subst z
      rw [upd_same] at e
      show (L2.upd G.H0 a _) a = _
      rw [upd_same]; exact e
    · rw [upd_ne z] at e
      show (L2.upd G.H0 d _) a = _
      rw [upd_ne z]; exact x.base.nf a q w e
  · have z := x.slot i
    cases e : env.getD i .un with
    | un => rw [e] at z; exact z
    | vl dd => rw [e] at z; obtain ⟨h1, u, h2, h3⟩ := z; exact ⟨h1, u, h2, (cc _).all.1 h3⟩
    | ow dd =>
      rw [e] at z
      obtain ⟨a, h1, h2, h3, h4, h5⟩ := z
      have na : a ≠ d := fun q => no i (q ▸ h1)
      refine ⟨a, h1, h2, by show (L2.upd G.H0 d _) a = none; rw [upd_ne na]; exact h3, h4, ?_⟩
      have hi : i < env.length := by
        by_cases q : i < env.length
        · exact q
        · rw [List.getD_eq_getElem?_getD, List.getElem?_eq_none (Nat.not_lt.mp q)] at e; cases e
      have me : Sl.ow dd ∈ env := by
        rw [List.getD_eq_getElem?_getD, List.getElem?_eq_getElem hi] at e
        exact e ▸ List.getElem_mem hi
      have iq := List.all_eq_true.mp im _ me
      cases dd with
      | lst ds => obtain ⟨ys, h6, h7, h8⟩ := h5; exact ⟨ys, by rw [upd_ne na]; exact h6, h7, ((cc (Mine G O ι)).all.2.1 h8).imm _ iq⟩
      | dct ds => obtain ⟨ys, h6, h7, h8⟩ := h5; exact ⟨ys, by rw [upd_ne na]; exact h6, h7, repks_imm ((cc (Mine G O ι)).all.2.2 h8) iq⟩
      | _ => exact h5.elim
theorem Step.unlock {H' : Hp} {d : Addr} {xs : List (Key × V)} {od : Obj} {H0 : Hp} {i0 : List Addr} (k0 : ∀ o, H0 d = some o → o = .dK xs) (k1 : ∀ a ∈ i0, ∃ o, H0 a = some o) (k2 : d ∉ i0) (s : Step K (L2.upd H0 d (.frz od (.dK xs))) i0 H' ι' st') :
    H' d = some (.frz od (.dK xs)) ∧ d ∉ ι' ∧ Step K H0 i0 (L2.upd H' d (.dK xs)) ι' st' := by
  have hd : H' d = some (.frz od (.dK xs)) := s.keep _ _ upd_same k2
  have nd : d ∉ ι' := s.out (o := .frz od (.dK xs)) upd_same k2
  have ni : ∀ a ∈ ι', a ≠ d := fun a m e => nd (e ▸ m)
  refine ⟨hd, nd, fun a o e m => ?_, s.pre, fun a m => (s.new a m).imp id fun z => ?_, k1, s.store.ofCarry (unlock_carry hd) (fun a m o e => by rw [upd_ne (ni a m)]; exact e), fun a q w e => ?_⟩
  · by_cases z : a = d
    · subst z
      rw [k0 o e, upd_same]
    · rw [upd_ne z]
      exact s.keep a o (by rw [upd_ne z]; exact e) m
  · rw [upd_ne (ni a m)] at z; exact z
  · by_cases z : a = d
    · subst z; rw [upd_same] at e; cases e
    · rw [upd_ne z] at e
      have q := s.nf a q w e
      rw [upd_ne z] at q
      exact q
theorem StOk.unlock {d : Addr} {xs : List (Key × V)} {od : Obj} (k : Lk G d xs) (x : StOk (lockG G d (.frz od (.dK xs))) σ H env st ι O) : H d = some (.frz od (.dK xs)) ∧ d ∉ ι ∧ (∀ i, O i ≠ some d) ∧ StOk G σ (L2.upd H d (.dK xs)) env st ι O := by
  obtain ⟨hd, nd, b⟩ := Step.unlock k.same k.live k.out x.base
  have no : ∀ i, O i ≠ some d := fun i e => by
    have z := (x.owned e).2.2
    have z' : (L2.upd G.H0 d (.frz od (.dK xs))) d = none := z
    rw [upd_same] at z'; cases z'
  have cc : ∀ S : Addr → Prop, Carry G.K ι H S ι (L2.upd H d (.dK xs)) S := fun S => unlock_carry hd
  refine ⟨hd, nd, no, b, x.ln1, x.ln2, fun i => ?_, x.inj⟩
  have z := x.slot i
  cases e : env.getD i .un with
  | un => rw [e] at z; exact z
  | vl dd => rw [e] at z; obtain ⟨h1, u, h2, h3⟩ := z; exact ⟨h1, u, h2, (cc _).all.1 h3⟩
  | ow dd =>
    rw [e] at z
    obtain ⟨a, h1, h2, h3, h4, h5⟩ := z
    have na : a ≠ d := fun q => no i (q ▸ h1)
    have mn : ∀ b, (L2.upd G.H0 d (.frz od (.dK xs))) b = none → G.H0 b = none := fun b q => by
      by_cases z : b = d
      · subst z; rw [upd_same] at q; cases q
      · rw [upd_ne z] at q; exact q
    have cm : Carry G.K ι H (Mine (lockG G d (.frz od (.dK xs))) O ι) ι (L2.upd H d (.dK xs)) (Mine G O ι) := by
      have c := cc (Mine (lockG G d (.frz od (.dK xs))) O ι)
      exact ⟨c.tup, fun a ys s r => ⟨(c.lst a ys s r).1, mn a s.1, s.2⟩, fun a ys s r => ⟨(c.dct a ys s r).1, mn a s.1, s.2⟩, c.obj⟩
    refine ⟨a, h1, h2, mn a h3, h4, ?_⟩
    cases dd with
    | lst ds => obtain ⟨ys, h6, h7, h8⟩ := h5; exact ⟨ys, by rw [upd_ne na]; exact h6, h7, cm.all.2.1 h8⟩
    | dct ds => obtain ⟨ys, h6, h7, h8⟩ := h5; exact ⟨ys, by rw [upd_ne na]; exact h6, h7, cm.all.2.2 h8⟩
    | _ => exact h5.elim
end
end Dl
end
section
set_option Elab.async false
set_option linter.all false
set_option maxRecDepth 100000
set_option maxHeartbeats 4000000
/-! Dl16: walks over a name, dicts among them. -/
namespace Dl
open PySem PySem.Spec PyProof.Rows L2
section
variable {X : Cx} {v : Bool} {K : PySem.W.Frag} {H H' H2 : Hp} {ι ι' ι2 : List Addr} {st st' st2 : Store} {Q : VK} {W : Wish} {G : Gs} {a b c e o : Expr} {es : List Expr} {A B C : Ev} {R : Av} {T U : Tv} {p pos pos' : Pos} {σ : L2.St} {x y : Str} {env : En} {O O' O2 : Own} {m : Bool} {tg iter : Expr} {Wv : Iv} {g : Tg} {S S2 : Sv} {s s2 : Stmt} {ss ss2 : List Stmt}
variable {px py p1 p2 p3 : Pos} {i j : Nat}
theorem PE.or {t t' : TE} (h : PE X e t) (h' : PE X e t') : PE X e fun σ H Q => t σ H Q ∨ t' σ H Q := ⟨fun pins s σ H Q I q => q.elim (h.run pins s σ H Q I) (h'.run pins s σ H Q I)⟩
theorem PS.or {t t' : TS} (h : PS X s t) (h' : PS X s t') : PS X s fun D σ H => t D σ H ∨ t' D σ H := ⟨fun pins s σ H Q I q => q.elim (h.run pins s σ H Q I) (h'.run pins s σ H Q I)⟩
theorem PI.or {t t' : TI} (h : PI X tg e t) (h' : PI X tg e t') : PI X tg e fun σ H R => t σ H R ∨ t' σ H R := ⟨fun pins s σ H Q I q => q.elim (h.run pins s σ H Q I) (h'.run pins s σ H Q I)⟩
/-- where a dict at i stands locked -/
def LkAt (σ : L2.St) (H : Hp) (env : En) (i : Nat) : Prop := ∀ kvs d, vlOf i env = some (.dct kvs) → σ[i]? = some (some (.ref d)) → ∃ od xs, H d = some (.frz od (.dK xs))
def DLk (X : Cx) (G : Gs) (m : Bool) (tg iter : Expr) (i : Nat) (Wv : Iv) : Prop := ∃ wi, PI X tg iter wi ∧ ∀ (G' : Gs) (W : Wish) (σ : L2.St) (H : Hp) (env : En) (st : Store) (ι : List Addr) (O : Own) (R : It → Hp → Prop), G'.K = G.K → StOk G' σ H env st ι O → LkAt σ H env i →
  (Wv st env).Sat W (fun ds st' => ∀ J H' ι', Step G'.K H ι H' ι' st' → Walk G'.K J ds m O H' ι' → R J H') → wi σ H R
theorem vl_of {d : D} (h : vlOf i env = some d) : env.getD i .un = .vl d := by
  unfold vlOf at h
  split at h
  · cases h; assumption
  · cases h
theorem vl_at {d : D} (x : StOk G σ H env st ι O) (h : vlOf i env = some d) : ∃ u, σ[i]? = some (some u) ∧ Rep G.K ι H (Clean O ι) u d := by
  have z := x.slot i
  rw [vl_of h] at z
  exact z.2
theorem kv_at {S : Addr → Prop} : ∀ {vs : List (Key × V)} {ds : List (Key × D)} {n : Nat} {k : Key} {u : V}, RepKs K ι H S vs ds → vs[n]? = some (k, u) → ∃ d, ds[n]? = some (k, d) ∧ Rep K ι H S u d
  | [], _, _, _, _, h, e => by cases h; simp at e
  | (k0, v) :: vs, _, 0, _, _, h, e => by cases h with | cons r _ => simp at e; obtain ⟨rfl, rfl⟩ := e; exact ⟨_, rfl, r⟩
  | (k0, v) :: vs, _, n + 1, _, _, h, e => by
    cases h with
    | cons _ t =>
      obtain ⟨u, h1, h2⟩ := kv_at (n := n) t (by simpa using e)
      exact ⟨u, by simpa using h1, h2⟩
theorem kv_rep {S : Addr → Prop} {k : Key} (h : keyOk k = true) : Rep K ι H S (kV k) (kD k) := by
  cases k with
  | inl i => exact .int i
  | inr x => exact .str x (by simpa [keyOk] using h)
theorem frz_kept {d : Addr} {od : Obj} {xs : List (Key × V)} (hd : H d = some (.frz od (.dK xs))) (nd : d ∉ ι) (no : ∀ i, O i ≠ some d) (s : LStep K (Loose m O) H ι H' ι' st') : H' d = some (.frz od (.dK xs)) := s.keep _ _ hd nd fun l => by
  obtain ⟨_, i, e⟩ := l
  exact no i e
theorem walk_keys {st0 : Store} {d : Addr} {od : Obj} {xs : List (Key × V)} {kvs : List (Key × D)} (t : StoreOk K ι H st0) (hd : H d = some (.frz od (.dK xs))) (c : Clean O ι d) (r : RepKs K ι H (Clean O ι) xs kvs) (ok : kvs.all (fun kv => keyOk kv.1) = true) :
    Walk K (Itk d od xs) (kvs.map fun kv => kD kv.1) m O H ι := by
  intro i H' ι' st' s
  have h := frz_kept hd c.2 c.1 s
  refine ⟨fun dd hdd => ?_, fun hi => ⟨h, by rw [List.length_map] at hi; rw [r.length]; exact hi⟩⟩
  rw [List.getElem?_map, Option.map_eq_some_iff] at hdd
  obtain ⟨kv, e1, rfl⟩ := hdd
  have hlt : i < xs.length := by rw [r.length]; exact (List.getElem?_eq_some_iff.mp e1).1
  refine ⟨⟨h, hlt⟩, fun y H'' hy => ?_⟩
  obtain ⟨rfl, k, w, e2, rfl⟩ := hy
  obtain ⟨d2, e3, _⟩ := kv_at r e2
  rw [e1] at e3; cases e3
  exact ⟨Step.refl s.store, kv_rep (List.all_eq_true.mp ok _ (List.mem_of_getElem? e1))⟩
theorem walk_vals {st0 : Store} {d : Addr} {od : Obj} {xs : List (Key × V)} {kvs : List (Key × D)} (t : StoreOk K ι H st0) (n : NoTup H m O) (hd : H d = some (.frz od (.dK xs))) (c : Clean O ι d) (r : RepKs K ι H (Clean O ι) xs kvs) : Walk K (Itd d od xs) (kvs.map (·.2)) m O H ι := by
  intro i H' ι' st' s
  have h := frz_kept hd c.2 c.1 s
  refine ⟨fun dd hdd => ?_, fun hi => ⟨h, by rw [List.length_map] at hi; rw [r.length]; exact hi⟩⟩
  rw [List.getElem?_map, Option.map_eq_some_iff] at hdd
  obtain ⟨kv, e1, rfl⟩ := hdd
  have hlt : i < xs.length := by rw [r.length]; exact (List.getElem?_eq_some_iff.mp e1).1
  refine ⟨⟨h, hlt⟩, fun y H'' hy => ?_⟩
  obtain ⟨rfl, k, e2⟩ := hy
  obtain ⟨d2, e3, r3⟩ := kv_at r e2
  rw [e1] at e3; cases e3
  exact ⟨Step.refl s.store, (item_carry t n s).all.1 r3⟩
theorem walk_items {st0 : Store} {d : Addr} {od : Obj} {xs : List (Key × V)} {kvs : List (Key × D)} (t : StoreOk K ι H st0) (n : NoTup H m O) (hd : H d = some (.frz od (.dK xs))) (c : Clean O ι d) (r : RepKs K ι H (Clean O ι) xs kvs) (ok : kvs.all (fun kv => keyOk kv.1) = true) :
    Walk K (Iti d od xs) (kvs.map fun kv => .tup [kD kv.1, kv.2]) m O H ι := by
  intro i H' ι' st' s
  have h := frz_kept hd c.2 c.1 s
  refine ⟨fun dd hdd => ?_, fun hi => ⟨h, by rw [List.length_map] at hi; rw [r.length]; exact hi⟩⟩
  rw [List.getElem?_map, Option.map_eq_some_iff] at hdd
  obtain ⟨kv, e1, rfl⟩ := hdd
  have hlt : i < xs.length := by rw [r.length]; exact (List.getElem?_eq_some_iff.mp e1).1
  refine ⟨⟨h, hlt⟩, fun y H'' hy => ?_⟩
  obtain ⟨T, k, w, e2, rfl, hT, rfl⟩ := hy
  obtain ⟨d2, e3, r3⟩ := kv_at r e2
  rw [e1] at e3; cases e3
  exact pair_step s.store hT (kv_rep (List.all_eq_true.mp ok _ (List.mem_of_getElem? e1))) ((item_carry t n s).all.1 r3) fun a h => h.1.2
theorem dl_var (hK : G.K = X.K) (hv : Vn X i x) : DLk X G m tg (.Name x px) i (iVar i) := by
  refine ⟨_, PI.or (pi_seq hv.pe) (PI.or (pi_str hv.pe) (pi_keys hv.pe)), fun G' W σ H env st ι O R eK xo lk q => ?_⟩
  unfold iVar at q
  cases e : vlOf i env with
  | none => rw [e] at q; exact q.elim
  | some d =>
    rw [e] at q
    obtain ⟨u, hu, r⟩ := vl_at xo e
    have nt : NoTup H m O := xo.noTup
    have s0 := Step.refl xo.base.store
    rw [← hK, ← eK]
    cases d with
    | tup ds => cases r with | tup h1 h2 h3 => exact .inl ⟨_, hu, _, rfl, .inr ⟨⟨_, h1⟩, q _ H ι s0 (walk_tup xo.base.store nt h1 h3)⟩⟩
    | lst ds => cases r with | lst h1 h2 h3 h4 => exact .inl ⟨_, hu, _, rfl, .inl ⟨⟨_, .inl h1⟩, q _ H ι s0 (walk_list xo.base.store nt h1 h2.2 (fun l => by obtain ⟨_, j, e⟩ := l; exact h2.1 j e) h4)⟩⟩
    | str z => cases r with | str _ hz => exact .inr (.inl ⟨_, hu, z, rfl, q _ H ι s0 (walk_str (st0 := st) z)⟩)
    | dct kvs =>
      cases r with
      | @dct a xs _ h1 h2 h3 h4 =>
        obtain ⟨od, ys, hl⟩ := lk kvs a e hu
        have exy : ys = xs := by
          rcases h1 with h1 | ⟨z, h1⟩ <;> (rw [hl] at h1; cases h1)
          rfl
        subst exy
        simp only [itemsOf] at q
        split at q
        · rename_i hok
          exact .inr (.inr ⟨_, hu, a, od, rfl, .inl ⟨ys, hl, q _ H ι s0 (walk_keys xo.base.store hl h2 h4 hok)⟩⟩)
        · exact q.elim
    | _ => exact q.elim
theorem dl_vals (hK : G.K = X.K) (hv : Vn X i x) (hline : (p1.endLine == p2.line) = true) : DLk X G m tg (.Call (.Attribute (.Name x px) "values" p1) [] [] p2) i (iVals i) := by
  refine ⟨_, pi_values hv.pe rfl hline, fun G' W σ H env st ι O R eK xo lk q => ?_⟩
  unfold iVals at q
  cases e : vlOf i env with
  | none => rw [e] at q; exact q.elim
  | some d =>
    rw [e] at q
    obtain ⟨u, hu, r⟩ := vl_at xo e
    have nt : NoTup H m O := xo.noTup
    have s0 := Step.refl xo.base.store
    cases d with
    | dct kvs =>
      cases r with
      | @dct a xs _ h1 h2 h3 h4 =>
        obtain ⟨od, ys, hl⟩ := lk kvs a e hu
        have exy : ys = xs := by
          rcases h1 with h1 | ⟨z, h1⟩ <;> (rw [hl] at h1; cases h1)
          rfl
        subst exy
        exact ⟨_, hu, a, od, ys, rfl, hl, q _ H ι s0 (walk_vals xo.base.store nt hl h2 h4)⟩
    | _ => exact q.elim
theorem dl_items {elts : List Expr} {kk : Nat} {tpos : Pos} (hK : G.K = X.K) (hv : Vn X i x) (hline : (p1.endLine == p2.line) = true) : DLk X G m (.Tuple elts kk tpos) (.Call (.Attribute (.Name x px) "items" p1) [] [] p2) i (iItems i) := by
  refine ⟨_, pi_items hv.pe rfl hline, fun G' W σ H env st ι O R eK xo lk q => ?_⟩
  unfold iItems at q
  cases e : vlOf i env with
  | none => rw [e] at q; exact q.elim
  | some d =>
    rw [e] at q
    obtain ⟨u, hu, r⟩ := vl_at xo e
    have nt : NoTup H m O := xo.noTup
    have s0 := Step.refl xo.base.store
    cases d with
    | dct kvs =>
      cases r with
      | @dct a xs _ h1 h2 h3 h4 =>
        obtain ⟨od, ys, hl⟩ := lk kvs a e hu
        have exy : ys = xs := by
          rcases h1 with h1 | ⟨z, h1⟩ <;> (rw [hl] at h1; cases h1)
          rfl
        subst exy
        simp only at q
        split at q
        · rename_i hok
          exact ⟨_, hu, a, od, ys, rfl, hl, q _ H ι s0 (walk_items xo.base.store nt hl h2 h4 hok)⟩
        · exact q.elim
    | _ => exact q.elim
/-- how the dict at i stands: there is none, it is locked, or it may be locked -/
theorem lk_cases (x : StOk G σ H env st ι O) (i : Nat) : LkAt σ H env i ∨ ∃ kvs d xs, vlOf i env = some (.dct kvs) ∧ σ[i]? = some (some (.ref d)) ∧ H d = some (.dK xs) ∧ Clean O ι d := by
  cases e : vlOf i env with
  | none => exact .inl fun kvs d z => by rw [e] at z; cases z
  | some dd =>
    cases dd with
    | dct kvs =>
      obtain ⟨u, hu, r⟩ := vl_at x e
      cases r with
      | @dct a xs _ h1 h2 h3 h4 =>
        rcases h1 with h1 | ⟨od, h1⟩
        · exact .inr ⟨kvs, a, xs, rfl, hu, h1, h2⟩
        · refine .inl fun kvs d z hd => ⟨od, xs, ?_⟩
          rw [hu] at hd; cases hd; exact h1
    | _ => exact .inl fun kvs d z => by rw [e] at z; cases z
theorem lcV_reads {wi : TI} (hK : G.K = X.K) (hn : ∀ i ∈ g.slots, i < G.n)
    (h2 : ∀ (G' : Gs) (W : Wish) (σ : L2.St) (H : Hp) (env : En) (st : Store) (ι : List Addr) (O : Own) (R : It → Hp → Prop), G'.K = G.K → StOk G' σ H env st ι O → LkAt σ H env i →
      (Wv st env).Sat W (fun ds st' => ∀ J H' ι', Step G'.K H ι H' ι' st' → Walk G'.K J ds false O H' ι' → R J H') → wi σ H R)
    (h : tE G W true (eLcV i Wv g T A) σ H Q) : tLc wi (tgR G.K g) (tT G NoW T) (tE G NoW true A) g.slots σ H Q ∨ ∃ d u, H d = some u ∧ Mut (some u) ∧ ∀ od, ∃ G' : Gs, G'.K = G.K ∧ G'.n = G.n ∧
      tLc wi (tgR G.K g) (tT G' NoW T) (tE G' NoW true A) g.slots σ (L2.upd H d (.frz od u)) fun v H' => H' d = some (.frz od u) ∧ Q v (L2.upd H' d u) := by
  obtain ⟨env, st, ι, O, x, q⟩ := h
  unfold eLcV at q
  split at q
  · rename_i hlk
    obtain ⟨O0, hO, x0⟩ := StOk.frz [i] x
    rcases lk_cases x0 i with lk | ⟨kvs, d, xs, e1, e2, e3, e4⟩
    · exact .inl (lc_reads hK hn ⟨_, st, ι, O0, x0, fun R => h2 G W σ H _ st ι O0 R rfl x0 lk, q⟩)
    · refine .inr ⟨d, .dK xs, e3, trivial, fun od => ⟨lockG G d (.frz od (.dK xs)), rfl, rfl, ?_⟩⟩
      have im : (frz [i] env).all Sl.immOw = true := by
        unfold lockOk at hlk
        rw [e1] at hlk
        simpa [isDct] using hlk
      have x1 := x0.lock od e3 e4.2 e4.1 im
      refine lc_reads (G := lockG G d (.frz od (.dK xs))) (W := W) hK hn ⟨_, st, ι, O0, x1, fun R => h2 _ W σ _ _ st ι O0 R rfl x1 fun kvs' d' z1 z2 => ⟨od, xs, ?_⟩, q.mono fun dd st' k u H' ι' s r => ?_⟩
      · rw [e2] at z2; cases z2; exact upd_same
      · have k0 : ∀ o, H d = some o → o = .dK xs := fun o z => by rw [e3] at z; cases z; rfl
        obtain ⟨hd, nd, s'⟩ := Step.unlock k0 (fun a m => x0.base.store.live m) e4.2 s
        refine ⟨hd, k u _ ι' s' ?_⟩
        have c := unlock_carry (K := G.K) (ι := ι') (S := Kind true (L2.upd H d (.frz od (.dK xs))) ι') hd
        refine (c.all.1 r).weaken fun a n _ => ⟨?_, n.2⟩
        have z : (L2.upd H d (.frz od (.dK xs))) a = none := n.1
        by_cases ea : a = d
        · subst ea; rw [upd_same] at z; cases z
        · rw [upd_ne ea] at z; exact z
  · exact q.elim
theorem de_lcV {elt : Expr} {ifs : List Expr} {scope : Scope} {own : List (Str × Nat)} (hK : G.K = X.K) (hc : X.calm = true) (hN : X.N.Nodup) (hn : ∀ i ∈ g.slots, i < G.n) (hi : DLk X G false tg iter i Wv) (ok : BlkOk X.N X.env.scope scope own) (ho : own.map (·.2) = g.slots)
    (hg : ∀ (s : Shared) (H : Hp) (C : Addr) (cl : List (Str × Addr)) (fp : List Addr), PG (X.blk s H scope (compEnvC scope cl C X.env) fp) tg (tgR G.K g))
    (ht : ∀ G' : Gs, G'.K = G.K → G'.n = G.n → ∀ (s : Shared) (H : Hp) (C : Addr) (cl : List (Str × Addr)) (fp : List Addr), PTs (X.blk s H scope (compEnvC scope cl C X.env) fp) ifs (tT G' NoW T))
    (he : ∀ G' : Gs, G'.K = G.K → G'.n = G.n → ∀ (s : Shared) (H : Hp) (C : Addr) (cl : List (Str × Addr)) (fp : List Addr), PE (X.blk s H scope (compEnvC scope cl C X.env) fp) elt (tE G' NoW true A)) (hs : ∀ x, foldedSetIterable iter X.env x = pure x) :
    PE X (.ListComp elt [⟨tg, iter, ifs, 0⟩] scope pos) (tE G W v (eLcV i Wv g T A)) := by
  obtain ⟨wi, h1, h2⟩ := hi
  have p1 := pe_lc (pos := pos) hc hN h1 ok hg (ht G rfl rfl) (he G rfl rfl) hs
  have p2 : PE X (.ListComp elt [⟨tg, iter, ifs, 0⟩] scope pos) (fun σ H Q => ∃ G' : Gs, G'.K = G.K ∧ G'.n = G.n ∧ tLc wi (tgR G.K g) (tT G' NoW T) (tE G' NoW true A) (own.map (·.2)) σ H Q) := ⟨fun pins s σ H Q I ⟨G', e1, e2, q⟩ => (pe_lc (pos := pos) hc hN h1 ok hg (ht G' e1 e2) (he G' e1 e2) hs).run pins s σ H Q I q⟩
  refine de_new (pe_weak (PE.or p1 (pe_lock p2)) fun σ H Q h => ?_)
  rw [ho]
  rcases lcV_reads hK hn h2 h with q | ⟨d, u, e1, e2, q⟩
  · exact .inl q
  · refine .inr ⟨d, u, e1, e2, fun od => ?_⟩
    obtain ⟨G', g1, g2, q⟩ := q od
    exact ⟨G', g1, g2, q⟩
theorem ds_setLcV {j : Nat} {elt : Expr} {ifs : List Expr} {scope : Scope} {own : List (Str × Nat)} {spos : Pos} (hK : G.K = X.K) (hnn : G.n = X.N.length) (hc : X.calm = true) (hN : X.N.Nodup) (hy : X.N[j]? = some y) (hyl : X.env.scope.names.lookup y = some .local)
    (hsw : swapsWith (.ListComp elt [⟨tg, iter, ifs, 0⟩] scope pos) (some (.Name y pos')) spos.line X.env = pure true) (hn : ∀ i ∈ g.slots, i < G.n) (hi : DLk X G false tg iter i Wv) (ok : BlkOk X.N X.env.scope scope own) (ho : own.map (·.2) = g.slots)
    (hg : ∀ (s : Shared) (H : Hp) (C : Addr) (cl : List (Str × Addr)) (fp : List Addr), PG (X.blk s H scope (compEnvC scope cl C X.env) fp) tg (tgR G.K g))
    (ht : ∀ G' : Gs, G'.K = G.K → G'.n = G.n → ∀ (s : Shared) (H : Hp) (C : Addr) (cl : List (Str × Addr)) (fp : List Addr), PTs (X.blk s H scope (compEnvC scope cl C X.env) fp) ifs (tT G' NoW T))
    (he : ∀ G' : Gs, G'.K = G.K → G'.n = G.n → ∀ (s : Shared) (H : Hp) (C : Addr) (cl : List (Str × Addr)) (fp : List Addr), PE (X.blk s H scope (compEnvC scope cl C X.env) fp) elt (tE G' NoW true A)) (hs : ∀ x, foldedSetIterable iter X.env x = pure x) :
    PS X (.Assign [.Name y pos'] (.ListComp elt [⟨tg, iter, ifs, 0⟩] scope pos) spos) (tS G W (sSet j (eLcV i Wv g T A))) := by
  obtain ⟨wi, h1, h2⟩ := hi
  have p1 := ps_setLc hc hN hy hyl hsw h1 ok hg (ht G rfl rfl) (he G rfl rfl) hs
  have p2 : PS X (.Assign [.Name y pos'] (.ListComp elt [⟨tg, iter, ifs, 0⟩] scope pos) spos) (fun D σ H => ∃ G' : Gs, G'.K = G.K ∧ G'.n = G.n ∧ tLc wi (tgR G.K g) (tT G' NoW T) (tE G' NoW true A) (own.map (·.2)) σ H fun u H1 => gName j u σ H1 D.nx) := ⟨fun pins s σ H D I ⟨G', e1, e2, q⟩ => (ps_setLc hc hN hy hyl hsw h1 ok hg (ht G' e1 e2) (he G' e1 e2) hs).run pins s σ H D I q⟩
  refine ps_weak (PS.or p1 (ps_lock p2)) fun D σ H h => ?_
  rw [ho]
  rcases lcV_reads hK hn h2 (set_reads (ix_lt hnn hy) h) with q | ⟨d, u, e1, e2, q⟩
  · exact .inl q
  · refine .inr ⟨d, u, e1, e2, fun od => ?_⟩
    obtain ⟨G', g1, g2, q⟩ := q od
    exact ⟨G', g1, g2, q⟩
theorem frz_idem (i : Nat) (env : En) : frz [i] (frz [i] env) = frz [i] env := by
  have h : ∀ env : En, frz [i] env = match env.getD i .un with
    | .ow d => env.set i (.vl d)
    | _ => env := fun env => by
      unfold frz
      rw [List.foldl_cons, List.foldl_nil]
      all_goals (cases env.getD i .un <;> rfl)
  cases e : env.getD i .un with
  | ow d =>
    have e1 : frz [i] env = env.set i (.vl d) := by rw [h, e]
    rw [e1, h]
    have hi : i < env.length := by
      by_cases q : i < env.length
      · exact q
      · rw [List.getD_eq_getElem?_getD, List.getElem?_eq_none (Nat.not_lt.mp q)] at e; cases e
    have e2 : (env.set i (.vl d)).getD i .un = .vl d := by rw [getD_set, if_pos ⟨rfl, hi⟩]
    rw [e2]
  | un =>
    have e1 : frz [i] env = env := by rw [h, e]
    rw [e1, e1]
  | vl d =>
    have e1 : frz [i] env = env := by rw [h, e]
    rw [e1, e1]
theorem ssat_calm {D : Ends} {z : SOut} (h : SSat G W H ι O D z.calm) : SSat G W H ι O D z := by
  cases z <;> first | exact h | exact (show False from h).elim
/-- the ends of a statement that runs while the dict at d is locked -/
def lockD (D : Ends) (d : Addr) (od : Obj) (u : HO) : Ends := ⟨fun σ' H' => H' d = some (.frz od u) ∧ D.nx σ' (L2.upd H' d u), fun v H' => H' d = some (.frz od u) ∧ D.rt v (L2.upd H' d u), fun σ' H' => H' d = some (.frz od u) ∧ D.bk σ' (L2.upd H' d u), fun σ' H' => H' d = some (.frz od u) ∧ D.ct σ' (L2.upd H' d u)⟩
theorem nx_lock {d : Addr} {xs : List (Key × V)} {od : Obj} {P : L2.St → Hp → Prop} (k : Lk G d xs) (hd : H d = some (.dK xs)) (h : Nx G H ι O st' env P) : Nx (lockG G d (.frz od (.dK xs))) (L2.upd H d (.frz od (.dK xs))) ι O st' env (fun σ' H' => H' d = some (.frz od (.dK xs)) ∧ P σ' (L2.upd H' d (.dK xs))) := fun σ' H' ι' O' r x => by
  obtain ⟨h1, h2, h3, x'⟩ := StOk.unlock k x
  have ni : ∀ a ∈ ι', a ≠ d := fun a m e => h2 (e ▸ m)
  refine ⟨h1, h σ' _ ι' O' ⟨⟨fun a o e m l => ?_, r.ls.pre, fun a m => (r.ls.new a m).imp id fun z => ?_, x'.base.store⟩, fun i b e => (r.own i b e).imp id fun z => ?_, fun a o e => ?_⟩ x'⟩
  · by_cases q : a = d
    · subst q; rw [upd_same, ← hd]; exact e
    · rw [upd_ne q]; exact r.ls.keep a o (by rw [upd_ne q]; exact e) m l
  · rw [upd_ne (ni a m)] at z; exact z
  · by_cases q : b = d
    · subst q; rw [upd_same] at z; cases z
    · rw [upd_ne q] at z; exact z
  · by_cases q : a = d
    · subst q; exact ⟨_, upd_same ..⟩
    · obtain ⟨o', e'⟩ := r.all a o (by rw [upd_ne q]; exact e)
      exact ⟨o', by rw [upd_ne q]; exact e'⟩
theorem ssat_lock {D : Ends} {z : SOut} {d : Addr} {xs : List (Key × V)} {od : Obj} (k : Lk G d xs) (hd : H d = some (.dK xs)) (h : SSat G W H ι O D z.calm) : SSat (lockG G d (.frz od (.dK xs))) NoW (L2.upd H d (.frz od (.dK xs))) ι O (lockD D d od (.dK xs)) z := by
  cases z with
  | nx st' env' => exact nx_lock k hd h
  | bk st' env' => exact nx_lock k hd h
  | ct st' env' => exact nx_lock k hd h
  | ex e st' => exact (show False from h).elim
  | bad => exact (show False from h).elim
  | rt v st' =>
    intro u H' ι' s r
    obtain ⟨hd', nd, s'⟩ := Step.unlock k.same k.live k.out s
    refine ⟨hd', h u _ ι' s' ?_⟩
    have c := unlock_carry (K := G.K) (ι := ι') (S := NewA (L2.upd G.H0 d (.frz od (.dK xs))) ι') hd'
    refine (c.all.1 r).weaken fun a n _ => ⟨?_, n.2⟩
    have z : (L2.upd G.H0 d (.frz od (.dK xs))) a = none := n.1
    by_cases ea : a = d
    · subst ea; rw [upd_same] at z; cases z
    · rw [upd_ne ea] at z; exact z
theorem ds_forV (hK : G.K = X.K) (hp : PassesOwn (model X.prog X.w) X.A X.env X.xe) (hc : X.calm = true) (hn : ∀ i ∈ g.slots, i < G.n) (hi : DLk X G true tg iter i Wv) (hg : PG X tg (tgR G.K g)) (hb : PSs X ss (tS G W S)) (hb' : ∀ G' : Gs, G'.K = G.K → G'.n = G.n → PSs X ss (tS G' NoW S))
    (hs : ∀ x, foldedSetIterable iter X.env x = pure x) : PS X (.For tg iter ss [] pos) (tS G W (sForV i Wv g S)) := by
  obtain ⟨wi, h1, h2⟩ := hi
  have p1 := ps_for (pos := pos) hp hc h1 hg hb hs
  have p2 : PS X (.For tg iter ss [] pos) (fun D σ H => ∃ G' : Gs, G'.K = G.K ∧ G'.n = G.n ∧ tFor wi (tgR G.K g) (tS G' NoW S) D σ H) := ⟨fun pins s σ H D I ⟨G', e1, e2, q⟩ => (ps_for (pos := pos) hp hc h1 hg (hb' G' e1 e2) hs).run pins s σ H D I q⟩
  refine ps_weak (PS.or p1 (ps_lock p2)) fun D σ H ⟨env, st, ι, O, x, q⟩ => ?_
  obtain ⟨O0, hO, x0⟩ := StOk.frz [i] x
  have q0 : SSat G W H ι O0 D (sForV i Wv g S st env) := SSat.shift ((SRel.of_step (Step.refl x.base.store)).sub hO) q
  have ef : sFor [i] Wv g S st (frz [i] env) = sFor [i] Wv g S st env := by unfold sFor; rw [frz_idem]
  have x0' : StOk G σ H (frz [i] (frz [i] env)) st ι O0 := by rw [frz_idem]; exact x0
  have fin : LkAt σ H (frz [i] env) i → SSat G W H ι O0 D (sFor [i] Wv g S st env) → tFor wi (tgR G.K g) (tS G W S) D σ H := fun lk q1 =>
    for_reads hn ⟨frz [i] env, st, ι, O0, O0, x0, x0', fun _ _ h => h, fun R => by rw [frz_idem]; exact h2 G W σ H _ st ι O0 R rfl x0 lk, by rw [ef]; exact q1⟩
  unfold sForV at q0
  rcases lk_cases x0 i with lk | ⟨kvs, d, xs, e1, e2, e3, e4⟩
  · refine .inl (fin lk ?_)
    split at q0
    · split at q0
      · exact ssat_calm q0
      · exact q0.elim
    · exact q0
  · have hdc : isDct (vlOf i (frz [i] env)) = true := by rw [e1]; rfl
    rw [if_pos hdc] at q0
    split at q0
    · rename_i hlk
      refine .inr ⟨d, .dK xs, e3, trivial, fun od => ⟨lockG G d (.frz od (.dK xs)), rfl, rfl, ?_⟩⟩
      have im : (frz [i] env).all Sl.immOw = true := by
        unfold lockOk at hlk
        rw [hdc] at hlk
        simpa using hlk
      have x1 := x0.lock od e3 e4.2 e4.1 im
      have x1' : StOk (lockG G d (.frz od (.dK xs))) σ (L2.upd H d (.frz od (.dK xs))) (frz [i] (frz [i] env)) st ι O0 := by rw [frz_idem]; exact x1
      refine for_reads (G := lockG G d (.frz od (.dK xs))) (W := NoW) hn ⟨frz [i] env, st, ι, O0, O0, x1, x1', fun _ _ h => h, fun R => by
        rw [frz_idem]
        exact h2 _ NoW σ _ _ st ι O0 R rfl x1 fun kvs' d' z1 z2 => ⟨od, xs, by rw [e2] at z2; cases z2; exact upd_same⟩, ?_⟩
      rw [ef]
      exact ssat_lock (x0.lk e3 e4.2) e3 q0
    · exact q0.elim
end
end Dl
end
section
set_option Elab.async false
set_option linter.all false
set_option maxRecDepth 100000
set_option maxHeartbeats 4000000
/-! Dl17: from the text to the meaning, with its proof: the context, what each form asks. -/
namespace Dl
open PySem PySem.Spec PyProof.Rows L2
/-! ### what a form asks of its parts, looked up in the text -/
def notStar : Expr → Bool
  | .Starred .. => false
  | _ => true
def noComp : Expr → Bool
  | .ListComp .. => false
  | .SetComp .. => false
  | .DictComp .. => false
  | _ => true
def noSet : Expr → Bool
  | .Set .. => false
  | _ => true
def plainT : Expr → Bool
  | .UnaryOp .Not _ _ => false
  | .BoolOp .. => false
  | .IfExp .. => false
  | .Compare .. => false
  | _ => true
def noCall0 : Expr → Bool
  | .Call .. => false
  | _ => true
theorem star_ns {a : Expr} {es : List Expr} {env : Env} (h : notStar a = true) : starEach (a :: es) env = (false, eval a env) :: starEach es env := by
  cases a <;> first | rfl | simp [notStar] at h
theorem star_any {env : Env} {pos : Pos} : ∀ {es : List Expr}, es.all notStar = true → (backTo pos (starEach es env)).any (·.1) = false
  | [], _ => rfl
  | a :: es, h => by
    rw [List.all_cons, Bool.and_eq_true] at h
    rw [star_ns h.1]
    show (false || (backTo pos (starEach es env)).any (·.1)) = false
    rw [Bool.false_or]
    exact star_any h.2
theorem swaps_no {e : Expr} {t : Option Expr} {n : Nat} {env : Env} (h : noComp e = true) : swapsWith e t n env = pure false := by
  cases e <;> first | rfl | simp [noComp] at h
theorem swaps_sole {e t : Expr} {n : Nat} {env : Env} (h : noComp e = true) : swapsWithSole [t] e n env = pure false := swaps_no h
theorem behind_no {e : Expr} {op : CmpOp} (h : noSet e = true) : behindInMarks op e = false := by
  cases e <;> first | rfl | simp [noSet] at h
theorem marks2_no {b c : Expr} {op op' : CmpOp} (h : noSet c = true) : lastMarks [op, op'] [b, c] = false := behind_no h
theorem folded_no {e : Expr} {env : Env} (h : noSet e = true) (x : Value) : foldedSetIterable e env x = pure x := by
  cases e <;> first | rfl | simp [noSet] at h
theorem test_plain {e : Expr} {env : Env} (h : plainT e = true) (whole : Sem Value) : isTrue e env whole = (do let v ← whole; standAt e.pos; holding [v] (truthy v)) := by
  cases e with
  | UnaryOp op a p => cases op <;> first | rfl | simp [plainT] at h
  | BoolOp => simp [plainT] at h
  | IfExp => simp [plainT] at h
  | Compare => simp [plainT] at h
  | _ => rfl
theorem attr_no {o : Expr} {m : Str} {env : Env} (h : noCall0 o = true) : attributeBase o m env (eval o env) = eval o env := by
  cases o <;> first | rfl | simp [noCall0] at h
def noSlice : Expr → Bool
  | .Slice .. => false
  | _ => true
theorem plain_ix {b : Expr} (h : noSlice b = true) : PlainIx b := fun o i => by
  cases b <;> first | rfl | simp [noSlice] at h
/-! ### the context -/
structure Cf where
  N : List Str
  sc : Scope
  free : List Str
  fns : List (Str × Fn)
  cons : List (Str × D)
  excs : List Str
  lvl : Nat
  cell : Bool
  fnq : Str → Bool
structure FnHere (X : Cx) (k : Nat) (x : Str) (F : Fn) : Prop where
  ex : ∃ (f : Addr) (fd : FuncData) (ps : List Str), FnOk X.prog X.w X.K X.mg X.base (L2.CX X.prog X.w) k f fd ps (spD X.K F) ∧ X.mg x = some (.ref f) ∧ PySem.W.keepIn X.K (.ref f) = true ∧ Binds X.K fd ps []
structure CfOk (cf : Cf) (X : Cx) (G : Gs) (W : Wish) : Prop where
  K : G.K = X.K
  n : G.n = X.N.length
  N : X.N = cf.N
  nd : X.N.Nodup
  calm : X.calm = true
  sc : X.env.scope = cf.sc
  fn : ∀ x, cf.fnq x = true → X.fn x = true
  room : Room (cf.lvl + 1) X.A
  tk : Takes X fun cls d _ H => XW G W cls d H
  free : ∀ x ∈ cf.free, X.mg x = none
  fns : ∀ x F, (x, F) ∈ cf.fns → FnHere X (cf.lvl + 1) x F
  cons : ∀ x d, (x, d) ∈ cf.cons → ∃ u w, X.mg x = some w ∧ RelV u w ∧ ∀ (H : Hp) (ι : List Addr), Rep X.K ι H (fun _ => False) u d
/-- .. of a def's own statements -/
structure CfS (cf : Cf) (X : Cx) (G : Gs) (W : Wish) : Prop where
  base : CfOk cf X G W
  hp : PassesOwn (model X.prog X.w) X.A X.env X.xe
  excs : ∀ x ∈ cf.excs, ∀ (m : Str) (j : Nat) (p p2 pos : Pos), Gl X x → (x == ("__debug__" : Str)) = false → PMk X (.Call (.Name x p) [.Constant (.str m) j p2] [] pos) (fun _ H Q => Q (.ref (He.ga X.K x)) none H)
def Cf.blk (cf : Cf) (scope : Scope) : Cf := { cf with sc := relS scope cf.sc, fnq := fun x => scope.names.lookup x == some .cell }
theorem xw_no {G : Gs} : (XW G NoW) = fun _ _ _ => False := by
  funext cls d H
  apply propext
  constructor
  · rintro ⟨_, _, _, h, _⟩; exact h
  · exact False.elim
theorem takes_no {X : Cx} {G : Gs} : Takes X fun cls d _ H => XW G NoW cls d H := by
  have h : (fun (cls : Value) (d : Option Addr) (_ : L2.St) (H : Hp) => XW G NoW cls d H) = fun _ _ _ _ => False := by
    funext cls d _ H
    rw [xw_no]
  rw [h]
  exact L2.takes0
section
variable {X : Cx} {G : Gs} {W : Wish} {cf : Cf}
theorem CfOk.noW (c : CfOk cf X G W) (G' : Gs) (hK : G'.K = G.K) (hn : G'.n = G.n) : CfOk cf X G' NoW := ⟨hK.trans c.K, hn.trans c.n, c.N, c.nd, c.calm, c.sc, c.fn, c.room, takes_no, c.free, c.fns, c.cons⟩
theorem CfS.noW (c : CfS cf X G W) (G' : Gs) (hK : G'.K = G.K) (hn : G'.n = G.n) : CfS cf X G' NoW := ⟨c.base.noW G' hK hn, c.hp, c.excs⟩
theorem relS_eq {scope : Scope} {env : Env} : (compEnvC scope [] 0 env).scope = relS scope env.scope := rfl
theorem CfOk.blk (c : CfOk cf X G W) (scope : Scope) (G' : Gs) (hK : G'.K = G.K) (hn : G'.n = G.n) (s : Shared) (H : Hp) (C : Addr) (cl : List (Str × Addr)) (fp : List Addr) : CfOk (cf.blk scope) (X.blk s H scope (compEnvC scope cl C X.env) fp) G' NoW := by
  have hs : (compEnvC scope cl C X.env).scope = relS scope cf.sc := by rw [← c.sc]; rfl
  exact ⟨hK.trans c.K, hn.trans c.n, c.N, c.nd, c.calm, hs, fun x h => h, c.room, takes_no, c.free, fun x F m => ⟨(c.fns x F m).ex⟩, c.cons⟩
/-! ### names -/
def isLoc (sc : Scope) (x : Str) : Bool := match sc.names.lookup x with
  | some .local => true
  | some .cell => true
  | _ => false
def isVis (sc : Scope) (x : Str) : Bool := match sc.names.lookup x with
  | some .local => true
  | some .cell => true
  | some .free => true
  | _ => false
def isGl (sc : Scope) (x : Str) : Bool := match sc.names.lookup x with
  | some .globalImplicit => true
  | _ => false
def okNm (x : Str) : Bool := !(x == ("__debug__" : Str)) && !(x == ("__classdict__" : Str))
theorem okNm_db {x : Str} (h : okNm x = true) : (x == ("__debug__" : Str)) = false ∧ (x == ("__classdict__" : Str)) = false := by
  unfold okNm at h
  rw [Bool.and_eq_true, Bool.not_eq_true', Bool.not_eq_true'] at h
  exact h
theorem loc_of (c : CfOk cf X G W) {x : Str} (h : isLoc cf.sc x = true) : Loc X.env.scope x := by
  rw [c.sc]
  unfold isLoc at h
  split at h
  · rename_i e; exact .inl e
  · rename_i e; exact .inr e
  · cases h
theorem vis_of (c : CfOk cf X G W) {x : Str} (h : isVis cf.sc x = true) : Vis X.env.scope x := by
  rw [c.sc]
  unfold isVis at h
  split at h
  · rename_i e; exact .inl e
  · rename_i e; exact .inr (.inl e)
  · rename_i e; exact .inr (.inr e)
  · cases h
theorem gl_of (c : CfOk cf X G W) {x : Str} (h : isGl cf.sc x = true) : Gl X x := by
  show X.env.scope.names.lookup x = _
  rw [c.sc]
  unfold isGl at h
  split at h
  · assumption
  · cases h
/-- the place of a name -/
def ixOf (N : List Str) (x : Str) : Option {i : Nat // N[i]? = some x} := go N 0 N rfl
where go (N : List Str) (k : Nat) : (r : List Str) → N.drop k = r → Option {i : Nat // N[i]? = some x}
  | [], _ => none
  | y :: r, h => if e : y = x then some ⟨k, by
      have q : (N.drop k)[0]? = some y := by rw [h]; rfl
      rw [List.getElem?_drop] at q
      rw [← e]; simpa using q⟩ else go N (k + 1) r (by
      have q : (N.drop k).drop 1 = r := by rw [h]; rfl
      rw [List.drop_drop] at q
      exact q)
/-- found in a list of pairs -/
def findS {α : Type} : (l : List (Str × α)) → (x : Str) → Option {a : α // (x, a) ∈ l}
  | [], _ => none
  | (y, a) :: r, x => if e : y = x then some ⟨a, by rw [e]; exact List.mem_cons_self⟩ else (findS r x).map fun p => ⟨p.1, List.mem_cons_of_mem _ p.2⟩
theorem vn_of (c : CfOk cf X G W) {x : Str} {i : Nat} (h : cf.N[i]? = some x) (hv : isVis cf.sc x = true) (ho : okNm x = true) : Vn X i x := ⟨by rw [c.N]; exact h, vis_of c hv, (okNm_db ho).1, (okNm_db ho).2⟩
theorem slot_lt (c : CfOk cf X G W) {x : Str} {i : Nat} (h : cf.N[i]? = some x) : i < G.n := ix_lt c.n (by rw [c.N]; exact h)
end
end Dl
end
section
set_option Elab.async false
set_option linter.all false
set_option maxRecDepth 100000
set_option maxHeartbeats 4000000
/-! Dl18: from the text to the meaning: expressions. Each meaning goes with its proof. -/
namespace Dl
open PySem PySem.Spec PyProof.Rows L2
structure SE (cf : Cf) (e : Expr) where
  v : Bool
  A : Ev
  ok : ∀ {X : Cx} {G : Gs} {W : Wish}, CfOk cf X G W → PE X e (tE G W v A)
structure ST (cf : Cf) (e : Expr) where
  T : Tv
  ok : ∀ {X : Cx} {G : Gs} {W : Wish}, CfOk cf X G W → PT X e (tT G W T)
structure SW (cf : Cf) (e : Expr) where
  T : Tv
  ok : ∀ {X : Cx} {G : Gs} {W : Wish}, CfOk cf X G W → PW X e (tT G W T)
structure SA (cf : Cf) (v : Bool) (es : List Expr) where
  R : Av
  ok : ∀ {X : Cx} {G : Gs} {W : Wish}, CfOk cf X G W → PA X es (tA G W v R)
structure SP (cf : Cf) (e : Option Expr) where
  P : Pv
  ok : ∀ {X : Cx} {G : Gs} {W : Wish}, CfOk cf X G W → PO X e (tP G W P)
/-- a target of a block's or a loop's -/
structure SG (cf : Cf) (tg : Expr) where
  g : Tg
  nm : List (Str × Nat)
  own : nm.map (·.2) = g.slots
  lt : ∀ i ∈ g.slots, i < cf.N.length
  ok : ∀ {X : Cx} {G : Gs} {W : Wish}, CfOk cf X G W → PG X tg (tgR G.K g)
/-- what is walked -/
structure SI (cf : Cf) (m : Bool) (tg iter : Expr) where
  Wv : Iv
  is : List Nat
  ok : ∀ {X : Cx} {G : Gs} {W : Wish}, CfOk cf X G W → DI X G W m tg iter Wv
structure SL (cf : Cf) (m : Bool) (tg iter : Expr) where
  i : Nat
  Wv : Iv
  ok : ∀ {X : Cx} {G : Gs} {W : Wish}, CfOk cf X G W → DLk X G m tg iter i Wv
structure SO' (cf : Cf) (m : Bool) (e : Expr) where
  A : Ev
  is : List Nat
  ok : ∀ {X : Cx} {G : Gs} {W : Wish}, CfOk cf X G W → PE X e (tO G W m A)
/-- a comprehension -/
structure SC (cf : Cf) (elt tg iter : Expr) (ifs : List Expr) (scope : Scope) where
  A : Ev
  de : ∀ {X : Cx} {G : Gs} {W : Wish} (v : Bool) (pos : Pos), CfOk cf X G W → PE X (.ListComp elt [⟨tg, iter, ifs, 0⟩] scope pos) (tE G W v A)
  ds : ∀ {X : Cx} {G : Gs} {W : Wish} (pos pos' spos : Pos) (y : Str) (j : Nat), CfOk cf X G W → cf.N[j]? = some y → cf.sc.names.lookup y = some .local →
    swapsWith (.ListComp elt [⟨tg, iter, ifs, 0⟩] scope pos) (some (.Name y pos')) spos.line X.env = pure true → PS X (.Assign [.Name y pos'] (.ListComp elt [⟨tg, iter, ifs, 0⟩] scope pos) spos) (tS G W (sSet j A))
section
variable {cf : Cf} {e a b c : Expr} {es : List Expr} {X : Cx} {G : Gs} {W : Wish}
def SE.nv (s : SE cf e) : Ev := if s.v then s.A else eImm s.A
theorem SE.okN (s : SE cf e) (c : CfOk cf X G W) : PE X e (tE G W true s.nv) := by
  have h := s.ok c
  unfold SE.nv
  cases e : s.v with
  | true => rw [e] at h; exact h
  | false => rw [e] at h; exact de_imm h
theorem SE.okL (s : SE cf e) (c : CfOk cf X G W) : PE X e (tE G W false s.A) := de_look (s.ok c)
def SE.at_ (s : SE cf e) (v : Bool) : Ev := if v then s.nv else s.A
theorem SE.okV (s : SE cf e) (v : Bool) (c : CfOk cf X G W) : PE X e (tE G W v (s.at_ v)) := by
  cases v with
  | true => exact s.okN c
  | false => exact s.okL c
structure Tr where
  e : (cf : Cf) → (e : Expr) → Option (SE cf e)
  t : (cf : Cf) → (e : Expr) → Option (ST cf e)
/-- asked of the text -/
def ask {α : Type} (p : Prop) [Decidable p] (f : p → Option α) : Option α := if h : p then f h else none
/-! ### constants, names -/
def trConst (cf : Cf) (j : Nat) (pos : Pos) : (c : Const) → Option (SE cf (.Constant c j pos))
  | .int i => some ⟨true, eC (.int i), fun _ => de_int⟩
  | .bool b => some ⟨true, eC (.bl b), fun _ => de_bl⟩
  | .none => some ⟨true, eC .non, fun _ => de_non⟩
  | .str x => ask (x.length ≤ LINE) fun h => some ⟨true, eC (.str x), fun _ => de_str h⟩
  | _ => none
def trName (cf : Cf) (x : Str) (pos : Pos) : Option (SE cf (.Name x pos)) :=
  ask (okNm x = true) fun ho => if hv : isVis cf.sc x = true then
    (ixOf cf.N x).bind fun i => some ⟨false, eVar i.1, fun c => de_var (by rw [c.N]; exact i.2) (vis_of c hv) (okNm_db ho).1 (okNm_db ho).2⟩
  else ask (isGl cf.sc x = true) fun hg => (findS cf.cons x).bind fun d => some ⟨true, eC d.1, fun c => by
    obtain ⟨u, w, h1, h2, h3⟩ := c.cons x d.1 d.2
    exact de_glob (gl_of c hg) h1 h2 (fun H ι => by rw [c.K]; exact h3 H ι) (okNm_db ho).1⟩
/-! ### operators -/
def binR : (op : Operator) → Option {f : D → D → Store → Out D // ∀ (X : Cx) (v : Bool), ∃ r, OpR X (binaryOp op) r ∧ Ob2 X v f r}
  | .Add => some ⟨dAdd, fun X v => ⟨_, op_addD, ob_add⟩⟩
  | .Sub => some ⟨dSub, fun X v => ⟨_, op_sub, ob_sub⟩⟩
  | .Mult => some ⟨dMul, fun X v => ⟨_, op_mulD, ob_mul⟩⟩
  | .Mod => some ⟨dMod, fun X v => ⟨_, op_mod, ob_mod⟩⟩
  | .FloorDiv => some ⟨dFdiv, fun X v => ⟨_, op_fdiv, ob_fdiv⟩⟩
  | .Pow => some ⟨dPow, fun X v => ⟨_, op_pow, ob_pow⟩⟩
  | _ => none
def cmpR : (op : CmpOp) → Option {f : D → D → Store → Out D // ∀ (X : Cx) (v : Bool) (k : Nat), Room (k + 1) X.A → ∃ r, OpR X (compareOp op) r ∧ Ob2 X v f r}
  | .Lt => some ⟨cmD .lt, fun X v k h => ⟨_, op_cmD h.units .lt, ob_cmD .lt⟩⟩
  | .LtE => some ⟨cmD .le, fun X v k h => ⟨_, op_cmD h.units .le, ob_cmD .le⟩⟩
  | .Gt => some ⟨cmD .gt, fun X v k h => ⟨_, op_cmD h.units .gt, ob_cmD .gt⟩⟩
  | .GtE => some ⟨cmD .ge, fun X v k h => ⟨_, op_cmD h.units .ge, ob_cmD .ge⟩⟩
  | .Eq => some ⟨dEq false, fun X v k h => ⟨_, op_eqD h.units, ob_eq⟩⟩
  | .NotEq => some ⟨dEq true, fun X v k h => ⟨_, op_neD h.units, ob_ne⟩⟩
  | .In => some ⟨dIn false, fun X v k h => ⟨_, op_inA h, ob_in false⟩⟩
  | .NotIn => some ⟨dIn true, fun X v k h => ⟨_, op_notInA h, ob_in true⟩⟩
  | _ => none
def cmR : (op : CmpOp) → Option {c : Cm // cmOp c = op}
  | .Lt => some ⟨.lt, rfl⟩
  | .LtE => some ⟨.le, rfl⟩
  | .Gt => some ⟨.gt, rfl⟩
  | .GtE => some ⟨.ge, rfl⟩
  | _ => none
def trBin (r : Tr) (cf : Cf) (a : Expr) (op : Operator) (b : Expr) (pos : Pos) : Option (SE cf (.BinOp a op b pos)) :=
  (binR op).bind fun f => (r.e cf a).bind fun A => (r.e cf b).bind fun B => some ⟨true, bin2 f.1 A.A B.A, fun {X G W} c => by
    obtain ⟨q, h1, h2⟩ := f.2 X true
    exact de_bin c.K h1 h2 (A.okL c) (B.okL c)⟩
inductive IsNoneE : Expr → Prop
  | mk (j : Nat) (p : Pos) : IsNoneE (.Constant .none j p)
def isNoneE : (e : Expr) → Option (PLift (IsNoneE e))
  | .Constant .none j p => some ⟨.mk j p⟩
  | _ => none
/-- a comparison: as a value, as a test -/
structure SCm (cf : Cf) (a : Expr) (ops : List CmpOp) (es : List Expr) (pos : Pos) where
  A : Ev
  de : ∀ {X : Cx} {G : Gs} {W : Wish} (v : Bool), CfOk cf X G W → PE X (.Compare a ops es pos) (tE G W v A)
  dt : ∀ {X : Cx} {G : Gs} {W : Wish}, CfOk cf X G W → PT X (.Compare a ops es pos) (tT G W (tVal A))
theorem dt_chain {c1 c2 : Cm} {A B C : Ev} {pos : Pos} (hK : G.K = X.K) (ha : PE X a (tE G W false A)) (hb : PE X b (tE G W false B)) (hc : PE X c (tE G W false C)) (hm : lastMarks [cmOp c1, cmOp c2] [b, c] = false) :
    PT X (.Compare a [cmOp c1, cmOp c2] [b, c] pos) (tT G W (tVal (eChain c1 c2 A B C))) := pt_weak (pt_chain (op_cm c1) (op_cm c2) ha hb hc hm) fun _ _ _ h => chain_reads (v := false) hK (tVal_reads h)
def trCmp (r : Tr) (cf : Cf) (a : Expr) (pos : Pos) : (ops : List CmpOp) → (es : List Expr) → Option (SCm cf a ops es pos)
  | [.Is], [.Constant .none j p] => (r.e cf a).bind fun A => some ⟨eIsN false A.A, fun v c => de_isN c.K (A.okL c), fun c => dt_isN c.K (A.okL c)⟩
  | [.IsNot], [.Constant .none j p] => (r.e cf a).bind fun A => some ⟨eIsN true A.A, fun v c => de_notN c.K (A.okL c), fun c => dt_notN c.K (A.okL c)⟩
  | [op], [b] => (cmpR op).bind fun f => (r.e cf a).bind fun A => (r.e cf b).bind fun B => ask (noSet b = true) fun hb => some ⟨bin2 f.1 A.A B.A, fun {X G W} v c => by
      obtain ⟨q, h1, h2⟩ := f.2 X v _ c.room
      exact de_cmp c.K h1 h2 (A.okL c) (B.okL c) (behind_no hb), fun {X G W} c => by
      obtain ⟨q, h1, h2⟩ := f.2 X false _ c.room
      exact dt_cmp c.K h1 h2 (A.okL c) (B.okL c) (behind_no hb)⟩
  | [op, op'], [b, d] => (cmR op).bind fun c1 => (cmR op').bind fun c2 => (r.e cf a).bind fun A => (r.e cf b).bind fun B => (r.e cf d).bind fun C => ask (noSet d = true) fun hd => some ⟨eChain c1.1 c2.1 A.A B.A C.A, fun v c => by
      obtain ⟨c1, rfl⟩ := c1
      obtain ⟨c2, rfl⟩ := c2
      exact de_chain c.K (A.okL c) (B.okL c) (C.okL c) fun h1 h2 => pe_chain h1 h2 (A.okL c) (B.okL c) (C.okL c) (marks2_no hd), fun c => by
      obtain ⟨c1, rfl⟩ := c1
      obtain ⟨c2, rfl⟩ := c2
      exact dt_chain c.K (A.okL c) (B.okL c) (C.okL c) (marks2_no hd)⟩
  | _, _ => none
/-! ### and, or -/
def trAndE (r : Tr) (cf : Cf) (pos : Pos) : (es : List Expr) → Option (SE cf (.BoolOp .And es pos))
  | [a] => (r.e cf a).bind fun A => some ⟨A.v, A.A, fun c => pe_one (A.ok c)⟩
  | a :: b :: rest => (r.e cf a).bind fun A => (trAndE r cf pos (b :: rest)).bind fun B => some ⟨B.v, eAnd A.A B.A, fun c => de_and (A.okL c) (B.ok c)⟩
  | [] => none
def trOrE (r : Tr) (cf : Cf) (pos : Pos) : (es : List Expr) → Option (SE cf (.BoolOp .Or es pos))
  | [a] => (r.e cf a).bind fun A => some ⟨A.v, A.A, fun c => pe_one (A.ok c)⟩
  | a :: b :: rest => (r.e cf a).bind fun A => (trOrE r cf pos (b :: rest)).bind fun B => some ⟨B.v, eOr A.nv B.A, fun c => de_or c.K (A.okN c) (B.ok c)⟩
  | [] => none
def trAndW (r : Tr) (cf : Cf) (pos : Pos) : (es : List Expr) → Option (SW cf (.BoolOp .And es pos))
  | [a] => (r.t cf a).bind fun A => some ⟨A.T, fun c => dw_and1 (A.ok c)⟩
  | a :: b :: rest => (r.t cf a).bind fun A => (trAndW r cf pos (b :: rest)).bind fun B => some ⟨Dl.tAnd A.T B.T, fun c => dw_and (A.ok c) (B.ok c)⟩
  | [] => none
def trOrW (r : Tr) (cf : Cf) (pos : Pos) : (es : List Expr) → Option (SW cf (.BoolOp .Or es pos))
  | [a] => (r.t cf a).bind fun A => some ⟨A.T, fun c => dw_or1 (A.ok c)⟩
  | a :: b :: rest => (r.t cf a).bind fun A => (trOrW r cf pos (b :: rest)).bind fun B => some ⟨Dl.tOr A.T B.T, fun c => dw_or (A.ok c) (B.ok c)⟩
  | [] => none
/-! ### lists of expressions -/
def trArgs (r : Tr) (cf : Cf) (v : Bool) : (es : List Expr) → Option (SA cf v es)
  | [] => some ⟨aNil, fun _ => da_nil⟩
  | a :: es => ask (notStar a = true) fun h => (r.e cf a).bind fun A => (trArgs r cf v es).bind fun R => some ⟨aCons (A.at_ v) R.R, fun c => da_cons (A.okV v c) (R.ok c) (star_ns h)⟩
/-! ### subscripts -/
def trPart (r : Tr) (cf : Cf) : (e : Option Expr) → Option (SP cf e)
  | none => some ⟨pNo, fun _ => dp_no⟩
  | some a => (r.e cf a).bind fun A => some ⟨pSome A.A, fun c => dp_some (A.okL c)⟩
def trSub (r : Tr) (cf : Cf) (a : Expr) (pos : Pos) : (b : Expr) → Option (SE cf (.Subscript a b pos))
  | .Slice none none (some (.UnaryOp .USub (.Constant (.int 1) k p1) p2)) p3 => (r.e cf a).bind fun A => some ⟨true, eRev A.A, fun c => de_rev c.K (A.okL c)⟩
  | .Slice lo hi none p2 => (r.e cf a).bind fun A => (trPart r cf lo).bind fun P => (trPart r cf hi).bind fun R => some ⟨true, eSl A.A P.P R.P, fun c => de_slice c.K (A.okL c) (P.ok c) (R.ok c)⟩
  | b => ask (noSlice b = true) fun h => (r.e cf a).bind fun A => (r.e cf b).bind fun B => some ⟨false, eIx A.A B.A, fun c => de_ix c.K c.room (A.okL c) (B.okL c) (plain_ix h)⟩
end
end Dl
end
section
set_option Elab.async false
set_option linter.all false
set_option maxRecDepth 100000
set_option maxHeartbeats 4000000
/-! Dl19: from the text to the meaning: calls, walks, comprehensions. -/
namespace Dl
open PySem PySem.Spec PyProof.Rows L2
section
variable {cf : Cf} {e a b c : Expr} {es : List Expr} {X : Cx} {G : Gs} {W : Wish}
/-! ### built-ins -/
/-- a built-in of one argument -/
structure B1 where
  name : Str
  f : D → Store → Out D
  ok : ∀ {cf : Cf} {X : Cx} {G : Gs} {W : Wish} {a : Expr} {A : Ev} {p pos : Pos} (v : Bool), CfOk cf X G W → Gl X name → X.mg name = none → notStar a = true → PE X a (tE G W false A) → PE X (.Call (.Name name p) [a] [] pos) (tE G W v (un1 f A))
structure B2 where
  name : Str
  f : D → D → Store → Out D
  ok : ∀ {cf : Cf} {X : Cx} {G : Gs} {W : Wish} {a b : Expr} {A B : Ev} {p pos : Pos} (v : Bool), CfOk cf X G W → Gl X name → X.mg name = none → notStar a = true → notStar b = true → PE X a (tE G W false A) → PE X b (tE G W false B) → PE X (.Call (.Name name p) [a, b] [] pos) (tE G W v (bin2 f A B))
def b1s : List B1 := [
  ⟨"len", dLen, fun v c g m s h => de_b1 c.K call_lenA oc_len g m boot_len (by decide) (by decide) (star_ns s) h⟩,
  ⟨"all", dAll, fun v c g m s h => de_b1 c.K (cr_all c.calm) oc_all g m boot_all (by decide) (by decide) (star_ns s) h⟩,
  ⟨"max", dMax1, fun v c g m s h => de_b1 c.K (cr_max c.calm) oc_max1 g m boot_max (by decide) (by decide) (star_ns s) h⟩,
  ⟨"min", dMin1, fun v c g m s h => de_b1 c.K (cr_min c.calm) oc_min1 g m boot_min (by decide) (by decide) (star_ns s) h⟩,
  ⟨"sum", dSum, fun v c g m s h => de_b1 c.K (cr_sum c.calm) oc_sum g m boot_sum (by decide) (by decide) (star_ns s) h⟩,
  ⟨"sorted", dSorted, fun v c g m s h => de_b1 c.K (call_sortedA c.room.units) oc_sorted g m boot_sorted (by decide) (by decide) (star_ns s) h⟩,
  ⟨"list", dList, fun v c g m s h => de_t1 c.K call_list_of oc_list g m boot_list (by decide) (by decide) (star_ns s) h⟩,
  ⟨"tuple", dTuple, fun v c g m s h => de_t1 c.K call_tuple_of oc_tuple g m boot_tuple (by decide) (by decide) (star_ns s) h⟩,
  ⟨"int", dInt, fun v c g m s h => de_t1 c.K call_intA oc_int g m boot_int (by decide) (by decide) (star_ns s) h⟩,
  ⟨"str", dStr, fun v c g m s h => de_t1 c.K call_str_int oc_str g m boot_str (by decide) (by decide) (star_ns s) h⟩,
  ⟨"dict", dDict, fun v c g m s h => de_t1 c.K (call_dictP c.calm) oc_dict g m boot_dict (by decide) (by decide) (star_ns s) h⟩]
def b2s : List B2 := [
  ⟨"max", dMax2, fun v c g m s s2 h h2 => de_b2 c.K (call_max2 c.calm) oc_max2 g m boot_max (by decide) (by decide) (star_ns s) (star_ns s2) h h2⟩,
  ⟨"min", dMin2, fun v c g m s s2 h h2 => de_b2 c.K (call_min2 c.calm) oc_min2 g m boot_min (by decide) (by decide) (star_ns s) (star_ns s2) h h2⟩]
def findB1 : (l : List B1) → (x : Str) → Option {b : B1 // b.name = x}
  | [], _ => none
  | b :: r, x => if e : b.name = x then some ⟨b, e⟩ else findB1 r x
def findB2 : (l : List B2) → (x : Str) → Option {b : B2 // b.name = x}
  | [], _ => none
  | b :: r, x => if e : b.name = x then some ⟨b, e⟩ else findB2 r x
/-- the types isinstance asks for -/
structure TyB where
  name : Str
  t : Ty
  boot : bootBuiltins name = some (.type t.name)
  nn : name ≠ "__name__"
  nd : (name == ("__debug__" : Str)) = false
def tys : List TyB := [⟨"int", .int, boot_int, by decide, by decide⟩, ⟨"bool", .bool, boot_bool, by decide, by decide⟩, ⟨"str", .str, boot_str, by decide, by decide⟩, ⟨"tuple", .tuple, boot_tuple, by decide, by decide⟩, ⟨"list", .list, boot_list, by decide, by decide⟩]
def findTy : (l : List TyB) → (x : Str) → Option {b : TyB // b.name = x}
  | [], _ => none
  | b :: r, x => if e : b.name = x then some ⟨b, e⟩ else findTy r x
/-- a global name that is none of the module's -/
structure Fr (cf : Cf) (x : Str) : Prop where
  gl : isGl cf.sc x = true
  fr : x ∈ cf.free
theorem Fr.mg {x : Str} (h : Fr cf x) (c : CfOk cf X G W) : X.mg x = none := c.free x h.fr
theorem Fr.g {x : Str} (h : Fr cf x) (c : CfOk cf X G W) : Gl X x := gl_of c h.gl
def askFr {α : Type} (cf : Cf) (x : Str) (f : Fr cf x → Option α) : Option α := ask (isGl cf.sc x = true) fun h => ask (x ∈ cf.free) fun h2 => f ⟨h, h2⟩
def trB1 (r : Tr) (cf : Cf) (x : Str) (p : Pos) (a : Expr) (pos : Pos) : Option (SE cf (.Call (.Name x p) [a] [] pos)) :=
  (findB1 b1s x).bind fun q => askFr cf x fun fr => ask (notStar a = true) fun hs => (r.e cf a).bind fun A => some ⟨true, un1 q.1.f A.A, fun c => by
    obtain ⟨b, rfl⟩ := q
    exact b.ok true c (fr.g c) (fr.mg c) hs (A.okL c)⟩
def trB2 (r : Tr) (cf : Cf) (x : Str) (p : Pos) (a b : Expr) (pos : Pos) : Option (SE cf (.Call (.Name x p) [a, b] [] pos)) :=
  (findB2 b2s x).bind fun q => askFr cf x fun fr => ask (notStar a = true) fun hs => ask (notStar b = true) fun hs2 => (r.e cf a).bind fun A => (r.e cf b).bind fun B => some ⟨true, bin2 q.1.f A.A B.A, fun c => by
    obtain ⟨b, rfl⟩ := q
    exact b.ok true c (fr.g c) (fr.mg c) hs hs2 (A.okL c) (B.okL c)⟩
def trIsi (r : Tr) (cf : Cf) (x : Str) (p : Pos) (a : Expr) (pos : Pos) : (b : Expr) → Option (SE cf (.Call (.Name x p) [a, b] [] pos))
  | .Name y p2 => if hx : x = "isinstance" then (findTy tys y).bind fun t => askFr cf x fun fr => askFr cf y fun fr2 => ask (notStar a = true) fun hs => (r.e cf a).bind fun A => some ⟨true, eIsi [t.1.t] A.A, fun c => by
      subst hx
      obtain ⟨b, rfl⟩ := t
      exact de_isi c.K (fr.g c) (fr.mg c) (fr2.g c) (fr2.mg c) b.boot b.nn b.nd (star_ns hs) (A.okL c)⟩ else none
  | .Tuple [.Name y p2, .Name z p3] kk p4 => if hx : x = "isinstance" then (findTy tys y).bind fun t => (findTy tys z).bind fun u => askFr cf x fun fr => askFr cf y fun fr2 => askFr cf z fun fr3 => ask (notStar a = true) fun hs => (r.e cf a).bind fun A => some ⟨true, eIsi [t.1.t, u.1.t] A.A, fun c => by
      subst hx
      obtain ⟨b, rfl⟩ := t
      obtain ⟨d, rfl⟩ := u
      exact de_isi2 c.K (fr.g c) (fr.mg c) (fr2.g c) (fr2.mg c) b.boot b.nn b.nd (fr3.g c) (fr3.mg c) d.boot d.nn d.nd (star_ns hs) (A.okL c)⟩ else none
  | _ => none
/-- a def of the text -/
def trFn (r : Tr) (cf : Cf) (x : Str) (p : Pos) (pos : Pos) : (es : List Expr) → Option (SE cf (.Call (.Name x p) es [] pos))
  | [] => none
  | a :: es => (findS cf.fns x).bind fun F => ask (isGl cf.sc x = true) fun hg => ask (okNm x = true) fun ho => ask (notStar a = true) fun hs => ask (es.all notStar = true) fun hs2 => (trArgs r cf false (a :: es)).bind fun R => some ⟨true, eCall F.1 R.R, fun c => by
      obtain ⟨f, fd, ps, h1, h2, h3, h4⟩ := (c.fns x F.1 F.2).ex
      exact de_call c.K h1 c.room (gl_of c hg) h2 h3 h4 c.tk (R.ok c) (okNm_db ho).1 (star_ns hs) (star_any hs2)⟩
/-- len(set(x)) -/
def trLenSet (r : Tr) (cf : Cf) (x : Str) (p : Pos) (pos : Pos) : (a : Expr) → Option (SE cf (.Call (.Name x p) [a] [] pos))
  | .Call (.Name y p2) [a] [] q => if hx : x = "len" then if hy : y = "set" then askFr cf x fun fr => askFr cf y fun fr2 => ask (notStar a = true) fun hs => (r.e cf a).bind fun A => some ⟨true, eLenSet A.A, fun c => by
      subst hx
      subst hy
      exact de_lenset c.K c.calm (fr.g c) (fr.mg c) (fr2.g c) (fr2.mg c) (A.okL c) (star_ns hs)⟩ else none else none
  | _ => none
def orE {α : Type} : Option α → (Unit → Option α) → Option α
  | some a, _ => some a
  | none, f => f ()
def trCallN (r : Tr) (cf : Cf) (x : Str) (p : Pos) (pos : Pos) : (es : List Expr) → Option (SE cf (.Call (.Name x p) es [] pos))
  | [a] => orE (trFn r cf x p pos [a]) fun _ => orE (trLenSet r cf x p pos a) fun _ => trB1 r cf x p a pos
  | [a, b] => orE (trFn r cf x p pos [a, b]) fun _ => orE (trIsi r cf x p a pos b) fun _ => trB2 r cf x p a b pos
  | es => trFn r cf x p pos es
/-- methods -/
theorem few1 {env : Env} {pos : Pos} (h : notStar a = true) : ((backTo pos (starEach [a] env)).all (fun x => !x.1) && (backToKw pos (keywordEach [] env)).all (fun x => x.1.isSome)
      && decide ([a].length + ([] : List Keyword).length + (if ([] : List Keyword).isEmpty then 0 else 1) < 30)) = true := st1 (star_ns h) pos
theorem m2_of {env : Env} {o : Expr} {m : Str} {apos pos : Pos} (ho : noCall0 o = true) (ha : notStar a = true) (hb : notStar b = true) (hl : (apos.endLine == pos.line) = true) (he : X.env = env) : M2 X o m apos a b pos := by
  subst he
  refine ⟨attr_no ho, ?_, hl, ?_⟩
  · rw [star_ns ha, star_ns hb]; rfl
  · rw [star_ns ha, star_ns hb]; rfl
def trMeth (r : Tr) (cf : Cf) (o : Expr) (m : Str) (apos pos : Pos) : (es : List Expr) → Option (SE cf (.Call (.Attribute o m apos) es [] pos))
  | [a] => ask (noCall0 o = true) fun ho => ask (notStar a = true) fun ha => ask ((apos.endLine == pos.line) = true) fun hl =>
      if hm : m = "join" then (r.e cf o).bind fun O => (r.e cf a).bind fun A => some ⟨true, eJoin O.A A.A, fun c => by
        subst hm
        exact de_join c.K (O.okL c) (A.okL c) (star_ns ha) (attr_no ho) hl⟩
      else if hm : m = "index" then (r.e cf o).bind fun O => (r.e cf a).bind fun A => some ⟨true, eIndex O.A A.A, fun c => by
        subst hm
        exact de_index c.K (O.okL c) (A.okL c) (attr_no ho) (few1 ha) hl (star_ns ha)⟩
      else none
  | [a, b] => ask (noCall0 o = true) fun ho => ask (notStar a = true) fun ha => ask (notStar b = true) fun hb => ask ((apos.endLine == pos.line) = true) fun hl =>
      if hm : m = "get" then (r.e cf o).bind fun O => (r.e cf a).bind fun A => (r.e cf b).bind fun B => some ⟨false, eGet2 O.A A.A B.A, fun c => by
        subst hm
        exact de_get2 c.K (by have := c.room.un; omega) (O.okL c) (A.okL c) (B.okL c) (m2_of ho ha hb hl rfl)⟩
      else none
  | _ => none
/-! ### targets -/
def trNm (cf : Cf) (x : Str) : Option {i : Nat // cf.N[i]? = some x ∧ isLoc cf.sc x = true ∧ (cf.fnq x = true ∨ cf.sc.names.lookup x = some .local)} :=
  (ixOf cf.N x).bind fun i => ask (isLoc cf.sc x = true) fun h => if h2 : cf.sc.names.lookup x = some .local then some ⟨i.1, i.2, h, .inr h2⟩ else ask (cf.fnq x = true) fun h3 => some ⟨i.1, i.2, h, .inl h3⟩
theorem pg_nm (c : CfOk cf X G W) {x : Str} {i : Nat} {pos : Pos} (h : cf.N[i]? = some x ∧ isLoc cf.sc x = true ∧ (cf.fnq x = true ∨ cf.sc.names.lookup x = some .local)) : PG X (.Name x pos) (gName i) :=
  pg_name c.nd (by rw [c.N]; exact h.1) (loc_of c h.2.1) (h.2.2.imp (c.fn x) fun z => by rw [c.sc]; exact z)
structure SGs (cf : Cf) (ts : List Expr) where
  is : List Nat
  nm : List (Str × Nat)
  own : nm.map (·.2) = is
  len : ∀ env : Env, (assignEach ts env).length = is.length
  nst : ∀ env : Env, (assignEach ts env).findIdx? (·.1) = none
  lt : ∀ i ∈ is, i < cf.N.length
  ok : ∀ {X : Cx} {G : Gs} {W : Wish}, CfOk cf X G W → PGs X ts (gNames is)
def trNms (cf : Cf) : (ts : List Expr) → Option (SGs cf ts)
  | [] => some ⟨[], [], rfl, fun _ => rfl, fun _ => rfl, fun _ h => absurd h (by simp), fun _ => pgs_nil⟩
  | .Name x p :: ts => (trNm cf x).bind fun i => (trNms cf ts).bind fun R => some ⟨i.1 :: R.is, (x, i.1) :: R.nm, by rw [List.map_cons, R.own], fun env => by
      show (assignEach ts env).length + 1 = R.is.length + 1
      rw [R.len], fun env => by
      have h := R.nst env
      show ((false, _) :: assignEach ts env).findIdx? (·.1) = none
      rw [List.findIdx?_cons]
      simp [h], fun j hj => by
      rcases List.mem_cons.mp hj with rfl | hj
      · exact (List.getElem?_eq_some_iff.mp i.2.1).1
      · exact R.lt j hj, fun c => pgs_cons (pg_nm c i.2) (R.ok c)⟩
  | _ => none
def trTg (cf : Cf) : (tg : Expr) → Option (SG cf tg)
  | .Name x p => (trNm cf x).bind fun i => some ⟨.one i.1, [(x, i.1)], rfl, fun j hj => by
      have e : j = i.1 := by simpa [Tg.slots] using hj
      rw [e]; exact (List.getElem?_eq_some_iff.mp i.2.1).1, fun c => pg_nm c i.2⟩
  | .Tuple ts k p => (trNms cf ts).bind fun R => some ⟨.tup R.is, R.nm, R.own, R.lt, fun {X G W} c => by
      have h := pg_tup (k := k) (pos := p) c.calm (R.ok c) (R.len _) (R.nst _)
      rw [← c.K] at h
      exact h⟩
  | _ => none
/-! ### what is walked -/
/-- a name, a new value -/
def trO (r : Tr) (cf : Cf) (m : Bool) : (e : Expr) → Option (SO' cf m e)
  | .Name x p => ask (isVis cf.sc x = true) fun hv => ask (okNm x = true) fun ho => (ixOf cf.N x).bind fun i => some ⟨if m then eVarC i.1 else eVar i.1, [i.1], fun c => dO_var (by rw [c.N]; exact i.2) (vis_of c hv) (okNm_db ho).1 (okNm_db ho).2⟩
  | e => (r.e cf e).bind fun A => some ⟨A.nv, [], fun c => dO_new (A.okN c)⟩
theorem di_exp {m : Bool} {tg : Expr} {A : Ev} (hK : G.K = X.K) (h : PE X a (tO G W m A)) : DI X G W m tg a (iExp A) := by
  obtain ⟨w1, p1, q1⟩ := di_seq (tg := tg) hK h
  obtain ⟨w2, p2, q2⟩ := di_str (tg := tg) h
  refine ⟨_, PI.or (pi_seq h) (pi_str h), fun σ H env st ι O R x q => ?_⟩
  unfold iExp at q
  cases e : A st env with
  | bad => rw [e] at q; exact q.elim
  | ex er st1 =>
    rw [e] at q
    refine .inr ⟨env, st, ι, O, x, ?_⟩
    rw [e]; exact q
  | ok d st1 =>
    rw [e] at q
    cases d with
    | str z =>
      refine .inr ⟨env, st, ι, O, x, ?_⟩
      rw [e]
      intro u H1 ι1 s1 ri
      cases ri with
      | str _ hz => exact ⟨z, rfl, q _ H1 ι1 s1 (walk_str (st0 := st1) z)⟩
      | oth hd => simp at hd
    | tup ds =>
      refine .inl ⟨env, st, ι, O, x, ?_⟩
      rw [e]
      intro u H1 ι1 s1 ri
      have nt : NoTup H1 m O := (x.noTup (m := m)).step x.base.store x.looseOwn s1
      rw [← hK]
      cases ri with
      | tup h1 h2 h3 => exact ⟨_, rfl, .inr ⟨⟨_, h1⟩, q _ H1 ι1 s1 (walk_tup s1.store nt h1 h3)⟩⟩
      | oth hd => simp at hd
    | lst ds =>
      refine .inl ⟨env, st, ι, O, x, ?_⟩
      rw [e]
      intro u H1 ι1 s1 ri
      have nt : NoTup H1 m O := (x.noTup (m := m)).step x.base.store x.looseOwn s1
      rw [← hK]
      cases ri with
      | lst h1 h2 h3 h4 h5 => exact ⟨_, rfl, .inl ⟨⟨_, .inl h1⟩, q _ H1 ι1 s1 (walk_list s1.store nt h1 h2 h3 h5)⟩⟩
      | oth hd => simp at hd
    | _ => exact q.elim
def trI (r : Tr) (cf : Cf) (m : Bool) (tg : Expr) : (iter : Expr) → Option (SI cf m tg iter)
  | .Call (.Name x p) [a] [] pos => orE (if hx : x = "range" then askFr cf x fun fr => ask (notStar a = true) fun hs => (r.e cf a).bind fun A => some ⟨iRange1 A.A, [], fun c => by
        subst hx
        exact di_range1 (fr.g c) (fr.mg c) (A.okL c) (star_ns hs)⟩ else none)
      fun _ => orE (match tg with
        | .Tuple elts kk tpos => if hx : x = "enumerate" then askFr cf x fun fr => ask (notStar a = true) fun hs => (trO r cf m a).bind fun A => some ⟨iEnum A.A, A.is, fun c => by
            subst hx
            exact di_enum c.K (fr.g c) (fr.mg c) (A.ok c) (star_ns hs)⟩ else none
        | _ => none)
      fun _ => (r.e cf (.Call (.Name x p) [a] [] pos)).bind fun A => some ⟨iExp A.nv, [], fun c => di_exp c.K (dO_new (A.okN c))⟩
  | .Call (.Name x p) [a, b] [] pos => orE (if hx : x = "range" then askFr cf x fun fr => ask (notStar a = true) fun hs => ask (notStar b = true) fun hs2 => (r.e cf a).bind fun A => (r.e cf b).bind fun B => some ⟨iRange2 A.A B.A, [], fun c => by
        subst hx
        exact di_range2 (fr.g c) (fr.mg c) (A.okL c) (B.okL c) (by rw [star_ns hs, star_ns hs2]; rfl) (by rw [star_ns hs2]; rfl)⟩ else none)
      fun _ => orE (match tg with
        | .Tuple elts kk tpos => if hx : x = "zip" then askFr cf x fun fr => ask (notStar a = true) fun hs => ask (notStar b = true) fun hs2 => (trO r cf m a).bind fun A => (trO r cf m b).bind fun B => some ⟨iZip A.A B.A, A.is ++ B.is, fun c => by
            subst hx
            exact di_zip c.K (fr.g c) (fr.mg c) (A.ok c) (B.ok c) (star_ns hs) (star_ns hs2)⟩ else none
        | _ => none)
      fun _ => (r.e cf (.Call (.Name x p) [a, b] [] pos)).bind fun A => some ⟨iExp A.nv, [], fun c => di_exp c.K (dO_new (A.okN c))⟩
  | e => (r.e cf e).bind fun A => some ⟨iExp A.nv, [], fun c => di_exp c.K (dO_new (A.okN c))⟩
def trL (cf : Cf) (m : Bool) (tg : Expr) : (iter : Expr) → Option (SL cf m tg iter)
  | .Name x p => ask (isVis cf.sc x = true) fun hv => ask (okNm x = true) fun ho => (ixOf cf.N x).bind fun i => some ⟨i.1, iVar i.1, fun c => dl_var c.K (vn_of c i.2 hv ho)⟩
  | .Call (.Attribute (.Name x px) at_ p1) [] [] p2 => ask (isVis cf.sc x = true) fun hv => ask (okNm x = true) fun ho => ask ((p1.endLine == p2.line) = true) fun hl => (ixOf cf.N x).bind fun i =>
      if ha : at_ = "values" then some ⟨i.1, iVals i.1, fun c => by
        subst ha
        exact dl_vals c.K (vn_of c i.2 hv ho) hl⟩
      else if ha : at_ = "items" then (match tg with
        | .Tuple elts kk tpos => some ⟨i.1, iItems i.1, fun c => by
          subst ha
          exact dl_items c.K (vn_of c i.2 hv ho) hl⟩
        | _ => none)
      else none
  | _ => none
/-! ### comprehensions -/
structure STs (cf : Cf) (ifs : List Expr) where
  T : Tv
  ok : ∀ {X : Cx} {G : Gs} {W : Wish}, CfOk cf X G W → PTs X ifs (tT G W T)
theorem pts_weak {es : List Expr} {t t' : TT} (h : PTs X es t) (w : ∀ σ H Q, t' σ H Q → t σ H Q) : PTs X es t' := ⟨fun pins s σ H Q I q => h.run pins s σ H Q I (w σ H Q q)⟩
def trIfs (r : Tr) (cf : Cf) : (ifs : List Expr) → Option (STs cf ifs)
  | [] => some ⟨tTrue, fun _ => pts_weak pts_nil fun σ H Q ⟨env, st, ι, O, x, q⟩ => q H ι (Step.refl x.base.store)⟩
  | [c] => (r.t cf c).bind fun T => some ⟨T.T, fun c => pts_one (T.ok c)⟩
  | _ => none
def trLc (r : Tr) (cf : Cf) (elt tg iter : Expr) (ifs : List Expr) (scope : Scope) : Option (SC cf elt tg iter ifs scope) :=
  (trTg (cf.blk scope) tg).bind fun g => (trIfs r (cf.blk scope) ifs).bind fun T => (r.e (cf.blk scope) elt).bind fun A => ask (blkC cf.N cf.sc scope g.nm = true) fun hb => ask (noSet iter = true) fun hs =>
    orE ((trL cf false tg iter).bind fun L => some ⟨eLcV L.i L.Wv g.g T.T A.nv, fun v pos c => de_lcV c.K c.calm c.nd (fun i hi => by rw [c.n, c.N]; exact g.lt i hi) (L.ok c) (by rw [c.N, c.sc]; exact blkOk_by hb) g.own
        (fun s H C cl fp => g.ok (c.blk scope _ rfl rfl s H C cl fp)) (fun G' h1 h2 s H C cl fp => T.ok (c.blk scope G' h1 h2 s H C cl fp)) (fun G' h1 h2 s H C cl fp => A.okN (c.blk scope G' h1 h2 s H C cl fp)) (folded_no hs),
      fun pos pos' spos y j c h1 h2 h3 => ds_setLcV c.K c.n c.calm c.nd (by rw [c.N]; exact h1) (by rw [c.sc]; exact h2) h3 (fun i hi => by rw [c.n, c.N]; exact g.lt i hi) (L.ok c) (by rw [c.N, c.sc]; exact blkOk_by hb) g.own
        (fun s H C cl fp => g.ok (c.blk scope _ rfl rfl s H C cl fp)) (fun G' h1 h2 s H C cl fp => T.ok (c.blk scope G' h1 h2 s H C cl fp)) (fun G' h1 h2 s H C cl fp => A.okN (c.blk scope G' h1 h2 s H C cl fp)) (folded_no hs)⟩)
    fun _ => (trI r cf false tg iter).bind fun I => some ⟨eLc I.Wv g.g T.T A.nv, fun v pos c => de_lc c.K c.calm c.nd (fun i hi => by rw [c.n, c.N]; exact g.lt i hi) (I.ok c) (by rw [c.N, c.sc]; exact blkOk_by hb) g.own
        (fun s H C cl fp => g.ok (c.blk scope _ rfl rfl s H C cl fp)) (fun s H C cl fp => T.ok (c.blk scope _ rfl rfl s H C cl fp)) (fun s H C cl fp => A.okN (c.blk scope _ rfl rfl s H C cl fp)) (folded_no hs),
      fun pos pos' spos y j c h1 h2 h3 => ds_setLc c.K c.n c.calm c.nd (by rw [c.N]; exact h1) (by rw [c.sc]; exact h2) h3 (fun i hi => by rw [c.n, c.N]; exact g.lt i hi) (I.ok c) (by rw [c.N, c.sc]; exact blkOk_by hb) g.own
        (fun s H C cl fp => g.ok (c.blk scope _ rfl rfl s H C cl fp)) (fun s H C cl fp => T.ok (c.blk scope _ rfl rfl s H C cl fp)) (fun s H C cl fp => A.okN (c.blk scope _ rfl rfl s H C cl fp)) (folded_no hs)⟩
end
end Dl
end
section
set_option Elab.async false
set_option linter.all false
set_option maxRecDepth 100000
set_option maxHeartbeats 4000000
/-! Dl20: from the text to the meaning: expressions closed, statements, defs. -/
namespace Dl
open PySem PySem.Spec PyProof.Rows L2
section
variable {cf : Cf} {e a b c : Expr} {es : List Expr} {X : Cx} {G : Gs} {W : Wish}
def trIf (r : Tr) (cf : Cf) (c a b : Expr) (pos : Pos) : Option (SE cf (.IfExp c a b pos)) :=
  (r.t cf c).bind fun T => (r.e cf a).bind fun A => (r.e cf b).bind fun B => if hv : A.v = true ∧ B.v = true then some ⟨true, eIf T.T A.A B.A, fun c => de_if (T.ok c) (by have h := A.ok c; rw [hv.1] at h; exact h) (by have h := B.ok c; rw [hv.2] at h; exact h)⟩
    else some ⟨false, eIf T.T A.A B.A, fun c => de_if (T.ok c) (A.okL c) (B.okL c)⟩
def trE (r : Tr) (cf : Cf) : (e : Expr) → Option (SE cf e)
  | .Constant c j pos => trConst cf j pos c
  | .Name x pos => trName cf x pos
  | .BinOp a op b pos => trBin r cf a op b pos
  | .UnaryOp .USub a pos => (r.e cf a).bind fun A => some ⟨true, eNeg A.A, fun c => de_un c.K un_neg ob_neg (A.okL c)⟩
  | .UnaryOp .Not a pos => (r.e cf a).bind fun A => some ⟨true, eNot A.A, fun c => de_not (A.okL c)⟩
  | .BoolOp .And es pos => trAndE r cf pos es
  | .BoolOp .Or es pos => trOrE r cf pos es
  | .Compare a ops es pos => (trCmp r cf a pos ops es).bind fun C => some ⟨true, C.A, fun c => C.de true c⟩
  | .IfExp c a b pos => trIf r cf c a b pos
  | .Tuple es k pos => (trArgs r cf true es).bind fun R => some ⟨true, eTup R.R, fun c => de_tup c.K (R.ok c)⟩
  | .List es pos => (trArgs r cf true es).bind fun R => if cf.cell = true then some ⟨true, eNewCell R.R, fun c => de_cell (R.ok c)⟩ else some ⟨true, eLst R.R, fun c => de_lst (R.ok c)⟩
  | .Dict [] [] pos => some ⟨true, eDict0, fun _ => de_dict0⟩
  | .Dict [some (.Constant (.int i) j p)] [a] pos => (r.e cf a).bind fun A => some ⟨true, eDict1 (.inl i) A.nv, fun c => de_dict1 (k := .inl i) (A.okN c) pe_int⟩
  | .Dict [some (.Constant (.str i) j p)] [a] pos => (r.e cf a).bind fun A => some ⟨true, eDict1 (.inr i) A.nv, fun c => de_dict1 (k := .inr i) (A.okN c) pe_str⟩
  | .Subscript a b pos => trSub r cf a pos b
  | .Call (.Name x p) es [] pos => trCallN r cf x p pos es
  | .Call (.Attribute o m apos) es [] pos => trMeth r cf o m apos pos es
  | .ListComp elt [⟨tg, iter, ifs, 0⟩] scope pos => (trLc r cf elt tg iter ifs scope).bind fun C => some ⟨true, C.A, fun c => C.de true pos c⟩
  | _ => none
def trT (r : Tr) (cf : Cf) : (e : Expr) → Option (ST cf e)
  | .UnaryOp .Not a pos => (r.t cf a).bind fun T => some ⟨Dl.tNot T.T, fun c => dt_not (T.ok c)⟩
  | .BoolOp .And es pos => (trAndW r cf pos es).bind fun T => some ⟨T.T, fun c => (T.ok c).pt⟩
  | .BoolOp .Or es pos => (trOrW r cf pos es).bind fun T => some ⟨T.T, fun c => (T.ok c).pt⟩
  | .Compare a ops es pos => (trCmp r cf a pos ops es).bind fun C => some ⟨tVal C.A, fun c => C.dt c⟩
  | e => ask (plainT e = true) fun h => (r.e cf e).bind fun A => some ⟨tTruth A.A, fun c => dt_truth c.K (A.okL c) (test_plain h)⟩
def tr : Nat → Tr
  | 0 => ⟨fun _ _ => none, fun _ _ => none⟩
  | n + 1 => ⟨fun cf e => trE (tr n) cf e, fun cf e => trT (tr n) cf e⟩
/-! ### statements -/
structure SS (cf : Cf) (s : Stmt) where
  S : Sv
  ok : ∀ {X : Cx} {G : Gs} {W : Wish}, CfS cf X G W → PS X s (tS G W S)
structure SSs (cf : Cf) (ss : List Stmt) where
  S : Sv
  ok : ∀ {X : Cx} {G : Gs} {W : Wish}, CfS cf X G W → PSs X ss (tS G W S)
structure TrS where
  s : (cf : Cf) → (s : Stmt) → Option (SS cf s)
theorem dss_one {s : Stmt} {S : Sv} (h : PS X s (tS G W S)) : PSs X [s] (tS G W S) := pss_weak (pss_one h) fun _ _ _ h => h
def trSs (r : TrS) (cf : Cf) : (ss : List Stmt) → Option (SSs cf ss)
  | [] => some ⟨sPass, fun _ => dss_nil⟩
  | [s] => (r.s cf s).bind fun S => some ⟨S.S, fun c => dss_one (S.ok c)⟩
  | s :: s2 :: ss => (r.s cf s).bind fun S => (trSs r cf (s2 :: ss)).bind fun R => some ⟨sSeq S.S R.S, fun c => dss_cons (S.ok c) (R.ok c)⟩
def bkind (sc : Scope) : ScopeKind := if sc.kind.isAnnotationScope then .function else sc.kind
def starE : Expr → Bool
  | .Starred .. => true
  | _ => false
def nameAt (sc : Scope) (line : Nat) : Expr → Option Str
  | .Name id pos => if sc.names.lookup id == some .local && pos.line == line then some id else none
  | _ => none
/-- which names are stored from the right -/
def swapQ (sc : Scope) (ts vs : List Expr) : Option (Option (List Str)) :=
  if (!(ts.length == 2 || ts.length == 3) || vs.length != ts.length || bkind sc != .function) = true then some none
  else if vs.any starE = true then some none
  else if ((ts.filterMap (nameAt sc ((ts.head?.map (·.pos.line)).getD 0))).length != ts.length || (ts.filterMap (nameAt sc ((ts.head?.map (·.pos.line)).getD 0))).eraseDups.length != (ts.filterMap (nameAt sc ((ts.head?.map (·.pos.line)).getD 0))).length) = true then some none
  else if vs.all (foldedForSure 8) = true then some none
  else if vs.all (constantsAlone 8) = true then none
  else some (some (ts.filterMap (nameAt sc ((ts.head?.map (·.pos.line)).getD 0))))
theorem swap_of {sc : Scope} {env : Env} {ts vs : List Expr} {k k2 : Nat} {p p2 : Pos} {q : Option (List Str)} (he : env.scope = sc) (h : swapQ sc ts vs = some q) : swappedStores [.Tuple ts k p] (.Tuple vs k2 p2) env = pure q := by
  subst he
  have g : swappedStores [.Tuple ts k p] (.Tuple vs k2 p2) env = (if (!(ts.length == 2 || ts.length == 3) || vs.length != ts.length || bkind env.scope != .function) = true then pure none
    else if vs.any starE = true then pure none
    else if ((ts.filterMap (nameAt env.scope ((ts.head?.map (·.pos.line)).getD 0))).length != ts.length || (ts.filterMap (nameAt env.scope ((ts.head?.map (·.pos.line)).getD 0))).eraseDups.length != (ts.filterMap (nameAt env.scope ((ts.head?.map (·.pos.line)).getD 0))).length) = true then pure none
    else if vs.all (foldedForSure 8) = true then pure none
    else if vs.all (constantsAlone 8) = true then (do unsupported "assign.tuple-of-constant-expressions:order-of-the-stores"; pure (some (ts.filterMap (nameAt env.scope ((ts.head?.map (·.pos.line)).getD 0)))))
    else pure (some (ts.filterMap (nameAt env.scope ((ts.head?.map (·.pos.line)).getD 0))))) := by
    rfl
  rw [g]
  unfold swapQ at h
  split at h
  · rename_i c1; rw [if_pos c1]; cases h; rfl
  · rename_i c1; rw [if_neg c1]
    split at h
    · rename_i c2; rw [if_pos c2]; cases h; rfl
    · rename_i c2; rw [if_neg c2]
      split at h
      · rename_i c3; rw [if_pos c3]; cases h; rfl
      · rename_i c3; rw [if_neg c3]
        split at h
        · rename_i c4; rw [if_pos c4]; cases h; rfl
        · rename_i c4; rw [if_neg c4]
          split at h
          · cases h
          · rename_i c5; rw [if_neg c5]; cases h; rfl
theorem swap_none {env : Env} {ts : List Expr} {k : Nat} {p : Pos} {e : Expr} (h : (match e with | .Tuple .. => false | _ => true) = true) : swappedStores [.Tuple ts k p] e env = pure none := by
  cases e <;> first | rfl | simp at h
theorem swap_sub {env : Env} {o i e : Expr} {p : Pos} : swappedStores [.Subscript o i p] e env = pure none := by
  cases e <;> rfl
/-- is the comprehension stored ahead of its own names' going -/
def lcSwap (sc scope : Scope) (t : Str) (tp pos : Pos) : Bool := bkind sc == .function && sc.names.lookup t == some .local && tp.line == pos.line && !(scope.names.any fun (n, k) => n == t && (k == .local || k == .cell))
theorem lc_swap {env : Env} {sc scope : Scope} {elt : Expr} {gs : List Comprehension} {pos tp : Pos} {t : Str} {n : Nat} (h : env.scope = sc) : swapsWith (.ListComp elt gs scope pos) (some (.Name t tp)) n env = pure (lcSwap sc scope t tp pos) := by
  subst h; rfl
/-- the place of a name that is read -/
structure Vi (cf : Cf) (x : Str) where
  i : Nat
  ix : cf.N[i]? = some x
  vis : isVis cf.sc x = true
  nm : okNm x = true
def askV (cf : Cf) (x : Str) : Option (Vi cf x) := ask (isVis cf.sc x = true) fun hv => ask (okNm x = true) fun ho => (ixOf cf.N x).bind fun i => some ⟨i.1, i.2, hv, ho⟩
theorem Vi.vn {x : Str} (h : Vi cf x) (c : CfOk cf X G W) : Vn X h.i x := vn_of c h.ix h.vis h.nm
def trRet (r : Tr) (cf : Cf) (pos : Pos) : (e : Expr) → Option (SS cf (.Return (some e) pos))
  | .Name x p => orE ((askV cf x).bind fun i => some ⟨sRetVar i.i, fun c => ds_retVar (i.vn c.base).ix (i.vn c.base).vis (i.vn c.base).db (i.vn c.base).cd⟩) fun _ => (r.e cf (.Name x p)).bind fun A => some ⟨sRet A.nv, fun c => ds_ret (A.okN c.base)⟩
  | e => (r.e cf e).bind fun A => some ⟨sRet A.nv, fun c => ds_ret (A.okN c.base)⟩
def trDrop (r : Tr) (cf : Cf) (e : Expr) (pos : Pos) : Option (SS cf (.Expr e pos)) :=
  ask (noComp e = true) fun h => (r.e cf e).bind fun A => some ⟨sDrop A.A, fun c => ds_drop (A.ok c.base) (swaps_no h)⟩
def trApp (r : Tr) (cf : Cf) (x : Str) (px p1 p2 pos : Pos) (hl : (p1.endLine == p2.line) = true) : (a : Expr) → Option (SS cf (.Expr (.Call (.Attribute (.Name x px) "append" p1) [a] [] p2) pos))
  | .Call (.Attribute (.Name y py) at_ p3) [] [] p4 => if ha : at_ = "pop" then ask ((p3.endLine == p4.line) = true) fun hl2 => (askV cf x).bind fun j => (askV cf y).bind fun i => some ⟨sAppPop j.i i.i, fun c => by
      subst ha
      exact ds_appPop (j.vn c.base) (i.vn c.base) hl2 hl⟩ else none
  | .Call (.Attribute (.Name y py) at_ p3) [b] [] p4 => if ha : at_ = "pop" then ask ((p3.endLine == p4.line) = true) fun hl2 => ask (notStar b = true) fun hb => (askV cf x).bind fun j => (askV cf y).bind fun i => (r.e cf b).bind fun B => some ⟨sAppPopAt j.i i.i B.A, fun c => by
      subst ha
      exact ds_appPopAt (j.vn c.base) (i.vn c.base) (B.okL c.base) (star_ns hb) hl2 hl⟩
      else (askV cf x).bind fun j => (r.e cf (.Call (.Attribute (.Name y py) at_ p3) [b] [] p4)).bind fun A => some ⟨sApp j.i A.nv, fun c => ds_app (j.vn c.base) (A.okN c.base) rfl hl⟩
  | a => ask (notStar a = true) fun hs => (askV cf x).bind fun j => (r.e cf a).bind fun A => some ⟨sApp j.i A.nv, fun c => ds_app (j.vn c.base) (A.okN c.base) (star_ns hs) hl⟩
def trExpr (r : Tr) (cf : Cf) (pos : Pos) : (e : Expr) → Option (SS cf (.Expr e pos))
  | .Call (.Attribute (.Name x px) at_ p1) [a] [] p2 => if hl : (p1.endLine == p2.line) = true then
      if ha : at_ = "append" then by subst ha; exact trApp r cf x px p1 p2 pos hl a
      else if ha : at_ = "extend" then ask (notStar a = true) fun hs => (askV cf x).bind fun j => (r.e cf a).bind fun A => some ⟨sExt j.i A.nv, fun c => by
        subst ha
        exact ds_ext (j.vn c.base) (A.okN c.base) (star_ns hs) hl⟩
      else none
    else none
  | e => trDrop r cf e pos
def trSet (r : Tr) (cf : Cf) (y : Str) (py pos : Pos) : (e : Expr) → Option (SS cf (.Assign [.Name y py] e pos))
  | .Call (.Attribute (.Name x px) at_ p1) [] [] p2 => if ha : at_ = "pop" then ask ((p1.endLine == p2.line) = true) fun hl => (trNm cf y).bind fun j => (askV cf x).bind fun i => some ⟨sSetPop j.1 i.i, fun c => by
      subst ha
      exact ds_setPop c.base.n c.base.nd (by rw [c.base.N]; exact j.2.1) (loc_of c.base j.2.2.1) (j.2.2.2.imp (c.base.fn y) fun z => by rw [c.base.sc]; exact z) (i.vn c.base) hl⟩ else none
  | .Call (.Attribute (.Name x px) at_ p1) [a] [] p2 => if ha : at_ = "pop" then ask ((p1.endLine == p2.line) = true) fun hl => ask (notStar a = true) fun hs => (trNm cf y).bind fun j => (askV cf x).bind fun i => (r.e cf a).bind fun A => some ⟨sSetPopAt j.1 i.i A.A, fun c => by
      subst ha
      exact ds_setPopAt c.base.n c.base.nd (by rw [c.base.N]; exact j.2.1) (loc_of c.base j.2.2.1) (j.2.2.2.imp (c.base.fn y) fun z => by rw [c.base.sc]; exact z) (i.vn c.base) (A.okL c.base) (star_ns hs) hl⟩
      else (trNm cf y).bind fun j => (r.e cf (.Call (.Attribute (.Name x px) at_ p1) [a] [] p2)).bind fun A => some ⟨sSet j.1 A.nv, fun c => ds_set c.base.n c.base.nd (by rw [c.base.N]; exact j.2.1) (loc_of c.base j.2.2.1) (A.okN c.base) (swaps_no rfl) (j.2.2.2.imp (c.base.fn y) fun z => by rw [c.base.sc]; exact z)⟩
  | .ListComp elt [⟨tg, iter, ifs, 0⟩] scope lp => (trNm cf y).bind fun j => (trLc r cf elt tg iter ifs scope).bind fun C => if hsw : lcSwap cf.sc scope y py lp = true then ask (cf.sc.names.lookup y = some .local) fun hy => some ⟨sSet j.1 C.A, fun c => C.ds lp py pos y j.1 c.base j.2.1 hy (by rw [lc_swap c.base.sc, hsw])⟩
      else some ⟨sSet j.1 C.A, fun c => ds_set c.base.n c.base.nd (by rw [c.base.N]; exact j.2.1) (loc_of c.base j.2.2.1) (C.de true lp c.base) (by rw [lc_swap c.base.sc, Bool.eq_false_iff.mpr hsw]) (j.2.2.2.imp (c.base.fn y) fun z => by rw [c.base.sc]; exact z)⟩
  | e => ask (noComp e = true) fun h => (trNm cf y).bind fun j => (r.e cf e).bind fun A => some ⟨sSet j.1 A.nv, fun c => ds_set c.base.n c.base.nd (by rw [c.base.N]; exact j.2.1) (loc_of c.base j.2.2.1) (A.okN c.base) (swaps_no h) (j.2.2.2.imp (c.base.fn y) fun z => by rw [c.base.sc]; exact z)⟩
theorem asg_sub {o b : Expr} {p : Pos} {env : Env} (h : noSlice b = true) (v : Value) : assign (.Subscript o b p) env v = (do
      let ov ← holding [v] (eval o env)
      let iv ← holding [v, ov] (eval b env)
      standAt p
      holding [v, ov, iv] (setItem ov iv v)
      release [v, ov, iv] []) := by
  cases b <;> first | rfl | simp [noSlice] at h
def trPut (r : Tr) (cf : Cf) (x : Str) (px p1 pos : Pos) (b e : Expr) : Option (SS cf (.Assign [.Subscript (.Name x px) b p1] e pos)) :=
  ask (noComp e = true) fun h => ask (noSlice b = true) fun hb => (askV cf x).bind fun i => (r.e cf b).bind fun B => (r.e cf e).bind fun A => some ⟨sPut i.i B.A A.nv, fun c => ds_put (by have := c.base.room.un; omega) (i.vn c.base) (B.okL c.base) (A.okN c.base) (swaps_no h) swap_sub (asg_sub hb)⟩
structure SNs (cf : Cf) (es : List Expr) where
  As : List Ev
  ok : ∀ {X : Cx} {G : Gs} {W : Wish}, CfOk cf X G W → PA X es (taN G W As)
def trNvs (r : Tr) (cf : Cf) : (es : List Expr) → Option (SNs cf es)
  | [] => some ⟨[], fun _ => pa_nil⟩
  | a :: es => ask (notStar a = true) fun hs => (r.e cf a).bind fun A => (trNvs r cf es).bind fun R => some ⟨A.nv :: R.As, fun c => pa_cons (A.okN c) (R.ok c) (star_ns hs)⟩
def trPar (r : Tr) (cf : Cf) (kt k2 : Nat) (pt pt2 pos : Pos) : (ts es : List Expr) → Option (SS cf (.Assign [.Tuple ts kt pt] (.Tuple es k2 pt2) pos))
  | [.Name x px, .Name y py], [a, b] => (ixOf cf.N x).bind fun i => (ixOf cf.N y).bind fun j => ask (swapQ cf.sc [.Name x px, .Name y py] [a, b] = some (some [x, y])) fun hw => ask (i.1 ≠ j.1) fun hij => ask (cf.sc.names.lookup x = some .local) fun hx => ask (cf.sc.names.lookup y = some .local) fun hy =>
      ask (notStar a = true) fun hs => ask (notStar b = true) fun hs2 => (r.e cf a).bind fun A => (r.e cf b).bind fun B => some ⟨sSets [i.1, j.1] [A.nv, B.nv], fun c => ds_sets2 c.base.calm c.base.nd c.base.n (by rw [c.base.N]; exact i.2) (by rw [c.base.N]; exact j.2) hij (by rw [c.base.sc]; exact hx) (by rw [c.base.sc]; exact hy) (A.okN c.base) (B.okN c.base) (swap_of c.base.sc hw) (star_ns hs) (star_ns hs2)⟩
  | [.Name x px, .Name y py, .Name z pz], [a, b, d] => (ixOf cf.N x).bind fun i => (ixOf cf.N y).bind fun j => (ixOf cf.N z).bind fun l => ask (swapQ cf.sc [.Name x px, .Name y py, .Name z pz] [a, b, d] = some (some [x, y, z])) fun hw => ask (i.1 ≠ j.1) fun hij => ask (i.1 ≠ l.1) fun hil => ask (j.1 ≠ l.1) fun hjl =>
      ask (cf.sc.names.lookup x = some .local) fun hx => ask (cf.sc.names.lookup y = some .local) fun hy => ask (cf.sc.names.lookup z = some .local) fun hz =>
      ask (notStar a = true) fun hs => ask (notStar b = true) fun hs2 => ask (notStar d = true) fun hs3 => (r.e cf a).bind fun A => (r.e cf b).bind fun B => (r.e cf d).bind fun C => some ⟨sSets [i.1, j.1, l.1] [A.nv, B.nv, C.nv], fun c => ds_sets3 c.base.calm c.base.nd c.base.n (by rw [c.base.N]; exact i.2) (by rw [c.base.N]; exact j.2) (by rw [c.base.N]; exact l.2) hij hil hjl (by rw [c.base.sc]; exact hx) (by rw [c.base.sc]; exact hy) (by rw [c.base.sc]; exact hz)
        (A.okN c.base) (B.okN c.base) (C.okN c.base) (swap_of c.base.sc hw) (star_ns hs) (star_ns hs2) (star_ns hs3)⟩
  | _, _ => none
def trParT (r : Tr) (cf : Cf) (kt k2 : Nat) (pt pt2 pos : Pos) (ts es : List Expr) : Option (SS cf (.Assign [.Tuple ts kt pt] (.Tuple es k2 pt2) pos)) :=
  ask (swapQ cf.sc ts es = some none) fun hw => (trNms cf ts).bind fun T => ask (T.is.length ≤ 100) fun hl => (trNvs r cf es).bind fun A => some ⟨sSets T.is A.As, fun c => ds_setsT c.base.calm c.base.K (fun q hq => by rw [c.base.n, c.base.N]; exact T.lt q hq) hl (A.ok c.base) (T.ok c.base) (T.len _) (T.nst _) (swap_of c.base.sc hw)⟩
def notTup : Expr → Bool
  | .Tuple .. => false
  | _ => true
def trUnpack (r : Tr) (cf : Cf) (kt : Nat) (pt pos : Pos) (ts : List Expr) (e : Expr) : Option (SS cf (.Assign [.Tuple ts kt pt] e pos)) :=
  ask (noComp e = true) fun hn => ask (notTup e = true) fun ht => (trNms cf ts).bind fun T => (trO r cf true e).bind fun A => some ⟨sUnpack T.is A.A, fun c => ds_unpack c.base.calm c.base.K (fun q hq => by rw [c.base.n, c.base.N]; exact T.lt q hq) (A.ok c.base) (T.ok c.base) (T.len _) (T.nst _) (swaps_sole hn) (swap_none (by cases e <;> first | rfl | simp [notTup] at ht))⟩
def trRaise (cf : Cf) (pos : Pos) : (e : Expr) → Option (SS cf (.Raise (some e) none pos))
  | .Call (.Name x p) [.Constant (.str m) j p2] [] p3 => orE (ask (x ∈ cf.excs) fun hx => ask (isGl cf.sc x = true) fun hg => ask (okNm x = true) fun ho => some ⟨sRaise x, fun c => ds_raise c.base.calm c.base.K c.base.tk (c.excs x hx m j p p2 p3 (gl_of c.base hg) (okNm_db ho).1)⟩) fun _ => some ⟨sNever, fun _ => ds_never⟩
  | e => some ⟨sNever, fun _ => ds_never⟩
def trFor (r : Tr) (q : TrS) (cf : Cf) (tg iter : Expr) (body : List Stmt) (pos : Pos) : Option (SS cf (.For tg iter body [] pos)) :=
  ask (noSet iter = true) fun hs => (trTg cf tg).bind fun g => (trSs q cf body).bind fun B =>
    orE ((trL cf true tg iter).bind fun L => some ⟨sForV L.i L.Wv g.g B.S, fun c => ds_forV c.base.K c.hp c.base.calm (fun i hi => by rw [c.base.n, c.base.N]; exact g.lt i hi) (L.ok c.base) (g.ok c.base) (B.ok c) (fun G' h1 h2 => B.ok (c.noW G' h1 h2)) (folded_no hs)⟩)
    fun _ => (trI r cf true tg iter).bind fun I => some ⟨sFor I.is I.Wv g.g B.S, fun c => ds_for c.base.K c.hp c.base.calm (fun i hi => by rw [c.base.n, c.base.N]; exact g.lt i hi) (I.ok c.base) (g.ok c.base) (B.ok c) (folded_no hs)⟩
def trS (r : Tr) (q : TrS) (cf : Cf) : (s : Stmt) → Option (SS cf s)
  | .Pass pos => some ⟨sPass, fun _ => ds_pass⟩
  | .Break pos => some ⟨sBreak, fun _ => ds_break⟩
  | .Continue pos => some ⟨sCont, fun _ => ds_cont⟩
  | .Return none pos => some ⟨sRetN, fun _ => ds_retN⟩
  | .Return (some e) pos => trRet r cf pos e
  | .Expr e pos => trExpr r cf pos e
  | .Assign [.Name y py] e pos => trSet r cf y py pos e
  | .Assign [.Subscript (.Name x px) b p1] e pos => trPut r cf x px p1 pos b e
  | .Assign [.Tuple ts kt pt] (.Tuple es k2 pt2) pos => orE (trPar r cf kt k2 pt pt2 pos ts es) fun _ => trParT r cf kt k2 pt pt2 pos ts es
  | .Assign [.Tuple ts kt pt] e pos => trUnpack r cf kt pt pos ts e
  | .If c a b pos => (r.t cf c).bind fun T => (trSs q cf a).bind fun A => (trSs q cf b).bind fun B => some ⟨sIf T.T A.S B.S, fun c => ds_if (T.ok c.base) (A.ok c) (B.ok c)⟩
  | .For tg iter body [] pos => trFor r q cf tg iter body pos
  | .While c body [] pos => (r.t cf c).bind fun T => (trSs q cf body).bind fun B => some ⟨sWhile T.T B.S, fun c => ds_while c.hp (T.ok c.base) (B.ok c)⟩
  | .Raise (some e) none pos => trRaise cf pos e
  | _ => none
def trs : Nat → TrS
  | 0 => ⟨fun _ _ => none⟩
  | n + 1 => ⟨fun cf s => trS (tr (n + 20)) (trs n) cf s⟩
end
end Dl
end
section
set_option Elab.async false
set_option linter.all false
set_option maxRecDepth 100000
set_option maxHeartbeats 4000000
/-! Dl21: a def keeps what its text means. -/
namespace Dl
open PySem PySem.Spec PyProof.Rows L2
section
variable {cf : Cf} {P : Program} {w : World} {K : PySem.W.Frag} {mg : Str → Option Value} {base : Heap}
structure FnK (P : Program) (w : World) (K : PySem.W.Frag) (mg : Str → Option Value) (base : Heap) (k : Nat) (x : Str) (F : Fn) : Prop where
  ex : ∃ (f : Addr) (fd : FuncData) (ps : List Str), FnOk P w K mg base (L2.CX P w) k f fd ps (spD K F) ∧ mg x = some (.ref f) ∧ PySem.W.keepIn K (.ref f) = true ∧ Binds K fd ps []
theorem FnK.mono {j k : Nat} {x : Str} {F : Fn} (h : FnK P w K mg base j x F) (hl : j ≤ k) : FnK P w K mg base k x F := by
  obtain ⟨f, fd, ps, h1, h2⟩ := h.ex
  exact ⟨f, fd, ps, h1.mono hl, h2⟩
def ConK (K : PySem.W.Frag) (mg : Str → Option Value) (x : Str) (d : D) : Prop := ∃ u w, mg x = some w ∧ RelV u w ∧ ∀ (H : Hp) (ι : List Addr), Rep K ι H (fun _ => False) u d
structure ExcK (K : PySem.W.Frag) (mg : Str → Option Value) (x : Str) : Prop where
  ex : ∃ (B newId initId : String) (bmB : List Value), ExcBaseFacts B newId initId bmB ∧ PySem.W.excIn K (He.ga K x) bmB newId = true
  mg : mg x = some (.ref (He.ga K x))
  kp : PySem.W.keepIn K (.ref (He.ga K x)) = true
  sub : PySem.W.subIn K (.ref (He.ga K x)) (.type "BaseException") = some true
  ty : PySem.W.typeIn K (.ref (He.ga K x)) = some (.type "type")
/-- what a context asks of the module -/
structure CfK (cf : Cf) (P : Program) (w : World) (K : PySem.W.Frag) (mg : Str → Option Value) (base : Heap) : Prop where
  free : ∀ x ∈ cf.free, mg x = none
  fns : ∀ x F, (x, F) ∈ cf.fns → FnK P w K mg base (cf.lvl + 1) x F
  cons : ∀ x d, (x, d) ∈ cf.cons → ConK K mg x d
  excs : ∀ x ∈ cf.excs, ExcK K mg x
theorem start_get {N : List Str} {vs : List V} {i : Nat} : (L2.start N vs)[i]? = if i < vs.length then (vs[i]?).map some else if i < N.length then some none else none := by
  unfold L2.start
  by_cases h : i < vs.length
  · rw [if_pos h, List.getElem?_append_left (by rw [List.length_map]; exact h), List.getElem?_map]
  · rw [if_neg h, List.getElem?_append_right (by rw [List.length_map]; omega), List.length_map, List.getElem?_replicate]
    by_cases h2 : i < N.length
    · rw [if_pos h2, if_pos (by omega)]
    · rw [if_neg h2, if_neg (by omega)]
theorem start_ok {H : Hp} {ι : List Addr} {st : Store} {N : List Str} {vs : List V} {ds : List D} (t : StoreOk K ι H st) (r : Reps K ι H (OutA ι) vs ds) (hl : ds.length ≤ N.length) :
    StOk ⟨K, H, ι, N.length⟩ (L2.start N vs) H (ds.map Sl.vl ++ List.replicate (N.length - ds.length) Sl.un) st ι (fun _ => none) := by
  have hv := r.length
  refine ⟨Step.refl t, ?_, ?_, fun i => ?_, fun i j a h => by cases h⟩
  · unfold L2.start
    rw [List.length_append, List.length_map, List.length_replicate, hv]
    show ds.length + (N.length - ds.length) = N.length
    omega
  · rw [List.length_append, List.length_map, List.length_replicate]
    show ds.length + (N.length - ds.length) = N.length
    omega
  · rw [start_get]
    by_cases h : i < ds.length
    · have e : (ds.map Sl.vl ++ List.replicate (N.length - ds.length) Sl.un).getD i .un = .vl ds[i] := by
        rw [List.getD_eq_getElem?_getD, List.getElem?_append_left (by rw [List.length_map]; exact h), List.getElem?_map, List.getElem?_eq_getElem h]
        rfl
      rw [e, if_pos (by rw [hv]; exact h)]
      obtain ⟨u, hu, ru⟩ := r.get (List.getElem?_eq_getElem h)
      exact ⟨rfl, u, by rw [hu]; rfl, ru.weaken fun a n _ => ⟨(fun _ z => by cases z), n⟩⟩
    · have e : (ds.map Sl.vl ++ List.replicate (N.length - ds.length) Sl.un).getD i .un = .un := by
        rw [List.getD_eq_getElem?_getD, List.getElem?_append_right (by rw [List.length_map]; omega), List.getElem?_replicate]
        split <;> rfl
      rw [e]
      rfl
/-- THE RULE of a def -/
theorem fn_ok {x qual : Str} {params : Arguments} {body : List Stmt} {dvs : List V} {kws : List (Str × V)} {f : Addr} {fd : FuncData} {ps : List Str} {S : Sv} (F : FunD K x qual params body cf.sc dvs kws f fd) (Sc : FnScope cf.N ps cf.sc) (hps : ps.length ≤ cf.N.length) (hq : ∀ y, cf.fnq y = true)
    (B : SSs cf body) (hB : B.S = S) (c : CfK cf P w K mg base) : FnOk P w K mg base (L2.CX P w) (cf.lvl + 2) f fd ps (spD K (runFn ps.length (cf.N.length - ps.length) S)) := by
  subst hB
  refine F.ok Sc (fun vs H Q E h => ?_) fun cdv A outer s H vs Q E hr h => ?_
  · obtain ⟨ds, st, ι, t, r, q⟩ := h
    unfold runFn at q
    split at q
    · rename_i hl; rw [r.length, hl]
    · exact q.elim
  · obtain ⟨ds, st, ι, t, r, q⟩ := h
    unfold runFn at q
    split at q
    · rename_i hl
      let W : Wish := fun e st' => ∀ cls d H' ι', Step K H ι H' ι' st' → ExRep K ι' H' cls d e → E cls d H'
      let G : Gs := ⟨K, H, ι, cf.N.length⟩
      refine ⟨tS G W B.S, B.ok ?_, ?_⟩
      · refine ⟨⟨rfl, rfl, rfl, Sc.nd, rfl, rfl, fun _ _ => rfl, hr, ?_, c.free, fun y F m => ⟨(c.fns y F m).ex⟩, c.cons⟩, passes_of rfl, fun y hy m j p p2 pos g hdb => ?_⟩
        · refine Takes.imp (takes_of rfl rfl rfl rfl) fun cls d _ H' hx => ?_
          obtain ⟨e, st', ι', hw, xr, s'⟩ := hx
          exact hw cls d H' ι' s' xr
        · have k := c.excs y hy
          obtain ⟨Bn, newId, initId, bmB, F1, q1⟩ := k.ex
          exact pmk_own F1 q1 k.mg k.kp (raises_own k.sub k.ty) g hdb
      · have x0 := start_ok t r (N := cf.N) (by omega)
        rw [hl] at x0
        refine ⟨_, st, ι, _, x0, ?_⟩
        cases e : B.S st (ds.map Sl.vl ++ List.replicate (cf.N.length - ps.length) Sl.un) with
        | nx st' env' =>
          rw [e] at q
          exact fun σ' H' ι' O' _ x' => q .non H' ι' x'.base .non
        | rt d st' =>
          rw [e] at q
          exact fun u H' ι' s' r' => q u H' ι' s' r'
        | bk st' env' => rw [e] at q; exact (show False from q).elim
        | ct st' env' => rw [e] at q; exact (show False from q).elim
        | ex er st' => rw [e] at q; exact q
        | bad => rw [e] at q; exact q
    · exact q.elim
end
end Dl
end
section
set_option maxRecDepth 100000
set_option linter.all false
set_option Elab.async false
namespace Lw
open PySem PySem.Spec PyProof.Rows Dl
def C_MOST_PANES : D := .int 40
def C_MOST_KEYS : D := .int 20
def C_FAR : D := .int 1000000
def C_MARKS : D := .tup [.str (Str.ofString "asleep"), .str (Str.ofString "hidden"), .str (Str.ofString "hold"), .str (Str.ofString "one"), .str (Str.ofString "sheet"), .str (Str.ofString "stop")]
def C_WAYS : D := .tup [.str (Str.ofString "above"), .str (Str.ofString "back"), .str (Str.ofString "below"), .str (Str.ofString "in"), .str (Str.ofString "left"), .str (Str.ofString "next"), .str (Str.ofString "out"), .str (Str.ofString "right")]
def C_KEY_SIGNS : D := .str (Str.ofString "abcdefghijklmnopqrstuvwxyz0123456789")
def C_FAR_POINT : D := .int 1000000000
def C_FIGURES : D := .str (Str.ofString "0123456789")
def C_MOST_FIGURES : D := .int 10
def C_MOST_HANDS : D := .int 3
def C_ARROWS : D := .tup [.str (Str.ofString "above"), .str (Str.ofString "below"), .str (Str.ofString "left"), .str (Str.ofString "right")]
def B__law_draw : Sv :=
  (sSeq (sIf (tVal (eEq false (eIx (eVar 0) (eC (.int 1))) (eC (.int 1)))) (sSeq (sSet 2 (eMod (eIx (eVar 0) (eC (.int 0))) (eVar 1)))
    (sSeq (sPut 0 (eC (.int 0)) (eFdiv (eIx (eVar 0) (eC (.int 0))) (eVar 1)))
    (sRetVar 2))) sPass)
  (sSeq (sPut 0 (eC (.int 0)) (eMod (eAdd (eMul (eMod (eIx (eVar 0) (eC (.int 0))) (eC (.int 2147483629))) (eC (.int 48271))) (eC (.int 11))) (eC (.int 2147483629))))
  (sRet (eMod (eFdiv (eMod (eAdd (eMul (eIx (eVar 0) (eC (.int 0))) (eIx (eVar 0) (eC (.int 0)))) (eMul (eC (.int 40692)) (eIx (eVar 0) (eC (.int 0))))) (eC (.int 2147483647))) (eC (.int 8))) (eVar 1)))))
def F__law_draw : Fn := runFn 2 1 B__law_draw
def B__law_a_box : Sv :=
  (sSeq (sSets [1, 2] [(eSub (eCall F__law_draw (aCons (eVar 0) (aCons (eC (.int 12)) aNil))) (eC (.int 3))), (eSub (eCall F__law_draw (aCons (eVar 0) (aCons (eC (.int 12)) aNil))) (eC (.int 3)))])
  (sRet (eTup (aCons (eImm (eVar 1)) (aCons (eImm (eVar 2)) (aCons (eAdd (eC (.int 1)) (eCall F__law_draw (aCons (eVar 0) (aCons (eC (.int 12)) aNil)))) (aCons (eAdd (eC (.int 1)) (eCall F__law_draw (aCons (eVar 0) (aCons (eC (.int 12)) aNil)))) aNil)))))))
def F__law_a_box : Fn := runFn 1 2 B__law_a_box
def B__law_ways : Sv :=
  (sRet (eImm (eIx (eLst (aCons (eC (.str (Str.ofString "back"))) (aCons (eC (.str (Str.ofString "next"))) aNil))) (eCall F__law_draw (aCons (eVar 0) (aCons (eC (.int 2)) aNil))))))
def F__law_ways : Fn := runFn 1 0 B__law_ways
def B__law_a_deed : Sv :=
  (sSeq (sSet 2 (eLst (aCons (eTup (aCons (eC (.str (Str.ofString "say"))) (aCons (eSub (eCall F__law_draw (aCons (eVar 0) (aCons (eC (.int 9)) aNil))) (eC (.int 4))) aNil))) (aCons (eTup (aCons (eC (.str (Str.ofString "go"))) (aCons (eCall F__law_ways (aCons (eVar 0) aNil)) aNil))) (aCons (eTup (aCons (eC (.str (Str.ofString "still"))) aNil)) (aCons (eTup (aCons (eC (.str (Str.ofString "say"))) (aCons (ePow (eC (.int 10)) (eC (.int 6))) aNil))) (aCons (eTup (aCons (eC (.str (Str.ofString "shut"))) aNil)) aNil)))))))
  (sRet (eImm (eIx (eVar 2) (eCall F__law_draw (aCons (eVar 0) (aCons (eSub (eC (.int 5)) (eInt (eVar 1))) aNil)))))))
def F__law_a_deed : Fn := runFn 2 1 B__law_a_deed
def B__law_ups : Sv :=
  (sSeq (sSets [2, 3, 4] [(eLst (aCons (eC (.int 0)) aNil)), (eList (eSl (eVar 1) (pSome (eC (.int 1))) pNo)), eDict0])
  (sSeq (sWhile (tVal (eEq true (eVar 3) (eLst aNil))) (sSeq (sSetPopAt 5 3 (eCall F__law_draw (aCons (eVar 0) (aCons (eLen (eVar 3)) aNil))))
    (sSeq (sSet 6 (eLst (aCons (eC (.int 0)) (aCons (eImm (eIx (eVar 2) (eNeg (eC (.int 1))))) (aCons (eImm (eIx (eVar 2) (eCall F__law_draw (aCons (eVar 0) (aCons (eLen (eVar 2)) aNil))))) aNil)))))
    (sSeq (sPut 4 (eVar 5) (eImm (eIx (eVar 6) (eCall F__law_draw (aCons (eVar 0) (aCons (eC (.int 3)) aNil))))))
    (sApp 2 (eImm (eVar 5)))))))
  (sRetVar 4)))
def F__law_ups : Fn := runFn 2 5 B__law_ups
def B__law_marks : Sv :=
  (sSeq (sSet 2 (eLst (aCons (eTup (aCons (eC (.str (Str.ofString "asleep"))) (aCons (eC (.int 10)) aNil))) (aCons (eTup (aCons (eC (.str (Str.ofString "hidden"))) (aCons (eC (.int 10)) aNil))) (aCons (eTup (aCons (eC (.str (Str.ofString "hold"))) (aCons (eC (.int 6)) aNil))) (aCons (eTup (aCons (eC (.str (Str.ofString "one"))) (aCons (eC (.int 5)) aNil))) aNil))))))
  (sSeq (sSet 3 (eLcV 2 (iVar 2) (.tup [4, 5]) (tVal (eEq false (eCall F__law_draw (aCons (eVar 0) (aCons (eVar 5) aNil))) (eC (.int 0)))) (eImm (eVar 4))))
  (sSeq (sIf (tAnd (tVal (eEq false (eVar 1) (eC (.int 0)))) (tVal (eEq false (eCall F__law_draw (aCons (eVar 0) (aCons (eC (.int 4)) aNil))) (eC (.int 0))))) (sApp 3 (eC (.str (Str.ofString "sheet")))) sPass)
  (sSeq (sIf (tVal (eCm .gt (eCall F__law_draw (aCons (eVar 0) (aCons (eC (.int 4)) aNil))) (eC (.int 0)))) (sApp 3 (eC (.str (Str.ofString "stop")))) sPass)
  (sRet (eTuple (eVar 3)))))))
def F__law_marks : Fn := runFn 2 4 B__law_marks
def B__law_deed : Sv :=
  (sSeq (sSet 2 (eLst (aCons (eC (.str (Str.ofString "above"))) (aCons (eC (.str (Str.ofString "back"))) (aCons (eC (.str (Str.ofString "below"))) (aCons (eC (.str (Str.ofString "in"))) (aCons (eC (.str (Str.ofString "left"))) (aCons (eC (.str (Str.ofString "next"))) (aCons (eC (.str (Str.ofString "out"))) (aCons (eC (.str (Str.ofString "right"))) aNil))))))))))
  (sSeq (sSet 3 (eImm (eIx (eLst (aCons (eSub (eCall F__law_draw (aCons (eVar 0) (aCons (eC (.int 9)) aNil))) (eC (.int 4))) (aCons (ePow (eC (.int 10)) (eC (.int 6))) (aCons (eNeg (ePow (eC (.int 10)) (eC (.int 6)))) aNil)))) (eCall F__law_draw (aCons (eVar 0) (aCons (eC (.int 3)) aNil))))))
  (sSeq (sSet 4 (eLst (aCons (eTup (aCons (eC (.str (Str.ofString "say"))) (aCons (eImm (eVar 3)) aNil))) (aCons (eTup (aCons (eC (.str (Str.ofString "go"))) (aCons (eImm (eIx (eVar 2) (eCall F__law_draw (aCons (eVar 0) (aCons (eC (.int 8)) aNil))))) aNil))) (aCons (eTup (aCons (eC (.str (Str.ofString "still"))) aNil)) (aCons (eTup (aCons (eC (.str (Str.ofString "say"))) (aCons (eC (.int 0)) aNil))) (aCons (eTup (aCons (eC (.str (Str.ofString "shut"))) aNil)) aNil)))))))
  (sRet (eImm (eIx (eVar 4) (eCall F__law_draw (aCons (eVar 0) (aCons (eSub (eC (.int 5)) (eInt (eVar 1))) aNil)))))))))
def F__law_deed : Fn := runFn 2 3 B__law_deed
def B__law_keys : Sv :=
  (sSeq (sSet 2 (eLst (aCons (eC (.str (Str.ofString "0"))) (aCons (eC (.str (Str.ofString "a"))) (aCons (eC (.str (Str.ofString "esc"))) (aCons (eC (.str (Str.ofString "f1"))) (aCons (eC (.str (Str.ofString "q9z"))) (aCons (eC (.str (Str.ofString "shiftsay"))) aNil))))))))
  (sRet (eTuple (eLcV 2 (iVar 2) (.one 3) (tVal (eEq false (eCall F__law_draw (aCons (eVar 0) (aCons (eC (.int 4)) aNil))) (eC (.int 0)))) (eTup (aCons (eImm (eVar 3)) (aCons (eCall F__law_deed (aCons (eVar 0) (aCons (eVar 1) aNil))) aNil)))))))
def F__law_keys : Fn := runFn 2 2 B__law_keys
def B__law_names : Sv :=
  (sSeq (sSet 2 (eLst (aCons (eC (.int 0)) aNil)))
  (sSeq (sFor [] (iRange2 (eC (.int 1)) (eVar 1)) (.one 3) (sApp 2 (eAdd (eAdd (eIx (eVar 2) (eNeg (eC (.int 1)))) (eC (.int 1))) (eIx (eLst (aCons (eC (.int 0)) (aCons (eC (.int 0)) (aCons (eCall F__law_draw (aCons (eVar 0) (aCons (eC (.int 4)) aNil))) aNil)))) (eCall F__law_draw (aCons (eVar 0) (aCons (eC (.int 3)) aNil)))))))
  (sSeq (sIf (tAnd (tVal (eCm .gt (eVar 1) (eC (.int 1)))) (tVal (eEq false (eCall F__law_draw (aCons (eVar 0) (aCons (eC (.int 8)) aNil))) (eC (.int 0))))) (sPut 2 (eNeg (eC (.int 1))) (ePow (eC (.int 10)) (eC (.int 6)))) sPass)
  (sRetVar 2))))
def F__law_names : Fn := runFn 2 2 B__law_names
def B__law_box : Sv :=
  (sSeq (sSets [1, 2] [(eSub (eCall F__law_draw (aCons (eVar 0) (aCons (eC (.int 14)) aNil))) (eC (.int 4))), (eSub (eCall F__law_draw (aCons (eVar 0) (aCons (eC (.int 14)) aNil))) (eC (.int 4)))])
  (sRet (eTup (aCons (eImm (eVar 1)) (aCons (eImm (eVar 2)) (aCons (eAdd (eC (.int 1)) (eCall F__law_draw (aCons (eVar 0) (aCons (eC (.int 12)) aNil)))) (aCons (eAdd (eC (.int 1)) (eCall F__law_draw (aCons (eVar 0) (aCons (eC (.int 12)) aNil)))) aNil)))))))
def F__law_box : Fn := runFn 1 2 B__law_box
def B__law_plan : Sv :=
  (sSeq (sSet 1 (eCall F__law_names (aCons (eVar 0) (aCons (eIx (eLst (aCons (eAdd (eC (.int 1)) (eCall F__law_draw (aCons (eVar 0) (aCons (eC (.int 12)) aNil)))) (aCons (eAdd (eC (.int 4)) (eCall F__law_draw (aCons (eVar 0) (aCons (eC (.int 6)) aNil)))) aNil))) (eCall F__law_draw (aCons (eVar 0) (aCons (eC (.int 2)) aNil)))) aNil))))
  (sSeq (sSets [2, 3] [(eCall F__law_ups (aCons (eVar 0) (aCons (eVar 1) aNil))), (eCall F__law_draw (aCons (eVar 0) (aCons (eC (.int 9)) aNil)))])
  (sSeq (sSet 4 (eTup (aCons (eC (.int 0)) (aCons (eC (.int 0)) (aCons (eAdd (eC (.int 6)) (eCall F__law_draw (aCons (eVar 0) (aCons (eC (.int 14)) aNil)))) (aCons (eAdd (eC (.int 6)) (eCall F__law_draw (aCons (eVar 0) (aCons (eC (.int 14)) aNil)))) aNil))))))
  (sSeq (sSet 5 (eLst (aCons (eTup (aCons (eC (.int 0)) (aCons (eC (.non)) (aCons (eImm (eVar 4)) (aCons (eC (.int 0)) (aCons (eTup aNil) (aCons (eCall F__law_keys (aCons (eVar 0) (aCons (eC (.bl true)) aNil))) aNil))))))) aNil)))
  (sSeq (sFor [] (iExp (eSl (eVar 1) (pSome (eC (.int 1))) pNo)) (.one 6) (sSeq (sSet 7 (eImm (eIx (eLst (aCons (eC (.int 0)) (aCons (eC (.int 0)) (aCons (eSub (eCall F__law_draw (aCons (eVar 0) (aCons (eC (.int 5)) aNil))) (eC (.int 2))) (aCons (ePow (eC (.int 10)) (eC (.int 6))) (aCons (eNeg (ePow (eC (.int 10)) (eC (.int 6)))) aNil)))))) (eCall F__law_draw (aCons (eVar 0) (aCons (eC (.int 5)) aNil))))))
    (sSeq (sSets [8, 9] [(eCall F__law_box (aCons (eVar 0) aNil)), (eCall F__law_marks (aCons (eVar 0) (aCons (eIx (eVar 2) (eVar 6)) aNil)))])
    (sSeq (sIf (tAnd (tVal (eEq false (eVar 3) (eC (.int 0)))) (tVal (eEq false (eCall F__law_draw (aCons (eVar 0) (aCons (eC (.int 3)) aNil))) (eC (.int 0))))) (sSeq (sSet 10 (ePow (eC (.int 10)) (eC (.int 6))))
      (sSet 8 (eImm (eIx (eLst (aCons (eTup (aCons (eC (.int 0)) (aCons (eImm (eVar 10)) (aCons (eC (.int 1)) (aCons (eImm (eVar 10)) aNil))))) (aCons (eTup (aCons (eNeg (eVar 10)) (aCons (eNeg (eVar 10)) (aCons (eImm (eVar 10)) (aCons (eImm (eVar 10)) aNil))))) aNil))) (eCall F__law_draw (aCons (eVar 0) (aCons (eC (.int 2)) aNil))))))) sPass)
    (sApp 5 (eTup (aCons (eImm (eVar 6)) (aCons (eImm (eIx (eVar 2) (eVar 6))) (aCons (eImm (eVar 8)) (aCons (eImm (eVar 7)) (aCons (eImm (eVar 9)) (aCons (eCall F__law_keys (aCons (eVar 0) (aCons (eC (.bl false)) aNil))) aNil))))))))))))
  (sRet (eTuple (eVar 5))))))))
def F__law_plan : Fn := runFn 1 10 B__law_plan
def B__law_line : Sv :=
  (sSeq (sSets [2, 3] [(eDict (eLcV 0 (iVar 0) (.one 4) tTrue (eTup (aCons (eImm (eIx (eVar 4) (eC (.int 0)))) (aCons (eImm (eIx (eVar 4) (eC (.int 1)))) aNil))))), (eLst (aCons (eImm (eVar 1)) aNil))])
  (sSeq (sWhile (tVal (eIsN true (eIx (eVar 2) (eIx (eVar 3) (eNeg (eC (.int 1))))))) (sApp 3 (eImm (eIx (eVar 2) (eIx (eVar 3) (eNeg (eC (.int 1))))))))
  (sRetVar 3)))
def F__law_line : Fn := runFn 2 3 B__law_line
def B__law_pane : Sv :=
  (sRet (eImm (eIx (eLcV 0 (iVar 0) (.one 2) (tVal (eEq false (eIx (eVar 2) (eC (.int 0))) (eVar 1))) (eImm (eVar 2))) (eC (.int 0)))))
def F__law_pane : Fn := runFn 2 1 B__law_pane
def B__law_span : Sv :=
  (sSeq (sSets [3, 4, 5] [(eC (.int 0)), (eC (.non)), (eC (.non))])
  (sSeq (sFor [] (iExp (eRev (eCall F__law_line (aCons (eVar 0) (aCons (eVar 1) aNil))))) (.one 6) (sSeq (sSet 7 (eImm (eIx (eCall F__law_pane (aCons (eVar 0) (aCons (eVar 6) aNil))) (eC (.int 2)))))
    (sSeq (sSet 3 (eAdd (eVar 3) (eIx (eVar 7) (eVar 2))))
    (sSeq (sSet 4 (eImm (eIf (tVal (eIsN false (eVar 4))) (eVar 3) (eMax2 (eVar 4) (eVar 3)))))
    (sSet 5 (eIf (tVal (eIsN false (eVar 5))) (eAdd (eVar 3) (eIx (eVar 7) (eAdd (eVar 2) (eC (.int 2))))) (eMin2 (eVar 5) (eAdd (eVar 3) (eIx (eVar 7) (eAdd (eVar 2) (eC (.int 2))))))))))))
  (sRet (eTup (aCons (eImm (eVar 4)) (aCons (eImm (eVar 5)) aNil))))))
def F__law_span : Fn := runFn 3 5 B__law_span
def B__law_pick : Sv :=
  (sRet (eImm (eIx (eVar 1) (eCall F__law_draw (aCons (eVar 0) (aCons (eLen (eVar 1)) aNil))))))
def F__law_pick : Fn := runFn 2 0 B__law_pick
def B__law_way : Sv :=
  (sRet (eCall F__law_pick (aCons (eVar 0) (aCons (eLst (aCons (eC (.str (Str.ofString "above"))) (aCons (eC (.str (Str.ofString "back"))) (aCons (eC (.str (Str.ofString "below"))) (aCons (eC (.str (Str.ofString "in"))) (aCons (eC (.str (Str.ofString "left"))) (aCons (eC (.str (Str.ofString "next"))) (aCons (eC (.str (Str.ofString "next"))) (aCons (eC (.str (Str.ofString "out"))) (aCons (eC (.str (Str.ofString "right"))) aNil)))))))))) aNil))))
def F__law_way : Fn := runFn 1 0 B__law_way
def B__law_living : Sv :=
  (sSeq (sSet 1 (eDict (eLcV 0 (iVar 0) (.one 2) tTrue (eTup (aCons (eImm (eIx (eVar 2) (eC (.int 0)))) (aCons (eImm (eIx (eVar 2) (eC (.int 4)))) aNil))))))
  (sSeq (sSet 3 (eLcV 1 (iVar 1) (.one 4) (tOr (tVal (eIn false (eC (.str (Str.ofString "asleep"))) (eIx (eVar 1) (eVar 4)))) (tVal (eIn false (eC (.str (Str.ofString "hidden"))) (eIx (eVar 1) (eVar 4))))) (eImm (eVar 4))))
  (sRet (eLcV 1 (iVar 1) (.one 4) (tVal (eEq false (eLc (iExp (eCall F__law_line (aCons (eVar 0) (aCons (eVar 4) aNil)))) (.one 5) (tVal (eIn false (eVar 5) (eVar 3))) (eImm (eVar 5))) (eLst aNil))) (eImm (eVar 4))))))
def F__law_living : Fn := runFn 1 5 B__law_living
def B__law_reign : Sv :=
  (sSeq (sSet 1 (eCall F__law_living (aCons (eVar 0) aNil)))
  (sRet (eMax1 (eAdd (eLst (aCons (eC (.int 0)) aNil)) (eLcV 0 (iVar 0) (.one 2) (tAnd (tVal (eIn false (eC (.str (Str.ofString "sheet"))) (eIx (eVar 2) (eC (.int 4))))) (tVal (eIn false (eIx (eVar 2) (eC (.int 0))) (eVar 1)))) (eImm (eIx (eVar 2) (eC (.int 0)))))))))
def F__law_reign : Fn := runFn 1 2 B__law_reign
def B__law_open : Sv :=
  (sSeq (sSet 1 (eCall F__law_reign (aCons (eVar 0) aNil)))
  (sRet (eLc (iExp (eCall F__law_living (aCons (eVar 0) aNil))) (.one 2) (tVal (eIn false (eVar 1) (eCall F__law_line (aCons (eVar 0) (aCons (eVar 2) aNil))))) (eImm (eVar 2)))))
def F__law_open : Fn := runFn 1 2 B__law_open
def B__law_walk : Sv :=
  (sSeq (sSets [2, 3] [(eLst aNil), (eLst (aCons (eImm (eVar 1)) aNil))])
  (sSeq (sWhile (tVal (eEq true (eVar 3) (eLst aNil))) (sSeq (sAppPop 2 3)
    (sSeq (sSet 4 (eSorted (eLcV 0 (iVar 0) (.one 5) (tVal (eEq false (eIx (eVar 5) (eC (.int 1))) (eIx (eVar 2) (eNeg (eC (.int 1)))))) (eTup (aCons (eImm (eIx (eVar 5) (eC (.int 3)))) (aCons (eImm (eIx (eVar 5) (eC (.int 0)))) aNil))))))
    (sExt 3 (eLc (iExp (eRev (eVar 4))) (.tup [6, 7]) tTrue (eImm (eVar 7)))))))
  (sRetVar 2)))
def F__law_walk : Fn := runFn 2 6 B__law_walk
def B__law_stops : Sv :=
  (sSeq (sSet 2 (eCall F__law_open (aCons (eVar 0) aNil)))
  (sRet (eLc (iExp (eCall F__law_walk (aCons (eVar 0) (aCons (eVar 1) aNil)))) (.one 3) (tAnd (tVal (eIn false (eVar 3) (eVar 2))) (tVal (eIn false (eC (.str (Str.ofString "stop"))) (eIx (eCall F__law_pane (aCons (eVar 0) (aCons (eVar 3) aNil))) (eC (.int 4)))))) (eImm (eVar 3)))))
def F__law_stops : Fn := runFn 2 2 B__law_stops
def B__law_field : Sv :=
  (sSeq (sFor [] (iExp (eCall F__law_line (aCons (eVar 0) (aCons (eVar 1) aNil)))) (.one 2) (sIf (tVal (eIn false (eC (.str (Str.ofString "hold"))) (eIx (eCall F__law_pane (aCons (eVar 0) (aCons (eVar 2) aNil))) (eC (.int 4))))) (sRetVar 2) sPass))
  (sRet (eCall F__law_reign (aCons (eVar 0) aNil))))
def F__law_field : Fn := runFn 2 1 B__law_field
def B__law_shows : Sv :=
  (sSeq (sSet 2 (eLc (iExp (eTup (aCons (eC (.int 0)) (aCons (eC (.int 1)) aNil)))) (.one 3) tTrue (eCall F__law_span (aCons (eVar 0) (aCons (eVar 1) (aCons (eVar 3) aNil))))))
  (sRet (eAnd (eCm .lt (eIx (eIx (eVar 2) (eC (.int 0))) (eC (.int 0))) (eIx (eIx (eVar 2) (eC (.int 0))) (eC (.int 1)))) (eCm .lt (eIx (eIx (eVar 2) (eC (.int 1))) (eC (.int 0))) (eIx (eIx (eVar 2) (eC (.int 1))) (eC (.int 1)))))))
def F__law_shows : Fn := runFn 2 2 B__law_shows
def B__law_aim : Sv :=
  (sSeq (sSets [3, 4] [(eInt (eIn false (eVar 2) (eTup (aCons (eC (.str (Str.ofString "above"))) (aCons (eC (.str (Str.ofString "below"))) aNil))))), (eC (.non))])
  (sSeq (sSets [5, 6] [(eCall F__law_span (aCons (eVar 0) (aCons (eVar 1) (aCons (eVar 3) aNil)))), (eCall F__law_span (aCons (eVar 0) (aCons (eVar 1) (aCons (eSub (eC (.int 1)) (eVar 3)) aNil))))])
  (sSeq (sFor [] (iExp (eCall F__law_stops (aCons (eVar 0) (aCons (eCall F__law_field (aCons (eVar 0) (aCons (eVar 1) aNil))) aNil)))) (.one 7) (sIf (tAnd (tVal (eEq true (eVar 7) (eVar 1))) (tAnd (tTruth (eCall F__law_shows (aCons (eVar 0) (aCons (eVar 7) aNil)))) (tTruth (eCall F__law_shows (aCons (eVar 0) (aCons (eVar 1) aNil)))))) (sSeq (sSets [8, 9] [(eCall F__law_span (aCons (eVar 0) (aCons (eVar 7) (aCons (eVar 3) aNil)))), (eCall F__law_span (aCons (eVar 0) (aCons (eVar 7) (aCons (eSub (eC (.int 1)) (eVar 3)) aNil))))])
      (sSeq (sSet 10 (eIf (tVal (eIn false (eVar 2) (eTup (aCons (eC (.str (Str.ofString "below"))) (aCons (eC (.str (Str.ofString "right"))) aNil))))) (eSub (eIx (eVar 8) (eC (.int 0))) (eIx (eVar 5) (eC (.int 1)))) (eSub (eIx (eVar 5) (eC (.int 0))) (eIx (eVar 8) (eC (.int 1))))))
      (sSeq (sSet 11 (eMax2 (eC (.int 0)) (eAdd (eC (.int 1)) (eMax2 (eSub (eIx (eVar 9) (eC (.int 0))) (eIx (eVar 6) (eC (.int 1)))) (eSub (eIx (eVar 6) (eC (.int 0))) (eIx (eVar 9) (eC (.int 1))))))))
      (sSeq (sSet 12 (eTup (aCons (eImm (eVar 11)) (aCons (eImm (eVar 10)) (aCons (eImm (eIx (eVar 9) (eC (.int 0)))) (aCons (eImm (eVar 7)) aNil))))))
      (sIf (tAnd (tVal (eCm .ge (eVar 10) (eC (.int 0)))) (tOr (tVal (eIsN false (eVar 4))) (tVal (eCm .lt (eVar 12) (eVar 4))))) (sSet 4 (eImm (eVar 12))) sPass))))) sPass))
  (sRet (eImm (eIf (tVal (eIsN false (eVar 4))) (eC (.non)) (eIx (eVar 4) (eC (.int 3)))))))))
def F__law_aim : Fn := runFn 3 10 B__law_aim
def B__law_deed_text : Sv :=
  (sRet (eImm (eIf (tVal (eEq false (eLen (eVar 0)) (eC (.int 1)))) (eIx (eVar 0) (eC (.int 0))) (eAdd (eAdd (eIx (eVar 0) (eC (.int 0))) (eC (.str (Str.ofString ":")))) (eStr (eIx (eVar 0) (eC (.int 1))))))))
def F__law_deed_text : Fn := runFn 1 0 B__law_deed_text
def B__law_answer : Sv :=
  (sSeq (sIf (tVal (eEq false (eIx (eVar 0) (eC (.int 0))) (eC (.str (Str.ofString "strike"))))) (sRet (eIf (tVal (eIsN false (eVar 1))) (eC (.str (Str.ofString "-"))) (eAdd (eAdd (eStr (eIx (eVar 1) (eC (.int 0)))) (eC (.str (Str.ofString " ")))) (eCall F__law_deed_text (aCons (eIx (eVar 1) (eC (.int 1))) aNil))))) sPass)
  (sRet (eIf (tVal (eIsN false (eVar 1))) (eC (.str (Str.ofString "ok"))) (eStr (eVar 1)))))
def F__law_answer : Fn := runFn 2 0 B__law_answer
def B__law_has : Sv :=
  (sSeq (sSets [4, 5] [(eCall F__law_span (aCons (eVar 0) (aCons (eVar 1) (aCons (eC (.int 0)) aNil)))), (eCall F__law_span (aCons (eVar 0) (aCons (eVar 1) (aCons (eC (.int 1)) aNil))))])
  (sRet (eAnd (eChain .le .lt (eIx (eVar 4) (eC (.int 0))) (eVar 2) (eIx (eVar 4) (eC (.int 1)))) (eChain .le .lt (eIx (eVar 5) (eC (.int 0))) (eVar 3) (eIx (eVar 5) (eC (.int 1)))))))
def F__law_has : Fn := runFn 4 2 B__law_has
def B__law_at : Sv :=
  (sSeq (sIf (tNot (tTruth (eCall F__law_has (aCons (eVar 0) (aCons (eC (.int 0)) (aCons (eVar 1) (aCons (eVar 2) aNil))))))) (sRet (eC (.non))) sPass)
  (sSeq (sSet 3 (eLst (aCons (eC (.int 0)) aNil)))
  (sSeq (sWhile (tVal (eEq true (eVar 3) (eLst aNil))) (sSeq (sSet 4 (eImm (eIx (eVar 3) (eNeg (eC (.int 1))))))
    (sSeq (sSet 5 (eLcV 0 (iVar 0) (.one 6) (tAnd (tVal (eEq false (eIx (eVar 6) (eC (.int 1))) (eVar 4))) (tVal (eIn true (eC (.str (Str.ofString "hidden"))) (eIx (eVar 6) (eC (.int 4)))))) (eImm (eVar 6))))
    (sSeq (sSet 5 (eLcV 5 (iVar 5) (.one 6) (tTruth (eCall F__law_has (aCons (eVar 0) (aCons (eIx (eVar 6) (eC (.int 0))) (aCons (eVar 1) (aCons (eVar 2) aNil)))))) (eImm (eVar 6))))
    (sSet 3 (eLc (iExp (eSorted (eLcV 5 (iVar 5) (.one 6) tTrue (eTup (aCons (eIn false (eC (.str (Str.ofString "sheet"))) (eIx (eVar 6) (eC (.int 4)))) (aCons (eImm (eIx (eVar 6) (eC (.int 0)))) aNil)))))) (.tup [7, 8]) tTrue (eImm (eVar 8))))))))
  (sRetVar 4))))
def F__law_at : Fn := runFn 3 6 B__law_at
def B__law_goods : Sv :=
  (sSeq (sSets [1, 2] [(eCall F__law_reign (aCons (eVar 0) aNil)), (eCall F__law_open (aCons (eVar 0) aNil))])
  (sRet (eLcV 0 (iVar 0) (.one 3) (tAnd (tVal (eIn false (eIx (eVar 3) (eC (.int 0))) (eVar 2))) (tOr (tVal (eEq false (eIx (eVar 3) (eC (.int 0))) (eVar 1))) (tVal (eIn false (eC (.str (Str.ofString "stop"))) (eIx (eVar 3) (eC (.int 4))))))) (eImm (eIx (eVar 3) (eC (.int 0)))))))
def F__law_goods : Fn := runFn 1 3 B__law_goods
def B__law_row : Sv :=
  (sSeq (sSets [2, 3] [(eLcV 1 (iVar 1) (.one 4) tTrue (eImm (eIx (eVar 4) (eC (.int 0))))), (eLst aNil)])
  (sSeq (sFor [] (iRange1 (eCall F__law_draw (aCons (eVar 0) (aCons (eLen (eVar 1)) aNil)))) (.one 5) (sAppPopAt 3 2 (eCall F__law_draw (aCons (eVar 0) (aCons (eLen (eVar 2)) aNil)))))
  (sSeq (sSet 6 (eCall F__law_goods (aCons (eVar 1) aNil)))
  (sSeq (sSet 7 (eImm (eIx (eVar 6) (eCall F__law_draw (aCons (eVar 0) (aCons (eLen (eVar 6)) aNil))))))
  (sRet (eTuple (eAdd (eLcV 3 (iVar 3) (.one 8) (tVal (eEq true (eVar 8) (eVar 7))) (eImm (eVar 8))) (eLst (aCons (eImm (eVar 7)) aNil)))))))))
def F__law_row : Fn := runFn 2 7 B__law_row
def B__law_turned : Sv :=
  (sSeq (sSet 2 (eImm (eIx (eVar 1) (eC (.int 2)))))
  (sSeq (sIf (tVal (eEq false (eIx (eVar 1) (eC (.int 0))) (eC (.str (Str.ofString "mark"))))) (sSeq (sSet 3 (eLc (iExp (eImm (eIx (eVar 0) (eC (.int 4))))) (.one 4) (tVal (eEq true (eVar 4) (eVar 2))) (eImm (eVar 4))))
    (sSeq (sSet 3 (eImm (eIf (tVal (eIn false (eVar 2) (eIx (eVar 0) (eC (.int 4))))) (eVar 3) (eSorted (eAdd (eVar 3) (eLst (aCons (eImm (eVar 2)) aNil)))))))
    (sRet (eAdd (eSl (eVar 0) pNo (pSome (eC (.int 4)))) (eTup (aCons (eTuple (eVar 3)) (aCons (eImm (eIx (eVar 0) (eC (.int 5)))) aNil))))))) sPass)
  (sSeq (sIf (tVal (eEq false (eIx (eVar 1) (eC (.int 0))) (eC (.str (Str.ofString "teach"))))) (sSeq (sSet 5 (eLc (iExp (eImm (eIx (eVar 0) (eC (.int 5))))) (.one 4) (tVal (eEq true (eIx (eVar 4) (eC (.int 0))) (eVar 2))) (eImm (eVar 4))))
    (sSeq (sSet 5 (eImm (eIf (tVal (eIsN false (eIx (eVar 1) (eC (.int 3))))) (eVar 5) (eSorted (eAdd (eVar 5) (eLst (aCons (eTup (aCons (eImm (eVar 2)) (aCons (eImm (eIx (eVar 1) (eC (.int 3)))) aNil))) aNil)))))))
    (sRet (eAdd (eSl (eVar 0) pNo (pSome (eC (.int 5)))) (eTup (aCons (eTuple (eVar 5)) aNil)))))) sPass)
  (sSeq (sSet 6 (eAdd (eIndex (eLst (aCons (eC (.str (Str.ofString "hang"))) (aCons (eC (.str (Str.ofString "box"))) (aCons (eC (.str (Str.ofString "order"))) aNil)))) (eIx (eVar 1) (eC (.int 0)))) (eC (.int 1))))
  (sRet (eAdd (eAdd (eSl (eVar 0) pNo (pSome (eVar 6))) (eTup (aCons (eImm (eVar 2)) aNil))) (eSl (eVar 0) (pSome (eAdd (eVar 6) (eC (.int 1)))) pNo)))))))
def F__law_turned : Fn := runFn 2 5 B__law_turned
def B__law_settle : Sv :=
  (sSeq (sSet 2 (eLcV 1 (iVar 1) (.one 3) (tVal (eIn false (eVar 3) (eLcV 0 (iVar 0) (.one 4) tTrue (eImm (eIx (eVar 4) (eC (.int 0))))))) (eImm (eVar 3))))
  (sSeq (sSet 5 (eCall F__law_goods (aCons (eVar 0) aNil)))
  (sSeq (sSet 6 (eLcV 2 (iVar 2) (.one 3) (tVal (eIn false (eVar 3) (eVar 5))) (eImm (eVar 3))))
  (sSeq (sIf (tVal (eEq false (eVar 6) (eLst aNil))) (sSet 6 (eSl (eOr (eCall F__law_stops (aCons (eVar 0) (aCons (eCall F__law_reign (aCons (eVar 0) aNil)) aNil))) (eLst (aCons (eCall F__law_reign (aCons (eVar 0) aNil)) aNil))) pNo (pSome (eC (.int 1))))) sPass)
  (sRet (eTuple (eAdd (eLcV 2 (iVar 2) (.one 3) (tVal (eEq true (eVar 3) (eIx (eVar 6) (eNeg (eC (.int 1)))))) (eImm (eVar 3))) (eLst (aCons (eImm (eIx (eVar 6) (eNeg (eC (.int 1))))) aNil)))))))))
def F__law_settle : Fn := runFn 2 5 B__law_settle
def B__law_on_plan : Sv :=
  (sSeq (sSets [2, 3, 4] [(eImm (eIx (eVar 0) (eC (.int 0)))), (eImm (eIx (eVar 0) (eC (.int 2)))), (eC (.non))])
  (sSeq (sIf (tVal (eIn false (eIx (eVar 1) (eC (.int 0))) (eTup (aCons (eC (.str (Str.ofString "put"))) (aCons (eC (.str (Str.ofString "over"))) aNil))))) (sSeq (sSets [3, 4] [(eAdd (eVar 3) (eC (.int 1))), (eAdd (eVar 3) (eC (.int 1)))])
    (sSeq (sSet 5 (eAdd (eTup (aCons (eImm (eVar 3)) aNil)) (eSl (eVar 1) (pSome (eC (.int 1))) pNo)))
    (sSeq (sIf (tVal (eEq false (eIx (eVar 1) (eC (.int 0))) (eC (.str (Str.ofString "over"))))) (sSet 5 (eTup (aCons (eImm (eVar 3)) (aCons (eC (.int 0)) (aCons (eImm (eIx (eVar 1) (eC (.int 1)))) (aCons (eC (.int 0)) (aCons (eTuple (eSorted (eAdd (eList (eIx (eVar 1) (eC (.int 2)))) (eLst (aCons (eC (.str (Str.ofString "sheet"))) aNil))))) (aCons (eImm (eIx (eVar 1) (eC (.int 3)))) aNil)))))))) sPass)
    (sSet 2 (eAdd (eVar 2) (eTup (aCons (eImm (eVar 5)) aNil))))))) (sIf (tVal (eEq false (eIx (eVar 1) (eC (.int 0))) (eC (.str (Str.ofString "shut"))))) (sSeq (sSet 2 (eTuple (eLcV 2 (iVar 2) (.one 6) (tVal (eIn true (eIx (eVar 1) (eC (.int 1))) (eCall F__law_line (aCons (eVar 2) (aCons (eIx (eVar 6) (eC (.int 0))) aNil))))) (eImm (eVar 6)))))
      (sSet 4 (eSub (eLen (eIx (eVar 0) (eC (.int 0)))) (eLen (eVar 2))))) (sSeq (sSet 6 (eCall F__law_turned (aCons (eCall F__law_pane (aCons (eVar 2) (aCons (eIx (eVar 1) (eC (.int 1))) aNil))) (aCons (eVar 1) aNil))))
      (sSet 2 (eTuple (eLcV 2 (iVar 2) (.one 7) tTrue (eImm (eIf (tVal (eEq false (eIx (eVar 7) (eC (.int 0))) (eIx (eVar 1) (eC (.int 1))))) (eVar 6) (eVar 7)))))))))
  (sRet (eTup (aCons (eTup (aCons (eImm (eVar 2)) (aCons (eTuple (eLc (iExp (eImm (eIx (eVar 0) (eC (.int 1))))) (.one 8) tTrue (eCall F__law_settle (aCons (eVar 2) (aCons (eVar 8) aNil))))) (aCons (eImm (eVar 3)) aNil)))) (aCons (eImm (eVar 4)) aNil))))))
def F__law_on_plan : Fn := runFn 2 7 B__law_on_plan
def B__law_doer : Sv :=
  (sSeq (sFor [] (iExp (eCall F__law_line (aCons (eVar 0) (aCons (eVar 1) aNil)))) (.one 3) (sIf (tVal (eIn false (eCall F__law_reign (aCons (eVar 0) aNil)) (eCall F__law_line (aCons (eVar 0) (aCons (eVar 3) aNil))))) (sFor [] (iExp (eImm (eIx (eCall F__law_pane (aCons (eVar 0) (aCons (eVar 3) aNil))) (eC (.int 5))))) (.tup [4, 5]) (sIf (tVal (eEq false (eVar 4) (eVar 2))) (sRet (eTup (aCons (eImm (eVar 3)) (aCons (eImm (eVar 5)) aNil)))) sPass)) sPass))
  (sRet (eC (.non))))
def F__law_doer : Fn := runFn 3 3 B__law_doer
def B__law_moved : Sv :=
  (sRet (eAdd (eTuple (eLcV 0 (iVar 0) (.one 2) (tVal (eEq true (eVar 2) (eVar 1))) (eImm (eVar 2)))) (eTup (aCons (eImm (eVar 1)) aNil))))
def F__law_moved : Fn := runFn 2 1 B__law_moved
def B__law_round : Sv :=
  (sSeq (sSets [2, 3] [(eCall F__law_field (aCons (eVar 0) (aCons (eIx (eVar 1) (eNeg (eC (.int 1)))) aNil))), eDict0])
  (sSeq (sSet 4 (eCall F__law_stops (aCons (eVar 0) (aCons (eVar 2) aNil))))
  (sSeq (sForV 4 (iVar 4) (.one 5) (sSeq (sSet 6 (eCall F__law_line (aCons (eVar 0) (aCons (eVar 5) aNil))))
    (sSeq (sSet 7 (eLc (iExp (eSl (eVar 6) pNo (pSome (eAdd (eIndex (eVar 6) (eVar 2)) (eC (.int 1)))))) (.one 8) (tVal (eIn false (eC (.str (Str.ofString "one"))) (eIx (eCall F__law_pane (aCons (eVar 0) (aCons (eVar 8) aNil))) (eC (.int 4))))) (eImm (eVar 8))))
    (sSeq (sSet 9 (eImm (eIf (tVal (eEq true (eVar 7) (eLst aNil))) (eIx (eVar 7) (eNeg (eC (.int 1)))) (eSub (eNeg (eC (.int 1))) (eVar 5)))))
    (sPut 3 (eVar 9) (eAdd (eGet2 (eVar 3) (eVar 9) (eLst aNil)) (eLst (aCons (eImm (eVar 5)) aNil))))))))
  (sSeq (sSet 10 (eLst aNil))
  (sSeq (sForV 3 (iVals 3) (.one 11) (sSeq (sSet 12 (eLcV 1 (iVar 1) (.one 5) (tVal (eIn false (eVar 5) (eVar 11))) (eImm (eVar 5))))
    (sApp 10 (eImm (eIf (tVal (eEq true (eVar 12) (eLst aNil))) (eIx (eVar 12) (eNeg (eC (.int 1)))) (eIx (eVar 11) (eC (.int 0))))))))
  (sRet (eLcV 4 (iVar 4) (.one 5) (tVal (eIn false (eVar 5) (eVar 10))) (eImm (eVar 5)))))))))
def F__law_round : Fn := runFn 2 11 B__law_round
def B__law_on : Sv :=
  (sSeq (sSet 3 (eCall F__law_round (aCons (eVar 0) (aCons (eVar 1) aNil))))
  (sSeq (sIf (tVal (eEq false (eVar 3) (eLst aNil))) (sRet (eImm (eIx (eVar 1) (eNeg (eC (.int 1)))))) sPass)
  (sSeq (sIf (tVal (eIn true (eIx (eVar 1) (eNeg (eC (.int 1)))) (eVar 3))) (sRet (eImm (eIf (tVal (eEq false (eVar 2) (eC (.int 1)))) (eIx (eVar 3) (eC (.int 0))) (eIx (eVar 3) (eNeg (eC (.int 1))))))) sPass)
  (sRet (eImm (eIx (eVar 3) (eMod (eAdd (eIndex (eVar 3) (eIx (eVar 1) (eNeg (eC (.int 1))))) (eVar 2)) (eLen (eVar 3)))))))))
def F__law_on : Fn := runFn 3 1 B__law_on
def B__law_gone : Sv :=
  (sRet (eCall F__law_moved (aCons (eVar 1) (aCons (eCall F__law_on (aCons (eVar 0) (aCons (eVar 1) (aCons (eIf (tVal (eEq false (eVar 2) (eC (.str (Str.ofString "next"))))) (eC (.int 1)) (eNeg (eC (.int 1)))) aNil)))) aNil))))
def F__law_gone : Fn := runFn 3 0 B__law_gone
def B__law_by_hand : Sv :=
  (sSeq (sUnpack [2, 3, 4] (eVarC 0))
  (sSeq (sSets [5, 6] [(eImm (eIx (eVar 3) (eIx (eVar 1) (eC (.int 1))))), (eC (.non))])
  (sSeq (sIf (tVal (eEq false (eIx (eVar 1) (eC (.int 0))) (eC (.str (Str.ofString "strike"))))) (sSeq (sSet 6 (eCall F__law_doer (aCons (eVar 2) (aCons (eIx (eVar 5) (eNeg (eC (.int 1)))) (aCons (eIx (eVar 1) (eC (.int 2))) aNil)))))
    (sSeq (sIf (tVal (eIsN false (eVar 6))) (sRet (eTup (aCons (eImm (eVar 0)) (aCons (eC (.non)) aNil)))) sPass)
    (sSeq (sIf (tVal (eEq false (eIx (eIx (eVar 6) (eC (.int 1))) (eC (.int 0))) (eC (.str (Str.ofString "shut"))))) (sRet (eTup (aCons (eImm (eIx (eCall F__law_on_plan (aCons (eVar 0) (aCons (eTup (aCons (eC (.str (Str.ofString "shut"))) (aCons (eImm (eIx (eVar 6) (eC (.int 0)))) aNil))) aNil))) (eC (.int 0)))) (aCons (eImm (eVar 6)) aNil)))) sPass)
    (sIf (tVal (eEq false (eIx (eIx (eVar 6) (eC (.int 1))) (eC (.int 0))) (eC (.str (Str.ofString "go"))))) (sSet 5 (eCall F__law_gone (aCons (eVar 2) (aCons (eVar 5) (aCons (eIx (eIx (eVar 6) (eC (.int 1))) (eC (.int 1))) aNil))))) sPass)))) (sIf (tVal (eEq false (eIx (eVar 1) (eC (.int 0))) (eC (.str (Str.ofString "give"))))) (sSet 5 (eCall F__law_moved (aCons (eVar 5) (aCons (eIx (eVar 1) (eC (.int 2))) aNil)))) (sSet 5 (eCall F__law_gone (aCons (eVar 2) (aCons (eVar 5) (aCons (eIx (eVar 1) (eC (.int 2))) aNil)))))))
  (sSeq (sSet 3 (eAdd (eAdd (eSl (eVar 3) pNo (pSome (eIx (eVar 1) (eC (.int 1))))) (eTup (aCons (eImm (eVar 5)) aNil))) (eSl (eVar 3) (pSome (eAdd (eIx (eVar 1) (eC (.int 1))) (eC (.int 1)))) pNo)))
  (sRet (eTup (aCons (eTup (aCons (eImm (eVar 2)) (aCons (eImm (eVar 3)) (aCons (eImm (eVar 4)) aNil)))) (aCons (eImm (eIf (tVal (eEq false (eIx (eVar 1) (eC (.int 0))) (eC (.str (Str.ofString "strike"))))) (eVar 6) (eIx (eVar 5) (eNeg (eC (.int 1)))))) aNil))))))))
def F__law_by_hand : Fn := runFn 2 5 B__law_by_hand
def B__law_behind : Sv :=
  (sSeq (sIf (tVal (eIn false (eIx (eVar 1) (eC (.int 0))) (eTup (aCons (eC (.str (Str.ofString "give"))) (aCons (eC (.str (Str.ofString "go"))) (aCons (eC (.str (Str.ofString "strike"))) aNil)))))) (sRet (eCall F__law_by_hand (aCons (eVar 0) (aCons (eVar 1) aNil)))) sPass)
  (sRet (eCall F__law_on_plan (aCons (eVar 0) (aCons (eVar 1) aNil)))))
def F__law_behind : Fn := runFn 2 0 B__law_behind
def B__law_can : Sv :=
  (sRet (eIn false (eVar 1) (eCall F__law_goods (aCons (eVar 0) aNil))))
def F__law_can : Fn := runFn 2 0 B__law_can
def B__law_cell : Sv :=
  (sSeq (sIf (tVal (eCm .lt (eVar 1) (eLen (eVar 0)))) (sRet (eImm (eIx (eVar 0) (eVar 1)))) sPass)
  (sRet (eC (.int 0))))
def F__law_cell : Fn := runFn 2 0 B__law_cell
def B__law_deed_by : Sv :=
  (sSeq (sSets [2, 3, 4] [(eImm (eIx (eVar 1) (eC (.int 0)))), (eCall F__law_draw (aCons (eVar 0) (aCons (eLen (eIx (eVar 1) (eC (.int 1)))) aNil))), (eCall F__law_draw (aCons (eVar 0) (aCons (eC (.int 6)) aNil)))])
  (sSeq (sIf (tVal (eEq false (eVar 4) (eC (.int 0)))) (sSeq (sSet 5 (eCall F__law_goods (aCons (eVar 2) aNil)))
    (sRet (eTup (aCons (eC (.str (Str.ofString "give"))) (aCons (eImm (eVar 3)) (aCons (eImm (eIx (eVar 5) (eCall F__law_draw (aCons (eVar 0) (aCons (eLen (eVar 5)) aNil))))) aNil)))))) sPass)
  (sSeq (sIf (tVal (eCm .lt (eVar 4) (eC (.int 3)))) (sRet (eTup (aCons (eC (.str (Str.ofString "go"))) (aCons (eImm (eVar 3)) (aCons (eCall F__law_ways (aCons (eVar 0) aNil)) aNil))))) sPass)
  (sRet (eTup (aCons (eC (.str (Str.ofString "strike"))) (aCons (eImm (eVar 3)) (aCons (eImm (eIx (eLst (aCons (eC (.str (Str.ofString "0"))) (aCons (eC (.str (Str.ofString "a"))) (aCons (eC (.str (Str.ofString "esc"))) (aCons (eC (.str (Str.ofString "f1"))) (aCons (eC (.str (Str.ofString "w"))) aNil)))))) (eCall F__law_draw (aCons (eVar 0) (aCons (eC (.int 5)) aNil))))) aNil))))))))
def F__law_deed_by : Fn := runFn 2 4 B__law_deed_by
def B__law_opening : Sv :=
  (sSeq (sSet 2 (eLst (aCons (eTup (aCons (eC (.str (Str.ofString "asleep"))) (aCons (eC (.int 14)) aNil))) (aCons (eTup (aCons (eC (.str (Str.ofString "hidden"))) (aCons (eC (.int 14)) aNil))) (aCons (eTup (aCons (eC (.str (Str.ofString "hold"))) (aCons (eC (.int 7)) aNil))) (aCons (eTup (aCons (eC (.str (Str.ofString "one"))) (aCons (eC (.int 6)) aNil))) aNil))))))
  (sSeq (sSet 3 (eLcV 2 (iVar 2) (.tup [4, 5]) (tVal (eEq false (eCall F__law_draw (aCons (eVar 0) (aCons (eVar 5) aNil))) (eC (.int 0)))) (eImm (eVar 4))))
  (sSeq (sIf (tVal (eCm .gt (eCall F__law_draw (aCons (eVar 0) (aCons (eC (.int 5)) aNil))) (eC (.int 0)))) (sApp 3 (eC (.str (Str.ofString "stop")))) sPass)
  (sSeq (sSet 6 (eLst (aCons (eC (.str (Str.ofString "0"))) (aCons (eC (.str (Str.ofString "a"))) (aCons (eC (.str (Str.ofString "esc"))) (aCons (eC (.str (Str.ofString "f1"))) aNil))))))
  (sSeq (sSet 7 (eTuple (eLcV 6 (iVar 6) (.one 8) (tVal (eEq false (eCall F__law_draw (aCons (eVar 0) (aCons (eC (.int 4)) aNil))) (eC (.int 0)))) (eTup (aCons (eImm (eVar 8)) (aCons (eCall F__law_a_deed (aCons (eVar 0) (aCons (eC (.bl false)) aNil))) aNil))))))
  (sSeq (sIf (tVal (eEq false (eCall F__law_draw (aCons (eVar 0) (aCons (eC (.int 7)) aNil))) (eC (.int 0)))) (sRet (eTup (aCons (eC (.str (Str.ofString "over"))) (aCons (eCall F__law_a_box (aCons (eVar 0) aNil)) (aCons (eTuple (eVar 3)) (aCons (eImm (eVar 7)) aNil)))))) sPass)
  (sSeq (sSet 9 (eImm (eIx (eIx (eVar 1) (eIx (eLst (aCons (eC (.int 0)) (aCons (eNeg (eC (.int 1))) (aCons (eCall F__law_draw (aCons (eVar 0) (aCons (eLen (eVar 1)) aNil))) aNil)))) (eCall F__law_draw (aCons (eVar 0) (aCons (eC (.int 3)) aNil))))) (eC (.int 0)))))
  (sRet (eTup (aCons (eC (.str (Str.ofString "put"))) (aCons (eImm (eVar 9)) (aCons (eCall F__law_a_box (aCons (eVar 0) aNil)) (aCons (eSub (eCall F__law_draw (aCons (eVar 0) (aCons (eC (.int 4)) aNil))) (eC (.int 1))) (aCons (eTuple (eVar 3)) (aCons (eImm (eVar 7)) aNil)))))))))))))))
def F__law_opening : Fn := runFn 2 8 B__law_opening
def B__law_deed_on : Sv :=
  (sSeq (sSet 2 (eCall F__law_draw (aCons (eVar 0) (aCons (eC (.int 10)) aNil))))
  (sSeq (sIf (tOr (tVal (eEq false (eLen (eVar 1)) (eC (.int 1)))) (tAnd (tVal (eCm .lt (eVar 2) (eC (.int 3)))) (tVal (eCm .lt (eLen (eVar 1)) (eC (.int 10)))))) (sRet (eCall F__law_opening (aCons (eVar 0) (aCons (eVar 1) aNil)))) sPass)
  (sSeq (sSet 3 (eImm (eIx (eVar 1) (eAdd (eC (.int 1)) (eCall F__law_draw (aCons (eVar 0) (aCons (eSub (eLen (eVar 1)) (eC (.int 1))) aNil)))))))
  (sSeq (sIf (tVal (eEq false (eVar 2) (eC (.int 3)))) (sRet (eTup (aCons (eC (.str (Str.ofString "shut"))) (aCons (eImm (eIx (eVar 3) (eC (.int 0)))) aNil)))) sPass)
  (sSeq (sIf (tVal (eEq false (eVar 2) (eC (.int 4)))) (sRet (eTup (aCons (eC (.str (Str.ofString "box"))) (aCons (eImm (eIx (eVar 3) (eC (.int 0)))) (aCons (eCall F__law_a_box (aCons (eVar 0) aNil)) aNil))))) sPass)
  (sSeq (sIf (tVal (eEq false (eVar 2) (eC (.int 5)))) (sRet (eTup (aCons (eC (.str (Str.ofString "order"))) (aCons (eImm (eIx (eVar 3) (eC (.int 0)))) (aCons (eSub (eCall F__law_draw (aCons (eVar 0) (aCons (eC (.int 5)) aNil))) (eC (.int 2))) aNil))))) sPass)
  (sSeq (sIf (tVal (eEq false (eVar 2) (eC (.int 6)))) (sSeq (sSets [3, 4] [(eImm (eIx (eVar 1) (eCall F__law_draw (aCons (eVar 0) (aCons (eLen (eVar 1)) aNil))))), (eImm (eIx (eLst (aCons (eC (.str (Str.ofString "0"))) (aCons (eC (.str (Str.ofString "a"))) (aCons (eC (.str (Str.ofString "esc"))) (aCons (eC (.str (Str.ofString "f1"))) aNil))))) (eCall F__law_draw (aCons (eVar 0) (aCons (eC (.int 4)) aNil)))))])
    (sRet (eTup (aCons (eC (.str (Str.ofString "teach"))) (aCons (eImm (eIx (eVar 3) (eC (.int 0)))) (aCons (eImm (eVar 4)) (aCons (eImm (eIx (eLst (aCons (eC (.non)) (aCons (eCall F__law_a_deed (aCons (eVar 0) (aCons (eEq false (eIx (eVar 3) (eC (.int 0))) (eC (.int 0))) aNil))) aNil))) (eCall F__law_draw (aCons (eVar 0) (aCons (eC (.int 2)) aNil))))) aNil))))))) sPass)
  (sSeq (sSet 5 (eImm (eIx (eIx (eVar 1) (eCall F__law_draw (aCons (eVar 0) (aCons (eLen (eVar 1)) aNil)))) (eC (.int 0)))))
  (sSeq (sIf (tAnd (tVal (eEq false (eVar 2) (eC (.int 7)))) (tAnd (tVal (eIn true (eC (.str (Str.ofString "sheet"))) (eIx (eVar 3) (eC (.int 4))))) (tVal (eIn true (eIx (eVar 3) (eC (.int 0))) (eCall F__law_line (aCons (eVar 1) (aCons (eVar 5) aNil))))))) (sRet (eTup (aCons (eC (.str (Str.ofString "hang"))) (aCons (eImm (eIx (eVar 3) (eC (.int 0)))) (aCons (eImm (eVar 5)) aNil))))) sPass)
  (sRet (eTup (aCons (eC (.str (Str.ofString "mark"))) (aCons (eImm (eIx (eVar 3) (eC (.int 0)))) (aCons (eImm (eIx (eLst (aCons (eC (.str (Str.ofString "asleep"))) (aCons (eC (.str (Str.ofString "hidden"))) (aCons (eC (.str (Str.ofString "hold"))) (aCons (eC (.str (Str.ofString "one"))) (aCons (eC (.str (Str.ofString "stop"))) aNil)))))) (eCall F__law_draw (aCons (eVar 0) (aCons (eC (.int 5)) aNil))))) aNil))))))))))))))
def F__law_deed_on : Fn := runFn 2 4 B__law_deed_on
def B__law_in : Sv :=
  (sSeq (sSet 2 (eLc (iExp (eCall F__law_stops (aCons (eVar 0) (aCons (eVar 1) aNil)))) (.one 3) (tVal (eEq true (eVar 3) (eVar 1))) (eImm (eVar 3))))
  (sRet (eImm (eIf (tVal (eEq true (eVar 2) (eLst aNil))) (eIx (eVar 2) (eC (.int 0))) (eC (.non))))))
def F__law_in : Fn := runFn 2 2 B__law_in
def B__law_listed : Sv :=
  (sRet (eIf (tVal (eCm .gt (eLen (eVar 0)) (eC (.int 0)))) (eJoin (eC (.str (Str.ofString " "))) (eLcV 0 (iVar 0) (.one 1) tTrue (eStr (eVar 1)))) (eC (.str (Str.ofString "-")))))
def F__law_listed : Fn := runFn 1 1 B__law_listed
def B__law_marks_text : Sv :=
  (sRet (eIf (tVal (eEq true (eVar 0) (eTup aNil))) (eJoin (eC (.str (Str.ofString ","))) (eVar 0)) (eC (.str (Str.ofString "-")))))
def F__law_marks_text : Fn := runFn 1 0 B__law_marks_text
def B__law_line_of : Sv :=
  (sSeq (sIf (tVal (eEq false (eIx (eVar 0) (eC (.int 0))) (eC (.str (Str.ofString "put"))))) (sRet (eJoin (eC (.str (Str.ofString " "))) (eLst (aCons (eC (.str (Str.ofString "put"))) (aCons (eStr (eIx (eVar 0) (eC (.int 1)))) (aCons (eCall F__law_listed (aCons (eIx (eVar 0) (eC (.int 2))) aNil)) (aCons (eStr (eIx (eVar 0) (eC (.int 3)))) (aCons (eCall F__law_marks_text (aCons (eIx (eVar 0) (eC (.int 4))) aNil)) aNil)))))))) sPass)
  (sSeq (sIf (tVal (eEq false (eIx (eVar 0) (eC (.int 0))) (eC (.str (Str.ofString "over"))))) (sRet (eJoin (eC (.str (Str.ofString " "))) (eLst (aCons (eC (.str (Str.ofString "over"))) (aCons (eCall F__law_listed (aCons (eIx (eVar 0) (eC (.int 1))) aNil)) (aCons (eCall F__law_marks_text (aCons (eIx (eVar 0) (eC (.int 2))) aNil)) aNil)))))) sPass)
  (sSeq (sIf (tVal (eEq false (eIx (eVar 0) (eC (.int 0))) (eC (.str (Str.ofString "teach"))))) (sRet (eJoin (eC (.str (Str.ofString " "))) (eLst (aCons (eC (.str (Str.ofString "teach"))) (aCons (eStr (eIx (eVar 0) (eC (.int 1)))) (aCons (eImm (eIx (eVar 0) (eC (.int 2)))) (aCons (eIf (tVal (eIsN false (eIx (eVar 0) (eC (.int 3))))) (eC (.str (Str.ofString "-"))) (eCall F__law_deed_text (aCons (eIx (eVar 0) (eC (.int 3))) aNil))) aNil))))))) sPass)
  (sSeq (sIf (tVal (eEq false (eIx (eVar 0) (eC (.int 0))) (eC (.str (Str.ofString "box"))))) (sRet (eJoin (eC (.str (Str.ofString " "))) (eLst (aCons (eC (.str (Str.ofString "box"))) (aCons (eStr (eIx (eVar 0) (eC (.int 1)))) (aCons (eCall F__law_listed (aCons (eIx (eVar 0) (eC (.int 2))) aNil)) aNil)))))) sPass)
  (sRet (eCall F__law_listed (aCons (eVar 0) aNil)))))))
def F__law_line_of : Fn := runFn 1 0 B__law_line_of
def B__law_new : Sv :=
  (sRet (eTup (aCons (eTup (aCons (eTup (aCons (eC (.int 0)) (aCons (eC (.non)) (aCons (eTup (aCons (eC (.int 0)) (aCons (eC (.int 0)) (aCons (eImm (eVar 0)) (aCons (eImm (eVar 1)) aNil))))) (aCons (eC (.int 0)) (aCons (eTup aNil) (aCons (eTup aNil) aNil))))))) aNil)) (aCons (eMul (eTup (aCons (eTup (aCons (eC (.int 0)) aNil)) aNil)) (eVar 2)) (aCons (eC (.int 0)) aNil)))))
def F__law_new : Fn := runFn 3 0 B__law_new
def B__law_of_hand : Sv :=
  (sSeq (sSet 3 (eCall F__law_draw (aCons (eVar 0) (aCons (eC (.int 8)) aNil))))
  (sSeq (sIf (tVal (eCm .lt (eVar 3) (eC (.int 2)))) (sRet (eTup (aCons (eC (.str (Str.ofString "give"))) (aCons (eImm (eVar 2)) (aCons (eCall F__law_pick (aCons (eVar 0) (aCons (eCall F__law_goods (aCons (eVar 1) aNil)) aNil))) aNil))))) sPass)
  (sSeq (sIf (tVal (eCm .lt (eVar 3) (eC (.int 4)))) (sRet (eTup (aCons (eC (.str (Str.ofString "go"))) (aCons (eImm (eVar 2)) (aCons (eCall F__law_way (aCons (eVar 0) aNil)) aNil))))) sPass)
  (sSeq (sIf (tVal (eEq false (eVar 3) (eC (.int 4)))) (sRet (eTup (aCons (eC (.str (Str.ofString "press"))) (aCons (eImm (eVar 2)) (aCons (eSub (eCall F__law_draw (aCons (eVar 0) (aCons (eC (.int 18)) aNil))) (eC (.int 1))) (aCons (eSub (eCall F__law_draw (aCons (eVar 0) (aCons (eC (.int 18)) aNil))) (eC (.int 1))) aNil)))))) sPass)
  (sRet (eTup (aCons (eC (.str (Str.ofString "strike"))) (aCons (eImm (eVar 2)) (aCons (eCall F__law_pick (aCons (eVar 0) (aCons (eLst (aCons (eC (.str (Str.ofString "0"))) (aCons (eC (.str (Str.ofString "a"))) (aCons (eC (.str (Str.ofString "esc"))) (aCons (eC (.str (Str.ofString "f1"))) (aCons (eC (.str (Str.ofString "w"))) aNil)))))) aNil))) aNil)))))))))
def F__law_of_hand : Fn := runFn 3 1 B__law_of_hand
def B__law_opens : Sv :=
  (sRet (eIn false (eVar 1) (eCall F__law_open (aCons (eVar 0) aNil))))
def F__law_opens : Fn := runFn 2 0 B__law_opens
def B__law_out : Sv :=
  (sSeq (sSet 2 (eCall F__law_field (aCons (eVar 0) (aCons (eVar 1) aNil))))
  (sSeq (sFor [] (iExp (eSl (eCall F__law_line (aCons (eVar 0) (aCons (eVar 1) aNil))) (pSome (eC (.int 1))) pNo)) (.one 3) (sIf (tAnd (tVal (eIn false (eVar 2) (eCall F__law_line (aCons (eVar 0) (aCons (eVar 3) aNil))))) (tTruth (eCall F__law_can (aCons (eVar 0) (aCons (eVar 3) aNil))))) (sRetVar 3) sPass))
  (sRet (eC (.non)))))
def F__law_out : Fn := runFn 2 2 B__law_out
def B__law_pane_text : Sv :=
  (sSeq (sUnpack [1, 2, 3, 4, 5, 6] (eVarC 0))
  (sSeq (sSet 7 (eAdd (eAdd (eLst (aCons (eStr (eVar 1)) (aCons (eIf (tVal (eIsN false (eVar 2))) (eC (.str (Str.ofString "-"))) (eStr (eVar 2))) aNil))) (eLcV 3 (iVar 3) (.one 8) tTrue (eStr (eVar 8)))) (eLst (aCons (eStr (eVar 4)) aNil))))
  (sSeq (sApp 7 (eIf (tVal (eEq true (eVar 5) (eTup aNil))) (eJoin (eC (.str (Str.ofString ","))) (eVar 5)) (eC (.str (Str.ofString "-")))))
  (sRet (eJoin (eC (.str (Str.ofString " "))) (eAdd (eVar 7) (eLcV 6 (iVar 6) (.tup [9, 10]) tTrue (eAdd (eAdd (eVar 9) (eC (.str (Str.ofString "=")))) (eCall F__law_deed_text (aCons (eVar 10) aNil))))))))))
def F__law_pane_text : Fn := runFn 1 10 B__law_pane_text
def B__law_pen : Sv :=
  (sRet (eNewCell (aCons (eImm (eVar 0)) (aCons (eInt (eCm .ge (eVar 0) (ePow (eC (.int 10)) (eC (.int 18))))) aNil))))
def F__law_pen : Fn := runFn 1 0 B__law_pen
def B__law_plan_line : Sv :=
  (sSeq (sSet 1 (eLst aNil))
  (sSeq (sForV 0 (iVar 0) (.tup [2, 3, 4, 5, 6, 7]) (sSeq (sSet 8 (eLst (aCons (eStr (eVar 2)) (aCons (eIf (tVal (eIsN false (eVar 3))) (eC (.str (Str.ofString "-"))) (eStr (eVar 3))) (aCons (eCall F__law_listed (aCons (eVar 4) aNil)) (aCons (eStr (eVar 5)) (aCons (eCall F__law_marks_text (aCons (eVar 6) aNil)) aNil)))))))
    (sApp 1 (eJoin (eC (.str (Str.ofString " "))) (eAdd (eVar 8) (eLcV 7 (iVar 7) (.tup [9, 10]) tTrue (eAdd (eAdd (eVar 9) (eC (.str (Str.ofString "=")))) (eCall F__law_deed_text (aCons (eVar 10) aNil)))))))))
  (sRet (eJoin (eC (.str (Str.ofString " ; "))) (eVar 1)))))
def F__law_plan_line : Fn := runFn 1 10 B__law_plan_line
def B__law_thing (self : Fn) : Sv :=
  (sSeq (sSet 2 (eCall F__law_draw (aCons (eVar 0) (aCons (eIf (tVal (eCm .lt (eVar 1) (eC (.int 7)))) (eC (.int 9)) (eC (.int 6))) aNil))))
  (sSeq (sIf (tVal (eEq false (eVar 2) (eC (.int 0)))) (sRet (eImm (eIx (eLst (aCons (eC (.bl true)) (aCons (eC (.bl false)) (aCons (eC (.non)) aNil)))) (eCall F__law_draw (aCons (eVar 0) (aCons (eC (.int 3)) aNil)))))) sPass)
  (sSeq (sIf (tVal (eCm .lt (eVar 2) (eC (.int 3)))) (sRet (eImm (eIx (eLst (aCons (eSub (eCall F__law_draw (aCons (eVar 0) (aCons (eC (.int 13)) aNil))) (eC (.int 2))) (aCons (eNeg (ePow (eC (.int 10)) (eC (.int 39)))) (aCons (ePow (eC (.int 10)) (eC (.int 39))) (aCons (ePow (eC (.int 10)) (eC (.int 6))) (aCons (eAdd (ePow (eC (.int 10)) (eC (.int 6))) (eC (.int 1))) aNil)))))) (eCall F__law_draw (aCons (eVar 0) (aCons (eC (.int 5)) aNil)))))) sPass)
  (sSeq (sIf (tVal (eCm .lt (eVar 2) (eC (.int 6)))) (sRet (eImm (eIx (eLst (aCons (eC (.str (Str.ofString ""))) (aCons (eC (.str (Str.ofString "stop"))) (aCons (eC (.str (Str.ofString "next"))) (aCons (eC (.str (Str.ofString "a b"))) (aCons (eC (.str (Str.ofString "0"))) (aCons (eC (.str (Str.ofString "rounds"))) (aCons (eC (.str (Str.ofString "sheet"))) (aCons (eC (.str (Str.ofString "say\n	"))) (aCons (eMul (eC (.str (Str.ofString "~"))) (eC (.int 1000))) (aCons (eC (.str (Str.ofString "shut"))) aNil))))))))))) (eCall F__law_draw (aCons (eVar 0) (aCons (eC (.int 10)) aNil)))))) sPass)
  (sSeq (sSet 3 (eCall F__law_draw (aCons (eVar 0) (aCons (eC (.int 4)) aNil))))
  (sSeq (sIf (tAnd (tVal (eEq false (eVar 1) (eC (.int 6)))) (tVal (eEq false (eCall F__law_draw (aCons (eVar 0) (aCons (eC (.int 40)) aNil))) (eC (.int 0))))) (sSet 3 (eC (.int 100))) sPass)
  (sSeq (sSet 4 (eLc (iRange1 (eVar 3)) (.one 5) tTrue (eCall self (aCons (eVar 0) (aCons (eAdd (eVar 1) (eC (.int 1))) aNil)))))
  (sSeq (sIf (tVal (eEq false (eVar 2) (eC (.int 6)))) (sRetVar 4) sPass)
  (sRet (eIf (tVal (eEq false (eVar 2) (eC (.int 7)))) (eTuple (eVar 4)) (eDict (eLc (iEnum (eVar 4)) (.tup [6, 7]) tTrue (eTup (aCons (eImm (eVar 6)) (aCons (eImm (eVar 7)) aNil)))))))))))))))
def F__law_thing : Nat → Fn
  | 0 => fun _ _ => .bad
  | k + 1 => runFn 2 6 (B__law_thing (F__law_thing k))
def B__law_same (self : Fn) : Sv :=
  (sSeq (sIf (tTruth (eIsi [.list, .tuple] (eVar 1))) (sSeq (sIf (tOr (tNot (tTruth (eIsi [.list, .tuple] (eVar 0)))) (tVal (eEq true (eIsi [.list] (eVar 0)) (eIsi [.list] (eVar 1))))) (sRet (eC (.bl false))) sPass)
    (sSeq (sIf (tVal (eEq true (eLen (eVar 0)) (eLen (eVar 1)))) (sRet (eC (.bl false))) sPass)
    (sRet (eAll (eLc (iZip (eVar 0) (eVar 1)) (.tup [2, 3]) tTrue (eCall self (aCons (eVar 2) (aCons (eVar 3) aNil)))))))) sPass)
  (sSeq (sIf (tVal (eIsN false (eVar 1))) (sRet (eIsN false (eVar 0))) sPass)
  (sRet (eAnd (eEq false (eIsi [.bool] (eVar 0)) (eIsi [.bool] (eVar 1))) (eEq false (eVar 0) (eVar 1))))))
def F__law_same : Nat → Fn
  | 0 => fun _ _ => .bad
  | k + 1 => runFn 2 2 (B__law_same (F__law_same k))
def B__law_wrong_part : Sv :=
  (sSeq (sIf (tVal (eCm .lt (eVar 1) (eC (.int 2)))) (sRet (eImm (eIx (eLst (aCons (eNeg (eC (.int 1))) (aCons (eAdd (ePow (eC (.int 10)) (eC (.int 6))) (eC (.int 1))) (aCons (eC (.bl true)) (aCons (eC (.str (Str.ofString "0"))) (aCons (eTup (aCons (eC (.int 0)) aNil)) (aCons (eC (.non)) aNil))))))) (eCall F__law_draw (aCons (eVar 0) (aCons (eSub (eC (.int 6)) (eVar 1)) aNil)))))) sPass)
  (sSeq (sIf (tVal (eEq false (eVar 1) (eC (.int 3)))) (sRet (eImm (eIx (eLst (aCons (eSub (eNeg (ePow (eC (.int 10)) (eC (.int 6)))) (eC (.int 1))) (aCons (eAdd (ePow (eC (.int 10)) (eC (.int 6))) (eC (.int 1))) (aCons (eC (.bl true)) (aCons (eC (.str (Str.ofString "0"))) (aCons (eTup (aCons (eC (.int 0)) aNil)) (aCons (eC (.non)) aNil))))))) (eCall F__law_draw (aCons (eVar 0) (aCons (eC (.int 6)) aNil)))))) sPass)
  (sSeq (sIf (tVal (eEq false (eVar 1) (eC (.int 2)))) (sSeq (sSet 3 (eCall F__law_draw (aCons (eVar 0) (aCons (eC (.int 4)) aNil))))
    (sSeq (sSet 4 (eImm (eIx (eLst (aCons (eAdd (ePow (eC (.int 10)) (eC (.int 6))) (eC (.int 1))) (aCons (eC (.bl true)) (aCons (eImm (eIx (eLst (aCons (eSub (eNeg (ePow (eC (.int 10)) (eC (.int 6)))) (eC (.int 1))) (aCons (eC (.int 0)) aNil))) (eFdiv (eVar 3) (eC (.int 2))))) (aCons (eImm (eIx (eLst (aCons (eC (.non)) (aCons (eNeg (eC (.int 1))) aNil))) (eFdiv (eVar 3) (eC (.int 2))))) aNil))))) (eCall F__law_draw (aCons (eVar 0) (aCons (eC (.int 4)) aNil))))))
    (sSeq (sSet 5 (eLst (aCons (eAdd (eAdd (eSl (eVar 2) pNo (pSome (eVar 3))) (eTup (aCons (eImm (eVar 4)) aNil))) (eSl (eVar 2) (pSome (eAdd (eVar 3) (eC (.int 1)))) pNo)) (aCons (eList (eVar 2)) (aCons (eSl (eVar 2) pNo (pSome (eVar 3))) (aCons (eAdd (eVar 2) (eTup (aCons (eC (.int 1)) aNil))) aNil))))))
    (sRet (eImm (eIx (eVar 5) (eCall F__law_draw (aCons (eVar 0) (aCons (eC (.int 4)) aNil))))))))) sPass)
  (sSeq (sIf (tVal (eEq false (eVar 1) (eC (.int 4)))) (sRet (eImm (eIx (eLst (aCons (eList (eVar 2)) (aCons (eTup (aCons (eC (.str (Str.ofString "stop"))) (aCons (eC (.str (Str.ofString "hold"))) aNil))) (aCons (eTup (aCons (eC (.str (Str.ofString "one"))) (aCons (eC (.str (Str.ofString "one"))) aNil))) (aCons (eTup (aCons (eC (.str (Str.ofString "still"))) aNil)) (aCons (eTup (aCons (eC (.str (Str.ofString ""))) aNil)) (aCons (eC (.non)) aNil))))))) (eCall F__law_draw (aCons (eVar 0) (aCons (eC (.int 6)) aNil)))))) sPass)
  (sSeq (sSet 6 (eLst (aCons (eTup (aCons (eC (.str (Str.ofString "b"))) (aCons (eTup (aCons (eC (.str (Str.ofString "still"))) aNil)) aNil))) (aCons (eTup (aCons (eC (.str (Str.ofString "b"))) (aCons (eTup (aCons (eC (.str (Str.ofString "say"))) (aCons (eAdd (ePow (eC (.int 10)) (eC (.int 6))) (eC (.int 1))) aNil))) aNil))) (aCons (eTup (aCons (eC (.str (Str.ofString ""))) (aCons (eTup (aCons (eC (.str (Str.ofString "still"))) aNil)) aNil))) (aCons (eTup (aCons (eC (.str (Str.ofString "b"))) (aCons (eTup (aCons (eC (.str (Str.ofString "go"))) (aCons (eC (.str (Str.ofString "up"))) aNil))) aNil))) (aCons (eTup (aCons (eC (.str (Str.ofString "b"))) (aCons (eC (.str (Str.ofString "still"))) aNil))) aNil)))))))
  (sSeq (sSet 6 (eAdd (eVar 6) (eLst (aCons (eTup (aCons (eC (.str (Str.ofString "ninesigns"))) (aCons (eTup (aCons (eC (.str (Str.ofString "still"))) aNil)) aNil))) (aCons (eTup (aCons (eC (.str (Str.ofString "B"))) (aCons (eTup (aCons (eC (.str (Str.ofString "still"))) aNil)) aNil))) (aCons (eLst (aCons (eC (.str (Str.ofString "b"))) (aCons (eTup (aCons (eC (.str (Str.ofString "still"))) aNil)) aNil))) (aCons (eTup (aCons (eC (.str (Str.ofString "b"))) (aCons (eTup (aCons (eC (.str (Str.ofString "say"))) (aCons (eC (.bl true)) aNil))) aNil))) (aCons (eTup (aCons (eC (.str (Str.ofString "b"))) (aCons (eTup aNil) aNil))) aNil))))))))
  (sSeq (sSet 7 (eCall F__law_draw (aCons (eVar 0) (aCons (eC (.int 11)) aNil))))
  (sSeq (sIf (tVal (eEq false (eVar 7) (eC (.int 10)))) (sRet (eTuple (eLc (iRange1 (eC (.int 21))) (.one 8) tTrue (eTup (aCons (eAdd (eC (.str (Str.ofString "k"))) (eStr (eAdd (eC (.int 10)) (eVar 8)))) (aCons (eTup (aCons (eC (.str (Str.ofString "still"))) aNil)) aNil)))))) sPass)
  (sRet (eIf (tVal (eEq false (eVar 7) (eC (.int 0)))) (eTup (aCons (eImm (eIx (eVar 6) (eC (.int 0)))) (aCons (eImm (eIx (eVar 6) (eC (.int 0)))) aNil))) (eTup (aCons (eImm (eIx (eVar 6) (eVar 7))) aNil))))))))))))
def F__law_wrong_part : Fn := runFn 3 6 B__law_wrong_part
def B__law_wrong_pane : Sv :=
  (sSeq (sSet 2 (eCall F__law_draw (aCons (eVar 0) (aCons (eC (.int 8)) aNil))))
  (sSeq (sIf (tVal (eCm .gt (eVar 2) (eC (.int 5)))) (sRet (eImm (eIx (eLst (aCons (eList (eVar 1)) (aCons (eSl (eVar 1) pNo (pSome (eC (.int 5)))) aNil))) (eSub (eVar 2) (eC (.int 6)))))) sPass)
  (sRet (eAdd (eAdd (eSl (eVar 1) pNo (pSome (eVar 2))) (eTup (aCons (eCall F__law_wrong_part (aCons (eVar 0) (aCons (eVar 2) (aCons (eIx (eVar 1) (eVar 2)) aNil)))) aNil))) (eSl (eVar 1) (pSome (eAdd (eVar 2) (eC (.int 1)))) pNo)))))
def F__law_wrong_pane : Fn := runFn 2 1 B__law_wrong_pane
def B__law_wrong_plan : Sv :=
  (sSeq (sSets [2, 3] [(eCall F__law_draw (aCons (eVar 0) (aCons (eLen (eVar 1)) aNil))), (eCall F__law_draw (aCons (eVar 0) (aCons (eC (.int 8)) aNil)))])
  (sSeq (sSet 4 (eImm (eIx (eVar 1) (eVar 2))))
  (sSeq (sIf (tVal (eEq false (eVar 3) (eC (.int 0)))) (sRet (eImm (eIx (eLst (aCons (eList (eVar 1)) (aCons (eTup aNil) (aCons (eC (.non)) (aCons (eC (.int 0)) (aCons (eC (.str (Str.ofString "plan"))) (aCons (eDict1 (.inl 0) (eImm (eVar 1))) (aCons (eTup (aCons (eC (.non)) aNil)) (aCons (eImm (eIx (eVar 1) (eC (.int 0)))) aNil))))))))) (eCall F__law_draw (aCons (eVar 0) (aCons (eC (.int 8)) aNil)))))) sPass)
  (sSeq (sIf (tVal (eEq false (eVar 3) (eC (.int 1)))) (sRet (eAdd (eAdd (eSl (eVar 1) pNo (pSome (eVar 2))) (eTup (aCons (eCall F__law_wrong_pane (aCons (eVar 0) (aCons (eVar 4) aNil))) aNil))) (eSl (eVar 1) (pSome (eAdd (eVar 2) (eC (.int 1)))) pNo))) sPass)
  (sSeq (sIf (tAnd (tVal (eEq false (eVar 3) (eC (.int 2)))) (tVal (eCm .gt (eVar 2) (eC (.int 0))))) (sRet (eAdd (eAdd (eSl (eVar 1) pNo (pSome (eVar 2))) (eTup (aCons (eImm (eVar 4)) (aCons (eImm (eVar 4)) aNil)))) (eSl (eVar 1) (pSome (eAdd (eVar 2) (eC (.int 1)))) pNo))) sPass)
  (sSeq (sIf (tAnd (tVal (eEq false (eVar 3) (eC (.int 3)))) (tVal (eCm .gt (eVar 2) (eC (.int 0))))) (sRet (eAdd (eAdd (eSl (eVar 1) pNo (pSome (eSub (eVar 2) (eC (.int 1))))) (eTup (aCons (eImm (eVar 4)) (aCons (eImm (eIx (eVar 1) (eSub (eVar 2) (eC (.int 1))))) aNil)))) (eSl (eVar 1) (pSome (eAdd (eVar 2) (eC (.int 1)))) pNo))) sPass)
  (sSeq (sIf (tAnd (tVal (eEq false (eVar 3) (eC (.int 4)))) (tVal (eCm .gt (eVar 2) (eC (.int 0))))) (sSeq (sSet 5 (eMax1 (eLcV 1 (iVar 1) (.one 6) (tVal (eCm .lt (eIx (eVar 6) (eC (.int 0))) (ePow (eC (.int 10)) (eC (.int 6))))) (eImm (eIx (eVar 6) (eC (.int 0)))))))
    (sSeq (sSet 7 (eImm (eIx (eLst (aCons (eC (.non)) (aCons (eImm (eIx (eVar 4) (eC (.int 0)))) (aCons (eAdd (eVar 5) (eC (.int 1))) aNil)))) (eCall F__law_draw (aCons (eVar 0) (aCons (eC (.int 3)) aNil))))))
    (sRet (eAdd (eAdd (eSl (eVar 1) pNo (pSome (eVar 2))) (eTup (aCons (eAdd (eTup (aCons (eImm (eIx (eVar 4) (eC (.int 0)))) (aCons (eImm (eVar 7)) aNil))) (eSl (eVar 4) (pSome (eC (.int 2))) pNo)) aNil))) (eSl (eVar 1) (pSome (eAdd (eVar 2) (eC (.int 1)))) pNo))))) sPass)
  (sSeq (sIf (tAnd (tVal (eEq false (eVar 3) (eC (.int 5)))) (tAnd (tVal (eCm .gt (eVar 2) (eC (.int 0)))) (tVal (eEq true (eIx (eVar 4) (eC (.int 1))) (eC (.int 0)))))) (sSeq (sSet 8 (eTuple (eSorted (eAdd (eList (eIx (eVar 4) (eC (.int 4)))) (eLst (aCons (eC (.str (Str.ofString "sheet"))) aNil))))))
    (sRet (eAdd (eAdd (eSl (eVar 1) pNo (pSome (eVar 2))) (eTup (aCons (eAdd (eSl (eVar 4) pNo (pSome (eC (.int 4)))) (eTup (aCons (eImm (eVar 8)) (aCons (eImm (eIx (eVar 4) (eC (.int 5)))) aNil)))) aNil))) (eSl (eVar 1) (pSome (eAdd (eVar 2) (eC (.int 1)))) pNo)))) sPass)
  (sSeq (sIf (tVal (eEq false (eVar 3) (eC (.int 6)))) (sSeq (sSets [9, 10] [(eAdd (eIx (eIx (eVar 1) (eNeg (eC (.int 1)))) (eC (.int 0))) (eC (.int 1))), (eSub (eC (.int 41)) (eLen (eVar 1)))])
    (sRet (eAdd (eVar 1) (eTuple (eLc (iRange1 (eVar 10)) (.one 11) tTrue (eTup (aCons (eAdd (eVar 9) (eVar 11)) (aCons (eC (.int 0)) (aCons (eTup (aCons (eC (.int 0)) (aCons (eC (.int 0)) (aCons (eC (.int 1)) (aCons (eC (.int 1)) aNil))))) (aCons (eC (.int 0)) (aCons (eTup aNil) (aCons (eTup aNil) aNil)))))))))))) sPass)
  (sSeq (sSet 7 (eLst (aCons (eTup (aCons (eC (.int 1)) (aCons (eC (.non)) aNil))) (aCons (eTup (aCons (eC (.int 0)) (aCons (eC (.int 0)) aNil))) (aCons (eTup (aCons (eC (.int 0)) (aCons (eC (.non)) (aCons (eTup (aCons (eC (.int 1)) (aCons (eC (.int 0)) (aCons (eC (.int 9)) (aCons (eC (.int 9)) aNil))))) aNil)))) (aCons (eTup (aCons (eC (.int 0)) (aCons (eC (.non)) (aCons (eTup (aCons (eC (.int 0)) (aCons (eNeg (eC (.int 1))) (aCons (eC (.int 9)) (aCons (eC (.int 9)) aNil))))) aNil)))) (aCons (eAdd (eSl (eIx (eVar 1) (eC (.int 0))) pNo (pSome (eC (.int 3)))) (eTup (aCons (eC (.int 1)) aNil))) aNil)))))))
  (sSeq (sSet 7 (eAdd (eVar 7) (eLst (aCons (eAdd (eSl (eIx (eVar 1) (eC (.int 0))) pNo (pSome (eC (.int 4)))) (eTup (aCons (eTup (aCons (eC (.str (Str.ofString "stop"))) aNil)) aNil))) (aCons (eAdd (eSl (eIx (eVar 1) (eC (.int 0))) pNo (pSome (eC (.int 5)))) (eTup (aCons (eTup (aCons (eTup (aCons (eC (.str (Str.ofString "z"))) (aCons (eTup (aCons (eC (.str (Str.ofString "shut"))) aNil)) aNil))) aNil)) aNil))) aNil)))))
  (sSeq (sSet 12 (eImm (eIx (eVar 7) (eCall F__law_draw (aCons (eVar 0) (aCons (eC (.int 7)) aNil))))))
  (sRet (eAdd (eTup (aCons (eAdd (eVar 12) (eSl (eIx (eVar 1) (eC (.int 0))) (pSome (eLen (eVar 12))) pNo)) aNil)) (eSl (eVar 1) (pSome (eC (.int 1))) pNo)))))))))))))))
def F__law_wrong_plan : Fn := runFn 2 11 B__law_wrong_plan
def B__wall : Sv :=
  (sWhile (tTruth (eC (.bl true))) sPass)
def F__wall : Fn := runFn 1 0 B__wall
def B_in_order : Sv :=
  (sRet (eLc (iExp (eSorted (eLcV 0 (iVar 0) (.one 2) (tVal (eEq false (eIx (eVar 2) (eC (.int 1))) (eVar 1))) (eTup (aCons (eImm (eIx (eVar 2) (eC (.int 3)))) (aCons (eImm (eIx (eVar 2) (eC (.int 0)))) aNil)))))) (.one 2) tTrue (eImm (eIx (eVar 2) (eC (.int 1))))))
def F_in_order : Fn := runFn 2 1 B_in_order
def B_walked : Sv :=
  (sSeq (sSet 2 (eLst aNil))
  (sSeq (sSet 3 (eLst (aCons (eImm (eVar 1)) aNil)))
  (sSeq (sWhile (tVal (eEq true (eVar 3) (eLst aNil))) (sSeq (sSetPop 4 3)
    (sSeq (sApp 2 (eImm (eVar 4)))
    (sExt 3 (eRev (eCall F_in_order (aCons (eVar 0) (aCons (eVar 4) aNil))))))))
  (sRetVar 2))))
def F_walked : Fn := runFn 2 3 B_walked
def B_going_up : Sv :=
  (sSeq (sSet 2 (eDict (eLcV 0 (iVar 0) (.one 3) tTrue (eTup (aCons (eImm (eIx (eVar 3) (eC (.int 0)))) (aCons (eImm (eIx (eVar 3) (eC (.int 1)))) aNil))))))
  (sSeq (sSet 4 (eLst aNil))
  (sSeq (sWhile (tVal (eIsN true (eVar 1))) (sSeq (sApp 4 (eImm (eVar 1)))
    (sSet 1 (eImm (eIx (eVar 2) (eVar 1))))))
  (sRetVar 4))))
def F_going_up : Fn := runFn 2 3 B_going_up
def B_the_pane : Sv :=
  (sRet (eImm (eIx (eLcV 0 (iVar 0) (.one 2) (tVal (eEq false (eIx (eVar 2) (eC (.int 0))) (eVar 1))) (eImm (eVar 2))) (eC (.int 0)))))
def F_the_pane : Fn := runFn 2 1 B_the_pane
def B_is_dead : Sv :=
  (sSeq (sSet 2 (eImm (eIx (eCall F_the_pane (aCons (eVar 0) (aCons (eVar 1) aNil))) (eC (.int 4)))))
  (sRet (eOr (eIn false (eC (.str (Str.ofString "asleep"))) (eVar 2)) (eIn false (eC (.str (Str.ofString "hidden"))) (eVar 2)))))
def F_is_dead : Fn := runFn 2 1 B_is_dead
def B_alive : Sv :=
  (sRet (eEq false (eLc (iExp (eCall F_going_up (aCons (eVar 0) (aCons (eVar 1) aNil)))) (.one 2) (tTruth (eCall F_is_dead (aCons (eVar 0) (aCons (eVar 2) aNil)))) (eImm (eVar 2))) (eLst aNil)))
def F_alive : Fn := runFn 2 1 B_alive
def B_top_sheet : Sv :=
  (sRet (eMax1 (eAdd (eLst (aCons (eC (.int 0)) aNil)) (eLcV 0 (iVar 0) (.one 1) (tAnd (tVal (eIn false (eC (.str (Str.ofString "sheet"))) (eIx (eVar 1) (eC (.int 4))))) (tTruth (eCall F_alive (aCons (eVar 0) (aCons (eIx (eVar 1) (eC (.int 0))) aNil))))) (eImm (eIx (eVar 1) (eC (.int 0))))))))
def F_top_sheet : Fn := runFn 1 1 B_top_sheet
def B_opens : Sv :=
  (sRet (eAnd (eCall F_alive (aCons (eVar 0) (aCons (eVar 1) aNil))) (eIn false (eCall F_top_sheet (aCons (eVar 0) aNil)) (eCall F_going_up (aCons (eVar 0) (aCons (eVar 1) aNil))))))
def F_opens : Fn := runFn 2 0 B_opens
def B_stops_in : Sv :=
  (sRet (eLc (iExp (eCall F_walked (aCons (eVar 0) (aCons (eVar 1) aNil)))) (.one 2) (tAnd (tVal (eIn false (eC (.str (Str.ofString "stop"))) (eIx (eCall F_the_pane (aCons (eVar 0) (aCons (eVar 2) aNil))) (eC (.int 4))))) (tTruth (eCall F_opens (aCons (eVar 0) (aCons (eVar 2) aNil))))) (eImm (eVar 2))))
def F_stops_in : Fn := runFn 2 1 B_stops_in
def B_field_in : Sv :=
  (sSeq (sFor [] (iExp (eCall F_going_up (aCons (eVar 0) (aCons (eVar 1) aNil)))) (.one 2) (sIf (tVal (eIn false (eC (.str (Str.ofString "hold"))) (eIx (eCall F_the_pane (aCons (eVar 0) (aCons (eVar 2) aNil))) (eC (.int 4))))) (sRetVar 2) sPass))
  (sRet (eCall F_top_sheet (aCons (eVar 0) aNil))))
def F_field_in : Fn := runFn 2 1 B_field_in
def B_gap_of : Sv :=
  (sRet (eMax2 (eSub (eIx (eVar 1) (eC (.int 0))) (eIx (eVar 0) (eC (.int 1)))) (eSub (eIx (eVar 0) (eC (.int 0))) (eIx (eVar 1) (eC (.int 1))))))
def F_gap_of : Fn := runFn 2 0 B_gap_of
def B_rank_of : Sv :=
  (sSeq (sSet 3 (eIf (tVal (eIn false (eVar 2) (eTup (aCons (eC (.str (Str.ofString "left"))) (aCons (eC (.str (Str.ofString "right"))) aNil))))) (eC (.int 0)) (eC (.int 1))))
  (sSeq (sSet 4 (eSub (eIx (eIx (eVar 1) (eVar 3)) (eC (.int 0))) (eIx (eIx (eVar 0) (eVar 3)) (eC (.int 1)))))
  (sSeq (sIf (tVal (eIn false (eVar 2) (eTup (aCons (eC (.str (Str.ofString "left"))) (aCons (eC (.str (Str.ofString "above"))) aNil))))) (sSet 4 (eSub (eIx (eIx (eVar 0) (eVar 3)) (eC (.int 0))) (eIx (eIx (eVar 1) (eVar 3)) (eC (.int 1))))) sPass)
  (sSeq (sIf (tVal (eCm .lt (eVar 4) (eC (.int 0)))) (sRet (eC (.non))) sPass)
  (sSeq (sSet 5 (eMax2 (eC (.int 0)) (eAdd (eCall F_gap_of (aCons (eIx (eVar 0) (eSub (eC (.int 1)) (eVar 3))) (aCons (eIx (eVar 1) (eSub (eC (.int 1)) (eVar 3))) aNil))) (eC (.int 1)))))
  (sRet (eTup (aCons (eImm (eVar 5)) (aCons (eImm (eVar 4)) (aCons (eImm (eIx (eIx (eVar 1) (eSub (eC (.int 1)) (eVar 3))) (eC (.int 0)))) aNil))))))))))
def F_rank_of : Fn := runFn 3 3 B_rank_of
def B_placed : Sv :=
  (sSeq (sSet 2 (eC (.int 0)))
  (sSeq (sSet 3 (eC (.int 0)))
  (sSeq (sFor [] (iExp (eCall F_going_up (aCons (eVar 0) (aCons (eVar 1) aNil)))) (.one 4) (sSeq (sSet 5 (eImm (eIx (eCall F_the_pane (aCons (eVar 0) (aCons (eVar 4) aNil))) (eC (.int 2)))))
    (sSeq (sSet 2 (eAdd (eVar 2) (eIx (eVar 5) (eC (.int 0)))))
    (sSet 3 (eAdd (eVar 3) (eIx (eVar 5) (eC (.int 1))))))))
  (sSeq (sSet 6 (eImm (eIx (eCall F_the_pane (aCons (eVar 0) (aCons (eVar 1) aNil))) (eC (.int 2)))))
  (sRet (eTup (aCons (eImm (eVar 2)) (aCons (eImm (eVar 3)) (aCons (eImm (eIx (eVar 6) (eC (.int 2)))) (aCons (eImm (eIx (eVar 6) (eC (.int 3)))) aNil))))))))))
def F_placed : Fn := runFn 2 5 B_placed
def B_seen_in : Sv :=
  (sSeq (sSet 2 (eLc (iExp (eCall F_going_up (aCons (eVar 0) (aCons (eVar 1) aNil)))) (.one 3) tTrue (eCall F_placed (aCons (eVar 0) (aCons (eVar 3) aNil)))))
  (sSeq (sSet 4 (eMax1 (eLcV 2 (iVar 2) (.one 5) tTrue (eImm (eIx (eVar 5) (eC (.int 0)))))))
  (sSeq (sSet 6 (eMax1 (eLcV 2 (iVar 2) (.one 5) tTrue (eImm (eIx (eVar 5) (eC (.int 1)))))))
  (sSeq (sSet 7 (eMin1 (eLcV 2 (iVar 2) (.one 5) tTrue (eAdd (eIx (eVar 5) (eC (.int 0))) (eIx (eVar 5) (eC (.int 2)))))))
  (sSeq (sSet 8 (eMin1 (eLcV 2 (iVar 2) (.one 5) tTrue (eAdd (eIx (eVar 5) (eC (.int 1))) (eIx (eVar 5) (eC (.int 3)))))))
  (sSeq (sIf (tOr (tVal (eCm .ge (eVar 4) (eVar 7))) (tVal (eCm .ge (eVar 6) (eVar 8)))) (sRet (eC (.non))) sPass)
  (sRet (eTup (aCons (eImm (eVar 4)) (aCons (eImm (eVar 6)) (aCons (eSub (eVar 7) (eVar 4)) (aCons (eSub (eVar 8) (eVar 6)) aNil))))))))))))
def F_seen_in : Fn := runFn 2 7 B_seen_in
def B_spans_of : Sv :=
  (sSeq (sSet 2 (eCall F_seen_in (aCons (eVar 0) (aCons (eVar 1) aNil))))
  (sSeq (sIf (tVal (eIsN false (eVar 2))) (sRet (eC (.non))) sPass)
  (sRet (eTup (aCons (eTup (aCons (eImm (eIx (eVar 2) (eC (.int 0)))) (aCons (eAdd (eIx (eVar 2) (eC (.int 0))) (eIx (eVar 2) (eC (.int 2)))) aNil))) (aCons (eTup (aCons (eImm (eIx (eVar 2) (eC (.int 1)))) (aCons (eAdd (eIx (eVar 2) (eC (.int 1))) (eIx (eVar 2) (eC (.int 3)))) aNil))) aNil))))))
def F_spans_of : Fn := runFn 2 1 B_spans_of
def B_aimed : Sv :=
  (sSeq (sSet 3 (eCall F_spans_of (aCons (eVar 0) (aCons (eVar 1) aNil))))
  (sSeq (sSet 4 (eC (.non)))
  (sSeq (sFor [] (iExp (eCall F_stops_in (aCons (eVar 0) (aCons (eCall F_field_in (aCons (eVar 0) (aCons (eVar 1) aNil))) aNil)))) (.one 5) (sSeq (sSet 6 (eCall F_spans_of (aCons (eVar 0) (aCons (eVar 5) aNil))))
    (sIf (tAnd (tVal (eIsN true (eVar 3))) (tAnd (tVal (eIsN true (eVar 6))) (tVal (eEq true (eVar 5) (eVar 1))))) (sSeq (sSet 7 (eCall F_rank_of (aCons (eVar 3) (aCons (eVar 6) (aCons (eVar 2) aNil)))))
      (sIf (tAnd (tVal (eIsN true (eVar 7))) (tOr (tVal (eIsN false (eVar 4))) (tVal (eCm .lt (eAdd (eVar 7) (eTup (aCons (eImm (eVar 5)) aNil))) (eVar 4))))) (sSet 4 (eAdd (eVar 7) (eTup (aCons (eImm (eVar 5)) aNil)))) sPass)) sPass)))
  (sSeq (sIf (tVal (eIsN false (eVar 4))) (sRet (eC (.non))) sPass)
  (sRet (eImm (eIx (eVar 4) (eNeg (eC (.int 1))))))))))
def F_aimed : Fn := runFn 3 5 B_aimed
def B_is_number : Sv :=
  (sRet (eAnd (eIsi [.int] (eVar 0)) (eAnd (eNot (eIsi [.bool] (eVar 0))) (eChain .le .le (eVar 1) (eVar 0) (eVar 2)))))
def F_is_number : Fn := runFn 3 0 B_is_number
def B_is_name : Sv :=
  (sRet (eCall F_is_number (aCons (eVar 0) (aCons (eC (.int 0)) (aCons (eC C_FAR) aNil)))))
def F_is_name : Fn := runFn 1 0 B_is_name
def B_has_name : Sv :=
  (sRet (eAnd (eCall F_is_name (aCons (eVar 1) aNil)) (eIn false (eVar 1) (eLcV 0 (iVar 0) (.one 2) tTrue (eImm (eIx (eVar 2) (eC (.int 0))))))))
def F_has_name : Fn := runFn 2 1 B_has_name
def B_see_name : Sv :=
  (sIf (tNot (tTruth (eCall F_has_name (aCons (eVar 0) (aCons (eVar 1) aNil))))) (sRaise (Str.ofString "NoName")) sPass)
def F_see_name : Fn := runFn 2 0 B_see_name
def B_is_way : Sv :=
  (sRet (eAnd (eIsi [.str] (eVar 0)) (eIn false (eVar 0) (eC C_WAYS))))
def F_is_way : Fn := runFn 1 0 B_is_way
def B_rises : Sv :=
  (sRet (eAll (eLc (iRange1 (eSub (eLen (eVar 0)) (eC (.int 1)))) (.one 1) tTrue (eCm .lt (eIx (eVar 0) (eVar 1)) (eIx (eVar 0) (eAdd (eVar 1) (eC (.int 1))))))))
def F_rises : Fn := runFn 1 1 B_rises
def B_is_key : Sv :=
  (sSeq (sIf (tOr (tNot (tTruth (eIsi [.str] (eVar 0)))) (tOr (tVal (eCm .lt (eLen (eVar 0)) (eC (.int 1)))) (tVal (eCm .gt (eLen (eVar 0)) (eC (.int 8)))))) (sRet (eC (.bl false))) sPass)
  (sRet (eAll (eLcV 0 (iVar 0) (.one 1) tTrue (eIn false (eVar 1) (eC C_KEY_SIGNS))))))
def F_is_key : Fn := runFn 1 1 B_is_key
def B_is_deed : Sv :=
  (sSeq (sIf (tOr (tNot (tTruth (eIsi [.tuple] (eVar 0)))) (tOr (tVal (eCm .lt (eLen (eVar 0)) (eC (.int 1)))) (tNot (tTruth (eIsi [.str] (eIx (eVar 0) (eC (.int 0)))))))) (sRet (eC (.bl false))) sPass)
  (sSeq (sIf (tOr (tVal (eEq false (eVar 0) (eTup (aCons (eC (.str (Str.ofString "shut"))) aNil)))) (tVal (eEq false (eVar 0) (eTup (aCons (eC (.str (Str.ofString "still"))) aNil))))) (sRet (eC (.bl true))) sPass)
  (sSeq (sIf (tVal (eEq true (eLen (eVar 0)) (eC (.int 2)))) (sRet (eC (.bl false))) sPass)
  (sSeq (sIf (tVal (eEq false (eIx (eVar 0) (eC (.int 0))) (eC (.str (Str.ofString "say"))))) (sRet (eCall F_is_number (aCons (eIx (eVar 0) (eC (.int 1))) (aCons (eNeg (eC C_FAR)) (aCons (eC C_FAR) aNil))))) sPass)
  (sRet (eAnd (eEq false (eIx (eVar 0) (eC (.int 0))) (eC (.str (Str.ofString "go")))) (eCall F_is_way (aCons (eIx (eVar 0) (eC (.int 1))) aNil))))))))
def F_is_deed : Fn := runFn 1 0 B_is_deed
def B_is_known : Sv :=
  (sRet (eAnd (eIsi [.tuple] (eVar 0)) (eAnd (eEq false (eLen (eVar 0)) (eC (.int 2))) (eAnd (eCall F_is_key (aCons (eIx (eVar 0) (eC (.int 0))) aNil)) (eCall F_is_deed (aCons (eIx (eVar 0) (eC (.int 1))) aNil))))))
def F_is_known : Fn := runFn 1 0 B_is_known
def B_are_keys : Sv :=
  (sSeq (sIf (tOr (tNot (tTruth (eIsi [.tuple] (eVar 0)))) (tOr (tVal (eCm .gt (eLen (eVar 0)) (eC C_MOST_KEYS))) (tNot (tTruth (eAll (eLcV 0 (iVar 0) (.one 1) tTrue (eCall F_is_known (aCons (eVar 1) aNil)))))))) (sRet (eC (.bl false))) sPass)
  (sRet (eCall F_rises (aCons (eLcV 0 (iVar 0) (.one 1) tTrue (eImm (eIx (eVar 1) (eC (.int 0))))) aNil))))
def F_are_keys : Fn := runFn 1 1 B_are_keys
def B_is_box : Sv :=
  (sSeq (sIf (tOr (tNot (tTruth (eIsi [.tuple] (eVar 0)))) (tVal (eEq true (eLen (eVar 0)) (eC (.int 4))))) (sRet (eC (.bl false))) sPass)
  (sSeq (sIf (tNot (tTruth (eAll (eLc (iExp (eSl (eVar 0) pNo (pSome (eC (.int 2))))) (.one 1) tTrue (eCall F_is_number (aCons (eVar 1) (aCons (eNeg (eC C_FAR)) (aCons (eC C_FAR) aNil)))))))) (sRet (eC (.bl false))) sPass)
  (sRet (eAll (eLc (iExp (eSl (eVar 0) (pSome (eC (.int 2))) pNo)) (.one 1) tTrue (eCall F_is_number (aCons (eVar 1) (aCons (eC (.int 1)) (aCons (eC C_FAR) aNil)))))))))
def F_is_box : Fn := runFn 1 1 B_is_box
def B_is_mark : Sv :=
  (sRet (eAnd (eIsi [.str] (eVar 0)) (eIn false (eVar 0) (eC C_MARKS))))
def F_is_mark : Fn := runFn 1 0 B_is_mark
def B_are_marks : Sv :=
  (sRet (eAnd (eIsi [.tuple] (eVar 0)) (eAnd (eAll (eLcV 0 (iVar 0) (.one 1) tTrue (eCall F_is_mark (aCons (eVar 1) aNil)))) (eCall F_rises (aCons (eVar 0) aNil)))))
def F_are_marks : Fn := runFn 1 1 B_are_marks
def B_is_pane : Sv :=
  (sSeq (sIf (tOr (tNot (tTruth (eIsi [.tuple] (eVar 0)))) (tVal (eEq true (eLen (eVar 0)) (eC (.int 6))))) (sRet (eC (.bl false))) sPass)
  (sSeq (sUnpack [1, 2, 3, 4, 5, 6] (eVarC 0))
  (sSeq (sIf (tOr (tNot (tTruth (eCall F_is_name (aCons (eVar 1) aNil)))) (tNot (tOr (tVal (eIsN false (eVar 2))) (tTruth (eCall F_is_name (aCons (eVar 2) aNil)))))) (sRet (eC (.bl false))) sPass)
  (sRet (eAnd (eCall F_is_box (aCons (eVar 3) aNil)) (eAnd (eCall F_is_number (aCons (eVar 4) (aCons (eNeg (eC C_FAR)) (aCons (eC C_FAR) aNil)))) (eAnd (eCall F_are_marks (aCons (eVar 5) aNil)) (eCall F_are_keys (aCons (eVar 6) aNil)))))))))
def F_is_pane : Fn := runFn 1 6 B_is_pane
def B_is_rooted : Sv :=
  (sSeq (sSet 1 (eDict1 (.inl 0) (eC (.bl true))))
  (sSeq (sSet 2 (eList (eSl (eVar 0) (pSome (eC (.int 1))) pNo)))
  (sSeq (sWhile (tVal (eEq true (eVar 2) (eLst aNil))) (sSeq (sSet 3 (eLcV 2 (iVar 2) (.one 4) (tVal (eIn true (eIx (eVar 4) (eC (.int 1))) (eVar 1))) (eImm (eVar 4))))
    (sSeq (sIf (tVal (eEq false (eLen (eVar 3)) (eLen (eVar 2)))) (sRet (eC (.bl false))) sPass)
    (sSeq (sForV 2 (iVar 2) (.one 4) (sIf (tVal (eIn false (eIx (eVar 4) (eC (.int 1))) (eVar 1))) (sPut 1 (eIx (eVar 4) (eC (.int 0))) (eC (.bl true))) sPass))
    (sSet 2 (eLcV 2 (iVar 2) (.one 4) (tVal (eIn true (eIx (eVar 4) (eC (.int 0))) (eVar 1))) (eImm (eVar 4))))))))
  (sRet (eC (.bl true))))))
def F_is_rooted : Fn := runFn 1 4 B_is_rooted
def B_is_ground : Sv :=
  (sSeq (sUnpack [1, 2, 3, 4, 5, 6] (eVarC 0))
  (sSeq (sIf (tOr (tVal (eEq true (eVar 1) (eC (.int 0)))) (tOr (tVal (eIsN true (eVar 2))) (tOr (tVal (eEq true (eSl (eVar 3) pNo (pSome (eC (.int 2)))) (eTup (aCons (eC (.int 0)) (aCons (eC (.int 0)) aNil))))) (tOr (tVal (eEq true (eVar 4) (eC (.int 0)))) (tVal (eEq true (eVar 5) (eTup aNil))))))) (sRet (eC (.bl false))) sPass)
  (sRet (eIn true (eTup (aCons (eC (.str (Str.ofString "shut"))) aNil)) (eLcV 6 (iVar 6) (.tup [7, 8]) tTrue (eImm (eVar 8)))))))
def F_is_ground : Fn := runFn 1 8 B_is_ground
def B_fits_in : Sv :=
  (sSeq (sIf (tOr (tVal (eCm .lt (eLen (eVar 0)) (eC (.int 1)))) (tNot (tTruth (eAll (eLcV 0 (iVar 0) (.one 1) tTrue (eCall F_is_pane (aCons (eVar 1) aNil))))))) (sRet (eC (.bl false))) sPass)
  (sSeq (sIf (tOr (tNot (tTruth (eCall F_rises (aCons (eLcV 0 (iVar 0) (.one 1) tTrue (eImm (eIx (eVar 1) (eC (.int 0))))) aNil)))) (tNot (tTruth (eCall F_is_ground (aCons (eIx (eVar 0) (eC (.int 0))) aNil))))) (sRet (eC (.bl false))) sPass)
  (sSeq (sFor [] (iExp (eSl (eVar 0) (pSome (eC (.int 1))) pNo)) (.one 1) (sIf (tOr (tVal (eIsN false (eIx (eVar 1) (eC (.int 1))))) (tAnd (tVal (eIn false (eC (.str (Str.ofString "sheet"))) (eIx (eVar 1) (eC (.int 4))))) (tVal (eEq true (eIx (eVar 1) (eC (.int 1))) (eC (.int 0)))))) (sRet (eC (.bl false))) sPass))
  (sRet (eCall F_is_rooted (aCons (eVar 0) aNil))))))
def F_fits_in : Fn := runFn 1 1 B_fits_in
def B_is_plan : Sv :=
  (sRet (eAnd (eIsi [.tuple] (eVar 0)) (eAnd (eCm .le (eLen (eVar 0)) (eC C_MOST_PANES)) (eCall F_fits_in (aCons (eVar 0) aNil)))))
def F_is_plan : Fn := runFn 1 0 B_is_plan
def B_see_plan : Sv :=
  (sIf (tNot (tTruth (eCall F_is_plan (aCons (eVar 0) aNil)))) (sRaise (Str.ofString "NoPlan")) sPass)
def F_see_plan : Fn := runFn 1 0 B_see_plan
def B_takes_keys : Sv :=
  (sRet (eAnd (eCall F_opens (aCons (eVar 0) (aCons (eVar 1) aNil))) (eOr (eIn false (eC (.str (Str.ofString "stop"))) (eIx (eCall F_the_pane (aCons (eVar 0) (aCons (eVar 1) aNil))) (eC (.int 4)))) (eEq false (eVar 1) (eCall F_top_sheet (aCons (eVar 0) aNil))))))
def F_takes_keys : Fn := runFn 2 0 B_takes_keys
def B_see_hold : Sv :=
  (sIf (tNot (tTruth (eCall F_takes_keys (aCons (eVar 0) (aCons (eVar 1) aNil))))) (sRaise (Str.ofString "NoHold")) sPass)
def F_see_hold : Fn := runFn 2 0 B_see_hold
def B_aim : Sv :=
  (sSeq (sDrop (eCall F_see_plan (aCons (eVar 0) aNil)))
  (sSeq (sDrop (eCall F_see_name (aCons (eVar 0) (aCons (eVar 1) aNil))))
  (sSeq (sDrop (eCall F_see_hold (aCons (eVar 0) (aCons (eVar 1) aNil))))
  (sSeq (sIf (tOr (tNot (tTruth (eCall F_is_way (aCons (eVar 2) aNil)))) (tVal (eIn true (eVar 2) (eC C_ARROWS)))) (sRaise (Str.ofString "NoWay")) sPass)
  (sRet (eCall F_aimed (aCons (eVar 0) (aCons (eVar 1) (aCons (eVar 2) aNil)))))))))
def F_aim : Fn := runFn 3 0 B_aim
def B_has_point : Sv :=
  (sRet (eAnd (eChain .le .lt (eIx (eVar 0) (eC (.int 0))) (eVar 1) (eAdd (eIx (eVar 0) (eC (.int 0))) (eIx (eVar 0) (eC (.int 2))))) (eChain .le .lt (eIx (eVar 0) (eC (.int 1))) (eVar 2) (eAdd (eIx (eVar 0) (eC (.int 1))) (eIx (eVar 0) (eC (.int 3)))))))
def F_has_point : Fn := runFn 3 0 B_has_point
def B_uppermost : Sv :=
  (sSeq (sSet 4 (eC (.non)))
  (sSeq (sForV 0 (iVar 0) (.one 5) (sIf (tAnd (tVal (eEq false (eIx (eVar 5) (eC (.int 1))) (eVar 1))) (tAnd (tVal (eIn true (eC (.str (Str.ofString "hidden"))) (eIx (eVar 5) (eC (.int 4))))) (tTruth (eCall F_has_point (aCons (eCall F_placed (aCons (eVar 0) (aCons (eIx (eVar 5) (eC (.int 0))) aNil))) (aCons (eVar 2) (aCons (eVar 3) aNil))))))) (sSeq (sSet 6 (eTup (aCons (eIn false (eC (.str (Str.ofString "sheet"))) (eIx (eVar 5) (eC (.int 4)))) (aCons (eImm (eIx (eVar 5) (eC (.int 0)))) aNil))))
      (sIf (tOr (tVal (eIsN false (eVar 4))) (tVal (eCm .gt (eVar 6) (eVar 4)))) (sSet 4 (eImm (eVar 6))) sPass)) sPass))
  (sSeq (sIf (tVal (eIsN false (eVar 4))) (sRet (eC (.non))) sPass)
  (sRet (eImm (eIx (eVar 4) (eC (.int 1))))))))
def F_uppermost : Fn := runFn 4 3 B_uppermost
def B_found_at : Sv :=
  (sSeq (sIf (tNot (tTruth (eCall F_has_point (aCons (eCall F_placed (aCons (eVar 0) (aCons (eC (.int 0)) aNil))) (aCons (eVar 1) (aCons (eVar 2) aNil)))))) (sRet (eC (.non))) sPass)
  (sSeq (sSet 3 (eC (.int 0)))
  (sSeq (sSet 4 (eCall F_uppermost (aCons (eVar 0) (aCons (eVar 3) (aCons (eVar 1) (aCons (eVar 2) aNil))))))
  (sSeq (sWhile (tVal (eIsN true (eVar 4))) (sSeq (sSet 3 (eImm (eVar 4)))
    (sSet 4 (eCall F_uppermost (aCons (eVar 0) (aCons (eVar 3) (aCons (eVar 1) (aCons (eVar 2) aNil))))))))
  (sRetVar 3)))))
def F_found_at : Fn := runFn 3 2 B_found_at
def B_see_point : Sv :=
  (sIf (tOr (tNot (tTruth (eCall F_is_number (aCons (eVar 0) (aCons (eNeg (eC C_FAR_POINT)) (aCons (eC C_FAR_POINT) aNil)))))) (tNot (tTruth (eCall F_is_number (aCons (eVar 1) (aCons (eNeg (eC C_FAR_POINT)) (aCons (eC C_FAR_POINT) aNil))))))) (sRaise (Str.ofString "NoNumber")) sPass)
def F_see_point : Fn := runFn 2 0 B_see_point
def B_at_point : Sv :=
  (sSeq (sDrop (eCall F_see_plan (aCons (eVar 0) aNil)))
  (sSeq (sDrop (eCall F_see_point (aCons (eVar 1) (aCons (eVar 2) aNil))))
  (sRet (eCall F_found_at (aCons (eVar 0) (aCons (eVar 1) (aCons (eVar 2) aNil)))))))
def F_at_point : Fn := runFn 3 0 B_at_point
def B_stepped : Sv :=
  (sSeq (sIf (tVal (eEq false (eVar 0) (eLst aNil))) (sRetVar 1) sPass)
  (sSeq (sIf (tVal (eIn true (eVar 1) (eVar 0))) (sRet (eImm (eIf (tVal (eEq false (eVar 2) (eC (.int 1)))) (eIx (eVar 0) (eC (.int 0))) (eIx (eVar 0) (eNeg (eC (.int 1))))))) sPass)
  (sRet (eImm (eIx (eVar 0) (eMod (eAdd (eIndex (eVar 0) (eVar 1)) (eVar 2)) (eLen (eVar 0))))))))
def F_stepped : Fn := runFn 3 0 B_stepped
def B_chosen_of : Sv :=
  (sSeq (sFor [] (iExp (eRev (eVar 0))) (.one 2) (sIf (tVal (eIn false (eVar 2) (eVar 1))) (sRetVar 2) sPass))
  (sRet (eImm (eIx (eVar 1) (eC (.int 0))))))
def F_chosen_of : Fn := runFn 2 1 B_chosen_of
def B_group_in : Sv :=
  (sSeq (sSet 3 (eC (.non)))
  (sSeq (sFor [] (iExp (eCall F_going_up (aCons (eVar 0) (aCons (eVar 2) aNil)))) (.one 4) (sSeq (sIf (tVal (eIn false (eC (.str (Str.ofString "one"))) (eIx (eCall F_the_pane (aCons (eVar 0) (aCons (eVar 4) aNil))) (eC (.int 4))))) (sSet 3 (eImm (eVar 4))) sPass)
    (sIf (tVal (eEq false (eVar 4) (eVar 1))) (sRetVar 3) sPass)))
  (sRetVar 3)))
def F_group_in : Fn := runFn 3 2 B_group_in
def B_round_in : Sv :=
  (sSeq (sSet 2 (eCall F_field_in (aCons (eVar 0) (aCons (eIx (eVar 1) (eNeg (eC (.int 1)))) aNil))))
  (sSeq (sSet 3 (eLc (iExp (eCall F_stops_in (aCons (eVar 0) (aCons (eVar 2) aNil)))) (.one 4) tTrue (eTup (aCons (eImm (eVar 4)) (aCons (eCall F_group_in (aCons (eVar 0) (aCons (eVar 2) (aCons (eVar 4) aNil)))) aNil)))))
  (sSeq (sSet 5 (eLst aNil))
  (sSeq (sForV 3 (iVar 3) (.tup [4, 6]) (sIf (tOr (tVal (eIsN false (eVar 6))) (tVal (eEq false (eVar 4) (eCall F_chosen_of (aCons (eVar 1) (aCons (eLcV 3 (iVar 3) (.tup [7, 8]) (tVal (eEq false (eVar 8) (eVar 6))) (eImm (eVar 7))) aNil)))))) (sApp 5 (eImm (eVar 4))) sPass))
  (sRetVar 5)))))
def F_round_in : Fn := runFn 2 7 B_round_in
def B_is_row_of : Sv :=
  (sSeq (sIf (tOr (tNot (tTruth (eIsi [.tuple] (eVar 1)))) (tOr (tVal (eCm .lt (eLen (eVar 1)) (eC (.int 1)))) (tNot (tTruth (eAll (eLcV 1 (iVar 1) (.one 2) tTrue (eCall F_has_name (aCons (eVar 0) (aCons (eVar 2) aNil))))))))) (sRet (eC (.bl false))) sPass)
  (sRet (eAnd (eEq false (eLenSet (eVar 1)) (eLen (eVar 1))) (eCall F_takes_keys (aCons (eVar 0) (aCons (eIx (eVar 1) (eNeg (eC (.int 1)))) aNil))))))
def F_is_row_of : Fn := runFn 2 1 B_is_row_of
def B_see_row : Sv :=
  (sIf (tNot (tTruth (eCall F_is_row_of (aCons (eVar 0) (aCons (eVar 1) aNil))))) (sRaise (Str.ofString "NoRow")) sPass)
def F_see_row : Fn := runFn 2 0 B_see_row
def B_round_of : Sv :=
  (sSeq (sDrop (eCall F_see_plan (aCons (eVar 0) aNil)))
  (sSeq (sDrop (eCall F_see_row (aCons (eVar 0) (aCons (eVar 1) aNil))))
  (sRet (eCall F_round_in (aCons (eVar 0) (aCons (eVar 1) aNil))))))
def F_round_of : Fn := runFn 2 0 B_round_of
def B_back_of : Sv :=
  (sRet (eCall F_stepped (aCons (eCall F_round_of (aCons (eVar 0) (aCons (eVar 1) aNil))) (aCons (eIx (eVar 1) (eNeg (eC (.int 1)))) (aCons (eNeg (eC (.int 1))) aNil)))))
def F_back_of : Fn := runFn 2 0 B_back_of
def B_with_pane : Sv :=
  (sRet (eTuple (eLcV 0 (iVar 0) (.one 2) tTrue (eImm (eIf (tVal (eEq false (eIx (eVar 2) (eC (.int 0))) (eIx (eVar 1) (eC (.int 0))))) (eVar 1) (eVar 2))))))
def F_with_pane : Fn := runFn 2 1 B_with_pane
def B_boxed : Sv :=
  (sSeq (sDrop (eCall F_see_plan (aCons (eVar 0) aNil)))
  (sSeq (sDrop (eCall F_see_name (aCons (eVar 0) (aCons (eVar 1) aNil))))
  (sSeq (sIf (tOr (tNot (tTruth (eCall F_is_box (aCons (eVar 2) aNil)))) (tAnd (tVal (eEq false (eVar 1) (eC (.int 0)))) (tVal (eEq true (eSl (eVar 2) pNo (pSome (eC (.int 2)))) (eTup (aCons (eC (.int 0)) (aCons (eC (.int 0)) aNil))))))) (sRaise (Str.ofString "NoBox")) sPass)
  (sSeq (sSet 3 (eCall F_the_pane (aCons (eVar 0) (aCons (eVar 1) aNil))))
  (sRet (eCall F_with_pane (aCons (eVar 0) (aCons (eAdd (eAdd (eSl (eVar 3) pNo (pSome (eC (.int 2)))) (eTup (aCons (eImm (eVar 2)) aNil))) (eSl (eVar 3) (pSome (eC (.int 3))) pNo)) aNil))))))))
def F_boxed : Fn := runFn 3 1 B_boxed
def B_can_hold : Sv :=
  (sSeq (sDrop (eCall F_see_plan (aCons (eVar 0) aNil)))
  (sSeq (sDrop (eCall F_see_name (aCons (eVar 0) (aCons (eVar 1) aNil))))
  (sRet (eCall F_takes_keys (aCons (eVar 0) (aCons (eVar 1) aNil))))))
def F_can_hold : Fn := runFn 2 0 B_can_hold
def B_inside : Sv :=
  (sRet (eLcV 0 (iVar 0) (.one 2) (tVal (eIn false (eVar 1) (eCall F_going_up (aCons (eVar 0) (aCons (eIx (eVar 2) (eC (.int 0))) aNil))))) (eImm (eIx (eVar 2) (eC (.int 0))))))
def F_inside : Fn := runFn 2 1 B_inside
def B_inward : Sv :=
  (sSeq (sSet 2 (eLc (iExp (eCall F_stops_in (aCons (eVar 0) (aCons (eVar 1) aNil)))) (.one 3) (tVal (eEq true (eVar 3) (eVar 1))) (eImm (eVar 3))))
  (sSeq (sIf (tVal (eEq false (eVar 2) (eLst aNil))) (sRet (eC (.non))) sPass)
  (sRet (eImm (eIx (eVar 2) (eC (.int 0)))))))
def F_inward : Fn := runFn 2 2 B_inward
def B_outward : Sv :=
  (sSeq (sSet 2 (eCall F_field_in (aCons (eVar 0) (aCons (eVar 1) aNil))))
  (sSeq (sFor [] (iExp (eSl (eCall F_going_up (aCons (eVar 0) (aCons (eVar 1) aNil))) (pSome (eC (.int 1))) pNo)) (.one 3) (sIf (tAnd (tTruth (eCall F_takes_keys (aCons (eVar 0) (aCons (eVar 3) aNil)))) (tVal (eIn false (eVar 2) (eCall F_going_up (aCons (eVar 0) (aCons (eVar 3) aNil)))))) (sRetVar 3) sPass))
  (sRet (eC (.non)))))
def F_outward : Fn := runFn 2 2 B_outward
def B_goal_of : Sv :=
  (sSeq (sIf (tOr (tVal (eEq false (eVar 2) (eC (.str (Str.ofString "next"))))) (tVal (eEq false (eVar 2) (eC (.str (Str.ofString "back")))))) (sRet (eCall F_stepped (aCons (eCall F_round_in (aCons (eVar 0) (aCons (eVar 1) aNil))) (aCons (eIx (eVar 1) (eNeg (eC (.int 1)))) (aCons (eIf (tVal (eEq false (eVar 2) (eC (.str (Str.ofString "next"))))) (eC (.int 1)) (eNeg (eC (.int 1)))) aNil))))) sPass)
  (sSeq (sIf (tVal (eEq false (eVar 2) (eC (.str (Str.ofString "in"))))) (sRet (eCall F_inward (aCons (eVar 0) (aCons (eIx (eVar 1) (eNeg (eC (.int 1)))) aNil)))) sPass)
  (sSeq (sIf (tVal (eEq false (eVar 2) (eC (.str (Str.ofString "out"))))) (sRet (eCall F_outward (aCons (eVar 0) (aCons (eIx (eVar 1) (eNeg (eC (.int 1)))) aNil)))) sPass)
  (sRet (eCall F_aimed (aCons (eVar 0) (aCons (eIx (eVar 1) (eNeg (eC (.int 1)))) (aCons (eVar 2) aNil))))))))
def F_goal_of : Fn := runFn 3 0 B_goal_of
def B_moved_to : Sv :=
  (sRet (eAdd (eTuple (eLcV 0 (iVar 0) (.one 2) (tVal (eEq true (eVar 2) (eVar 1))) (eImm (eVar 2)))) (eTup (aCons (eImm (eVar 1)) aNil))))
def F_moved_to : Fn := runFn 2 1 B_moved_to
def B_gone_on : Sv :=
  (sSeq (sSet 3 (eCall F_goal_of (aCons (eVar 0) (aCons (eVar 1) (aCons (eVar 2) aNil)))))
  (sSeq (sIf (tVal (eIsN false (eVar 3))) (sRetVar 1) sPass)
  (sRet (eCall F_moved_to (aCons (eVar 1) (aCons (eVar 3) aNil))))))
def F_gone_on : Fn := runFn 3 1 B_gone_on
def B_gone : Sv :=
  (sSeq (sDrop (eCall F_see_plan (aCons (eVar 0) aNil)))
  (sSeq (sDrop (eCall F_see_row (aCons (eVar 0) (aCons (eVar 1) aNil))))
  (sSeq (sIf (tNot (tTruth (eCall F_is_way (aCons (eVar 2) aNil)))) (sRaise (Str.ofString "NoWay")) sPass)
  (sRet (eCall F_gone_on (aCons (eVar 0) (aCons (eVar 1) (aCons (eVar 2) aNil))))))))
def F_gone : Fn := runFn 3 0 B_gone
def B_closed : Sv :=
  (sSeq (sDrop (eCall F_see_plan (aCons (eVar 0) aNil)))
  (sSeq (sDrop (eCall F_see_name (aCons (eVar 0) (aCons (eVar 1) aNil))))
  (sSeq (sIf (tVal (eEq false (eVar 1) (eC (.int 0)))) (sRaise (Str.ofString "NoShut")) sPass)
  (sSeq (sSet 2 (eCall F_inside (aCons (eVar 0) (aCons (eVar 1) aNil))))
  (sRet (eTuple (eLcV 0 (iVar 0) (.one 3) (tVal (eIn true (eIx (eVar 3) (eC (.int 0))) (eVar 2))) (eImm (eVar 3)))))))))
def F_closed : Fn := runFn 2 2 B_closed
def B_dead_by : Sv :=
  (sSeq (sDrop (eCall F_see_plan (aCons (eVar 0) aNil)))
  (sSeq (sDrop (eCall F_see_name (aCons (eVar 0) (aCons (eVar 1) aNil))))
  (sSeq (sSet 2 (eLc (iExp (eCall F_going_up (aCons (eVar 0) (aCons (eVar 1) aNil)))) (.one 3) (tTruth (eCall F_is_dead (aCons (eVar 0) (aCons (eVar 3) aNil)))) (eImm (eVar 3))))
  (sSeq (sIf (tVal (eEq false (eVar 2) (eLst aNil))) (sRet (eC (.non))) sPass)
  (sRet (eImm (eIx (eVar 2) (eNeg (eC (.int 1))))))))))
def F_dead_by : Fn := runFn 2 2 B_dead_by
def B_deed_text : Sv :=
  (sSeq (sIf (tVal (eEq false (eLen (eVar 0)) (eC (.int 1)))) (sRet (eImm (eIx (eVar 0) (eC (.int 0))))) sPass)
  (sRet (eAdd (eAdd (eIx (eVar 0) (eC (.int 0))) (eC (.str (Str.ofString ":")))) (eStr (eIx (eVar 0) (eC (.int 1)))))))
def F_deed_text : Fn := runFn 1 0 B_deed_text
def B_see_key : Sv :=
  (sIf (tNot (tTruth (eCall F_is_key (aCons (eVar 0) aNil)))) (sRaise (Str.ofString "NoKey")) sPass)
def F_see_key : Fn := runFn 1 0 B_see_key
def B_see_open : Sv :=
  (sIf (tNot (tTruth (eCall F_opens (aCons (eVar 0) (aCons (eVar 1) aNil))))) (sRaise (Str.ofString "NotOpen")) sPass)
def F_see_open : Fn := runFn 2 0 B_see_open
def B_line_of : Sv :=
  (sSeq (sSet 2 (eCall F_going_up (aCons (eVar 0) (aCons (eVar 1) aNil))))
  (sRet (eSl (eVar 2) pNo (pSome (eAdd (eIndex (eVar 2) (eCall F_top_sheet (aCons (eVar 0) aNil))) (eC (.int 1)))))))
def F_line_of : Fn := runFn 2 1 B_line_of
def B_done_by : Sv :=
  (sSeq (sFor [] (iExp (eCall F_line_of (aCons (eVar 0) (aCons (eVar 1) aNil)))) (.one 3) (sFor [] (iExp (eImm (eIx (eCall F_the_pane (aCons (eVar 0) (aCons (eVar 3) aNil))) (eC (.int 5))))) (.tup [4, 5]) (sIf (tVal (eEq false (eVar 4) (eVar 2))) (sRet (eTup (aCons (eImm (eVar 3)) (aCons (eImm (eVar 5)) aNil)))) sPass)))
  (sRet (eC (.non))))
def F_done_by : Fn := runFn 3 3 B_done_by
def B_doer : Sv :=
  (sSeq (sDrop (eCall F_see_plan (aCons (eVar 0) aNil)))
  (sSeq (sDrop (eCall F_see_name (aCons (eVar 0) (aCons (eVar 1) aNil))))
  (sSeq (sDrop (eCall F_see_open (aCons (eVar 0) (aCons (eVar 1) aNil))))
  (sSeq (sDrop (eCall F_see_key (aCons (eVar 2) aNil)))
  (sRet (eCall F_done_by (aCons (eVar 0) (aCons (eVar 1) (aCons (eVar 2) aNil)))))))))
def F_doer : Fn := runFn 3 0 B_doer
def B_field_of : Sv :=
  (sSeq (sDrop (eCall F_see_plan (aCons (eVar 0) aNil)))
  (sSeq (sDrop (eCall F_see_name (aCons (eVar 0) (aCons (eVar 1) aNil))))
  (sSeq (sDrop (eCall F_see_open (aCons (eVar 0) (aCons (eVar 1) aNil))))
  (sRet (eCall F_field_in (aCons (eVar 0) (aCons (eVar 1) aNil)))))))
def F_field_of : Fn := runFn 2 0 B_field_of
def B_handed : Sv :=
  (sSeq (sDrop (eCall F_see_plan (aCons (eVar 0) aNil)))
  (sSeq (sDrop (eCall F_see_row (aCons (eVar 0) (aCons (eVar 1) aNil))))
  (sSeq (sDrop (eCall F_see_name (aCons (eVar 0) (aCons (eVar 2) aNil))))
  (sSeq (sDrop (eCall F_see_hold (aCons (eVar 0) (aCons (eVar 2) aNil))))
  (sRet (eCall F_moved_to (aCons (eVar 1) (aCons (eVar 2) aNil))))))))
def F_handed : Fn := runFn 3 0 B_handed
def B_settle : Sv :=
  (sSeq (sSet 2 (eTuple (eLcV 1 (iVar 1) (.one 3) (tTruth (eCall F_has_name (aCons (eVar 0) (aCons (eVar 3) aNil)))) (eImm (eVar 3)))))
  (sSeq (sFor [] (iExp (eRev (eVar 2))) (.one 3) (sIf (tTruth (eCall F_takes_keys (aCons (eVar 0) (aCons (eVar 3) aNil)))) (sRet (eCall F_moved_to (aCons (eVar 2) (aCons (eVar 3) aNil)))) sPass))
  (sSeq (sSet 4 (eCall F_stops_in (aCons (eVar 0) (aCons (eCall F_top_sheet (aCons (eVar 0) aNil)) aNil))))
  (sSeq (sIf (tVal (eEq false (eVar 4) (eLst aNil))) (sRet (eAdd (eVar 2) (eTup (aCons (eCall F_top_sheet (aCons (eVar 0) aNil)) aNil)))) sPass)
  (sRet (eAdd (eVar 2) (eTup (aCons (eImm (eIx (eVar 4) (eC (.int 0)))) aNil))))))))
def F_settle : Fn := runFn 2 3 B_settle
def B_heard : Sv :=
  (sSeq (sDrop (eCall F_see_plan (aCons (eVar 0) aNil)))
  (sSeq (sDrop (eCall F_see_row (aCons (eVar 0) (aCons (eVar 1) aNil))))
  (sSeq (sDrop (eCall F_see_key (aCons (eVar 2) aNil)))
  (sSeq (sSet 3 (eCall F_done_by (aCons (eVar 0) (aCons (eIx (eVar 1) (eNeg (eC (.int 1)))) (aCons (eVar 2) aNil)))))
  (sSeq (sIf (tVal (eIsN false (eVar 3))) (sRet (eTup (aCons (eImm (eVar 0)) (aCons (eImm (eVar 1)) (aCons (eC (.non)) aNil))))) sPass)
  (sSeq (sUnpack [4, 5] (eVarC 3))
  (sSeq (sIf (tVal (eEq false (eIx (eVar 5) (eC (.int 0))) (eC (.str (Str.ofString "go"))))) (sRet (eTup (aCons (eImm (eVar 0)) (aCons (eCall F_gone_on (aCons (eVar 0) (aCons (eVar 1) (aCons (eIx (eVar 5) (eC (.int 1))) aNil)))) (aCons (eImm (eVar 3)) aNil))))) sPass)
  (sSeq (sIf (tVal (eEq false (eIx (eVar 5) (eC (.int 0))) (eC (.str (Str.ofString "shut"))))) (sSeq (sSet 6 (eCall F_closed (aCons (eVar 0) (aCons (eVar 4) aNil))))
    (sRet (eTup (aCons (eImm (eVar 6)) (aCons (eCall F_settle (aCons (eVar 6) (aCons (eVar 1) aNil))) (aCons (eImm (eVar 3)) aNil)))))) sPass)
  (sRet (eTup (aCons (eImm (eVar 0)) (aCons (eImm (eVar 1)) (aCons (eImm (eVar 3)) aNil)))))))))))))
def F_heard : Fn := runFn 3 4 B_heard
def B_holders : Sv :=
  (sSeq (sDrop (eCall F_see_plan (aCons (eVar 0) aNil)))
  (sRet (eLcV 0 (iVar 0) (.one 1) (tTruth (eCall F_takes_keys (aCons (eVar 0) (aCons (eIx (eVar 1) (eC (.int 0))) aNil)))) (eImm (eIx (eVar 1) (eC (.int 0)))))))
def F_holders : Fn := runFn 1 1 B_holders
def B_hung : Sv :=
  (sSeq (sDrop (eCall F_see_plan (aCons (eVar 0) aNil)))
  (sSeq (sDrop (eCall F_see_name (aCons (eVar 0) (aCons (eVar 1) aNil))))
  (sSeq (sDrop (eCall F_see_name (aCons (eVar 0) (aCons (eVar 2) aNil))))
  (sSeq (sSet 3 (eCall F_the_pane (aCons (eVar 0) (aCons (eVar 1) aNil))))
  (sSeq (sIf (tOr (tVal (eEq false (eVar 1) (eC (.int 0)))) (tOr (tVal (eIn false (eC (.str (Str.ofString "sheet"))) (eIx (eVar 3) (eC (.int 4))))) (tVal (eIn false (eVar 1) (eCall F_going_up (aCons (eVar 0) (aCons (eVar 2) aNil))))))) (sRaise (Str.ofString "NoUp")) sPass)
  (sRet (eCall F_with_pane (aCons (eVar 0) (aCons (eAdd (eAdd (eSl (eVar 3) pNo (pSome (eC (.int 1)))) (eTup (aCons (eImm (eVar 2)) aNil))) (eSl (eVar 3) (pSome (eC (.int 2))) pNo)) aNil)))))))))
def F_hung : Fn := runFn 3 1 B_hung
def B_in_of : Sv :=
  (sSeq (sDrop (eCall F_see_plan (aCons (eVar 0) aNil)))
  (sSeq (sDrop (eCall F_see_name (aCons (eVar 0) (aCons (eVar 1) aNil))))
  (sSeq (sDrop (eCall F_see_hold (aCons (eVar 0) (aCons (eVar 1) aNil))))
  (sRet (eCall F_inward (aCons (eVar 0) (aCons (eVar 1) aNil)))))))
def F_in_of : Fn := runFn 2 0 B_in_of
def B_is_open : Sv :=
  (sSeq (sDrop (eCall F_see_plan (aCons (eVar 0) aNil)))
  (sSeq (sDrop (eCall F_see_name (aCons (eVar 0) (aCons (eVar 1) aNil))))
  (sRet (eCall F_opens (aCons (eVar 0) (aCons (eVar 1) aNil))))))
def F_is_open : Fn := runFn 2 0 B_is_open
def B_is_row : Sv :=
  (sSeq (sDrop (eCall F_see_plan (aCons (eVar 0) aNil)))
  (sRet (eCall F_is_row_of (aCons (eVar 0) (aCons (eVar 1) aNil)))))
def F_is_row : Fn := runFn 2 0 B_is_row
def B_is_trail : Sv :=
  (sSeq (sIf (tOr (tNot (tTruth (eIsi [.tuple] (eVar 0)))) (tNot (tTruth (eAll (eLcV 0 (iVar 0) (.one 1) tTrue (eCall F_is_name (aCons (eVar 1) aNil))))))) (sRet (eC (.bl false))) sPass)
  (sRet (eEq false (eLenSet (eVar 0)) (eLen (eVar 0)))))
def F_is_trail : Fn := runFn 1 1 B_is_trail
def B_known_from : Sv :=
  (sSeq (sDrop (eCall F_see_plan (aCons (eVar 0) aNil)))
  (sSeq (sDrop (eCall F_see_name (aCons (eVar 0) (aCons (eVar 1) aNil))))
  (sSeq (sDrop (eCall F_see_open (aCons (eVar 0) (aCons (eVar 1) aNil))))
  (sSeq (sSet 2 eDict0)
  (sSeq (sFor [] (iExp (eCall F_line_of (aCons (eVar 0) (aCons (eVar 1) aNil)))) (.one 3) (sFor [] (iExp (eImm (eIx (eCall F_the_pane (aCons (eVar 0) (aCons (eVar 3) aNil))) (eC (.int 5))))) (.tup [4, 5]) (sIf (tVal (eIn true (eVar 4) (eVar 2))) (sPut 2 (eVar 4) (eImm (eVar 3))) sPass)))
  (sRet (eSorted (eLcV 2 (iItems 2) (.tup [4, 3]) tTrue (eTup (aCons (eImm (eVar 4)) (aCons (eImm (eVar 3)) aNil)))))))))))
def F_known_from : Fn := runFn 2 4 B_known_from
def B_knows_text : Sv :=
  (sSeq (sIf (tVal (eEq false (eVar 0) (eLst aNil))) (sRet (eC (.str (Str.ofString "-")))) sPass)
  (sRet (eJoin (eC (.str (Str.ofString " "))) (eLcV 0 (iVar 0) (.tup [1, 2]) tTrue (eAdd (eAdd (eVar 1) (eC (.str (Str.ofString "=")))) (eStr (eVar 2)))))))
def F_knows_text : Fn := runFn 1 2 B_knows_text
def B_lives : Sv :=
  (sSeq (sDrop (eCall F_see_plan (aCons (eVar 0) aNil)))
  (sSeq (sDrop (eCall F_see_name (aCons (eVar 0) (aCons (eVar 1) aNil))))
  (sRet (eCall F_alive (aCons (eVar 0) (aCons (eVar 1) aNil))))))
def F_lives : Fn := runFn 2 0 B_lives
def B_marked : Sv :=
  (sSeq (sDrop (eCall F_see_plan (aCons (eVar 0) aNil)))
  (sSeq (sDrop (eCall F_see_name (aCons (eVar 0) (aCons (eVar 1) aNil))))
  (sSeq (sIf (tOr (tNot (tTruth (eCall F_is_mark (aCons (eVar 2) aNil)))) (tOr (tVal (eEq false (eVar 2) (eC (.str (Str.ofString "sheet"))))) (tVal (eEq false (eVar 1) (eC (.int 0)))))) (sRaise (Str.ofString "NoMark")) sPass)
  (sSeq (sSet 3 (eCall F_the_pane (aCons (eVar 0) (aCons (eVar 1) aNil))))
  (sSeq (sSet 4 (eLc (iExp (eImm (eIx (eVar 3) (eC (.int 4))))) (.one 5) (tVal (eEq true (eVar 5) (eVar 2))) (eImm (eVar 5))))
  (sSeq (sIf (tVal (eIn true (eVar 2) (eIx (eVar 3) (eC (.int 4))))) (sSet 4 (eSorted (eAdd (eVar 4) (eLst (aCons (eImm (eVar 2)) aNil))))) sPass)
  (sRet (eCall F_with_pane (aCons (eVar 0) (aCons (eAdd (eSl (eVar 3) pNo (pSome (eC (.int 4)))) (eTup (aCons (eTuple (eVar 4)) (aCons (eImm (eIx (eVar 3) (eC (.int 5)))) aNil)))) aNil))))))))))
def F_marked : Fn := runFn 3 3 B_marked
def B_marks_text : Sv :=
  (sSeq (sIf (tVal (eEq false (eVar 0) (eTup aNil))) (sRet (eC (.str (Str.ofString "-")))) sPass)
  (sRet (eJoin (eC (.str (Str.ofString ","))) (eVar 0))))
def F_marks_text : Fn := runFn 1 0 B_marks_text
def B_names_text : Sv :=
  (sSeq (sIf (tVal (eEq false (eLen (eVar 0)) (eC (.int 0)))) (sRet (eC (.str (Str.ofString "-")))) sPass)
  (sRet (eJoin (eC (.str (Str.ofString " "))) (eLcV 0 (iVar 0) (.one 1) tTrue (eStr (eVar 1))))))
def F_names_text : Fn := runFn 1 1 B_names_text
def B_next_of : Sv :=
  (sRet (eCall F_stepped (aCons (eCall F_round_of (aCons (eVar 0) (aCons (eVar 1) aNil))) (aCons (eIx (eVar 1) (eNeg (eC (.int 1)))) (aCons (eC (.int 1)) aNil)))))
def F_next_of : Fn := runFn 2 0 B_next_of
def B_number_in : Sv :=
  (sSeq (sSet 1 (eImm (eVar 0)))
  (sSeq (sIf (tVal (eEq false (eSl (eVar 0) pNo (pSome (eC (.int 1)))) (eC (.str (Str.ofString "-"))))) (sSet 1 (eSl (eVar 0) (pSome (eC (.int 1))) pNo)) sPass)
  (sSeq (sIf (tOr (tNot (tVal (eChain .le .le (eC (.int 1)) (eLen (eVar 1)) (eC C_MOST_FIGURES)))) (tNot (tTruth (eAll (eLcV 1 (iVar 1) (.one 2) tTrue (eIn false (eVar 2) (eC C_FIGURES))))))) (sRet (eC (.non))) sPass)
  (sSeq (sIf (tAnd (tVal (eEq false (eIx (eVar 1) (eC (.int 0))) (eC (.str (Str.ofString "0"))))) (tVal (eEq true (eVar 0) (eC (.str (Str.ofString "0")))))) (sRet (eC (.non))) sPass)
  (sRet (eInt (eVar 0)))))))
def F_number_in : Fn := runFn 1 2 B_number_in
def B_numbers_in : Sv :=
  (sSeq (sSet 2 (eLc (iZip (eVar 0) (eVar 1)) (.tup [3, 4]) tTrue (eImm (eIf (tVal (eEq false (eVar 4) (eC (.str (Str.ofString "n"))))) (eCall F_number_in (aCons (eVar 3) aNil)) (eVar 3)))))
  (sSeq (sIf (tVal (eIn false (eC (.non)) (eVar 2))) (sRaise (Str.ofString "NoText")) sPass)
  (sRetVar 2)))
def F_numbers_in : Fn := runFn 2 3 B_numbers_in
def B_opened : Sv :=
  (sSeq (sDrop (eCall F_see_plan (aCons (eVar 0) aNil)))
  (sSeq (sIf (tOr (tNot (tTruth (eCall F_is_pane (aCons (eVar 1) aNil)))) (tVal (eIn false (eIx (eVar 1) (eC (.int 0))) (eLcV 0 (iVar 0) (.one 2) tTrue (eImm (eIx (eVar 2) (eC (.int 0)))))))) (sRaise (Str.ofString "NoPane")) sPass)
  (sSeq (sSet 3 (eTuple (eSorted (eAdd (eList (eVar 0)) (eLst (aCons (eImm (eVar 1)) aNil))))))
  (sSeq (sIf (tNot (tTruth (eCall F_fits_in (aCons (eVar 3) aNil)))) (sRaise (Str.ofString "NoPane")) sPass)
  (sSeq (sIf (tVal (eCm .gt (eLen (eVar 3)) (eC C_MOST_PANES))) (sRaise (Str.ofString "TooMany")) sPass)
  (sRetVar 3))))))
def F_opened : Fn := runFn 2 2 B_opened
def B_ordered : Sv :=
  (sSeq (sDrop (eCall F_see_plan (aCons (eVar 0) aNil)))
  (sSeq (sDrop (eCall F_see_name (aCons (eVar 0) (aCons (eVar 1) aNil))))
  (sSeq (sIf (tOr (tNot (tTruth (eCall F_is_number (aCons (eVar 2) (aCons (eNeg (eC C_FAR)) (aCons (eC C_FAR) aNil)))))) (tAnd (tVal (eEq false (eVar 1) (eC (.int 0)))) (tVal (eEq true (eVar 2) (eC (.int 0)))))) (sRaise (Str.ofString "NoTurn")) sPass)
  (sSeq (sSet 3 (eCall F_the_pane (aCons (eVar 0) (aCons (eVar 1) aNil))))
  (sRet (eCall F_with_pane (aCons (eVar 0) (aCons (eAdd (eAdd (eSl (eVar 3) pNo (pSome (eC (.int 3)))) (eTup (aCons (eImm (eVar 2)) aNil))) (eSl (eVar 3) (pSome (eC (.int 4))) pNo)) aNil))))))))
def F_ordered : Fn := runFn 3 1 B_ordered
def B_out_of : Sv :=
  (sSeq (sDrop (eCall F_see_plan (aCons (eVar 0) aNil)))
  (sSeq (sDrop (eCall F_see_name (aCons (eVar 0) (aCons (eVar 1) aNil))))
  (sSeq (sDrop (eCall F_see_hold (aCons (eVar 0) (aCons (eVar 1) aNil))))
  (sRet (eCall F_outward (aCons (eVar 0) (aCons (eVar 1) aNil)))))))
def F_out_of : Fn := runFn 2 0 B_out_of
def B_pane_text : Sv :=
  (sSeq (sUnpack [1, 2, 3, 4, 5, 6] (eVarC 0))
  (sSeq (sSet 7 (eAdd (eAdd (eLst (aCons (eStr (eVar 1)) (aCons (eIf (tVal (eIsN false (eVar 2))) (eC (.str (Str.ofString "-"))) (eStr (eVar 2))) aNil))) (eLcV 3 (iVar 3) (.one 8) tTrue (eStr (eVar 8)))) (eLst (aCons (eStr (eVar 4)) (aCons (eCall F_marks_text (aCons (eVar 5) aNil)) aNil)))))
  (sRet (eJoin (eC (.str (Str.ofString " "))) (eAdd (eVar 7) (eLcV 6 (iVar 6) (.tup [9, 10]) tTrue (eAdd (eAdd (eVar 9) (eC (.str (Str.ofString "=")))) (eCall F_deed_text (aCons (eVar 10) aNil)))))))))
def F_pane_text : Fn := runFn 1 10 B_pane_text
def B_pressed : Sv :=
  (sSeq (sDrop (eCall F_see_plan (aCons (eVar 0) aNil)))
  (sSeq (sDrop (eCall F_see_row (aCons (eVar 0) (aCons (eVar 1) aNil))))
  (sSeq (sDrop (eCall F_see_point (aCons (eVar 2) (aCons (eVar 3) aNil))))
  (sSeq (sSet 4 (eCall F_found_at (aCons (eVar 0) (aCons (eVar 2) (aCons (eVar 3) aNil)))))
  (sSeq (sIf (tVal (eIsN true (eVar 4))) (sFor [] (iExp (eCall F_going_up (aCons (eVar 0) (aCons (eVar 4) aNil)))) (.one 5) (sIf (tTruth (eCall F_takes_keys (aCons (eVar 0) (aCons (eVar 5) aNil)))) (sRet (eCall F_moved_to (aCons (eVar 1) (aCons (eVar 5) aNil)))) sPass)) sPass)
  (sRetVar 1))))))
def F_pressed : Fn := runFn 4 2 B_pressed
def B_reigning : Sv :=
  (sSeq (sDrop (eCall F_see_plan (aCons (eVar 0) aNil)))
  (sRet (eCall F_top_sheet (aCons (eVar 0) aNil))))
def F_reigning : Fn := runFn 1 0 B_reigning
def B_settled : Sv :=
  (sSeq (sDrop (eCall F_see_plan (aCons (eVar 0) aNil)))
  (sSeq (sIf (tNot (tTruth (eCall F_is_trail (aCons (eVar 1) aNil)))) (sRaise (Str.ofString "NoTrail")) sPass)
  (sRet (eCall F_settle (aCons (eVar 0) (aCons (eVar 1) aNil))))))
def F_settled : Fn := runFn 2 0 B_settled
def B_shown_plan : Sv :=
  (sSeq (sDrop (eCall F_see_plan (aCons (eVar 0) aNil)))
  (sRet (eJoin (eC (.str (Str.ofString "\n"))) (eLcV 0 (iVar 0) (.one 1) tTrue (eCall F_pane_text (aCons (eVar 1) aNil))))))
def F_shown_plan : Fn := runFn 1 1 B_shown_plan
def B_stops : Sv :=
  (sSeq (sDrop (eCall F_see_plan (aCons (eVar 0) aNil)))
  (sSeq (sDrop (eCall F_see_name (aCons (eVar 0) (aCons (eVar 1) aNil))))
  (sRet (eCall F_stops_in (aCons (eVar 0) (aCons (eVar 1) aNil))))))
def F_stops : Fn := runFn 2 0 B_stops
def B_struck_text : Sv :=
  (sSeq (sIf (tVal (eIsN false (eVar 0))) (sRet (eC (.str (Str.ofString "-")))) sPass)
  (sRet (eAdd (eAdd (eStr (eIx (eVar 0) (eC (.int 0)))) (eC (.str (Str.ofString " ")))) (eCall F_deed_text (aCons (eIx (eVar 0) (eC (.int 1))) aNil)))))
def F_struck_text : Fn := runFn 1 0 B_struck_text
def B_taught : Sv :=
  (sSeq (sDrop (eCall F_see_plan (aCons (eVar 0) aNil)))
  (sSeq (sDrop (eCall F_see_name (aCons (eVar 0) (aCons (eVar 1) aNil))))
  (sSeq (sIf (tNot (tTruth (eCall F_is_key (aCons (eVar 2) aNil)))) (sRaise (Str.ofString "NoKey")) sPass)
  (sSeq (sIf (tAnd (tVal (eIsN true (eVar 3))) (tOr (tNot (tTruth (eCall F_is_deed (aCons (eVar 3) aNil)))) (tAnd (tVal (eEq false (eVar 1) (eC (.int 0)))) (tVal (eEq false (eVar 3) (eTup (aCons (eC (.str (Str.ofString "shut"))) aNil))))))) (sRaise (Str.ofString "NoDeed")) sPass)
  (sSeq (sSet 4 (eCall F_the_pane (aCons (eVar 0) (aCons (eVar 1) aNil))))
  (sSeq (sSet 5 (eLc (iExp (eImm (eIx (eVar 4) (eC (.int 5))))) (.one 6) (tVal (eEq true (eIx (eVar 6) (eC (.int 0))) (eVar 2))) (eImm (eVar 6))))
  (sSeq (sIf (tVal (eIsN true (eVar 3))) (sSeq (sIf (tVal (eEq false (eLen (eVar 5)) (eC C_MOST_KEYS))) (sRaise (Str.ofString "TooMany")) sPass)
    (sSet 5 (eSorted (eAdd (eVar 5) (eLst (aCons (eTup (aCons (eImm (eVar 2)) (aCons (eImm (eVar 3)) aNil))) aNil)))))) sPass)
  (sRet (eCall F_with_pane (aCons (eVar 0) (aCons (eAdd (eSl (eVar 4) pNo (pSome (eC (.int 5)))) (eTup (aCons (eTuple (eVar 5)) aNil))) aNil)))))))))))
def F_taught : Fn := runFn 4 3 B_taught
def B_turns_round : Sv :=
  (sSeq (sDrop (eCall F_see_plan (aCons (eVar 0) aNil)))
  (sSeq (sDrop (eCall F_see_row (aCons (eVar 0) (aCons (eVar 1) aNil))))
  (sSeq (sSet 2 (eLst aNil))
  (sSeq (sWhile (tVal (eIn true (eIx (eVar 1) (eNeg (eC (.int 1)))) (eVar 2))) (sSeq (sApp 2 (eImm (eIx (eVar 1) (eNeg (eC (.int 1))))))
    (sSet 1 (eCall F_moved_to (aCons (eVar 1) (aCons (eCall F_stepped (aCons (eCall F_round_in (aCons (eVar 0) (aCons (eVar 1) aNil))) (aCons (eIx (eVar 1) (eNeg (eC (.int 1)))) (aCons (eC (.int 1)) aNil)))) aNil))))))
  (sSeq (sSet 3 (eIndex (eVar 2) (eIx (eVar 1) (eNeg (eC (.int 1))))))
  (sRet (eTup (aCons (eSl (eVar 2) pNo (pSome (eVar 3))) (aCons (eSl (eVar 2) (pSome (eVar 3)) pNo) aNil)))))))))
def F_turns_round : Fn := runFn 2 2 B_turns_round
def B_walk : Sv :=
  (sSeq (sDrop (eCall F_see_plan (aCons (eVar 0) aNil)))
  (sSeq (sDrop (eCall F_see_name (aCons (eVar 0) (aCons (eVar 1) aNil))))
  (sRet (eCall F_walked (aCons (eVar 0) (aCons (eVar 1) aNil))))))
def F_walk : Fn := runFn 2 0 B_walk
def B_within : Sv :=
  (sSeq (sDrop (eCall F_see_plan (aCons (eVar 0) aNil)))
  (sSeq (sDrop (eCall F_see_name (aCons (eVar 0) (aCons (eVar 1) aNil))))
  (sRet (eCall F_inside (aCons (eVar 0) (aCons (eVar 1) aNil))))))
def F_within : Fn := runFn 2 0 B_within
end Lw
end
section
set_option maxRecDepth 100000
set_option linter.all false
set_option Elab.async false
namespace Lw
open PySem PySem.Spec PyProof.Rows Dl
def B__law_point : Sv :=
  (sSeq (sSets [2, 3] [(eCall F__law_draw (aCons (eVar 0) (aCons (eC (.int 4)) aNil))), (eImm (eIx (eIx (eVar 1) (eC (.int 0))) (eC (.int 2))))])
  (sSeq (sSets [4, 5] [(eSub (eCall F__law_draw (aCons (eVar 0) (aCons (eAdd (eIx (eVar 3) (eC (.int 2))) (eC (.int 4))) aNil))) (eC (.int 2))), (eSub (eCall F__law_draw (aCons (eVar 0) (aCons (eAdd (eIx (eVar 3) (eC (.int 3))) (eC (.int 4))) aNil))) (eC (.int 2)))])
  (sSeq (sIf (tVal (eEq false (eVar 2) (eC (.int 0)))) (sSeq (sSet 6 (eImm (eIx (eIx (eVar 1) (eCall F__law_draw (aCons (eVar 0) (aCons (eLen (eVar 1)) aNil)))) (eC (.int 0)))))
    (sSeq (sSet 4 (eSub (eIx (eCall F__law_span (aCons (eVar 1) (aCons (eVar 6) (aCons (eC (.int 0)) aNil)))) (eCall F__law_draw (aCons (eVar 0) (aCons (eC (.int 2)) aNil)))) (eCall F__law_draw (aCons (eVar 0) (aCons (eC (.int 2)) aNil)))))
    (sRet (eTup (aCons (eImm (eVar 4)) (aCons (eSub (eIx (eCall F__law_span (aCons (eVar 1) (aCons (eVar 6) (aCons (eC (.int 1)) aNil)))) (eCall F__law_draw (aCons (eVar 0) (aCons (eC (.int 2)) aNil)))) (eCall F__law_draw (aCons (eVar 0) (aCons (eC (.int 2)) aNil)))) aNil)))))) sPass)
  (sRet (eImm (eIx (eLst (aCons (eTup (aCons (eImm (eVar 4)) (aCons (eImm (eVar 5)) aNil))) (aCons (eTup (aCons (eImm (eVar 4)) (aCons (eImm (eVar 5)) aNil))) (aCons (eTup (aCons (ePow (eC (.int 10)) (eC (.int 9))) (aCons (eNeg (ePow (eC (.int 10)) (eC (.int 9)))) aNil))) aNil)))) (eSub (eVar 2) (eC (.int 1)))))))))
def F__law_point : Fn := runFn 2 5 B__law_point
def B__law_due : Sv :=
  (sSeq (sSet 4 (eCall F__law_at (aCons (eVar 0) (aCons (eVar 2) (aCons (eVar 3) aNil)))))
  (sSeq (sIf (tVal (eIsN false (eVar 4))) (sRetVar 1) sPass)
  (sSeq (sSet 5 (eLc (iExp (eCall F__law_line (aCons (eVar 0) (aCons (eVar 4) aNil)))) (.one 6) (tTruth (eCall F__law_can (aCons (eVar 0) (aCons (eVar 6) aNil)))) (eImm (eVar 6))))
  (sSeq (sIf (tVal (eEq false (eVar 5) (eLst aNil))) (sRetVar 1) sPass)
  (sRet (eTuple (eAdd (eLcV 1 (iVar 1) (.one 7) (tVal (eEq true (eVar 7) (eIx (eVar 5) (eC (.int 0))))) (eImm (eVar 7))) (eLst (aCons (eImm (eIx (eVar 5) (eC (.int 0)))) aNil)))))))))
def F__law_due : Fn := runFn 4 4 B__law_due
def B_law : Sv :=
  (sSeq (sFor [] (iExp (eAdd (eLst (aCons (eCall F__law_cell (aCons (eVar 0) (aCons (eC (.int 0)) aNil))) aNil)) (eSl (eVar 0) (pSome (eC (.int 1))) (pSome (eC (.int 2)))))) (.one 1) (sSeq (sSet 2 (eCall F__law_pen (aCons (eVar 1) aNil)))
    (sSeq (sSet 3 (eCall F__law_plan (aCons (eVar 2) aNil)))
    (sSeq (sSet 4 (eCall F__law_row (aCons (eVar 2) (aCons (eVar 3) aNil))))
    (sFor [] (iRange1 (eC (.int 9))) (.one 5) (sSeq (sUnpack [6, 7] (eCall F__law_point (aCons (eVar 2) (aCons (eVar 3) aNil))))
      (sIf (tNot (tTruth (eCall (F__law_same 6) (aCons (eCall F_pressed (aCons (eVar 3) (aCons (eVar 4) (aCons (eVar 6) (aCons (eVar 7) aNil))))) (aCons (eCall F__law_due (aCons (eVar 3) (aCons (eVar 4) (aCons (eVar 6) (aCons (eVar 7) aNil))))) aNil))))) (sRet (eC (.bl false))) sPass)))))))
  (sRet (eC (.bl true))))
def F_law : Fn := runFn 1 7 B_law
end Lw
end
section
set_option maxRecDepth 100000
set_option linter.all false
set_option Elab.async false
set_option maxHeartbeats 0
namespace Lw
open PySem PySem.Spec PyProof.Rows L2 Dl
/-! ### the text -/
def topS (i : Nat) : Stmt := PySem.Challenge.pw_keypanes_k42_pressed.main.body.getD i (.Pass ⟨0, 0, 0, 0⟩)
def cf_is_number : Cf := ⟨[Str.ofString "thing", Str.ofString "least", Str.ofString "greatest"], defScope (topS 12), [Str.ofString "int", Str.ofString "isinstance", Str.ofString "bool"], [], [], [], 0, false, fun _ => true⟩
theorem chk_is_number : (trSs (trs 12) (cf_is_number) (defBody (topS 12))).map (·.S) = some B_is_number := by kernel_rfl
def cf_is_name : Cf := ⟨[Str.ofString "thing"], defScope (topS 13), [], [(Str.ofString "is_number", F_is_number)], [(Str.ofString "FAR", C_FAR)], [], 1, false, fun _ => true⟩
theorem chk_is_name : (trSs (trs 12) (cf_is_name) (defBody (topS 13))).map (·.S) = some B_is_name := by kernel_rfl
def cf_is_box : Cf := ⟨[Str.ofString "thing", Str.ofString "side"], defScope (topS 14), [Str.ofString "len", Str.ofString "all", Str.ofString "tuple", Str.ofString "isinstance"], [(Str.ofString "is_number", F_is_number)], [(Str.ofString "FAR", C_FAR)], [], 1, false, fun _ => true⟩
theorem chk_is_box : (trSs (trs 12) (cf_is_box) (defBody (topS 14))).map (·.S) = some B_is_box := by kernel_rfl
def cf_is_key : Cf := ⟨[Str.ofString "thing", Str.ofString "sign"], defScope (topS 15), [Str.ofString "len", Str.ofString "all", Str.ofString "str", Str.ofString "isinstance"], [], [(Str.ofString "KEY_SIGNS", C_KEY_SIGNS)], [], 0, false, fun _ => true⟩
theorem chk_is_key : (trSs (trs 12) (cf_is_key) (defBody (topS 15))).map (·.S) = some B_is_key := by kernel_rfl
def cf_is_way : Cf := ⟨[Str.ofString "thing"], defScope (topS 16), [Str.ofString "str", Str.ofString "isinstance"], [], [(Str.ofString "WAYS", C_WAYS)], [], 0, false, fun _ => true⟩
theorem chk_is_way : (trSs (trs 12) (cf_is_way) (defBody (topS 16))).map (·.S) = some B_is_way := by kernel_rfl
def cf_is_mark : Cf := ⟨[Str.ofString "thing"], defScope (topS 17), [Str.ofString "str", Str.ofString "isinstance"], [], [(Str.ofString "MARKS", C_MARKS)], [], 0, false, fun _ => true⟩
theorem chk_is_mark : (trSs (trs 12) (cf_is_mark) (defBody (topS 17))).map (·.S) = some B_is_mark := by kernel_rfl
def cf_is_deed : Cf := ⟨[Str.ofString "thing"], defScope (topS 18), [Str.ofString "len", Str.ofString "tuple", Str.ofString "str", Str.ofString "isinstance"], [(Str.ofString "is_number", F_is_number), (Str.ofString "is_way", F_is_way)], [(Str.ofString "FAR", C_FAR)], [], 1, false, fun _ => true⟩
theorem chk_is_deed : (trSs (trs 12) (cf_is_deed) (defBody (topS 18))).map (·.S) = some B_is_deed := by kernel_rfl
def cf_rises : Cf := ⟨[Str.ofString "thing", Str.ofString "at"], defScope (topS 19), [Str.ofString "len", Str.ofString "all", Str.ofString "range"], [], [], [], 0, false, fun _ => true⟩
theorem chk_rises : (trSs (trs 12) (cf_rises) (defBody (topS 19))).map (·.S) = some B_rises := by kernel_rfl
def cf_are_marks : Cf := ⟨[Str.ofString "thing", Str.ofString "one"], defScope (topS 20), [Str.ofString "all", Str.ofString "tuple", Str.ofString "isinstance"], [(Str.ofString "rises", F_rises), (Str.ofString "is_mark", F_is_mark)], [], [], 1, false, fun _ => true⟩
theorem chk_are_marks : (trSs (trs 12) (cf_are_marks) (defBody (topS 20))).map (·.S) = some B_are_marks := by kernel_rfl
def cf_is_known : Cf := ⟨[Str.ofString "thing"], defScope (topS 21), [Str.ofString "len", Str.ofString "tuple", Str.ofString "isinstance"], [(Str.ofString "is_deed", F_is_deed), (Str.ofString "is_key", F_is_key)], [], [], 2, false, fun _ => true⟩
theorem chk_is_known : (trSs (trs 12) (cf_is_known) (defBody (topS 21))).map (·.S) = some B_is_known := by kernel_rfl
def cf_are_keys : Cf := ⟨[Str.ofString "thing", Str.ofString "one"], defScope (topS 22), [Str.ofString "len", Str.ofString "all", Str.ofString "tuple", Str.ofString "isinstance"], [(Str.ofString "is_known", F_is_known), (Str.ofString "rises", F_rises)], [(Str.ofString "MOST_KEYS", C_MOST_KEYS)], [], 3, false, fun _ => true⟩
theorem chk_are_keys : (trSs (trs 12) (cf_are_keys) (defBody (topS 22))).map (·.S) = some B_are_keys := by kernel_rfl
def cf_is_pane : Cf := ⟨[Str.ofString "thing", Str.ofString "name", Str.ofString "up", Str.ofString "box", Str.ofString "turn", Str.ofString "marks", Str.ofString "keys"], defScope (topS 23), [Str.ofString "len", Str.ofString "tuple", Str.ofString "isinstance"], [(Str.ofString "is_name", F_is_name), (Str.ofString "are_keys", F_are_keys), (Str.ofString "are_marks", F_are_marks), (Str.ofString "is_number", F_is_number), (Str.ofString "is_box", F_is_box)], [(Str.ofString "FAR", C_FAR)], [], 4, false, fun _ => true⟩
theorem chk_is_pane : (trSs (trs 12) (cf_is_pane) (defBody (topS 23))).map (·.S) = some B_is_pane := by kernel_rfl
def cf_is_ground : Cf := ⟨[Str.ofString "pane", Str.ofString "name", Str.ofString "up", Str.ofString "box", Str.ofString "turn", Str.ofString "marks", Str.ofString "keys", Str.ofString "key", Str.ofString "deed"], defScope (topS 24), [], [], [], [], 0, false, fun _ => true⟩
theorem chk_is_ground : (trSs (trs 12) (cf_is_ground) (defBody (topS 24))).map (·.S) = some B_is_ground := by kernel_rfl
def cf_is_rooted : Cf := ⟨[Str.ofString "panes", Str.ofString "known", Str.ofString "left", Str.ofString "later", Str.ofString "pane"], defScope (topS 25), [Str.ofString "len", Str.ofString "list"], [], [], [], 0, false, fun _ => true⟩
theorem chk_is_rooted : (trSs (trs 12) (cf_is_rooted) (defBody (topS 25))).map (·.S) = some B_is_rooted := by kernel_rfl
def cf_fits_in : Cf := ⟨[Str.ofString "panes", Str.ofString "pane"], defScope (topS 26), [Str.ofString "len", Str.ofString "all"], [(Str.ofString "is_pane", F_is_pane), (Str.ofString "is_ground", F_is_ground), (Str.ofString "rises", F_rises), (Str.ofString "is_rooted", F_is_rooted)], [], [], 5, false, fun _ => true⟩
theorem chk_fits_in : (trSs (trs 12) (cf_fits_in) (defBody (topS 26))).map (·.S) = some B_fits_in := by kernel_rfl
def cf_is_plan : Cf := ⟨[Str.ofString "thing"], defScope (topS 27), [Str.ofString "len", Str.ofString "tuple", Str.ofString "isinstance"], [(Str.ofString "fits_in", F_fits_in)], [(Str.ofString "MOST_PANES", C_MOST_PANES)], [], 6, false, fun _ => true⟩
theorem chk_is_plan : (trSs (trs 12) (cf_is_plan) (defBody (topS 27))).map (·.S) = some B_is_plan := by kernel_rfl
def cf_see_plan : Cf := ⟨[Str.ofString "plan"], defScope (topS 28), [], [(Str.ofString "is_plan", F_is_plan)], [], [Str.ofString "NoPlan"], 7, false, fun _ => true⟩
theorem chk_see_plan : (trSs (trs 12) (cf_see_plan) (defBody (topS 28))).map (·.S) = some B_see_plan := by kernel_rfl
def cf_has_name : Cf := ⟨[Str.ofString "plan", Str.ofString "thing", Str.ofString "pane"], defScope (topS 29), [], [(Str.ofString "is_name", F_is_name)], [], [], 2, false, fun _ => true⟩
theorem chk_has_name : (trSs (trs 12) (cf_has_name) (defBody (topS 29))).map (·.S) = some B_has_name := by kernel_rfl
def cf_the_pane : Cf := ⟨[Str.ofString "plan", Str.ofString "name", Str.ofString "pane"], defScope (topS 30), [], [], [], [], 0, false, fun _ => true⟩
theorem chk_the_pane : (trSs (trs 12) (cf_the_pane) (defBody (topS 30))).map (·.S) = some B_the_pane := by kernel_rfl
def cf_going_up : Cf := ⟨[Str.ofString "plan", Str.ofString "name", Str.ofString "above", Str.ofString "pane", Str.ofString "line"], defScope (topS 31), [Str.ofString "dict"], [], [], [], 0, false, fun _ => true⟩
theorem chk_going_up : (trSs (trs 12) (cf_going_up) (defBody (topS 31))).map (·.S) = some B_going_up := by kernel_rfl
def cf_is_dead : Cf := ⟨[Str.ofString "plan", Str.ofString "name", Str.ofString "marks"], defScope (topS 33), [], [(Str.ofString "the_pane", F_the_pane)], [], [], 1, false, fun _ => true⟩
theorem chk_is_dead : (trSs (trs 12) (cf_is_dead) (defBody (topS 33))).map (·.S) = some B_is_dead := by kernel_rfl
def cf_alive : Cf := ⟨[Str.ofString "plan", Str.ofString "name", Str.ofString "up"], defScope (topS 34), [], [(Str.ofString "is_dead", F_is_dead), (Str.ofString "going_up", F_going_up)], [], [], 2, false, fun _ => true⟩
theorem chk_alive : (trSs (trs 12) (cf_alive) (defBody (topS 34))).map (·.S) = some B_alive := by kernel_rfl
def cf_top_sheet : Cf := ⟨[Str.ofString "plan", Str.ofString "pane"], defScope (topS 35), [Str.ofString "max"], [(Str.ofString "alive", F_alive)], [], [], 3, false, fun _ => true⟩
theorem chk_top_sheet : (trSs (trs 12) (cf_top_sheet) (defBody (topS 35))).map (·.S) = some B_top_sheet := by kernel_rfl
def cf_opens : Cf := ⟨[Str.ofString "plan", Str.ofString "name"], defScope (topS 36), [], [(Str.ofString "top_sheet", F_top_sheet), (Str.ofString "going_up", F_going_up), (Str.ofString "alive", F_alive)], [], [], 4, false, fun _ => true⟩
theorem chk_opens : (trSs (trs 12) (cf_opens) (defBody (topS 36))).map (·.S) = some B_opens := by kernel_rfl
def cf_takes_keys : Cf := ⟨[Str.ofString "plan", Str.ofString "name"], defScope (topS 37), [], [(Str.ofString "top_sheet", F_top_sheet), (Str.ofString "the_pane", F_the_pane), (Str.ofString "opens", F_opens)], [], [], 5, false, fun _ => true⟩
theorem chk_takes_keys : (trSs (trs 12) (cf_takes_keys) (defBody (topS 37))).map (·.S) = some B_takes_keys := by kernel_rfl
def cf_placed : Cf := ⟨[Str.ofString "plan", Str.ofString "name", Str.ofString "left", Str.ofString "top", Str.ofString "up", Str.ofString "box", Str.ofString "own"], defScope (topS 40), [], [(Str.ofString "the_pane", F_the_pane), (Str.ofString "going_up", F_going_up)], [], [], 1, false, fun _ => true⟩
theorem chk_placed : (trSs (trs 12) (cf_placed) (defBody (topS 40))).map (·.S) = some B_placed := by kernel_rfl
def cf_has_point : Cf := ⟨[Str.ofString "box", Str.ofString "x", Str.ofString "y"], defScope (topS 41), [], [], [], [], 0, false, fun _ => true⟩
theorem chk_has_point : (trSs (trs 12) (cf_has_point) (defBody (topS 41))).map (·.S) = some B_has_point := by kernel_rfl
def cf_uppermost : Cf := ⟨[Str.ofString "plan", Str.ofString "name", Str.ofString "x", Str.ofString "y", Str.ofString "best", Str.ofString "pane", Str.ofString "rank"], defScope (topS 42), [], [(Str.ofString "has_point", F_has_point), (Str.ofString "placed", F_placed)], [], [], 2, false, fun _ => true⟩
theorem chk_uppermost : (trSs (trs 12) (cf_uppermost) (defBody (topS 42))).map (·.S) = some B_uppermost := by kernel_rfl
def cf_found_at : Cf := ⟨[Str.ofString "plan", Str.ofString "x", Str.ofString "y", Str.ofString "here", Str.ofString "part"], defScope (topS 43), [], [(Str.ofString "has_point", F_has_point), (Str.ofString "placed", F_placed), (Str.ofString "uppermost", F_uppermost)], [], [], 3, false, fun _ => true⟩
theorem chk_found_at : (trSs (trs 12) (cf_found_at) (defBody (topS 43))).map (·.S) = some B_found_at := by kernel_rfl
def cf_see_point : Cf := ⟨[Str.ofString "x", Str.ofString "y"], defScope (topS 44), [], [(Str.ofString "is_number", F_is_number)], [(Str.ofString "FAR_POINT", C_FAR_POINT)], [Str.ofString "NoNumber"], 1, false, fun _ => true⟩
theorem chk_see_point : (trSs (trs 12) (cf_see_point) (defBody (topS 44))).map (·.S) = some B_see_point := by kernel_rfl
def cf_is_row_of : Cf := ⟨[Str.ofString "plan", Str.ofString "thing", Str.ofString "name"], defScope (topS 46), [Str.ofString "len", Str.ofString "all", Str.ofString "tuple", Str.ofString "set", Str.ofString "isinstance"], [(Str.ofString "has_name", F_has_name), (Str.ofString "takes_keys", F_takes_keys)], [], [], 6, false, fun _ => true⟩
theorem chk_is_row_of : (trSs (trs 12) (cf_is_row_of) (defBody (topS 46))).map (·.S) = some B_is_row_of := by kernel_rfl
def cf_see_row : Cf := ⟨[Str.ofString "plan", Str.ofString "row"], defScope (topS 47), [], [(Str.ofString "is_row_of", F_is_row_of)], [], [Str.ofString "NoRow"], 7, false, fun _ => true⟩
theorem chk_see_row : (trSs (trs 12) (cf_see_row) (defBody (topS 47))).map (·.S) = some B_see_row := by kernel_rfl
def cf_moved_to : Cf := ⟨[Str.ofString "row", Str.ofString "name", Str.ofString "one"], defScope (topS 49), [Str.ofString "tuple"], [], [], [], 0, false, fun _ => true⟩
theorem chk_moved_to : (trSs (trs 12) (cf_moved_to) (defBody (topS 49))).map (·.S) = some B_moved_to := by kernel_rfl
def cf_pressed : Cf := ⟨[Str.ofString "plan", Str.ofString "row", Str.ofString "x", Str.ofString "y", Str.ofString "name", Str.ofString "up"], defScope (topS 51), [], [(Str.ofString "see_plan", F_see_plan), (Str.ofString "see_row", F_see_row), (Str.ofString "see_point", F_see_point), (Str.ofString "found_at", F_found_at), (Str.ofString "takes_keys", F_takes_keys), (Str.ofString "moved_to", F_moved_to), (Str.ofString "going_up", F_going_up)], [], [], 8, false, fun _ => true⟩
theorem chk_pressed : (trSs (trs 12) (cf_pressed) (defBody (topS 51))).map (·.S) = some B_pressed := by kernel_rfl
def cf__law_cell : Cf := ⟨[Str.ofString "_law_script", Str.ofString "_law_k"], defScope (topS 53), [Str.ofString "len"], [], [], [], 0, false, fun _ => true⟩
theorem chk__law_cell : (trSs (trs 12) (cf__law_cell) (defBody (topS 53))).map (·.S) = some B__law_cell := by kernel_rfl
def cf__law_pen : Cf := ⟨[Str.ofString "_law_cell_here"], defScope (topS 54), [Str.ofString "int"], [], [], [], 0, true, fun _ => true⟩
theorem chk__law_pen : (trSs (trs 12) (cf__law_pen) (defBody (topS 54))).map (·.S) = some B__law_pen := by kernel_rfl
def cf__law_draw : Cf := ⟨[Str.ofString "_law_pen_here", Str.ofString "_law_many", Str.ofString "_law_digit"], defScope (topS 55), [], [], [], [], 0, false, fun _ => true⟩
theorem chk__law_draw : (trSs (trs 12) (cf__law_draw) (defBody (topS 55))).map (·.S) = some B__law_draw := by kernel_rfl
def cf__law_same (self : Fn) (lvl : Nat) : Cf := ⟨[Str.ofString "_law_thing", Str.ofString "_law_due_here", Str.ofString "_law_one", Str.ofString "_law_other"], defScope (topS 56), [Str.ofString "len", Str.ofString "all", Str.ofString "list", Str.ofString "tuple", Str.ofString "isinstance", Str.ofString "bool", Str.ofString "zip"], [(Str.ofString "_law_same", self)], [], [], lvl, false, fun _ => true⟩
theorem chk__law_same (self : Fn) (lvl : Nat) : (trSs (trs 12) (cf__law_same self lvl) (defBody (topS 56))).map (·.S) = some (B__law_same self) := by kernel_rfl
def cf__law_names : Cf := ⟨[Str.ofString "_law_pen_here", Str.ofString "_law_many", Str.ofString "_law_names_here", Str.ofString "_law_k"], defScope (topS 57), [Str.ofString "range"], [(Str.ofString "_law_draw", F__law_draw)], [], [], 1, false, fun _ => true⟩
theorem chk__law_names : (trSs (trs 12) (cf__law_names) (defBody (topS 57))).map (·.S) = some B__law_names := by kernel_rfl
def cf__law_ups : Cf := ⟨[Str.ofString "_law_pen_here", Str.ofString "_law_names_here", Str.ofString "_law_ready", Str.ofString "_law_left", Str.ofString "_law_above", Str.ofString "_law_name", Str.ofString "_law_some"], defScope (topS 58), [Str.ofString "len", Str.ofString "list"], [(Str.ofString "_law_draw", F__law_draw)], [], [], 1, false, fun _ => true⟩
theorem chk__law_ups : (trSs (trs 12) (cf__law_ups) (defBody (topS 58))).map (·.S) = some B__law_ups := by kernel_rfl
def cf__law_marks : Cf := ⟨[Str.ofString "_law_pen_here", Str.ofString "_law_up", Str.ofString "_law_odds", Str.ofString "_law_some", Str.ofString "_law_word", Str.ofString "_law_odd"], defScope (topS 59), [Str.ofString "tuple"], [(Str.ofString "_law_draw", F__law_draw)], [], [], 1, false, fun _ => true⟩
theorem chk__law_marks : (trSs (trs 12) (cf__law_marks) (defBody (topS 59))).map (·.S) = some B__law_marks := by kernel_rfl
def cf__law_box : Cf := ⟨[Str.ofString "_law_pen_here", Str.ofString "_law_left", Str.ofString "_law_top"], defScope (topS 60), [], [(Str.ofString "_law_draw", F__law_draw)], [], [], 1, false, fun _ => true⟩
theorem chk__law_box : (trSs (trs 12) (cf__law_box) (defBody (topS 60))).map (·.S) = some B__law_box := by kernel_rfl
def cf__law_deed : Cf := ⟨[Str.ofString "_law_pen_here", Str.ofString "_law_ground", Str.ofString "_law_ways", Str.ofString "_law_number", Str.ofString "_law_some"], defScope (topS 61), [Str.ofString "int"], [(Str.ofString "_law_draw", F__law_draw)], [], [], 1, false, fun _ => true⟩
theorem chk__law_deed : (trSs (trs 12) (cf__law_deed) (defBody (topS 61))).map (·.S) = some B__law_deed := by kernel_rfl
def cf__law_keys : Cf := ⟨[Str.ofString "_law_pen_here", Str.ofString "_law_ground", Str.ofString "_law_some", Str.ofString "_law_word"], defScope (topS 62), [Str.ofString "tuple"], [(Str.ofString "_law_draw", F__law_draw), (Str.ofString "_law_deed", F__law_deed)], [], [], 2, false, fun _ => true⟩
theorem chk__law_keys : (trSs (trs 12) (cf__law_keys) (defBody (topS 62))).map (·.S) = some B__law_keys := by kernel_rfl
def cf__law_plan : Cf := ⟨[Str.ofString "_law_pen_here", Str.ofString "_law_names_here", Str.ofString "_law_above", Str.ofString "_law_far", Str.ofString "_law_size", Str.ofString "_law_panes", Str.ofString "_law_name", Str.ofString "_law_turn", Str.ofString "_law_box_here", Str.ofString "_law_marks_here", Str.ofString "_law_edge"], defScope (topS 63), [Str.ofString "tuple"], [(Str.ofString "_law_names", F__law_names), (Str.ofString "_law_draw", F__law_draw), (Str.ofString "_law_ups", F__law_ups), (Str.ofString "_law_keys", F__law_keys), (Str.ofString "_law_box", F__law_box), (Str.ofString "_law_marks", F__law_marks)], [], [], 3, false, fun _ => true⟩
theorem chk__law_plan : (trSs (trs 12) (cf__law_plan) (defBody (topS 63))).map (·.S) = some B__law_plan := by kernel_rfl
def cf__law_pane : Cf := ⟨[Str.ofString "_law_plan_here", Str.ofString "_law_name", Str.ofString "_law_pane_here"], defScope (topS 64), [], [], [], [], 0, false, fun _ => true⟩
theorem chk__law_pane : (trSs (trs 12) (cf__law_pane) (defBody (topS 64))).map (·.S) = some B__law_pane := by kernel_rfl
def cf__law_line : Cf := ⟨[Str.ofString "_law_plan_here", Str.ofString "_law_name", Str.ofString "_law_above", Str.ofString "_law_line_here", Str.ofString "_law_pane_here"], defScope (topS 65), [Str.ofString "dict"], [], [], [], 0, false, fun _ => true⟩
theorem chk__law_line : (trSs (trs 12) (cf__law_line) (defBody (topS 65))).map (·.S) = some B__law_line := by kernel_rfl
def cf__law_living : Cf := ⟨[Str.ofString "_law_plan_here", Str.ofString "_law_marks_here", Str.ofString "_law_pane_here", Str.ofString "_law_dead", Str.ofString "_law_name", Str.ofString "_law_up"], defScope (topS 66), [Str.ofString "dict"], [(Str.ofString "_law_line", F__law_line)], [], [], 1, false, fun _ => true⟩
theorem chk__law_living : (trSs (trs 12) (cf__law_living) (defBody (topS 66))).map (·.S) = some B__law_living := by kernel_rfl
def cf__law_reign : Cf := ⟨[Str.ofString "_law_plan_here", Str.ofString "_law_some", Str.ofString "_law_pane_here"], defScope (topS 67), [Str.ofString "max"], [(Str.ofString "_law_living", F__law_living)], [], [], 2, false, fun _ => true⟩
theorem chk__law_reign : (trSs (trs 12) (cf__law_reign) (defBody (topS 67))).map (·.S) = some B__law_reign := by kernel_rfl
def cf__law_open : Cf := ⟨[Str.ofString "_law_plan_here", Str.ofString "_law_reign_here", Str.ofString "_law_name"], defScope (topS 68), [], [(Str.ofString "_law_reign", F__law_reign), (Str.ofString "_law_line", F__law_line), (Str.ofString "_law_living", F__law_living)], [], [], 3, false, fun _ => true⟩
theorem chk__law_open : (trSs (trs 12) (cf__law_open) (defBody (topS 68))).map (·.S) = some B__law_open := by kernel_rfl
def cf__law_goods : Cf := ⟨[Str.ofString "_law_plan_here", Str.ofString "_law_reign_here", Str.ofString "_law_some", Str.ofString "_law_pane_here"], defScope (topS 69), [], [(Str.ofString "_law_reign", F__law_reign), (Str.ofString "_law_open", F__law_open)], [], [], 4, false, fun _ => true⟩
theorem chk__law_goods : (trSs (trs 12) (cf__law_goods) (defBody (topS 69))).map (·.S) = some B__law_goods := by kernel_rfl
def cf__law_can : Cf := ⟨[Str.ofString "_law_plan_here", Str.ofString "_law_name"], defScope (topS 70), [], [(Str.ofString "_law_goods", F__law_goods)], [], [], 5, false, fun _ => true⟩
theorem chk__law_can : (trSs (trs 12) (cf__law_can) (defBody (topS 70))).map (·.S) = some B__law_can := by kernel_rfl
def cf__law_row : Cf := ⟨[Str.ofString "_law_pen_here", Str.ofString "_law_plan_here", Str.ofString "_law_left", Str.ofString "_law_row_here", Str.ofString "_law_pane_here", Str.ofString "_law_lap", Str.ofString "_law_good", Str.ofString "_law_last", Str.ofString "_law_name"], defScope (topS 71), [Str.ofString "len", Str.ofString "tuple", Str.ofString "range"], [(Str.ofString "_law_draw", F__law_draw), (Str.ofString "_law_goods", F__law_goods)], [], [], 5, false, fun _ => true⟩
theorem chk__law_row : (trSs (trs 12) (cf__law_row) (defBody (topS 71))).map (·.S) = some B__law_row := by kernel_rfl
def cf__law_span : Cf := ⟨[Str.ofString "_law_plan_here", Str.ofString "_law_name", Str.ofString "_law_side", Str.ofString "_law_at_here", Str.ofString "_law_low", Str.ofString "_law_high", Str.ofString "_law_up", Str.ofString "_law_box_here"], defScope (topS 72), [Str.ofString "max", Str.ofString "min"], [(Str.ofString "_law_pane", F__law_pane), (Str.ofString "_law_line", F__law_line)], [], [], 1, false, fun _ => true⟩
theorem chk__law_span : (trSs (trs 12) (cf__law_span) (defBody (topS 72))).map (·.S) = some B__law_span := by kernel_rfl
def cf__law_has : Cf := ⟨[Str.ofString "_law_plan_here", Str.ofString "_law_name", Str.ofString "_law_x", Str.ofString "_law_y", Str.ofString "_law_across", Str.ofString "_law_down"], defScope (topS 73), [], [(Str.ofString "_law_span", F__law_span)], [], [], 2, false, fun _ => true⟩
theorem chk__law_has : (trSs (trs 12) (cf__law_has) (defBody (topS 73))).map (·.S) = some B__law_has := by kernel_rfl
def cf__law_at : Cf := ⟨[Str.ofString "_law_plan_here", Str.ofString "_law_x", Str.ofString "_law_y", Str.ofString "_law_line_here", Str.ofString "_law_here", Str.ofString "_law_kept", Str.ofString "_law_pane_here", Str.ofString "_law_over", Str.ofString "_law_name"], defScope (topS 74), [Str.ofString "sorted"], [(Str.ofString "_law_has", F__law_has)], [], [], 3, false, fun _ => true⟩
theorem chk__law_at : (trSs (trs 12) (cf__law_at) (defBody (topS 74))).map (·.S) = some B__law_at := by kernel_rfl
def cf__law_point : Cf := ⟨[Str.ofString "_law_pen_here", Str.ofString "_law_plan_here", Str.ofString "_law_way", Str.ofString "_law_ground", Str.ofString "_law_x", Str.ofString "_law_y", Str.ofString "_law_name"], defScope (topS 75), [Str.ofString "len"], [(Str.ofString "_law_draw", F__law_draw), (Str.ofString "_law_span", F__law_span)], [], [], 2, false, fun _ => true⟩
theorem chk__law_point : (trSs (trs 12) (cf__law_point) (defBody (topS 75))).map (·.S) = some B__law_point := by kernel_rfl
def cf__law_due : Cf := ⟨[Str.ofString "_law_plan_here", Str.ofString "_law_row_here", Str.ofString "_law_x", Str.ofString "_law_y", Str.ofString "_law_name", Str.ofString "_law_good", Str.ofString "_law_up", Str.ofString "_law_one"], defScope (topS 76), [Str.ofString "tuple"], [(Str.ofString "_law_at", F__law_at), (Str.ofString "_law_can", F__law_can), (Str.ofString "_law_line", F__law_line)], [], [], 6, false, fun _ => true⟩
theorem chk__law_due : (trSs (trs 12) (cf__law_due) (defBody (topS 76))).map (·.S) = some B__law_due := by kernel_rfl
def cf_law : Cf := ⟨[Str.ofString "_law_script", Str.ofString "_law_cell_here", Str.ofString "_law_pen_here", Str.ofString "_law_plan_here", Str.ofString "_law_row_here", Str.ofString "_law_lap", Str.ofString "_law_x", Str.ofString "_law_y"], defScope (topS 77), [Str.ofString "range"], [(Str.ofString "_law_pen", F__law_pen), (Str.ofString "_law_plan", F__law_plan), (Str.ofString "_law_row", F__law_row), (Str.ofString "_law_point", F__law_point), (Str.ofString "_law_same", (F__law_same 6)), (Str.ofString "pressed", F_pressed), (Str.ofString "_law_due", F__law_due), (Str.ofString "_law_cell", F__law_cell)], [], [], 9, false, fun _ => true⟩
theorem chk_law : (trSs (trs 12) (cf_law) (defBody (topS 77))).map (·.S) = some B_law := by kernel_rfl
abbrev d_is_number : He.DefD := ⟨("is_number", none), "is_number", "is_number", defArgs (topS 12), defBody (topS 12), defScope (topS 12), [], []⟩
abbrev d_is_name : He.DefD := ⟨("is_name", none), "is_name", "is_name", defArgs (topS 13), defBody (topS 13), defScope (topS 13), [], []⟩
abbrev d_is_box : He.DefD := ⟨("is_box", none), "is_box", "is_box", defArgs (topS 14), defBody (topS 14), defScope (topS 14), [], []⟩
abbrev d_is_key : He.DefD := ⟨("is_key", none), "is_key", "is_key", defArgs (topS 15), defBody (topS 15), defScope (topS 15), [], []⟩
abbrev d_is_way : He.DefD := ⟨("is_way", none), "is_way", "is_way", defArgs (topS 16), defBody (topS 16), defScope (topS 16), [], []⟩
abbrev d_is_mark : He.DefD := ⟨("is_mark", none), "is_mark", "is_mark", defArgs (topS 17), defBody (topS 17), defScope (topS 17), [], []⟩
abbrev d_is_deed : He.DefD := ⟨("is_deed", none), "is_deed", "is_deed", defArgs (topS 18), defBody (topS 18), defScope (topS 18), [], []⟩
abbrev d_rises : He.DefD := ⟨("rises", none), "rises", "rises", defArgs (topS 19), defBody (topS 19), defScope (topS 19), [], []⟩
abbrev d_are_marks : He.DefD := ⟨("are_marks", none), "are_marks", "are_marks", defArgs (topS 20), defBody (topS 20), defScope (topS 20), [], []⟩
abbrev d_is_known : He.DefD := ⟨("is_known", none), "is_known", "is_known", defArgs (topS 21), defBody (topS 21), defScope (topS 21), [], []⟩
abbrev d_are_keys : He.DefD := ⟨("are_keys", none), "are_keys", "are_keys", defArgs (topS 22), defBody (topS 22), defScope (topS 22), [], []⟩
abbrev d_is_pane : He.DefD := ⟨("is_pane", none), "is_pane", "is_pane", defArgs (topS 23), defBody (topS 23), defScope (topS 23), [], []⟩
abbrev d_is_ground : He.DefD := ⟨("is_ground", none), "is_ground", "is_ground", defArgs (topS 24), defBody (topS 24), defScope (topS 24), [], []⟩
abbrev d_is_rooted : He.DefD := ⟨("is_rooted", none), "is_rooted", "is_rooted", defArgs (topS 25), defBody (topS 25), defScope (topS 25), [], []⟩
abbrev d_fits_in : He.DefD := ⟨("fits_in", none), "fits_in", "fits_in", defArgs (topS 26), defBody (topS 26), defScope (topS 26), [], []⟩
abbrev d_is_plan : He.DefD := ⟨("is_plan", none), "is_plan", "is_plan", defArgs (topS 27), defBody (topS 27), defScope (topS 27), [], []⟩
abbrev d_see_plan : He.DefD := ⟨("see_plan", none), "see_plan", "see_plan", defArgs (topS 28), defBody (topS 28), defScope (topS 28), [], []⟩
abbrev d_has_name : He.DefD := ⟨("has_name", none), "has_name", "has_name", defArgs (topS 29), defBody (topS 29), defScope (topS 29), [], []⟩
abbrev d_the_pane : He.DefD := ⟨("the_pane", none), "the_pane", "the_pane", defArgs (topS 30), defBody (topS 30), defScope (topS 30), [], []⟩
abbrev d_going_up : He.DefD := ⟨("going_up", none), "going_up", "going_up", defArgs (topS 31), defBody (topS 31), defScope (topS 31), [], []⟩
abbrev d_is_dead : He.DefD := ⟨("is_dead", none), "is_dead", "is_dead", defArgs (topS 33), defBody (topS 33), defScope (topS 33), [], []⟩
abbrev d_alive : He.DefD := ⟨("alive", none), "alive", "alive", defArgs (topS 34), defBody (topS 34), defScope (topS 34), [], []⟩
abbrev d_top_sheet : He.DefD := ⟨("top_sheet", none), "top_sheet", "top_sheet", defArgs (topS 35), defBody (topS 35), defScope (topS 35), [], []⟩
abbrev d_opens : He.DefD := ⟨("opens", none), "opens", "opens", defArgs (topS 36), defBody (topS 36), defScope (topS 36), [], []⟩
abbrev d_takes_keys : He.DefD := ⟨("takes_keys", none), "takes_keys", "takes_keys", defArgs (topS 37), defBody (topS 37), defScope (topS 37), [], []⟩
abbrev d_placed : He.DefD := ⟨("placed", none), "placed", "placed", defArgs (topS 40), defBody (topS 40), defScope (topS 40), [], []⟩
abbrev d_has_point : He.DefD := ⟨("has_point", none), "has_point", "has_point", defArgs (topS 41), defBody (topS 41), defScope (topS 41), [], []⟩
abbrev d_uppermost : He.DefD := ⟨("uppermost", none), "uppermost", "uppermost", defArgs (topS 42), defBody (topS 42), defScope (topS 42), [], []⟩
abbrev d_found_at : He.DefD := ⟨("found_at", none), "found_at", "found_at", defArgs (topS 43), defBody (topS 43), defScope (topS 43), [], []⟩
abbrev d_see_point : He.DefD := ⟨("see_point", none), "see_point", "see_point", defArgs (topS 44), defBody (topS 44), defScope (topS 44), [], []⟩
abbrev d_is_row_of : He.DefD := ⟨("is_row_of", none), "is_row_of", "is_row_of", defArgs (topS 46), defBody (topS 46), defScope (topS 46), [], []⟩
abbrev d_see_row : He.DefD := ⟨("see_row", none), "see_row", "see_row", defArgs (topS 47), defBody (topS 47), defScope (topS 47), [], []⟩
abbrev d_moved_to : He.DefD := ⟨("moved_to", none), "moved_to", "moved_to", defArgs (topS 49), defBody (topS 49), defScope (topS 49), [], []⟩
abbrev d_pressed : He.DefD := ⟨("pressed", none), "pressed", "pressed", defArgs (topS 51), defBody (topS 51), defScope (topS 51), [], []⟩
abbrev d__law_cell : He.DefD := ⟨("_law_cell", none), "_law_cell", "_law_cell", defArgs (topS 53), defBody (topS 53), defScope (topS 53), [], []⟩
abbrev d__law_pen : He.DefD := ⟨("_law_pen", none), "_law_pen", "_law_pen", defArgs (topS 54), defBody (topS 54), defScope (topS 54), [], []⟩
abbrev d__law_draw : He.DefD := ⟨("_law_draw", none), "_law_draw", "_law_draw", defArgs (topS 55), defBody (topS 55), defScope (topS 55), [], []⟩
abbrev d__law_same : He.DefD := ⟨("_law_same", none), "_law_same", "_law_same", defArgs (topS 56), defBody (topS 56), defScope (topS 56), [], []⟩
abbrev d__law_names : He.DefD := ⟨("_law_names", none), "_law_names", "_law_names", defArgs (topS 57), defBody (topS 57), defScope (topS 57), [], []⟩
abbrev d__law_ups : He.DefD := ⟨("_law_ups", none), "_law_ups", "_law_ups", defArgs (topS 58), defBody (topS 58), defScope (topS 58), [], []⟩
abbrev d__law_marks : He.DefD := ⟨("_law_marks", none), "_law_marks", "_law_marks", defArgs (topS 59), defBody (topS 59), defScope (topS 59), [], []⟩
abbrev d__law_box : He.DefD := ⟨("_law_box", none), "_law_box", "_law_box", defArgs (topS 60), defBody (topS 60), defScope (topS 60), [], []⟩
abbrev d__law_deed : He.DefD := ⟨("_law_deed", none), "_law_deed", "_law_deed", defArgs (topS 61), defBody (topS 61), defScope (topS 61), [], []⟩
abbrev d__law_keys : He.DefD := ⟨("_law_keys", none), "_law_keys", "_law_keys", defArgs (topS 62), defBody (topS 62), defScope (topS 62), [], []⟩
abbrev d__law_plan : He.DefD := ⟨("_law_plan", none), "_law_plan", "_law_plan", defArgs (topS 63), defBody (topS 63), defScope (topS 63), [], []⟩
abbrev d__law_pane : He.DefD := ⟨("_law_pane", none), "_law_pane", "_law_pane", defArgs (topS 64), defBody (topS 64), defScope (topS 64), [], []⟩
abbrev d__law_line : He.DefD := ⟨("_law_line", none), "_law_line", "_law_line", defArgs (topS 65), defBody (topS 65), defScope (topS 65), [], []⟩
abbrev d__law_living : He.DefD := ⟨("_law_living", none), "_law_living", "_law_living", defArgs (topS 66), defBody (topS 66), defScope (topS 66), [], []⟩
abbrev d__law_reign : He.DefD := ⟨("_law_reign", none), "_law_reign", "_law_reign", defArgs (topS 67), defBody (topS 67), defScope (topS 67), [], []⟩
abbrev d__law_open : He.DefD := ⟨("_law_open", none), "_law_open", "_law_open", defArgs (topS 68), defBody (topS 68), defScope (topS 68), [], []⟩
abbrev d__law_goods : He.DefD := ⟨("_law_goods", none), "_law_goods", "_law_goods", defArgs (topS 69), defBody (topS 69), defScope (topS 69), [], []⟩
abbrev d__law_can : He.DefD := ⟨("_law_can", none), "_law_can", "_law_can", defArgs (topS 70), defBody (topS 70), defScope (topS 70), [], []⟩
abbrev d__law_row : He.DefD := ⟨("_law_row", none), "_law_row", "_law_row", defArgs (topS 71), defBody (topS 71), defScope (topS 71), [], []⟩
abbrev d__law_span : He.DefD := ⟨("_law_span", none), "_law_span", "_law_span", defArgs (topS 72), defBody (topS 72), defScope (topS 72), [], []⟩
abbrev d__law_has : He.DefD := ⟨("_law_has", none), "_law_has", "_law_has", defArgs (topS 73), defBody (topS 73), defScope (topS 73), [], []⟩
abbrev d__law_at : He.DefD := ⟨("_law_at", none), "_law_at", "_law_at", defArgs (topS 74), defBody (topS 74), defScope (topS 74), [], []⟩
abbrev d__law_point : He.DefD := ⟨("_law_point", none), "_law_point", "_law_point", defArgs (topS 75), defBody (topS 75), defScope (topS 75), [], []⟩
abbrev d__law_due : He.DefD := ⟨("_law_due", none), "_law_due", "_law_due", defArgs (topS 76), defBody (topS 76), defScope (topS 76), [], []⟩
abbrev d_law : He.DefD := ⟨("law", none), "law", "law", defArgs (topS 77), defBody (topS 77), defScope (topS 77), [], []⟩
def fnL : List He.DefD := [d_is_number, d_is_name, d_is_box, d_is_key, d_is_way, d_is_mark, d_is_deed, d_rises, d_are_marks, d_is_known, d_are_keys, d_is_pane, d_is_ground, d_is_rooted, d_fits_in, d_is_plan, d_see_plan, d_has_name, d_the_pane, d_going_up, d_is_dead, d_alive, d_top_sheet, d_opens, d_takes_keys, d_placed, d_has_point, d_uppermost, d_found_at, d_see_point, d_is_row_of, d_see_row, d_moved_to, d_pressed, d__law_cell, d__law_pen, d__law_draw, d__law_same, d__law_names, d__law_ups, d__law_marks, d__law_box, d__law_deed, d__law_keys, d__law_plan, d__law_pane, d__law_line, d__law_living, d__law_reign, d__law_open, d__law_goods, d__law_can, d__law_row, d__law_span, d__law_has, d__law_at, d__law_point, d__law_due, d_law]
def faL : List He.Fa := [.glo "is_number", .glo "is_name", .glo "is_box", .glo "is_key", .glo "is_way", .glo "is_mark", .glo "is_deed", .glo "rises", .glo "are_marks", .glo "is_known", .glo "are_keys", .glo "is_pane", .glo "is_ground", .glo "is_rooted", .glo "fits_in", .glo "is_plan", .glo "see_plan", .glo "has_name", .glo "the_pane", .glo "going_up", .glo "is_dead", .glo "alive", .glo "top_sheet", .glo "opens", .glo "takes_keys", .glo "placed", .glo "has_point", .glo "uppermost", .glo "found_at", .glo "see_point", .glo "is_row_of", .glo "see_row", .glo "moved_to", .glo "pressed", .glo "_law_cell", .glo "_law_pen", .glo "_law_draw", .glo "_law_same", .glo "_law_names", .glo "_law_ups", .glo "_law_marks", .glo "_law_box", .glo "_law_deed", .glo "_law_keys", .glo "_law_plan", .glo "_law_pane", .glo "_law_line", .glo "_law_living", .glo "_law_reign", .glo "_law_open", .glo "_law_goods", .glo "_law_can", .glo "_law_row", .glo "_law_span", .glo "_law_has", .glo "_law_at", .glo "_law_point", .glo "_law_due", .glo "law", .free "all", .free "bool", .free "dict", .free "int", .free "isinstance", .free "len", .free "list", .free "max", .free "min", .free "range", .free "set", .free "sorted", .free "str", .free "tuple", .free "zip", .int "MOST_PANES" 40, .int "MOST_KEYS" 20, .int "FAR" 1000000, .glo "MARKS", .glo "WAYS", .str "KEY_SIGNS" "abcdefghijklmnopqrstuvwxyz0123456789", .int "FAR_POINT" 1000000000, .glo "NoPlan", .exc "NoPlan", .glo "NoNumber", .exc "NoNumber", .glo "NoRow", .exc "NoRow"]
def exB (K : PySem.W.Frag) : Bool := (K.all fun p => !(p.2.cls == .type "list")) && He.tupB K "MARKS" [.str "asleep", .str "hidden", .str "hold", .str "one", .str "sheet", .str "stop"] && He.tupB K "WAYS" [.str "above", .str "back", .str "below", .str "in", .str "left", .str "next", .str "out", .str "right"]
theorem no_lists {K : PySem.W.Frag} (h : exB K = true) {a : Addr} {o : Obj} (l : K.lookup a = some o) (c : o.cls = .type "list") : False := by
  have h1 : (K.all fun p => !(p.2.cls == .type "list")) = true := by
    unfold exB at h
    simp only [Bool.and_eq_true] at h
    exact h.1.1
  have m := He.lookup_mem l
  have z := List.all_eq_true.mp h1 _ m
  rw [c] at z
  simp at z
/-- what the head tells -/
structure Hd (w : World) (K : PySem.W.Frag) (h : Heap) (mg : Str → Option Value) : Prop where
  X : K.In h
  G : h.Ns mainGlobals mg
  c : He.SaysX faL fnL [] [] exB w h K
section
variable {w : World} {K : PySem.W.Frag} {h base : Heap} {mg : Str → Option Value}
theorem Hd.glo (Y : Hd w K h mg) {x : Str} (n : Nat) (m : faL[n]? = some (He.Fa.glo x)) : mg x = some (.ref (He.ga K x)) := He.glo_ok Y.X Y.G (Y.c.t.d.fact n m)
theorem Hd.free (Y : Hd w K h mg) {x : Str} (n : Nat) (m : faL[n]? = some (He.Fa.free x)) : mg x = none := He.free_ok Y.X Y.G (Y.c.t.d.fact n m)
theorem Hd.intC (Y : Hd w K h mg) {x : Str} {i : Int} (n : Nat) (m : faL[n]? = some (He.Fa.int x i)) : ConK K mg x (.int i) := by
  obtain ⟨t, e⟩ := He.int_ok Y.X Y.G (Y.c.t.d.fact n m)
  exact ⟨.int i, _, e, ⟨t, rfl⟩, fun _ _ => .int i⟩
theorem Hd.strC (Y : Hd w K h mg) {x z : Str} (n : Nat) (m : faL[n]? = some (He.Fa.str x z)) (hz : z.length ≤ LINE) : ConK K mg x (.str z) := by
  obtain ⟨t, e⟩ := He.str_ok Y.X Y.G (Y.c.t.d.fact n m)
  exact ⟨.str z, _, e, ⟨t, rfl⟩, fun _ _ => .str z hz⟩
theorem Hd.tupC (Y : Hd w K h mg) {x : Str} {vs : List He.Dv} {ds : List D} (n : Nat) (m : faL[n]? = some (He.Fa.glo x)) (t : He.tupB K x vs = true) (hl : vs.length ≤ LINE) (r : ∀ (H : Hp) (ι : List Addr), Reps K ι H (fun _ => False) (vs.map (He.Dv.v K)) ds) : ConK K mg x (.tup ds) :=
  ⟨.ref (He.ga K x), _, Y.glo n m, rfl, fun H ι => .tup (He.tupB_ok t H) (by rw [List.length_map]; exact hl) (r H ι)⟩
theorem Hd.excC (Y : Hd w K h mg) {x : Str} (n : Nat) (m : faL[n]? = some (He.Fa.exc x)) (n2 : Nat) (m2 : faL[n2]? = some (He.Fa.glo x)) : ExcK K mg x := by
  obtain ⟨h1, h2, h3, h4⟩ := He.exc_ok (Y.c.t.d.fact n m)
  exact ⟨⟨_, _, _, _, F.excBase_ValueError, h1⟩, Y.glo n2 m2, h2, h3, h4⟩
theorem ofChk {cf : Cf} {body : List Stmt} {o : Option (SSs cf body)} {S : Sv} (h : o.map (·.S) = some S) : ∃ B : SSs cf body, B.S = S := by
  obtain ⟨B, _, hB⟩ := Option.map_eq_some_iff.mp h
  exact ⟨B, hB⟩
theorem bad_ok {P : Program} {k : Nat} {f : Addr} {fd : FuncData} {ps : List Str} : FnOk P w K mg base (L2.CX P w) k f fd ps (spD K fun _ _ => .bad) := ⟨fun vs H Q E h => by
  obtain ⟨ds, st, ι, t, r, q⟩ := h
  exact q.elim, fun A outer s H args us vs Q E _ _ _ _ h => by
  obtain ⟨ds, st, ι, t, r, q⟩ := h
  exact q.elim⟩
theorem con_MOST_PANES (Y : Hd w K h mg) : ConK K mg "MOST_PANES" C_MOST_PANES := Y.intC 74 rfl
theorem con_MOST_KEYS (Y : Hd w K h mg) : ConK K mg "MOST_KEYS" C_MOST_KEYS := Y.intC 75 rfl
theorem con_FAR (Y : Hd w K h mg) : ConK K mg "FAR" C_FAR := Y.intC 76 rfl
theorem con_MARKS (Y : Hd w K h mg) : ConK K mg "MARKS" C_MARKS := by
  have h0 := Y.c.more
  unfold exB at h0
  simp only [Bool.and_eq_true] at h0
  exact Y.tupC 77 rfl (h0.1).2 (by decide) fun H ι => .cons (.str _ (by decide +kernel)) (.cons (.str _ (by decide +kernel)) (.cons (.str _ (by decide +kernel)) (.cons (.str _ (by decide +kernel)) (.cons (.str _ (by decide +kernel)) (.cons (.str _ (by decide +kernel)) (.nil))))))
theorem con_WAYS (Y : Hd w K h mg) : ConK K mg "WAYS" C_WAYS := by
  have h0 := Y.c.more
  unfold exB at h0
  simp only [Bool.and_eq_true] at h0
  exact Y.tupC 78 rfl (h0).2 (by decide) fun H ι => .cons (.str _ (by decide +kernel)) (.cons (.str _ (by decide +kernel)) (.cons (.str _ (by decide +kernel)) (.cons (.str _ (by decide +kernel)) (.cons (.str _ (by decide +kernel)) (.cons (.str _ (by decide +kernel)) (.cons (.str _ (by decide +kernel)) (.cons (.str _ (by decide +kernel)) (.nil))))))))
theorem con_KEY_SIGNS (Y : Hd w K h mg) : ConK K mg "KEY_SIGNS" C_KEY_SIGNS := Y.strC 79 rfl (by decide +kernel)
theorem con_FAR_POINT (Y : Hd w K h mg) : ConK K mg "FAR_POINT" C_FAR_POINT := Y.intC 80 rfl
theorem ok_is_number (Y : Hd w K h mg) : FnK PySem.Challenge.pw_keypanes_k42_pressed w K mg base 2 "is_number" F_is_number := by
  obtain ⟨fd, Fd⟩ := Y.c.t.d.def_ 0 (d := d_is_number) rfl
  obtain ⟨B, hB⟩ := ofChk chk_is_number
  have b : Binds K fd [Str.ofString "thing", Str.ofString "least", Str.ofString "greatest"] [] := FunD.bindsN Fd fun _ _ _ _ _ _ us hl => match us, hl with | [_, _, _], _ => rfl
  exact ⟨_, fd, [Str.ofString "thing", Str.ofString "least", Str.ofString "greatest"], fn_ok (cf := cf_is_number) Fd ⟨rfl, rfl, rfl, by decide +kernel, rfl, by decide +kernel, by decide +kernel⟩ (by decide) (fun _ => rfl) B hB ⟨(List.forall_mem_cons.mpr ⟨Y.free 62 rfl, List.forall_mem_cons.mpr ⟨Y.free 63 rfl, List.forall_mem_cons.mpr ⟨Y.free 60 rfl, fun _ h => absurd h List.not_mem_nil⟩⟩⟩), fun x F m => (show ∀ p ∈ ([] : List (Str × Fn)), FnK PySem.Challenge.pw_keypanes_k42_pressed w K mg base 1 p.1 p.2 from (fun _ h => absurd h List.not_mem_nil)) (x, F) m, fun x d m => (show ∀ p ∈ ([] : List (Str × D)), ConK K mg p.1 p.2 from (fun _ h => absurd h List.not_mem_nil)) (x, d) m, (fun _ h => absurd h List.not_mem_nil)⟩, Y.glo 0 rfl, Fd.kp, b⟩
theorem ok_is_name (Y : Hd w K h mg) : FnK PySem.Challenge.pw_keypanes_k42_pressed w K mg base 3 "is_name" F_is_name := by
  obtain ⟨fd, Fd⟩ := Y.c.t.d.def_ 1 (d := d_is_name) rfl
  obtain ⟨B, hB⟩ := ofChk chk_is_name
  have b : Binds K fd [Str.ofString "thing"] [] := FunD.bindsN Fd fun _ _ _ _ _ _ us hl => match us, hl with | [_], _ => rfl
  exact ⟨_, fd, [Str.ofString "thing"], fn_ok (cf := cf_is_name) Fd ⟨rfl, rfl, rfl, by decide +kernel, rfl, by decide +kernel, by decide +kernel⟩ (by decide) (fun _ => rfl) B hB ⟨(fun _ h => absurd h List.not_mem_nil), fun x F m => (show ∀ p ∈ ([(Str.ofString "is_number", F_is_number)] : List (Str × Fn)), FnK PySem.Challenge.pw_keypanes_k42_pressed w K mg base 2 p.1 p.2 from (List.forall_mem_cons.mpr ⟨(ok_is_number Y).mono (by decide), fun _ h => absurd h List.not_mem_nil⟩)) (x, F) m, fun x d m => (show ∀ p ∈ ([(Str.ofString "FAR", C_FAR)] : List (Str × D)), ConK K mg p.1 p.2 from (List.forall_mem_cons.mpr ⟨con_FAR Y, fun _ h => absurd h List.not_mem_nil⟩)) (x, d) m, (fun _ h => absurd h List.not_mem_nil)⟩, Y.glo 1 rfl, Fd.kp, b⟩
theorem ok_is_box (Y : Hd w K h mg) : FnK PySem.Challenge.pw_keypanes_k42_pressed w K mg base 3 "is_box" F_is_box := by
  obtain ⟨fd, Fd⟩ := Y.c.t.d.def_ 2 (d := d_is_box) rfl
  obtain ⟨B, hB⟩ := ofChk chk_is_box
  have b : Binds K fd [Str.ofString "thing"] [] := FunD.bindsN Fd fun _ _ _ _ _ _ us hl => match us, hl with | [_], _ => rfl
  exact ⟨_, fd, [Str.ofString "thing"], fn_ok (cf := cf_is_box) Fd ⟨rfl, rfl, rfl, by decide +kernel, rfl, by decide +kernel, by decide +kernel⟩ (by decide) (fun _ => rfl) B hB ⟨(List.forall_mem_cons.mpr ⟨Y.free 64 rfl, List.forall_mem_cons.mpr ⟨Y.free 59 rfl, List.forall_mem_cons.mpr ⟨Y.free 72 rfl, List.forall_mem_cons.mpr ⟨Y.free 63 rfl, fun _ h => absurd h List.not_mem_nil⟩⟩⟩⟩), fun x F m => (show ∀ p ∈ ([(Str.ofString "is_number", F_is_number)] : List (Str × Fn)), FnK PySem.Challenge.pw_keypanes_k42_pressed w K mg base 2 p.1 p.2 from (List.forall_mem_cons.mpr ⟨(ok_is_number Y).mono (by decide), fun _ h => absurd h List.not_mem_nil⟩)) (x, F) m, fun x d m => (show ∀ p ∈ ([(Str.ofString "FAR", C_FAR)] : List (Str × D)), ConK K mg p.1 p.2 from (List.forall_mem_cons.mpr ⟨con_FAR Y, fun _ h => absurd h List.not_mem_nil⟩)) (x, d) m, (fun _ h => absurd h List.not_mem_nil)⟩, Y.glo 2 rfl, Fd.kp, b⟩
theorem ok_is_key (Y : Hd w K h mg) : FnK PySem.Challenge.pw_keypanes_k42_pressed w K mg base 2 "is_key" F_is_key := by
  obtain ⟨fd, Fd⟩ := Y.c.t.d.def_ 3 (d := d_is_key) rfl
  obtain ⟨B, hB⟩ := ofChk chk_is_key
  have b : Binds K fd [Str.ofString "thing"] [] := FunD.bindsN Fd fun _ _ _ _ _ _ us hl => match us, hl with | [_], _ => rfl
  exact ⟨_, fd, [Str.ofString "thing"], fn_ok (cf := cf_is_key) Fd ⟨rfl, rfl, rfl, by decide +kernel, rfl, by decide +kernel, by decide +kernel⟩ (by decide) (fun _ => rfl) B hB ⟨(List.forall_mem_cons.mpr ⟨Y.free 64 rfl, List.forall_mem_cons.mpr ⟨Y.free 59 rfl, List.forall_mem_cons.mpr ⟨Y.free 71 rfl, List.forall_mem_cons.mpr ⟨Y.free 63 rfl, fun _ h => absurd h List.not_mem_nil⟩⟩⟩⟩), fun x F m => (show ∀ p ∈ ([] : List (Str × Fn)), FnK PySem.Challenge.pw_keypanes_k42_pressed w K mg base 1 p.1 p.2 from (fun _ h => absurd h List.not_mem_nil)) (x, F) m, fun x d m => (show ∀ p ∈ ([(Str.ofString "KEY_SIGNS", C_KEY_SIGNS)] : List (Str × D)), ConK K mg p.1 p.2 from (List.forall_mem_cons.mpr ⟨con_KEY_SIGNS Y, fun _ h => absurd h List.not_mem_nil⟩)) (x, d) m, (fun _ h => absurd h List.not_mem_nil)⟩, Y.glo 3 rfl, Fd.kp, b⟩
theorem ok_is_way (Y : Hd w K h mg) : FnK PySem.Challenge.pw_keypanes_k42_pressed w K mg base 2 "is_way" F_is_way := by
  obtain ⟨fd, Fd⟩ := Y.c.t.d.def_ 4 (d := d_is_way) rfl
  obtain ⟨B, hB⟩ := ofChk chk_is_way
  have b : Binds K fd [Str.ofString "thing"] [] := FunD.bindsN Fd fun _ _ _ _ _ _ us hl => match us, hl with | [_], _ => rfl
  exact ⟨_, fd, [Str.ofString "thing"], fn_ok (cf := cf_is_way) Fd ⟨rfl, rfl, rfl, by decide +kernel, rfl, by decide +kernel, by decide +kernel⟩ (by decide) (fun _ => rfl) B hB ⟨(List.forall_mem_cons.mpr ⟨Y.free 71 rfl, List.forall_mem_cons.mpr ⟨Y.free 63 rfl, fun _ h => absurd h List.not_mem_nil⟩⟩), fun x F m => (show ∀ p ∈ ([] : List (Str × Fn)), FnK PySem.Challenge.pw_keypanes_k42_pressed w K mg base 1 p.1 p.2 from (fun _ h => absurd h List.not_mem_nil)) (x, F) m, fun x d m => (show ∀ p ∈ ([(Str.ofString "WAYS", C_WAYS)] : List (Str × D)), ConK K mg p.1 p.2 from (List.forall_mem_cons.mpr ⟨con_WAYS Y, fun _ h => absurd h List.not_mem_nil⟩)) (x, d) m, (fun _ h => absurd h List.not_mem_nil)⟩, Y.glo 4 rfl, Fd.kp, b⟩
theorem ok_is_mark (Y : Hd w K h mg) : FnK PySem.Challenge.pw_keypanes_k42_pressed w K mg base 2 "is_mark" F_is_mark := by
  obtain ⟨fd, Fd⟩ := Y.c.t.d.def_ 5 (d := d_is_mark) rfl
  obtain ⟨B, hB⟩ := ofChk chk_is_mark
  have b : Binds K fd [Str.ofString "thing"] [] := FunD.bindsN Fd fun _ _ _ _ _ _ us hl => match us, hl with | [_], _ => rfl
  exact ⟨_, fd, [Str.ofString "thing"], fn_ok (cf := cf_is_mark) Fd ⟨rfl, rfl, rfl, by decide +kernel, rfl, by decide +kernel, by decide +kernel⟩ (by decide) (fun _ => rfl) B hB ⟨(List.forall_mem_cons.mpr ⟨Y.free 71 rfl, List.forall_mem_cons.mpr ⟨Y.free 63 rfl, fun _ h => absurd h List.not_mem_nil⟩⟩), fun x F m => (show ∀ p ∈ ([] : List (Str × Fn)), FnK PySem.Challenge.pw_keypanes_k42_pressed w K mg base 1 p.1 p.2 from (fun _ h => absurd h List.not_mem_nil)) (x, F) m, fun x d m => (show ∀ p ∈ ([(Str.ofString "MARKS", C_MARKS)] : List (Str × D)), ConK K mg p.1 p.2 from (List.forall_mem_cons.mpr ⟨con_MARKS Y, fun _ h => absurd h List.not_mem_nil⟩)) (x, d) m, (fun _ h => absurd h List.not_mem_nil)⟩, Y.glo 5 rfl, Fd.kp, b⟩
theorem ok_is_deed (Y : Hd w K h mg) : FnK PySem.Challenge.pw_keypanes_k42_pressed w K mg base 3 "is_deed" F_is_deed := by
  obtain ⟨fd, Fd⟩ := Y.c.t.d.def_ 6 (d := d_is_deed) rfl
  obtain ⟨B, hB⟩ := ofChk chk_is_deed
  have b : Binds K fd [Str.ofString "thing"] [] := FunD.bindsN Fd fun _ _ _ _ _ _ us hl => match us, hl with | [_], _ => rfl
  exact ⟨_, fd, [Str.ofString "thing"], fn_ok (cf := cf_is_deed) Fd ⟨rfl, rfl, rfl, by decide +kernel, rfl, by decide +kernel, by decide +kernel⟩ (by decide) (fun _ => rfl) B hB ⟨(List.forall_mem_cons.mpr ⟨Y.free 64 rfl, List.forall_mem_cons.mpr ⟨Y.free 72 rfl, List.forall_mem_cons.mpr ⟨Y.free 71 rfl, List.forall_mem_cons.mpr ⟨Y.free 63 rfl, fun _ h => absurd h List.not_mem_nil⟩⟩⟩⟩), fun x F m => (show ∀ p ∈ ([(Str.ofString "is_number", F_is_number), (Str.ofString "is_way", F_is_way)] : List (Str × Fn)), FnK PySem.Challenge.pw_keypanes_k42_pressed w K mg base 2 p.1 p.2 from (List.forall_mem_cons.mpr ⟨(ok_is_number Y).mono (by decide), List.forall_mem_cons.mpr ⟨(ok_is_way Y).mono (by decide), fun _ h => absurd h List.not_mem_nil⟩⟩)) (x, F) m, fun x d m => (show ∀ p ∈ ([(Str.ofString "FAR", C_FAR)] : List (Str × D)), ConK K mg p.1 p.2 from (List.forall_mem_cons.mpr ⟨con_FAR Y, fun _ h => absurd h List.not_mem_nil⟩)) (x, d) m, (fun _ h => absurd h List.not_mem_nil)⟩, Y.glo 6 rfl, Fd.kp, b⟩
theorem ok_rises (Y : Hd w K h mg) : FnK PySem.Challenge.pw_keypanes_k42_pressed w K mg base 2 "rises" F_rises := by
  obtain ⟨fd, Fd⟩ := Y.c.t.d.def_ 7 (d := d_rises) rfl
  obtain ⟨B, hB⟩ := ofChk chk_rises
  have b : Binds K fd [Str.ofString "thing"] [] := FunD.bindsN Fd fun _ _ _ _ _ _ us hl => match us, hl with | [_], _ => rfl
  exact ⟨_, fd, [Str.ofString "thing"], fn_ok (cf := cf_rises) Fd ⟨rfl, rfl, rfl, by decide +kernel, rfl, by decide +kernel, by decide +kernel⟩ (by decide) (fun _ => rfl) B hB ⟨(List.forall_mem_cons.mpr ⟨Y.free 64 rfl, List.forall_mem_cons.mpr ⟨Y.free 59 rfl, List.forall_mem_cons.mpr ⟨Y.free 68 rfl, fun _ h => absurd h List.not_mem_nil⟩⟩⟩), fun x F m => (show ∀ p ∈ ([] : List (Str × Fn)), FnK PySem.Challenge.pw_keypanes_k42_pressed w K mg base 1 p.1 p.2 from (fun _ h => absurd h List.not_mem_nil)) (x, F) m, fun x d m => (show ∀ p ∈ ([] : List (Str × D)), ConK K mg p.1 p.2 from (fun _ h => absurd h List.not_mem_nil)) (x, d) m, (fun _ h => absurd h List.not_mem_nil)⟩, Y.glo 7 rfl, Fd.kp, b⟩
theorem ok_are_marks (Y : Hd w K h mg) : FnK PySem.Challenge.pw_keypanes_k42_pressed w K mg base 3 "are_marks" F_are_marks := by
  obtain ⟨fd, Fd⟩ := Y.c.t.d.def_ 8 (d := d_are_marks) rfl
  obtain ⟨B, hB⟩ := ofChk chk_are_marks
  have b : Binds K fd [Str.ofString "thing"] [] := FunD.bindsN Fd fun _ _ _ _ _ _ us hl => match us, hl with | [_], _ => rfl
  exact ⟨_, fd, [Str.ofString "thing"], fn_ok (cf := cf_are_marks) Fd ⟨rfl, rfl, rfl, by decide +kernel, rfl, by decide +kernel, by decide +kernel⟩ (by decide) (fun _ => rfl) B hB ⟨(List.forall_mem_cons.mpr ⟨Y.free 59 rfl, List.forall_mem_cons.mpr ⟨Y.free 72 rfl, List.forall_mem_cons.mpr ⟨Y.free 63 rfl, fun _ h => absurd h List.not_mem_nil⟩⟩⟩), fun x F m => (show ∀ p ∈ ([(Str.ofString "rises", F_rises), (Str.ofString "is_mark", F_is_mark)] : List (Str × Fn)), FnK PySem.Challenge.pw_keypanes_k42_pressed w K mg base 2 p.1 p.2 from (List.forall_mem_cons.mpr ⟨(ok_rises Y).mono (by decide), List.forall_mem_cons.mpr ⟨(ok_is_mark Y).mono (by decide), fun _ h => absurd h List.not_mem_nil⟩⟩)) (x, F) m, fun x d m => (show ∀ p ∈ ([] : List (Str × D)), ConK K mg p.1 p.2 from (fun _ h => absurd h List.not_mem_nil)) (x, d) m, (fun _ h => absurd h List.not_mem_nil)⟩, Y.glo 8 rfl, Fd.kp, b⟩
theorem ok_is_known (Y : Hd w K h mg) : FnK PySem.Challenge.pw_keypanes_k42_pressed w K mg base 4 "is_known" F_is_known := by
  obtain ⟨fd, Fd⟩ := Y.c.t.d.def_ 9 (d := d_is_known) rfl
  obtain ⟨B, hB⟩ := ofChk chk_is_known
  have b : Binds K fd [Str.ofString "thing"] [] := FunD.bindsN Fd fun _ _ _ _ _ _ us hl => match us, hl with | [_], _ => rfl
  exact ⟨_, fd, [Str.ofString "thing"], fn_ok (cf := cf_is_known) Fd ⟨rfl, rfl, rfl, by decide +kernel, rfl, by decide +kernel, by decide +kernel⟩ (by decide) (fun _ => rfl) B hB ⟨(List.forall_mem_cons.mpr ⟨Y.free 64 rfl, List.forall_mem_cons.mpr ⟨Y.free 72 rfl, List.forall_mem_cons.mpr ⟨Y.free 63 rfl, fun _ h => absurd h List.not_mem_nil⟩⟩⟩), fun x F m => (show ∀ p ∈ ([(Str.ofString "is_deed", F_is_deed), (Str.ofString "is_key", F_is_key)] : List (Str × Fn)), FnK PySem.Challenge.pw_keypanes_k42_pressed w K mg base 3 p.1 p.2 from (List.forall_mem_cons.mpr ⟨(ok_is_deed Y).mono (by decide), List.forall_mem_cons.mpr ⟨(ok_is_key Y).mono (by decide), fun _ h => absurd h List.not_mem_nil⟩⟩)) (x, F) m, fun x d m => (show ∀ p ∈ ([] : List (Str × D)), ConK K mg p.1 p.2 from (fun _ h => absurd h List.not_mem_nil)) (x, d) m, (fun _ h => absurd h List.not_mem_nil)⟩, Y.glo 9 rfl, Fd.kp, b⟩
theorem ok_are_keys (Y : Hd w K h mg) : FnK PySem.Challenge.pw_keypanes_k42_pressed w K mg base 5 "are_keys" F_are_keys := by
  obtain ⟨fd, Fd⟩ := Y.c.t.d.def_ 10 (d := d_are_keys) rfl
  obtain ⟨B, hB⟩ := ofChk chk_are_keys
  have b : Binds K fd [Str.ofString "thing"] [] := FunD.bindsN Fd fun _ _ _ _ _ _ us hl => match us, hl with | [_], _ => rfl
  exact ⟨_, fd, [Str.ofString "thing"], fn_ok (cf := cf_are_keys) Fd ⟨rfl, rfl, rfl, by decide +kernel, rfl, by decide +kernel, by decide +kernel⟩ (by decide) (fun _ => rfl) B hB ⟨(List.forall_mem_cons.mpr ⟨Y.free 64 rfl, List.forall_mem_cons.mpr ⟨Y.free 59 rfl, List.forall_mem_cons.mpr ⟨Y.free 72 rfl, List.forall_mem_cons.mpr ⟨Y.free 63 rfl, fun _ h => absurd h List.not_mem_nil⟩⟩⟩⟩), fun x F m => (show ∀ p ∈ ([(Str.ofString "is_known", F_is_known), (Str.ofString "rises", F_rises)] : List (Str × Fn)), FnK PySem.Challenge.pw_keypanes_k42_pressed w K mg base 4 p.1 p.2 from (List.forall_mem_cons.mpr ⟨(ok_is_known Y).mono (by decide), List.forall_mem_cons.mpr ⟨(ok_rises Y).mono (by decide), fun _ h => absurd h List.not_mem_nil⟩⟩)) (x, F) m, fun x d m => (show ∀ p ∈ ([(Str.ofString "MOST_KEYS", C_MOST_KEYS)] : List (Str × D)), ConK K mg p.1 p.2 from (List.forall_mem_cons.mpr ⟨con_MOST_KEYS Y, fun _ h => absurd h List.not_mem_nil⟩)) (x, d) m, (fun _ h => absurd h List.not_mem_nil)⟩, Y.glo 10 rfl, Fd.kp, b⟩
theorem ok_is_pane (Y : Hd w K h mg) : FnK PySem.Challenge.pw_keypanes_k42_pressed w K mg base 6 "is_pane" F_is_pane := by
  obtain ⟨fd, Fd⟩ := Y.c.t.d.def_ 11 (d := d_is_pane) rfl
  obtain ⟨B, hB⟩ := ofChk chk_is_pane
  have b : Binds K fd [Str.ofString "thing"] [] := FunD.bindsN Fd fun _ _ _ _ _ _ us hl => match us, hl with | [_], _ => rfl
  exact ⟨_, fd, [Str.ofString "thing"], fn_ok (cf := cf_is_pane) Fd ⟨rfl, rfl, rfl, by decide +kernel, rfl, by decide +kernel, by decide +kernel⟩ (by decide) (fun _ => rfl) B hB ⟨(List.forall_mem_cons.mpr ⟨Y.free 64 rfl, List.forall_mem_cons.mpr ⟨Y.free 72 rfl, List.forall_mem_cons.mpr ⟨Y.free 63 rfl, fun _ h => absurd h List.not_mem_nil⟩⟩⟩), fun x F m => (show ∀ p ∈ ([(Str.ofString "is_name", F_is_name), (Str.ofString "are_keys", F_are_keys), (Str.ofString "are_marks", F_are_marks), (Str.ofString "is_number", F_is_number), (Str.ofString "is_box", F_is_box)] : List (Str × Fn)), FnK PySem.Challenge.pw_keypanes_k42_pressed w K mg base 5 p.1 p.2 from (List.forall_mem_cons.mpr ⟨(ok_is_name Y).mono (by decide), List.forall_mem_cons.mpr ⟨(ok_are_keys Y).mono (by decide), List.forall_mem_cons.mpr ⟨(ok_are_marks Y).mono (by decide), List.forall_mem_cons.mpr ⟨(ok_is_number Y).mono (by decide), List.forall_mem_cons.mpr ⟨(ok_is_box Y).mono (by decide), fun _ h => absurd h List.not_mem_nil⟩⟩⟩⟩⟩)) (x, F) m, fun x d m => (show ∀ p ∈ ([(Str.ofString "FAR", C_FAR)] : List (Str × D)), ConK K mg p.1 p.2 from (List.forall_mem_cons.mpr ⟨con_FAR Y, fun _ h => absurd h List.not_mem_nil⟩)) (x, d) m, (fun _ h => absurd h List.not_mem_nil)⟩, Y.glo 11 rfl, Fd.kp, b⟩
theorem ok_is_ground (Y : Hd w K h mg) : FnK PySem.Challenge.pw_keypanes_k42_pressed w K mg base 2 "is_ground" F_is_ground := by
  obtain ⟨fd, Fd⟩ := Y.c.t.d.def_ 12 (d := d_is_ground) rfl
  obtain ⟨B, hB⟩ := ofChk chk_is_ground
  have b : Binds K fd [Str.ofString "pane"] [] := FunD.bindsN Fd fun _ _ _ _ _ _ us hl => match us, hl with | [_], _ => rfl
  exact ⟨_, fd, [Str.ofString "pane"], fn_ok (cf := cf_is_ground) Fd ⟨rfl, rfl, rfl, by decide +kernel, rfl, by decide +kernel, by decide +kernel⟩ (by decide) (fun _ => rfl) B hB ⟨(fun _ h => absurd h List.not_mem_nil), fun x F m => (show ∀ p ∈ ([] : List (Str × Fn)), FnK PySem.Challenge.pw_keypanes_k42_pressed w K mg base 1 p.1 p.2 from (fun _ h => absurd h List.not_mem_nil)) (x, F) m, fun x d m => (show ∀ p ∈ ([] : List (Str × D)), ConK K mg p.1 p.2 from (fun _ h => absurd h List.not_mem_nil)) (x, d) m, (fun _ h => absurd h List.not_mem_nil)⟩, Y.glo 12 rfl, Fd.kp, b⟩
theorem ok_is_rooted (Y : Hd w K h mg) : FnK PySem.Challenge.pw_keypanes_k42_pressed w K mg base 2 "is_rooted" F_is_rooted := by
  obtain ⟨fd, Fd⟩ := Y.c.t.d.def_ 13 (d := d_is_rooted) rfl
  obtain ⟨B, hB⟩ := ofChk chk_is_rooted
  have b : Binds K fd [Str.ofString "panes"] [] := FunD.bindsN Fd fun _ _ _ _ _ _ us hl => match us, hl with | [_], _ => rfl
  exact ⟨_, fd, [Str.ofString "panes"], fn_ok (cf := cf_is_rooted) Fd ⟨rfl, rfl, rfl, by decide +kernel, rfl, by decide +kernel, by decide +kernel⟩ (by decide) (fun _ => rfl) B hB ⟨(List.forall_mem_cons.mpr ⟨Y.free 64 rfl, List.forall_mem_cons.mpr ⟨Y.free 65 rfl, fun _ h => absurd h List.not_mem_nil⟩⟩), fun x F m => (show ∀ p ∈ ([] : List (Str × Fn)), FnK PySem.Challenge.pw_keypanes_k42_pressed w K mg base 1 p.1 p.2 from (fun _ h => absurd h List.not_mem_nil)) (x, F) m, fun x d m => (show ∀ p ∈ ([] : List (Str × D)), ConK K mg p.1 p.2 from (fun _ h => absurd h List.not_mem_nil)) (x, d) m, (fun _ h => absurd h List.not_mem_nil)⟩, Y.glo 13 rfl, Fd.kp, b⟩
theorem ok_fits_in (Y : Hd w K h mg) : FnK PySem.Challenge.pw_keypanes_k42_pressed w K mg base 7 "fits_in" F_fits_in := by
  obtain ⟨fd, Fd⟩ := Y.c.t.d.def_ 14 (d := d_fits_in) rfl
  obtain ⟨B, hB⟩ := ofChk chk_fits_in
  have b : Binds K fd [Str.ofString "panes"] [] := FunD.bindsN Fd fun _ _ _ _ _ _ us hl => match us, hl with | [_], _ => rfl
  exact ⟨_, fd, [Str.ofString "panes"], fn_ok (cf := cf_fits_in) Fd ⟨rfl, rfl, rfl, by decide +kernel, rfl, by decide +kernel, by decide +kernel⟩ (by decide) (fun _ => rfl) B hB ⟨(List.forall_mem_cons.mpr ⟨Y.free 64 rfl, List.forall_mem_cons.mpr ⟨Y.free 59 rfl, fun _ h => absurd h List.not_mem_nil⟩⟩), fun x F m => (show ∀ p ∈ ([(Str.ofString "is_pane", F_is_pane), (Str.ofString "is_ground", F_is_ground), (Str.ofString "rises", F_rises), (Str.ofString "is_rooted", F_is_rooted)] : List (Str × Fn)), FnK PySem.Challenge.pw_keypanes_k42_pressed w K mg base 6 p.1 p.2 from (List.forall_mem_cons.mpr ⟨(ok_is_pane Y).mono (by decide), List.forall_mem_cons.mpr ⟨(ok_is_ground Y).mono (by decide), List.forall_mem_cons.mpr ⟨(ok_rises Y).mono (by decide), List.forall_mem_cons.mpr ⟨(ok_is_rooted Y).mono (by decide), fun _ h => absurd h List.not_mem_nil⟩⟩⟩⟩)) (x, F) m, fun x d m => (show ∀ p ∈ ([] : List (Str × D)), ConK K mg p.1 p.2 from (fun _ h => absurd h List.not_mem_nil)) (x, d) m, (fun _ h => absurd h List.not_mem_nil)⟩, Y.glo 14 rfl, Fd.kp, b⟩
theorem ok_is_plan (Y : Hd w K h mg) : FnK PySem.Challenge.pw_keypanes_k42_pressed w K mg base 8 "is_plan" F_is_plan := by
  obtain ⟨fd, Fd⟩ := Y.c.t.d.def_ 15 (d := d_is_plan) rfl
  obtain ⟨B, hB⟩ := ofChk chk_is_plan
  have b : Binds K fd [Str.ofString "thing"] [] := FunD.bindsN Fd fun _ _ _ _ _ _ us hl => match us, hl with | [_], _ => rfl
  exact ⟨_, fd, [Str.ofString "thing"], fn_ok (cf := cf_is_plan) Fd ⟨rfl, rfl, rfl, by decide +kernel, rfl, by decide +kernel, by decide +kernel⟩ (by decide) (fun _ => rfl) B hB ⟨(List.forall_mem_cons.mpr ⟨Y.free 64 rfl, List.forall_mem_cons.mpr ⟨Y.free 72 rfl, List.forall_mem_cons.mpr ⟨Y.free 63 rfl, fun _ h => absurd h List.not_mem_nil⟩⟩⟩), fun x F m => (show ∀ p ∈ ([(Str.ofString "fits_in", F_fits_in)] : List (Str × Fn)), FnK PySem.Challenge.pw_keypanes_k42_pressed w K mg base 7 p.1 p.2 from (List.forall_mem_cons.mpr ⟨(ok_fits_in Y).mono (by decide), fun _ h => absurd h List.not_mem_nil⟩)) (x, F) m, fun x d m => (show ∀ p ∈ ([(Str.ofString "MOST_PANES", C_MOST_PANES)] : List (Str × D)), ConK K mg p.1 p.2 from (List.forall_mem_cons.mpr ⟨con_MOST_PANES Y, fun _ h => absurd h List.not_mem_nil⟩)) (x, d) m, (fun _ h => absurd h List.not_mem_nil)⟩, Y.glo 15 rfl, Fd.kp, b⟩
theorem ok_see_plan (Y : Hd w K h mg) : FnK PySem.Challenge.pw_keypanes_k42_pressed w K mg base 9 "see_plan" F_see_plan := by
  obtain ⟨fd, Fd⟩ := Y.c.t.d.def_ 16 (d := d_see_plan) rfl
  obtain ⟨B, hB⟩ := ofChk chk_see_plan
  have b : Binds K fd [Str.ofString "plan"] [] := FunD.bindsN Fd fun _ _ _ _ _ _ us hl => match us, hl with | [_], _ => rfl
  exact ⟨_, fd, [Str.ofString "plan"], fn_ok (cf := cf_see_plan) Fd ⟨rfl, rfl, rfl, by decide +kernel, rfl, by decide +kernel, by decide +kernel⟩ (by decide) (fun _ => rfl) B hB ⟨(fun _ h => absurd h List.not_mem_nil), fun x F m => (show ∀ p ∈ ([(Str.ofString "is_plan", F_is_plan)] : List (Str × Fn)), FnK PySem.Challenge.pw_keypanes_k42_pressed w K mg base 8 p.1 p.2 from (List.forall_mem_cons.mpr ⟨(ok_is_plan Y).mono (by decide), fun _ h => absurd h List.not_mem_nil⟩)) (x, F) m, fun x d m => (show ∀ p ∈ ([] : List (Str × D)), ConK K mg p.1 p.2 from (fun _ h => absurd h List.not_mem_nil)) (x, d) m, (List.forall_mem_cons.mpr ⟨Y.excC 82 rfl 81 rfl, fun _ h => absurd h List.not_mem_nil⟩)⟩, Y.glo 16 rfl, Fd.kp, b⟩
theorem ok_has_name (Y : Hd w K h mg) : FnK PySem.Challenge.pw_keypanes_k42_pressed w K mg base 4 "has_name" F_has_name := by
  obtain ⟨fd, Fd⟩ := Y.c.t.d.def_ 17 (d := d_has_name) rfl
  obtain ⟨B, hB⟩ := ofChk chk_has_name
  have b : Binds K fd [Str.ofString "plan", Str.ofString "thing"] [] := FunD.bindsN Fd fun _ _ _ _ _ _ us hl => match us, hl with | [_, _], _ => rfl
  exact ⟨_, fd, [Str.ofString "plan", Str.ofString "thing"], fn_ok (cf := cf_has_name) Fd ⟨rfl, rfl, rfl, by decide +kernel, rfl, by decide +kernel, by decide +kernel⟩ (by decide) (fun _ => rfl) B hB ⟨(fun _ h => absurd h List.not_mem_nil), fun x F m => (show ∀ p ∈ ([(Str.ofString "is_name", F_is_name)] : List (Str × Fn)), FnK PySem.Challenge.pw_keypanes_k42_pressed w K mg base 3 p.1 p.2 from (List.forall_mem_cons.mpr ⟨(ok_is_name Y).mono (by decide), fun _ h => absurd h List.not_mem_nil⟩)) (x, F) m, fun x d m => (show ∀ p ∈ ([] : List (Str × D)), ConK K mg p.1 p.2 from (fun _ h => absurd h List.not_mem_nil)) (x, d) m, (fun _ h => absurd h List.not_mem_nil)⟩, Y.glo 17 rfl, Fd.kp, b⟩
theorem ok_the_pane (Y : Hd w K h mg) : FnK PySem.Challenge.pw_keypanes_k42_pressed w K mg base 2 "the_pane" F_the_pane := by
  obtain ⟨fd, Fd⟩ := Y.c.t.d.def_ 18 (d := d_the_pane) rfl
  obtain ⟨B, hB⟩ := ofChk chk_the_pane
  have b : Binds K fd [Str.ofString "plan", Str.ofString "name"] [] := FunD.bindsN Fd fun _ _ _ _ _ _ us hl => match us, hl with | [_, _], _ => rfl
  exact ⟨_, fd, [Str.ofString "plan", Str.ofString "name"], fn_ok (cf := cf_the_pane) Fd ⟨rfl, rfl, rfl, by decide +kernel, rfl, by decide +kernel, by decide +kernel⟩ (by decide) (fun _ => rfl) B hB ⟨(fun _ h => absurd h List.not_mem_nil), fun x F m => (show ∀ p ∈ ([] : List (Str × Fn)), FnK PySem.Challenge.pw_keypanes_k42_pressed w K mg base 1 p.1 p.2 from (fun _ h => absurd h List.not_mem_nil)) (x, F) m, fun x d m => (show ∀ p ∈ ([] : List (Str × D)), ConK K mg p.1 p.2 from (fun _ h => absurd h List.not_mem_nil)) (x, d) m, (fun _ h => absurd h List.not_mem_nil)⟩, Y.glo 18 rfl, Fd.kp, b⟩
theorem ok_going_up (Y : Hd w K h mg) : FnK PySem.Challenge.pw_keypanes_k42_pressed w K mg base 2 "going_up" F_going_up := by
  obtain ⟨fd, Fd⟩ := Y.c.t.d.def_ 19 (d := d_going_up) rfl
  obtain ⟨B, hB⟩ := ofChk chk_going_up
  have b : Binds K fd [Str.ofString "plan", Str.ofString "name"] [] := FunD.bindsN Fd fun _ _ _ _ _ _ us hl => match us, hl with | [_, _], _ => rfl
  exact ⟨_, fd, [Str.ofString "plan", Str.ofString "name"], fn_ok (cf := cf_going_up) Fd ⟨rfl, rfl, rfl, by decide +kernel, rfl, by decide +kernel, by decide +kernel⟩ (by decide) (fun _ => rfl) B hB ⟨(List.forall_mem_cons.mpr ⟨Y.free 61 rfl, fun _ h => absurd h List.not_mem_nil⟩), fun x F m => (show ∀ p ∈ ([] : List (Str × Fn)), FnK PySem.Challenge.pw_keypanes_k42_pressed w K mg base 1 p.1 p.2 from (fun _ h => absurd h List.not_mem_nil)) (x, F) m, fun x d m => (show ∀ p ∈ ([] : List (Str × D)), ConK K mg p.1 p.2 from (fun _ h => absurd h List.not_mem_nil)) (x, d) m, (fun _ h => absurd h List.not_mem_nil)⟩, Y.glo 19 rfl, Fd.kp, b⟩
theorem ok_is_dead (Y : Hd w K h mg) : FnK PySem.Challenge.pw_keypanes_k42_pressed w K mg base 3 "is_dead" F_is_dead := by
  obtain ⟨fd, Fd⟩ := Y.c.t.d.def_ 20 (d := d_is_dead) rfl
  obtain ⟨B, hB⟩ := ofChk chk_is_dead
  have b : Binds K fd [Str.ofString "plan", Str.ofString "name"] [] := FunD.bindsN Fd fun _ _ _ _ _ _ us hl => match us, hl with | [_, _], _ => rfl
  exact ⟨_, fd, [Str.ofString "plan", Str.ofString "name"], fn_ok (cf := cf_is_dead) Fd ⟨rfl, rfl, rfl, by decide +kernel, rfl, by decide +kernel, by decide +kernel⟩ (by decide) (fun _ => rfl) B hB ⟨(fun _ h => absurd h List.not_mem_nil), fun x F m => (show ∀ p ∈ ([(Str.ofString "the_pane", F_the_pane)] : List (Str × Fn)), FnK PySem.Challenge.pw_keypanes_k42_pressed w K mg base 2 p.1 p.2 from (List.forall_mem_cons.mpr ⟨(ok_the_pane Y).mono (by decide), fun _ h => absurd h List.not_mem_nil⟩)) (x, F) m, fun x d m => (show ∀ p ∈ ([] : List (Str × D)), ConK K mg p.1 p.2 from (fun _ h => absurd h List.not_mem_nil)) (x, d) m, (fun _ h => absurd h List.not_mem_nil)⟩, Y.glo 20 rfl, Fd.kp, b⟩
theorem ok_alive (Y : Hd w K h mg) : FnK PySem.Challenge.pw_keypanes_k42_pressed w K mg base 4 "alive" F_alive := by
  obtain ⟨fd, Fd⟩ := Y.c.t.d.def_ 21 (d := d_alive) rfl
  obtain ⟨B, hB⟩ := ofChk chk_alive
  have b : Binds K fd [Str.ofString "plan", Str.ofString "name"] [] := FunD.bindsN Fd fun _ _ _ _ _ _ us hl => match us, hl with | [_, _], _ => rfl
  exact ⟨_, fd, [Str.ofString "plan", Str.ofString "name"], fn_ok (cf := cf_alive) Fd ⟨rfl, rfl, rfl, by decide +kernel, rfl, by decide +kernel, by decide +kernel⟩ (by decide) (fun _ => rfl) B hB ⟨(fun _ h => absurd h List.not_mem_nil), fun x F m => (show ∀ p ∈ ([(Str.ofString "is_dead", F_is_dead), (Str.ofString "going_up", F_going_up)] : List (Str × Fn)), FnK PySem.Challenge.pw_keypanes_k42_pressed w K mg base 3 p.1 p.2 from (List.forall_mem_cons.mpr ⟨(ok_is_dead Y).mono (by decide), List.forall_mem_cons.mpr ⟨(ok_going_up Y).mono (by decide), fun _ h => absurd h List.not_mem_nil⟩⟩)) (x, F) m, fun x d m => (show ∀ p ∈ ([] : List (Str × D)), ConK K mg p.1 p.2 from (fun _ h => absurd h List.not_mem_nil)) (x, d) m, (fun _ h => absurd h List.not_mem_nil)⟩, Y.glo 21 rfl, Fd.kp, b⟩
theorem ok_top_sheet (Y : Hd w K h mg) : FnK PySem.Challenge.pw_keypanes_k42_pressed w K mg base 5 "top_sheet" F_top_sheet := by
  obtain ⟨fd, Fd⟩ := Y.c.t.d.def_ 22 (d := d_top_sheet) rfl
  obtain ⟨B, hB⟩ := ofChk chk_top_sheet
  have b : Binds K fd [Str.ofString "plan"] [] := FunD.bindsN Fd fun _ _ _ _ _ _ us hl => match us, hl with | [_], _ => rfl
  exact ⟨_, fd, [Str.ofString "plan"], fn_ok (cf := cf_top_sheet) Fd ⟨rfl, rfl, rfl, by decide +kernel, rfl, by decide +kernel, by decide +kernel⟩ (by decide) (fun _ => rfl) B hB ⟨(List.forall_mem_cons.mpr ⟨Y.free 66 rfl, fun _ h => absurd h List.not_mem_nil⟩), fun x F m => (show ∀ p ∈ ([(Str.ofString "alive", F_alive)] : List (Str × Fn)), FnK PySem.Challenge.pw_keypanes_k42_pressed w K mg base 4 p.1 p.2 from (List.forall_mem_cons.mpr ⟨(ok_alive Y).mono (by decide), fun _ h => absurd h List.not_mem_nil⟩)) (x, F) m, fun x d m => (show ∀ p ∈ ([] : List (Str × D)), ConK K mg p.1 p.2 from (fun _ h => absurd h List.not_mem_nil)) (x, d) m, (fun _ h => absurd h List.not_mem_nil)⟩, Y.glo 22 rfl, Fd.kp, b⟩
theorem ok_opens (Y : Hd w K h mg) : FnK PySem.Challenge.pw_keypanes_k42_pressed w K mg base 6 "opens" F_opens := by
  obtain ⟨fd, Fd⟩ := Y.c.t.d.def_ 23 (d := d_opens) rfl
  obtain ⟨B, hB⟩ := ofChk chk_opens
  have b : Binds K fd [Str.ofString "plan", Str.ofString "name"] [] := FunD.bindsN Fd fun _ _ _ _ _ _ us hl => match us, hl with | [_, _], _ => rfl
  exact ⟨_, fd, [Str.ofString "plan", Str.ofString "name"], fn_ok (cf := cf_opens) Fd ⟨rfl, rfl, rfl, by decide +kernel, rfl, by decide +kernel, by decide +kernel⟩ (by decide) (fun _ => rfl) B hB ⟨(fun _ h => absurd h List.not_mem_nil), fun x F m => (show ∀ p ∈ ([(Str.ofString "top_sheet", F_top_sheet), (Str.ofString "going_up", F_going_up), (Str.ofString "alive", F_alive)] : List (Str × Fn)), FnK PySem.Challenge.pw_keypanes_k42_pressed w K mg base 5 p.1 p.2 from (List.forall_mem_cons.mpr ⟨(ok_top_sheet Y).mono (by decide), List.forall_mem_cons.mpr ⟨(ok_going_up Y).mono (by decide), List.forall_mem_cons.mpr ⟨(ok_alive Y).mono (by decide), fun _ h => absurd h List.not_mem_nil⟩⟩⟩)) (x, F) m, fun x d m => (show ∀ p ∈ ([] : List (Str × D)), ConK K mg p.1 p.2 from (fun _ h => absurd h List.not_mem_nil)) (x, d) m, (fun _ h => absurd h List.not_mem_nil)⟩, Y.glo 23 rfl, Fd.kp, b⟩
theorem ok_takes_keys (Y : Hd w K h mg) : FnK PySem.Challenge.pw_keypanes_k42_pressed w K mg base 7 "takes_keys" F_takes_keys := by
  obtain ⟨fd, Fd⟩ := Y.c.t.d.def_ 24 (d := d_takes_keys) rfl
  obtain ⟨B, hB⟩ := ofChk chk_takes_keys
  have b : Binds K fd [Str.ofString "plan", Str.ofString "name"] [] := FunD.bindsN Fd fun _ _ _ _ _ _ us hl => match us, hl with | [_, _], _ => rfl
  exact ⟨_, fd, [Str.ofString "plan", Str.ofString "name"], fn_ok (cf := cf_takes_keys) Fd ⟨rfl, rfl, rfl, by decide +kernel, rfl, by decide +kernel, by decide +kernel⟩ (by decide) (fun _ => rfl) B hB ⟨(fun _ h => absurd h List.not_mem_nil), fun x F m => (show ∀ p ∈ ([(Str.ofString "top_sheet", F_top_sheet), (Str.ofString "the_pane", F_the_pane), (Str.ofString "opens", F_opens)] : List (Str × Fn)), FnK PySem.Challenge.pw_keypanes_k42_pressed w K mg base 6 p.1 p.2 from (List.forall_mem_cons.mpr ⟨(ok_top_sheet Y).mono (by decide), List.forall_mem_cons.mpr ⟨(ok_the_pane Y).mono (by decide), List.forall_mem_cons.mpr ⟨(ok_opens Y).mono (by decide), fun _ h => absurd h List.not_mem_nil⟩⟩⟩)) (x, F) m, fun x d m => (show ∀ p ∈ ([] : List (Str × D)), ConK K mg p.1 p.2 from (fun _ h => absurd h List.not_mem_nil)) (x, d) m, (fun _ h => absurd h List.not_mem_nil)⟩, Y.glo 24 rfl, Fd.kp, b⟩
theorem ok_placed (Y : Hd w K h mg) : FnK PySem.Challenge.pw_keypanes_k42_pressed w K mg base 3 "placed" F_placed := by
  obtain ⟨fd, Fd⟩ := Y.c.t.d.def_ 25 (d := d_placed) rfl
  obtain ⟨B, hB⟩ := ofChk chk_placed
  have b : Binds K fd [Str.ofString "plan", Str.ofString "name"] [] := FunD.bindsN Fd fun _ _ _ _ _ _ us hl => match us, hl with | [_, _], _ => rfl
  exact ⟨_, fd, [Str.ofString "plan", Str.ofString "name"], fn_ok (cf := cf_placed) Fd ⟨rfl, rfl, rfl, by decide +kernel, rfl, by decide +kernel, by decide +kernel⟩ (by decide) (fun _ => rfl) B hB ⟨(fun _ h => absurd h List.not_mem_nil), fun x F m => (show ∀ p ∈ ([(Str.ofString "the_pane", F_the_pane), (Str.ofString "going_up", F_going_up)] : List (Str × Fn)), FnK PySem.Challenge.pw_keypanes_k42_pressed w K mg base 2 p.1 p.2 from (List.forall_mem_cons.mpr ⟨(ok_the_pane Y).mono (by decide), List.forall_mem_cons.mpr ⟨(ok_going_up Y).mono (by decide), fun _ h => absurd h List.not_mem_nil⟩⟩)) (x, F) m, fun x d m => (show ∀ p ∈ ([] : List (Str × D)), ConK K mg p.1 p.2 from (fun _ h => absurd h List.not_mem_nil)) (x, d) m, (fun _ h => absurd h List.not_mem_nil)⟩, Y.glo 25 rfl, Fd.kp, b⟩
theorem ok_has_point (Y : Hd w K h mg) : FnK PySem.Challenge.pw_keypanes_k42_pressed w K mg base 2 "has_point" F_has_point := by
  obtain ⟨fd, Fd⟩ := Y.c.t.d.def_ 26 (d := d_has_point) rfl
  obtain ⟨B, hB⟩ := ofChk chk_has_point
  have b : Binds K fd [Str.ofString "box", Str.ofString "x", Str.ofString "y"] [] := FunD.bindsN Fd fun _ _ _ _ _ _ us hl => match us, hl with | [_, _, _], _ => rfl
  exact ⟨_, fd, [Str.ofString "box", Str.ofString "x", Str.ofString "y"], fn_ok (cf := cf_has_point) Fd ⟨rfl, rfl, rfl, by decide +kernel, rfl, by decide +kernel, by decide +kernel⟩ (by decide) (fun _ => rfl) B hB ⟨(fun _ h => absurd h List.not_mem_nil), fun x F m => (show ∀ p ∈ ([] : List (Str × Fn)), FnK PySem.Challenge.pw_keypanes_k42_pressed w K mg base 1 p.1 p.2 from (fun _ h => absurd h List.not_mem_nil)) (x, F) m, fun x d m => (show ∀ p ∈ ([] : List (Str × D)), ConK K mg p.1 p.2 from (fun _ h => absurd h List.not_mem_nil)) (x, d) m, (fun _ h => absurd h List.not_mem_nil)⟩, Y.glo 26 rfl, Fd.kp, b⟩
theorem ok_uppermost (Y : Hd w K h mg) : FnK PySem.Challenge.pw_keypanes_k42_pressed w K mg base 4 "uppermost" F_uppermost := by
  obtain ⟨fd, Fd⟩ := Y.c.t.d.def_ 27 (d := d_uppermost) rfl
  obtain ⟨B, hB⟩ := ofChk chk_uppermost
  have b : Binds K fd [Str.ofString "plan", Str.ofString "name", Str.ofString "x", Str.ofString "y"] [] := FunD.bindsN Fd fun _ _ _ _ _ _ us hl => match us, hl with | [_, _, _, _], _ => rfl
  exact ⟨_, fd, [Str.ofString "plan", Str.ofString "name", Str.ofString "x", Str.ofString "y"], fn_ok (cf := cf_uppermost) Fd ⟨rfl, rfl, rfl, by decide +kernel, rfl, by decide +kernel, by decide +kernel⟩ (by decide) (fun _ => rfl) B hB ⟨(fun _ h => absurd h List.not_mem_nil), fun x F m => (show ∀ p ∈ ([(Str.ofString "has_point", F_has_point), (Str.ofString "placed", F_placed)] : List (Str × Fn)), FnK PySem.Challenge.pw_keypanes_k42_pressed w K mg base 3 p.1 p.2 from (List.forall_mem_cons.mpr ⟨(ok_has_point Y).mono (by decide), List.forall_mem_cons.mpr ⟨(ok_placed Y).mono (by decide), fun _ h => absurd h List.not_mem_nil⟩⟩)) (x, F) m, fun x d m => (show ∀ p ∈ ([] : List (Str × D)), ConK K mg p.1 p.2 from (fun _ h => absurd h List.not_mem_nil)) (x, d) m, (fun _ h => absurd h List.not_mem_nil)⟩, Y.glo 27 rfl, Fd.kp, b⟩
theorem ok_found_at (Y : Hd w K h mg) : FnK PySem.Challenge.pw_keypanes_k42_pressed w K mg base 5 "found_at" F_found_at := by
  obtain ⟨fd, Fd⟩ := Y.c.t.d.def_ 28 (d := d_found_at) rfl
  obtain ⟨B, hB⟩ := ofChk chk_found_at
  have b : Binds K fd [Str.ofString "plan", Str.ofString "x", Str.ofString "y"] [] := FunD.bindsN Fd fun _ _ _ _ _ _ us hl => match us, hl with | [_, _, _], _ => rfl
  exact ⟨_, fd, [Str.ofString "plan", Str.ofString "x", Str.ofString "y"], fn_ok (cf := cf_found_at) Fd ⟨rfl, rfl, rfl, by decide +kernel, rfl, by decide +kernel, by decide +kernel⟩ (by decide) (fun _ => rfl) B hB ⟨(fun _ h => absurd h List.not_mem_nil), fun x F m => (show ∀ p ∈ ([(Str.ofString "has_point", F_has_point), (Str.ofString "placed", F_placed), (Str.ofString "uppermost", F_uppermost)] : List (Str × Fn)), FnK PySem.Challenge.pw_keypanes_k42_pressed w K mg base 4 p.1 p.2 from (List.forall_mem_cons.mpr ⟨(ok_has_point Y).mono (by decide), List.forall_mem_cons.mpr ⟨(ok_placed Y).mono (by decide), List.forall_mem_cons.mpr ⟨(ok_uppermost Y).mono (by decide), fun _ h => absurd h List.not_mem_nil⟩⟩⟩)) (x, F) m, fun x d m => (show ∀ p ∈ ([] : List (Str × D)), ConK K mg p.1 p.2 from (fun _ h => absurd h List.not_mem_nil)) (x, d) m, (fun _ h => absurd h List.not_mem_nil)⟩, Y.glo 28 rfl, Fd.kp, b⟩
theorem ok_see_point (Y : Hd w K h mg) : FnK PySem.Challenge.pw_keypanes_k42_pressed w K mg base 3 "see_point" F_see_point := by
  obtain ⟨fd, Fd⟩ := Y.c.t.d.def_ 29 (d := d_see_point) rfl
  obtain ⟨B, hB⟩ := ofChk chk_see_point
  have b : Binds K fd [Str.ofString "x", Str.ofString "y"] [] := FunD.bindsN Fd fun _ _ _ _ _ _ us hl => match us, hl with | [_, _], _ => rfl
  exact ⟨_, fd, [Str.ofString "x", Str.ofString "y"], fn_ok (cf := cf_see_point) Fd ⟨rfl, rfl, rfl, by decide +kernel, rfl, by decide +kernel, by decide +kernel⟩ (by decide) (fun _ => rfl) B hB ⟨(fun _ h => absurd h List.not_mem_nil), fun x F m => (show ∀ p ∈ ([(Str.ofString "is_number", F_is_number)] : List (Str × Fn)), FnK PySem.Challenge.pw_keypanes_k42_pressed w K mg base 2 p.1 p.2 from (List.forall_mem_cons.mpr ⟨(ok_is_number Y).mono (by decide), fun _ h => absurd h List.not_mem_nil⟩)) (x, F) m, fun x d m => (show ∀ p ∈ ([(Str.ofString "FAR_POINT", C_FAR_POINT)] : List (Str × D)), ConK K mg p.1 p.2 from (List.forall_mem_cons.mpr ⟨con_FAR_POINT Y, fun _ h => absurd h List.not_mem_nil⟩)) (x, d) m, (List.forall_mem_cons.mpr ⟨Y.excC 84 rfl 83 rfl, fun _ h => absurd h List.not_mem_nil⟩)⟩, Y.glo 29 rfl, Fd.kp, b⟩
theorem ok_is_row_of (Y : Hd w K h mg) : FnK PySem.Challenge.pw_keypanes_k42_pressed w K mg base 8 "is_row_of" F_is_row_of := by
  obtain ⟨fd, Fd⟩ := Y.c.t.d.def_ 30 (d := d_is_row_of) rfl
  obtain ⟨B, hB⟩ := ofChk chk_is_row_of
  have b : Binds K fd [Str.ofString "plan", Str.ofString "thing"] [] := FunD.bindsN Fd fun _ _ _ _ _ _ us hl => match us, hl with | [_, _], _ => rfl
  exact ⟨_, fd, [Str.ofString "plan", Str.ofString "thing"], fn_ok (cf := cf_is_row_of) Fd ⟨rfl, rfl, rfl, by decide +kernel, rfl, by decide +kernel, by decide +kernel⟩ (by decide) (fun _ => rfl) B hB ⟨(List.forall_mem_cons.mpr ⟨Y.free 64 rfl, List.forall_mem_cons.mpr ⟨Y.free 59 rfl, List.forall_mem_cons.mpr ⟨Y.free 72 rfl, List.forall_mem_cons.mpr ⟨Y.free 69 rfl, List.forall_mem_cons.mpr ⟨Y.free 63 rfl, fun _ h => absurd h List.not_mem_nil⟩⟩⟩⟩⟩), fun x F m => (show ∀ p ∈ ([(Str.ofString "has_name", F_has_name), (Str.ofString "takes_keys", F_takes_keys)] : List (Str × Fn)), FnK PySem.Challenge.pw_keypanes_k42_pressed w K mg base 7 p.1 p.2 from (List.forall_mem_cons.mpr ⟨(ok_has_name Y).mono (by decide), List.forall_mem_cons.mpr ⟨(ok_takes_keys Y).mono (by decide), fun _ h => absurd h List.not_mem_nil⟩⟩)) (x, F) m, fun x d m => (show ∀ p ∈ ([] : List (Str × D)), ConK K mg p.1 p.2 from (fun _ h => absurd h List.not_mem_nil)) (x, d) m, (fun _ h => absurd h List.not_mem_nil)⟩, Y.glo 30 rfl, Fd.kp, b⟩
theorem ok_see_row (Y : Hd w K h mg) : FnK PySem.Challenge.pw_keypanes_k42_pressed w K mg base 9 "see_row" F_see_row := by
  obtain ⟨fd, Fd⟩ := Y.c.t.d.def_ 31 (d := d_see_row) rfl
  obtain ⟨B, hB⟩ := ofChk chk_see_row
  have b : Binds K fd [Str.ofString "plan", Str.ofString "row"] [] := FunD.bindsN Fd fun _ _ _ _ _ _ us hl => match us, hl with | [_, _], _ => rfl
  exact ⟨_, fd, [Str.ofString "plan", Str.ofString "row"], fn_ok (cf := cf_see_row) Fd ⟨rfl, rfl, rfl, by decide +kernel, rfl, by decide +kernel, by decide +kernel⟩ (by decide) (fun _ => rfl) B hB ⟨(fun _ h => absurd h List.not_mem_nil), fun x F m => (show ∀ p ∈ ([(Str.ofString "is_row_of", F_is_row_of)] : List (Str × Fn)), FnK PySem.Challenge.pw_keypanes_k42_pressed w K mg base 8 p.1 p.2 from (List.forall_mem_cons.mpr ⟨(ok_is_row_of Y).mono (by decide), fun _ h => absurd h List.not_mem_nil⟩)) (x, F) m, fun x d m => (show ∀ p ∈ ([] : List (Str × D)), ConK K mg p.1 p.2 from (fun _ h => absurd h List.not_mem_nil)) (x, d) m, (List.forall_mem_cons.mpr ⟨Y.excC 86 rfl 85 rfl, fun _ h => absurd h List.not_mem_nil⟩)⟩, Y.glo 31 rfl, Fd.kp, b⟩
theorem ok_moved_to (Y : Hd w K h mg) : FnK PySem.Challenge.pw_keypanes_k42_pressed w K mg base 2 "moved_to" F_moved_to := by
  obtain ⟨fd, Fd⟩ := Y.c.t.d.def_ 32 (d := d_moved_to) rfl
  obtain ⟨B, hB⟩ := ofChk chk_moved_to
  have b : Binds K fd [Str.ofString "row", Str.ofString "name"] [] := FunD.bindsN Fd fun _ _ _ _ _ _ us hl => match us, hl with | [_, _], _ => rfl
  exact ⟨_, fd, [Str.ofString "row", Str.ofString "name"], fn_ok (cf := cf_moved_to) Fd ⟨rfl, rfl, rfl, by decide +kernel, rfl, by decide +kernel, by decide +kernel⟩ (by decide) (fun _ => rfl) B hB ⟨(List.forall_mem_cons.mpr ⟨Y.free 72 rfl, fun _ h => absurd h List.not_mem_nil⟩), fun x F m => (show ∀ p ∈ ([] : List (Str × Fn)), FnK PySem.Challenge.pw_keypanes_k42_pressed w K mg base 1 p.1 p.2 from (fun _ h => absurd h List.not_mem_nil)) (x, F) m, fun x d m => (show ∀ p ∈ ([] : List (Str × D)), ConK K mg p.1 p.2 from (fun _ h => absurd h List.not_mem_nil)) (x, d) m, (fun _ h => absurd h List.not_mem_nil)⟩, Y.glo 32 rfl, Fd.kp, b⟩
theorem ok_pressed (Y : Hd w K h mg) : FnK PySem.Challenge.pw_keypanes_k42_pressed w K mg base 10 "pressed" F_pressed := by
  obtain ⟨fd, Fd⟩ := Y.c.t.d.def_ 33 (d := d_pressed) rfl
  obtain ⟨B, hB⟩ := ofChk chk_pressed
  have b : Binds K fd [Str.ofString "plan", Str.ofString "row", Str.ofString "x", Str.ofString "y"] [] := FunD.bindsN Fd fun _ _ _ _ _ _ us hl => match us, hl with | [_, _, _, _], _ => rfl
  exact ⟨_, fd, [Str.ofString "plan", Str.ofString "row", Str.ofString "x", Str.ofString "y"], fn_ok (cf := cf_pressed) Fd ⟨rfl, rfl, rfl, by decide +kernel, rfl, by decide +kernel, by decide +kernel⟩ (by decide) (fun _ => rfl) B hB ⟨(fun _ h => absurd h List.not_mem_nil), fun x F m => (show ∀ p ∈ ([(Str.ofString "see_plan", F_see_plan), (Str.ofString "see_row", F_see_row), (Str.ofString "see_point", F_see_point), (Str.ofString "found_at", F_found_at), (Str.ofString "takes_keys", F_takes_keys), (Str.ofString "moved_to", F_moved_to), (Str.ofString "going_up", F_going_up)] : List (Str × Fn)), FnK PySem.Challenge.pw_keypanes_k42_pressed w K mg base 9 p.1 p.2 from (List.forall_mem_cons.mpr ⟨(ok_see_plan Y).mono (by decide), List.forall_mem_cons.mpr ⟨(ok_see_row Y).mono (by decide), List.forall_mem_cons.mpr ⟨(ok_see_point Y).mono (by decide), List.forall_mem_cons.mpr ⟨(ok_found_at Y).mono (by decide), List.forall_mem_cons.mpr ⟨(ok_takes_keys Y).mono (by decide), List.forall_mem_cons.mpr ⟨(ok_moved_to Y).mono (by decide), List.forall_mem_cons.mpr ⟨(ok_going_up Y).mono (by decide), fun _ h => absurd h List.not_mem_nil⟩⟩⟩⟩⟩⟩⟩)) (x, F) m, fun x d m => (show ∀ p ∈ ([] : List (Str × D)), ConK K mg p.1 p.2 from (fun _ h => absurd h List.not_mem_nil)) (x, d) m, (fun _ h => absurd h List.not_mem_nil)⟩, Y.glo 33 rfl, Fd.kp, b⟩
theorem ok__law_cell (Y : Hd w K h mg) : FnK PySem.Challenge.pw_keypanes_k42_pressed w K mg base 2 "_law_cell" F__law_cell := by
  obtain ⟨fd, Fd⟩ := Y.c.t.d.def_ 34 (d := d__law_cell) rfl
  obtain ⟨B, hB⟩ := ofChk chk__law_cell
  have b : Binds K fd [Str.ofString "_law_script", Str.ofString "_law_k"] [] := FunD.bindsN Fd fun _ _ _ _ _ _ us hl => match us, hl with | [_, _], _ => rfl
  exact ⟨_, fd, [Str.ofString "_law_script", Str.ofString "_law_k"], fn_ok (cf := cf__law_cell) Fd ⟨rfl, rfl, rfl, by decide +kernel, rfl, by decide +kernel, by decide +kernel⟩ (by decide) (fun _ => rfl) B hB ⟨(List.forall_mem_cons.mpr ⟨Y.free 64 rfl, fun _ h => absurd h List.not_mem_nil⟩), fun x F m => (show ∀ p ∈ ([] : List (Str × Fn)), FnK PySem.Challenge.pw_keypanes_k42_pressed w K mg base 1 p.1 p.2 from (fun _ h => absurd h List.not_mem_nil)) (x, F) m, fun x d m => (show ∀ p ∈ ([] : List (Str × D)), ConK K mg p.1 p.2 from (fun _ h => absurd h List.not_mem_nil)) (x, d) m, (fun _ h => absurd h List.not_mem_nil)⟩, Y.glo 34 rfl, Fd.kp, b⟩
theorem ok__law_pen (Y : Hd w K h mg) : FnK PySem.Challenge.pw_keypanes_k42_pressed w K mg base 2 "_law_pen" F__law_pen := by
  obtain ⟨fd, Fd⟩ := Y.c.t.d.def_ 35 (d := d__law_pen) rfl
  obtain ⟨B, hB⟩ := ofChk chk__law_pen
  have b : Binds K fd [Str.ofString "_law_cell_here"] [] := FunD.bindsN Fd fun _ _ _ _ _ _ us hl => match us, hl with | [_], _ => rfl
  exact ⟨_, fd, [Str.ofString "_law_cell_here"], fn_ok (cf := cf__law_pen) Fd ⟨rfl, rfl, rfl, by decide +kernel, rfl, by decide +kernel, by decide +kernel⟩ (by decide) (fun _ => rfl) B hB ⟨(List.forall_mem_cons.mpr ⟨Y.free 62 rfl, fun _ h => absurd h List.not_mem_nil⟩), fun x F m => (show ∀ p ∈ ([] : List (Str × Fn)), FnK PySem.Challenge.pw_keypanes_k42_pressed w K mg base 1 p.1 p.2 from (fun _ h => absurd h List.not_mem_nil)) (x, F) m, fun x d m => (show ∀ p ∈ ([] : List (Str × D)), ConK K mg p.1 p.2 from (fun _ h => absurd h List.not_mem_nil)) (x, d) m, (fun _ h => absurd h List.not_mem_nil)⟩, Y.glo 35 rfl, Fd.kp, b⟩
theorem ok__law_draw (Y : Hd w K h mg) : FnK PySem.Challenge.pw_keypanes_k42_pressed w K mg base 2 "_law_draw" F__law_draw := by
  obtain ⟨fd, Fd⟩ := Y.c.t.d.def_ 36 (d := d__law_draw) rfl
  obtain ⟨B, hB⟩ := ofChk chk__law_draw
  have b : Binds K fd [Str.ofString "_law_pen_here", Str.ofString "_law_many"] [] := FunD.bindsN Fd fun _ _ _ _ _ _ us hl => match us, hl with | [_, _], _ => rfl
  exact ⟨_, fd, [Str.ofString "_law_pen_here", Str.ofString "_law_many"], fn_ok (cf := cf__law_draw) Fd ⟨rfl, rfl, rfl, by decide +kernel, rfl, by decide +kernel, by decide +kernel⟩ (by decide) (fun _ => rfl) B hB ⟨(fun _ h => absurd h List.not_mem_nil), fun x F m => (show ∀ p ∈ ([] : List (Str × Fn)), FnK PySem.Challenge.pw_keypanes_k42_pressed w K mg base 1 p.1 p.2 from (fun _ h => absurd h List.not_mem_nil)) (x, F) m, fun x d m => (show ∀ p ∈ ([] : List (Str × D)), ConK K mg p.1 p.2 from (fun _ h => absurd h List.not_mem_nil)) (x, d) m, (fun _ h => absurd h List.not_mem_nil)⟩, Y.glo 36 rfl, Fd.kp, b⟩
theorem ok__law_same (Y : Hd w K h mg) : ∀ k, FnK PySem.Challenge.pw_keypanes_k42_pressed w K mg base (1 + k) "_law_same" (F__law_same k)
  | 0 => by
    obtain ⟨fd, Fd⟩ := Y.c.t.d.def_ 37 (d := d__law_same) rfl
    have b : Binds K fd [Str.ofString "_law_thing", Str.ofString "_law_due_here"] [] := FunD.bindsN Fd fun _ _ _ _ _ _ us hl => match us, hl with | [_, _], _ => rfl
    exact ⟨_, fd, [Str.ofString "_law_thing", Str.ofString "_law_due_here"], bad_ok, Y.glo 37 rfl, Fd.kp, b⟩
  | k + 1 => by
    obtain ⟨fd, Fd⟩ := Y.c.t.d.def_ 37 (d := d__law_same) rfl
    obtain ⟨B, hB⟩ := ofChk (chk__law_same (F__law_same k) (0 + k))
    have b : Binds K fd [Str.ofString "_law_thing", Str.ofString "_law_due_here"] [] := FunD.bindsN Fd fun _ _ _ _ _ _ us hl => match us, hl with | [_, _], _ => rfl
    have Sc : FnScope [Str.ofString "_law_thing", Str.ofString "_law_due_here", Str.ofString "_law_one", Str.ofString "_law_other"] [Str.ofString "_law_thing", Str.ofString "_law_due_here"] (defScope (topS 56)) := ⟨rfl, rfl, rfl, by decide +kernel, rfl, by decide +kernel, by decide +kernel⟩
    have q := fn_ok (P := PySem.Challenge.pw_keypanes_k42_pressed) (w := w) (mg := mg) (base := base) (ps := [Str.ofString "_law_thing", Str.ofString "_law_due_here"]) (cf := cf__law_same (F__law_same k) (0 + k)) Fd Sc (show 2 ≤ 4 by decide) (fun _ => rfl) B hB ⟨(List.forall_mem_cons.mpr ⟨Y.free 64 rfl, List.forall_mem_cons.mpr ⟨Y.free 59 rfl, List.forall_mem_cons.mpr ⟨Y.free 65 rfl, List.forall_mem_cons.mpr ⟨Y.free 72 rfl, List.forall_mem_cons.mpr ⟨Y.free 63 rfl, List.forall_mem_cons.mpr ⟨Y.free 60 rfl, List.forall_mem_cons.mpr ⟨Y.free 73 rfl, fun _ h => absurd h List.not_mem_nil⟩⟩⟩⟩⟩⟩⟩), fun x F m => (show ∀ p ∈ ([(Str.ofString "_law_same", F__law_same k)] : List (Str × Fn)), FnK PySem.Challenge.pw_keypanes_k42_pressed w K mg base (0 + k + 1) p.1 p.2 from (List.forall_mem_cons.mpr ⟨(ok__law_same Y k).mono (by omega), fun _ h => absurd h List.not_mem_nil⟩)) (x, F) m, fun x d m => (show ∀ p ∈ ([] : List (Str × D)), ConK K mg p.1 p.2 from (fun _ h => absurd h List.not_mem_nil)) (x, d) m, (fun _ h => absurd h List.not_mem_nil)⟩
    exact ⟨_, fd, [Str.ofString "_law_thing", Str.ofString "_law_due_here"], q.mono (show 0 + k + 2 ≤ 1 + (k + 1) by omega), Y.glo 37 rfl, Fd.kp, b⟩
theorem ok__law_names (Y : Hd w K h mg) : FnK PySem.Challenge.pw_keypanes_k42_pressed w K mg base 3 "_law_names" F__law_names := by
  obtain ⟨fd, Fd⟩ := Y.c.t.d.def_ 38 (d := d__law_names) rfl
  obtain ⟨B, hB⟩ := ofChk chk__law_names
  have b : Binds K fd [Str.ofString "_law_pen_here", Str.ofString "_law_many"] [] := FunD.bindsN Fd fun _ _ _ _ _ _ us hl => match us, hl with | [_, _], _ => rfl
  exact ⟨_, fd, [Str.ofString "_law_pen_here", Str.ofString "_law_many"], fn_ok (cf := cf__law_names) Fd ⟨rfl, rfl, rfl, by decide +kernel, rfl, by decide +kernel, by decide +kernel⟩ (by decide) (fun _ => rfl) B hB ⟨(List.forall_mem_cons.mpr ⟨Y.free 68 rfl, fun _ h => absurd h List.not_mem_nil⟩), fun x F m => (show ∀ p ∈ ([(Str.ofString "_law_draw", F__law_draw)] : List (Str × Fn)), FnK PySem.Challenge.pw_keypanes_k42_pressed w K mg base 2 p.1 p.2 from (List.forall_mem_cons.mpr ⟨(ok__law_draw Y).mono (by decide), fun _ h => absurd h List.not_mem_nil⟩)) (x, F) m, fun x d m => (show ∀ p ∈ ([] : List (Str × D)), ConK K mg p.1 p.2 from (fun _ h => absurd h List.not_mem_nil)) (x, d) m, (fun _ h => absurd h List.not_mem_nil)⟩, Y.glo 38 rfl, Fd.kp, b⟩
theorem ok__law_ups (Y : Hd w K h mg) : FnK PySem.Challenge.pw_keypanes_k42_pressed w K mg base 3 "_law_ups" F__law_ups := by
  obtain ⟨fd, Fd⟩ := Y.c.t.d.def_ 39 (d := d__law_ups) rfl
  obtain ⟨B, hB⟩ := ofChk chk__law_ups
  have b : Binds K fd [Str.ofString "_law_pen_here", Str.ofString "_law_names_here"] [] := FunD.bindsN Fd fun _ _ _ _ _ _ us hl => match us, hl with | [_, _], _ => rfl
  exact ⟨_, fd, [Str.ofString "_law_pen_here", Str.ofString "_law_names_here"], fn_ok (cf := cf__law_ups) Fd ⟨rfl, rfl, rfl, by decide +kernel, rfl, by decide +kernel, by decide +kernel⟩ (by decide) (fun _ => rfl) B hB ⟨(List.forall_mem_cons.mpr ⟨Y.free 64 rfl, List.forall_mem_cons.mpr ⟨Y.free 65 rfl, fun _ h => absurd h List.not_mem_nil⟩⟩), fun x F m => (show ∀ p ∈ ([(Str.ofString "_law_draw", F__law_draw)] : List (Str × Fn)), FnK PySem.Challenge.pw_keypanes_k42_pressed w K mg base 2 p.1 p.2 from (List.forall_mem_cons.mpr ⟨(ok__law_draw Y).mono (by decide), fun _ h => absurd h List.not_mem_nil⟩)) (x, F) m, fun x d m => (show ∀ p ∈ ([] : List (Str × D)), ConK K mg p.1 p.2 from (fun _ h => absurd h List.not_mem_nil)) (x, d) m, (fun _ h => absurd h List.not_mem_nil)⟩, Y.glo 39 rfl, Fd.kp, b⟩
theorem ok__law_marks (Y : Hd w K h mg) : FnK PySem.Challenge.pw_keypanes_k42_pressed w K mg base 3 "_law_marks" F__law_marks := by
  obtain ⟨fd, Fd⟩ := Y.c.t.d.def_ 40 (d := d__law_marks) rfl
  obtain ⟨B, hB⟩ := ofChk chk__law_marks
  have b : Binds K fd [Str.ofString "_law_pen_here", Str.ofString "_law_up"] [] := FunD.bindsN Fd fun _ _ _ _ _ _ us hl => match us, hl with | [_, _], _ => rfl
  exact ⟨_, fd, [Str.ofString "_law_pen_here", Str.ofString "_law_up"], fn_ok (cf := cf__law_marks) Fd ⟨rfl, rfl, rfl, by decide +kernel, rfl, by decide +kernel, by decide +kernel⟩ (by decide) (fun _ => rfl) B hB ⟨(List.forall_mem_cons.mpr ⟨Y.free 72 rfl, fun _ h => absurd h List.not_mem_nil⟩), fun x F m => (show ∀ p ∈ ([(Str.ofString "_law_draw", F__law_draw)] : List (Str × Fn)), FnK PySem.Challenge.pw_keypanes_k42_pressed w K mg base 2 p.1 p.2 from (List.forall_mem_cons.mpr ⟨(ok__law_draw Y).mono (by decide), fun _ h => absurd h List.not_mem_nil⟩)) (x, F) m, fun x d m => (show ∀ p ∈ ([] : List (Str × D)), ConK K mg p.1 p.2 from (fun _ h => absurd h List.not_mem_nil)) (x, d) m, (fun _ h => absurd h List.not_mem_nil)⟩, Y.glo 40 rfl, Fd.kp, b⟩
theorem ok__law_box (Y : Hd w K h mg) : FnK PySem.Challenge.pw_keypanes_k42_pressed w K mg base 3 "_law_box" F__law_box := by
  obtain ⟨fd, Fd⟩ := Y.c.t.d.def_ 41 (d := d__law_box) rfl
  obtain ⟨B, hB⟩ := ofChk chk__law_box
  have b : Binds K fd [Str.ofString "_law_pen_here"] [] := FunD.bindsN Fd fun _ _ _ _ _ _ us hl => match us, hl with | [_], _ => rfl
  exact ⟨_, fd, [Str.ofString "_law_pen_here"], fn_ok (cf := cf__law_box) Fd ⟨rfl, rfl, rfl, by decide +kernel, rfl, by decide +kernel, by decide +kernel⟩ (by decide) (fun _ => rfl) B hB ⟨(fun _ h => absurd h List.not_mem_nil), fun x F m => (show ∀ p ∈ ([(Str.ofString "_law_draw", F__law_draw)] : List (Str × Fn)), FnK PySem.Challenge.pw_keypanes_k42_pressed w K mg base 2 p.1 p.2 from (List.forall_mem_cons.mpr ⟨(ok__law_draw Y).mono (by decide), fun _ h => absurd h List.not_mem_nil⟩)) (x, F) m, fun x d m => (show ∀ p ∈ ([] : List (Str × D)), ConK K mg p.1 p.2 from (fun _ h => absurd h List.not_mem_nil)) (x, d) m, (fun _ h => absurd h List.not_mem_nil)⟩, Y.glo 41 rfl, Fd.kp, b⟩
theorem ok__law_deed (Y : Hd w K h mg) : FnK PySem.Challenge.pw_keypanes_k42_pressed w K mg base 3 "_law_deed" F__law_deed := by
  obtain ⟨fd, Fd⟩ := Y.c.t.d.def_ 42 (d := d__law_deed) rfl
  obtain ⟨B, hB⟩ := ofChk chk__law_deed
  have b : Binds K fd [Str.ofString "_law_pen_here", Str.ofString "_law_ground"] [] := FunD.bindsN Fd fun _ _ _ _ _ _ us hl => match us, hl with | [_, _], _ => rfl
  exact ⟨_, fd, [Str.ofString "_law_pen_here", Str.ofString "_law_ground"], fn_ok (cf := cf__law_deed) Fd ⟨rfl, rfl, rfl, by decide +kernel, rfl, by decide +kernel, by decide +kernel⟩ (by decide) (fun _ => rfl) B hB ⟨(List.forall_mem_cons.mpr ⟨Y.free 62 rfl, fun _ h => absurd h List.not_mem_nil⟩), fun x F m => (show ∀ p ∈ ([(Str.ofString "_law_draw", F__law_draw)] : List (Str × Fn)), FnK PySem.Challenge.pw_keypanes_k42_pressed w K mg base 2 p.1 p.2 from (List.forall_mem_cons.mpr ⟨(ok__law_draw Y).mono (by decide), fun _ h => absurd h List.not_mem_nil⟩)) (x, F) m, fun x d m => (show ∀ p ∈ ([] : List (Str × D)), ConK K mg p.1 p.2 from (fun _ h => absurd h List.not_mem_nil)) (x, d) m, (fun _ h => absurd h List.not_mem_nil)⟩, Y.glo 42 rfl, Fd.kp, b⟩
theorem ok__law_keys (Y : Hd w K h mg) : FnK PySem.Challenge.pw_keypanes_k42_pressed w K mg base 4 "_law_keys" F__law_keys := by
  obtain ⟨fd, Fd⟩ := Y.c.t.d.def_ 43 (d := d__law_keys) rfl
  obtain ⟨B, hB⟩ := ofChk chk__law_keys
  have b : Binds K fd [Str.ofString "_law_pen_here", Str.ofString "_law_ground"] [] := FunD.bindsN Fd fun _ _ _ _ _ _ us hl => match us, hl with | [_, _], _ => rfl
  exact ⟨_, fd, [Str.ofString "_law_pen_here", Str.ofString "_law_ground"], fn_ok (cf := cf__law_keys) Fd ⟨rfl, rfl, rfl, by decide +kernel, rfl, by decide +kernel, by decide +kernel⟩ (by decide) (fun _ => rfl) B hB ⟨(List.forall_mem_cons.mpr ⟨Y.free 72 rfl, fun _ h => absurd h List.not_mem_nil⟩), fun x F m => (show ∀ p ∈ ([(Str.ofString "_law_draw", F__law_draw), (Str.ofString "_law_deed", F__law_deed)] : List (Str × Fn)), FnK PySem.Challenge.pw_keypanes_k42_pressed w K mg base 3 p.1 p.2 from (List.forall_mem_cons.mpr ⟨(ok__law_draw Y).mono (by decide), List.forall_mem_cons.mpr ⟨(ok__law_deed Y).mono (by decide), fun _ h => absurd h List.not_mem_nil⟩⟩)) (x, F) m, fun x d m => (show ∀ p ∈ ([] : List (Str × D)), ConK K mg p.1 p.2 from (fun _ h => absurd h List.not_mem_nil)) (x, d) m, (fun _ h => absurd h List.not_mem_nil)⟩, Y.glo 43 rfl, Fd.kp, b⟩
theorem ok__law_plan (Y : Hd w K h mg) : FnK PySem.Challenge.pw_keypanes_k42_pressed w K mg base 5 "_law_plan" F__law_plan := by
  obtain ⟨fd, Fd⟩ := Y.c.t.d.def_ 44 (d := d__law_plan) rfl
  obtain ⟨B, hB⟩ := ofChk chk__law_plan
  have b : Binds K fd [Str.ofString "_law_pen_here"] [] := FunD.bindsN Fd fun _ _ _ _ _ _ us hl => match us, hl with | [_], _ => rfl
  exact ⟨_, fd, [Str.ofString "_law_pen_here"], fn_ok (cf := cf__law_plan) Fd ⟨rfl, rfl, rfl, by decide +kernel, rfl, by decide +kernel, by decide +kernel⟩ (by decide) (fun _ => rfl) B hB ⟨(List.forall_mem_cons.mpr ⟨Y.free 72 rfl, fun _ h => absurd h List.not_mem_nil⟩), fun x F m => (show ∀ p ∈ ([(Str.ofString "_law_names", F__law_names), (Str.ofString "_law_draw", F__law_draw), (Str.ofString "_law_ups", F__law_ups), (Str.ofString "_law_keys", F__law_keys), (Str.ofString "_law_box", F__law_box), (Str.ofString "_law_marks", F__law_marks)] : List (Str × Fn)), FnK PySem.Challenge.pw_keypanes_k42_pressed w K mg base 4 p.1 p.2 from (List.forall_mem_cons.mpr ⟨(ok__law_names Y).mono (by decide), List.forall_mem_cons.mpr ⟨(ok__law_draw Y).mono (by decide), List.forall_mem_cons.mpr ⟨(ok__law_ups Y).mono (by decide), List.forall_mem_cons.mpr ⟨(ok__law_keys Y).mono (by decide), List.forall_mem_cons.mpr ⟨(ok__law_box Y).mono (by decide), List.forall_mem_cons.mpr ⟨(ok__law_marks Y).mono (by decide), fun _ h => absurd h List.not_mem_nil⟩⟩⟩⟩⟩⟩)) (x, F) m, fun x d m => (show ∀ p ∈ ([] : List (Str × D)), ConK K mg p.1 p.2 from (fun _ h => absurd h List.not_mem_nil)) (x, d) m, (fun _ h => absurd h List.not_mem_nil)⟩, Y.glo 44 rfl, Fd.kp, b⟩
theorem ok__law_pane (Y : Hd w K h mg) : FnK PySem.Challenge.pw_keypanes_k42_pressed w K mg base 2 "_law_pane" F__law_pane := by
  obtain ⟨fd, Fd⟩ := Y.c.t.d.def_ 45 (d := d__law_pane) rfl
  obtain ⟨B, hB⟩ := ofChk chk__law_pane
  have b : Binds K fd [Str.ofString "_law_plan_here", Str.ofString "_law_name"] [] := FunD.bindsN Fd fun _ _ _ _ _ _ us hl => match us, hl with | [_, _], _ => rfl
  exact ⟨_, fd, [Str.ofString "_law_plan_here", Str.ofString "_law_name"], fn_ok (cf := cf__law_pane) Fd ⟨rfl, rfl, rfl, by decide +kernel, rfl, by decide +kernel, by decide +kernel⟩ (by decide) (fun _ => rfl) B hB ⟨(fun _ h => absurd h List.not_mem_nil), fun x F m => (show ∀ p ∈ ([] : List (Str × Fn)), FnK PySem.Challenge.pw_keypanes_k42_pressed w K mg base 1 p.1 p.2 from (fun _ h => absurd h List.not_mem_nil)) (x, F) m, fun x d m => (show ∀ p ∈ ([] : List (Str × D)), ConK K mg p.1 p.2 from (fun _ h => absurd h List.not_mem_nil)) (x, d) m, (fun _ h => absurd h List.not_mem_nil)⟩, Y.glo 45 rfl, Fd.kp, b⟩
theorem ok__law_line (Y : Hd w K h mg) : FnK PySem.Challenge.pw_keypanes_k42_pressed w K mg base 2 "_law_line" F__law_line := by
  obtain ⟨fd, Fd⟩ := Y.c.t.d.def_ 46 (d := d__law_line) rfl
  obtain ⟨B, hB⟩ := ofChk chk__law_line
  have b : Binds K fd [Str.ofString "_law_plan_here", Str.ofString "_law_name"] [] := FunD.bindsN Fd fun _ _ _ _ _ _ us hl => match us, hl with | [_, _], _ => rfl
  exact ⟨_, fd, [Str.ofString "_law_plan_here", Str.ofString "_law_name"], fn_ok (cf := cf__law_line) Fd ⟨rfl, rfl, rfl, by decide +kernel, rfl, by decide +kernel, by decide +kernel⟩ (by decide) (fun _ => rfl) B hB ⟨(List.forall_mem_cons.mpr ⟨Y.free 61 rfl, fun _ h => absurd h List.not_mem_nil⟩), fun x F m => (show ∀ p ∈ ([] : List (Str × Fn)), FnK PySem.Challenge.pw_keypanes_k42_pressed w K mg base 1 p.1 p.2 from (fun _ h => absurd h List.not_mem_nil)) (x, F) m, fun x d m => (show ∀ p ∈ ([] : List (Str × D)), ConK K mg p.1 p.2 from (fun _ h => absurd h List.not_mem_nil)) (x, d) m, (fun _ h => absurd h List.not_mem_nil)⟩, Y.glo 46 rfl, Fd.kp, b⟩
theorem ok__law_living (Y : Hd w K h mg) : FnK PySem.Challenge.pw_keypanes_k42_pressed w K mg base 3 "_law_living" F__law_living := by
  obtain ⟨fd, Fd⟩ := Y.c.t.d.def_ 47 (d := d__law_living) rfl
  obtain ⟨B, hB⟩ := ofChk chk__law_living
  have b : Binds K fd [Str.ofString "_law_plan_here"] [] := FunD.bindsN Fd fun _ _ _ _ _ _ us hl => match us, hl with | [_], _ => rfl
  exact ⟨_, fd, [Str.ofString "_law_plan_here"], fn_ok (cf := cf__law_living) Fd ⟨rfl, rfl, rfl, by decide +kernel, rfl, by decide +kernel, by decide +kernel⟩ (by decide) (fun _ => rfl) B hB ⟨(List.forall_mem_cons.mpr ⟨Y.free 61 rfl, fun _ h => absurd h List.not_mem_nil⟩), fun x F m => (show ∀ p ∈ ([(Str.ofString "_law_line", F__law_line)] : List (Str × Fn)), FnK PySem.Challenge.pw_keypanes_k42_pressed w K mg base 2 p.1 p.2 from (List.forall_mem_cons.mpr ⟨(ok__law_line Y).mono (by decide), fun _ h => absurd h List.not_mem_nil⟩)) (x, F) m, fun x d m => (show ∀ p ∈ ([] : List (Str × D)), ConK K mg p.1 p.2 from (fun _ h => absurd h List.not_mem_nil)) (x, d) m, (fun _ h => absurd h List.not_mem_nil)⟩, Y.glo 47 rfl, Fd.kp, b⟩
theorem ok__law_reign (Y : Hd w K h mg) : FnK PySem.Challenge.pw_keypanes_k42_pressed w K mg base 4 "_law_reign" F__law_reign := by
  obtain ⟨fd, Fd⟩ := Y.c.t.d.def_ 48 (d := d__law_reign) rfl
  obtain ⟨B, hB⟩ := ofChk chk__law_reign
  have b : Binds K fd [Str.ofString "_law_plan_here"] [] := FunD.bindsN Fd fun _ _ _ _ _ _ us hl => match us, hl with | [_], _ => rfl
  exact ⟨_, fd, [Str.ofString "_law_plan_here"], fn_ok (cf := cf__law_reign) Fd ⟨rfl, rfl, rfl, by decide +kernel, rfl, by decide +kernel, by decide +kernel⟩ (by decide) (fun _ => rfl) B hB ⟨(List.forall_mem_cons.mpr ⟨Y.free 66 rfl, fun _ h => absurd h List.not_mem_nil⟩), fun x F m => (show ∀ p ∈ ([(Str.ofString "_law_living", F__law_living)] : List (Str × Fn)), FnK PySem.Challenge.pw_keypanes_k42_pressed w K mg base 3 p.1 p.2 from (List.forall_mem_cons.mpr ⟨(ok__law_living Y).mono (by decide), fun _ h => absurd h List.not_mem_nil⟩)) (x, F) m, fun x d m => (show ∀ p ∈ ([] : List (Str × D)), ConK K mg p.1 p.2 from (fun _ h => absurd h List.not_mem_nil)) (x, d) m, (fun _ h => absurd h List.not_mem_nil)⟩, Y.glo 48 rfl, Fd.kp, b⟩
theorem ok__law_open (Y : Hd w K h mg) : FnK PySem.Challenge.pw_keypanes_k42_pressed w K mg base 5 "_law_open" F__law_open := by
  obtain ⟨fd, Fd⟩ := Y.c.t.d.def_ 49 (d := d__law_open) rfl
  obtain ⟨B, hB⟩ := ofChk chk__law_open
  have b : Binds K fd [Str.ofString "_law_plan_here"] [] := FunD.bindsN Fd fun _ _ _ _ _ _ us hl => match us, hl with | [_], _ => rfl
  exact ⟨_, fd, [Str.ofString "_law_plan_here"], fn_ok (cf := cf__law_open) Fd ⟨rfl, rfl, rfl, by decide +kernel, rfl, by decide +kernel, by decide +kernel⟩ (by decide) (fun _ => rfl) B hB ⟨(fun _ h => absurd h List.not_mem_nil), fun x F m => (show ∀ p ∈ ([(Str.ofString "_law_reign", F__law_reign), (Str.ofString "_law_line", F__law_line), (Str.ofString "_law_living", F__law_living)] : List (Str × Fn)), FnK PySem.Challenge.pw_keypanes_k42_pressed w K mg base 4 p.1 p.2 from (List.forall_mem_cons.mpr ⟨(ok__law_reign Y).mono (by decide), List.forall_mem_cons.mpr ⟨(ok__law_line Y).mono (by decide), List.forall_mem_cons.mpr ⟨(ok__law_living Y).mono (by decide), fun _ h => absurd h List.not_mem_nil⟩⟩⟩)) (x, F) m, fun x d m => (show ∀ p ∈ ([] : List (Str × D)), ConK K mg p.1 p.2 from (fun _ h => absurd h List.not_mem_nil)) (x, d) m, (fun _ h => absurd h List.not_mem_nil)⟩, Y.glo 49 rfl, Fd.kp, b⟩
theorem ok__law_goods (Y : Hd w K h mg) : FnK PySem.Challenge.pw_keypanes_k42_pressed w K mg base 6 "_law_goods" F__law_goods := by
  obtain ⟨fd, Fd⟩ := Y.c.t.d.def_ 50 (d := d__law_goods) rfl
  obtain ⟨B, hB⟩ := ofChk chk__law_goods
  have b : Binds K fd [Str.ofString "_law_plan_here"] [] := FunD.bindsN Fd fun _ _ _ _ _ _ us hl => match us, hl with | [_], _ => rfl
  exact ⟨_, fd, [Str.ofString "_law_plan_here"], fn_ok (cf := cf__law_goods) Fd ⟨rfl, rfl, rfl, by decide +kernel, rfl, by decide +kernel, by decide +kernel⟩ (by decide) (fun _ => rfl) B hB ⟨(fun _ h => absurd h List.not_mem_nil), fun x F m => (show ∀ p ∈ ([(Str.ofString "_law_reign", F__law_reign), (Str.ofString "_law_open", F__law_open)] : List (Str × Fn)), FnK PySem.Challenge.pw_keypanes_k42_pressed w K mg base 5 p.1 p.2 from (List.forall_mem_cons.mpr ⟨(ok__law_reign Y).mono (by decide), List.forall_mem_cons.mpr ⟨(ok__law_open Y).mono (by decide), fun _ h => absurd h List.not_mem_nil⟩⟩)) (x, F) m, fun x d m => (show ∀ p ∈ ([] : List (Str × D)), ConK K mg p.1 p.2 from (fun _ h => absurd h List.not_mem_nil)) (x, d) m, (fun _ h => absurd h List.not_mem_nil)⟩, Y.glo 50 rfl, Fd.kp, b⟩
theorem ok__law_can (Y : Hd w K h mg) : FnK PySem.Challenge.pw_keypanes_k42_pressed w K mg base 7 "_law_can" F__law_can := by
  obtain ⟨fd, Fd⟩ := Y.c.t.d.def_ 51 (d := d__law_can) rfl
  obtain ⟨B, hB⟩ := ofChk chk__law_can
  have b : Binds K fd [Str.ofString "_law_plan_here", Str.ofString "_law_name"] [] := FunD.bindsN Fd fun _ _ _ _ _ _ us hl => match us, hl with | [_, _], _ => rfl
  exact ⟨_, fd, [Str.ofString "_law_plan_here", Str.ofString "_law_name"], fn_ok (cf := cf__law_can) Fd ⟨rfl, rfl, rfl, by decide +kernel, rfl, by decide +kernel, by decide +kernel⟩ (by decide) (fun _ => rfl) B hB ⟨(fun _ h => absurd h List.not_mem_nil), fun x F m => (show ∀ p ∈ ([(Str.ofString "_law_goods", F__law_goods)] : List (Str × Fn)), FnK PySem.Challenge.pw_keypanes_k42_pressed w K mg base 6 p.1 p.2 from (List.forall_mem_cons.mpr ⟨(ok__law_goods Y).mono (by decide), fun _ h => absurd h List.not_mem_nil⟩)) (x, F) m, fun x d m => (show ∀ p ∈ ([] : List (Str × D)), ConK K mg p.1 p.2 from (fun _ h => absurd h List.not_mem_nil)) (x, d) m, (fun _ h => absurd h List.not_mem_nil)⟩, Y.glo 51 rfl, Fd.kp, b⟩
theorem ok__law_row (Y : Hd w K h mg) : FnK PySem.Challenge.pw_keypanes_k42_pressed w K mg base 7 "_law_row" F__law_row := by
  obtain ⟨fd, Fd⟩ := Y.c.t.d.def_ 52 (d := d__law_row) rfl
  obtain ⟨B, hB⟩ := ofChk chk__law_row
  have b : Binds K fd [Str.ofString "_law_pen_here", Str.ofString "_law_plan_here"] [] := FunD.bindsN Fd fun _ _ _ _ _ _ us hl => match us, hl with | [_, _], _ => rfl
  exact ⟨_, fd, [Str.ofString "_law_pen_here", Str.ofString "_law_plan_here"], fn_ok (cf := cf__law_row) Fd ⟨rfl, rfl, rfl, by decide +kernel, rfl, by decide +kernel, by decide +kernel⟩ (by decide) (fun _ => rfl) B hB ⟨(List.forall_mem_cons.mpr ⟨Y.free 64 rfl, List.forall_mem_cons.mpr ⟨Y.free 72 rfl, List.forall_mem_cons.mpr ⟨Y.free 68 rfl, fun _ h => absurd h List.not_mem_nil⟩⟩⟩), fun x F m => (show ∀ p ∈ ([(Str.ofString "_law_draw", F__law_draw), (Str.ofString "_law_goods", F__law_goods)] : List (Str × Fn)), FnK PySem.Challenge.pw_keypanes_k42_pressed w K mg base 6 p.1 p.2 from (List.forall_mem_cons.mpr ⟨(ok__law_draw Y).mono (by decide), List.forall_mem_cons.mpr ⟨(ok__law_goods Y).mono (by decide), fun _ h => absurd h List.not_mem_nil⟩⟩)) (x, F) m, fun x d m => (show ∀ p ∈ ([] : List (Str × D)), ConK K mg p.1 p.2 from (fun _ h => absurd h List.not_mem_nil)) (x, d) m, (fun _ h => absurd h List.not_mem_nil)⟩, Y.glo 52 rfl, Fd.kp, b⟩
theorem ok__law_span (Y : Hd w K h mg) : FnK PySem.Challenge.pw_keypanes_k42_pressed w K mg base 3 "_law_span" F__law_span := by
  obtain ⟨fd, Fd⟩ := Y.c.t.d.def_ 53 (d := d__law_span) rfl
  obtain ⟨B, hB⟩ := ofChk chk__law_span
  have b : Binds K fd [Str.ofString "_law_plan_here", Str.ofString "_law_name", Str.ofString "_law_side"] [] := FunD.bindsN Fd fun _ _ _ _ _ _ us hl => match us, hl with | [_, _, _], _ => rfl
  exact ⟨_, fd, [Str.ofString "_law_plan_here", Str.ofString "_law_name", Str.ofString "_law_side"], fn_ok (cf := cf__law_span) Fd ⟨rfl, rfl, rfl, by decide +kernel, rfl, by decide +kernel, by decide +kernel⟩ (by decide) (fun _ => rfl) B hB ⟨(List.forall_mem_cons.mpr ⟨Y.free 66 rfl, List.forall_mem_cons.mpr ⟨Y.free 67 rfl, fun _ h => absurd h List.not_mem_nil⟩⟩), fun x F m => (show ∀ p ∈ ([(Str.ofString "_law_pane", F__law_pane), (Str.ofString "_law_line", F__law_line)] : List (Str × Fn)), FnK PySem.Challenge.pw_keypanes_k42_pressed w K mg base 2 p.1 p.2 from (List.forall_mem_cons.mpr ⟨(ok__law_pane Y).mono (by decide), List.forall_mem_cons.mpr ⟨(ok__law_line Y).mono (by decide), fun _ h => absurd h List.not_mem_nil⟩⟩)) (x, F) m, fun x d m => (show ∀ p ∈ ([] : List (Str × D)), ConK K mg p.1 p.2 from (fun _ h => absurd h List.not_mem_nil)) (x, d) m, (fun _ h => absurd h List.not_mem_nil)⟩, Y.glo 53 rfl, Fd.kp, b⟩
theorem ok__law_has (Y : Hd w K h mg) : FnK PySem.Challenge.pw_keypanes_k42_pressed w K mg base 4 "_law_has" F__law_has := by
  obtain ⟨fd, Fd⟩ := Y.c.t.d.def_ 54 (d := d__law_has) rfl
  obtain ⟨B, hB⟩ := ofChk chk__law_has
  have b : Binds K fd [Str.ofString "_law_plan_here", Str.ofString "_law_name", Str.ofString "_law_x", Str.ofString "_law_y"] [] := FunD.bindsN Fd fun _ _ _ _ _ _ us hl => match us, hl with | [_, _, _, _], _ => rfl
  exact ⟨_, fd, [Str.ofString "_law_plan_here", Str.ofString "_law_name", Str.ofString "_law_x", Str.ofString "_law_y"], fn_ok (cf := cf__law_has) Fd ⟨rfl, rfl, rfl, by decide +kernel, rfl, by decide +kernel, by decide +kernel⟩ (by decide) (fun _ => rfl) B hB ⟨(fun _ h => absurd h List.not_mem_nil), fun x F m => (show ∀ p ∈ ([(Str.ofString "_law_span", F__law_span)] : List (Str × Fn)), FnK PySem.Challenge.pw_keypanes_k42_pressed w K mg base 3 p.1 p.2 from (List.forall_mem_cons.mpr ⟨(ok__law_span Y).mono (by decide), fun _ h => absurd h List.not_mem_nil⟩)) (x, F) m, fun x d m => (show ∀ p ∈ ([] : List (Str × D)), ConK K mg p.1 p.2 from (fun _ h => absurd h List.not_mem_nil)) (x, d) m, (fun _ h => absurd h List.not_mem_nil)⟩, Y.glo 54 rfl, Fd.kp, b⟩
theorem ok__law_at (Y : Hd w K h mg) : FnK PySem.Challenge.pw_keypanes_k42_pressed w K mg base 5 "_law_at" F__law_at := by
  obtain ⟨fd, Fd⟩ := Y.c.t.d.def_ 55 (d := d__law_at) rfl
  obtain ⟨B, hB⟩ := ofChk chk__law_at
  have b : Binds K fd [Str.ofString "_law_plan_here", Str.ofString "_law_x", Str.ofString "_law_y"] [] := FunD.bindsN Fd fun _ _ _ _ _ _ us hl => match us, hl with | [_, _, _], _ => rfl
  exact ⟨_, fd, [Str.ofString "_law_plan_here", Str.ofString "_law_x", Str.ofString "_law_y"], fn_ok (cf := cf__law_at) Fd ⟨rfl, rfl, rfl, by decide +kernel, rfl, by decide +kernel, by decide +kernel⟩ (by decide) (fun _ => rfl) B hB ⟨(List.forall_mem_cons.mpr ⟨Y.free 70 rfl, fun _ h => absurd h List.not_mem_nil⟩), fun x F m => (show ∀ p ∈ ([(Str.ofString "_law_has", F__law_has)] : List (Str × Fn)), FnK PySem.Challenge.pw_keypanes_k42_pressed w K mg base 4 p.1 p.2 from (List.forall_mem_cons.mpr ⟨(ok__law_has Y).mono (by decide), fun _ h => absurd h List.not_mem_nil⟩)) (x, F) m, fun x d m => (show ∀ p ∈ ([] : List (Str × D)), ConK K mg p.1 p.2 from (fun _ h => absurd h List.not_mem_nil)) (x, d) m, (fun _ h => absurd h List.not_mem_nil)⟩, Y.glo 55 rfl, Fd.kp, b⟩
theorem ok__law_point (Y : Hd w K h mg) : FnK PySem.Challenge.pw_keypanes_k42_pressed w K mg base 4 "_law_point" F__law_point := by
  obtain ⟨fd, Fd⟩ := Y.c.t.d.def_ 56 (d := d__law_point) rfl
  obtain ⟨B, hB⟩ := ofChk chk__law_point
  have b : Binds K fd [Str.ofString "_law_pen_here", Str.ofString "_law_plan_here"] [] := FunD.bindsN Fd fun _ _ _ _ _ _ us hl => match us, hl with | [_, _], _ => rfl
  exact ⟨_, fd, [Str.ofString "_law_pen_here", Str.ofString "_law_plan_here"], fn_ok (cf := cf__law_point) Fd ⟨rfl, rfl, rfl, by decide +kernel, rfl, by decide +kernel, by decide +kernel⟩ (by decide) (fun _ => rfl) B hB ⟨(List.forall_mem_cons.mpr ⟨Y.free 64 rfl, fun _ h => absurd h List.not_mem_nil⟩), fun x F m => (show ∀ p ∈ ([(Str.ofString "_law_draw", F__law_draw), (Str.ofString "_law_span", F__law_span)] : List (Str × Fn)), FnK PySem.Challenge.pw_keypanes_k42_pressed w K mg base 3 p.1 p.2 from (List.forall_mem_cons.mpr ⟨(ok__law_draw Y).mono (by decide), List.forall_mem_cons.mpr ⟨(ok__law_span Y).mono (by decide), fun _ h => absurd h List.not_mem_nil⟩⟩)) (x, F) m, fun x d m => (show ∀ p ∈ ([] : List (Str × D)), ConK K mg p.1 p.2 from (fun _ h => absurd h List.not_mem_nil)) (x, d) m, (fun _ h => absurd h List.not_mem_nil)⟩, Y.glo 56 rfl, Fd.kp, b⟩
theorem ok__law_due (Y : Hd w K h mg) : FnK PySem.Challenge.pw_keypanes_k42_pressed w K mg base 8 "_law_due" F__law_due := by
  obtain ⟨fd, Fd⟩ := Y.c.t.d.def_ 57 (d := d__law_due) rfl
  obtain ⟨B, hB⟩ := ofChk chk__law_due
  have b : Binds K fd [Str.ofString "_law_plan_here", Str.ofString "_law_row_here", Str.ofString "_law_x", Str.ofString "_law_y"] [] := FunD.bindsN Fd fun _ _ _ _ _ _ us hl => match us, hl with | [_, _, _, _], _ => rfl
  exact ⟨_, fd, [Str.ofString "_law_plan_here", Str.ofString "_law_row_here", Str.ofString "_law_x", Str.ofString "_law_y"], fn_ok (cf := cf__law_due) Fd ⟨rfl, rfl, rfl, by decide +kernel, rfl, by decide +kernel, by decide +kernel⟩ (by decide) (fun _ => rfl) B hB ⟨(List.forall_mem_cons.mpr ⟨Y.free 72 rfl, fun _ h => absurd h List.not_mem_nil⟩), fun x F m => (show ∀ p ∈ ([(Str.ofString "_law_at", F__law_at), (Str.ofString "_law_can", F__law_can), (Str.ofString "_law_line", F__law_line)] : List (Str × Fn)), FnK PySem.Challenge.pw_keypanes_k42_pressed w K mg base 7 p.1 p.2 from (List.forall_mem_cons.mpr ⟨(ok__law_at Y).mono (by decide), List.forall_mem_cons.mpr ⟨(ok__law_can Y).mono (by decide), List.forall_mem_cons.mpr ⟨(ok__law_line Y).mono (by decide), fun _ h => absurd h List.not_mem_nil⟩⟩⟩)) (x, F) m, fun x d m => (show ∀ p ∈ ([] : List (Str × D)), ConK K mg p.1 p.2 from (fun _ h => absurd h List.not_mem_nil)) (x, d) m, (fun _ h => absurd h List.not_mem_nil)⟩, Y.glo 57 rfl, Fd.kp, b⟩
theorem ok_law (Y : Hd w K h mg) : FnK PySem.Challenge.pw_keypanes_k42_pressed w K mg base 11 "law" F_law := by
  obtain ⟨fd, Fd⟩ := Y.c.t.d.def_ 58 (d := d_law) rfl
  obtain ⟨B, hB⟩ := ofChk chk_law
  have b : Binds K fd [Str.ofString "_law_script"] [] := FunD.bindsN Fd fun _ _ _ _ _ _ us hl => match us, hl with | [_], _ => rfl
  exact ⟨_, fd, [Str.ofString "_law_script"], fn_ok (cf := cf_law) Fd ⟨rfl, rfl, rfl, by decide +kernel, rfl, by decide +kernel, by decide +kernel⟩ (by decide) (fun _ => rfl) B hB ⟨(List.forall_mem_cons.mpr ⟨Y.free 68 rfl, fun _ h => absurd h List.not_mem_nil⟩), fun x F m => (show ∀ p ∈ ([(Str.ofString "_law_pen", F__law_pen), (Str.ofString "_law_plan", F__law_plan), (Str.ofString "_law_row", F__law_row), (Str.ofString "_law_point", F__law_point), (Str.ofString "_law_same", (F__law_same 6)), (Str.ofString "pressed", F_pressed), (Str.ofString "_law_due", F__law_due), (Str.ofString "_law_cell", F__law_cell)] : List (Str × Fn)), FnK PySem.Challenge.pw_keypanes_k42_pressed w K mg base 10 p.1 p.2 from (List.forall_mem_cons.mpr ⟨(ok__law_pen Y).mono (by decide), List.forall_mem_cons.mpr ⟨(ok__law_plan Y).mono (by decide), List.forall_mem_cons.mpr ⟨(ok__law_row Y).mono (by decide), List.forall_mem_cons.mpr ⟨(ok__law_point Y).mono (by decide), List.forall_mem_cons.mpr ⟨(ok__law_same Y 6).mono (by decide), List.forall_mem_cons.mpr ⟨(ok_pressed Y).mono (by decide), List.forall_mem_cons.mpr ⟨(ok__law_due Y).mono (by decide), List.forall_mem_cons.mpr ⟨(ok__law_cell Y).mono (by decide), fun _ h => absurd h List.not_mem_nil⟩⟩⟩⟩⟩⟩⟩⟩)) (x, F) m, fun x d m => (show ∀ p ∈ ([] : List (Str × D)), ConK K mg p.1 p.2 from (fun _ h => absurd h List.not_mem_nil)) (x, d) m, (fun _ h => absurd h List.not_mem_nil)⟩, Y.glo 58 rfl, Fd.kp, b⟩
theorem law_ok (Y : Hd w K h mg) {fd : FuncData} (Fd : FunD K d_law.name d_law.qual d_law.params d_law.body d_law.scope (d_law.dvs K) (d_law.kws K) (He.fAd K d_law.at_) fd) : FnOk PySem.Challenge.pw_keypanes_k42_pressed w K mg base (L2.CX PySem.Challenge.pw_keypanes_k42_pressed w) 11 (He.ga K "law") fd [Str.ofString "_law_script"] (spD K F_law) := by
  obtain ⟨B, hB⟩ := ofChk chk_law
  exact fn_ok (cf := cf_law) Fd ⟨rfl, rfl, rfl, by decide +kernel, rfl, by decide +kernel, by decide +kernel⟩ (by decide) (fun _ => rfl) B hB ⟨(List.forall_mem_cons.mpr ⟨Y.free 68 rfl, fun _ h => absurd h List.not_mem_nil⟩), fun x F m => (show ∀ p ∈ ([(Str.ofString "_law_pen", F__law_pen), (Str.ofString "_law_plan", F__law_plan), (Str.ofString "_law_row", F__law_row), (Str.ofString "_law_point", F__law_point), (Str.ofString "_law_same", (F__law_same 6)), (Str.ofString "pressed", F_pressed), (Str.ofString "_law_due", F__law_due), (Str.ofString "_law_cell", F__law_cell)] : List (Str × Fn)), FnK PySem.Challenge.pw_keypanes_k42_pressed w K mg base 10 p.1 p.2 from (List.forall_mem_cons.mpr ⟨(ok__law_pen Y).mono (by decide), List.forall_mem_cons.mpr ⟨(ok__law_plan Y).mono (by decide), List.forall_mem_cons.mpr ⟨(ok__law_row Y).mono (by decide), List.forall_mem_cons.mpr ⟨(ok__law_point Y).mono (by decide), List.forall_mem_cons.mpr ⟨(ok__law_same Y 6).mono (by decide), List.forall_mem_cons.mpr ⟨(ok_pressed Y).mono (by decide), List.forall_mem_cons.mpr ⟨(ok__law_due Y).mono (by decide), List.forall_mem_cons.mpr ⟨(ok__law_cell Y).mono (by decide), fun _ h => absurd h List.not_mem_nil⟩⟩⟩⟩⟩⟩⟩⟩)) (x, F) m, fun x d m => (show ∀ p ∈ ([] : List (Str × D)), ConK K mg p.1 p.2 from (fun _ h => absurd h List.not_mem_nil)) (x, d) m, (fun _ h => absurd h List.not_mem_nil)⟩
end
/-! ### the head -/
abbrev R : PySem.W.OpenRow := PySem.W.OpenLaw.row PySem.Challenge.rw_keypanes_k42_pressed
abbrev hk : PySem.W.Hook := He.hookX 4 faL fnL [] [] exB
def ob (s : PySem.W.SharedT) : He.AlX := He.obsX 4 faL fnL [] [] exB (HandSHeadRun.getT s)
theorem ob_eq (s : PySem.W.SharedT) : ob s = hk.obs s.abs := He.obsX_eq (HandSHeadRun.getT_eq s)
def loose : List Str := (["KeysError", "NoPlan", "NoNumber", "NoRow", "MOST_PANES", "MOST_KEYS", "FAR", "MARKS", "WAYS", "KEY_SIGNS", "is_number", "is_name", "is_box", "is_key", "is_way", "is_mark", "is_deed", "rises", "are_marks", "is_known", "are_keys", "is_pane", "is_ground", "is_rooted", "fits_in", "is_plan", "see_plan", "has_name", "the_pane", "going_up"] : List Str) ++ (["is_dead", "alive", "top_sheet", "opens", "takes_keys", "FAR_POINT", "placed", "has_point", "uppermost", "found_at", "see_point", "is_row_of", "see_row", "moved_to", "pressed", "_law_cell", "_law_pen", "_law_draw", "_law_same", "_law_names", "_law_ups", "_law_marks", "_law_box", "_law_deed", "_law_keys", "_law_plan", "_law_pane", "_law_line", "_law_living", "_law_reign"] : List Str) ++ (["_law_open", "_law_goods", "_law_can", "_law_row", "_law_span", "_law_has", "_law_at", "_law_point", "_law_due"] : List Str)
theorem run (w : World) : HandSHeadRun.RunEq R (PySem.W.view R.prog [77]) hk ob 4000 loose w := by
  intro os
  kernel_rfl
theorem walk_ofW {l : PySem.W.OpenLaw} {n k : Nat} {q : Program} {lo : List Str} {XP : (Str → Option Value) → Heap → Prop} {YP : World → Heap → Prop} {d : DefRec} {CX : World → CXT} {x : Str}
    (hn : l.most = some n) (hn2 : n ≤ sizeLine) (hdf : d.params.defaults = []) (hr : Room k callerA)
    (F : ∀ (w : World) (mg : Str → Option Value) (fa : Addr) (h : Heap), YP w h → h.Ns mainGlobals mg → mg d.name = some (.ref fa) →
      ∃ (K : PySem.W.Frag) (fd : FuncData) (sp : Sp), K.In h ∧ (∀ (s : Shared) (u : Value), BindsTo s fd ⟨[u], []⟩ [(x, u)]) ∧
        (∀ (H : Hp) (a : Addr) (ns : List Int), ns.length ≤ n → Only H → SqL K H a (ns.map V.int) → sp [.ref a] H (fun v _ => v = .bl true) fun _ _ _ => False) ∧
        ∀ base : Heap, K.In base → base.Ns mainGlobals mg → FnOk l.prog w K mg base (CX w) k fa fd [x] sp)
    (hCX : ∀ (w : World) (H : Hp) (s : Shared) (e : Value) (s' : Shared), CX w [] H s (fun _ _ _ => False) e s' → False) :
    PySem.W.WalkO q lo XP YP l.row.toRowW d [] (fun f vs => PySem.call f vs) := by
  refine Att.attach_call hn hdf fun w s₀ s₁ mg mb fa o pm cd doc a vs ns G Y ho hd hcd hmg hobj hints hlen hg => ?_
  obtain ⟨K, fd, sp, KX, hb, hsp, hF⟩ := F w mg fa _ Y G.T.g hmg
  exact law_call KX G.T.g G.T.b G.T.builtins G.T.nolimit hg hobj hints (Nat.le_trans hlen hn2) hr hF hb (fun H hO hS => hsp H a ns hlen hO hS) fun H e s' => hCX w H s₁ e s'
theorem script_reps {K : PySem.W.Frag} {ι : List Addr} {H : Hp} {S : Addr → Prop} : ∀ ns : List Int, Reps K ι H S (ns.map V.int) (ns.map D.int)
  | [] => .nil
  | n :: ns => .cons (.int n) (script_reps ns)
theorem law_sp {K : PySem.W.Frag} {H : Hp} {a : Addr} {ns : List Int} (hl : ns.length ≤ 63) (h : SqL K H a (ns.map V.int)) (hx : exB K = true) (q : ∃ st, F_law [] [.lst (ns.map D.int)] = .ok (.bl true) st) : spD K F_law [.ref a] H (fun v _ => v = .bl true) fun _ _ _ => False := by
  obtain ⟨st, e⟩ := q
  rcases h with h | ⟨o, its, n, h1, h2, _⟩
  · refine ⟨[.lst (ns.map D.int)], [], [], ⟨rfl, List.nodup_nil, fun n o a h => by cases h⟩, .cons (.lst h (fun z => by cases z) ?_ (script_reps ns)) .nil, ?_⟩
    · rw [List.length_map]
      have : LINE = 16777216 := rfl
      omega
    · rw [e]
      intro v H' ι' s r
      cases r
      rfl
  · exact (no_lists hx h1 h2).elim
end Lw
open PySem PySem.W PySem.Calls PyProof.Rows
theorem holds_of (law_true : ∀ ns : List Int, ns.length ≤ 63 → ∃ st, Lw.F_law [] [.lst (ns.map Dl.D.int)] = .ok (.bl true) st) : PySem.Challenge.rw_keypanes_k42_pressed.Holds := by
  w_on; o_law
  refine HandSHeadRun.head_any (r := OpenLaw.row PySem.Challenge.rw_keypanes_k42_pressed) (q := view (OpenLaw.row PySem.Challenge.rw_keypanes_k42_pressed).prog [77]) (H := Lw.hk) (ob := Lw.ob) (M := 4000) (loose := Lw.loose) (d := HandSHeadRun.topDef (OpenLaw.row PySem.Challenge.rw_keypanes_k42_pressed).prog 77) (kwd := []) Lw.ob_eq
    (by kernel_rfl) (fun s => by kernel_rfl) Lw.run (by kernel_rfl) (by kernel_rfl) (by kernel_rfl) (by rfl) (by first | assumption | decide +kernel) (by decide +kernel) ⟨rfl, rfl, rfl, rfl, rfl, by decide +kernel⟩ ?hw ?hc
  case hw => w_witness2
  case hc =>
    refine Lw.walk_ofW (l := PySem.Challenge.rw_keypanes_k42_pressed) (n := 63) (k := 11) (x := "_law_script") (CX := fun w => L2.CX PySem.Challenge.pw_keypanes_k42_pressed w) rfl (by decide) (by kernel_rfl) ⟨rfl, by decide, by decide⟩ ?F ?C
    case F =>
      intro w mg fa h Y G hmg0
      obtain ⟨K, KX, c⟩ := Y
      have hmg : mg ("law" : PySem.Str) = some (.ref fa) := by
        have e : (HandSHeadRun.topDef (OpenLaw.row PySem.Challenge.rw_keypanes_k42_pressed).prog 77).name = ("law" : PySem.Str) := by kernel_rfl
        rw [← e]
        exact hmg0
      have Y : Lw.Hd w K h mg := ⟨KX, G, c⟩
      obtain ⟨fd, Fd⟩ := Y.c.t.d.def_ 58 (d := Lw.d_law) rfl
      have b := L2.FunD.bindsA (ps := ["_law_script"]) Fd fun _ _ _ _ _ _ us hl => match us, hl with | [_], _ => rfl
      have e := hmg.symm.trans (Y.glo (x := "law") 58 rfl)
      cases e
      refine ⟨K, fd, Dl.spD K Lw.F_law, KX, fun s v => b s [v] rfl, fun H a ns hl _ hS => Lw.law_sp hl hS Y.c.more (law_true ns hl), fun base _ _ => ?_⟩
      exact Lw.law_ok Y Fd
    case C =>
      intro w H s e s' h
      obtain ⟨_, _, _, _, _, _, _, _, _, _, _, _, z⟩ := h
      exact z.elim
end
section
set_option maxRecDepth 100000
set_option linter.all false
set_option Elab.async false
set_option maxHeartbeats 1000000
/-! Pu0: how a meaning is reckoned: the rules by which simp walks. Plain Lean. -/
namespace Dl
open PySem
@[simp] theorem stm_ok {α : Type} (a : α) (st : Store) (f : α → Store → SOut) : (Out.ok a st).stm f = f a st := rfl
@[simp] theorem stm_ex {α : Type} (a : Exn) (st : Store) (f : α → Store → SOut) : (Out.ex a st : Out α).stm f = .ex a st := rfl
@[simp] theorem thn_nx (st : Store) (env : En) (f : Sv) : (SOut.nx st env).thn f = f st env := rfl
@[simp] theorem thn_rt (d : D) (st : Store) (f : Sv) : (SOut.rt d st).thn f = .rt d st := rfl
@[simp] theorem thn_ex (d : Exn) (st : Store) (f : Sv) : (SOut.ex d st).thn f = .ex d st := rfl
section
variable (st : Store) (env : En) (A B C : Ev) (T U : Tv) (R : Av) (S S2 : Sv)
@[simp] theorem x_C (d : D) : eC d st env = .ok d st := rfl
@[simp] theorem x_Var (i : Nat) : eVar i st env = match env.getD i .un with
  | .vl d => .ok d st
  | .ow d => .ok d st
  | .un => .bad := rfl
@[simp] theorem x_VarC (i : Nat) : eVarC i st env = match env.getD i .un with
  | .vl d => .ok d st
  | _ => .bad := rfl
@[simp] theorem x_un1 (f : D → Store → Out D) : un1 f A st env = (A st env).bind fun x st => f x st := rfl
@[simp] theorem x_bin2 (f : D → D → Store → Out D) : bin2 f A B st env = (A st env).bind fun x st => (B st env).bind fun y st => f x y st := rfl
@[simp] theorem x_Add : eAdd A B st env = (A st env).bind fun x st => (B st env).bind fun y st => dAdd x y st := rfl
@[simp] theorem x_Sub : eSub A B st env = (A st env).bind fun x st => (B st env).bind fun y st => dSub x y st := rfl
@[simp] theorem x_Mul : eMul A B st env = (A st env).bind fun x st => (B st env).bind fun y st => dMul x y st := rfl
@[simp] theorem x_Mod : eMod A B st env = (A st env).bind fun x st => (B st env).bind fun y st => dMod x y st := rfl
@[simp] theorem x_Fdiv : eFdiv A B st env = (A st env).bind fun x st => (B st env).bind fun y st => dFdiv x y st := rfl
@[simp] theorem x_Pow : ePow A B st env = (A st env).bind fun x st => (B st env).bind fun y st => dPow x y st := rfl
@[simp] theorem x_Neg : eNeg A st env = (A st env).bind fun x st => dNeg x st := rfl
@[simp] theorem x_Cm (c : Cm) : eCm c A B st env = (A st env).bind fun x st => (B st env).bind fun y st => (cmD c) x y st := rfl
@[simp] theorem x_Eq (n : Bool) : eEq n A B st env = (A st env).bind fun x st => (B st env).bind fun y st => (dEq n) x y st := rfl
@[simp] theorem x_In (n : Bool) : eIn n A B st env = (A st env).bind fun x st => (B st env).bind fun y st => (dIn n) x y st := rfl
@[simp] theorem x_IsN (n : Bool) : eIsN n A st env = (A st env).bind fun x st => (dIsN n) x st := rfl
@[simp] theorem x_Not : eNot A st env = (A st env).bind fun x st => dNot x st := rfl
@[simp] theorem x_Ix : eIx A B st env = (A st env).bind fun x st => (B st env).bind fun y st => dIx x y st := rfl
@[simp] theorem x_Rev : eRev A st env = (A st env).bind fun x st => dRev x st := rfl
@[simp] theorem x_Len : eLen A st env = (A st env).bind fun x st => dLen x st := rfl
@[simp] theorem x_All : eAll A st env = (A st env).bind fun x st => dAll x st := rfl
@[simp] theorem x_Max1 : eMax1 A st env = (A st env).bind fun x st => dMax1 x st := rfl
@[simp] theorem x_List : eList A st env = (A st env).bind fun x st => dList x st := rfl
@[simp] theorem x_Tuple : eTuple A st env = (A st env).bind fun x st => dTuple x st := rfl
@[simp] theorem x_Int : eInt A st env = (A st env).bind fun x st => dInt x st := rfl
@[simp] theorem x_Str : eStr A st env = (A st env).bind fun x st => dStr x st := rfl
@[simp] theorem x_Dict : eDict A st env = (A st env).bind fun x st => dDict x st := rfl
@[simp] theorem x_Sorted : eSorted A st env = (A st env).bind fun x st => dSorted x st := rfl
@[simp] theorem x_Isi (ts : List Ty) : eIsi ts A st env = (A st env).bind fun x st => (dIsi ts) x st := rfl
@[simp] theorem x_Imm : eImm A st env = (A st env).bind fun d st => if d.imm then .ok d st else .bad := rfl
@[simp] theorem x_And : eAnd A B st env = (A st env).bind fun x st => match x with
  | .bl true => B st env
  | .bl false => .ok (.bl false) st
  | _ => .bad := rfl
@[simp] theorem x_Or : eOr A B st env = (A st env).bind fun x st => match x.truth with
  | some true => .ok x st
  | some false => B st env
  | none => .bad := rfl
@[simp] theorem x_If : eIf T A B st env = (T st env).bind fun b st => if b = true then A st env else B st env := rfl
@[simp] theorem x_Nil : aNil st env = .ok [] st := rfl
@[simp] theorem x_Cons : aCons A R st env = (A st env).bind fun x st => (R st env).bind fun xs st => .ok (x :: xs) st := rfl
@[simp] theorem x_Tup : eTup R st env = (R st env).bind fun xs st => if xs.length ≤ LINE then .ok (.tup xs) st else .bad := rfl
@[simp] theorem x_Lst : eLst R st env = (R st env).bind fun xs st => if xs.length ≤ LINE then .ok (.lst xs) st else .bad := rfl
@[simp] theorem x_Call (F : Fn) : eCall F R st env = (R st env).bind fun xs st => F st xs := rfl
@[simp] theorem x_Dict0 : eDict0 st env = .ok (.dct []) st := rfl
@[simp] theorem x_Dict1 (k : Key) : eDict1 k A st env = (A st env).bind fun v st => .ok (.dct [(k, v)]) st := rfl
@[simp] theorem x_tVal : tVal A st env = (A st env).bind fun x st => match x with
  | .bl b => .ok b st
  | _ => .bad := rfl
@[simp] theorem x_tTruth : tTruth A st env = (A st env).bind fun x st => match x.truth with
  | some b => .ok b st
  | none => .bad := rfl
@[simp] theorem x_tNot : Dl.tNot T st env = (T st env).bind fun b st => .ok (!b) st := rfl
@[simp] theorem x_tAnd : Dl.tAnd T U st env = (T st env).bind fun b st => if b = true then U st env else .ok false st := rfl
@[simp] theorem x_tOr : Dl.tOr T U st env = (T st env).bind fun b st => if b = true then .ok true st else U st env := rfl
@[simp] theorem x_tTrue : tTrue st env = .ok true st := rfl
@[simp] theorem x_Pass : sPass st env = .nx st env := rfl
@[simp] theorem x_Seq : sSeq S S2 st env = (S st env).thn S2 := rfl
@[simp] theorem x_sIf : sIf T S S2 st env = (T st env).stm fun b st => if b = true then S st env else S2 st env := rfl
@[simp] theorem x_Ret : sRet A st env = (A st env).stm fun d st => .rt d st := rfl
@[simp] theorem x_RetVar (i : Nat) : sRetVar i st env = match env.getD i .un with
  | .ow d => .rt d st
  | .vl d => if d.imm then .rt d st else .bad
  | .un => .bad := rfl
@[simp] theorem x_Drop : sDrop A st env = (A st env).stm fun _ st => .nx st env := rfl
@[simp] theorem x_Set (i : Nat) : sSet i A st env = (A st env).stm fun d st => .nx st (env.set i (own d)) := rfl
@[simp] theorem x_Unpack (is : List Nat) : sUnpack is A st env = (A st env).stm fun d st => match (Tg.tup is).set d env with
  | some env => .nx st env
  | none => .bad := rfl
@[simp] theorem x_Never : sNever st env = .bad := rfl
@[simp] theorem x_Raise (c : Str) : sRaise c st env = .ex ⟨c, []⟩ st := rfl
theorem run_eq {n m : Nat} {B : Sv} {ds : List D} (h : ds.length = n) : runFn n m B st ds = match B st (ds.map Sl.vl ++ List.replicate m Sl.un) with
  | .nx st _ => .ok .non st
  | .rt d st => .ok d st
  | .ex e st => .ex e st
  | _ => .bad := by
  unfold runFn
  rw [if_pos h]
  all_goals (cases B st (ds.map Sl.vl ++ List.replicate m Sl.un) <;> rfl)
end
/-! ### == of plain values -/
theorem deq_of {x y : D} {p q : PyData} (h1 : x.py = some p) (h2 : y.py = some q) (h3 : SeqAt.shaped p = true) (h4 : SeqAt.shaped q = true) : deq x y = some (PyData.eqv p q) := by
  unfold deq
  rw [h1, h2]
  simp [h3, h4]
theorem sh_int (a : Int) : SeqAt.shaped (.int a) = true := by simp [SeqAt.shaped, PyData.canLay0, PyData.depth]
theorem sh_non : SeqAt.shaped .none = true := by simp [SeqAt.shaped, PyData.canLay0, PyData.depth]
theorem sh_bl (a : Bool) : SeqAt.shaped (.bool a) = true := by simp [SeqAt.shaped, PyData.canLay0, PyData.depth]
theorem sh_str {a : Str} (h : PyData.strOk a = true) : SeqAt.shaped (.str a) = true := by simp [SeqAt.shaped, PyData.canLay0, PyData.depth, h]
@[simp] theorem py_int (a : Int) : D.py (.int a) = some (.int a) := by simp [D.py]
@[simp] theorem py_non : D.py .non = some .none := by simp [D.py]
@[simp] theorem py_bl (a : Bool) : D.py (.bl a) = some (.bool a) := by simp [D.py]
@[simp] theorem py_str (a : Str) : D.py (.str a) = some (.str a) := by simp [D.py]
@[simp] theorem deq_ii (a b : Int) : deq (.int a) (.int b) = some (decide (a = b)) := by
  rw [deq_of (py_int a) (py_int b) (sh_int a) (sh_int b)]
  simp only [PyData.eqv]
  rfl
@[simp] theorem deq_ni (b : Int) : deq .non (.int b) = some false := by
  rw [deq_of py_non (py_int b) sh_non (sh_int b)]
  simp [PyData.eqv]
@[simp] theorem deq_in (b : Int) : deq (.int b) .non = some false := by
  rw [deq_of (py_int b) py_non (sh_int b) sh_non]
  simp [PyData.eqv]
@[simp] theorem deq_nn : deq .non .non = some true := by
  rw [deq_of py_non py_non sh_non sh_non]
  simp [PyData.eqv]
@[simp] theorem deq_bb (a b : Bool) : deq (.bl a) (.bl b) = some (a == b) := by
  rw [deq_of (py_bl a) (py_bl b) (sh_bl a) (sh_bl b)]
  simp [PyData.eqv]
theorem deq_ss {a b : Str} (h : PyData.strOk a = true) (h' : PyData.strOk b = true) : deq (.str a) (.str b) = some (decide (a = b)) := by
  rw [deq_of (py_str a) (py_str b) (sh_str h) (sh_str h')]
  by_cases e : a = b
  · simp [PyData.eqv, e]
  · have : (a == b) = false := beq_eq_false_iff_ne.mpr e
    simp [PyData.eqv, e, this]
/-- lists of whole numbers -/
theorem pys_ints : ∀ ns : List Int, D.pys (ns.map D.int) = some (ns.map PyData.int)
  | [] => by simp [D.pys]
  | n :: ns => by simp [D.pys, pys_ints ns]
theorem lay_ints : ∀ ns : List Int, PyData.canLayAll0 (ns.map PyData.int) = true
  | [] => by simp [PyData.canLayAll0]
  | n :: ns => by simp [PyData.canLayAll0, PyData.canLay0, lay_ints ns]
theorem dep_ints : ∀ ns : List Int, PyData.depthAll (ns.map PyData.int) = 0
  | [] => by simp [PyData.depthAll]
  | n :: ns => by simp [PyData.depthAll, PyData.depth, dep_ints ns]
theorem eqv_ints : ∀ ns ms : List Int, PyData.eqvAll (ns.map PyData.int) (ms.map PyData.int) = decide (ns = ms)
  | [], [] => by simp [PyData.eqvAll]
  | [], m :: ms => by simp [PyData.eqvAll]
  | n :: ns, [] => by simp [PyData.eqvAll]
  | n :: ns, m :: ms => by
    simp only [List.map_cons, PyData.eqvAll, PyData.eqv, eqv_ints ns ms, List.cons.injEq]
    by_cases h : n = m <;> simp [h]
@[simp] theorem deq_ints (ns ms : List Int) : deq (.lst (ns.map D.int)) (.lst (ms.map D.int)) = some (decide (ns = ms)) := by
  have e : ∀ ns : List Int, D.py (.lst (ns.map D.int)) = some (.list (ns.map .int)) := fun ns => by simp [D.py, pys_ints]
  have s : ∀ ns : List Int, SeqAt.shaped (.list (ns.map .int)) = true := fun ns => by simp [SeqAt.shaped, PyData.canLay0, PyData.depth, lay_ints, dep_ints]
  rw [deq_of (e ns) (e ms) (s ns) (s ms)]
  simp only [PyData.eqv, eqv_ints]
@[simp] theorem deq_ints0 (ns : List Int) : deq (.lst (ns.map D.int)) (.lst []) = some (decide (ns = [])) := deq_ints ns []
/-! ### comprehensions that leave the store alone -/
theorem lcGo_pure {g : Tg} {T : Tv} {A : Ev} {env : En} {st : Store} {e : D → En} {p : D → Bool} {f : D → D} : ∀ {ds : List D}, (∀ d ∈ ds, g.set d (wipeE env g.slots) = some (e d) ∧ T st (e d) = .ok (p d) st ∧ (p d = true → A st (e d) = .ok (f d) st)) → lcGo g T A ds st env = .ok ((ds.filter p).map f) st
  | [], _ => rfl
  | d :: ds, h => by
    obtain ⟨h1, h2, h3⟩ := h d List.mem_cons_self
    have ih := lcGo_pure (ds := ds) fun d' m => h d' (List.mem_cons_of_mem _ m)
    unfold lcGo
    rw [h1]
    simp only [h2, Out.bind]
    cases hp : p d with
    | true => simp [h3 hp, ih, hp]
    | false => simp [ih, hp]
theorem filter_len {p : D → Bool} {f : D → D} {ds : List D} {n : Nat} (h : ds.length ≤ n) : ((ds.filter p).map f).length ≤ n := by
  rw [List.length_map]
  exact Nat.le_trans (List.length_filter_le ..) h
theorem eLc_pure {W : Iv} {g : Tg} {T : Tv} {A : Ev} {env : En} {st : Store} {ds : List D} (e : D → En) (p : D → Bool) (f : D → D) (hw : W st env = .ok ds st) (hl : ds.length ≤ LINE)
    (h : ∀ d ∈ ds, g.set d (wipeE env g.slots) = some (e d) ∧ T st (e d) = .ok (p d) st ∧ (p d = true → A st (e d) = .ok (f d) st)) : eLc W g T A st env = .ok (.lst ((ds.filter p).map f)) st := by
  unfold eLc
  rw [hw]
  simp only [Out.bind, lcGo_pure h, Out.calm]
  rw [if_pos (filter_len hl)]
/-- the same where no item is left out -/
theorem eLc_map {W : Iv} {g : Tg} {A : Ev} {env : En} {st : Store} {ds : List D} (e : D → En) (f : D → D) (hw : W st env = .ok ds st) (hl : ds.length ≤ LINE)
    (h : ∀ d ∈ ds, g.set d (wipeE env g.slots) = some (e d) ∧ A st (e d) = .ok (f d) st) : eLc W g tTrue A st env = .ok (.lst (ds.map f)) st := by
  have q := eLc_pure (T := tTrue) (A := A) e (fun _ => true) f hw hl fun d m => ⟨(h d m).1, rfl, fun _ => (h d m).2⟩
  rw [q, List.filter_eq_self.mpr (fun _ _ => rfl)]
/-- a comprehension over things of one's own kind -/
theorem lcGo_of {α : Type} {g : Tg} {T : Tv} {A : Ev} {env : En} {st : Store} {c : α → D} {e : α → En} {t : α → Bool} {f : α → D} : ∀ {l : List α}, (∀ a ∈ l, g.set (c a) (wipeE env g.slots) = some (e a) ∧ T st (e a) = .ok (t a) st ∧ (t a = true → A st (e a) = .ok (f a) st)) → lcGo g T A (l.map c) st env = .ok ((l.filter t).map f) st
  | [], _ => rfl
  | d :: ds, h => by
    obtain ⟨h1, h2, h3⟩ := h d List.mem_cons_self
    have ih := lcGo_of (l := ds) fun d' m => h d' (List.mem_cons_of_mem _ m)
    rw [List.map_cons]
    unfold lcGo
    rw [h1]
    simp only [h2, Out.bind]
    cases hp : t d with
    | true => simp [h3 hp, ih, hp]
    | false => simp [ih, hp]
theorem eLc_of {α : Type} {W : Iv} {g : Tg} {T : Tv} {A : Ev} {env : En} {st : Store} (l : List α) (c : α → D) (e : α → En) (t : α → Bool) (f : α → D) (hw : W st env = .ok (l.map c) st) (hl : l.length ≤ LINE)
    (h : ∀ a ∈ l, g.set (c a) (wipeE env g.slots) = some (e a) ∧ T st (e a) = .ok (t a) st ∧ (t a = true → A st (e a) = .ok (f a) st)) : eLc W g T A st env = .ok (.lst ((l.filter t).map f)) st := by
  unfold eLc
  rw [hw]
  simp only [Out.bind, lcGo_of h, Out.calm]
  rw [if_pos (by rw [List.length_map]; exact Nat.le_trans (List.length_filter_le ..) hl)]
theorem eLc_all {α : Type} {W : Iv} {g : Tg} {A : Ev} {env : En} {st : Store} (l : List α) (c : α → D) (e : α → En) (f : α → D) (hw : W st env = .ok (l.map c) st) (hl : l.length ≤ LINE)
    (h : ∀ a ∈ l, g.set (c a) (wipeE env g.slots) = some (e a) ∧ A st (e a) = .ok (f a) st) : eLc W g tTrue A st env = .ok (.lst (l.map f)) st := by
  have q := eLc_of (T := tTrue) (A := A) l c e (fun _ => true) f hw hl fun d m => ⟨(h d m).1, rfl, fun _ => (h d m).2⟩
  rw [q, List.filter_eq_self.mpr (fun _ _ => rfl)]
theorem bigs_mapf {α : Type} (l : List α) (f : α → Bool) : bigs (l.map fun x => D.bl (f x)) = some (l.map f) := by
  have e : l.map (fun x => D.bl (f x)) = (l.map f).map D.bl := by rw [List.map_map]; rfl
  rw [e, bigs_map]
theorem all_bl {α : Type} (l : List α) (f : α → Bool) (st : Store) : dAll (.lst (l.map fun x => .bl (f x))) st = .ok (.bl (l.all f)) st := by
  simp only [dAll, bigs_mapf]
  rw [List.all_map]; rfl
theorem all_true {α : Type} (l : List α) (st : Store) : dAll (.lst (l.map fun _ => .bl true)) st = .ok (.bl true) st := by
  rw [all_bl l (fun _ => true)]
  simp [List.all_eq_true]
theorem x_App (i : Nat) (A : Ev) (st : Store) (env : En) : sApp i A st env = match ownL i env with
  | some xs => (A st env).stm fun d st => if xs.length < LINE then .nx st (env.set i (.ow (.lst (xs ++ [d])))) else .bad
  | none => .bad := rfl
theorem while_go {T : Tv} {B : Sv} {st : Store} {env : En} {r : SOut} (n : Nat) (h : n ≤ 1000000) (q : ∀ k, whileGo T B (n + k) st env = r) : sWhile T B st env = r := by
  unfold sWhile TURNS
  have e : 1000000000 = n + (1000000000 - n) := by omega
  rw [e]
  exact q _
theorem while_f {T : Tv} {B : Sv} {st st' : Store} {env : En} (k : Nat) (h : T st env = .ok false st') : whileGo T B (k + 1) st env = .nx st' env := by
  unfold whileGo
  simp [h]
theorem while_t {T : Tv} {B : Sv} {st st' st2 : Store} {env env2 : En} (k : Nat) (h : T st env = .ok true st') (hb : B st' env = .nx st2 env2) : whileGo T B (k + 1) st env = whileGo T B k st2 env2 := by
  conv => lhs; unfold whileGo
  simp [h, hb]
end Dl
end
section
set_option maxRecDepth 100000
set_option linter.all false
set_option Elab.async false
set_option maxHeartbeats 1000000
namespace Lw
open PySem Dl
/-! numbers, names, boxes -/
theorem num_ok (st : Store) (n a b : Int) : F_is_number st [.int n, .int a, .int b] = .ok (.bl (decide (a ≤ n) && decide (n ≤ b))) st := by
  by_cases h : a ≤ n <;> simp [F_is_number, B_is_number, runFn, dIsi, Ty.has, dNot, eChain, cmI, Cm.int, h]
theorem name_ok (st : Store) (n : Int) : F_is_name st [.int n] = .ok (.bl (decide (0 ≤ n) && decide (n ≤ 1000000))) st := by
  simp [F_is_name, B_is_name, runFn, C_FAR, num_ok]
def far (n : Int) : Bool := decide (-1000000 ≤ n) && decide (n ≤ 1000000)
def side (n : Int) : Bool := decide (1 ≤ n) && decide (n ≤ 1000000)
theorem line2 {α : Type} (a b : α) : [a, b].length ≤ LINE := by show 2 ≤ 16777216; decide
theorem box_ok (st : Store) (a b c d : Int) : F_is_box st [.tup [.int a, .int b, .int c, .int d]] = .ok (.bl (far a && far b && (side c && side d))) st := by
  have h1 : eLc (iExp (eSl (eVar 0) pNo (pSome (eC (.int 2))))) (.one 1) tTrue (eCall F_is_number (aCons (eVar 1) (aCons (eNeg (eC C_FAR)) (aCons (eC C_FAR) aNil)))) st [.vl (.tup [.int a, .int b, .int c, .int d]), .un] = .ok (.lst [.bl (far a), .bl (far b)]) st := by
    refine eLc_map (ds := [.int a, .int b]) (fun x => [.vl (.tup [.int a, .int b, .int c, .int d]), .vl x]) (fun x => match x with | .int n => .bl (far n) | _ => .non) ?_ (line2 _ _) ?_
    · simp [iExp, eSl, pNo, pSome, dSl, cutD, HT.sIx]
    · intro x hx
      simp only [List.mem_cons, List.not_mem_nil, or_false] at hx
      rcases hx with rfl | rfl <;> simp [Tg.set, Tg.slots, wipeE, dNeg, C_FAR, num_ok, far]
  have h2 : eLc (iExp (eSl (eVar 0) (pSome (eC (.int 2))) pNo)) (.one 1) tTrue (eCall F_is_number (aCons (eVar 1) (aCons (eC (.int 1)) (aCons (eC C_FAR) aNil)))) st [.vl (.tup [.int a, .int b, .int c, .int d]), .un] = .ok (.lst [.bl (side c), .bl (side d)]) st := by
    refine eLc_map (ds := [.int c, .int d]) (fun x => [.vl (.tup [.int a, .int b, .int c, .int d]), .vl x]) (fun x => match x with | .int n => .bl (side n) | _ => .non) ?_ (line2 _ _) ?_
    · simp [iExp, eSl, pNo, pSome, dSl, cutD, HT.sIx]
    · intro x hx
      simp only [List.mem_cons, List.not_mem_nil, or_false] at hx
      rcases hx with rfl | rfl <;> simp [Tg.set, Tg.slots, wipeE, C_FAR, num_ok, side]
  cases hf : (far a && far b) <;> simp [F_is_box, B_is_box, runFn, dIsi, Ty.has, D.truth, dLen, dEq, h1, h2, dAll, bigs, hf]
/-! rises: whole numbers -/
def risI : List Int → Bool
  | [] => true
  | [_] => true
  | a :: b :: r => decide (a < b) && risI (b :: r)
theorem risI_get : ∀ ns : List Int, risI ns = (List.range (ns.length - 1)).all fun i => decide (ns.getD i 0 < ns.getD (i + 1) 0)
  | [] => rfl
  | [_] => rfl
  | a :: b :: r => by
    rw [risI, risI_get (b :: r)]
    show _ = (List.range (r.length + 1)).all _
    rw [List.range_succ_eq_map, List.all_cons, List.all_map]
    rfl
end Lw
end
section
set_option maxRecDepth 100000
set_option linter.all false
set_option Elab.async false
set_option maxHeartbeats 1000000
namespace Lw
open PySem Dl
/-! ### what the program's rows are -/
inductive Deed where | still | shut | say (n : Int) | go (w : Str)
structure Pane where
  nm : Int
  up : Option Int
  bx : Int
  byy : Int
  bw : Int
  bh : Int
  turn : Int
  marks : List Str
  keys : List (Str × Deed)
def encUp : Option Int → D
  | none => .non
  | some n => .int n
def encDeed : Deed → D
  | .still => .tup [.str "still"]
  | .shut => .tup [.str "shut"]
  | .say n => .tup [.str "say", .int n]
  | .go w => .tup [.str "go", .str w]
def encKey (k : Str × Deed) : D := .tup [.str k.1, encDeed k.2]
def encPane (p : Pane) : D := .tup [.int p.nm, encUp p.up, .tup [.int p.bx, .int p.byy, .int p.bw, .int p.bh], .int p.turn, .tup (p.marks.map .str), .tup (p.keys.map encKey)]
def encPlan (ps : List Pane) : D := .tup (ps.map encPane)
/-! ### rises -/
theorem line_ge {n : Nat} (h : n ≤ 1000000) : n ≤ LINE := by show n ≤ 16777216; omega
theorem atI_nat {α : Type} (xs : List α) (i : Nat) (a : α) (h : xs[i]? = some a) : L2.atI xs (i : Int) = some a := by
  have hi := (List.getElem?_eq_some_iff.mp h).1
  unfold L2.atI L2.ixN
  rw [if_pos (by omega), if_pos (by omega)]
  simpa using h
theorem rises_seq (st : Store) (c : D) (xs : List D) (hc : c = .tup xs ∨ c = .lst xs) (hl : xs.length ≤ 1000000)
    (h : ∀ i a b, xs[i]? = some a → xs[i + 1]? = some b → cmD .lt a b st = .ok (.bl true) st) : F_rises st [c] = .ok (.bl true) st := by
  have hi : ∀ env : En, env = [.vl c, .un] → eLc (iRange1 (eSub (eLen (eVar 0)) (eC (.int 1)))) (.one 1) tTrue (eCm .lt (eIx (eVar 0) (eVar 1)) (eIx (eVar 0) (eAdd (eVar 1) (eC (.int 1))))) st env = .ok (.lst ((List.range (xs.length - 1)).map fun _ => .bl true)) st := fun env he => by
    subst he
    have q := eLc_map (W := iRange1 (eSub (eLen (eVar 0)) (eC (.int 1)))) (g := .one 1) (A := eCm .lt (eIx (eVar 0) (eVar 1)) (eIx (eVar 0) (eAdd (eVar 1) (eC (.int 1))))) (env := [.vl c, .un]) (st := st) (ds := (List.range (xs.length - 1)).map fun k : Nat => D.int k) (fun d => [.vl c, .vl d]) (fun _ => .bl true) ?_ ?_ ?_
    · rw [q, List.map_map]; rfl
    · have hn : ((xs.length : Int) - 1).toNat = xs.length - 1 := by omega
      have hb : (xs.length : Int) - 1 ≤ (LINE : Int) ∧ -(2 ^ 62) ≤ (xs.length : Int) - 1 := by
        have : (LINE : Int) = 16777216 := rfl
        omega
      rcases hc with rfl | rfl <;> (simp [iRange1, dLen, dSub, hn, hb]; omega)
    · rw [List.length_map, List.length_range]
      exact line_ge (by omega)
    · intro d hd
      obtain ⟨i, hi, rfl⟩ := List.mem_map.mp hd
      have hlt : i < xs.length - 1 := List.mem_range.mp hi
      have e1 : xs[i]? = some xs[i] := List.getElem?_eq_getElem (by omega)
      have e2 : xs[i + 1]? = some xs[i + 1] := List.getElem?_eq_getElem (by omega)
      have a1 := atI_nat xs i _ e1
      have a2 := atI_nat xs (i + 1) _ e2
      have hs : ((i : Int) + 1) = ((i + 1 : Nat) : Int) := by omega
      refine ⟨rfl, ?_⟩
      rcases hc with rfl | rfl <;> simp only [x_Cm, x_Ix, x_Add, x_Var, x_C, List.getD_cons_zero, List.getD_cons_succ, Out.bind, dIx, dAdd, a1, hs, a2] <;> exact h i _ _ e1 e2
  have hb : bigs ((List.range (xs.length - 1)).map fun _ => D.bl true) = some ((List.range (xs.length - 1)).map fun _ => true) := bigs_mapf _ _
  simp only [F_rises, B_rises, runFn, List.length_cons, List.length_nil, if_true, x_Ret, x_All, List.map_cons, List.map_nil, List.replicate, List.nil_append, List.cons_append, hi _ rfl, Out.bind, dAll, hb, stm_ok]
  simp
theorem rises_str (st : Store) (ns : List Str) (c : D) (hc : c = .tup (ns.map .str) ∨ c = .lst (ns.map .str)) (hl : ns.length ≤ 1000000) (h : ∀ i a b, ns[i]? = some a → ns[i + 1]? = some b → a.cps.toList < b.cps.toList) : F_rises st [c] = .ok (.bl true) st :=
  rises_seq st c _ hc (by rw [List.length_map]; exact hl) fun i a b h1 h2 => by
    rw [List.getElem?_map, Option.map_eq_some_iff] at h1 h2
    obtain ⟨x, e1, rfl⟩ := h1
    obtain ⟨y, e2, rfl⟩ := h2
    simp [cmD, Cm.str, h i x y e1 e2]
theorem rises_int (st : Store) (ns : List Int) (c : D) (hc : c = .tup (ns.map .int) ∨ c = .lst (ns.map .int)) (hl : ns.length ≤ 1000000) (h : ∀ i a b, ns[i]? = some a → ns[i + 1]? = some b → a < b) : F_rises st [c] = .ok (.bl true) st :=
  rises_seq st c _ hc (by rw [List.length_map]; exact hl) fun i a b h1 h2 => by
    rw [List.getElem?_map, Option.map_eq_some_iff] at h1 h2
    obtain ⟨x, e1, rfl⟩ := h1
    obtain ⟨y, e2, rfl⟩ := h2
    simp [cmD, Cm.int, h i x y e1 e2]
/-! ### words: marks, ways, keys -/
def MARKS : List Str := ["asleep", "hidden", "hold", "one", "sheet", "stop"]
def WAYS : List Str := ["above", "back", "below", "in", "left", "next", "out", "right"]
theorem in_strs (x : Str) (l : List Str) : inD (.str x) (.tup (l.map .str)) = some (decide (x ∈ l)) := by
  have h1 : (l.map D.str).all D.flat = true := by simp [D.flat]
  simp only [inD, D.flat, h1, Bool.and_self, if_true, List.any_map, Option.some.injEq]
  induction l with
  | nil => simp
  | cons a r ih =>
    rw [List.any_cons, ih (by simp [D.flat])]
    by_cases e : a = x
    · subst e; simp [feq]
    · have e' : ¬ x = a := fun h => e h.symm
      simp [feq, e, e']
theorem mark_ok (st : Store) (x : Str) : F_is_mark st [.str x] = .ok (.bl (decide (x ∈ MARKS))) st := by
  have h : inD (.str x) C_MARKS = some (decide (x ∈ MARKS)) := in_strs x MARKS
  simp [F_is_mark, B_is_mark, runFn, dIsi, Ty.has, dIn, h]
theorem way_ok (st : Store) (x : Str) : F_is_way st [.str x] = .ok (.bl (decide (x ∈ WAYS))) st := by
  have h : inD (.str x) C_WAYS = some (decide (x ∈ WAYS)) := in_strs x WAYS
  simp [F_is_way, B_is_way, runFn, dIsi, Ty.has, dIn, h]
theorem iVar_tup (st : Store) (xs : List D) (env : En) (i : Nat) (h : env.getD i .un = .vl (.tup xs)) : iVar i st env = .ok xs st := by
  unfold iVar vlOf
  rw [h]; rfl
theorem iVar_lst (st : Store) (xs : List D) (env : En) (i : Nat) (h : env.getD i .un = .vl (.lst xs)) : iVar i st env = .ok xs st := by
  unfold iVar vlOf
  rw [h]; rfl
theorem frz_vl {env : En} {i : Nat} {d : D} (h : env.getD i .un = .vl d) : frz [i] env = env := by
  unfold frz
  rw [List.foldl_cons, List.foldl_nil, h]
theorem eLcV_vl {env : En} {i : Nat} {d : D} {W : Iv} {g : Tg} {T : Tv} {A : Ev} {st : Store} (h : env.getD i .un = .vl d) (hd : ∀ kvs, d ≠ .dct kvs) : eLcV i W g T A st env = eLc W g T A st env := by
  unfold eLcV
  rw [frz_vl h]
  have : lockOk i env = true := by
    unfold lockOk vlOf
    rw [h]
    cases d <;> first | rfl | exact absurd rfl (hd _)
  rw [if_pos this]
theorem marks_ok (st : Store) (ms : List Str) (hl : ms.length ≤ 1000000) (hm : ∀ x ∈ ms, x ∈ MARKS) (hr : ∀ i a b, ms[i]? = some a → ms[i + 1]? = some b → a.cps.toList < b.cps.toList) : F_are_marks st [.tup (ms.map .str)] = .ok (.bl true) st := by
  have h1 : eLcV 0 (iVar 0) (.one 1) tTrue (eCall F_is_mark (aCons (eVar 1) aNil)) st [.vl (.tup (ms.map .str)), .un] = .ok (.lst ((ms.map D.str).map fun _ => .bl true)) st := by
    rw [eLcV_vl (d := .tup (ms.map .str)) rfl (by simp)]
    refine eLc_map (fun d => [.vl (.tup (ms.map .str)), .vl d]) _ (iVar_tup _ _ _ _ rfl) (by rw [List.length_map]; exact line_ge hl) fun d hd => ⟨rfl, ?_⟩
    obtain ⟨x, hx, rfl⟩ := List.mem_map.mp hd
    simp [mark_ok, hm x hx]
  have h3 := rises_str st ms _ (.inl rfl) hl hr
  have h4 := all_true (ms.map D.str) st
  simp only [F_are_marks, B_are_marks, runFn, List.length_cons, List.length_nil, if_true, x_Ret, x_And, x_All, x_Isi, x_Var, x_Call, x_Cons, x_Nil, List.map_cons, List.map_nil, List.replicate, List.nil_append, List.cons_append, List.getD_cons_zero, h1, Out.bind, h4, stm_ok, dIsi, Ty.has, List.any_cons, List.any_nil, Bool.or_false, h3]
/-! ### keys, deeds -/
def SIGNS : Str := Str.ofString "abcdefghijklmnopqrstuvwxyz0123456789"
structure KeyOk (x : Str) : Prop where
  lo : 1 ≤ x.length
  hi : x.length ≤ 8
  sg : ∀ c ∈ x.cps.toList, c ∈ SIGNS.cps.toList
theorem iVar_str (st : Store) (z : Str) (env : En) (i : Nat) (h : env.getD i .un = .vl (.str z)) : iVar i st env = .ok (z.cps.toList.map fun c => .str ⟨#[c]⟩) st := by
  unfold iVar vlOf
  rw [h]; rfl
theorem key_ok (st : Store) (x : Str) (h : KeyOk x) : F_is_key st [.str x] = .ok (.bl true) st := by
  have hl : x.cps.toList.length = x.length := by rw [Array.length_toList]; rfl
  have h1 : eLcV 0 (iVar 0) (.one 1) tTrue (eIn false (eVar 1) (eC C_KEY_SIGNS)) st [.vl (.str x), .un] = .ok (.lst ((x.cps.toList.map fun c => D.str ⟨#[c]⟩).map fun _ => .bl true)) st := by
    rw [eLcV_vl (d := .str x) rfl (by simp)]
    refine eLc_map (fun d => [.vl (.str x), .vl d]) _ (iVar_str _ _ _ _ rfl) (by rw [List.length_map, hl]; exact line_ge (by have := h.hi; omega)) fun d hd => ⟨rfl, ?_⟩
    obtain ⟨c, hc, rfl⟩ := List.mem_map.mp hd
    have hs := h.sg c hc
    simp only [x_In, x_Var, x_C, List.getD_cons_zero, List.getD_cons_succ, Out.bind, dIn, C_KEY_SIGNS, inD]
    have hs' : c ∈ (Str.ofString "abcdefghijklmnopqrstuvwxyz0123456789").cps := by simpa using (show c ∈ (Str.ofString "abcdefghijklmnopqrstuvwxyz0123456789").cps.toList from hs)
    simp [hs']
  have h4 := all_true (x.cps.toList.map fun c => D.str ⟨#[c]⟩) st
  have a1 : ¬ ((x.length : Int) < 1) := by have := h.lo; omega
  have a2 : ¬ ((8 : Int) < x.length) := by have := h.hi; omega
  simp [-List.map_map, F_is_key, B_is_key, runFn, h1, h4, dIsi, Ty.has, D.truth, dLen, cmD, Cm.int, a1, a2]
theorem sok {x : Str} (h : PyData.strOk x = true) : PyData.strOk x = true := h
def DeedOk : Deed → Prop
  | .still => True
  | .shut => True
  | .say n => far n = true
  | .go w => w ∈ WAYS
theorem deq_tup1 {x y : Str} (h : PyData.strOk x = true) (h' : PyData.strOk y = true) : deq (.tup [.str x]) (.tup [.str y]) = some (decide (x = y)) := by
  have e : ∀ z : Str, D.py (.tup [.str z]) = some (.tuple [.str z]) := fun z => by simp [D.py, D.pys]
  have s : ∀ z : Str, PyData.strOk z = true → SeqAt.shaped (.tuple [.str z]) = true := fun z hz => by simp [SeqAt.shaped, PyData.canLay0, PyData.canLayAll0, PyData.depth, PyData.depthAll, hz]
  rw [deq_of (e x) (e y) (s x h) (s y h')]
  simp only [PyData.eqv, PyData.eqvAll]
  by_cases q : x = y
  · simp [q]
  · have : (x == y) = false := beq_eq_false_iff_ne.mpr q
    simp [q, this]
theorem deq_tup21 {x y : Str} {d : D} {p : PyData} (h : PyData.strOk x = true) (h' : PyData.strOk y = true) (hd : d.py = some p) (hc : PyData.canLay0 p = true) (hp : PyData.depth p = 0) : deq (.tup [.str x, d]) (.tup [.str y]) = some false := by
  have e1 : D.py (.tup [.str x, d]) = some (.tuple [.str x, p]) := by simp [D.py, D.pys, hd]
  have e2 : D.py (.tup [.str y]) = some (.tuple [.str y]) := by simp [D.py, D.pys]
  have s1 : SeqAt.shaped (.tuple [.str x, p]) = true := by simp [SeqAt.shaped, PyData.canLay0, PyData.canLayAll0, PyData.depth, PyData.depthAll, h, hc, hp]
  have s2 : SeqAt.shaped (.tuple [.str y]) = true := by simp [SeqAt.shaped, PyData.canLay0, PyData.canLayAll0, PyData.depth, PyData.depthAll, h']
  rw [deq_of e1 e2 s1 s2]
  simp [PyData.eqv, PyData.eqvAll]
theorem ways_ok : ∀ w ∈ WAYS, PyData.strOk w = true := by decide +kernel
theorem deed_ok (st : Store) (d : Deed) (h : DeedOk d) : F_is_deed st [encDeed d] = .ok (.bl true) st := by
  have k1 : PyData.strOk (Str.ofString "shut") = true := by decide +kernel
  have k2 : PyData.strOk (Str.ofString "still") = true := by decide +kernel
  have k3 : PyData.strOk (Str.ofString "say") = true := by decide +kernel
  have k4 : PyData.strOk (Str.ofString "go") = true := by decide +kernel
  have n1 : (Str.ofString "still" = Str.ofString "shut") = False := by simp; decide +kernel
  have n2 : (Str.ofString "go" = Str.ofString "say") = False := by simp; decide +kernel
  cases d with
  | still => simp [F_is_deed, B_is_deed, runFn, encDeed, dIsi, Ty.has, D.truth, dLen, cmD, Cm.int, dIx, L2.atI, L2.ixN, dEq, deq_tup1 k2 k1, deq_tup1 k2 k2, n1, LINE]
  | shut => simp [F_is_deed, B_is_deed, runFn, encDeed, dIsi, Ty.has, D.truth, dLen, cmD, Cm.int, dIx, L2.atI, L2.ixN, dEq, deq_tup1 k1 k1, LINE]
  | say n =>
    have q1 := deq_tup21 (d := .int n) k3 k1 (py_int n) (by simp [PyData.canLay0]) (by simp [PyData.depth])
    have q2 := deq_tup21 (d := .int n) k3 k2 (py_int n) (by simp [PyData.canLay0]) (by simp [PyData.depth])
    have hf : far n = true := h
    unfold far at hf
    simp [F_is_deed, B_is_deed, runFn, encDeed, dIsi, Ty.has, D.truth, dLen, cmD, Cm.int, dIx, L2.atI, L2.ixN, dEq, q1, q2, LINE, deq_ss k3 k3, dNeg, C_FAR, num_ok, hf]
  | go w =>
    have hw : w ∈ WAYS := h
    have q1 := deq_tup21 (d := .str w) k4 k1 (py_str w) (by simp [PyData.canLay0, ways_ok w hw]) (by simp [PyData.depth])
    have q2 := deq_tup21 (d := .str w) k4 k2 (py_str w) (by simp [PyData.canLay0, ways_ok w hw]) (by simp [PyData.depth])
    simp [F_is_deed, B_is_deed, runFn, encDeed, dIsi, Ty.has, D.truth, dLen, cmD, Cm.int, dIx, L2.atI, L2.ixN, dEq, q1, q2, LINE, deq_ss k4 k3, deq_ss k4 k4, n2, way_ok, hw]
structure KnownOk (k : Str × Deed) : Prop where
  key : KeyOk k.1
  deed : DeedOk k.2
theorem known_ok (st : Store) (k : Str × Deed) (h : KnownOk k) : F_is_known st [encKey k] = .ok (.bl true) st := by
  simp [F_is_known, B_is_known, runFn, encKey, dIsi, Ty.has, dLen, dEq, dIx, L2.atI, L2.ixN, key_ok st k.1 h.key, deed_ok st k.2 h.deed]
theorem keys_ok (st : Store) (ks : List (Str × Deed)) (hl : ks.length ≤ 20) (hk : ∀ k ∈ ks, KnownOk k) (hr : ∀ i a b, (ks.map (·.1))[i]? = some a → (ks.map (·.1))[i + 1]? = some b → a.cps.toList < b.cps.toList) : F_are_keys st [.tup (ks.map encKey)] = .ok (.bl true) st := by
  have h1 : eLcV 0 (iVar 0) (.one 1) tTrue (eCall F_is_known (aCons (eVar 1) aNil)) st [.vl (.tup (ks.map encKey)), .un] = .ok (.lst ((ks.map encKey).map fun _ => .bl true)) st := by
    rw [eLcV_vl (d := .tup (ks.map encKey)) rfl (by simp)]
    refine eLc_map (fun d => [.vl (.tup (ks.map encKey)), .vl d]) _ (iVar_tup _ _ _ _ rfl) (by rw [List.length_map]; exact line_ge (by omega)) fun d hd => ⟨rfl, ?_⟩
    obtain ⟨x, hx, rfl⟩ := List.mem_map.mp hd
    simp [known_ok st x (hk x hx)]
  have h2 : eLcV 0 (iVar 0) (.one 1) tTrue (eImm (eIx (eVar 1) (eC (.int 0)))) st [.vl (.tup (ks.map encKey)), .un] = .ok (.lst ((ks.map (·.1)).map .str)) st := by
    rw [eLcV_vl (d := .tup (ks.map encKey)) rfl (by simp)]
    have q := eLc_map (W := iVar 0) (g := .one 1) (A := eImm (eIx (eVar 1) (eC (.int 0)))) (env := [.vl (.tup (ks.map encKey)), .un]) (st := st) (ds := ks.map encKey) (fun d => [.vl (.tup (ks.map encKey)), .vl d]) (fun d => match d with | .tup (x :: _) => x | _ => .non) (iVar_tup _ _ _ _ rfl) (by rw [List.length_map]; exact line_ge (by omega)) fun d hd => ⟨rfl, by
      obtain ⟨x, hx, rfl⟩ := List.mem_map.mp hd
      simp [encKey, dIx, L2.atI, L2.ixN]⟩
    rw [q, List.map_map, List.map_map]
    rfl
  have h4 := all_true (ks.map encKey) st
  have h5 := rises_str st (ks.map (·.1)) _ (.inr rfl) (by rw [List.length_map]; omega) hr
  have a1 : ¬ ((20 : Int) < (ks.length : Int)) := by omega
  simp [-List.map_map, F_are_keys, B_are_keys, runFn, h1, h2, h4, h5, dIsi, Ty.has, D.truth, dLen, cmD, Cm.int, C_MOST_KEYS, a1]
structure PaneOk (p : Pane) : Prop where
  nm : 0 ≤ p.nm ∧ p.nm ≤ 1000000
  up : ∀ u, p.up = some u → 0 ≤ u ∧ u ≤ 1000000
  bx : far p.bx = true
  byy : far p.byy = true
  bw : side p.bw = true
  bh : side p.bh = true
  turn : far p.turn = true
  ml : p.marks.length ≤ 1000000
  mm : ∀ x ∈ p.marks, x ∈ MARKS
  mr : ∀ i a b, p.marks[i]? = some a → p.marks[i + 1]? = some b → a.cps.toList < b.cps.toList
  kl : p.keys.length ≤ 20
  kk : ∀ k ∈ p.keys, KnownOk k
  kr : ∀ i a b, (p.keys.map (·.1))[i]? = some a → (p.keys.map (·.1))[i + 1]? = some b → a.cps.toList < b.cps.toList
theorem pane_ok (st : Store) (p : Pane) (h : PaneOk p) : F_is_pane st [encPane p] = .ok (.bl true) st := by
  have h1 := name_ok st p.nm
  have h2 := box_ok st p.bx p.byy p.bw p.bh
  have h3 := num_ok st p.turn (-1000000) 1000000
  have ht := h.turn
  unfold far at ht
  have h4 := marks_ok st p.marks h.ml h.mm h.mr
  have h5 := keys_ok st p.keys h.kl h.kk h.kr
  simp only [h.bx, h.byy, h.bw, h.bh, Bool.and_self] at h2
  cases hu : p.up with
  | none => simp [F_is_pane, B_is_pane, runFn, encPane, dIsi, Ty.has, D.truth, dLen, dEq, Tg.set, setAll, h1, h.nm, hu, encUp, dIsN, D.isNon, h2, dNeg, C_FAR, h3, ht, h4, h5]
  | some u => simp [F_is_pane, B_is_pane, runFn, encPane, dIsi, Ty.has, D.truth, dLen, dEq, Tg.set, setAll, h1, h.nm, hu, encUp, dIsN, D.isNon, h2, dNeg, C_FAR, h3, ht, h4, h5, name_ok st u, h.up u hu]
end Lw
end
section
set_option maxRecDepth 100000
set_option linter.all false
set_option Elab.async false
set_option maxHeartbeats 1000000
namespace Lw
open PySem Dl
/-! ### plain things are plain -/
@[simp] theorem imm_up (u : Option Int) : (encUp u).imm = true := by cases u <;> simp [encUp]
@[simp] theorem imm_deed (d : Deed) : (encDeed d).imm = true := by cases d <;> simp [encDeed]
@[simp] theorem imm_key (k : Str × Deed) : (encKey k).imm = true := by simp [encKey]
@[simp] theorem imm_pane (p : Pane) : (encPane p).imm = true := by
  simp [encPane, List.all_map, Function.comp_def, List.all_eq_true]
@[simp] theorem imms_ints (ns : List Int) : D.imms (ns.map .int) = true := by simp [List.all_map, Function.comp_def, List.all_eq_true]
/-! ### parts of a pane -/
theorem ix_nm (p : Pane) (st : Store) : dIx (encPane p) (.int 0) st = .ok (.int p.nm) st := by simp [dIx, encPane, L2.atI, L2.ixN]
theorem ix_up (p : Pane) (st : Store) : dIx (encPane p) (.int 1) st = .ok (encUp p.up) st := by simp [dIx, encPane, L2.atI, L2.ixN]
theorem ix_turn (p : Pane) (st : Store) : dIx (encPane p) (.int 3) st = .ok (.int p.turn) st := by simp [dIx, encPane, L2.atI, L2.ixN]
theorem ix_marks (p : Pane) (st : Store) : dIx (encPane p) (.int 4) st = .ok (.tup (p.marks.map .str)) st := by simp [dIx, encPane, L2.atI, L2.ixN]
/-! ### the plan as it is read -/
structure PlanR (ps : List Pane) : Prop where
  nd : (ps.map (·.nm)).Nodup
  len : ps.length ≤ 1000000
theorem filter_one {ps : List Pane} (h : (ps.map (·.nm)).Nodup) {p : Pane} (hp : p ∈ ps) : ps.filter (fun q => decide (q.nm = p.nm)) = [p] := by
  induction ps with
  | nil => cases hp
  | cons q ps ih =>
    rw [List.map_cons, List.nodup_cons] at h
    rcases List.mem_cons.mp hp with rfl | hp
    · rw [List.filter_cons_of_pos (by simp)]
      have : ps.filter (fun q => decide (q.nm = p.nm)) = [] := by
        rw [List.filter_eq_nil_iff]
        intro q hq
        simp only [decide_eq_true_eq]
        intro e
        exact h.1 (e ▸ List.mem_map_of_mem hq)
      rw [this]
    · have hne : q.nm ≠ p.nm := fun e => h.1 (e ▸ List.mem_map_of_mem hp)
      rw [List.filter_cons_of_neg (by simpa using hne)]
      exact ih h.2 hp
theorem the_pane_ok (st : Store) {ps : List Pane} (R : PlanR ps) {p : Pane} (hp : p ∈ ps) : F_the_pane st [encPlan ps, .int p.nm] = .ok (encPane p) st := by
  have h1 : eLcV 0 (iVar 0) (.one 2) (tVal (eEq false (eIx (eVar 2) (eC (.int 0))) (eVar 1))) (eImm (eVar 2)) st [.vl (encPlan ps), .vl (.int p.nm), .un] = .ok (.lst ([p].map encPane)) st := by
    rw [eLcV_vl (d := encPlan ps) rfl (by simp [encPlan]), ← filter_one R.nd hp]
    refine eLc_of ps encPane (fun q => [.vl (encPlan ps), .vl (.int p.nm), .vl (encPane q)]) _ _ (iVar_tup _ _ _ _ rfl) (line_ge R.len) fun q hq => ⟨rfl, ?_, fun _ => ?_⟩
    · simp [ix_nm, dEq]
    · simp
  simp [F_the_pane, B_the_pane, runFn, h1, dIx, L2.atI, L2.ixN]
def upsD (ps : List Pane) : List (Key × D) := ps.map fun p => (.inl p.nm, encUp p.up)
theorem dPut_new {kvs : List (Key × D)} {k : Key} {v : D} (h : ∀ q ∈ kvs, q.1 ≠ k) : dPut kvs k v = kvs ++ [(k, v)] := by
  unfold dPut
  rw [if_neg]
  simp only [List.any_eq_true, decide_eq_true_eq, not_exists, not_and]
  exact h
theorem dMerge_nd : ∀ (more kvs : List (Key × D)), (∀ q ∈ kvs, ∀ r ∈ more, q.1 ≠ r.1) → (more.map (·.1)).Nodup → dMerge kvs more = kvs ++ more
  | [], kvs, _, _ => by simp [dMerge]
  | m :: more, kvs, h, nd => by
    rw [List.map_cons, List.nodup_cons] at nd
    have e : dMerge kvs (m :: more) = dMerge (dPut kvs m.1 m.2) more := rfl
    rw [e, dPut_new fun q hq => h q hq m List.mem_cons_self, dMerge_nd more _ ?_ nd.2]
    · simp
    · intro q hq r hr
      rcases List.mem_append.mp hq with hq | hq
      · exact h q hq r (List.mem_cons_of_mem _ hr)
      · simp only [List.mem_singleton] at hq
        subst hq
        intro e
        exact nd.1 (e ▸ List.mem_map_of_mem hr)
theorem dGet_ups {ps : List Pane} (h : (ps.map (·.nm)).Nodup) {p : Pane} (hp : p ∈ ps) : dGet (upsD ps) (.inl p.nm) = some (encUp p.up) := by
  unfold dGet upsD
  induction ps with
  | nil => cases hp
  | cons q ps ih =>
    rw [List.map_cons, List.nodup_cons] at h
    rw [List.map_cons]
    rcases List.mem_cons.mp hp with rfl | hp
    · rw [List.find?_cons_of_pos (by simp)]; rfl
    · have hne : q.nm ≠ p.nm := fun e => h.1 (e ▸ List.mem_map_of_mem hp)
      rw [List.find?_cons_of_neg (by simpa using hne)]
      exact ih h.2 hp
theorem kpairs_of {α : Type} (l : List α) (k : α → Int) (v : α → D) : kpairs (l.map fun a => .tup [.int (k a), v a]) = some (l.map fun a => (.inl (k a), v a)) := by
  induction l with
  | nil => rfl
  | cons a r ih => simp [kpairs, keyOf, ih]
/-- the way up, from a name to the ground -/
inductive Anc (ps : List Pane) : Int → List Int → Prop
  | root {p : Pane} : p ∈ ps → p.up = none → Anc ps p.nm [p.nm]
  | step {p : Pane} {u : Int} {l : List Int} : p ∈ ps → p.up = some u → Anc ps u l → Anc ps p.nm (p.nm :: l)
theorem up_loop (st : Store) {ps : List Pane} (R : PlanR ps) {n : Int} {l : List Int} (h : Anc ps n l) : ∀ (acc : List Int), acc.length + l.length ≤ 1000000 → ∀ k,
    whileGo (tVal (eIsN true (eVar 1))) (sSeq (sApp 4 (eImm (eVar 1))) (sSet 1 (eImm (eIx (eVar 2) (eVar 1))))) (l.length + 1 + k) st [.vl (encPlan ps), .vl (.int n), .ow (.dct (upsD ps)), .un, .ow (.lst (acc.map .int))] =
      .nx st [.vl (encPlan ps), .vl .non, .ow (.dct (upsD ps)), .un, .ow (.lst ((acc ++ l).map .int))] := by
  have one : ∀ {p : Pane} (acc : List Int), p ∈ ps → acc.length < 1000000 → sSeq (sApp 4 (eImm (eVar 1))) (sSet 1 (eImm (eIx (eVar 2) (eVar 1)))) st [.vl (encPlan ps), .vl (.int p.nm), .ow (.dct (upsD ps)), .un, .ow (.lst (acc.map .int))] =
      .nx st [.vl (encPlan ps), .vl (encUp p.up), .ow (.dct (upsD ps)), .un, .ow (.lst ((acc ++ [p.nm]).map .int))] := fun {p} acc hp hl => by
    have hl' : acc.length < LINE := by show acc.length < 16777216; omega
    have ho : own (encUp p.up) = .vl (encUp p.up) := by cases p.up <;> rfl
    simp [x_App, ownL, hl', dIx, keyOf, dGet_ups R.nd hp, ho]
  induction h with
  | @root p hp hu =>
    intro acc hl k
    have e : [p.nm].length + 1 + k = (k + 1) + 1 := by simp; omega
    simp only [List.length_singleton] at hl
    rw [e, while_t (st' := st) (k + 1) (by simp [dIsN, D.isNon]) (one acc hp (by omega)), hu]
    exact while_f k (by simp [dIsN, D.isNon, encUp])
  | @step p u l hp hu ha ih =>
    intro acc hl k
    rw [List.length_cons] at hl
    have e : (p.nm :: l).length + 1 + k = (l.length + 1 + k) + 1 := by simp; omega
    rw [e, while_t (st' := st) _ (by simp [dIsN, D.isNon]) (one acc hp (by omega)), hu]
    have q := ih (acc ++ [p.nm]) (by simp; omega) k
    rw [List.append_assoc] at q
    exact q
theorem up_ok (st : Store) {ps : List Pane} (R : PlanR ps) {n : Int} {l : List Int} (h : Anc ps n l) (hl : l.length ≤ 1000) : F_going_up st [encPlan ps, .int n] = .ok (.lst (l.map .int)) st := by
  have h1 : eLcV 0 (iVar 0) (.one 3) tTrue (eTup (aCons (eImm (eIx (eVar 3) (eC (.int 0)))) (aCons (eImm (eIx (eVar 3) (eC (.int 1)))) aNil))) st [.vl (encPlan ps), .vl (.int n), .un, .un, .un] = .ok (.lst (ps.map fun p => .tup [.int p.nm, encUp p.up])) st := by
    rw [eLcV_vl (d := encPlan ps) rfl (by simp [encPlan])]
    refine eLc_all ps encPane (fun q => [.vl (encPlan ps), .vl (.int n), .un, .vl (encPane q), .un]) _ (iVar_tup _ _ _ _ rfl) (line_ge R.len) fun q hq => ⟨rfl, ?_⟩
    simp [ix_nm, ix_up, LINE]
  have h2 : dDict (.lst (ps.map fun p => .tup [.int p.nm, encUp p.up])) st = .ok (.dct (upsD ps)) st := by
    have hk : (upsD ps).map (·.1) = (ps.map (·.nm)).map Sum.inl := by unfold upsD; simp [List.map_map, Function.comp_def]
    have hm : dMerge [] (ps.map fun p => ((.inl p.nm : Key), encUp p.up)) = upsD ps := dMerge_nd (upsD ps) [] (fun _ h => by cases h) (by
      rw [hk]
      exact List.Pairwise.map _ (fun a b (hab : a ≠ b) (e : (Sum.inl a : Key) = Sum.inl b) => hab (Sum.inl.inj e)) R.nd)
    have hi : D.imms ((ps.map fun p => ((.inl p.nm : Key), encUp p.up)).map (·.2)) = true := by simp [List.all_map, Function.comp_def, List.all_eq_true]
    simp only [dDict, kpairs_of, hi, if_true, hm]
  have ho : own (.dct (upsD ps)) = .ow (.dct (upsD ps)) := by
    have hi : D.imms ((upsD ps).map (·.2)) = true := by unfold upsD; simp [List.all_map, Function.comp_def, List.all_eq_true]
    show (if D.imms ((upsD ps).map (·.2)) = true then Sl.ow _ else Sl.vl _) = _
    rw [if_pos hi]
  have h3 := while_go (T := tVal (eIsN true (eVar 1))) (B := sSeq (sApp 4 (eImm (eVar 1))) (sSet 1 (eImm (eIx (eVar 2) (eVar 1))))) (l.length + 1) (by omega) (up_loop st R h [] (by simp; omega))
  rw [List.nil_append, List.map_nil] at h3
  have ho2 : own (.lst []) = .ow (.lst []) := rfl
  simp [F_going_up, B_going_up, runFn, h1, h2, ho, ho2, LINE, h3]
end Lw
end
section
set_option maxRecDepth 100000
set_option linter.all false
set_option Elab.async false
set_option maxHeartbeats 1000000
namespace Lw
open PySem Dl
/-! ### who lives -/
def dead (p : Pane) : Bool := decide (Str.ofString "asleep" ∈ p.marks) || decide (Str.ofString "hidden" ∈ p.marks)
theorem mem_marks (x : Str) (p : Pane) (st : Store) : dIn false (.str x) (.tup (p.marks.map .str)) st = .ok (.bl (decide (x ∈ p.marks))) st := by
  simp [dIn, in_strs]
theorem dead_ok (st : Store) {ps : List Pane} (R : PlanR ps) {p : Pane} (hp : p ∈ ps) : F_is_dead st [encPlan ps, .int p.nm] = .ok (.bl (dead p)) st := by
  have hi : D.imm (.tup (p.marks.map .str)) = true := by simp [List.all_map, Function.comp_def, List.all_eq_true]
  have ho : own (.tup (p.marks.map .str)) = .vl (.tup (p.marks.map .str)) := rfl
  cases h : decide (Str.ofString "asleep" ∈ p.marks) <;> simp [-imm_tup, F_is_dead, B_is_dead, runFn, the_pane_ok st R hp, ix_marks, hi, ho, mem_marks, h, dead]
/-- the pane of a name -/
def pn (ps : List Pane) (n : Int) : Pane := (ps.find? fun p => decide (p.nm = n)).getD ⟨n, none, 0, 0, 0, 0, 0, [], []⟩
theorem pn_of {ps : List Pane} (h : (ps.map (·.nm)).Nodup) {p : Pane} (hp : p ∈ ps) : pn ps p.nm = p := by
  unfold pn
  induction ps with
  | nil => cases hp
  | cons q ps ih =>
    rw [List.map_cons, List.nodup_cons] at h
    rcases List.mem_cons.mp hp with rfl | hp
    · rw [List.find?_cons_of_pos (by simp)]; rfl
    · have hne : q.nm ≠ p.nm := fun e => h.1 (e ▸ List.mem_map_of_mem hp)
      rw [List.find?_cons_of_neg (by simpa using hne)]
      exact ih h.2 hp
theorem Anc.mem {ps : List Pane} {n : Int} {l : List Int} (h : Anc ps n l) : ∀ m ∈ l, ∃ p ∈ ps, p.nm = m := by
  induction h with
  | @root p hp hu => intro m hm; exact ⟨p, hp, (List.mem_singleton.mp hm).symm⟩
  | @step p u l hp hu ha ih =>
    intro m hm
    rcases List.mem_cons.mp hm with rfl | hm
    · exact ⟨p, hp, rfl⟩
    · exact ih m hm
/-- a plan with everybody's way up -/
structure PlanA (ps : List Pane) (up : Int → List Int) : Prop where
  r : PlanR ps
  anc : ∀ p ∈ ps, Anc ps p.nm (up p.nm)
  len : ∀ p ∈ ps, (up p.nm).length ≤ 1000
  ne : ps ≠ []
  nn : ∀ p ∈ ps, 0 ≤ p.nm
section
variable {ps : List Pane} {up : Int → List Int} (P : PlanA ps up) (st : Store)
include P
theorem lives (p : Pane) (hp : p ∈ ps) : F_going_up st [encPlan ps, .int p.nm] = .ok (.lst ((up p.nm).map .int)) st := up_ok st P.r (P.anc p hp) (P.len p hp)
def aliveB (ps : List Pane) (up : Int → List Int) (n : Int) : Bool := (up n).all fun m => !dead (pn ps m)
theorem alive_ok (p : Pane) (hp : p ∈ ps) : F_alive st [encPlan ps, .int p.nm] = .ok (.bl (aliveB ps up p.nm)) st := by
  have h0 := lives P st p hp
  have h1 : eLc (iExp (eCall F_going_up (aCons (eVar 0) (aCons (eVar 1) aNil)))) (.one 2) (tTruth (eCall F_is_dead (aCons (eVar 0) (aCons (eVar 2) aNil)))) (eImm (eVar 2)) st [.vl (encPlan ps), .vl (.int p.nm), .un] = .ok (.lst (((up p.nm).filter fun m => dead (pn ps m)).map .int)) st := by
    refine eLc_of (up p.nm) D.int (fun m => [.vl (encPlan ps), .vl (.int p.nm), .vl (.int m)]) _ _ ?_ (line_ge (by have := P.len p hp; omega)) fun m hm => ⟨rfl, ?_, fun _ => ?_⟩
    · simp [iExp, h0]
    · obtain ⟨q, hq, rfl⟩ := (P.anc p hp).mem m hm
      simp [dead_ok st P.r hq, pn_of P.r.nd hq, D.truth]
    · simp
  have e : decide ((up p.nm).filter (fun m => dead (pn ps m)) = []) = aliveB ps up p.nm := by
    unfold aliveB
    rw [Bool.eq_iff_iff]
    simp [List.filter_eq_nil_iff]
  simp [-List.filter_eq_nil_iff, F_alive, B_alive, runFn, h1, dEq, LINE, e]
/-- the highest of some names, 0 the least -/
def top (ps : List Pane) (up : Int → List Int) : Int := maxI (0 :: (ps.filter fun p => decide (Str.ofString "sheet" ∈ p.marks) && aliveB ps up p.nm).map (·.nm))
theorem top_ok : F_top_sheet st [encPlan ps] = .ok (.int (top ps up)) st := by
  have h1 : eLcV 0 (iVar 0) (.one 1) (Dl.tAnd (tVal (eIn false (eC (.str (Str.ofString "sheet"))) (eIx (eVar 1) (eC (.int 4))))) (tTruth (eCall F_alive (aCons (eVar 0) (aCons (eIx (eVar 1) (eC (.int 0))) aNil))))) (eImm (eIx (eVar 1) (eC (.int 0)))) st [.vl (encPlan ps), .un] =
      .ok (.lst ((ps.filter fun p => decide (Str.ofString "sheet" ∈ p.marks) && aliveB ps up p.nm).map fun p => .int p.nm)) st := by
    rw [eLcV_vl (d := encPlan ps) rfl (by simp [encPlan])]
    refine eLc_of ps encPane (fun q => [.vl (encPlan ps), .vl (encPane q)]) _ _ (iVar_tup _ _ _ _ rfl) (line_ge P.r.len) fun q hq => ⟨rfl, ?_, fun _ => ?_⟩
    · cases hs : decide (Str.ofString "sheet" ∈ q.marks) <;> simp [ix_marks, ix_nm, mem_marks, hs, alive_ok P st q hq, D.truth]
    · simp [ix_nm]
  have e : (ps.filter fun p => decide (Str.ofString "sheet" ∈ p.marks) && aliveB ps up p.nm).map (fun p => D.int p.nm) = ((ps.filter fun p => decide (Str.ofString "sheet" ∈ p.marks) && aliveB ps up p.nm).map (·.nm)).map D.int := by rw [List.map_map]; rfl
  have hl : ((ps.filter fun p => decide (Str.ofString "sheet" ∈ p.marks) && aliveB ps up p.nm).map (·.nm)).length ≤ 1000000 := by
    rw [List.length_map]
    exact Nat.le_trans (List.length_filter_le ..) P.r.len
  rw [e] at h1
  unfold top
  generalize (ps.filter fun p => decide (Str.ofString "sheet" ∈ p.marks) && aliveB ps up p.nm).map (·.nm) = ns at *
  have h2 : dAdd (.lst [.int 0]) (.lst (ns.map D.int)) st = .ok (.lst ((0 :: ns).map D.int)) st := by
    have hi := imms_ints ns
    have hb : 1 + ns.length ≤ LINE := by show _ ≤ 16777216; omega
    simp [dAdd, hi, hb]
  have h3 : dMax1 (.lst ((0 :: ns).map D.int)) st = .ok (.int (maxI (0 :: ns))) st := by
    unfold dMax1
    simp only [intsOf_map]
  rw [List.map_cons] at h2 h3
  simp [F_top_sheet, B_top_sheet, runFn, h1, LINE, h2, h3]
end
end Lw
end
section
set_option maxRecDepth 100000
set_option linter.all false
set_option Elab.async false
set_option maxHeartbeats 1000000
namespace Lw
open PySem Dl
theorem any_ints (x : Int) : ∀ l : List Int, ((l.map D.int).any fun y => feq y (.int x)) = decide (x ∈ l)
  | [] => by simp
  | a :: r => by
    rw [List.map_cons, List.any_cons, any_ints x r]
    by_cases e : a = x
    · subst e; simp [feq]
    · have e' : ¬ x = a := fun h => e h.symm
      simp [feq, e, e']
theorem flat_ints (l : List Int) : (l.map D.int).all D.flat = true := by simp [D.flat]
theorem in_ints (x : Int) (l : List Int) : inD (.int x) (.lst (l.map .int)) = some (decide (x ∈ l)) := by
  simp only [inD, D.flat, flat_ints, Bool.and_self, if_true, any_ints]
theorem in_intsT (x : Int) (l : List Int) : inD (.int x) (.tup (l.map .int)) = some (decide (x ∈ l)) := by
  simp only [inD, D.flat, flat_ints, Bool.and_self, if_true, any_ints]
section
variable {ps : List Pane} {up : Int → List Int} (P : PlanA ps up) (st : Store)
include P
def opensB (ps : List Pane) (up : Int → List Int) (n : Int) : Bool := aliveB ps up n && decide (top ps up ∈ up n)
theorem opens_ok (p : Pane) (hp : p ∈ ps) : F_opens st [encPlan ps, .int p.nm] = .ok (.bl (opensB ps up p.nm)) st := by
  have h1 := alive_ok P st p hp
  have h2 := top_ok P st
  have h3 := lives P st p hp
  cases h : aliveB ps up p.nm <;> simp [F_opens, B_opens, runFn, h1, h2, h3, h, dIn, in_ints, opensB]
def takesB (ps : List Pane) (up : Int → List Int) (p : Pane) : Bool := opensB ps up p.nm && (decide (Str.ofString "stop" ∈ p.marks) || decide (p.nm = top ps up))
theorem takes_ok (p : Pane) (hp : p ∈ ps) : F_takes_keys st [encPlan ps, .int p.nm] = .ok (.bl (takesB ps up p)) st := by
  have h1 := opens_ok P st p hp
  have h2 := top_ok P st
  have h3 := the_pane_ok st P.r hp
  cases h : opensB ps up p.nm <;> cases h' : decide (Str.ofString "stop" ∈ p.marks) <;> simp [F_takes_keys, B_takes_keys, runFn, h1, h2, h3, h, ix_marks, mem_marks, h', dEq, takesB]
end
/-! ### below a name, in order -/
def below (ps : List Pane) (n : Int) : List (Int × Int) := (ps.filter fun p => decide (p.up = some n)).map fun p => (p.turn, p.nm)
def order (ps : List Pane) (n : Int) : List Int := (isort ltP (below ps n)).map (·.2)
theorem pairsOf_map : ∀ l : List (Int × Int), pairsOf (l.map prD) = some l
  | [] => rfl
  | a :: r => by simp [pairsOf, pairOf, prD, pairsOf_map r]
theorem sorted_pairs (l : List (Int × Int)) (st : Store) : dSorted (.lst (l.map prD)) st = .ok (.lst ((isort ltP l).map prD)) st := by
  cases l with
  | nil => rfl
  | cons a r =>
    have e1 : intsOf ((a :: r).map prD) = none := rfl
    have e2 : strsOf ((a :: r).map prD) = none := rfl
    unfold dSorted
    simp only [e1, e2, pairsOf_map]
theorem isort_len {α : Type} (lt : α → α → Bool) : ∀ l : List α, (isort lt l).length = l.length
  | [] => rfl
  | a :: r => by
    have h : ∀ (x : α) (l : List α), (insBy lt x l).length = l.length + 1 := fun x l => by
      induction l with
      | nil => rfl
      | cons y r ih =>
        unfold insBy
        split
        · rw [List.length_cons, ih, List.length_cons]
        · rfl
    unfold isort
    rw [h, isort_len lt r, List.length_cons]
theorem up_eq (u : Option Int) (n : Int) (st : Store) : dEq false (encUp u) (.int n) st = .ok (.bl (decide (u = some n))) st := by
  cases u <;> simp [dEq, encUp]
theorem below_len (ps : List Pane) (n : Int) : (below ps n).length ≤ ps.length := by
  unfold below
  rw [List.length_map]
  exact List.length_filter_le ..
theorem order_ok (st : Store) {ps : List Pane} (hl : ps.length ≤ 1000000) (n : Int) : F_in_order st [encPlan ps, .int n] = .ok (.lst ((order ps n).map .int)) st := by
  have h1 : eLcV 0 (iVar 0) (.one 2) (tVal (eEq false (eIx (eVar 2) (eC (.int 1))) (eVar 1))) (eTup (aCons (eImm (eIx (eVar 2) (eC (.int 3)))) (aCons (eImm (eIx (eVar 2) (eC (.int 0)))) aNil))) st [.vl (encPlan ps), .vl (.int n), .un] = .ok (.lst ((below ps n).map prD)) st := by
    rw [eLcV_vl (d := encPlan ps) rfl (by simp [encPlan])]
    have q := eLc_of (W := iVar 0) (g := .one 2) (T := tVal (eEq false (eIx (eVar 2) (eC (.int 1))) (eVar 1))) (A := eTup (aCons (eImm (eIx (eVar 2) (eC (.int 3)))) (aCons (eImm (eIx (eVar 2) (eC (.int 0)))) aNil))) (env := [.vl (encPlan ps), .vl (.int n), .un]) (st := st)
      ps encPane (fun q => [.vl (encPlan ps), .vl (.int n), .vl (encPane q)]) (fun p => decide (p.up = some n)) (fun p => .tup [.int p.turn, .int p.nm]) (iVar_tup _ _ _ _ rfl) (line_ge hl) fun q hq => ⟨rfl, by simp [ix_up, up_eq], fun _ => by simp [ix_nm, ix_turn, LINE]⟩
    rw [q]
    unfold below
    rw [List.map_map]
    rfl
  have h2 : eLc (iExp (eSorted (eLcV 0 (iVar 0) (.one 2) (tVal (eEq false (eIx (eVar 2) (eC (.int 1))) (eVar 1))) (eTup (aCons (eImm (eIx (eVar 2) (eC (.int 3)))) (aCons (eImm (eIx (eVar 2) (eC (.int 0)))) aNil)))))) (.one 2) tTrue (eImm (eIx (eVar 2) (eC (.int 1)))) st [.vl (encPlan ps), .vl (.int n), .un] = .ok (.lst ((order ps n).map .int)) st := by
    have q := eLc_all (W := iExp (eSorted (eLcV 0 (iVar 0) (.one 2) (tVal (eEq false (eIx (eVar 2) (eC (.int 1))) (eVar 1))) (eTup (aCons (eImm (eIx (eVar 2) (eC (.int 3)))) (aCons (eImm (eIx (eVar 2) (eC (.int 0)))) aNil)))))) (g := .one 2) (A := eImm (eIx (eVar 2) (eC (.int 1)))) (env := [.vl (encPlan ps), .vl (.int n), .un]) (st := st)
      (isort ltP (below ps n)) prD (fun q => [.vl (encPlan ps), .vl (.int n), .vl (prD q)]) (fun q => .int q.2) (by simp [iExp, h1, sorted_pairs]) (line_ge (by rw [isort_len]; exact Nat.le_trans (below_len ps n) hl)) fun q hq => ⟨rfl, by simp [prD, dIx, L2.atI, L2.ixN]⟩
    rw [q]
    unfold order
    rw [List.map_map]
    rfl
  simp [F_in_order, B_in_order, runFn, h2]
end Lw
end
section
set_option maxRecDepth 100000
set_option linter.all false
set_option Elab.async false
set_option maxHeartbeats 1000000
namespace Lw
open PySem Dl
/-- the walk down, from a stack of names (the last one first) -/
inductive Walk (ps : List Pane) : List Int → List Int → Prop
  | nil : Walk ps [] []
  | pop {s l : List Int} {n : Int} : Walk ps (s ++ (order ps n).reverse) l → Walk ps (s ++ [n]) (n :: l)
theorem Walk.le {ps : List Pane} {s l : List Int} (h : Walk ps s l) : s.length ≤ l.length := by
  induction h with
  | nil => exact Nat.le_refl _
  | pop h ih =>
    rw [List.length_append] at ih
    simp only [List.length_append, List.length_cons, List.length_nil]
    omega
theorem walk_loop (st : Store) {ps : List Pane} (hp : ps.length ≤ 1000000) (n0 : Int) {s l : List Int} (h : Walk ps s l) : ∀ (acc : List Int) (x : Sl), acc.length + l.length ≤ 1000000 → ∀ k, ∃ y : Sl,
    whileGo (tVal (eEq true (eVar 3) (eLst aNil))) (sSeq (sSetPop 4 3) (sSeq (sApp 2 (eImm (eVar 4))) (sExt 3 (eRev (eCall F_in_order (aCons (eVar 0) (aCons (eVar 4) aNil))))))) (l.length + 1 + k) st [.vl (encPlan ps), .vl (.int n0), .ow (.lst (acc.map .int)), .ow (.lst (s.map .int)), x] =
      .nx st [.vl (encPlan ps), .vl (.int n0), .ow (.lst ((acc ++ l).map .int)), .ow (.lst []), y] := by
  induction h with
  | nil =>
    intro acc x hl k
    refine ⟨x, ?_⟩
    have e : ([] : List Int).length + 1 + k = k + 1 := by simp; omega
    have d0 : deq (.lst []) (.lst []) = some true := deq_ints0 []
    rw [e, while_f (st' := st) k (by simp [dEq, d0])]
    simp
  | @pop s l n h ih =>
    intro acc x hl k
    rw [List.length_cons] at hl
    obtain ⟨y, q⟩ := ih (acc ++ [n]) (.vl (.int n)) (by simp; omega) k
    refine ⟨y, ?_⟩
    have e : (n :: l).length + 1 + k = (l.length + 1 + k) + 1 := by simp; omega
    have hw := h.le
    rw [List.length_append, List.length_reverse] at hw
    have l1 : acc.length < LINE := by show _ < 16777216; omega
    have l2 : s.length + (order ps n).length ≤ LINE := by show _ ≤ 16777216; omega
    have ho := order_ok st hp n
    have hr : dRev (.lst ((order ps n).map .int)) st = .ok (.lst ((order ps n).reverse.map .int)) st := by
      have hi := imms_ints (order ps n)
      unfold dRev
      simp only [hi, if_true, List.map_reverse]
    have hi2 := imms_ints (order ps n).reverse
    rw [e, while_t (st' := st) (st2 := st) (env2 := [.vl (encPlan ps), .vl (.int n0), .ow (.lst ((acc ++ [n]).map .int)), .ow (.lst ((s ++ (order ps n).reverse).map .int)), .vl (.int n)]) _ ?_ ?_, q]
    · rw [List.append_assoc]; rfl
    · have hn : decide (s ++ [n] = []) = false := by simp
      have hd := deq_ints0 (s ++ [n])
      simp only [x_tVal, x_Eq, x_Var, List.getD_cons_zero, List.getD_cons_succ, x_Lst, x_Nil, Out.bind, List.length_nil, Nat.zero_le, if_true, dEq, hd, hn]
      rfl
    · have hp1 : sSetPop 4 3 st [.vl (encPlan ps), .vl (.int n0), .ow (.lst (acc.map .int)), .ow (.lst ((s ++ [n]).map .int)), x] = .nx st [.vl (encPlan ps), .vl (.int n0), .ow (.lst (acc.map .int)), .ow (.lst (s.map .int)), .vl (.int n)] := by
        simp [sSetPop, popTo, ownL]
      have hp2 : sApp 2 (eImm (eVar 4)) st [.vl (encPlan ps), .vl (.int n0), .ow (.lst (acc.map .int)), .ow (.lst (s.map .int)), .vl (.int n)] = .nx st [.vl (encPlan ps), .vl (.int n0), .ow (.lst ((acc ++ [n]).map .int)), .ow (.lst (s.map .int)), .vl (.int n)] := by
        simp [x_App, ownL, l1]
      have hp3 : sExt 3 (eRev (eCall F_in_order (aCons (eVar 0) (aCons (eVar 4) aNil)))) st [.vl (encPlan ps), .vl (.int n0), .ow (.lst ((acc ++ [n]).map .int)), .ow (.lst (s.map .int)), .vl (.int n)] = .nx st [.vl (encPlan ps), .vl (.int n0), .ow (.lst ((acc ++ [n]).map .int)), .ow (.lst ((s ++ (order ps n).reverse).map .int)), .vl (.int n)] := by
        have l3 : (s.map D.int).length + ((order ps n).reverse.map D.int).length ≤ LINE := by simpa using l2
        unfold sExt
        simp only [ownL, List.getD_cons_zero, List.getD_cons_succ, x_Rev, x_Call, x_Cons, x_Var, x_Nil, Out.bind, ho, hr, stm_ok, hi2, l3, decide_true, Bool.and_self, if_true]
        simp
      simp only [x_Seq, hp1, thn_nx, hp2, hp3]
theorem walked_ok (st : Store) {ps : List Pane} (hp : ps.length ≤ 1000000) {n : Int} {l : List Int} (h : Walk ps [n] l) (hl : l.length ≤ 1000) : F_walked st [encPlan ps, .int n] = .ok (.lst (l.map .int)) st := by
  obtain ⟨y, q⟩ := walk_loop st hp n h [] .un (by simp; omega) 0
  have h3 := fun k => walk_loop st hp n h [] .un (by simp; omega) k
  have hw : ∃ y, sWhile (tVal (eEq true (eVar 3) (eLst aNil))) (sSeq (sSetPop 4 3) (sSeq (sApp 2 (eImm (eVar 4))) (sExt 3 (eRev (eCall F_in_order (aCons (eVar 0) (aCons (eVar 4) aNil))))))) st [.vl (encPlan ps), .vl (.int n), .ow (.lst []), .ow (.lst [.int n]), .un] = .nx st [.vl (encPlan ps), .vl (.int n), .ow (.lst (l.map .int)), .ow (.lst []), y] := by
    unfold sWhile TURNS
    have e : 1000000000 = l.length + 1 + (1000000000 - (l.length + 1)) := by omega
    obtain ⟨y, q⟩ := h3 (1000000000 - (l.length + 1))
    rw [← e] at q
    exact ⟨y, q⟩
  obtain ⟨y, q⟩ := hw
  have ho1 : own (.lst []) = .ow (.lst []) := rfl
  have ho2 : own (.lst [.int n]) = .ow (.lst [.int n]) := rfl
  simp [F_walked, B_walked, runFn, LINE, ho1, ho2, q]
end Lw
end
section
set_option maxRecDepth 100000
set_option linter.all false
set_option Elab.async false
set_option maxHeartbeats 1000000
namespace Lw
open PySem Dl
/-- a for that leaves at the first item found -/
theorem forGo_find {α : Type} {g : Tg} {B : Sv} {st : Store} {c : α → D} {e : Sl → En} {t : α → Bool} {f : α → D} : ∀ {l : List α} (x : Sl), (∀ a ∈ l, ∀ x, g.set (c a) (e x) = some (e (.vl (c a))) ∧ B st (e (.vl (c a))) = if t a = true then .rt (f a) st else .nx st (e (.vl (c a)))) →
    (∀ a, l.find? t = some a → forGo g B (l.map c) st (e x) = .rt (f a) st) ∧ (l.find? t = none → ∃ y, forGo g B (l.map c) st (e x) = .nx st (e y))
  | [], x, _ => ⟨(fun a h => by cases h), fun _ => ⟨x, rfl⟩⟩
  | d :: ds, x, h => by
    obtain ⟨h1, h2⟩ := h d List.mem_cons_self x
    obtain ⟨i1, i2⟩ := forGo_find (l := ds) (.vl (c d)) fun d' m => h d' (List.mem_cons_of_mem _ m)
    cases ht : t d with
    | true =>
      rw [ht, if_pos rfl] at h2
      refine ⟨fun a ha => ?_, fun hn => ?_⟩
      · rw [List.find?_cons_of_pos ht] at ha
        cases ha
        rw [List.map_cons]
        unfold forGo
        simp only [h1, h2]
      · rw [List.find?_cons_of_pos ht] at hn; cases hn
    | false =>
      rw [ht, if_neg (by simp)] at h2
      refine ⟨fun a ha => ?_, fun hn => ?_⟩
      · rw [List.find?_cons_of_neg (by simp [ht])] at ha
        rw [List.map_cons]
        unfold forGo
        simp only [h1, h2]
        exact i1 a ha
      · rw [List.find?_cons_of_neg (by simp [ht])] at hn
        rw [List.map_cons]
        unfold forGo
        simp only [h1, h2]
        exact i2 hn
/-- a plan with everybody's way up and walk down -/
structure PlanB (ps : List Pane) (up w : Int → List Int) : Prop where
  a : PlanA ps up
  walk : ∀ p ∈ ps, Walk ps [p.nm] (w p.nm)
  wl : ∀ p ∈ ps, (w p.nm).length ≤ 1000
theorem insBy_mem {α : Type} (lt : α → α → Bool) (x y : α) : ∀ l : List α, y ∈ insBy lt x l → y = x ∨ y ∈ l
  | [], h => by simpa [insBy] using h
  | z :: r, h => by
    unfold insBy at h
    split at h
    · rcases List.mem_cons.mp h with rfl | h
      · exact .inr List.mem_cons_self
      · exact (insBy_mem lt x y r h).imp id (List.mem_cons_of_mem _)
    · exact List.mem_cons.mp h
theorem isort_mem {α : Type} (lt : α → α → Bool) (y : α) : ∀ l : List α, y ∈ isort lt l → y ∈ l
  | [], h => h
  | z :: r, h => by
    unfold isort at h
    rcases insBy_mem lt z y _ h with rfl | h
    · exact List.mem_cons_self
    · exact List.mem_cons_of_mem _ (isort_mem lt y r h)
theorem order_mem {ps : List Pane} {n m : Int} (h : m ∈ order ps n) : ∃ p ∈ ps, p.nm = m ∧ p.up = some n := by
  unfold order at h
  obtain ⟨q, hq, rfl⟩ := List.mem_map.mp h
  have := isort_mem _ _ _ hq
  unfold below at this
  obtain ⟨p, hp, rfl⟩ := List.mem_map.mp this
  obtain ⟨h1, h2⟩ := List.mem_filter.mp hp
  exact ⟨p, h1, rfl, by simpa using h2⟩
theorem Walk.mem {ps : List Pane} {s l : List Int} (h : Walk ps s l) : (∀ m ∈ s, ∃ p ∈ ps, p.nm = m) → ∀ m ∈ l, ∃ p ∈ ps, p.nm = m := by
  induction h with
  | nil => intro _ m hm; cases hm
  | @pop s l n h ih =>
    intro hs m hm
    rcases List.mem_cons.mp hm with rfl | hm
    · exact hs _ (by simp)
    · refine ih (fun m hm => ?_) m hm
      rcases List.mem_append.mp hm with hm | hm
      · exact hs m (List.mem_append_left _ hm)
      · obtain ⟨p, hp, e, _⟩ := order_mem (List.mem_reverse.mp hm)
        exact ⟨p, hp, e⟩
section
variable {ps : List Pane} {up w : Int → List Int} (P : PlanB ps up w) (st : Store)
include P
theorem wmem (p : Pane) (hp : p ∈ ps) : ∀ m ∈ w p.nm, ∃ q ∈ ps, q.nm = m := (P.walk p hp).mem fun m hm => by
  rw [List.mem_singleton] at hm
  exact ⟨p, hp, hm.symm⟩
def stopB (ps : List Pane) (up : Int → List Int) (m : Int) : Bool := decide (Str.ofString "stop" ∈ (pn ps m).marks) && opensB ps up m
def stopsL (ps : List Pane) (up w : Int → List Int) (n : Int) : List Int := (w n).filter (stopB ps up)
theorem stops_in_ok (p : Pane) (hp : p ∈ ps) : F_stops_in st [encPlan ps, .int p.nm] = .ok (.lst ((stopsL ps up w p.nm).map .int)) st := by
  have h0 := walked_ok st P.a.r.len (P.walk p hp) (P.wl p hp)
  have h1 : eLc (iExp (eCall F_walked (aCons (eVar 0) (aCons (eVar 1) aNil)))) (.one 2) (Dl.tAnd (tVal (eIn false (eC (.str (Str.ofString "stop"))) (eIx (eCall F_the_pane (aCons (eVar 0) (aCons (eVar 2) aNil))) (eC (.int 4))))) (tTruth (eCall F_opens (aCons (eVar 0) (aCons (eVar 2) aNil))))) (eImm (eVar 2)) st [.vl (encPlan ps), .vl (.int p.nm), .un] = .ok (.lst ((stopsL ps up w p.nm).map .int)) st := by
    refine eLc_of (w p.nm) D.int (fun m => [.vl (encPlan ps), .vl (.int p.nm), .vl (.int m)]) _ _ ?_ (line_ge (by have := P.wl p hp; omega)) fun m hm => ⟨rfl, ?_, fun _ => ?_⟩
    · simp [iExp, h0]
    · obtain ⟨q, hq, rfl⟩ := wmem P p hp m hm
      have k1 := the_pane_ok st P.a.r hq
      have k2 := opens_ok P.a st q hq
      unfold stopB
      rw [pn_of P.a.r.nd hq]
      cases hs : decide (Str.ofString "stop" ∈ q.marks) <;> simp [k1, k2, ix_marks, mem_marks, hs, D.truth]
    · simp
  simp [F_stops_in, B_stops_in, runFn, h1]
def fieldL (ps : List Pane) (up : Int → List Int) (n : Int) : Int := ((up n).find? fun m => decide (Str.ofString "hold" ∈ (pn ps m).marks)).getD (top ps up)
theorem field_ok (p : Pane) (hp : p ∈ ps) : F_field_in st [encPlan ps, .int p.nm] = .ok (.int (fieldL ps up p.nm)) st := by
  have h0 := lives P.a st p hp
  have h2 := top_ok P.a st
  have hb : ∀ a ∈ up p.nm, ∀ x, (Tg.one 2).set (D.int a) [.vl (encPlan ps), .vl (.int p.nm), x] = some [.vl (encPlan ps), .vl (.int p.nm), .vl (.int a)] ∧
      sIf (tVal (eIn false (eC (.str (Str.ofString "hold"))) (eIx (eCall F_the_pane (aCons (eVar 0) (aCons (eVar 2) aNil))) (eC (.int 4))))) (sRetVar 2) sPass st [.vl (encPlan ps), .vl (.int p.nm), .vl (.int a)] = if decide (Str.ofString "hold" ∈ (pn ps a).marks) = true then .rt (.int a) st else .nx st [.vl (encPlan ps), .vl (.int p.nm), .vl (.int a)] := fun a ha x => by
    obtain ⟨q, hq, rfl⟩ := (P.a.anc p hp).mem a ha
    refine ⟨rfl, ?_⟩
    rw [pn_of P.a.r.nd hq]
    have k1 := the_pane_ok st P.a.r hq
    cases hs : decide (Str.ofString "hold" ∈ q.marks) <;> simp [k1, ix_marks, mem_marks, hs]
  obtain ⟨f1, f2⟩ := forGo_find (g := .one 2) (B := sIf (tVal (eIn false (eC (.str (Str.ofString "hold"))) (eIx (eCall F_the_pane (aCons (eVar 0) (aCons (eVar 2) aNil))) (eC (.int 4))))) (sRetVar 2) sPass) (st := st) (c := D.int) (e := fun x => [.vl (encPlan ps), .vl (.int p.nm), x])
    (t := fun m => decide (Str.ofString "hold" ∈ (pn ps m).marks)) (f := D.int) (l := up p.nm) .un hb
  have hi : iExp (eCall F_going_up (aCons (eVar 0) (aCons (eVar 1) aNil))) st [.vl (encPlan ps), .vl (.int p.nm), .un] = .ok ((up p.nm).map .int) st := by simp [iExp, h0]
  unfold fieldL
  cases hf : (up p.nm).find? fun m => decide (Str.ofString "hold" ∈ (pn ps m).marks) with
  | some a => simp [F_field_in, B_field_in, runFn, sFor, frz, hi, f1 a hf]
  | none =>
    obtain ⟨y, q⟩ := f2 hf
    simp [F_field_in, B_field_in, runFn, sFor, frz, hi, q, h2]
end
end Lw
end
section
set_option maxRecDepth 100000
set_option linter.all false
set_option Elab.async false
set_option maxHeartbeats 1000000
namespace Lw
open PySem Dl
/-- the last name marked one on the way up to f -/
def grp (ps : List Pane) (f : Int) : List Int → Option Int → Option Int
  | [], g => g
  | m :: r, g => if m = f then (if Str.ofString "one" ∈ (pn ps m).marks then some m else g) else grp ps f r (if Str.ofString "one" ∈ (pn ps m).marks then some m else g)
theorem names_ok (st : Store) {ps : List Pane} (R : PlanR ps) (env : En) (h : env.getD 0 .un = .vl (encPlan ps)) (k : Nat) (hk : k < env.length) (hk0 : k ≠ 0) : eLcV 0 (iVar 0) (.one k) tTrue (eImm (eIx (eVar k) (eC (.int 0)))) st env = .ok (.lst ((ps.map (·.nm)).map .int)) st := by
  rw [eLcV_vl (d := encPlan ps) h (by simp [encPlan])]
  have q := eLc_all (W := iVar 0) (g := .one k) (A := eImm (eIx (eVar k) (eC (.int 0)))) (env := env) (st := st) ps encPane (fun p => (wipeE env [k]).set k (.vl (encPane p))) (fun p => .int p.nm) (iVar_tup _ _ _ _ h) (line_ge R.len) fun p hp => ⟨rfl, by
    have e : ((wipeE env [k]).set k (.vl (encPane p))).getD k .un = .vl (encPane p) := by
      rw [getD_set, if_pos ⟨rfl, by simp [wipeE, hk]⟩]
    simp only [x_Imm, x_Ix, x_Var, e, x_C, Out.bind, ix_nm, imm_int, if_true]⟩
  rw [q, List.map_map]
  rfl
theorem has_name_ok (st : Store) {ps : List Pane} (R : PlanR ps) (n : Int) : F_has_name st [encPlan ps, .int n] = .ok (.bl ((decide (0 ≤ n) && decide (n ≤ 1000000)) && decide (n ∈ ps.map (·.nm)))) st := by
  have h1 := names_ok st R [.vl (encPlan ps), .vl (.int n), .un] rfl 2 (by simp) (by simp)
  cases h : (decide (0 ≤ n) && decide (n ≤ 1000000)) <;> simp [-List.map_map, -List.mem_map, F_has_name, B_has_name, runFn, name_ok, h, h1, dIn, in_ints]
section
variable {ps : List Pane} {up w : Int → List Int} (P : PlanB ps up w) (st : Store)
include P
theorem group_loop (f n : Int) : ∀ (l : List Int), (∀ m ∈ l, ∃ p ∈ ps, p.nm = m) → ∀ (g : Option Int) (x : Sl),
    (forGo (.one 4) (sSeq (sIf (tVal (eIn false (eC (.str (Str.ofString "one"))) (eIx (eCall F_the_pane (aCons (eVar 0) (aCons (eVar 4) aNil))) (eC (.int 4))))) (sSet 3 (eImm (eVar 4))) sPass)
      (sIf (tVal (eEq false (eVar 4) (eVar 1))) (sRetVar 3) sPass)) (l.map .int) st [.vl (encPlan ps), .vl (.int f), .vl (.int n), .vl (encUp g), x]).thn (sRetVar 3) = .rt (encUp (grp ps f l g)) st
  | [], _, g, x => by simp [forGo, grp]
  | m :: r, hm, g, x => by
    obtain ⟨q, hq, hqm⟩ := hm m List.mem_cons_self
    have ih := fun g x => group_loop f n r (fun m' h => hm m' (List.mem_cons_of_mem _ h)) g x
    have k1 := the_pane_ok st P.a.r hq
    rw [hqm] at k1
    have hp : pn ps m = q := by rw [← hqm]; exact pn_of P.a.r.nd hq
    rw [List.map_cons]
    unfold forGo grp
    rw [hp]
    have e1 : (Tg.one 4).set (.int m) [.vl (encPlan ps), .vl (.int f), .vl (.int n), .vl (encUp g), x] = some [.vl (encPlan ps), .vl (.int f), .vl (.int n), .vl (encUp g), .vl (.int m)] := rfl
    have ou : ∀ u : Option Int, (match (Sl.vl (encUp u)) with | .ow d => SOut.rt d st | .vl d => if d.imm then .rt d st else .bad | .un => .bad) = .rt (encUp u) st := fun u => by simp
    by_cases ho : Str.ofString "one" ∈ q.marks
    · have s1 : sIf (tVal (eIn false (eC (.str (Str.ofString "one"))) (eIx (eCall F_the_pane (aCons (eVar 0) (aCons (eVar 4) aNil))) (eC (.int 4))))) (sSet 3 (eImm (eVar 4))) sPass st [.vl (encPlan ps), .vl (.int f), .vl (.int n), .vl (encUp g), .vl (.int m)] = .nx st [.vl (encPlan ps), .vl (.int f), .vl (.int n), .vl (encUp (some m)), .vl (.int m)] := by
        simp [k1, ix_marks, mem_marks, ho, own, encUp]
      by_cases hf : m = f
      · subst hf
        simp only [e1, x_Seq, s1, thn_nx, if_pos ho, if_pos]
        simp [dEq]
      · have ih' := ih (some m) (.vl (.int m))
        have s2 : sIf (tVal (eEq false (eVar 4) (eVar 1))) (sRetVar 3) sPass st [.vl (encPlan ps), .vl (.int f), .vl (.int n), .vl (encUp (some m)), .vl (.int m)] = .nx st [.vl (encPlan ps), .vl (.int f), .vl (.int n), .vl (encUp (some m)), .vl (.int m)] := by
          simp [dEq, hf]
        simp only [e1, x_Seq, s1, thn_nx, if_pos ho, if_neg hf, s2]
        exact ih'
    · have s1 : sIf (tVal (eIn false (eC (.str (Str.ofString "one"))) (eIx (eCall F_the_pane (aCons (eVar 0) (aCons (eVar 4) aNil))) (eC (.int 4))))) (sSet 3 (eImm (eVar 4))) sPass st [.vl (encPlan ps), .vl (.int f), .vl (.int n), .vl (encUp g), .vl (.int m)] = .nx st [.vl (encPlan ps), .vl (.int f), .vl (.int n), .vl (encUp g), .vl (.int m)] := by
        simp [k1, ix_marks, mem_marks, ho]
      by_cases hf : m = f
      · subst hf
        simp only [e1, x_Seq, s1, thn_nx, if_neg ho, if_pos]
        simp [dEq]
      · have ih' := ih g (.vl (.int m))
        have s2 : sIf (tVal (eEq false (eVar 4) (eVar 1))) (sRetVar 3) sPass st [.vl (encPlan ps), .vl (.int f), .vl (.int n), .vl (encUp g), .vl (.int m)] = .nx st [.vl (encPlan ps), .vl (.int f), .vl (.int n), .vl (encUp g), .vl (.int m)] := by
          simp [dEq, hf]
        simp only [e1, x_Seq, s1, thn_nx, if_neg ho, if_neg hf, s2]
        exact ih'
theorem group_ok (f : Int) (p : Pane) (hp : p ∈ ps) : F_group_in st [encPlan ps, .int f, .int p.nm] = .ok (encUp (grp ps f (up p.nm) none)) st := by
  have h0 := lives P.a st p hp
  have q := group_loop P st f p.nm (up p.nm) ((P.a.anc p hp).mem) none .un
  have hi : iExp (eCall F_going_up (aCons (eVar 0) (aCons (eVar 2) aNil))) st [.vl (encPlan ps), .vl (.int f), .vl (.int p.nm), .vl .non, .un] = .ok ((up p.nm).map .int) st := by simp [iExp, h0]
  have hs : own .non = .vl .non := rfl
  have q2 : sSeq (sFor [] (iExp (eCall F_going_up (aCons (eVar 0) (aCons (eVar 2) aNil)))) (.one 4) (sSeq (sIf (tVal (eIn false (eC (.str (Str.ofString "one"))) (eIx (eCall F_the_pane (aCons (eVar 0) (aCons (eVar 4) aNil))) (eC (.int 4))))) (sSet 3 (eImm (eVar 4))) sPass)
      (sIf (tVal (eEq false (eVar 4) (eVar 1))) (sRetVar 3) sPass))) (sRetVar 3) st [.vl (encPlan ps), .vl (.int f), .vl (.int p.nm), .vl .non, .un] = .rt (encUp (grp ps f (up p.nm) none)) st := by
    have ef : frz [] [.vl (encPlan ps), .vl (.int f), .vl (.int p.nm), .vl .non, .un] = [.vl (encPlan ps), .vl (.int f), .vl (.int p.nm), .vl .non, .un] := rfl
    simp only [x_Seq, sFor, ef, hi, stm_ok]
    exact q
  simp only [F_group_in, B_group_in, runFn, List.length_cons, List.length_nil, if_true, List.map_cons, List.map_nil, List.replicate, List.cons_append, List.nil_append]
  rw [x_Seq]
  simp only [x_Set, x_C, stm_ok, hs, thn_nx, List.set_cons_succ, List.set_cons_zero, q2]
end
end Lw
end
section
set_option maxRecDepth 100000
set_option linter.all false
set_option Elab.async false
set_option maxHeartbeats 1000000
namespace Lw
open PySem Dl
def chosenL (row mem : List Int) : Int := (row.reverse.find? fun n => decide (n ∈ mem)).getD (mem.headD 0)
theorem chosen_ok (st : Store) (row mem : List Int) (hm : mem ≠ []) : F_chosen_of st [.tup (row.map .int), .lst (mem.map .int)] = .ok (.int (chosenL row mem)) st := by
  have hi : iExp (eRev (eVar 0)) st [.vl (.tup (row.map .int)), .vl (.lst (mem.map .int)), .un] = .ok (row.reverse.map .int) st := by
    have h := imms_ints row
    simp only [iExp, x_Rev, x_Var, List.getD_cons_zero, Out.bind, dRev, h, if_true, List.map_reverse]
  have hb : ∀ a ∈ row.reverse, ∀ x, (Tg.one 2).set (D.int a) [.vl (.tup (row.map .int)), .vl (.lst (mem.map .int)), x] = some [.vl (.tup (row.map .int)), .vl (.lst (mem.map .int)), .vl (.int a)] ∧
      sIf (tVal (eIn false (eVar 2) (eVar 1))) (sRetVar 2) sPass st [.vl (.tup (row.map .int)), .vl (.lst (mem.map .int)), .vl (.int a)] = if decide (a ∈ mem) = true then .rt (.int a) st else .nx st [.vl (.tup (row.map .int)), .vl (.lst (mem.map .int)), .vl (.int a)] := fun a _ x => by
    refine ⟨rfl, ?_⟩
    cases h : decide (a ∈ mem) <;> simp [dIn, in_ints, h]
  obtain ⟨f1, f2⟩ := forGo_find (g := .one 2) (B := sIf (tVal (eIn false (eVar 2) (eVar 1))) (sRetVar 2) sPass) (st := st) (c := D.int) (e := fun x => [.vl (.tup (row.map .int)), .vl (.lst (mem.map .int)), x]) (t := fun n => decide (n ∈ mem)) (f := D.int) (l := row.reverse) .un hb
  unfold chosenL
  cases hf : row.reverse.find? fun n => decide (n ∈ mem) with
  | some a => simp [-List.map_reverse, F_chosen_of, B_chosen_of, runFn, sFor, frz, hi, f1 a hf]
  | none =>
    obtain ⟨y, q⟩ := f2 hf
    cases mem with
    | nil => exact absurd rfl hm
    | cons m r =>
      have hx : dIx (.lst ((m :: r).map .int)) (.int 0) st = .ok (.int m) st := by simp [dIx, L2.atI, L2.ixN]
      generalize (m :: r).map D.int = L at q hx hi ⊢
      simp [-List.map_reverse, F_chosen_of, B_chosen_of, runFn, sFor, frz, hi, q, hx]
/-! ### a row -/
structure RowOk (ps : List Pane) (up : Int → List Int) (row : List Int) : Prop where
  ne : row ≠ []
  nd : row.Nodup
  mem : ∀ n ∈ row, ∃ p ∈ ps, p.nm = n
  last : ∃ p ∈ ps, row.getLast? = some p.nm ∧ takesB ps up p = true
  len : row.length ≤ 1000
theorem atI_last (row : List Int) (n : Int) (h : row.getLast? = some n) : L2.atI (row.map D.int) (-1) = some (.int n) := by
  have hl : 0 < row.length := by
    cases row with
    | nil => simp at h
    | cons a r => simp
  unfold L2.atI L2.ixN
  rw [if_neg (by omega), if_pos (by rw [List.length_map]; omega)]
  rw [List.getLast?_eq_getElem?] at h
  have e : (-1 + ((row.map D.int).length : Int)).toNat = row.length - 1 := by rw [List.length_map]; omega
  simp only [Option.bind, e, List.getElem?_map, h]
  rfl
theorem uniqI_nd : ∀ {l : List Int}, l.Nodup → (uniqI l).length = l.length
  | [], _ => rfl
  | a :: r, h => by
    rw [List.nodup_cons] at h
    unfold uniqI
    rw [if_neg h.1, List.length_cons, uniqI_nd h.2, List.length_cons]
section
variable {ps : List Pane} {up w : Int → List Int} (P : PlanB ps up w) (st : Store)
include P
theorem row_ok (hn : ∀ p ∈ ps, p.nm ≤ 1000000) (row : List Int) (h : RowOk ps up row) : F_is_row_of st [encPlan ps, .tup (row.map .int)] = .ok (.bl true) st := by
  have h1 : eLcV 1 (iVar 1) (.one 2) tTrue (eCall F_has_name (aCons (eVar 0) (aCons (eVar 2) aNil))) st [.vl (encPlan ps), .vl (.tup (row.map .int)), .un] = .ok (.lst (row.map fun _ => .bl true)) st := by
    rw [eLcV_vl (d := .tup (row.map .int)) rfl (by simp)]
    refine eLc_all row D.int (fun n => [.vl (encPlan ps), .vl (.tup (row.map .int)), .vl (.int n)]) _ (iVar_tup _ _ _ _ rfl) (line_ge (by have := h.len; omega)) fun n hr => ⟨rfl, ?_⟩
    obtain ⟨p, hp, rfl⟩ := h.mem n hr
    have m : p.nm ∈ ps.map (·.nm) := List.mem_map_of_mem hp
    have k := has_name_ok st P.a.r p.nm
    have a1 := P.a.nn p hp
    have a2 := hn p hp
    simp [-List.mem_map, k, m, a1, a2]
  have h2 := all_true row st
  obtain ⟨p, hp, hl, ht⟩ := h.last
  have h3 := takes_ok P.a st p hp
  have hlen : ¬ ((row.length : Int) < 1) := by
    have := h.ne
    cases row with
    | nil => exact absurd rfl this
    | cons a r => simp; omega
  have h4 : dLenSet (.tup (row.map .int)) st = .ok (.int row.length) st := by
    have : row.length ≤ 4000 := by have := h.len; omega
    simp [dLenSet, this, uniqI_nd h.nd]
  have h5 : dIx (.tup (row.map .int)) (.int (-1)) st = .ok (.int p.nm) st := by
    simp only [dIx, atI_last row p.nm hl]
  have x6 : ∀ A env, eLenSet A st env = (A st env).bind fun x st => dLenSet x st := fun _ _ => rfl
  simp [F_is_row_of, B_is_row_of, runFn, h1, h2, dIsi, Ty.has, D.truth, dLen, cmD, Cm.int, hlen, x6, h4, dEq, dNeg, h5, h3, ht]
end
end Lw
end
section
set_option maxRecDepth 100000
set_option linter.all false
set_option Elab.async false
set_option maxHeartbeats 1000000
namespace Lw
open PySem Dl
theorem deq_up (a b : Option Int) : deq (encUp a) (encUp b) = some (decide (a = b)) := by
  cases a <;> cases b <;> simp [encUp]
section
variable {ps : List Pane} {up w : Int → List Int} (P : PlanB ps up w) (st : Store)
include P
def grpOf (ps : List Pane) (up : Int → List Int) (f m : Int) : Option Int := grp ps f (up m) none
def lotOf (ps : List Pane) (up : Int → List Int) (f : Int) (stops : List Int) (m : Int) : List Int := stops.filter fun o => decide (grpOf ps up f o = grpOf ps up f m)
def keepB (ps : List Pane) (up : Int → List Int) (f : Int) (stops row : List Int) (m : Int) : Bool := decide (grpOf ps up f m = none) || decide (m = chosenL row (lotOf ps up f stops m))
def roundL (ps : List Pane) (up w : Int → List Int) (row : List Int) (n : Int) : List Int := (stopsL ps up w (fieldL ps up n)).filter (keepB ps up (fieldL ps up n) (stopsL ps up w (fieldL ps up n)) row)
def pairG (ps : List Pane) (up : Int → List Int) (f m : Int) : D := .tup [.int m, encUp (grpOf ps up f m)]
theorem round_loop (f : Int) (row stops : List Int) (hl : stops.length ≤ 1000) : ∀ (l : List Int), (∀ m ∈ l, m ∈ stops) → ∀ (acc : List Int) (x y : Sl), acc.length + l.length ≤ 1000 → ∃ x' y',
    forGo (.tup [4, 6]) (sIf (Dl.tOr (tVal (eIsN false (eVar 6))) (tVal (eEq false (eVar 4) (eCall F_chosen_of (aCons (eVar 1) (aCons (eLcV 3 (iVar 3) (.tup [7, 8]) (tVal (eEq false (eVar 8) (eVar 6))) (eImm (eVar 7))) aNil)))))) (sApp 5 (eImm (eVar 4))) sPass) (l.map (pairG ps up f)) st
      [.vl (encPlan ps), .vl (.tup (row.map .int)), .vl (.int f), .vl (.lst (stops.map (pairG ps up f))), x, .ow (.lst (acc.map .int)), y, .un, .un] =
    .nx st [.vl (encPlan ps), .vl (.tup (row.map .int)), .vl (.int f), .vl (.lst (stops.map (pairG ps up f))), x', .ow (.lst ((acc ++ l.filter (keepB ps up f stops row)).map .int)), y', .un, .un]
  | [], _, acc, x, y, _ => ⟨x, y, by simp [forGo]⟩
  | m :: r, hm, acc, x, y, ha => by
    rw [List.length_cons] at ha
    have e1 : (Tg.tup [4, 6]).set (pairG ps up f m) [.vl (encPlan ps), .vl (.tup (row.map .int)), .vl (.int f), .vl (.lst (stops.map (pairG ps up f))), x, .ow (.lst (acc.map .int)), y, .un, .un] = some [.vl (encPlan ps), .vl (.tup (row.map .int)), .vl (.int f), .vl (.lst (stops.map (pairG ps up f))), .vl (.int m), .ow (.lst (acc.map .int)), .vl (encUp (grpOf ps up f m)), .un, .un] := rfl
    have hlc : eLcV 3 (iVar 3) (.tup [7, 8]) (tVal (eEq false (eVar 8) (eVar 6))) (eImm (eVar 7)) st [.vl (encPlan ps), .vl (.tup (row.map .int)), .vl (.int f), .vl (.lst (stops.map (pairG ps up f))), .vl (.int m), .ow (.lst (acc.map .int)), .vl (encUp (grpOf ps up f m)), .un, .un] = .ok (.lst ((lotOf ps up f stops m).map .int)) st := by
      rw [eLcV_vl (d := .lst (stops.map (pairG ps up f))) rfl (by simp)]
      exact eLc_of stops (pairG ps up f) (fun o => [.vl (encPlan ps), .vl (.tup (row.map .int)), .vl (.int f), .vl (.lst (stops.map (pairG ps up f))), .vl (.int m), .ow (.lst (acc.map .int)), .vl (encUp (grpOf ps up f m)), .vl (.int o), .vl (encUp (grpOf ps up f o))]) _ _ (iVar_lst _ _ _ _ rfl) (line_ge (by omega)) fun o ho => ⟨rfl, by simp [dEq, deq_up], fun _ => by simp⟩
    have hne : lotOf ps up f stops m ≠ [] := fun e => by
      have : m ∈ lotOf ps up f stops m := List.mem_filter.mpr ⟨hm m List.mem_cons_self, by simp⟩
      rw [e] at this; cases this
    have hc := chosen_ok st row (lotOf ps up f stops m) hne
    have hlen : acc.length < LINE := by show _ < 16777216; omega
    have s1 : sIf (Dl.tOr (tVal (eIsN false (eVar 6))) (tVal (eEq false (eVar 4) (eCall F_chosen_of (aCons (eVar 1) (aCons (eLcV 3 (iVar 3) (.tup [7, 8]) (tVal (eEq false (eVar 8) (eVar 6))) (eImm (eVar 7))) aNil)))))) (sApp 5 (eImm (eVar 4))) sPass st
        [.vl (encPlan ps), .vl (.tup (row.map .int)), .vl (.int f), .vl (.lst (stops.map (pairG ps up f))), .vl (.int m), .ow (.lst (acc.map .int)), .vl (encUp (grpOf ps up f m)), .un, .un] =
        .nx st [.vl (encPlan ps), .vl (.tup (row.map .int)), .vl (.int f), .vl (.lst (stops.map (pairG ps up f))), .vl (.int m), .ow (.lst ((if keepB ps up f stops row m = true then acc ++ [m] else acc).map .int)), .vl (encUp (grpOf ps up f m)), .un, .un] := by
      cases hg : grpOf ps up f m with
      | none => simp [dIsN, D.isNon, encUp, keepB, hg, x_App, ownL, hlen]
      | some u =>
        rw [hg] at hlc
        simp only [encUp] at hlc
        by_cases hk : m = chosenL row (lotOf ps up f stops m)
        · have hk' : decide (m = chosenL row (lotOf ps up f stops m)) = true := decide_eq_true hk
          simp [dIsN, D.isNon, encUp, keepB, hg, x_App, ownL, hlen, hlc, hc, dEq, hk']
        · have hk' : decide (m = chosenL row (lotOf ps up f stops m)) = false := decide_eq_false hk
          simp [dIsN, D.isNon, encUp, keepB, hg, x_App, ownL, hlen, hlc, hc, dEq, hk']
    obtain ⟨x', y', q⟩ := round_loop f row stops hl r (fun o h => hm o (List.mem_cons_of_mem _ h)) (if keepB ps up f stops row m = true then acc ++ [m] else acc) (.vl (.int m)) (.vl (encUp (grpOf ps up f m))) (by
      by_cases h : keepB ps up f stops row m = true
      · rw [if_pos h, List.length_append, List.length_singleton]; omega
      · rw [if_neg h]; omega)
    refine ⟨x', y', ?_⟩
    rw [List.map_cons]
    unfold forGo
    simp only [e1, s1]
    rw [q]
    cases hk : keepB ps up f stops row m with
    | true => simp [hk]
    | false => simp [hk]
theorem round_in_ok (row : List Int) (p f : Pane) (hp : p ∈ ps) (hf : f ∈ ps) (hfl : fieldL ps up p.nm = f.nm) (hl : row.getLast? = some p.nm) : F_round_in st [encPlan ps, .tup (row.map .int)] = .ok (.lst ((roundL ps up w row p.nm).map .int)) st := by
  have h5 : dIx (.tup (row.map .int)) (.int (-1)) st = .ok (.int p.nm) st := by
    simp only [dIx, atI_last row p.nm hl]
  have h1 := field_ok P st p hp
  rw [hfl] at h1
  have h2 := stops_in_ok P st f hf
  have hsl : (stopsL ps up w f.nm).length ≤ 1000 := Nat.le_trans (List.length_filter_le ..) (P.wl f hf)
  have h3 : eLc (iExp (eCall F_stops_in (aCons (eVar 0) (aCons (eVar 2) aNil)))) (.one 4) tTrue (eTup (aCons (eImm (eVar 4)) (aCons (eCall F_group_in (aCons (eVar 0) (aCons (eVar 2) (aCons (eVar 4) aNil)))) aNil))) st [.vl (encPlan ps), .vl (.tup (row.map .int)), .vl (.int f.nm), .un, .un, .un, .un, .un, .un] =
      .ok (.lst ((stopsL ps up w f.nm).map (pairG ps up f.nm))) st := by
    refine eLc_all (stopsL ps up w f.nm) D.int (fun m => [.vl (encPlan ps), .vl (.tup (row.map .int)), .vl (.int f.nm), .un, .vl (.int m), .un, .un, .un, .un]) _ ?_ (line_ge (by omega)) fun m hm => ⟨rfl, ?_⟩
    · simp [iExp, h2]
    · obtain ⟨q, hq, rfl⟩ := wmem P f hf m (List.mem_filter.mp hm).1
      have k := group_ok P st f.nm q hq
      simp [k, LINE, pairG, grpOf]
  have hi : D.imms ((stopsL ps up w f.nm).map (pairG ps up f.nm)) = true := by simp [List.all_map, Function.comp_def, List.all_eq_true, pairG]
  have ho : own (.lst ((stopsL ps up w f.nm).map (pairG ps up f.nm))) = .ow (.lst ((stopsL ps up w f.nm).map (pairG ps up f.nm))) := by
    show (if D.imms ((stopsL ps up w f.nm).map (pairG ps up f.nm)) = true then Sl.ow _ else Sl.vl _) = _
    rw [if_pos hi]
  have ho2 : own (.lst []) = .ow (.lst []) := rfl
  have ho3 : own (.int f.nm) = .vl (.int f.nm) := rfl
  obtain ⟨x', y', q⟩ := round_loop P st f.nm row (stopsL ps up w f.nm) hsl (stopsL ps up w f.nm) (fun _ h => h) [] .un .un (by simpa using hsl)
  rw [List.map_nil, List.nil_append] at q
  have hv : sForV 3 (iVar 3) (.tup [4, 6]) (sIf (Dl.tOr (tVal (eIsN false (eVar 6))) (tVal (eEq false (eVar 4) (eCall F_chosen_of (aCons (eVar 1) (aCons (eLcV 3 (iVar 3) (.tup [7, 8]) (tVal (eEq false (eVar 8) (eVar 6))) (eImm (eVar 7))) aNil)))))) (sApp 5 (eImm (eVar 4))) sPass) st
      [.vl (encPlan ps), .vl (.tup (row.map .int)), .vl (.int f.nm), .ow (.lst ((stopsL ps up w f.nm).map (pairG ps up f.nm))), .un, .ow (.lst []), .un, .un, .un] = .nx st [.vl (encPlan ps), .vl (.tup (row.map .int)), .vl (.int f.nm), .vl (.lst ((stopsL ps up w f.nm).map (pairG ps up f.nm))), x', .ow (.lst (((stopsL ps up w f.nm).filter (keepB ps up f.nm (stopsL ps up w f.nm) row)).map .int)), y', .un, .un] := by
    have ef : frz [3] [.vl (encPlan ps), .vl (.tup (row.map .int)), .vl (.int f.nm), .ow (.lst ((stopsL ps up w f.nm).map (pairG ps up f.nm))), .un, .ow (.lst []), .un, .un, .un] = [.vl (encPlan ps), .vl (.tup (row.map .int)), .vl (.int f.nm), .vl (.lst ((stopsL ps up w f.nm).map (pairG ps up f.nm))), .un, .ow (.lst []), .un, .un, .un] := rfl
    unfold sForV sFor
    rw [ef]
    have ed : isDct (vlOf 3 [.vl (encPlan ps), .vl (.tup (row.map .int)), .vl (.int f.nm), .vl (.lst ((stopsL ps up w f.nm).map (pairG ps up f.nm))), .un, .ow (.lst []), .un, .un, .un]) = false := rfl
    rw [ed, if_neg (by simp), iVar_lst _ _ _ _ rfl, stm_ok]
    exact q
  unfold roundL
  rw [hfl]
  simp [F_round_in, B_round_in, runFn, dNeg, h5, h1, ho3, h3, ho, LINE, ho2, hv]
end
end Lw
end
section
set_option maxRecDepth 100000
set_option linter.all false
set_option Elab.async false
set_option maxHeartbeats 1000000
namespace Lw
open PySem Dl
theorem deq_intsT (ns ms : List Int) : deq (.tup (ns.map D.int)) (.tup (ms.map D.int)) = some (decide (ns = ms)) := by
  have e : ∀ ns : List Int, D.py (.tup (ns.map D.int)) = some (.tuple (ns.map .int)) := fun ns => by simp [D.py, pys_ints]
  have s : ∀ ns : List Int, SeqAt.shaped (.tuple (ns.map .int)) = true := fun ns => by simp [SeqAt.shaped, PyData.canLay0, PyData.depth, lay_ints, dep_ints]
  rw [deq_of (e ns) (e ms) (s ns) (s ms)]
  simp only [PyData.eqv, eqv_ints]
def pyDeed : Deed → PyData
  | .still => .tuple [.str "still"]
  | .shut => .tuple [.str "shut"]
  | .say n => .tuple [.str "say", .int n]
  | .go w => .tuple [.str "go", .str w]
def Deed.isShut : Deed → Bool
  | .shut => true
  | _ => false
theorem py_deed (d : Deed) : (encDeed d).py = some (pyDeed d) := by cases d <;> simp [encDeed, pyDeed, D.py, D.pys]
theorem pys_deeds : ∀ l : List Deed, D.pys (l.map encDeed) = some (l.map pyDeed)
  | [] => by simp [D.pys]
  | d :: l => by simp [D.pys, pys_deeds l, py_deed]
theorem lay_deed (d : Deed) (h : DeedOk d) : PyData.canLay0 (pyDeed d) = true ∧ PyData.depth (pyDeed d) = 1 := by
  have k1 : PyData.strOk (Str.ofString "shut") = true := by decide +kernel
  have k2 : PyData.strOk (Str.ofString "still") = true := by decide +kernel
  have k3 : PyData.strOk (Str.ofString "say") = true := by decide +kernel
  have k4 : PyData.strOk (Str.ofString "go") = true := by decide +kernel
  cases d with
  | go w =>
    have hw : w ∈ WAYS := h
    simp [pyDeed, PyData.canLay0, PyData.canLayAll0, PyData.depth, PyData.depthAll, k4, ways_ok w hw]
  | _ => simp [pyDeed, PyData.canLay0, PyData.canLayAll0, PyData.depth, PyData.depthAll, k1, k2, k3]
theorem lay_deeds : ∀ l : List Deed, (∀ d ∈ l, DeedOk d) → PyData.canLayAll0 (l.map pyDeed) = true ∧ PyData.depthAll (l.map pyDeed) ≤ 1
  | [], _ => by simp [PyData.canLayAll0, PyData.depthAll]
  | d :: l, h => by
    obtain ⟨h1, h2⟩ := lay_deed d (h d List.mem_cons_self)
    obtain ⟨h3, h4⟩ := lay_deeds l fun d' m => h d' (List.mem_cons_of_mem _ m)
    simp only [List.map_cons, PyData.canLayAll0, PyData.depthAll, h1, h2, h3, Bool.and_self, true_and]
    omega
theorem eqv_shut (d : Deed) : PyData.eqv (pyDeed d) (.tuple [.str "shut"]) = d.isShut := by
  have n1 : (Str.ofString "still" == Str.ofString "shut") = false := by decide +kernel
  cases d <;> simp [pyDeed, PyData.eqv, PyData.eqvAll, Deed.isShut, n1]
theorem in_deeds (l : List Deed) (h : ∀ d ∈ l, DeedOk d) (hn : ∀ d ∈ l, d.isShut = false) : inD (.tup [.str "shut"]) (.lst (l.map encDeed)) = some false := by
  have k1 : PyData.strOk (Str.ofString "shut") = true := by decide +kernel
  obtain ⟨h1, h2⟩ := lay_deeds l h
  have e : D.py (.tup [.str "shut"]) = some (.tuple [.str "shut"]) := by simp [D.py, D.pys]
  have s1 : SeqAt.shaped (.tuple [.str "shut"]) = true := by simp [SeqAt.shaped, PyData.canLay0, PyData.canLayAll0, PyData.depth, PyData.depthAll, k1]
  have s2 : SeqAt.shaped (.list (l.map pyDeed)) = true := by
    have h5 : PyData.depthAll (l.map pyDeed) + 1 ≤ 64 := by omega
    simp [-List.map_map, SeqAt.shaped, PyData.canLay0, h1, PyData.depth, h5]
  have ha : (l.map pyDeed).any (fun q => PyData.eqv q (.tuple [.str "shut"])) = false := by
    rw [List.any_map, List.any_eq_false]
    intro d hd
    simp [Function.comp, eqv_shut, hn d hd]
  have hf : D.flat (.tup [.str "shut"]) = false := rfl
  simp only [inD, hf, Bool.false_and, Bool.false_eq_true, if_false, e, pys_deeds, Option.bind_some, s1, s2, Bool.and_self, if_true, ha]
structure GroundOk (g : Pane) : Prop where
  nm : g.nm = 0
  up : g.up = none
  bx : g.bx = 0
  byy : g.byy = 0
  turn : g.turn = 0
  marks : g.marks = []
  keys : ∀ k ∈ g.keys, k.2.isShut = false
theorem ground_ok (st : Store) (g : Pane) (h : GroundOk g) (hk : ∀ k ∈ g.keys, KnownOk k) (hl : g.keys.length ≤ 20) : F_is_ground st [encPane g] = .ok (.bl true) st := by
  obtain ⟨nm, up, bx, byy, bw, bh, turn, marks, keys⟩ := g
  obtain ⟨rfl, rfl, rfl, rfl, rfl, rfl, hks⟩ := h
  have hl' : keys.length ≤ 20 := hl
  have h1 : eLcV 6 (iVar 6) (.tup [7, 8]) tTrue (eImm (eVar 8)) st [.vl (encPane ⟨0, none, 0, 0, bw, bh, 0, [], keys⟩), .vl (.int 0), .vl .non, .vl (.tup [.int 0, .int 0, .int bw, .int bh]), .vl (.int 0), .vl (.tup []), .vl (.tup (keys.map encKey)), .un, .un] = .ok (.lst ((keys.map (·.2)).map encDeed)) st := by
    rw [eLcV_vl (d := .tup (keys.map encKey)) rfl (by simp)]
    have q := eLc_all (W := iVar 6) (g := .tup [7, 8]) (A := eImm (eVar 8)) (env := [.vl (encPane ⟨0, none, 0, 0, bw, bh, 0, [], keys⟩), .vl (.int 0), .vl .non, .vl (.tup [.int 0, .int 0, .int bw, .int bh]), .vl (.int 0), .vl (.tup []), .vl (.tup (keys.map encKey)), .un, .un]) (st := st) keys encKey
      (fun k => [.vl (encPane ⟨0, none, 0, 0, bw, bh, 0, [], keys⟩), .vl (.int 0), .vl .non, .vl (.tup [.int 0, .int 0, .int bw, .int bh]), .vl (.int 0), .vl (.tup []), .vl (.tup (keys.map encKey)), .vl (.str k.1), .vl (encDeed k.2)]) (fun k => encDeed k.2) (iVar_tup _ _ _ _ rfl) (line_ge (by omega)) fun k hk => ⟨rfl, by simp⟩
    rw [q, List.map_map]
    rfl
  have h2 := in_deeds (keys.map (·.2)) (fun d hd => by
    obtain ⟨k, hk', rfl⟩ := List.mem_map.mp hd
    exact (hk k hk').deed) (fun d hd => by
    obtain ⟨k, hk', rfl⟩ := List.mem_map.mp hd
    exact hks k hk')
  have d0 : deq (.tup [.int 0, .int 0]) (.tup [.int 0, .int 0]) = some true := deq_intsT [0, 0] [0, 0]
  have d1 : deq (.tup []) (.tup []) = some true := deq_intsT [] []
  have hu : (Tg.tup [1, 2, 3, 4, 5, 6]).set (encPane ⟨0, none, 0, 0, bw, bh, 0, [], keys⟩) [.vl (encPane ⟨0, none, 0, 0, bw, bh, 0, [], keys⟩), .un, .un, .un, .un, .un, .un, .un, .un] = some [.vl (encPane ⟨0, none, 0, 0, bw, bh, 0, [], keys⟩), .vl (.int 0), .vl .non, .vl (.tup [.int 0, .int 0, .int bw, .int bh]), .vl (.int 0), .vl (.tup []), .vl (.tup (keys.map encKey)), .un, .un] := rfl
  have hs : dSl (.tup [.int 0, .int 0, .int bw, .int bh]) none (some 2) st = .ok (.tup [.int 0, .int 0]) st := by simp [dSl, cutD, HT.sIx]
  have xs : ∀ A P R env, eSl A P R st env = (A st env).bind fun x st => (P st env).bind fun lo st => (R st env).bind fun hi st => dSl x lo hi st := fun _ _ _ _ => rfl
  have xp : ∀ env, pNo st env = .ok none st := fun _ => rfl
  have xq : ∀ env, pSome (eC (.int 2)) st env = .ok (some 2) st := fun _ => rfl
  simp only [F_is_ground, B_is_ground, runFn, List.length_cons, List.length_nil, if_true, List.map_cons, List.map_nil, List.replicate, List.cons_append, List.nil_append]
  simp [-List.map_map, hu, dEq, dIsN, D.isNon, xs, xp, xq, hs, d0, d1, LINE, h1, dIn, h2]
end Lw
end
section
set_option maxRecDepth 100000
set_option linter.all false
set_option Elab.async false
set_option maxHeartbeats 1000000
namespace Lw
open PySem Dl
/-! ### rooted: who is known -/
def kd (K : List Int) : List (Key × D) := K.map fun n => (.inl n, .bl true)
theorem kd_get (K : List Int) (u : Int) : (dGet (kd K) (.inl u)).isSome = decide (u ∈ K) := by
  unfold dGet kd
  induction K with
  | nil => rfl
  | cons a K ih =>
    rw [List.map_cons]
    by_cases e : a = u
    · subst e
      rw [List.find?_cons_of_pos (by simp)]
      simp
    · rw [List.find?_cons_of_neg (by simpa using e), ih]
      have e' : ¬ u = a := fun h => e h.symm
      simp [e']
def addK (K : List Int) (n : Int) : List Int := if n ∈ K then K else K ++ [n]
theorem kd_put (K : List Int) (n : Int) : dPut (kd K) (.inl n) (.bl true) = kd (addK K n) := by
  have ha : ((kd K).any fun kv => decide (kv.1 = .inl n)) = decide (n ∈ K) := by
    unfold kd
    induction K with
    | nil => rfl
    | cons a K ih =>
      rw [List.map_cons, List.any_cons, ih]
      by_cases e : a = n
      · simp [e]
      · have e' : ¬ n = a := fun h => e h.symm
        simp [e, e']
  unfold dPut addK
  rw [ha]
  by_cases h : n ∈ K
  · rw [if_pos (decide_eq_true h), if_pos h]
    unfold kd
    rw [List.map_map]
    apply List.map_congr_left
    intro a _
    simp only [Function.comp]
    by_cases e : a = n
    · subst e; simp
    · simp [e]
  · rw [if_neg (by simp [h]), if_neg h]
    unfold kd
    rw [List.map_append]
    rfl
theorem addK_len (K : List Int) (n : Int) : (addK K n).length ≤ K.length + 1 := by
  unfold addK
  split <;> simp
theorem addK_mem (K : List Int) (n m : Int) : m ∈ addK K n ↔ m ∈ K ∨ m = n := by
  unfold addK
  by_cases h : n ∈ K
  · rw [if_pos h]
    exact ⟨.inl, fun q => q.elim id fun e => e ▸ h⟩
  · rw [if_neg h]
    simp
theorem in_kd (K : List Int) (u : Int) (st : Store) (neg : Bool) : dIn neg (.int u) (.dct (kd K)) st = .ok (.bl (if neg then !decide (u ∈ K) else decide (u ∈ K))) st := by
  simp [dIn, inD, keyOf, kd_get]
/-- a pass over those that are left -/
def passK : List Pane → List Int → List Int
  | [], K => K
  | p :: r, K => passK r (match p.up with | some u => if u ∈ K then addK K p.nm else K | none => K)
theorem passK_len : ∀ (l : List Pane) (K : List Int), (passK l K).length ≤ K.length + l.length
  | [], K => Nat.le_refl _
  | p :: r, K => by
    unfold passK
    refine Nat.le_trans (passK_len r _) ?_
    rw [List.length_cons]
    cases p.up with
    | none => simp only; omega
    | some u =>
      simp only
      split
      · have := addK_len K p.nm; omega
      · omega
theorem pass_loop (st : Store) (pl lf : D) : ∀ (l : List Pane), (∀ p ∈ l, ∃ u, p.up = some u) → ∀ (K : List Int) (s3 x : Sl), K.length + l.length ≤ 1000000 → ∃ y,
    forGo (.one 4) (sIf (tVal (eIn false (eIx (eVar 4) (eC (.int 1))) (eVar 1))) (sPut 1 (eIx (eVar 4) (eC (.int 0))) (eC (.bl true))) sPass) (l.map encPane) st [.vl pl, .ow (.dct (kd K)), .vl lf, s3, x] = .nx st [.vl pl, .ow (.dct (kd (passK l K))), .vl lf, s3, y]
  | [], _, K, s3, x, _ => ⟨x, rfl⟩
  | p :: r, hu, K, s3, x, hl => by
    obtain ⟨u, hpu⟩ := hu p List.mem_cons_self
    rw [List.length_cons] at hl
    have e1 : (Tg.one 4).set (encPane p) [.vl pl, .ow (.dct (kd K)), .vl lf, s3, x] = some [.vl pl, .ow (.dct (kd K)), .vl lf, s3, .vl (encPane p)] := rfl
    have hk : (kd K).length < LINE := by
      unfold kd
      rw [List.length_map]
      show _ < 16777216
      omega
    have s1 : sIf (tVal (eIn false (eIx (eVar 4) (eC (.int 1))) (eVar 1))) (sPut 1 (eIx (eVar 4) (eC (.int 0))) (eC (.bl true))) sPass st [.vl pl, .ow (.dct (kd K)), .vl lf, s3, .vl (encPane p)] = .nx st [.vl pl, .ow (.dct (kd (if u ∈ K then addK K p.nm else K))), .vl lf, s3, .vl (encPane p)] := by
      by_cases h : u ∈ K
      · simp [ix_up, hpu, encUp, in_kd, h, sPut, Sl.isUn, ix_nm, putTo, keyOf, hk, kd_put]
      · simp [ix_up, hpu, encUp, in_kd, h]
    obtain ⟨y, q⟩ := pass_loop st pl lf r (fun p' h => hu p' (List.mem_cons_of_mem _ h)) (if u ∈ K then addK K p.nm else K) s3 (.vl (encPane p)) (by
      split
      · have := addK_len K p.nm; omega
      · omega)
    refine ⟨y, ?_⟩
    rw [List.map_cons]
    unfold forGo passK
    simp only [e1, s1, hpu]
    exact q
end Lw
end
section
set_option maxRecDepth 100000
set_option linter.all false
set_option Elab.async false
set_option maxHeartbeats 1000000
namespace Lw
open PySem Dl
theorem eLcV_ow {env : En} {i : Nat} {d : D} {W : Iv} {g : Tg} {T : Tv} {A : Ev} {st : Store} (h : env.getD i .un = .ow d) (hi : i < env.length) (hd : ∀ kvs, d ≠ .dct kvs) : eLcV i W g T A st env = eLc W g T A st (env.set i (.vl d)) := by
  have e : frz [i] env = env.set i (.vl d) := by
    unfold frz
    rw [List.foldl_cons, List.foldl_nil, h]
  unfold eLcV
  rw [e]
  have : lockOk i (env.set i (.vl d)) = true := by
    unfold lockOk vlOf
    rw [getD_set, if_pos ⟨rfl, hi⟩]
    cases d <;> first | rfl | exact absurd rfl (hd _)
  rw [if_pos this]
/-! ### panes as data of the library's -/
def pyUp : Option Int → PyData
  | none => .none
  | some n => .int n
def pyKey (k : Str × Deed) : PyData := .tuple [.str k.1, pyDeed k.2]
def pyPane (p : Pane) : PyData := .tuple [.int p.nm, pyUp p.up, .tuple [.int p.bx, .int p.byy, .int p.bw, .int p.bh], .int p.turn, .tuple (p.marks.map .str), .tuple (p.keys.map pyKey)]
theorem pys_map {α : Type} (c : α → D) (f : α → PyData) (h : ∀ a, (c a).py = some (f a)) : ∀ l : List α, D.pys (l.map c) = some (l.map f)
  | [] => by simp [D.pys]
  | a :: l => by simp [D.pys, h a, pys_map c f h l]
theorem py_up (u : Option Int) : (encUp u).py = some (pyUp u) := by cases u <;> simp [encUp, pyUp]
theorem py_key (k : Str × Deed) : (encKey k).py = some (pyKey k) := by simp [encKey, pyKey, D.py, D.pys, py_deed]
theorem py_pane (p : Pane) : (encPane p).py = some (pyPane p) := by
  have h1 : D.pys (p.marks.map D.str) = some (p.marks.map PyData.str) := pys_map D.str _ (fun a => py_str a) _
  have h2 : D.pys (p.keys.map encKey) = some (p.keys.map pyKey) := pys_map encKey _ py_key _
  simp [encPane, pyPane, D.py, D.pys, py_up, h1, h2]
theorem lay_map {α : Type} (f : α → PyData) (n : Nat) : ∀ l : List α, (∀ a ∈ l, PyData.canLay0 (f a) = true ∧ PyData.depth (f a) ≤ n) → PyData.canLayAll0 (l.map f) = true ∧ PyData.depthAll (l.map f) ≤ n
  | [], _ => by simp [PyData.canLayAll0, PyData.depthAll]
  | a :: l, h => by
    obtain ⟨h1, h2⟩ := h a List.mem_cons_self
    obtain ⟨h3, h4⟩ := lay_map f n l fun a m => h a (List.mem_cons_of_mem _ m)
    simp only [List.map_cons, PyData.canLayAll0, PyData.depthAll, h1, h3, Bool.and_self, true_and]
    omega
theorem marks_sok : ∀ x ∈ MARKS, PyData.strOk x = true := by decide +kernel
theorem key_sok {x : Str} (h : KeyOk x) : PyData.strOk x = true := by
  have hs : ∀ c ∈ SIGNS.cps.toList, c < 0x110000 := by decide +kernel
  unfold PyData.strOk
  rw [← Array.all_toList, List.all_eq_true]
  intro c hc
  exact decide_eq_true (hs c (h.sg c hc))
theorem lay_pane (p : Pane) (h : PaneOk p) : PyData.canLay0 (pyPane p) = true ∧ PyData.depth (pyPane p) ≤ 10 := by
  obtain ⟨m1, m2⟩ := lay_map PyData.str 0 p.marks fun a ha => ⟨by simp [PyData.canLay0, marks_sok a (h.mm a ha)], by simp [PyData.depth]⟩
  obtain ⟨k1, k2⟩ := lay_map pyKey 2 p.keys fun a ha => by
    obtain ⟨d1, d2⟩ := lay_deed a.2 (h.kk a ha).deed
    simp [pyKey, PyData.canLay0, PyData.canLayAll0, PyData.depth, PyData.depthAll, key_sok (h.kk a ha).key, d1, d2]
  have u1 : PyData.canLay0 (pyUp p.up) = true ∧ PyData.depth (pyUp p.up) = 0 := by cases p.up <;> simp [pyUp, PyData.canLay0, PyData.depth]
  constructor
  · simp [-List.map_map, pyPane, PyData.canLay0, PyData.canLayAll0, m1, k1, u1.1]
  · simp only [pyPane, PyData.depth, PyData.depthAll, u1.2]
    omega
theorem deq_panes0 (l : List Pane) (h : ∀ p ∈ l, PaneOk p) : deq (.lst (l.map encPane)) (.lst []) = some (decide (l = [])) := by
  obtain ⟨h1, h2⟩ := lay_map pyPane 10 l fun p hp => lay_pane p (h p hp)
  have e1 : D.py (.lst (l.map encPane)) = some (.list (l.map pyPane)) := by simp [-List.map_map, D.py, pys_map encPane pyPane py_pane]
  have e2 : D.py (.lst []) = some (.list []) := by simp [D.py, D.pys]
  have h3 : PyData.depthAll (l.map pyPane) + 1 ≤ 64 := by omega
  have s1 : SeqAt.shaped (.list (l.map pyPane)) = true := by simp [-List.map_map, SeqAt.shaped, PyData.canLay0, h1, PyData.depth, h3]
  have s2 : SeqAt.shaped (.list []) = true := by simp [SeqAt.shaped, PyData.canLay0, PyData.canLayAll0, PyData.depth, PyData.depthAll]
  rw [deq_of e1 e2 s1 s2]
  cases l <;> simp [PyData.eqv, PyData.eqvAll]
end Lw
end
section
set_option maxRecDepth 100000
set_option linter.all false
set_option Elab.async false
set_option maxHeartbeats 1000000
namespace Lw
open PySem Dl
theorem passK_sub : ∀ (l : List Pane) (K : List Int) (n : Int), n ∈ K → n ∈ passK l K
  | [], K, n, h => h
  | p :: r, K, n, h => by
    unfold passK
    refine passK_sub r _ n ?_
    cases p.up with
    | none => exact h
    | some u =>
      simp only
      split
      · exact (addK_mem K p.nm n).mpr (.inl h)
      · exact h
theorem passK_new : ∀ (l : List Pane) (K : List Int) (p : Pane) (u : Int), p ∈ l → p.up = some u → u ∈ K → p.nm ∈ passK l K
  | q :: r, K, p, u, hp, hu, hK => by
    unfold passK
    rcases List.mem_cons.mp hp with rfl | hp
    · refine passK_sub r _ _ ?_
      rw [hu]
      simp only [if_pos hK]
      exact (addK_mem K p.nm p.nm).mpr (.inr rfl)
    · refine passK_new r _ p u hp hu ?_
      cases q.up with
      | none => exact hK
      | some v =>
        simp only
        split
        · exact (addK_mem K q.nm u).mpr (.inl hK)
        · exact hK
/-- each is above by a rank -/
def Ranked (rest : List Pane) (r : Int → Nat) : Prop := ∀ p ∈ rest, ∃ u, p.up = some u ∧ (u = 0 ∨ ∃ q ∈ rest, q.nm = u ∧ r u < r p.nm)
theorem progress {rest left : List Pane} {K : List Int} {r : Int → Nat} (hr : Ranked rest r) (h1 : ∀ p ∈ left, p ∈ rest) (h2 : ∀ p ∈ rest, p ∈ left ∨ p.nm ∈ K) (h0 : 0 ∈ K) : ∀ (m : Nat) (p : Pane), p ∈ left → r p.nm ≤ m → ∃ p' ∈ left, ∃ u, p'.up = some u ∧ u ∈ K
  | m, p, hp, hm => by
    obtain ⟨u, hu, h⟩ := hr p (h1 p hp)
    rcases h with rfl | ⟨q, hq, rfl, hlt⟩
    · exact ⟨p, hp, 0, hu, h0⟩
    · rcases h2 q hq with hq' | hq'
      · cases m with
        | zero => omega
        | succ m => exact progress hr h1 h2 h0 m q hq' (by omega)
      · exact ⟨p, hp, _, hu, hq'⟩
def unk (K : List Int) (p : Pane) : Bool := match p.up with
  | some u => !decide (u ∈ K)
  | none => true
theorem root_loop (st : Store) (pl : D) {rest : List Pane} {r : Int → Nat} (hr : Ranked rest r) (hpo : ∀ p ∈ rest, PaneOk p) : ∀ (n : Nat) (left : List Pane) (K : List Int) (s3 x : Sl), left.length ≤ n → (∀ p ∈ left, p ∈ rest) → (∀ p ∈ rest, p ∈ left ∨ p.nm ∈ K) → 0 ∈ K → K.length + left.length * (left.length + 1) ≤ 100000 → ∀ k, ∃ env,
    whileGo (tVal (eEq true (eVar 2) (eLst aNil))) (sSeq (sSet 3 (eLcV 2 (iVar 2) (.one 4) (tVal (eIn true (eIx (eVar 4) (eC (.int 1))) (eVar 1))) (eImm (eVar 4))))
      (sSeq (sIf (tVal (eEq false (eLen (eVar 3)) (eLen (eVar 2)))) (sRet (eC (.bl false))) sPass)
      (sSeq (sForV 2 (iVar 2) (.one 4) (sIf (tVal (eIn false (eIx (eVar 4) (eC (.int 1))) (eVar 1))) (sPut 1 (eIx (eVar 4) (eC (.int 0))) (eC (.bl true))) sPass))
      (sSet 2 (eLcV 2 (iVar 2) (.one 4) (tVal (eIn true (eIx (eVar 4) (eC (.int 0))) (eVar 1))) (eImm (eVar 4))))))) (n + 1 + k) st [.vl pl, .ow (.dct (kd K)), .ow (.lst (left.map encPane)), s3, x] = .nx st env := by
  intro n
  induction n with
  | zero =>
    intro left K s3 x hl h1 h2 h0 hb k
    have e : left = [] := List.eq_nil_of_length_eq_zero (by omega)
    subst e
    have d0 : deq (.lst []) (.lst []) = some true := deq_ints0 []
    have e : 0 + 1 + k = k + 1 := by omega
    exact ⟨_, by rw [e]; exact while_f k (by simp [dEq, d0])⟩
  | succ n ih =>
    intro left K s3 x hl h1 h2 h0 hb k
    by_cases hne : left = []
    · subst hne
      have d0 : deq (.lst []) (.lst []) = some true := deq_ints0 []
      have e : n + 1 + 1 + k = (n + 1 + k) + 1 := by omega
      exact ⟨_, by rw [e]; exact while_f _ (by simp [dEq, d0])⟩
    · obtain ⟨p0, hp0⟩ : ∃ p0, p0 ∈ left := by
        cases left with
        | nil => exact absurd rfl hne
        | cons p0 _ => exact ⟨p0, List.mem_cons_self⟩
      obtain ⟨p1, hp1, u1, hu1, hk1⟩ := progress hr h1 h2 h0 (r p0.nm) p0 hp0 (Nat.le_refl _)
      have hlt : (left.filter (unk K)).length < left.length := by
        rw [List.length_filter_lt_length_iff_exists]
        exact ⟨p1, hp1, by simp [unk, hu1, hk1]⟩
      have hsq : left.length * 1 ≤ left.length * (left.length + 1) := Nat.mul_le_mul_left _ (by omega)
      have hll : left.length ≤ 100000 := by omega
      have hupl : ∀ p ∈ left, ∃ u, p.up = some u := fun p hp => by
        obtain ⟨u, hu, _⟩ := hr p (h1 p hp)
        exact ⟨u, hu⟩
      have c1 : eLcV 2 (iVar 2) (.one 4) (tVal (eIn true (eIx (eVar 4) (eC (.int 1))) (eVar 1))) (eImm (eVar 4)) st [.vl pl, .ow (.dct (kd K)), .ow (.lst (left.map encPane)), s3, x] = .ok (.lst ((left.filter (unk K)).map encPane)) st := by
        rw [eLcV_ow (d := .lst (left.map encPane)) rfl (by simp) (by simp)]
        refine eLc_of left encPane (fun p => [.vl pl, .ow (.dct (kd K)), .vl (.lst (left.map encPane)), s3, .vl (encPane p)]) _ _ (iVar_lst _ _ _ _ rfl) (line_ge (by omega)) fun p hp => ⟨rfl, ?_, fun _ => by simp⟩
        obtain ⟨u, hu⟩ := hupl p hp
        simp [ix_up, hu, encUp, in_kd, unk]
      have own_ps : ∀ l : List Pane, own (.lst (l.map encPane)) = .ow (.lst (l.map encPane)) := fun l => by
        have hi : D.imms (l.map encPane) = true := by simp [List.all_map, Function.comp_def, List.all_eq_true]
        show (if D.imms (l.map encPane) = true then Sl.ow _ else Sl.vl _) = _
        rw [if_pos hi]
      have hle : decide (((left.filter (unk K)).length : Int) = (left.length : Int)) = false := decide_eq_false (by omega)
      obtain ⟨y, q⟩ := pass_loop st pl (.lst (left.map encPane)) left hupl K (.ow (.lst ((left.filter (unk K)).map encPane))) x (by omega)
      have c3 : sForV 2 (iVar 2) (.one 4) (sIf (tVal (eIn false (eIx (eVar 4) (eC (.int 1))) (eVar 1))) (sPut 1 (eIx (eVar 4) (eC (.int 0))) (eC (.bl true))) sPass) st [.vl pl, .ow (.dct (kd K)), .ow (.lst (left.map encPane)), .ow (.lst ((left.filter (unk K)).map encPane)), x] =
          .nx st [.vl pl, .ow (.dct (kd (passK left K))), .vl (.lst (left.map encPane)), .ow (.lst ((left.filter (unk K)).map encPane)), y] := by
        have ef : frz [2] [.vl pl, .ow (.dct (kd K)), .ow (.lst (left.map encPane)), .ow (.lst ((left.filter (unk K)).map encPane)), x] = [.vl pl, .ow (.dct (kd K)), .vl (.lst (left.map encPane)), .ow (.lst ((left.filter (unk K)).map encPane)), x] := rfl
        have ed : isDct (vlOf 2 [.vl pl, .ow (.dct (kd K)), .vl (.lst (left.map encPane)), .ow (.lst ((left.filter (unk K)).map encPane)), x]) = false := rfl
        unfold sForV sFor
        rw [ef, ed, if_neg (by simp), iVar_lst _ _ _ _ rfl, stm_ok]
        exact q
      have c4 : eLcV 2 (iVar 2) (.one 4) (tVal (eIn true (eIx (eVar 4) (eC (.int 0))) (eVar 1))) (eImm (eVar 4)) st [.vl pl, .ow (.dct (kd (passK left K))), .vl (.lst (left.map encPane)), .ow (.lst ((left.filter (unk K)).map encPane)), y] = .ok (.lst ((left.filter fun p => !decide (p.nm ∈ passK left K)).map encPane)) st := by
        rw [eLcV_vl (d := .lst (left.map encPane)) rfl (by simp)]
        refine eLc_of left encPane (fun p => [.vl pl, .ow (.dct (kd (passK left K))), .vl (.lst (left.map encPane)), .ow (.lst ((left.filter (unk K)).map encPane)), .vl (encPane p)]) _ _ (iVar_lst _ _ _ _ rfl) (line_ge (by omega)) fun p hp => ⟨rfl, ?_, fun _ => by simp⟩
        simp [ix_nm, in_kd]
      have hlt2 : (left.filter fun p => !decide (p.nm ∈ passK left K)).length < left.length := by
        rw [List.length_filter_lt_length_iff_exists]
        exact ⟨p1, hp1, by simp [passK_new left K p1 u1 hp1 hu1 hk1]⟩
      have hmul : (left.filter fun p => !decide (p.nm ∈ passK left K)).length * ((left.filter fun p => !decide (p.nm ∈ passK left K)).length + 1) ≤ left.length * left.length := Nat.mul_le_mul (by omega) (by omega)
      have hpl := passK_len left K
      have hex : left.length * (left.length + 1) = left.length * left.length + left.length := Nat.mul_succ _ _
      obtain ⟨env, qq⟩ := ih (left.filter fun p => !decide (p.nm ∈ passK left K)) (passK left K) (.ow (.lst ((left.filter (unk K)).map encPane))) y (by omega) (fun p hp => h1 p (List.mem_filter.mp hp).1) (fun p hp => by
        by_cases hk : p.nm ∈ passK left K
        · exact .inr hk
        · rcases h2 p hp with hl' | hk'
          · exact .inl (List.mem_filter.mpr ⟨hl', by simp [hk]⟩)
          · exact absurd (passK_sub left K p.nm hk') hk) (passK_sub left K 0 h0) (by omega) k
      refine ⟨env, ?_⟩
      have e : n + 1 + 1 + k = (n + 1 + k) + 1 := by omega
      have dn := deq_panes0 left fun p hp => hpo p (h1 p hp)
      have hd : decide (left = []) = false := decide_eq_false hne
      rw [e, while_t (st' := st) (st2 := st) (env2 := [.vl pl, .ow (.dct (kd (passK left K))), .ow (.lst ((left.filter fun p => !decide (p.nm ∈ passK left K)).map encPane)), .ow (.lst ((left.filter (unk K)).map encPane)), y]) _ ?_ ?_, qq]
      · simp only [x_tVal, x_Eq, x_Var, List.getD_cons_zero, List.getD_cons_succ, x_Lst, x_Nil, Out.bind, List.length_nil, Nat.zero_le, if_true, dEq, dn, hd]
        rfl
      · simp only [x_Seq, x_Set, c1, stm_ok, own_ps, List.set_cons_succ, List.set_cons_zero, thn_nx, x_sIf, x_tVal, x_Eq, x_Len, x_Var, List.getD_cons_zero, List.getD_cons_succ, Out.bind, dLen, List.length_map, dEq, deq_ii, hle]
        simp only [Bool.false_eq_true, if_false, x_Pass, thn_nx, c3, x_Seq, x_Set, c4, stm_ok, own_ps, List.set_cons_succ, List.set_cons_zero]
end Lw
end
section
set_option maxRecDepth 100000
set_option linter.all false
set_option Elab.async false
set_option maxHeartbeats 1000000
namespace Lw
open PySem Dl
theorem rooted_ok (st : Store) (g : Pane) (rest : List Pane) {r : Int → Nat} (hr : Ranked rest r) (hpo : ∀ p ∈ rest, PaneOk p) (hl : rest.length ≤ 300) : F_is_rooted st [encPlan (g :: rest)] = .ok (.bl true) st := by
  have hsq : rest.length * (rest.length + 1) ≤ 300 * 301 := Nat.mul_le_mul hl (by omega)
  have hw : ∃ env, sWhile (tVal (eEq true (eVar 2) (eLst aNil))) (sSeq (sSet 3 (eLcV 2 (iVar 2) (.one 4) (tVal (eIn true (eIx (eVar 4) (eC (.int 1))) (eVar 1))) (eImm (eVar 4))))
      (sSeq (sIf (tVal (eEq false (eLen (eVar 3)) (eLen (eVar 2)))) (sRet (eC (.bl false))) sPass)
      (sSeq (sForV 2 (iVar 2) (.one 4) (sIf (tVal (eIn false (eIx (eVar 4) (eC (.int 1))) (eVar 1))) (sPut 1 (eIx (eVar 4) (eC (.int 0))) (eC (.bl true))) sPass))
      (sSet 2 (eLcV 2 (iVar 2) (.one 4) (tVal (eIn true (eIx (eVar 4) (eC (.int 0))) (eVar 1))) (eImm (eVar 4))))))) st [.vl (encPlan (g :: rest)), .ow (.dct (kd [0])), .ow (.lst (rest.map encPane)), .un, .un] = .nx st env := by
    obtain ⟨env, q⟩ := root_loop st (encPlan (g :: rest)) hr hpo rest.length rest [0] .un .un (Nat.le_refl _) (fun _ h => h) (fun _ h => .inl h) (by simp) (by simp; omega) (1000000000 - (rest.length + 1))
    have e : rest.length + 1 + (1000000000 - (rest.length + 1)) = 1000000000 := by omega
    rw [e] at q
    exact ⟨env, q⟩
  obtain ⟨env, hw⟩ := hw
  have hi : D.imms (rest.map encPane) = true := by simp [List.all_map, Function.comp_def, List.all_eq_true]
  have hi2 : D.imms ((g :: rest).map encPane) = true := by simp [List.all_map, Function.comp_def, List.all_eq_true]
  have ho1 : own (.dct [(.inl 0, .bl true)]) = .ow (.dct (kd [0])) := rfl
  have ho2 : own (.lst (rest.map encPane)) = .ow (.lst (rest.map encPane)) := by
    show (if D.imms (rest.map encPane) = true then Sl.ow _ else Sl.vl _) = _
    rw [if_pos hi]
  have hcut : cutD ((g :: rest).map encPane) (some 1) none = rest.map encPane := by
    simp [cutD, HT.sIx]
    exact List.take_of_length_le (by simp)
  have hs : dSl (encPlan (g :: rest)) (some 1) none st = .ok (.tup (rest.map encPane)) st := by
    unfold encPlan dSl
    simp only [hi2, if_true, hcut]
  have hli : dList (.tup (rest.map encPane)) st = .ok (.lst (rest.map encPane)) st := by
    unfold dList
    simp only [hi, if_true]
  have xs : ∀ A P R env, eSl A P R st env = (A st env).bind fun x st => (P st env).bind fun lo st => (R st env).bind fun hi st => dSl x lo hi st := fun _ _ _ _ => rfl
  have xp : ∀ env, pNo st env = .ok none st := fun _ => rfl
  have xq : ∀ env, pSome (eC (.int 1)) st env = .ok (some 1) st := fun _ => rfl
  simp only [F_is_rooted, B_is_rooted, runFn, List.length_cons, List.length_nil, if_true, List.map_cons, List.map_nil, List.replicate, List.cons_append, List.nil_append]
  simp only [x_Seq, x_Set, x_Dict1, x_C, Out.bind, stm_ok, ho1, List.set_cons_succ, List.set_cons_zero, thn_nx, x_List, xs, xp, xq, x_Var, List.getD_cons_zero, hs, hli, ho2, hw, x_Ret]
end Lw
end
section
set_option maxRecDepth 100000
set_option linter.all false
set_option Elab.async false
set_option maxHeartbeats 1000000
namespace Lw
open PySem Dl
structure PlanOk (g : Pane) (rest : List Pane) (r : Int → Nat) : Prop where
  gp : PaneOk g
  gg : GroundOk g
  rp : ∀ p ∈ rest, PaneOk p
  rise : ∀ i a b, ((g :: rest).map (·.nm))[i]? = some a → ((g :: rest).map (·.nm))[i + 1]? = some b → a < b
  sheet : ∀ p ∈ rest, Str.ofString "sheet" ∈ p.marks → p.up = some 0
  rank : Ranked rest r
  len : rest.length ≤ 39
theorem sheet_loop (st : Store) (pl : D) : ∀ (l : List Pane) (x : Sl), (∀ p ∈ l, (∃ u, p.up = some u) ∧ (Str.ofString "sheet" ∈ p.marks → p.up = some 0)) → ∃ y,
    forGo (.one 1) (sIf (Dl.tOr (tVal (eIsN false (eIx (eVar 1) (eC (.int 1))))) (Dl.tAnd (tVal (eIn false (eC (.str (Str.ofString "sheet"))) (eIx (eVar 1) (eC (.int 4))))) (tVal (eEq true (eIx (eVar 1) (eC (.int 1))) (eC (.int 0)))))) (sRet (eC (.bl false))) sPass) (l.map encPane) st [.vl pl, x] = .nx st [.vl pl, y]
  | [], x, _ => ⟨x, rfl⟩
  | p :: r, x, h => by
    obtain ⟨⟨u, hu⟩, hs⟩ := h p List.mem_cons_self
    have e1 : (Tg.one 1).set (encPane p) [.vl pl, x] = some [.vl pl, .vl (encPane p)] := rfl
    have s1 : sIf (Dl.tOr (tVal (eIsN false (eIx (eVar 1) (eC (.int 1))))) (Dl.tAnd (tVal (eIn false (eC (.str (Str.ofString "sheet"))) (eIx (eVar 1) (eC (.int 4))))) (tVal (eEq true (eIx (eVar 1) (eC (.int 1))) (eC (.int 0)))))) (sRet (eC (.bl false))) sPass st [.vl pl, .vl (encPane p)] = .nx st [.vl pl, .vl (encPane p)] := by
      by_cases hm : Str.ofString "sheet" ∈ p.marks
      · have hz := hs hm
        simp [ix_up, ix_marks, mem_marks, hz, hm, encUp, dIsN, D.isNon, dEq]
      · simp [ix_up, ix_marks, mem_marks, hu, hm, encUp, dIsN, D.isNon]
    obtain ⟨y, q⟩ := sheet_loop st pl r (.vl (encPane p)) fun p' h' => h p' (List.mem_cons_of_mem _ h')
    refine ⟨y, ?_⟩
    rw [List.map_cons]
    unfold forGo
    simp only [e1, s1]
    exact q
theorem plan_ok (st : Store) (g : Pane) (rest : List Pane) {r : Int → Nat} (h : PlanOk g rest r) : F_is_plan st [encPlan (g :: rest)] = .ok (.bl true) st := by
  have hall : ∀ p ∈ g :: rest, PaneOk p := fun p hp => (List.mem_cons.mp hp).elim (fun e => e ▸ h.gp) (h.rp p)
  have hlen : (g :: rest).length ≤ 1000000 := by have := h.len; simp; omega
  have h1 : eLcV 0 (iVar 0) (.one 1) tTrue (eCall F_is_pane (aCons (eVar 1) aNil)) st [.vl (encPlan (g :: rest)), .un] = .ok (.lst ((g :: rest).map fun _ => .bl true)) st := by
    rw [eLcV_vl (d := encPlan (g :: rest)) rfl (by simp [encPlan])]
    exact eLc_all (g :: rest) encPane (fun p => [.vl (encPlan (g :: rest)), .vl (encPane p)]) _ (iVar_tup _ _ _ _ rfl) (line_ge hlen) fun p hp => ⟨rfl, by simp [pane_ok st p (hall p hp)]⟩
  have h2 : eLcV 0 (iVar 0) (.one 1) tTrue (eImm (eIx (eVar 1) (eC (.int 0)))) st [.vl (encPlan (g :: rest)), .un] = .ok (.lst (((g :: rest).map (·.nm)).map .int)) st := by
    rw [eLcV_vl (d := encPlan (g :: rest)) rfl (by simp [encPlan])]
    have q := eLc_all (W := iVar 0) (g := .one 1) (A := eImm (eIx (eVar 1) (eC (.int 0)))) (env := [.vl (encPlan (g :: rest)), .un]) (st := st) (g :: rest) encPane (fun p => [.vl (encPlan (g :: rest)), .vl (encPane p)]) (fun p => .int p.nm) (iVar_tup _ _ _ _ rfl) (line_ge hlen) fun p hp => ⟨rfl, by simp [ix_nm]⟩
    rw [q, List.map_map]
    rfl
  have h3 := rises_int st ((g :: rest).map (·.nm)) _ (.inr rfl) (by rw [List.length_map]; exact hlen) h.rise
  have h4 := ground_ok st g h.gg h.gp.kk h.gp.kl
  have h5 : dIx (encPlan (g :: rest)) (.int 0) st = .ok (encPane g) st := by simp [encPlan, dIx, L2.atI, L2.ixN]
  have h6 := rooted_ok st g rest h.rank h.rp (by have := h.len; omega)
  have h7 := all_true (g :: rest) st
  obtain ⟨y, q⟩ := sheet_loop st (encPlan (g :: rest)) rest .un fun p hp => ⟨by
    obtain ⟨u, hu, _⟩ := h.rank p hp
    exact ⟨u, hu⟩, h.sheet p hp⟩
  have hi2 : D.imms ((g :: rest).map encPane) = true := by simp [List.all_map, Function.comp_def, List.all_eq_true]
  have hcut : cutD ((g :: rest).map encPane) (some 1) none = rest.map encPane := by
    simp [cutD, HT.sIx]
    exact List.take_of_length_le (by simp)
  have hs : dSl (encPlan (g :: rest)) (some 1) none st = .ok (.tup (rest.map encPane)) st := by
    unfold encPlan dSl
    simp only [hi2, if_true, hcut]
  have hw : iExp (eSl (eVar 0) (pSome (eC (.int 1))) pNo) st [.vl (encPlan (g :: rest)), .un] = .ok (rest.map encPane) st := by
    have xs : ∀ A P R env, eSl A P R st env = (A st env).bind fun x st => (P st env).bind fun lo st => (R st env).bind fun hi st => dSl x lo hi st := fun _ _ _ _ => rfl
    have xp : ∀ env, pNo st env = .ok none st := fun _ => rfl
    have xq : ∀ env, pSome (eC (.int 1)) st env = .ok (some 1) st := fun _ => rfl
    simp only [iExp, xs, xp, xq, x_Var, List.getD_cons_zero, Out.bind, hs]
  have hl : dLen (encPlan (g :: rest)) st = .ok (.int ((g :: rest).length : Nat)) st := by simp [encPlan, dLen]
  have a1 : ¬ (((g :: rest).length : Nat) : Int) < 1 := by simp; omega
  have a2 : (((g :: rest).length : Nat) : Int) ≤ 40 := by have := h.len; simp; omega
  have isi : dIsi [.tuple] (encPlan (g :: rest)) st = .ok (.bl true) st := by simp [encPlan, dIsi, Ty.has]
  generalize encPlan (g :: rest) = pl at *
  generalize (g :: rest).length = n at *
  generalize ((g :: rest).map fun _ => D.bl true) = l1 at *
  generalize ((g :: rest).map (·.nm)).map D.int = l2 at *
  have hf : F_fits_in st [pl] = .ok (.bl true) st := by
    simp [F_fits_in, B_fits_in, runFn, sFor, frz, hl, cmD, Cm.int, a1, h1, h7, D.truth, h2, h3, h5, h4, hw, q, h6]
  simp [F_is_plan, B_is_plan, runFn, isi, hl, cmD, Cm.int, C_MOST_PANES, a2, hf]
end Lw
end
section
set_option maxRecDepth 100000
set_option linter.all false
set_option Elab.async false
set_option maxHeartbeats 1000000
namespace Lw
open PySem Dl
/-- all that is asked of a plan: well made, everybody's way up and walk down -/
structure PlanC (g : Pane) (rest : List Pane) (r : Int → Nat) (up w : Int → List Int) : Prop where
  o : PlanOk g rest r
  b : PlanB (g :: rest) up w
section
variable {g : Pane} {rest : List Pane} {r : Int → Nat} {up w : Int → List Int} (P : PlanC g rest r up w) (st : Store)
include P
theorem see_plan_ok : F_see_plan st [encPlan (g :: rest)] = .ok .non st := by
  have h := plan_ok st g rest P.o
  simp [F_see_plan, B_see_plan, runFn, h, D.truth]
theorem nm_le (p : Pane) (hp : p ∈ g :: rest) : p.nm ≤ 1000000 := (List.mem_cons.mp hp).elim (fun e => e ▸ P.o.gp.nm.2) fun h => (P.o.rp p h).nm.2
theorem see_row_ok (row : List Int) (h : RowOk (g :: rest) up row) : F_see_row st [encPlan (g :: rest), .tup (row.map .int)] = .ok .non st := by
  have h1 := row_ok P.b st (nm_le P) row h
  simp [F_see_row, B_see_row, runFn, h1, D.truth]
theorem round_of_ok (row : List Int) (h : RowOk (g :: rest) up row) (p f : Pane) (hp : p ∈ g :: rest) (hf : f ∈ g :: rest) (hl : row.getLast? = some p.nm) (hfl : fieldL (g :: rest) up p.nm = f.nm) : F_round_of st [encPlan (g :: rest), .tup (row.map .int)] = .ok (.lst ((roundL (g :: rest) up w row p.nm).map .int)) st := by
  have h1 := see_plan_ok P st
  have h2 := see_row_ok P st row h
  have h3 := round_in_ok P.b st row p f hp hf hfl hl
  simp [F_round_of, B_round_of, runFn, h1, h2, h3]
theorem see_name_ok (p : Pane) (hp : p ∈ g :: rest) : F_see_name st [encPlan (g :: rest), .int p.nm] = .ok .non st := by
  have k := has_name_ok st P.b.a.r p.nm
  have m : p.nm ∈ (g :: rest).map (·.nm) := List.mem_map_of_mem hp
  have a1 := P.b.a.nn p hp
  have a2 := nm_le P p hp
  simp only [m, decide_true, a1, a2, Bool.and_self] at k
  simp [F_see_name, B_see_name, runFn, k, D.truth]
theorem stops_ok (p : Pane) (hp : p ∈ g :: rest) : F_stops st [encPlan (g :: rest), .int p.nm] = .ok (.lst ((stopsL (g :: rest) up w p.nm).map .int)) st := by
  have h1 := see_plan_ok P st
  have h2 := see_name_ok P st p hp
  have h3 := stops_in_ok P.b st p hp
  simp [F_stops, B_stops, runFn, h1, h2, h3]
def holdL (ps : List Pane) (up : Int → List Int) : List Int := (ps.filter (takesB ps up)).map (·.nm)
theorem holders_ok : F_holders st [encPlan (g :: rest)] = .ok (.lst ((holdL (g :: rest) up).map .int)) st := by
  have h1 := see_plan_ok P st
  have hlen : (g :: rest).length ≤ 1000000 := by have := P.o.len; simp; omega
  have h2 : eLcV 0 (iVar 0) (.one 1) (tTruth (eCall F_takes_keys (aCons (eVar 0) (aCons (eIx (eVar 1) (eC (.int 0))) aNil)))) (eImm (eIx (eVar 1) (eC (.int 0)))) st [.vl (encPlan (g :: rest)), .un] = .ok (.lst ((holdL (g :: rest) up).map .int)) st := by
    rw [eLcV_vl (d := encPlan (g :: rest)) rfl (by simp [encPlan])]
    have q := eLc_of (W := iVar 0) (g := .one 1) (T := tTruth (eCall F_takes_keys (aCons (eVar 0) (aCons (eIx (eVar 1) (eC (.int 0))) aNil)))) (A := eImm (eIx (eVar 1) (eC (.int 0)))) (env := [.vl (encPlan (g :: rest)), .un]) (st := st) (g :: rest) encPane (fun p => [.vl (encPlan (g :: rest)), .vl (encPane p)]) (takesB (g :: rest) up) (fun p => .int p.nm) (iVar_tup _ _ _ _ rfl) (line_ge hlen)
      fun p hp => ⟨rfl, by simp [ix_nm, takes_ok P.b.a st p hp, D.truth], fun _ => by simp [ix_nm]⟩
    rw [q]
    unfold holdL
    rw [List.map_map]
    rfl
  simp [F_holders, B_holders, runFn, h1, h2]
end
end Lw
end
section
set_option maxRecDepth 100000
set_option linter.all false
set_option Elab.async false
set_option maxHeartbeats 1000000
namespace Lw
open PySem Dl
/-! ### the pen -/
/-- the store while the law draws: the last thing of it is the pen -/
def penSt (pre : Store) (c m : Int) : Store := pre ++ [.cell [.int c, .int m]]
theorem pen_get (pre : Store) (c m : Int) : (penSt pre c m)[pre.length]? = some (.cell [.int c, .int m]) := by simp [penSt]
theorem pen_set (pre : Store) (c m c' : Int) : (penSt pre c m).set pre.length (.cell [.int c', .int m]) = penSt pre c' m := by simp [penSt]
theorem pen_ix0 (pre : Store) (c m : Int) : dIx (.obj pre.length) (.int 0) (penSt pre c m) = .ok (.int c) (penSt pre c m) := by
  simp [dIx, pen_get, L2.atI, L2.ixN]
theorem pen_ix1 (pre : Store) (c m : Int) : dIx (.obj pre.length) (.int 1) (penSt pre c m) = .ok (.int m) (penSt pre c m) := by
  simp [dIx, pen_get, L2.atI, L2.ixN]
theorem pen_put (i : Nat) (pre : Store) (c m c' : Int) (env : En) : putTo i (.vl (.obj pre.length)) (.int c') (.int 0) (penSt pre c m) env = .nx (penSt pre c' m) env := by
  simp [putTo, pen_get, L2.ixN, pen_set]
theorem small_of {i : Int} (h0 : 0 ≤ i) (h : i < 4294967296) : small64 i = true := by
  unfold small64
  exact decide_eq_true (by omega)
theorem draw_ok (pre : Store) (c m k : Int) (hk : 0 < k) (hk2 : k < 1073741824) : ∃ c' d, F__law_draw (penSt pre c m) [.obj pre.length, .int k] = .ok (.int d) (penSt pre c' m) ∧ 0 ≤ d ∧ d < k := by
  by_cases hm : m = 1
  · subst hm
    refine ⟨c / k, c % k, ?_, Int.emod_nonneg _ (by omega), Int.emod_lt_of_pos _ hk⟩
    simp [F__law_draw, B__law_draw, runFn, pen_ix0, pen_ix1, pen_put, dEq, dMod, hk, hk2, own, sPut, Sl.isUn, dFdiv]
  · have h1 : (0 : Int) ≤ c % 2147483629 := Int.emod_nonneg _ (by omega)
    have h2 : c % 2147483629 < 2147483629 := Int.emod_lt_of_pos _ (by omega)
    have s1 : small64 (c % 2147483629) = true := small_of h1 (by omega)
    generalize hc : (c % 2147483629 * 48271 + 11) % 2147483629 = c'
    have h3 : (0 : Int) ≤ c' := by rw [← hc]; exact Int.emod_nonneg _ (by omega)
    have h4 : c' < 2147483629 := by rw [← hc]; exact Int.emod_lt_of_pos _ (by omega)
    have s2 : small64 c' = true := small_of h3 (by omega)
    refine ⟨c', (c' * c' + 40692 * c') % 2147483647 / 8 % k, ?_, Int.emod_nonneg _ (by omega), Int.emod_lt_of_pos _ hk⟩
    simp [F__law_draw, B__law_draw, runFn, pen_ix0, pen_ix1, pen_put, dEq, hm, dMod, dMul, dAdd, s1, s2, hc, sPut, Sl.isUn, dFdiv, hk]
theorem cell_ok (st : Store) (ns : List Int) (k : Nat) : ∃ c : Int, F__law_cell st [.lst (ns.map .int), .int k] = .ok (.int c) st := by
  by_cases h : k < ns.length
  · have a : L2.atI (ns.map D.int) (k : Int) = some (.int ns[k]) := atI_nat _ k _ (by rw [List.getElem?_map, List.getElem?_eq_getElem h]; rfl)
    have h' : (k : Int) < (ns.length : Int) := by omega
    exact ⟨ns[k], by simp [F__law_cell, B__law_cell, runFn, dLen, cmD, Cm.int, h', dIx, a]⟩
  · have h' : ¬ (k : Int) < (ns.length : Int) := by omega
    exact ⟨0, by simp [F__law_cell, B__law_cell, runFn, dLen, cmD, Cm.int, h']⟩
theorem pen_ok (pre : Store) (c : Int) : ∃ m, F__law_pen pre [.int c] = .ok (.obj pre.length) (penSt pre c m) := by
  have hp : dPow (.int 10) (.int 18) = fun st => Out.ok (.int 1000000000000000000) st := rfl
  refine ⟨b2i (decide (1000000000000000000 ≤ c)), ?_⟩
  simp [F__law_pen, B__law_pen, runFn, eNewCell, hp, cmD, Cm.int, dInt, LINE, penSt]
end Lw
end
section
set_option maxRecDepth 100000
set_option linter.all false
set_option Elab.async false
set_option maxHeartbeats 1000000
namespace Lw
open PySem Dl
/-! ### the law's own way up -/
theorem last_atI (acc : List Int) (n : Int) : L2.atI ((acc ++ [n]).map D.int) (-1) = some (.int n) := atI_last (acc ++ [n]) n (by simp)
theorem line_loop (st : Store) {ps : List Pane} (R : PlanR ps) (n0 : Int) {n : Int} {l : List Int} (h : Anc ps n l) : ∀ (acc : List Int), acc.length + l.length ≤ 1000000 → ∀ k,
    whileGo (tVal (eIsN true (eIx (eVar 2) (eIx (eVar 3) (eNeg (eC (.int 1))))))) (sApp 3 (eImm (eIx (eVar 2) (eIx (eVar 3) (eNeg (eC (.int 1))))))) (l.length + k) st [.vl (encPlan ps), .vl (.int n0), .ow (.dct (upsD ps)), .ow (.lst ((acc ++ [n]).map .int)), .un] =
      .nx st [.vl (encPlan ps), .vl (.int n0), .ow (.dct (upsD ps)), .ow (.lst ((acc ++ l).map .int)), .un] := by
  induction h with
  | @root p hp hu =>
    intro acc hl k
    have e : [p.nm].length + k = k + 1 := by simp; omega
    have g := dGet_ups R.nd hp
    have a := last_atI acc p.nm
    rw [e]
    exact while_f k (by simp [-List.map_append, dNeg, dIx, a, keyOf, g, hu, encUp, dIsN, D.isNon])
  | @step p u l hp hu ha ih =>
    intro acc hl k
    rw [List.length_cons] at hl
    have e : (p.nm :: l).length + k = (l.length + k) + 1 := by simp; omega
    have g := dGet_ups R.nd hp
    have a := last_atI acc p.nm
    have hle : ((acc ++ [p.nm]).map D.int).length < LINE := by
      rw [List.length_map, List.length_append]
      show _ < 16777216
      simp; omega
    have q := ih (acc ++ [p.nm]) (by simp; omega) k
    rw [e, while_t (st' := st) (st2 := st) (env2 := [.vl (encPlan ps), .vl (.int n0), .ow (.dct (upsD ps)), .ow (.lst (((acc ++ [p.nm]) ++ [u]).map .int)), .un]) _ ?_ ?_, q]
    · rw [List.append_assoc]; rfl
    · simp [-List.map_append, dNeg, dIx, a, keyOf, g, hu, encUp, dIsN, D.isNon]
    · have e2 : ((acc ++ [p.nm]) ++ [u]).map D.int = (acc ++ [p.nm]).map D.int ++ [D.int u] := by rw [List.map_append]; rfl
      rw [e2]
      generalize (acc ++ [p.nm]).map D.int = L at a hle ⊢
      simp [x_App, ownL, dNeg, dIx, a, keyOf, g, hu, encUp, hle]
end Lw
end
section
set_option maxRecDepth 100000
set_option linter.all false
set_option Elab.async false
set_option maxHeartbeats 1000000
namespace Lw
open PySem Dl
theorem ups_dict (st : Store) {ps : List Pane} (R : PlanR ps) : dDict (.lst (ps.map fun p => .tup [.int p.nm, encUp p.up])) st = .ok (.dct (upsD ps)) st := by
  have hk : (upsD ps).map (·.1) = (ps.map (·.nm)).map Sum.inl := by unfold upsD; simp [List.map_map, Function.comp_def]
  have hm : dMerge [] (ps.map fun p => ((.inl p.nm : Key), encUp p.up)) = upsD ps := dMerge_nd (upsD ps) [] (fun _ h => by cases h) (by
    rw [hk]
    exact List.Pairwise.map _ (fun a b (hab : a ≠ b) (e : (Sum.inl a : Key) = Sum.inl b) => hab (Sum.inl.inj e)) R.nd)
  have hi : D.imms ((ps.map fun p => ((.inl p.nm : Key), encUp p.up)).map (·.2)) = true := by simp [List.all_map, Function.comp_def, List.all_eq_true]
  simp only [dDict, kpairs_of, hi, if_true, hm]
theorem line_ok (st : Store) {ps : List Pane} (R : PlanR ps) {n : Int} {l : List Int} (h : Anc ps n l) (hl : l.length ≤ 1000) : F__law_line st [encPlan ps, .int n] = .ok (.lst (l.map .int)) st := by
  have h1 : eLcV 0 (iVar 0) (.one 4) tTrue (eTup (aCons (eImm (eIx (eVar 4) (eC (.int 0)))) (aCons (eImm (eIx (eVar 4) (eC (.int 1)))) aNil))) st [.vl (encPlan ps), .vl (.int n), .un, .un, .un] = .ok (.lst (ps.map fun p => .tup [.int p.nm, encUp p.up])) st := by
    rw [eLcV_vl (d := encPlan ps) rfl (by simp [encPlan])]
    refine eLc_all ps encPane (fun q => [.vl (encPlan ps), .vl (.int n), .un, .un, .vl (encPane q)]) _ (iVar_tup _ _ _ _ rfl) (line_ge R.len) fun q hq => ⟨rfl, ?_⟩
    simp [ix_nm, ix_up, LINE]
  have h2 := ups_dict st R
  have ho : own (.dct (upsD ps)) = .ow (.dct (upsD ps)) := by
    have hi : D.imms ((upsD ps).map (·.2)) = true := by unfold upsD; simp [List.all_map, Function.comp_def, List.all_eq_true]
    show (if D.imms ((upsD ps).map (·.2)) = true then Sl.ow _ else Sl.vl _) = _
    rw [if_pos hi]
  have ho2 : own (.lst [.int n]) = .ow (.lst [.int n]) := rfl
  have h3 := while_go (T := tVal (eIsN true (eIx (eVar 2) (eIx (eVar 3) (eNeg (eC (.int 1))))))) (B := sApp 3 (eImm (eIx (eVar 2) (eIx (eVar 3) (eNeg (eC (.int 1))))))) l.length (by omega) (line_loop st R n h [] (by simp; omega))
  rw [List.nil_append, List.nil_append] at h3
  have h3' : sWhile (tVal (eIsN true (eIx (eVar 2) (eIx (eVar 3) (eNeg (eC (.int 1))))))) (sApp 3 (eImm (eIx (eVar 2) (eIx (eVar 3) (eNeg (eC (.int 1))))))) st [.vl (encPlan ps), .vl (.int n), .ow (.dct (upsD ps)), .ow (.lst [.int n]), .un] = .nx st [.vl (encPlan ps), .vl (.int n), .ow (.dct (upsD ps)), .ow (.lst (l.map .int)), .un] := h3
  simp [F__law_line, B__law_line, runFn, sSets, setsGo, h1, h2, ho, ho2, LINE, h3']
end Lw
end
section
set_option maxRecDepth 100000
set_option linter.all false
set_option Elab.async false
set_option maxHeartbeats 1000000
namespace Lw
open PySem Dl
/-! P20: of a plan that is well made everybody's way up and walk down are there -/
theorem nodup_len : ∀ {l m : List Int}, l.Nodup → (∀ x ∈ l, x ∈ m) → l.length ≤ m.length
  | [], _, _, _ => Nat.zero_le _
  | a :: r, m, h, hm => by
    rw [List.nodup_cons] at h
    have ha : a ∈ m := hm a List.mem_cons_self
    have q := nodup_len (l := r) (m := m.erase a) h.2 fun x hx => by
      have hne : x ≠ a := fun e => h.1 (e ▸ hx)
      exact (List.mem_erase_of_ne hne).mpr (hm x (List.mem_cons_of_mem _ hx))
    rw [List.length_erase_of_mem ha] at q
    have : 0 < m.length := List.length_pos_of_mem ha
    rw [List.length_cons]
    omega
theorem insBy_perm {α : Type} (lt : α → α → Bool) (x : α) : ∀ l : List α, (insBy lt x l).Perm (x :: l)
  | [] => List.Perm.refl _
  | y :: r => by
    unfold insBy
    split
    · exact ((insBy_perm lt x r).cons y).trans (List.Perm.swap x y r)
    · exact List.Perm.refl _
theorem isort_perm {α : Type} (lt : α → α → Bool) : ∀ l : List α, (isort lt l).Perm l
  | [] => List.Perm.refl _
  | x :: r => (insBy_perm lt x _).trans ((isort_perm lt r).cons x)
theorem pane_eq {ps : List Pane} (h : (ps.map (·.nm)).Nodup) {p q : Pane} (hp : p ∈ ps) (hq : q ∈ ps) (e : p.nm = q.nm) : p = q := by
  induction ps with
  | nil => cases hp
  | cons a ps ih =>
    rw [List.map_cons, List.nodup_cons] at h
    rcases List.mem_cons.mp hp with h1 | h1 <;> rcases List.mem_cons.mp hq with h2 | h2
    · exact h1.trans h2.symm
    · subst h1
      exact absurd (List.mem_map.mpr ⟨q, h2, e.symm⟩) h.1
    · subst h2
      exact absurd (List.mem_map.mpr ⟨p, h1, e⟩) h.1
    · exact ih h.2 h1 h2
theorem order_nodup {ps : List Pane} (h : (ps.map (·.nm)).Nodup) (n : Int) : (order ps n).Nodup := by
  have p1 : (order ps n).Perm ((below ps n).map (·.2)) := (isort_perm ltP (below ps n)).map _
  rw [p1.nodup_iff]
  unfold below
  rw [List.map_map]
  exact h.sublist ((List.filter_sublist).map _)
theorem order_iff {ps : List Pane} {n m : Int} : m ∈ order ps n ↔ ∃ p ∈ ps, p.nm = m ∧ p.up = some n := by
  refine ⟨order_mem, fun ⟨p, hp, e, hu⟩ => ?_⟩
  have p1 : (order ps n).Perm ((below ps n).map (·.2)) := (isort_perm ltP (below ps n)).map _
  rw [p1.mem_iff]
  unfold below
  rw [List.map_map]
  exact List.mem_map.mpr ⟨p, List.mem_filter.mpr ⟨hp, by simp [hu]⟩, e⟩
theorem Anc.uniq {ps : List Pane} (nd : (ps.map (·.nm)).Nodup) {n : Int} {l : List Int} (h : Anc ps n l) : ∀ {l' : List Int}, Anc ps n l' → l = l' := by
  have inv : ∀ {n : Int} {l' : List Int}, Anc ps n l' → ∀ p ∈ ps, p.nm = n → (p.up = none ∧ l' = [n]) ∨ ∃ u r, p.up = some u ∧ Anc ps u r ∧ l' = n :: r := by
    intro n l' h' p hp e
    cases h' with
    | @root q hq hu => cases pane_eq nd hp hq e; exact .inl ⟨hu, rfl⟩
    | @step q u r hq hu ha => cases pane_eq nd hp hq e; exact .inr ⟨u, r, hu, ha, rfl⟩
  induction h with
  | @root p hp hu =>
    intro l' h'
    rcases inv h' p hp rfl with ⟨_, e⟩ | ⟨u, r, h1, _⟩
    · exact e.symm
    · rw [hu] at h1; cases h1
  | @step p u l hp hu ha ih =>
    intro l' h'
    rcases inv h' p hp rfl with ⟨h1, e⟩ | ⟨u', r, h1, h2, e⟩
    · rw [hu] at h1; cases h1
    · rw [hu] at h1
      cases h1
      rw [e, ih h2]
theorem anc_ex {g : Pane} {rest : List Pane} {r : Int → Nat} (hg : g.nm = 0) (hgu : g.up = none) (hr : Ranked rest r) (h0 : ∀ p ∈ rest, p.nm ≠ 0) : ∀ (n : Nat) (p : Pane), p ∈ rest → r p.nm ≤ n → ∃ l, Anc (g :: rest) p.nm l ∧ l.Nodup ∧ ∀ m ∈ l, m = 0 ∨ r m ≤ r p.nm := by
  intro n
  induction n with
  | zero =>
    intro p hp hn
    obtain ⟨u, hu, h⟩ := hr p hp
    rcases h with rfl | ⟨q, hq, rfl, hlt⟩
    · refine ⟨[p.nm, 0], .step (List.mem_cons_of_mem _ hp) hu (hg ▸ .root List.mem_cons_self hgu), by simp [h0 p hp], fun m hm => ?_⟩
      simp only [List.mem_cons, List.not_mem_nil, or_false] at hm
      rcases hm with rfl | rfl
      · exact .inr (Nat.le_refl _)
      · exact .inl rfl
    · omega
  | succ n ih =>
    intro p hp hn
    obtain ⟨u, hu, h⟩ := hr p hp
    rcases h with rfl | ⟨q, hq, rfl, hlt⟩
    · refine ⟨[p.nm, 0], .step (List.mem_cons_of_mem _ hp) hu (hg ▸ .root List.mem_cons_self hgu), by simp [h0 p hp], fun m hm => ?_⟩
      simp only [List.mem_cons, List.not_mem_nil, or_false] at hm
      rcases hm with rfl | rfl
      · exact .inr (Nat.le_refl _)
      · exact .inl rfl
    · obtain ⟨l, h1, h2, h3⟩ := ih q hq (by omega)
      refine ⟨p.nm :: l, .step (List.mem_cons_of_mem _ hp) hu h1, List.nodup_cons.mpr ⟨fun hm => ?_, h2⟩, fun m hm => ?_⟩
      · rcases h3 _ hm with e | e
        · exact h0 p hp e
        · omega
      · rcases List.mem_cons.mp hm with rfl | hm
        · exact .inr (Nat.le_refl _)
        · rcases h3 m hm with e | e
          · exact .inl e
          · exact .inr (by omega)
theorem Walk.app {ps : List Pane} {a la b lb : List Int} (h : Walk ps a la) (hb : Walk ps b lb) : Walk ps (b ++ a) (la ++ lb) := by
  induction h with
  | nil => simpa using hb
  | @pop s l n h ih =>
    rw [← List.append_assoc] at ih ⊢
    exact .pop ih
section
variable {ps : List Pane} {up : Int → List Int} (P : PlanA ps up)
include P
theorem up_step {p : Pane} {u : Int} (hp : p ∈ ps) (hu : p.up = some u) : (∃ q ∈ ps, q.nm = u) ∧ up p.nm = p.nm :: up u := by
  have h := P.anc p hp
  have inv : ∀ {n : Int} {l' : List Int}, Anc ps n l' → p.nm = n → ∃ r, Anc ps u r ∧ l' = n :: r := by
    intro n l' h' e
    cases h' with
    | @root q hq hu' => cases pane_eq P.r.nd hp hq e; rw [hu] at hu'; cases hu'
    | @step q u' r hq hu' ha => cases pane_eq P.r.nd hp hq e; rw [hu] at hu'; cases hu'; exact ⟨r, ha, rfl⟩
  obtain ⟨l, h1, h2⟩ := inv h rfl
  have hq : ∃ q ∈ ps, q.nm = u := h1.mem u (by cases h1 <;> simp)
  obtain ⟨q, hq, e⟩ := hq
  refine ⟨⟨q, hq, e⟩, ?_⟩
  have e2 := h1.uniq P.r.nd (e ▸ P.anc q hq)
  rw [h2, e2]
theorem up_root {p : Pane} (hp : p ∈ ps) (hu : p.up = none) : up p.nm = [p.nm] := ((Anc.root hp hu).uniq P.r.nd (P.anc p hp)).symm
theorem up_self {p : Pane} (hp : p ∈ ps) : p.nm ∈ up p.nm := by
  cases h : p.up with
  | none => rw [up_root P hp h]; simp
  | some u => rw [(up_step P hp h).2]; simp
theorem order_up {n m : Int} (h : m ∈ order ps n) : (∃ p ∈ ps, p.nm = n) ∧ up m = m :: up n := by
  obtain ⟨p, hp, rfl, hu⟩ := order_mem h
  exact up_step P hp hu
theorem up_len {b : Int} {l : List Int} (h : Anc ps b l) : ∀ {a : Int}, a ∈ l → (up a).length ≤ l.length := by
  induction h with
  | @root p hp hu =>
    intro a ha
    rw [List.mem_singleton] at ha
    subst ha
    rw [up_root P hp hu]
    exact Nat.le_refl _
  | @step p u l hp hu hq ih =>
    intro a ha
    rcases List.mem_cons.mp ha with rfl | ha
    · have := (Anc.step hp hu hq).uniq P.r.nd (P.anc p hp)
      rw [← this]
      exact Nat.le_refl _
    · have := ih ha
      rw [List.length_cons]; omega
/-- what is walked stands once -/
theorem walk_nd (root : Int) {s l : List Int} (h : Walk ps s l) : ∀ vis : List Int, (vis ++ s).Nodup → (∀ m ∈ vis ++ s, (∃ p ∈ ps, p.nm = m) ∧ root ∈ up m ∧ (m = root ∨ ∃ u ∈ vis, m ∈ order ps u)) → (∀ m ∈ l, root ∈ up m) ∧ (vis ++ l).Nodup := by
  induction h with
  | nil =>
    intro vis h1 _
    exact ⟨fun m hm => (List.not_mem_nil hm).elim, h1⟩
  | @pop s l n h ih =>
    intro vis h1 h2
    have hn := h2 n (by simp)
    obtain ⟨pn, hpn, en⟩ := hn.1
    have hperm : (vis ++ (s ++ [n])).Perm (vis ++ [n] ++ s) := by
      rw [List.append_assoc]
      exact (List.perm_append_comm).append_left vis
    have h1' : (vis ++ [n] ++ s).Nodup := hperm.nodup_iff.mp h1
    have hnv : n ∉ vis := fun hv => by
      rw [List.nodup_append] at h1
      exact h1.2.2 n hv n (by simp) rfl
    have hd : ∀ c ∈ order ps n, c ∉ vis ++ [n] ++ s := fun c hc hm => by
      have hm' := hperm.mem_iff.mpr hm
      have hup := order_up P hc
      rcases (h2 c hm').2.2 with e | ⟨u, hu, hcu⟩
      · have h3 := hn.2.1
        rw [← e, ← en] at h3
        have h4 := up_len P (P.anc pn hpn) h3
        rw [hup.2, en, List.length_cons] at h4
        omega
      · have h5 := (order_up P hcu).2
        obtain ⟨pa, hpa, ea, ua⟩ := order_mem hc
        obtain ⟨pb, hpb, eb, ub⟩ := order_mem hcu
        cases pane_eq P.r.nd hpa hpb (ea.trans eb.symm)
        rw [ua] at ub
        cases ub
        exact hnv hu
    obtain ⟨q1, q2⟩ := ih (vis ++ [n]) (by
      rw [← List.append_assoc, List.nodup_append]
      refine ⟨h1', (List.reverse_perm _).nodup_iff.mpr (order_nodup P.r.nd n), fun a ha b hb e => ?_⟩
      subst e
      exact hd a (List.mem_reverse.mp hb) ha) (fun m hm => by
      rw [← List.append_assoc] at hm
      rcases List.mem_append.mp hm with hm | hm
      · obtain ⟨k1, k2, k3⟩ := h2 m (hperm.mem_iff.mpr hm)
        refine ⟨k1, k2, k3.imp id fun ⟨u, hu, hc⟩ => ⟨u, List.mem_append_left _ hu, hc⟩⟩
      · have hm' := List.mem_reverse.mp hm
        obtain ⟨pm, hpm, em, um⟩ := order_mem hm'
        refine ⟨⟨pm, hpm, em⟩, ?_, .inr ⟨n, by simp, hm'⟩⟩
        rw [(order_up P hm').2]
        exact List.mem_cons_of_mem _ hn.2.1)
    refine ⟨fun m hm => ?_, by simpa [List.append_assoc] using q2⟩
    rcases List.mem_cons.mp hm with rfl | hm
    · exact hn.2.1
    · exact q1 m hm
theorem walk_ex (N : Nat) (hN : ∀ p ∈ ps, (up p.nm).length ≤ N) : ∀ (k : Nat) (p : Pane), p ∈ ps → N - (up p.nm).length ≤ k → ∃ l, Walk ps [p.nm] l := by
  have stack : ∀ s : List Int, (∀ m ∈ s, ∃ l, Walk ps [m] l) → ∃ l, Walk ps s l := by
    intro s
    induction s with
    | nil => exact fun _ => ⟨[], .nil⟩
    | cons a r ih =>
      intro h
      obtain ⟨l1, h1⟩ := h a List.mem_cons_self
      obtain ⟨l2, h2⟩ := ih fun m hm => h m (List.mem_cons_of_mem _ hm)
      exact ⟨l2 ++ l1, h2.app h1⟩
  intro k
  induction k with
  | zero =>
    intro p hp hk
    have h0 : order ps p.nm = [] := List.eq_nil_iff_forall_not_mem.mpr fun c hc => by
      obtain ⟨q, hq, rfl, hu⟩ := order_mem hc
      have := (up_step P hq hu).2
      have h1 := hN q hq
      rw [this, List.length_cons] at h1
      omega
    exact ⟨[p.nm], .pop (s := []) (by rw [h0]; exact .nil)⟩
  | succ k ih =>
    intro p hp hk
    obtain ⟨l, hl⟩ := stack ([] ++ (order ps p.nm).reverse) fun m hm => by
      obtain ⟨q, hq, rfl, hu⟩ := order_mem (List.mem_reverse.mp (by simpa using hm))
      refine ih q hq ?_
      have := (up_step P hq hu).2
      have h1 := hN q hq
      rw [this, List.length_cons] at h1 ⊢
      omega
    exact ⟨p.nm :: l, .pop (s := []) hl⟩
theorem walk_all {p : Pane} (hp : p ∈ ps) {l : List Int} (h : Walk ps [p.nm] l) : (∀ m ∈ l, p.nm ∈ up m) ∧ l.Nodup ∧ l.length ≤ ps.length := by
  obtain ⟨h1, h2⟩ := walk_nd P p.nm h [] (by simp) (fun m hm => by
    simp only [List.nil_append, List.mem_singleton] at hm
    subst hm
    exact ⟨⟨p, hp, rfl⟩, up_self P hp, .inl rfl⟩)
  refine ⟨h1, h2, ?_⟩
  have := nodup_len (m := ps.map (·.nm)) h2 fun m hm => by
    obtain ⟨q, hq, e⟩ := h.mem (fun m hm => by rw [List.mem_singleton] at hm; exact ⟨p, hp, hm.symm⟩) m hm
    exact e ▸ List.mem_map_of_mem hq
  rwa [List.length_map] at this
end
/-- whoever is well made has all ways up and walks down -/
theorem rise_nodup : ∀ {l : List Int}, (∀ i a b, l[i]? = some a → l[i + 1]? = some b → a < b) → l.Nodup
  | [], _ => List.nodup_nil
  | a :: r, h => by
    have hr : ∀ i x y, r[i]? = some x → r[i + 1]? = some y → x < y := fun i x y h1 h2 => h (i + 1) x y (by simpa using h1) (by simpa using h2)
    have lt : ∀ (i : Nat) x, r[i]? = some x → a < x := by
      intro i
      induction i with
      | zero => intro x hx; exact h 0 a x rfl (by simpa using hx)
      | succ i ih =>
        intro x hx
        have hi : i < r.length := by have := (List.getElem?_eq_some_iff.mp hx).1; omega
        have e : r[i]? = some r[i] := List.getElem?_eq_getElem hi
        exact Int.lt_trans (ih _ e) (hr i _ x e hx)
    refine List.nodup_cons.mpr ⟨fun hm => ?_, rise_nodup hr⟩
    obtain ⟨i, hi, e⟩ := List.getElem_of_mem hm
    have := lt i a (by rw [List.getElem?_eq_getElem hi, e])
    omega
theorem planC_of {g : Pane} {rest : List Pane} {r : Int → Nat} (h : PlanOk g rest r) : ∃ up w, PlanC g rest r up w ∧ ∀ p ∈ g :: rest, (∀ m ∈ w p.nm, p.nm ∈ up m) ∧ (w p.nm).Nodup ∧ (w p.nm).length ≤ (g :: rest).length := by
  have nd : ((g :: rest).map (·.nm)).Nodup := rise_nodup h.rise
  have h0 : ∀ p ∈ rest, p.nm ≠ 0 := fun p hp e => by
    rw [List.map_cons, List.nodup_cons] at nd
    exact nd.1 (by rw [h.gg.nm, ← e]; exact List.mem_map_of_mem hp)
  have ex : ∀ p ∈ g :: rest, ∃ l, Anc (g :: rest) p.nm l ∧ l.Nodup := fun p hp => by
    rcases List.mem_cons.mp hp with rfl | hp
    · exact ⟨[p.nm], .root List.mem_cons_self h.gg.up, by simp⟩
    · obtain ⟨l, h1, h2, _⟩ := anc_ex h.gg.nm h.gg.up h.rank h0 (r p.nm) p hp (Nat.le_refl _)
      exact ⟨l, h1, h2⟩
  have exF : ∀ n : Int, ∃ l, ∀ p ∈ g :: rest, p.nm = n → Anc (g :: rest) p.nm l ∧ l.Nodup := fun n => by
    by_cases hn : ∃ p ∈ g :: rest, p.nm = n
    · obtain ⟨p, hp, e⟩ := hn
      obtain ⟨l, h1⟩ := ex p hp
      exact ⟨l, fun q hq e2 => by cases pane_eq nd hp hq (e.trans e2.symm); exact h1⟩
    · exact ⟨[], fun p hp e => absurd ⟨p, hp, e⟩ hn⟩
  obtain ⟨up, hup⟩ : ∃ up : Int → List Int, ∀ n, ∀ p ∈ g :: rest, p.nm = n → Anc (g :: rest) p.nm (up n) ∧ (up n).Nodup := ⟨fun n => (exF n).choose, fun n => (exF n).choose_spec⟩
  have hlen : (g :: rest).length ≤ 40 := by have := h.len; simp; omega
  have hul : ∀ p ∈ g :: rest, (up p.nm).length ≤ (g :: rest).length := fun p hp => by
    obtain ⟨h1, h2⟩ := hup _ p hp rfl
    have := nodup_len (m := (g :: rest).map (·.nm)) h2 fun m hm => by
      obtain ⟨q, hq, e⟩ := h1.mem m hm
      exact e ▸ List.mem_map_of_mem hq
    rwa [List.length_map] at this
  have A : PlanA (g :: rest) up := ⟨⟨nd, by omega⟩, fun p hp => (hup _ p hp rfl).1, fun p hp => by have := hul p hp; omega, by simp, fun p hp => (List.mem_cons.mp hp).elim (fun e => e ▸ h.gp.nm.1) fun h' => (h.rp p h').nm.1⟩
  have exW : ∀ n : Int, ∃ l, ∀ p ∈ g :: rest, p.nm = n → Walk (g :: rest) [p.nm] l := fun n => by
    by_cases hn : ∃ p ∈ g :: rest, p.nm = n
    · obtain ⟨p, hp, e⟩ := hn
      obtain ⟨l, h1⟩ := walk_ex A (g :: rest).length hul _ p hp (Nat.le_refl _)
      exact ⟨l, fun q hq e2 => by rw [e2, ← e]; exact h1⟩
    · exact ⟨[], fun p hp e => absurd ⟨p, hp, e⟩ hn⟩
  obtain ⟨w, hw⟩ : ∃ w : Int → List Int, ∀ n, ∀ p ∈ g :: rest, p.nm = n → Walk (g :: rest) [p.nm] (w n) := ⟨fun n => (exW n).choose, fun n => (exW n).choose_spec⟩
  have B : ∀ p ∈ g :: rest, (∀ m ∈ w p.nm, p.nm ∈ up m) ∧ (w p.nm).Nodup ∧ (w p.nm).length ≤ (g :: rest).length := fun p hp => walk_all A hp (hw _ p hp rfl)
  exact ⟨up, w, ⟨h, A, fun p hp => hw _ p hp rfl, fun p hp => by have := (B p hp).2.2; omega⟩, B⟩
end Lw
end
section
set_option maxRecDepth 100000
set_option linter.all false
set_option Elab.async false
set_option maxHeartbeats 1000000
/-! Pu1: reckoning with loops and draws. -/
namespace Dl
open PySem
def fin (o : SOut) : Out D := match o with
  | .nx st _ => .ok .non st
  | .rt d st => .ok d st
  | .ex e st => .ex e st
  | _ => .bad
theorem runFn_fin {n m : Nat} {B : Sv} {st : Store} {ds : List D} (h : ds.length = n) : runFn n m B st ds = fin (B st (ds.map Sl.vl ++ List.replicate m Sl.un)) := by
  unfold runFn fin
  rw [if_pos h]
  all_goals (cases B st (ds.map Sl.vl ++ List.replicate m Sl.un) <;> rfl)
@[simp] theorem fin_nx (st : Store) (env : En) : fin (.nx st env) = .ok .non st := rfl
@[simp] theorem fin_rt (d : D) (st : Store) : fin (.rt d st) = .ok d st := rfl
@[simp] theorem fin_ex (e : Exn) (st : Store) : fin (.ex e st) = .ex e st := rfl
@[simp] theorem fin_stm {α : Type} (x : Out α) (f : α → Store → SOut) : fin (x.stm f) = x.bind fun a st => fin (f a st) := by cases x <;> rfl
@[simp] theorem stm_thn {α : Type} (x : Out α) (f : α → Store → SOut) (G : Sv) : (x.stm f).thn G = x.stm fun a st => (f a st).thn G := by cases x <;> rfl
@[simp] theorem bind_stm {α β : Type} (x : Out α) (f : α → Store → Out β) (g : β → Store → SOut) : (x.bind f).stm g = x.stm fun a st => (f a st).stm g := by cases x <;> rfl
@[simp] theorem bind_bind {α β γ : Type} (x : Out α) (f : α → Store → Out β) (g : β → Store → Out γ) : (x.bind f).bind g = x.bind fun a st => (f a st).bind g := by cases x <;> rfl
@[simp] theorem thn_thn (x : SOut) (F G : Sv) : (x.thn F).thn G = x.thn fun st env => (F st env).thn G := by cases x <;> rfl
@[simp] theorem LINE_eq : LINE = 16777216 := rfl
/-! ### comprehensions, the store left alone -/
theorem lc_eq {α : Type} (l : List α) (c : α → D) (t : α → Bool) (f : α → D) {W : Iv} {g : Tg} {T : Tv} {A : Ev} {st : Store} {env : En} (hw : W st env = .ok (l.map c) st) (hl : l.length ≤ LINE)
    (h : ∀ a ∈ l, ∃ e, g.set (c a) (wipeE env g.slots) = some e ∧ T st e = .ok (t a) st ∧ (t a = true → A st e = .ok (f a) st)) : eLc W g T A st env = .ok (.lst ((l.filter t).map f)) st := by
  have q : ∀ l' : List α, (∀ a ∈ l', a ∈ l) → lcGo g T A (l'.map c) st env = .ok ((l'.filter t).map f) st := by
    intro l'
    induction l' with
    | nil => exact fun _ => rfl
    | cons a r ih =>
      intro hm
      obtain ⟨e, h1, h2, h3⟩ := h a (hm a List.mem_cons_self)
      have i := ih fun b hb => hm b (List.mem_cons_of_mem _ hb)
      rw [List.map_cons]
      unfold lcGo
      rw [h1]
      simp only [h2, Out.bind]
      cases hp : t a with
      | true => simp [h3 hp, i, hp]
      | false => simp [i, hp]
  unfold eLc
  rw [hw]
  simp only [Out.bind, q l (fun _ h => h), Out.calm]
  rw [if_pos (by rw [List.length_map]; exact Nat.le_trans (List.length_filter_le ..) hl)]
theorem lca_eq {α : Type} (l : List α) (c : α → D) (f : α → D) {W : Iv} {g : Tg} {A : Ev} {st : Store} {env : En} (hw : W st env = .ok (l.map c) st) (hl : l.length ≤ LINE)
    (h : ∀ a ∈ l, ∃ e, g.set (c a) (wipeE env g.slots) = some e ∧ A st e = .ok (f a) st) : eLc W g tTrue A st env = .ok (.lst (l.map f)) st := by
  have q := lc_eq (T := tTrue) (A := A) l c (fun _ => true) f hw hl fun a m => by
    obtain ⟨e, h1, h2⟩ := h a m
    exact ⟨e, h1, rfl, fun _ => h2⟩
  rw [q, List.filter_eq_self.mpr (fun _ _ => rfl)]
/-- a name's items: what it is, but a dict -/
theorem lcV_eq {i : Nat} {W : Iv} {g : Tg} {T : Tv} {A : Ev} {st : Store} {env : En} (h : isDct (vlOf i (frz [i] env)) = false) : eLcV i W g T A st env = eLc W g T A st (frz [i] env) := by
  unfold eLcV lockOk
  rw [h]
  rfl
theorem lcVd_eq {i : Nat} {W : Iv} {g : Tg} {T : Tv} {A : Ev} {st : Store} {env : En} (h : lockOk i (frz [i] env) = true) : eLcV i W g T A st env = eLc W g T A st (frz [i] env) := by
  unfold eLcV
  rw [if_pos h]
theorem forV_eq {i : Nat} {W : Iv} {g : Tg} {B : Sv} {st : Store} {env : En} (h : isDct (vlOf i (frz [i] env)) = false) : sForV i W g B st env = sFor [i] W g B st env := by
  unfold sForV
  rw [h]
  rfl
theorem forVd_eq {i : Nat} {W : Iv} {g : Tg} {B : Sv} {st : Store} {env : En} (h : isDct (vlOf i (frz [i] env)) = true) (h2 : lockOk i (frz [i] env) = true) : sForV i W g B st env = (sFor [i] W g B st env).calm := by
  unfold sForV
  rw [if_pos h, if_pos h2]
@[simp] theorem calm_nx (st : Store) (env : En) : SOut.calm (.nx st env) = .nx st env := rfl
@[simp] theorem calm_rt (d : D) (st : Store) : SOut.calm (.rt d st) = .rt d st := rfl
/-! ### loops -/
theorem for_inv {α : Type} (l : List α) (c : α → D) {g : Tg} {B : Sv} (Inv : List α → Store → En → Prop) : ∀ {st : Store} {env : En}, Inv [] st env →
    (∀ done a rest st env, l = done ++ a :: rest → Inv done st env → ∃ env1, g.set (c a) env = some env1 ∧ ∃ st' env', B st env1 = .nx st' env' ∧ Inv (done ++ [a]) st' env') → ∃ st' env', forGo g B (l.map c) st env = .nx st' env' ∧ Inv l st' env' := by
  intro st env h0 hs
  have q : ∀ (r done : List α) (st : Store) (env : En), l = done ++ r → Inv done st env → ∃ st' env', forGo g B (r.map c) st env = .nx st' env' ∧ Inv l st' env' := by
    intro r
    induction r with
    | nil =>
      intro done st env e hi
      rw [List.append_nil] at e
      subst e
      exact ⟨st, env, rfl, hi⟩
    | cons a r ih =>
      intro done st env e hi
      obtain ⟨env1, h1, st', env', h2, h3⟩ := hs done a r st env e hi
      obtain ⟨st2, env2, h4, h5⟩ := ih (done ++ [a]) st' env' (by rw [e, List.append_assoc]; rfl) h3
      refine ⟨st2, env2, ?_, h5⟩
      rw [List.map_cons]
      unfold forGo
      rw [h1]
      simp only [h2]
      exact h4
  exact q l [] st env rfl h0
/-- a while: by a measure -/
theorem while_inv {T : Tv} {B : Sv} (Inv : Nat → Store → En → Prop) (Q : Store → En → Prop) (hs : ∀ n st env, Inv n st env → (∃ st', T st env = .ok false st' ∧ Q st' env) ∨ (∃ st1, T st env = .ok true st1 ∧ ∃ m st2 env2, B st1 env = .nx st2 env2 ∧ m < n ∧ Inv m st2 env2)) :
    ∀ {n : Nat} {st : Store} {env : En}, n < 1000000000 → Inv n st env → ∃ st' env', sWhile T B st env = .nx st' env' ∧ Q st' env' := by
  have q : ∀ (n k : Nat) (st : Store) (env : En), Inv n st env → n < k → ∃ st' env', whileGo T B k st env = .nx st' env' ∧ Q st' env' := by
    intro n
    induction n using Nat.strongRecOn with
    | _ n ih =>
      intro k st env hi hk
      obtain ⟨k, rfl⟩ : ∃ k', k = k' + 1 := ⟨k - 1, by omega⟩
      rcases hs n st env hi with ⟨st', h1, h2⟩ | ⟨st1, h1, m, st2, env2, h2, hm, h3⟩
      · exact ⟨st', env, while_f k h1, h2⟩
      · obtain ⟨st', env', h4, h5⟩ := ih m hm k st2 env2 h3 (by omega)
        exact ⟨st', env', by rw [while_t k h1 h2, h4], h5⟩
  intro n st env hn hi
  exact q n TURNS st env hi hn
/-! ### an outcome is one of these -/
def Out.To {α : Type} (o : Out α) (Q : α → Store → Prop) : Prop := ∃ a st, o = .ok a st ∧ Q a st
theorem Out.To.bind {α β : Type} {x : Out α} {f : α → Store → Out β} {P : α → Store → Prop} {Q : β → Store → Prop} (h : x.To P) (h2 : ∀ a st, P a st → (f a st).To Q) : (x.bind f).To Q := by
  obtain ⟨a, st, e, p⟩ := h
  subst e
  exact h2 a st p
theorem Out.To.ok {α : Type} {a : α} {st : Store} {Q : α → Store → Prop} (h : Q a st) : (Out.ok a st).To Q := ⟨a, st, rfl, h⟩
theorem Out.To.mono {α : Type} {x : Out α} {P Q : α → Store → Prop} (h : x.To P) (h2 : ∀ a st, P a st → Q a st) : x.To Q := by
  obtain ⟨a, st, e, p⟩ := h
  exact ⟨a, st, e, h2 a st p⟩
def SOut.To (o : SOut) (Q : Store → En → Prop) : Prop := ∃ st env, o = .nx st env ∧ Q st env
theorem Out.To.stm {α : Type} {x : Out α} {f : α → Store → SOut} {P : α → Store → Prop} {Q : Store → En → Prop} (h : x.To P) (h2 : ∀ a st, P a st → (f a st).To Q) : (x.stm f).To Q := by
  obtain ⟨a, st, e, p⟩ := h
  subst e
  exact h2 a st p
theorem SOut.To.thn {x : SOut} {G : Sv} {P : Store → En → Prop} {Q : Store → En → Prop} (h : x.To P) (h2 : ∀ st env, P st env → (G st env).To Q) : (x.thn G).To Q := by
  obtain ⟨st, e, q, p⟩ := h
  subst q
  exact h2 st e p
theorem SOut.To.nx {st : Store} {env : En} {Q : Store → En → Prop} (h : Q st env) : (SOut.nx st env).To Q := ⟨st, env, rfl, h⟩
theorem SOut.To.fin {x : SOut} {G : Sv} {P : Store → En → Prop} {Q : D → Store → Prop} (h : x.To P) (h2 : ∀ st env, P st env → (Dl.fin (G st env)).To Q) : (Dl.fin (x.thn G)).To Q := by
  obtain ⟨st, e, q, p⟩ := h
  subst q
  exact h2 st e p
/-- a comprehension whose tests draw: of the items some are left -/
theorem lc_to {α : Type} (l : List α) (c : α → D) (f : α → D) (I : Store → Prop) {W : Iv} {g : Tg} {T : Tv} {A : Ev} {st : Store} {env : En} (hw : W st env = .ok (l.map c) st) (hl : l.length ≤ LINE) (h0 : I st)
    (h : ∀ a ∈ l, ∀ st, I st → ∃ e, g.set (c a) (wipeE env g.slots) = some e ∧ (T st e).To (fun b st' => I st' ∧ (b = true → (A st' e).To fun v st2 => v = f a ∧ I st2))) :
    (eLc W g T A st env).To fun v st' => I st' ∧ ∃ s : List α, s.Sublist l ∧ v = .lst (s.map f) := by
  have q : ∀ l' : List α, (∀ a ∈ l', a ∈ l) → ∀ st, I st → (lcGo g T A (l'.map c) st env).To fun v st' => I st' ∧ ∃ s : List α, s.Sublist l' ∧ v = s.map f := by
    intro l'
    induction l' with
    | nil => exact fun _ st hi => .ok ⟨hi, [], List.Sublist.slnil, rfl⟩
    | cons a r ih =>
      intro hm st hi
      obtain ⟨e, h1, b, st1, h2, hi1, h3⟩ := h a (hm a List.mem_cons_self) st hi
      have i := ih fun b hb => hm b (List.mem_cons_of_mem _ hb)
      rw [List.map_cons]
      unfold lcGo
      rw [h1]
      simp only [h2, Out.bind]
      cases b with
      | true =>
        obtain ⟨v, st2, h4, rfl, hi2⟩ := h3 rfl
        simp only [h4, Out.bind, if_true]
        refine (i st2 hi2).bind ?_
        rintro xs st3 ⟨hi3, s, hs, rfl⟩
        exact .ok ⟨hi3, a :: s, hs.cons_cons a, rfl⟩
      | false =>
        simp only [Bool.false_eq_true, if_false]
        refine (i st1 hi1).mono ?_
        rintro xs st3 ⟨hi3, s, hs, rfl⟩
        exact ⟨hi3, s, hs.cons a, rfl⟩
  obtain ⟨xs, st', e, hi, s, hs, rfl⟩ := q l (fun _ h => h) st h0
  unfold eLc
  rw [hw]
  simp only [Out.bind, e, Out.calm]
  rw [if_pos (by rw [List.length_map]; exact Nat.le_trans hs.length_le hl)]
  exact .ok ⟨hi, s, hs, rfl⟩
/-- a for whose body draws -/
theorem for_to {α : Type} (l : List α) (c : α → D) {g : Tg} {B : Sv} (Inv : List α → Store → En → Prop) {st : Store} {env : En} (h0 : Inv [] st env)
    (hs : ∀ done a rest st env, l = done ++ a :: rest → Inv done st env → ∃ env1, g.set (c a) env = some env1 ∧ (B st env1).To (Inv (done ++ [a]))) : (forGo g B (l.map c) st env).To (Inv l) := by
  obtain ⟨st', env', h1, h2⟩ := for_inv l c (B := B) (g := g) Inv h0 fun done a rest st env e hi => by
    obtain ⟨env1, h1, st', env', h2, h3⟩ := hs done a rest st env e hi
    exact ⟨env1, h1, st', env', h2, h3⟩
  exact ⟨st', env', h1, h2⟩
end Dl
end
section
set_option maxRecDepth 100000
set_option linter.all false
set_option Elab.async false
set_option maxHeartbeats 1000000
namespace Lw
open PySem Dl
@[simp] theorem dIn_strs (neg : Bool) (x : Str) (l : List Str) (st : Store) : dIn neg (.str x) (.tup (l.map .str)) st = .ok (.bl (if neg then !decide (x ∈ l) else decide (x ∈ l))) st := by simp [dIn, in_strs]
@[simp] theorem dIn_ints (neg : Bool) (x : Int) (l : List Int) (st : Store) : dIn neg (.int x) (.lst (l.map .int)) st = .ok (.bl (if neg then !decide (x ∈ l) else decide (x ∈ l))) st := by simp [dIn, in_ints]
@[simp] theorem dIn_intsT (neg : Bool) (x : Int) (l : List Int) (st : Store) : dIn neg (.int x) (.tup (l.map .int)) st = .ok (.bl (if neg then !decide (x ∈ l) else decide (x ∈ l))) st := by simp [dIn, in_intsT]
/-! ### the law's own: who lives -/
theorem dGet_of {ps : List Pane} (f : Pane → D) (h : (ps.map (·.nm)).Nodup) {p : Pane} (hp : p ∈ ps) : dGet (ps.map fun p => ((.inl p.nm : Key), f p)) (.inl p.nm) = some (f p) := by
  unfold dGet
  induction ps with
  | nil => cases hp
  | cons q ps ih =>
    rw [List.map_cons, List.nodup_cons] at h
    rw [List.map_cons]
    rcases List.mem_cons.mp hp with rfl | hp
    · rw [List.find?_cons_of_pos (by simp)]; rfl
    · have hne : q.nm ≠ p.nm := fun e => h.1 (e ▸ List.mem_map_of_mem hp)
      rw [List.find?_cons_of_neg (by simpa using hne)]
      exact ih h.2 hp
theorem dict_of (st : Store) {ps : List Pane} (f : Pane → D) (hf : ∀ p, (f p).imm = true) (h : (ps.map (·.nm)).Nodup) : dDict (.lst (ps.map fun p => .tup [.int p.nm, f p])) st = .ok (.dct (ps.map fun p => (.inl p.nm, f p))) st := by
  have hk : (ps.map fun p => ((.inl p.nm : Key), f p)).map (·.1) = (ps.map (·.nm)).map Sum.inl := by simp [List.map_map, Function.comp_def]
  have hm : dMerge [] (ps.map fun p => ((.inl p.nm : Key), f p)) = (ps.map fun p => ((.inl p.nm : Key), f p)) := dMerge_nd _ [] (fun _ h => by cases h) (by
    rw [hk]
    exact List.Pairwise.map _ (fun a b (hab : a ≠ b) (e : (Sum.inl a : Key) = Sum.inl b) => hab (Sum.inl.inj e)) h)
  have hi : D.imms ((ps.map fun p => ((.inl p.nm : Key), f p)).map (·.2)) = true := by simp [List.all_map, Function.comp_def, List.all_eq_true, hf]
  simp only [dDict, kpairs_of, hi, if_true, hm]
def mkD (ps : List Pane) : List (Key × D) := ps.map fun p => (.inl p.nm, .tup (p.marks.map .str))
theorem imm_marks (p : Pane) : D.imm (.tup (p.marks.map .str)) = true := by simp [List.all_map, Function.comp_def, List.all_eq_true]
def livL (ps : List Pane) (up : Int → List Int) : List Int := (ps.filter fun p => aliveB ps up p.nm).map (·.nm)
def deadL (ps : List Pane) : List Int := (ps.filter dead).map (·.nm)
theorem own_mk (ps : List Pane) : own (.dct (mkD ps)) = .ow (.dct (mkD ps)) := by
  have hi : D.imms ((mkD ps).map (·.2)) = true := by
    unfold mkD
    simp [-imm_tup, imm_marks, List.all_map, Function.comp_def, List.all_eq_true]
  show (if D.imms ((mkD ps).map (·.2)) = true then Sl.ow _ else Sl.vl _) = _
  rw [if_pos hi]
theorem own_ints (l : List Int) : own (.lst (l.map .int)) = .ow (.lst (l.map .int)) := by
  have hi := imms_ints l
  show (if D.imms (l.map D.int) = true then Sl.ow _ else Sl.vl _) = _
  rw [if_pos hi]
theorem deadL_mem {ps : List Pane} (R : PlanR ps) {p : Pane} (hp : p ∈ ps) : p.nm ∈ deadL ps ↔ dead p = true := by
  unfold deadL
  rw [List.mem_map]
  constructor
  · rintro ⟨q, hq, e⟩
    obtain ⟨h1, h2⟩ := List.mem_filter.mp hq
    cases pane_eq R.nd h1 hp e
    exact h2
  · intro h
    exact ⟨p, List.mem_filter.mpr ⟨hp, h⟩, rfl⟩
theorem livL_mem {ps : List Pane} {up : Int → List Int} (R : PlanR ps) {p : Pane} (hp : p ∈ ps) : p.nm ∈ livL ps up ↔ aliveB ps up p.nm = true := by
  unfold livL
  rw [List.mem_map]
  constructor
  · rintro ⟨q, hq, e⟩
    obtain ⟨h1, h2⟩ := List.mem_filter.mp hq
    cases pane_eq R.nd h1 hp e
    exact h2
  · intro h
    exact ⟨p, List.mem_filter.mpr ⟨hp, h⟩, rfl⟩
theorem iVar_dct (st : Store) (xs : List (Key × D)) (env : En) (i : Nat) (h : env.getD i .un = .vl (.dct xs)) (hk : xs.all (fun kv => keyOk kv.1) = true) : iVar i st env = .ok (xs.map fun kv => kD kv.1) st := by
  unfold iVar vlOf
  rw [h]
  simp [itemsOf, hk]
section
variable {ps : List Pane} {up : Int → List Int} (P : PlanA ps up) (st : Store)
include P
theorem lw_living_ok : F__law_living st [encPlan ps] = .ok (.lst ((livL ps up).map .int)) st := by
  have hd : dDict (.lst (ps.map fun p => .tup [.int p.nm, .tup (p.marks.map .str)])) st = .ok (.dct (mkD ps)) st := dict_of st (fun p => .tup (p.marks.map .str)) imm_marks P.r.nd
  have hm := own_mk ps
  have hg : ∀ p ∈ ps, dGet (mkD ps) (.inl p.nm) = some (.tup (p.marks.map .str)) := fun p hp => dGet_of (fun p => .tup (p.marks.map .str)) P.r.nd hp
  have hki : (mkD ps).map (fun kv => kD kv.1) = ps.map fun p => .int p.nm := by unfold mkD; rw [List.map_map]; rfl
  have hk : (mkD ps).all (fun kv => keyOk kv.1) = true := by unfold mkD; simp [List.all_map, Function.comp_def, List.all_eq_true, keyOk]
  have hi : D.imms ((mkD ps).map (·.2)) = true := by unfold mkD; simp [-imm_tup, imm_marks, List.all_map, Function.comp_def, List.all_eq_true]
  have hdl : (deadL ps).length ≤ 1000000 := by unfold deadL; rw [List.length_map]; exact Nat.le_trans (List.length_filter_le ..) P.r.len
  simp [-imm_tup, F__law_living, B__law_living, runFn_fin]
  rw [lcV_eq (by simp [frz, vlOf, isDct, encPlan]), lca_eq ps encPane (fun p => .tup [.int p.nm, .tup (p.marks.map .str)]) (iVar_tup _ _ _ _ rfl) (line_ge P.r.len) (fun p hp => ⟨_, rfl, by simp [-imm_tup, ix_nm, ix_marks, imm_marks, frz, wipeE, Tg.slots, LINE]⟩)]
  simp only [bind_ok, hd, stm_ok, hm, thn_nx, fin_stm, x_Seq]
  rw [lcVd_eq (by simp [-imms_eq, frz, vlOf, isDct, lockOk, Sl.immOw, encPlan]), lc_eq ps (fun p => .int p.nm) dead (fun p => .int p.nm) (by rw [iVar_dct _ _ _ _ rfl hk, hki]) (line_ge P.r.len) (fun p hp => ⟨_, rfl, by
    cases h : decide (Str.ofString "asleep" ∈ p.marks) <;> simp [frz, wipeE, Tg.slots, dIx, keyOf, hg p hp, dead, h], fun _ => by simp [frz, wipeE, Tg.slots]⟩)]
  have e1 : (ps.filter dead).map (fun p => D.int p.nm) = (deadL ps).map .int := by unfold deadL; rw [List.map_map]; rfl
  rw [e1]
  simp only [bind_ok, own_ints]
  rw [lcVd_eq (by simp [frz, vlOf, isDct, lockOk, Sl.immOw, encPlan, -imms_eq, hi, imms_ints]), lc_eq ps (fun p => .int p.nm) (fun p => aliveB ps up p.nm) (fun p => .int p.nm) (by rw [iVar_dct _ _ _ _ rfl hk, hki]) (line_ge P.r.len) (fun p hp => ⟨_, rfl, by
    simp [frz, wipeE, Tg.slots]
    have h0 := line_ok st P.r (P.anc p hp) (P.len p hp)
    rw [lc_eq (up p.nm) D.int (fun m => decide (m ∈ deadL ps)) D.int (by simp [iExp, h0]) (line_ge (by have := P.len p hp; omega)) (fun m hm => ⟨_, rfl, by simp [wipeE, Tg.slots], fun _ => by simp [wipeE, Tg.slots]⟩)]
    have e : decide ((up p.nm).filter (fun m => decide (m ∈ deadL ps)) = []) = aliveB ps up p.nm := by
      unfold aliveB
      rw [Bool.eq_iff_iff, decide_eq_true_iff, List.filter_eq_nil_iff, List.all_eq_true]
      refine ⟨fun h m hm => ?_, fun h m hm => ?_⟩
      · obtain ⟨q, hq, rfl⟩ := (P.anc p hp).mem m hm
        have := h _ hm
        rw [decide_eq_true_iff, deadL_mem P.r hq] at this
        rw [pn_of P.r.nd hq]
        simpa using this
      · obtain ⟨q, hq, rfl⟩ := (P.anc p hp).mem m hm
        have := h _ hm
        rw [pn_of P.r.nd hq] at this
        rw [decide_eq_true_iff, deadL_mem P.r hq]
        simpa using this
    simp only [bind_ok, x_Nil, List.length_nil, Nat.zero_le, if_true, dEq, deq_ints0, e]
    simp, fun _ => by simp [frz, wipeE, Tg.slots]⟩)]
  unfold livL
  rw [List.map_map]
  rfl
theorem livL_len : (livL ps up).length ≤ 1000000 := by
  unfold livL
  rw [List.length_map]
  exact Nat.le_trans (List.length_filter_le ..) P.r.len
theorem lw_reign_ok : F__law_reign st [encPlan ps] = .ok (.int (top ps up)) st := by
  have h0 := lw_living_ok P st
  simp [F__law_reign, B__law_reign, runFn_fin, h0, own_ints]
  rw [lcV_eq (by simp [frz, vlOf, isDct, encPlan]), lc_eq ps encPane (fun p => decide (Str.ofString "sheet" ∈ p.marks) && aliveB ps up p.nm) (fun p => .int p.nm) (iVar_tup _ _ _ _ rfl) (line_ge P.r.len) (fun p hp => ⟨_, rfl, by
    have := livL_mem (up := up) P.r hp
    cases hs : decide (Str.ofString "sheet" ∈ p.marks) <;> simp [ix_marks, ix_nm, hs, frz, wipeE, Tg.slots, this], fun _ => by simp [ix_nm, frz, wipeE, Tg.slots]⟩)]
  have e : (ps.filter fun p => decide (Str.ofString "sheet" ∈ p.marks) && aliveB ps up p.nm).map (fun p => D.int p.nm) = ((ps.filter fun p => decide (Str.ofString "sheet" ∈ p.marks) && aliveB ps up p.nm).map (·.nm)).map D.int := by rw [List.map_map]; rfl
  have hl : ((ps.filter fun p => decide (Str.ofString "sheet" ∈ p.marks) && aliveB ps up p.nm).map (·.nm)).length ≤ 1000000 := by
    rw [List.length_map]
    exact Nat.le_trans (List.length_filter_le ..) P.r.len
  rw [e]
  unfold top
  generalize (ps.filter fun p => decide (Str.ofString "sheet" ∈ p.marks) && aliveB ps up p.nm).map (·.nm) = ns at *
  have h2 : dAdd (.lst [.int 0]) (.lst (ns.map D.int)) st = .ok (.lst ((0 :: ns).map D.int)) st := by
    have hi := imms_ints ns
    have hb : 1 + ns.length ≤ LINE := by show _ ≤ 16777216; omega
    rw [LINE_eq] at hb
    simp [dAdd, hi, hb]
  have h3 : dMax1 (.lst ((0 :: ns).map D.int)) st = .ok (.int (maxI (0 :: ns))) st := by
    unfold dMax1
    simp only [intsOf_map]
  rw [List.map_cons] at h2 h3
  simp [LINE, h2, h3]
def openL (ps : List Pane) (up : Int → List Int) : List Int := (livL ps up).filter fun n => decide (top ps up ∈ up n)
theorem livL_pane {n : Int} (h : n ∈ livL ps up) : ∃ p ∈ ps, p.nm = n := by
  unfold livL at h
  obtain ⟨p, hp, e⟩ := List.mem_map.mp h
  exact ⟨p, (List.mem_filter.mp hp).1, e⟩
theorem lw_open_ok : F__law_open st [encPlan ps] = .ok (.lst ((openL ps up).map .int)) st := by
  have h0 := lw_living_ok P st
  have h1 := lw_reign_ok P st
  have ho : own (.int (top ps up)) = .vl (.int (top ps up)) := rfl
  simp [F__law_open, B__law_open, runFn_fin, h1, ho]
  rw [lc_eq (livL ps up) D.int (fun n => decide (top ps up ∈ up n)) D.int (by simp [iExp, h0]) (line_ge (livL_len P)) (fun n hn => ⟨_, rfl, by
    obtain ⟨p, hp, rfl⟩ := livL_pane P hn
    have h2 := line_ok st P.r (P.anc p hp) (P.len p hp)
    simp [wipeE, Tg.slots, h2], fun _ => by simp [wipeE, Tg.slots]⟩)]
  rfl
theorem openL_mem {p : Pane} (hp : p ∈ ps) : p.nm ∈ openL ps up ↔ opensB ps up p.nm = true := by
  unfold openL opensB
  rw [List.mem_filter, livL_mem P.r hp]
  simp
theorem lw_goods_ok : F__law_goods st [encPlan ps] = .ok (.lst ((holdL ps up).map .int)) st := by
  have h0 := lw_open_ok P st
  have h1 := lw_reign_ok P st
  have ho : own (.int (top ps up)) = .vl (.int (top ps up)) := rfl
  simp [F__law_goods, B__law_goods, runFn_fin, sSets, setsGo, h1, ho, h0, own_ints]
  rw [lcV_eq (by simp [frz, vlOf, isDct, encPlan]), lc_eq ps encPane (takesB ps up) (fun p => .int p.nm) (iVar_tup _ _ _ _ rfl) (line_ge P.r.len) (fun p hp => ⟨_, rfl, by
    have := openL_mem P hp
    by_cases hb : p.nm = top ps up
    · rw [hb] at this
      cases ha : opensB ps up (top ps up) <;> simp [ix_marks, ix_nm, frz, wipeE, Tg.slots, this, takesB, ha, dEq, hb]
    · cases ha : opensB ps up p.nm <;> simp [ix_marks, ix_nm, frz, wipeE, Tg.slots, this, takesB, ha, dEq, hb], fun _ => by simp [ix_nm, frz, wipeE, Tg.slots]⟩)]
  unfold holdL
  rw [List.map_map]
  rfl
theorem lw_pane_ok {p : Pane} (hp : p ∈ ps) : F__law_pane st [encPlan ps, .int p.nm] = .ok (encPane p) st := by
  simp [F__law_pane, B__law_pane, runFn_fin]
  rw [lcV_eq (by simp [frz, vlOf, isDct, encPlan]), lc_eq ps encPane (fun q => decide (q.nm = p.nm)) encPane (iVar_tup _ _ _ _ rfl) (line_ge P.r.len) (fun q hq => ⟨_, rfl, by simp [ix_nm, frz, wipeE, Tg.slots, dEq], fun _ => by simp [ix_nm, frz, wipeE, Tg.slots]⟩), filter_one P.r.nd hp]
  simp [dIx, L2.atI, L2.ixN]
end
end Lw
end
section
set_option maxRecDepth 100000
set_option linter.all false
set_option Elab.async false
set_option maxHeartbeats 1000000
namespace Lw
open PySem Dl
@[simp] theorem ixm1 (l : List Int) (n : Int) (st : Store) : dIx (.lst ((l ++ [n]).map .int)) (.int (-1)) st = .ok (.int n) st := by
  simp only [dIx, last_atI]
theorem own_prs (l : List (Int × Int)) : own (.lst (l.map prD)) = .ow (.lst (l.map prD)) := by
  have hi : D.imms (l.map prD) = true := by simp [List.all_map, Function.comp_def, List.all_eq_true, prD]
  show (if D.imms (l.map prD) = true then Sl.ow _ else Sl.vl _) = _
  rw [if_pos hi]
theorem lw_walk_ok (st : Store) {ps : List Pane} (hp : ps.length ≤ 1000000) {n : Int} {l : List Int} (h : Walk ps [n] l) (hl : l.length ≤ 1000) : F__law_walk st [encPlan ps, .int n] = .ok (.lst (l.map .int)) st := by
  simp [F__law_walk, B__law_walk, runFn_fin, sSets, setsGo, own]
  obtain ⟨st', env', hw, rfl, x, rfl⟩ := while_inv (T := tVal (eEq true (eVar 3) (eLst aNil))) (B := sSeq (sAppPop 2 3)
    (sSeq (sSet 4 (eSorted (eLcV 0 (iVar 0) (.one 5) (tVal (eEq false (eIx (eVar 5) (eC (.int 1))) (eIx (eVar 2) (eNeg (eC (.int 1)))))) (eTup (aCons (eImm (eIx (eVar 5) (eC (.int 3)))) (aCons (eImm (eIx (eVar 5) (eC (.int 0)))) aNil))))))
    (sExt 3 (eLc (iExp (eRev (eVar 4))) (.tup [6, 7]) tTrue (eImm (eVar 7))))))
    (fun k st' env => st' = st ∧ ∃ s r acc x, Walk ps s r ∧ r.length = k ∧ acc ++ r = l ∧ env = [.vl (encPlan ps), .vl (.int n), .ow (.lst (acc.map .int)), .ow (.lst (s.map .int)), x, .un, .un, .un])
    (fun st' env => st' = st ∧ ∃ x, env = [.vl (encPlan ps), .vl (.int n), .ow (.lst (l.map .int)), .ow (.lst []), x, .un, .un, .un])
    (by
      rintro k st' env ⟨rfl, s, r, acc, x, hW, rfl, rfl, rfl⟩
      cases hW with
      | nil =>
        refine .inl ⟨st', ?_, rfl, x, by simp⟩
        have d0 : deq (.lst []) (.lst []) = some true := deq_ints0 []
        simp [dEq, d0]
      | @pop s r m hW =>
        refine .inr ⟨st', ?_, r.length, st', [.vl (encPlan ps), .vl (.int n), .ow (.lst ((acc ++ [m]).map .int)), .ow (.lst ((s ++ (order ps m).reverse).map .int)), .ow (.lst ((isort ltP (below ps m)).map prD)), .un, .un, .un], ?_, by simp, rfl, s ++ (order ps m).reverse, r, acc ++ [m], _, hW, rfl, by simp, rfl⟩
        · have hn : decide (s ++ [m] = []) = false := by simp
          have hd := deq_ints0 (s ++ [m])
          rw [hn] at hd
          simp [-List.map_append, dEq, hd]
        · have hw := hW.le
          rw [List.length_append, List.length_reverse] at hw
          simp only [List.length_append, List.length_cons] at hl
          have l1 : acc.length < 16777216 := by omega
          have l2 : s.length + (order ps m).length ≤ 16777216 := by omega
          have hpop : sAppPop 2 3 st' [.vl (encPlan ps), .vl (.int n), .ow (.lst (acc.map .int)), .ow (.lst ((s ++ [m]).map .int)), x, .un, .un, .un] = .nx st' [.vl (encPlan ps), .vl (.int n), .ow (.lst ((acc ++ [m]).map .int)), .ow (.lst (s.map .int)), x, .un, .un, .un] := by
            simp [sAppPop, popTo, ownL, appTo, l1]
          simp only [x_Seq, hpop, thn_nx, x_Set, x_Sorted, bind_stm]
          rw [lcV_eq (by simp [frz, vlOf, isDct, encPlan]), lc_eq ps encPane (fun p => decide (p.up = some m)) (fun p => prD (p.turn, p.nm)) (iVar_tup _ _ _ _ rfl) (line_ge hp) (fun p hp => ⟨_, rfl, by simp [-List.map_append, ix_nm, ix_up, up_eq, frz, wipeE, Tg.slots, dNeg], fun _ => by simp [ix_nm, ix_turn, frz, wipeE, Tg.slots, prD]⟩)]
          have e : (ps.filter fun p => decide (p.up = some m)).map (fun p => prD (p.turn, p.nm)) = (below ps m).map prD := by unfold below; rw [List.map_map]; rfl
          have hrev : dRev (.lst ((isort ltP (below ps m)).map prD)) st' = .ok (.lst ((isort ltP (below ps m)).reverse.map prD)) st' := by
            have hi : D.imms ((isort ltP (below ps m)).map prD) = true := by simp [List.all_map, Function.comp_def, List.all_eq_true, prD]
            unfold dRev
            simp only [hi, if_true, List.map_reverse]
          simp only [e, stm_ok, sorted_pairs, own_prs, thn_nx, List.set_cons_succ, List.set_cons_zero]
          unfold sExt
          simp only [ownL, List.getD_cons_zero, List.getD_cons_succ]
          have hlen : (isort ltP (below ps m)).length = (order ps m).length := by unfold order; rw [List.length_map]
          rw [lca_eq ((isort ltP (below ps m)).reverse) prD (fun q => .int q.2) (by simp [-List.map_reverse, iExp, hrev]) (by rw [List.length_reverse, hlen, LINE_eq]; omega) (fun q hq => ⟨[.vl (encPlan ps), .vl (.int n), .ow (.lst ((acc ++ [m]).map .int)), .ow (.lst (s.map .int)), .ow (.lst ((isort ltP (below ps m)).map prD)), .un, .vl (.int q.1), .vl (.int q.2)], rfl, by simp⟩)]
          have e2 : (isort ltP (below ps m)).reverse.map (fun q => D.int q.2) = (order ps m).reverse.map .int := by
            unfold order
            rw [← List.map_reverse, List.map_map]
            rfl
          have hi2 := imms_ints (order ps m).reverse
          have l3 : (s.map D.int).length + ((order ps m).reverse.map D.int).length ≤ 16777216 := by simpa using l2
          simp only [stm_ok, e2, hi2, LINE_eq, l3, decide_true, Bool.and_self, if_true]
          simp)
    (n := l.length) (by omega) ⟨rfl, [n], l, [], .un, h, rfl, rfl, rfl⟩
  have hw' : sWhile (tVal (eEq true (eVar 3) (eLst aNil))) (sSeq (sAppPop 2 3)
    (sSeq (sSet 4 (eSorted (eLcV 0 (iVar 0) (.one 5) (tVal (eEq false (eIx (eVar 5) (eC (.int 1))) (eIx (eVar 2) (eNeg (eC (.int 1)))))) (eTup (aCons (eImm (eIx (eVar 5) (eC (.int 3)))) (aCons (eImm (eIx (eVar 5) (eC (.int 0)))) aNil))))))
    (sExt 3 (eLc (iExp (eRev (eVar 4))) (.tup [6, 7]) tTrue (eImm (eVar 7)))))) st' [.vl (encPlan ps), .vl (.int n), .ow (.lst []), .ow (.lst [.int n]), .un, .un, .un, .un] = _ := hw
  rw [hw']
  simp
section
variable {ps : List Pane} {up w : Int → List Int} (P : PlanB ps up w) (st : Store)
include P
theorem lw_stops_ok (p : Pane) (hp : p ∈ ps) : F__law_stops st [encPlan ps, .int p.nm] = .ok (.lst ((stopsL ps up w p.nm).map .int)) st := by
  have h0 := lw_open_ok P.a st
  have h1 := lw_walk_ok st P.a.r.len (P.walk p hp) (P.wl p hp)
  simp [F__law_stops, B__law_stops, runFn_fin, h0, own_ints]
  rw [lc_eq (w p.nm) D.int (stopB ps up) D.int (by simp [iExp, h1]) (line_ge (by have := P.wl p hp; omega)) (fun m hm => ⟨_, rfl, by
    obtain ⟨q, hq, rfl⟩ := wmem P p hp m hm
    have := openL_mem P.a hq
    have h2 := lw_pane_ok P.a st hq
    unfold stopB
    rw [pn_of P.a.r.nd hq]
    cases ha : opensB ps up q.nm <;> simp [wipeE, Tg.slots, this, ha, h2, ix_marks], fun _ => by simp [wipeE, Tg.slots]⟩)]
  rfl
theorem lw_field_ok (p : Pane) (hp : p ∈ ps) : F__law_field st [encPlan ps, .int p.nm] = .ok (.int (fieldL ps up p.nm)) st := by
  have h0 := line_ok st P.a.r (P.a.anc p hp) (P.a.len p hp)
  have h2 := lw_reign_ok P.a st
  obtain ⟨f1, f2⟩ := forGo_find (g := .one 2) (B := sIf (tVal (eIn false (eC (.str (Str.ofString "hold"))) (eIx (eCall F__law_pane (aCons (eVar 0) (aCons (eVar 2) aNil))) (eC (.int 4))))) (sRetVar 2) sPass) (st := st) (c := D.int) (e := fun x => [.vl (encPlan ps), .vl (.int p.nm), x])
    (t := fun m => decide (Str.ofString "hold" ∈ (pn ps m).marks)) (f := D.int) (l := up p.nm) .un (fun a ha x => by
      obtain ⟨q, hq, rfl⟩ := (P.a.anc p hp).mem a ha
      refine ⟨rfl, ?_⟩
      rw [pn_of P.a.r.nd hq]
      have k1 := lw_pane_ok P.a st hq
      cases hs : decide (Str.ofString "hold" ∈ q.marks) <;> simp [k1, ix_marks, hs])
  have hi : iExp (eCall F__law_line (aCons (eVar 0) (aCons (eVar 1) aNil))) st [.vl (encPlan ps), .vl (.int p.nm), .un] = .ok ((up p.nm).map .int) st := by simp [iExp, h0]
  unfold fieldL
  cases hf : (up p.nm).find? fun m => decide (Str.ofString "hold" ∈ (pn ps m).marks) with
  | some a => simp [F__law_field, B__law_field, runFn_fin, sFor, frz, hi, f1 a hf]
  | none =>
    obtain ⟨y, q⟩ := f2 hf
    simp [F__law_field, B__law_field, runFn_fin, sFor, frz, hi, q, h2]
end
end Lw
end
section
set_option maxRecDepth 100000
set_option linter.all false
set_option Elab.async false
set_option maxHeartbeats 1000000
namespace Lw
open PySem Dl
/-! ### the way up to the field -/
def upto (f : Int) : List Int → List Int
  | [] => []
  | m :: r => if m = f then [m] else m :: upto f r
theorem upto_ix (f : Int) : ∀ {l : List Int}, f ∈ l → ∃ j, (l.map D.int).findIdx? (fun z => feq z (.int f)) = some j ∧ j < l.length ∧ l.take (j + 1) = upto f l
  | m :: r, h => by
    by_cases e : m = f
    · subst e
      exact ⟨0, by simp [List.findIdx?_cons, feq], by simp, by simp [upto]⟩
    · have hr : f ∈ r := by
        rcases List.mem_cons.mp h with h | h
        · exact absurd h.symm e
        · exact h
      obtain ⟨j, h1, h2, h3⟩ := upto_ix f hr
      refine ⟨j + 1, ?_, by simp; omega, ?_⟩
      · rw [List.map_cons, List.findIdx?_cons, h1]
        simp [feq, e]
      · rw [List.take_succ_cons, h3, upto, if_neg e]
theorem upto_sub (f : Int) : ∀ {l : List Int} {m : Int}, m ∈ upto f l → m ∈ l
  | [], _, h => h
  | a :: r, m, h => by
    unfold upto at h
    split at h
    · exact List.mem_singleton.mp h ▸ List.mem_cons_self
    · rcases List.mem_cons.mp h with rfl | h
      · exact List.mem_cons_self
      · exact List.mem_cons_of_mem _ (upto_sub f h)
def oneB (ps : List Pane) (m : Int) : Bool := decide (Str.ofString "one" ∈ (pn ps m).marks)
theorem grp_eq (ps : List Pane) (f : Int) : ∀ (l : List Int) (g : Option Int), f ∈ l → grp ps f l g = (((upto f l).filter (oneB ps)).getLast?).or g
  | m :: r, g, h => by
    unfold grp upto
    by_cases e : m = f
    · rw [if_pos e, if_pos e]
      by_cases o : Str.ofString "one" ∈ (pn ps m).marks
      · simp [oneB, o]
      · simp [oneB, o]
    · have hr : f ∈ r := by
        rcases List.mem_cons.mp h with h | h
        · exact absurd h.symm e
        · exact h
      rw [if_neg e, if_neg e, grp_eq ps f r _ hr]
      by_cases o : Str.ofString "one" ∈ (pn ps m).marks
      · have ob : oneB ps m = true := decide_eq_true o
        rw [if_pos o, List.filter_cons_of_pos ob, List.getLast?_cons]
        cases ((upto f r).filter (oneB ps)).getLast? <;> rfl
      · have ob : ¬ oneB ps m = true := by simp [oneB, o]
        rw [if_neg o, List.filter_cons_of_neg ob]
/-! ### lots -/
def encL (e : Int × List Int) : Key × D := (.inl e.1, .lst (e.2.map .int))
def putL (lots : List (Int × List Int)) (k : Int) (ms : List Int) : List (Int × List Int) := if lots.any (fun e => decide (e.1 = k)) = true then lots.map fun e => if e.1 = k then (k, ms) else e else lots ++ [(k, ms)]
def getL (lots : List (Int × List Int)) (k : Int) : List Int := ((lots.find? fun e => decide (e.1 = k)).map (·.2)).getD []
theorem putL_ok (lots : List (Int × List Int)) (k : Int) (ms : List Int) : dPut (lots.map encL) (.inl k) (.lst (ms.map .int)) = (putL lots k ms).map encL := by
  have ha : ((lots.map encL).any fun kv => decide (kv.1 = .inl k)) = lots.any fun e => decide (e.1 = k) := by
    rw [List.any_map]
    congr 1
    funext e
    simp [encL]
  unfold dPut putL
  rw [ha]
  split
  · rw [List.map_map, List.map_map]
    apply List.map_congr_left
    intro e _
    by_cases h : e.1 = k <;> simp [encL, h]
  · rw [List.map_append]; rfl
theorem getL_ok (lots : List (Int × List Int)) (k : Int) : (dGet (lots.map encL) (.inl k)).getD (.lst []) = .lst ((getL lots k).map .int) := by
  unfold dGet getL
  rw [List.find?_map]
  have e : ((fun kv : Key × D => decide (kv.1 = .inl k)) ∘ encL) = fun e => decide (e.1 = k) := by
    funext e
    simp [encL]
  rw [e]
  cases lots.find? fun e => decide (e.1 = k) <;> simp [encL]
structure LotsOk (key : Int → Int) (done : List Int) (lots : List (Int × List Int)) : Prop where
  val : ∀ e ∈ lots, e.2 = done.filter (fun n => decide (key n = e.1)) ∧ e.2 ≠ []
  has : ∀ n ∈ done, ∃ e ∈ lots, e.1 = key n
  len : lots.length ≤ done.length
theorem LotsOk.get {key : Int → Int} {done : List Int} {lots : List (Int × List Int)} (h : LotsOk key done lots) (k : Int) : getL lots k = done.filter (fun n => decide (key n = k)) := by
  unfold getL
  cases hf : lots.find? fun e => decide (e.1 = k) with
  | some e =>
    have h1 := List.mem_of_find?_eq_some hf
    have h2 := List.find?_some hf
    simp only [decide_eq_true_eq] at h2
    show e.2 = _
    rw [(h.val e h1).1, h2]
  | none =>
    rw [List.find?_eq_none] at hf
    show [] = _
    rw [eq_comm, List.filter_eq_nil_iff]
    intro n hn he
    simp only [decide_eq_true_eq] at he
    obtain ⟨e, h1, h2⟩ := h.has n hn
    exact hf e h1 (by simp [h2, he])
theorem LotsOk.step {key : Int → Int} {done : List Int} {lots : List (Int × List Int)} (h : LotsOk key done lots) (n : Int) : LotsOk key (done ++ [n]) (putL lots (key n) (getL lots (key n) ++ [n])) := by
  have hv : getL lots (key n) ++ [n] = (done ++ [n]).filter fun m => decide (key m = key n) := by
    rw [h.get, List.filter_append]
    simp
  have ho : ∀ e ∈ lots, e.1 ≠ key n → e.2 = (done ++ [n]).filter fun m => decide (key m = e.1) := fun e he hne => by
    rw [List.filter_append, ← (h.val e he).1]
    have : ¬ key n = e.1 := fun q => hne q.symm
    simp [this]
  unfold putL
  split
  · rename_i ha
    refine ⟨fun e he => ?_, fun m hm => ?_, ?_⟩
    · obtain ⟨e', h1, rfl⟩ := List.mem_map.mp he
      by_cases q : e'.1 = key n
      · rw [if_pos q]
        exact ⟨hv, by simp⟩
      · rw [if_neg q]
        exact ⟨ho e' h1 q, (h.val e' h1).2⟩
    · have : ∃ e ∈ lots, e.1 = key m := by
        rcases List.mem_append.mp hm with hm | hm
        · exact h.has m hm
        · rw [List.mem_singleton] at hm
          subst hm
          obtain ⟨e, h1, h2⟩ := List.any_eq_true.mp ha
          exact ⟨e, h1, by simpa using h2⟩
      obtain ⟨e, h1, h2⟩ := this
      by_cases q : e.1 = key n
      · exact ⟨(key n, getL lots (key n) ++ [n]), List.mem_map.mpr ⟨e, h1, by rw [if_pos q]⟩, q.symm.trans h2⟩
      · exact ⟨e, List.mem_map.mpr ⟨e, h1, by rw [if_neg q]⟩, h2⟩
    · rw [List.length_map, List.length_append]
      have := h.len
      simp; omega
  · rename_i ha
    refine ⟨fun e he => ?_, fun m hm => ?_, ?_⟩
    · rcases List.mem_append.mp he with he | he
      · have q : e.1 ≠ key n := fun q => ha (List.any_eq_true.mpr ⟨e, he, by simp [q]⟩)
        exact ⟨ho e he q, (h.val e he).2⟩
      · rw [List.mem_singleton] at he
        subst he
        exact ⟨hv, by simp⟩
    · rcases List.mem_append.mp hm with hm | hm
      · obtain ⟨e, h1, h2⟩ := h.has m hm
        exact ⟨e, List.mem_append_left _ h1, h2⟩
      · rw [List.mem_singleton] at hm
        subst hm
        exact ⟨_, List.mem_append_right _ (List.mem_singleton.mpr rfl), rfl⟩
    · simp only [List.length_append, List.length_singleton]
      have := h.len
      omega
theorem last_filter (p : Int → Bool) (l : List Int) : (l.filter p).getLast? = l.reverse.find? p := by
  rw [List.getLast?_eq_head?_reverse, ← List.filter_reverse, List.head?_filter]
theorem chosen_mem (row mem : List Int) (h : mem ≠ []) : chosenL row mem ∈ mem := by
  unfold chosenL
  cases hf : row.reverse.find? fun n => decide (n ∈ mem) with
  | some a =>
    have := List.find?_some hf
    simpa using this
  | none =>
    cases mem with
    | nil => exact absurd rfl h
    | cons a r => exact List.mem_cons_self
/-- the key of a lot -/
def lotK (ps : List Pane) (up : Int → List Int) (f n : Int) : Int := match grpOf ps up f n with
  | some u => u
  | none => -1 - n
theorem grp_mem (ps : List Pane) (f : Int) : ∀ (l : List Int) (g : Option Int) (u : Int), grp ps f l g = some u → u ∈ l ∨ g = some u
  | [], g, u, h => .inr h
  | m :: r, g, u, h => by
    unfold grp at h
    have q : ∀ g', (if Str.ofString "one" ∈ (pn ps m).marks then some m else g) = g' → g' = some u → u ∈ m :: r ∨ g = some u := by
      intro g' h1 h2
      rw [← h1] at h2
      split at h2
      · cases h2; exact .inl List.mem_cons_self
      · exact .inr h2
    split at h
    · exact q _ rfl h
    · rcases grp_mem ps f r _ u h with h | h
      · exact .inl (List.mem_cons_of_mem _ h)
      · exact q _ rfl h
/-- THE LAW'S ROUND is the program's -/
theorem round_same {ps : List Pane} {up : Int → List Int} (f : Int) (row line : List Int) (lots : List (Int × List Int)) (hnn : ∀ n ∈ line, 0 ≤ n) (hup : ∀ n ∈ line, ∀ u ∈ up n, 0 ≤ u) (h : LotsOk (lotK ps up f) line lots) :
    line.filter (fun n => decide (n ∈ lots.map fun e => chosenL row e.2)) = line.filter (keepB ps up f line row) := by
  apply List.filter_congr
  intro n hn
  obtain ⟨e, h1, h2⟩ := h.has n hn
  have hv := (h.val e h1).1
  have hne := (h.val e h1).2
  have iff : n ∈ lots.map (fun e => chosenL row e.2) ↔ n = chosenL row (line.filter fun m => decide (lotK ps up f m = lotK ps up f n)) := by
    constructor
    · intro hm
      obtain ⟨e', h3, h4⟩ := List.mem_map.mp hm
      obtain ⟨v1, v2⟩ := h.val e' h3
      have := chosen_mem row e'.2 v2
      rw [h4, v1, List.mem_filter] at this
      have hk : lotK ps up f n = e'.1 := by simpa using this.2
      rw [hk, ← v1, h4]
    · intro hm
      rw [← h2, ← hv] at hm
      exact List.mem_map.mpr ⟨e, h1, hm.symm⟩
  unfold keepB
  rw [Bool.eq_iff_iff, decide_eq_true_iff, iff, Bool.or_eq_true, decide_eq_true_iff, decide_eq_true_iff]
  have gn : ∀ m ∈ line, ∀ u, grpOf ps up f m = some u → 0 ≤ u := fun m hm u hu => by
    unfold grpOf at hu
    rcases grp_mem ps f _ _ u hu with h | h
    · exact hup m hm u h
    · cases h
  cases hg : grpOf ps up f n with
  | none =>
    refine ⟨fun _ => .inl rfl, fun _ => ?_⟩
    have e1 : ∀ m ∈ line.filter (fun m => decide (lotK ps up f m = lotK ps up f n)), m = n := fun m hm => by
      rw [List.mem_filter, decide_eq_true_iff] at hm
      obtain ⟨hm, hk⟩ := hm
      unfold lotK at hk
      rw [hg] at hk
      have a1 := hnn n hn
      cases hg' : grpOf ps up f m with
      | none => rw [hg'] at hk; simp only at hk; omega
      | some u =>
        rw [hg'] at hk
        simp only at hk
        have := gn m hm u hg'
        omega
    have hmem : n ∈ line.filter (fun m => decide (lotK ps up f m = lotK ps up f n)) := List.mem_filter.mpr ⟨hn, by simp⟩
    exact (e1 _ (chosen_mem row _ (List.ne_nil_of_mem hmem))).symm
  | some u =>
    have e2 : line.filter (fun m => decide (lotK ps up f m = lotK ps up f n)) = lotOf ps up f line n := by
      unfold lotOf
      apply List.filter_congr
      intro m hm
      rw [Bool.eq_iff_iff, decide_eq_true_iff, decide_eq_true_iff]
      unfold lotK
      rw [hg]
      have a2 := gn n hn u hg
      cases hg' : grpOf ps up f m with
      | none =>
        have a1 := hnn m hm
        simp only
        constructor
        · intro q; omega
        · intro q; cases q
      | some v => simp
    rw [e2]
    constructor
    · exact fun q => .inr q
    · rintro (q | q)
      · cases q
      · exact q
end Lw
end
section
set_option maxRecDepth 100000
set_option linter.all false
set_option Elab.async false
set_option maxHeartbeats 1000000
namespace Lw
open PySem Dl
@[simp] theorem x_Sl (A : Ev) (Pl Pr : Pv) (st : Store) (env : En) : eSl A Pl Pr st env = (A st env).bind fun x st => (Pl st env).bind fun lo st => (Pr st env).bind fun hi st => dSl x lo hi st := rfl
@[simp] theorem x_pNo (st : Store) (env : En) : pNo st env = .ok none st := rfl
@[simp] theorem x_pSome (A : Ev) (st : Store) (env : En) : pSome A st env = (A st env).bind fun x st => match x with
  | .int i => .ok (some i) st
  | _ => .bad := rfl
@[simp] theorem x_Index (A B : Ev) (st : Store) (env : En) : eIndex A B st env = (A st env).bind fun x st => if x.isLst = true then (B st env).bind fun y st => dIndex x y st else .bad := rfl
@[simp] theorem x_Get2 (A B C : Ev) (st : Store) (env : En) : eGet2 A B C st env = (A st env).bind fun x st => if x.isDct = true then (B st env).bind fun k st => (C st env).bind fun z st => dGet2 x k z st else .bad := rfl
@[simp] theorem x_sPut (i : Nat) (B A : Ev) (st : Store) (env : En) : sPut i B A st env = (A st env).stm fun d st => if (env.getD i .un).isUn = true then .bad else (B st env).stm fun k st => putTo i (env.getD i .un) d k st env := rfl
@[simp] theorem isUn_ow (d : D) : Sl.isUn (.ow d) = false := rfl
@[simp] theorem isUn_vl (d : D) : Sl.isUn (.vl d) = false := rfl
theorem head_atI (l : List Int) (h : l ≠ []) (st : Store) : dIx (.lst (l.map .int)) (.int 0) st = .ok (.int (l.headD 0)) st := by
  cases l with
  | nil => exact absurd rfl h
  | cons a r => simp [dIx, L2.atI, L2.ixN]
theorem last_ok (l : List Int) (n : Int) (h : l.getLast? = some n) (st : Store) : dIx (.lst (l.map .int)) (.int (-1)) st = .ok (.int n) st := by
  simp only [dIx, atI_last l n h]
theorem immOw_ints (l : List Int) : Sl.immOw (.ow (.lst (l.map .int))) = true := imms_ints l
section
variable {ps : List Pane} {up w : Int → List Int} (P : PlanB ps up w) (st : Store)
include P
theorem lw_round_ok (row : List Int) (p f : Pane) (hp : p ∈ ps) (hf : f ∈ ps) (hfl : fieldL ps up p.nm = f.nm) (hl : row.getLast? = some p.nm) (hrl : row.length ≤ 1000) (hin : ∀ m ∈ w f.nm, f.nm ∈ up m) :
    F__law_round st [encPlan ps, .tup (row.map .int)] = .ok (.lst ((roundL ps up w row p.nm).map .int)) st := by
  have h5 : dIx (.tup (row.map .int)) (.int (-1)) st = .ok (.int p.nm) st := by
    simp only [dIx, atI_last row p.nm hl]
  have h1 := lw_field_ok P st p hp
  rw [hfl] at h1
  have h2 := lw_stops_ok P st f hf
  have hsl : (stopsL ps up w f.nm).length ≤ 1000 := Nat.le_trans (List.length_filter_le ..) (P.wl f hf)
  have hsm : ∀ m ∈ stopsL ps up w f.nm, m ∈ w f.nm := fun m hm => (List.mem_filter.mp hm).1
  unfold roundL
  rw [hfl]
  generalize stopsL ps up w f.nm = line at *
  simp [F__law_round, B__law_round, runFn_fin, sSets, setsGo, dNeg, h5, h1, own, h2]
  rw [forV_eq (by simp [frz, vlOf, isDct])]
  simp only [sFor]
  simp [frz, iVar, vlOf, itemsOf]
  -- the first loop
  have hb : ∀ n ∈ line, ∀ (lots : List (Int × List Int)) (x5 x6 x7 x9 : Sl), lots.length ≤ 1000 → (∀ k, (getL lots k).length ≤ 1000) → ∃ y6 y7 y9 : Sl, y6.immOw = true ∧ y7.immOw = true ∧ y9.immOw = true ∧
      ((sSet 6 (eCall F__law_line (aCons (eVar 0) (aCons (eVar 5) aNil)))) st [.vl (encPlan ps), .vl (.tup (row.map .int)), .vl (.int f.nm), .ow (.dct (lots.map encL)), .vl (.lst (line.map .int)), .vl (.int n), x6, x7, .un, x9, .un, .un, .un]).thn
      (sSeq (sSet 7 (eLc (iExp (eSl (eVar 6) pNo (pSome (eAdd (eIndex (eVar 6) (eVar 2)) (eC (.int 1)))))) (.one 8) (tVal (eIn false (eC (.str (Str.ofString "one"))) (eIx (eCall F__law_pane (aCons (eVar 0) (aCons (eVar 8) aNil))) (eC (.int 4))))) (eImm (eVar 8))))
    (sSeq (sSet 9 (eImm (eIf (tVal (eEq true (eVar 7) (eLst aNil))) (eIx (eVar 7) (eNeg (eC (.int 1)))) (eSub (eNeg (eC (.int 1))) (eVar 5)))))
    (sPut 3 (eVar 9) (eAdd (eGet2 (eVar 3) (eVar 9) (eLst aNil)) (eLst (aCons (eImm (eVar 5)) aNil)))))) =
      .nx st [.vl (encPlan ps), .vl (.tup (row.map .int)), .vl (.int f.nm), .ow (.dct ((putL lots (lotK ps up f.nm n) (getL lots (lotK ps up f.nm n) ++ [n])).map encL)), .vl (.lst (line.map .int)), .vl (.int n), y6, y7, .un, y9, .un, .un, .un] := by
    intro n hn lots x5 x6 x7 x9 hll hgl
    obtain ⟨q, hq, rfl⟩ := wmem P f hf n (hsm n hn)
    have h0 := line_ok st P.a.r (P.a.anc q hq) (P.a.len q hq)
    have hul := P.a.len q hq
    have hfu := hin _ (hsm _ hn)
    obtain ⟨j, j1, j2, j3⟩ := upto_ix f.nm hfu
    have hfl2 : ((up q.nm).map D.int).all D.flat = true := flat_ints _
    have hix : dIndex (.lst ((up q.nm).map .int)) (.int f.nm) st = .ok (.int j) st := by
      simp only [dIndex, D.flat, hfl2, Bool.and_self, if_true, j1]
    have hs : dSl (.lst ((up q.nm).map .int)) none (some ((j : Int) + 1)) st = .ok (.lst ((upto f.nm (up q.nm)).map .int)) st := by
      have hi := imms_ints (up q.nm)
      have e : ((j : Int) + 1).toNat = j + 1 := by omega
      have hc : cutD ((up q.nm).map D.int) none (some ((j : Int) + 1)) = (upto f.nm (up q.nm)).map .int := by
        rw [← j3, List.map_take]
        have a1 : ¬ ((j : Int) + 1 < 0) := by omega
        simp [cutD, HT.sIx, e, a1]
      simp only [dSl, hi, if_true, hc]
    have hul2 : (upto f.nm (up q.nm)).length ≤ 1000 := by rw [← j3, List.length_take]; omega
    simp only [x_Set, x_Call, x_Cons, x_Var, List.getD_cons_zero, List.getD_cons_succ, x_Nil, bind_ok, h0, stm_ok, own_ints, thn_nx, List.set_cons_succ, List.set_cons_zero, x_Seq]
    rw [lc_eq (upto f.nm (up q.nm)) D.int (oneB ps) D.int (by simp [iExp, D.isLst, hix, dAdd, hs]) (line_ge (by omega)) (fun m hm => ⟨_, rfl, by
      obtain ⟨o, ho, rfl⟩ := (P.a.anc q hq).mem m (upto_sub _ hm)
      have k1 := lw_pane_ok P.a st ho
      simp [wipeE, Tg.slots, k1, ix_marks, oneB, pn_of P.a.r.nd ho], fun _ => by simp [wipeE, Tg.slots]⟩)]
    simp only [stm_ok, own_ints, thn_nx, List.set_cons_succ, List.set_cons_zero]
    have hgrp : grpOf ps up f.nm q.nm = ((upto f.nm (up q.nm)).filter (oneB ps)).getLast? := by
      unfold grpOf
      rw [grp_eq ps f.nm _ none hfu, Option.or_none]
    generalize (upto f.nm (up q.nm)).filter (oneB ps) = ones at *
    have hk : lotK ps up f.nm q.nm = match ones.getLast? with
      | some u => u
      | none => -1 - q.nm := by unfold lotK; rw [hgrp]; all_goals (cases ones.getLast? <;> rfl)
    have hset : ∀ x9, sSet 9 (eImm (eIf (tVal (eEq true (eVar 7) (eLst aNil))) (eIx (eVar 7) (eNeg (eC (.int 1)))) (eSub (eNeg (eC (.int 1))) (eVar 5)))) st [.vl (encPlan ps), .vl (.tup (row.map .int)), .vl (.int f.nm), .ow (.dct (lots.map encL)), .vl (.lst (line.map .int)), .vl (.int q.nm), .ow (.lst ((up q.nm).map .int)), .ow (.lst (ones.map .int)), .un, x9, .un, .un, .un] =
        .nx st [.vl (encPlan ps), .vl (.tup (row.map .int)), .vl (.int f.nm), .ow (.dct (lots.map encL)), .vl (.lst (line.map .int)), .vl (.int q.nm), .ow (.lst ((up q.nm).map .int)), .ow (.lst (ones.map .int)), .un, .vl (.int (lotK ps up f.nm q.nm)), .un, .un, .un] := by
      intro x9
      have hd := deq_ints0 ones
      cases hg : ones.getLast? with
      | none =>
        rw [List.getLast?_eq_none_iff] at hg
        subst hg
        rw [hk]
        have d0 : deq (.lst []) (.lst []) = some true := deq_ints0 []
        simp [dEq, d0, dNeg, dSub, own]
      | some u =>
        have hne : ones ≠ [] := fun e => by subst e; cases hg
        have hd' : decide (ones = []) = false := decide_eq_false hne
        rw [hd'] at hd
        have hlst := last_ok ones u hg st
        rw [hk, hg]
        simp [dEq, hd, dNeg, hlst, own]
    rw [x_Seq, hset, thn_nx]
    have hgl2 := hgl (lotK ps up f.nm q.nm)
    generalize lotK ps up f.nm q.nm = k at *
    have hget := getL_ok lots k
    have hi := imms_ints (getL lots k)
    have hlen : (getL lots k).length + 1 ≤ 16777216 := by omega
    have hlen2 : lots.length < 16777216 := by omega
    refine ⟨.ow (.lst ((up q.nm).map .int)), .ow (.lst (ones.map .int)), .vl (.int k), imms_ints _, imms_ints _, rfl, ?_⟩
    have hadd : dAdd (.lst ((getL lots k).map .int)) (.lst [.int q.nm]) st = .ok (.lst ((getL lots k ++ [q.nm]).map .int)) st := by
      have h9 : (getL lots k).all (fun _ => true) = true := by simp
      simp [dAdd, hlen]
    have hput := putL_ok lots k (getL lots k ++ [q.nm])
    rw [← hput]
    generalize getL lots k ++ [q.nm] = L at *
    simp [D.isDct, dGet2, keyOf, hget, hadd, putTo, hlen2]
  obtain ⟨st', env', hf1, rfl, lots, x5, x6, x7, x9, hlo, i5, i6, i7, i9, rfl⟩ := for_inv line D.int (g := .one 5) (st := st) (B := sSeq (sSet 6 (eCall F__law_line (aCons (eVar 0) (aCons (eVar 5) aNil))))
      (sSeq (sSet 7 (eLc (iExp (eSl (eVar 6) pNo (pSome (eAdd (eIndex (eVar 6) (eVar 2)) (eC (.int 1)))))) (.one 8) (tVal (eIn false (eC (.str (Str.ofString "one"))) (eIx (eCall F__law_pane (aCons (eVar 0) (aCons (eVar 8) aNil))) (eC (.int 4))))) (eImm (eVar 8))))
    (sSeq (sSet 9 (eImm (eIf (tVal (eEq true (eVar 7) (eLst aNil))) (eIx (eVar 7) (eNeg (eC (.int 1)))) (eSub (eNeg (eC (.int 1))) (eVar 5)))))
    (sPut 3 (eVar 9) (eAdd (eGet2 (eVar 3) (eVar 9) (eLst aNil)) (eLst (aCons (eImm (eVar 5)) aNil)))))))
    (fun done st' env => st = st' ∧ ∃ lots x5 x6 x7 x9, LotsOk (lotK ps up f.nm) done lots ∧ x5.immOw = true ∧ x6.immOw = true ∧ x7.immOw = true ∧ x9.immOw = true ∧
      env = [.vl (encPlan ps), .vl (.tup (row.map .int)), .vl (.int f.nm), .ow (.dct (lots.map encL)), .vl (.lst (line.map .int)), x5, x6, x7, .un, x9, .un, .un, .un])
    (env := [.vl (encPlan ps), .vl (.tup (row.map .int)), .vl (.int f.nm), .ow (.dct []), .vl (.lst (line.map .int)), .un, .un, .un, .un, .un, .un, .un, .un])
    ⟨rfl, [], .un, .un, .un, .un, ⟨(fun e h => by cases h), (fun n h => by cases h), Nat.le_refl _⟩, rfl, rfl, rfl, rfl, rfl⟩
    (by
      rintro done n rest st' env hln ⟨rfl, lots, x5, x6, x7, x9, hlo, i5, i6, i7, i9, rfl⟩
      have hdl : done.length ≤ 1000 := by rw [hln, List.length_append] at hsl; omega
      have hnl : n ∈ line := by rw [hln]; simp
      obtain ⟨y6, y7, y9, j6, j7, j9, hq⟩ := hb n hnl lots x5 x6 x7 x9 (Nat.le_trans hlo.len hdl) (fun k => by rw [hlo.get]; exact Nat.le_trans (List.length_filter_le ..) hdl)
      exact ⟨_, rfl, st, _, hq, rfl, _, .vl (.int n), y6, y7, y9, hlo.step n, rfl, j6, j7, j9, rfl⟩)
  rw [hf1]
  simp [own]
  have hlk : lockOk 3 (frz [3] [.vl (encPlan ps), .vl (.tup (row.map .int)), .vl (.int f.nm), .ow (.dct (lots.map encL)), .vl (.lst (line.map .int)), x5, x6, x7, .un, x9, .ow (.lst []), .un, .un]) = true := by
    simp [lockOk, frz, vlOf, isDct, i5, i6, i7, i9]
    simp [Sl.immOw]
  rw [forVd_eq (by simp [frz, vlOf, isDct]) hlk]
  simp only [sFor]
  have hval : (lots.map encL).map (·.2) = lots.map fun e => D.lst (e.2.map .int) := by rw [List.map_map]; rfl
  simp [-List.map_map, frz, iVals, vlOf, hval]
  obtain ⟨st', env', hf2, rfl, y5, y11, y12, rfl⟩ := for_inv lots (fun e => D.lst (e.2.map .int)) (g := .one 11) (st := st) (B := sSeq (sSet 12 (eLcV 1 (iVar 1) (.one 5) (tVal (eIn false (eVar 5) (eVar 11))) (eImm (eVar 5))))
      (sApp 10 (eImm (eIf (tVal (eEq true (eVar 12) (eLst aNil))) (eIx (eVar 12) (eNeg (eC (.int 1)))) (eIx (eVar 11) (eC (.int 0)))))))
    (fun done st' env => st = st' ∧ ∃ y5 y11 y12, env = [.vl (encPlan ps), .vl (.tup (row.map .int)), .vl (.int f.nm), .vl (.dct (lots.map encL)), .vl (.lst (line.map .int)), y5, x6, x7, .un, x9, .ow (.lst ((done.map fun e => chosenL row e.2).map .int)), y11, y12])
    (env := [.vl (encPlan ps), .vl (.tup (row.map .int)), .vl (.int f.nm), .vl (.dct (lots.map encL)), .vl (.lst (line.map .int)), x5, x6, x7, .un, x9, .ow (.lst []), .un, .un])
    ⟨rfl, x5, .un, .un, rfl⟩
    (by
      rintro done e rest st' env hln ⟨rfl, y5, y11, y12, rfl⟩
      have hel : e ∈ lots := by rw [hln]; simp
      have hne := (hlo.val e hel).2
      have hll := hlo.len
      have hdl : done.length ≤ 1000 := by rw [hln, List.length_append] at hll; omega
      refine ⟨[.vl (encPlan ps), .vl (.tup (row.map .int)), .vl (.int f.nm), .vl (.dct (lots.map encL)), .vl (.lst (line.map .int)), y5, x6, x7, .un, x9, .ow (.lst ((done.map fun e => chosenL row e.2).map .int)), .vl (.lst (e.2.map .int)), y12], rfl, st, [.vl (encPlan ps), .vl (.tup (row.map .int)), .vl (.int f.nm), .vl (.dct (lots.map encL)), .vl (.lst (line.map .int)), y5, x6, x7, .un, x9, .ow (.lst (((done ++ [e]).map fun e => chosenL row e.2).map .int)), .vl (.lst (e.2.map .int)), .ow (.lst ((row.filter fun n => decide (n ∈ e.2)).map .int))], ?_, rfl, y5, _, _, rfl⟩
      generalize hdd : (done.map fun e => chosenL row e.2) = dn
      have hdn : dn.length < 16777216 := by rw [← hdd, List.length_map]; omega
      have hcat : ((done ++ [e]).map fun e => chosenL row e.2) = dn ++ [chosenL row e.2] := by rw [List.map_append, hdd]; rfl
      rw [hcat, x_Seq, x_Set, lcV_eq (by simp [frz, vlOf, isDct]), lc_eq row D.int (fun n => decide (n ∈ e.2)) D.int (iVar_tup _ _ _ _ rfl) (line_ge (by omega)) (fun n hn => ⟨[.vl (encPlan ps), .vl (.tup (row.map .int)), .vl (.int f.nm), .vl (.dct (lots.map encL)), .vl (.lst (line.map .int)), .vl (.int n), x6, x7, .un, x9, .ow (.lst (dn.map .int)), .vl (.lst (e.2.map .int)), y12], rfl, by simp, fun _ => by simp⟩)]
      have hlf := last_filter (fun n => decide (n ∈ e.2)) row
      have hhd := head_atI e.2 hne
      have hd := deq_ints0 (row.filter fun n => decide (n ∈ e.2))
      unfold chosenL
      rw [← hlf]
      generalize row.filter (fun n => decide (n ∈ e.2)) = had at *
      simp only [stm_ok, own_ints, thn_nx, List.set_cons_succ, List.set_cons_zero]
      cases hg : had.getLast? with
      | none =>
        rw [List.getLast?_eq_none_iff] at hg
        subst hg
        have d0 : deq (.lst []) (.lst []) = some true := deq_ints0 []
        simp [x_App, ownL, dEq, d0, hhd, hdn]
      | some u =>
        have hne' : had ≠ [] := fun e => by subst e; cases hg
        have hd' : decide (had = []) = false := decide_eq_false hne'
        rw [hd'] at hd
        have hlst := last_ok had u hg
        simp [x_App, ownL, dEq, hd, dNeg, hlst, hdn])
  have e3 : (fun e : Int × List Int => D.lst (e.2.map .int)) = fun e => D.lst (List.map D.int e.snd) := rfl
  rw [hf2]
  simp only [calm_nx, thn_nx, x_Ret, fin_stm]
  rw [lcV_eq (by simp [frz, vlOf, isDct]), lc_eq line D.int (fun n => decide (n ∈ lots.map fun e => chosenL row e.2)) D.int (iVar_lst _ _ _ _ rfl) (line_ge (by omega)) (fun n hn => ⟨[.vl (encPlan ps), .vl (.tup (row.map .int)), .vl (.int f.nm), .vl (.dct (lots.map encL)), .vl (.lst (line.map .int)), .vl (.int n), x6, x7, .un, x9, .ow (.lst ((lots.map fun e => chosenL row e.2).map .int)), y11, y12], rfl, by simp [-List.map_map, -List.mem_map], fun _ => by simp⟩)]
  rw [round_same f.nm row line lots (fun n hn => by
    obtain ⟨q, hq, rfl⟩ := wmem P f hf n (hsm n hn)
    exact P.a.nn q hq) (fun n hn u hu => by
    obtain ⟨q, hq, rfl⟩ := wmem P f hf n (hsm n hn)
    obtain ⟨o, ho, rfl⟩ := (P.a.anc q hq).mem u hu
    exact P.a.nn o ho) hlo]
  simp
end
end Lw
end
section
set_option maxRecDepth 100000
set_option linter.all false
set_option Elab.async false
set_option maxHeartbeats 1000000
namespace Lw
open PySem Dl
/-! ### equal things are the same -/
theorem same_int (st : Store) (k : Nat) (a : Int) : F__law_same (k + 1) st [.int a, .int a] = .ok (.bl true) st := by
  simp [F__law_same, B__law_same, runFn_fin, dIsi, Ty.has, D.truth, dIsN, D.isNon, dEq]
theorem same_lst (st : Store) (k : Nat) {α : Type} (c : α → D) (l : List α) (hl : l.length ≤ 16777216) (h : ∀ a ∈ l, F__law_same k st [c a, c a] = .ok (.bl true) st) : F__law_same (k + 1) st [.lst (l.map c), .lst (l.map c)] = .ok (.bl true) st := by
  have hz : ∀ env : En, env.getD 0 .un = .vl (.lst (l.map c)) → env.getD 1 .un = .vl (.lst (l.map c)) → iZip (eVar 0) (eVar 1) st env = .ok (l.map fun a => D.tup [c a, c a]) st := fun env h0 h1 => by
    have e : List.zipWith (fun a b => D.tup [a, b]) (l.map c) (l.map c) = l.map fun a => D.tup [c a, c a] := by
      rw [List.zipWith_map, List.zipWith_self]
    simp only [iZip, x_Var, h0, h1, bind_ok, e]
  have e1 : dLen (.lst (l.map c)) st = .ok (.int l.length) st := by simp [dLen]
  have e2 : dIsi [.list, .tuple] (.lst (l.map c)) st = .ok (.bl true) st := by simp [dIsi, Ty.has]
  have e3 : dIsi [.list] (.lst (l.map c)) st = .ok (.bl true) st := by simp [dIsi, Ty.has]
  have h4 := all_true l st
  generalize hL : D.lst (l.map c) = L at *
  simp [F__law_same, B__law_same, runFn_fin, e1, e2, e3, D.truth, dEq]
  rw [lca_eq l (fun a => D.tup [c a, c a]) (fun _ => .bl true) (hz _ rfl rfl) (by rw [LINE_eq]; exact hl) (fun a ha => ⟨[.vl L, .vl L, .vl (c a), .vl (c a)], rfl, by simp [h a ha]⟩)]
  simp only [bind_ok, h4]
theorem same_ints (st : Store) (k : Nat) (l : List Int) (hl : l.length ≤ 16777216) : F__law_same (k + 2) st [.lst (l.map .int), .lst (l.map .int)] = .ok (.bl true) st :=
  same_lst st (k + 1) D.int l hl fun a _ => same_int st k a
/-! ### at least one can hold -/
theorem maxI_mem : ∀ (a : Int) (r : List Int), maxI (a :: r) ∈ a :: r
  | a, [] => by simp [maxI]
  | a, b :: r => by
    unfold maxI
    have := maxI_mem b r
    by_cases h : a ≤ maxI (b :: r)
    · rw [Int.max_eq_right h]
      exact List.mem_cons_of_mem _ this
    · rw [Int.max_eq_left (by omega)]
      exact List.mem_cons_self
section
variable {g : Pane} {rest : List Pane} {r : Int → Nat} {up w : Int → List Int} (P : PlanC g rest r up w) (st : Store)
include P
theorem top_pane : ∃ p ∈ g :: rest, p.nm = top (g :: rest) up ∧ aliveB (g :: rest) up p.nm = true := by
  have h := maxI_mem 0 (((g :: rest).filter fun p => decide (Str.ofString "sheet" ∈ p.marks) && aliveB (g :: rest) up p.nm).map (·.nm))
  rcases List.mem_cons.mp h with h | h
  · refine ⟨g, List.mem_cons_self, P.o.gg.nm.trans h.symm, ?_⟩
    unfold aliveB
    rw [up_root P.b.a List.mem_cons_self P.o.gg.up]
    have hd : dead g = false := by simp [dead, P.o.gg.marks]
    simp [pn_of P.b.a.r.nd List.mem_cons_self, hd]
  · obtain ⟨p, hp, e⟩ := List.mem_map.mp h
    obtain ⟨h1, h2⟩ := List.mem_filter.mp hp
    rw [Bool.and_eq_true] at h2
    exact ⟨p, h1, e, h2.2⟩
theorem top_holds : ∃ p ∈ g :: rest, p.nm = top (g :: rest) up ∧ takesB (g :: rest) up p = true := by
  obtain ⟨p, hp, e, ha⟩ := top_pane P
  refine ⟨p, hp, e, ?_⟩
  have hs := up_self P.b.a hp
  have ho : opensB (g :: rest) up p.nm = true := by
    unfold opensB
    rw [ha, ← e]
    simp [hs]
  unfold takesB
  rw [ho, e]
  simp
theorem hold_ne : holdL (g :: rest) up ≠ [] := by
  obtain ⟨p, hp, _, ht⟩ := top_holds P
  have : p.nm ∈ holdL (g :: rest) up := List.mem_map_of_mem (List.mem_filter.mpr ⟨hp, ht⟩)
  exact List.ne_nil_of_mem this
theorem hold_len : (holdL (g :: rest) up).length ≤ 40 := by
  unfold holdL
  rw [List.length_map]
  have := P.o.len
  exact Nat.le_trans (List.length_filter_le ..) (by simp; omega)
/-- the field's pane -/
theorem field_pane (p : Pane) (hp : p ∈ g :: rest) : ∃ f ∈ g :: rest, fieldL (g :: rest) up p.nm = f.nm := by
  unfold fieldL
  cases hf : (up p.nm).find? fun m => decide (Str.ofString "hold" ∈ (pn (g :: rest) m).marks) with
  | some a =>
    obtain ⟨q, hq, e⟩ := (P.b.a.anc p hp).mem a (List.mem_of_find?_eq_some hf)
    exact ⟨q, hq, e.symm⟩
  | none =>
    obtain ⟨q, hq, e, _⟩ := top_pane P
    exact ⟨q, hq, e.symm⟩
end
theorem dAdd_ints (a b : List Int) (st : Store) (h : a.length + b.length ≤ 16777216) : dAdd (.lst (a.map .int)) (.lst (b.map .int)) st = .ok (.lst ((a ++ b).map .int)) st := by
  have h1 := imms_ints a
  have h2 := imms_ints b
  have h3 : (a.map D.int).length + (b.map D.int).length ≤ LINE := by rw [List.length_map, List.length_map, LINE_eq]; exact h
  simp only [dAdd, h1, h2, h3, decide_true, Bool.and_self, if_true, List.map_append]
theorem dTuple_ints (a : List Int) (st : Store) : dTuple (.lst (a.map .int)) st = .ok (.tup (a.map .int)) st := by
  have h1 := imms_ints a
  simp only [dTuple, h1, if_true]
/-! ### draws -/
theorem draw_to (pre : Store) (c m k : Int) (hk : 0 < k) (hk2 : k < 1073741824) : (F__law_draw (penSt pre c m) [.obj pre.length, .int k]).To fun v st => ∃ c' d, st = penSt pre c' m ∧ v = .int d ∧ 0 ≤ d ∧ d < k := by
  obtain ⟨c', d, h1, h2, h3⟩ := draw_ok pre c m k hk hk2
  exact ⟨_, _, h1, c', d, rfl, rfl, h2, h3⟩
theorem erase_map {α β : Type} (f : α → β) : ∀ (l : List α) (i : Nat), (l.map f).eraseIdx i = (l.eraseIdx i).map f
  | [], i => rfl
  | a :: r, 0 => rfl
  | a :: r, i + 1 => by
    show f a :: (r.map f).eraseIdx i = f a :: (r.eraseIdx i).map f
    rw [erase_map f r i]
theorem erase_perm {α : Type} : ∀ (l : List α) (i : Nat) (n : α), l[i]? = some n → (n :: l.eraseIdx i).Perm l
  | [], i, n, h => by simp at h
  | a :: r, 0, n, h => by
    simp at h
    subst h
    exact List.Perm.refl _
  | a :: r, i + 1, n, h => by
    have := erase_perm r i n (by simpa using h)
    exact (List.Perm.swap a n (r.eraseIdx i)).trans (this.cons a)
theorem pop_eq (l : List Int) (d : Int) (h0 : 0 ≤ d) (h : d < l.length) : ∃ n, l[d.toNat]? = some n ∧ (l.map D.int)[d.toNat]? = some (.int n) ∧ (l.map D.int).eraseIdx d.toNat = (l.eraseIdx d.toNat).map .int ∧ (n :: l.eraseIdx d.toNat).Perm l := by
  have hi : d.toNat < l.length := by omega
  refine ⟨l[d.toNat], List.getElem?_eq_getElem hi, ?_, ?_, erase_perm l _ _ (List.getElem?_eq_getElem hi)⟩
  · rw [List.getElem?_map, List.getElem?_eq_getElem hi]; rfl
  · exact erase_map _ _ _
def RowInv (pre : Store) (ps : List Pane) (m : Int) (done : List Nat) (st : Store) (env : En) : Prop := ∃ (c' : Int) (left row : List Int) (x5 : Sl), st = penSt pre c' m ∧ env = [.vl (.obj pre.length), .vl (encPlan ps), .ow (.lst (left.map .int)), .ow (.lst (row.map .int)), .un, x5, .un, .un, .un] ∧ (row ++ left).Perm (ps.map (·.nm)) ∧ row.length = done.length
def RowPost (pre : Store) (ps : List Pane) (up : Int → List Int) (m : Int) (v : D) (st : Store) : Prop := ∃ (c' : Int) (row : List Int), st = penSt pre c' m ∧ v = .tup (row.map .int) ∧ RowOk ps up row
section
variable {g : Pane} {rest : List Pane} {r : Int → Nat} {up w : Int → List Int} (P : PlanC g rest r up w)
include P
theorem lw_row_ok (pre : Store) (c m : Int) : (F__law_row (penSt pre c m) [.obj pre.length, encPlan (g :: rest)]).To (RowPost pre (g :: rest) up m) := by
  have hlen := P.o.len
  have hlp : ∀ st, dLen (encPlan (g :: rest)) st = .ok (.int ((rest.length + 1 : Nat) : Int)) st := fun st => by simp [dLen, encPlan]
  have hR := P.b.a.r
  have hps : (g :: rest).length = rest.length + 1 := rfl
  generalize hpl : g :: rest = ps at *
  simp [F__law_row, B__law_row, runFn_fin, sSets, setsGo]
  rw [lcV_eq (by simp [frz, vlOf, isDct, encPlan]), lca_eq ps encPane (fun p => .int p.nm) (iVar_tup _ _ _ _ rfl) (line_ge (by omega)) (fun p hp => ⟨_, rfl, by simp [ix_nm, frz, wipeE, Tg.slots]⟩)]
  have e1 : ps.map (fun p => D.int p.nm) = (ps.map (·.nm)).map .int := by rw [List.map_map]; rfl
  have nd := hR.nd
  have hnl : (ps.map (·.nm)).length = rest.length + 1 := by rw [List.length_map, hps]
  simp only [e1, bind_ok, own_ints, own]
  simp [-List.map_map, sFor, frz, iRange1, hlp]
  refine (draw_to pre c m _ (by omega) (by omega)).bind ?_
  rintro _ _ ⟨c1, laps, rfl, rfl, hl0, hl1⟩
  have hlr : laps ≤ 16777216 ∧ -4611686018427387904 ≤ laps := by omega
  simp [-List.map_map, hlr]
  refine (for_to (List.range laps.toNat) (fun k => D.int k)
    (RowInv pre ps m)
    ⟨c1, ps.map (·.nm), [], .un, rfl, rfl, List.Perm.refl _, rfl⟩ ?_).fin ?_
  · rintro done a more st env hd ⟨c', left, row, x5, rfl, rfl, hperm, hlen2⟩
    refine ⟨_, rfl, ?_⟩
    have hdl : done.length < laps.toNat := by
      have := congrArg List.length hd
      simp at this
      omega
    have hpl2 := hperm.length_eq
    rw [List.length_append, hnl] at hpl2
    have hll : 0 < left.length := by omega
    simp [sAppPopAt, popAt, ownL, appTo, dLen]
    refine (draw_to pre c' m left.length (by omega) (by omega)).stm ?_
    rintro _ _ ⟨c2, d, rfl, rfl, h1, h2⟩
    obtain ⟨n, n1, n2, n3, n4⟩ := pop_eq left d h1 h2
    have hd2 : d < 9223372036854775808 := by omega
    have hrl : row.length < 16777216 := by omega
    have n1' := n1
    simp [h1, hd2, n1, n3, hrl]
    refine ⟨_, _, rfl, c2, left.eraseIdx d.toNat, row ++ [n], _, rfl, by simp; rfl, ?_, by simp [hlen2]⟩
    refine List.Perm.trans ?_ hperm
    rw [List.append_assoc]
    exact n4.append_left row
  · rintro st env ⟨c', left, row, x5, rfl, rfl, hperm, hrl⟩
    subst hpl
    have hg := lw_goods_ok P.b.a (penSt pre c' m)
    have hne := hold_ne P
    have hhl := hold_len P
    have hgm : ∀ n ∈ holdL (g :: rest) up, ∃ p ∈ g :: rest, p.nm = n ∧ takesB (g :: rest) up p = true := fun n hn => by
      obtain ⟨p, hp, e⟩ := List.mem_map.mp hn
      obtain ⟨h1, h2⟩ := List.mem_filter.mp hp
      exact ⟨p, h1, e, h2⟩
    generalize holdL (g :: rest) up = good at *
    have hpos : 0 < good.length := List.length_pos_iff.mpr hne
    simp [hg, own_ints, dLen]
    refine (draw_to pre c' m good.length (by omega) (by omega)).bind ?_
    rintro _ _ ⟨c2, d, rfl, rfl, h1, h2⟩
    obtain ⟨n, n1, n2, n3, n4⟩ := pop_eq good d h1 h2
    have hat : L2.atI (good.map D.int) d = some (.int n) := by
      have e : d = ((d.toNat : Nat) : Int) := by omega
      rw [e]
      exact atI_nat _ _ _ n2
    have hnm : n ∈ good := List.mem_of_getElem? n1
    simp [dIx, hat, own]
    have hrow : row.length ≤ 900 := by
      rw [hrl, List.length_range]; omega
    rw [lcV_eq (by simp [frz, vlOf, isDct]), lc_eq row D.int (fun k => !decide (k = n)) D.int (iVar_lst _ _ _ _ rfl) (line_ge (by omega)) (fun k hk => ⟨_, rfl, by simp [frz, wipeE, Tg.slots, dEq], fun _ => by simp [frz, wipeE, Tg.slots]⟩)]
    have hfl : (row.filter fun k => !decide (k = n)).length ≤ 900 := Nat.le_trans (List.length_filter_le ..) hrow
    have hfl2 : (row.filter fun k => !decide (k = n)).length + 1 ≤ 16777216 := by omega
    have hnd : (row ++ left).Nodup := hperm.nodup_iff.mpr nd
    refine ⟨_, _, ?_, c2, (row.filter fun k => !decide (k = n)) ++ [n], rfl, rfl, ?_⟩
    · have ha := dAdd_ints (row.filter fun k => !decide (k = n)) [n] (penSt pre c2 m) hfl2
      have hb := dTuple_ints ((row.filter fun k => !decide (k = n)) ++ [n]) (penSt pre c2 m)
      rw [List.map_cons, List.map_nil] at ha
      simp only [bind_ok, ha, hb]
    · obtain ⟨p, hp, e, ht⟩ := hgm n hnm
      refine ⟨by simp, ?_, fun k hk => ?_, ⟨p, hp, by rw [e]; simp, ht⟩, by rw [List.length_append, List.length_singleton]; omega⟩
      · rw [List.nodup_append]
        refine ⟨((List.nodup_append.mp hnd).1).sublist List.filter_sublist, by simp, fun a ha b hb => ?_⟩
        rw [List.mem_singleton] at hb
        subst hb
        have := (List.mem_filter.mp ha).2
        simpa using this
      · rcases List.mem_append.mp hk with hk | hk
        · have h3 : k ∈ (g :: rest).map (·.nm) := hperm.mem_iff.mp (List.mem_append_left _ (List.mem_filter.mp hk).1)
          obtain ⟨q, hq, e⟩ := List.mem_map.mp h3
          exact ⟨q, hq, e⟩
        · rw [List.mem_singleton] at hk
          subst hk
          exact ⟨p, hp, e⟩
end
end Lw
end
section
set_option maxRecDepth 100000
set_option linter.all false
set_option Elab.async false
set_option maxHeartbeats 1000000
namespace Lw
open PySem Dl
def PenI (pre : Store) (m : Int) (st : Store) : Prop := ∃ c, st = penSt pre c m
def DrawP (pre : Store) (m k : Int) (v : D) (st : Store) : Prop := ∃ c d : Int, st = penSt pre c m ∧ v = .int d ∧ 0 ≤ d ∧ d < k
theorem dr (pre : Store) (c m k : Int) (hk : 0 < k) (hk2 : k < 1073741824) : (F__law_draw (penSt pre c m) [.obj pre.length, .int k]).To (DrawP pre m k) := draw_to pre c m k hk hk2
theorem own_strs (l : List Str) : own (.lst (l.map .str)) = .ow (.lst (l.map .str)) := by
  have hi : D.imms (l.map D.str) = true := by simp [List.all_map, Function.comp_def, List.all_eq_true]
  show (if D.imms (l.map D.str) = true then Sl.ow _ else Sl.vl _) = _
  rw [if_pos hi]
theorem imms_strs (l : List Str) : D.imms (l.map .str) = true := by simp [List.all_map, Function.comp_def, List.all_eq_true]
theorem own_panes (l : List Pane) : own (.lst (l.map encPane)) = .ow (.lst (l.map encPane)) := by
  have hi : D.imms (l.map encPane) = true := by simp [List.all_map, Function.comp_def, List.all_eq_true]
  show (if D.imms (l.map encPane) = true then Sl.ow _ else Sl.vl _) = _
  rw [if_pos hi]
@[simp] theorem own_int (i : Int) : own (.int i) = .vl (.int i) := rfl
@[simp] theorem own_str (i : Str) : own (.str i) = .vl (.str i) := rfl
@[simp] theorem own_bl (i : Bool) : own (.bl i) = .vl (.bl i) := rfl
@[simp] theorem own_non : own .non = .vl .non := rfl
@[simp] theorem own_tup (l : List D) : own (.tup l) = .vl (.tup l) := rfl
theorem dAdd_strs (a b : List Str) (st : Store) (h : a.length + b.length ≤ 16777216) : dAdd (.lst (a.map .str)) (.lst (b.map .str)) st = .ok (.lst ((a ++ b).map .str)) st := by
  have h1 := imms_strs a
  have h2 := imms_strs b
  have h3 : (a.map D.str).length + (b.map D.str).length ≤ LINE := by rw [List.length_map, List.length_map, LINE_eq]; exact h
  simp only [dAdd, h1, h2, h3, decide_true, Bool.and_self, if_true, List.map_append]
theorem dTuple_strs (a : List Str) (st : Store) : dTuple (.lst (a.map .str)) st = .ok (.tup (a.map .str)) st := by
  have h1 := imms_strs a
  simp only [dTuple, h1, if_true]
theorem mul_one (x : Str) (b : Bool) (st : Store) : dMul (.lst [.str x]) (.int (b2i b)) st = .ok (.lst ((if b = true then [x] else []).map .str)) st := by
  cases b <;> simp [dMul, b2i]
end Lw
end
section
set_option maxRecDepth 100000
set_option linter.all false
set_option Elab.async false
set_option maxHeartbeats 1000000
namespace Lw
open PySem Dl
/-! ### the law's own plan: names -/
structure NamesOk (l : List Int) : Prop where
  hd : ∃ r, l = 0 :: r
  pw : l.Pairwise (· < ·)
  hi : ∀ n ∈ l, n ≤ 1000000
theorem NamesOk.lo {l : List Int} (h : NamesOk l) : ∀ n ∈ l, 0 ≤ n := fun n hn => by
  obtain ⟨r, rfl⟩ := h.hd
  rcases List.mem_cons.mp hn with rfl | hn
  · exact Int.le_refl _
  · exact Int.le_of_lt ((List.pairwise_cons.mp h.pw).1 n hn)
theorem pw_snoc {l : List Int} {a n : Int} (h : (l ++ [a]).Pairwise (· < ·)) (hn : a < n) : (l ++ [a] ++ [n]).Pairwise (· < ·) := by
  rw [List.pairwise_append]
  refine ⟨h, by simp, fun x hx y hy => ?_⟩
  rw [List.mem_singleton] at hy
  subst hy
  rcases List.mem_append.mp hx with hx | hx
  · have := (List.pairwise_append.mp h).2.2 x hx a (by simp)
    omega
  · rw [List.mem_singleton] at hx
    omega
/-- a list of names that is being made: its last one is no more than four for each -/
def NamesInv (pre : Store) (m k : Int) (done : List Nat) (st : Store) (env : En) : Prop := ∃ (c' : Int) (l : List Int) (a : Int) (x3 : Sl), st = penSt pre c' m ∧ env = [.vl (.obj pre.length), .vl (.int k), .ow (.lst ((l ++ [a]).map .int)), x3] ∧ (∃ r, l ++ [a] = 0 :: r) ∧ (l ++ [a]).Pairwise (· < ·) ∧ a ≤ 4 * done.length ∧ l.length = done.length
def NamesPost (pre : Store) (m k : Int) (v : D) (st : Store) : Prop := ∃ (c' : Int) (l : List Int), st = penSt pre c' m ∧ v = .lst (l.map .int) ∧ NamesOk l ∧ l.length = k
theorem set_last (l : List Int) (a b : Int) : ((l ++ [a]).map D.int).set l.length (.int b) = (l ++ [b]).map D.int := by
  rw [List.map_append]
  have e : l.length = (l.map D.int).length := (List.length_map ..).symm
  rw [e, List.map_cons, List.map_nil, List.set_append_right _ _ (Nat.le_refl _)]
  simp
theorem pw_hi {l : List Int} {a : Int} (h : (l ++ [a]).Pairwise (· < ·)) : ∀ n ∈ l, n < a := fun n hn => (List.pairwise_append.mp h).2.2 n hn a (by simp)
theorem lw_names_ok (pre : Store) (c m k : Int) (hk : 1 ≤ k) (hk2 : k ≤ 40) : (F__law_names (penSt pre c m) [.obj pre.length, .int k]).To (NamesPost pre m k) := by
  have ho : own (.lst [.int 0]) = .ow (.lst ([0].map .int)) := own_ints [0]
  simp [F__law_names, B__law_names, runFn_fin, ho, sFor, iRange2, frz]
  rw [if_pos (by omega)]
  simp
  refine (for_to (List.range (k.toNat - 1)) (fun j => D.int (1 + j)) (NamesInv pre m k) (st := penSt pre c m) (env := [.vl (.obj pre.length), .vl (.int k), .ow (.lst [.int 0]), .un]) ⟨c, [], 0, .un, rfl, rfl, ⟨[], rfl⟩, by simp, by simp, rfl⟩ ?_).fin ?_
  · rintro done i more st env hd ⟨c', l, a, x3, rfl, rfl, hh, hp, ha, hl⟩
    refine ⟨_, rfl, ?_⟩
    have hix := ixm1 l a
    have hlen : (l ++ [a]).length < 16777216 := by
      have := congrArg List.length hd
      simp at this
      simp; omega
    have hlen' : ((l ++ [a]).map D.int).length < LINE := by rw [List.length_map, LINE_eq]; exact hlen
    have hpush : ∀ (b : Int), (l ++ [a]).map D.int ++ [.int b] = (l ++ [a] ++ [b]).map D.int := fun b => by rw [List.map_append (l₂ := [b])]; rfl
    generalize hL : (l ++ [a]).map D.int = L at *
    simp [x_App, ownL, dNeg, hix, dAdd]
    refine (dr pre c' m 4 (by omega) (by omega)).stm ?_
    rintro _ _ ⟨c1, g, rfl, rfl, g0, g1⟩
    refine (dr pre c1 m 3 (by omega) (by omega)).stm ?_
    rintro _ _ ⟨c2, w, rfl, rfl, w0, w1⟩
    have hw : ∃ d : Int, dIx (.lst [.int 0, .int 0, .int g]) (.int w) (penSt pre c2 m) = .ok (.int d) (penSt pre c2 m) ∧ 0 ≤ d ∧ d ≤ 3 := by
      have : w = 0 ∨ w = 1 ∨ w = 2 := by omega
      rcases this with rfl | rfl | rfl
      · exact ⟨0, by simp [dIx, L2.atI, L2.ixN], by omega, by omega⟩
      · exact ⟨0, by simp [dIx, L2.atI, L2.ixN], by omega, by omega⟩
      · exact ⟨g, by simp [dIx, L2.atI, L2.ixN], by omega, by omega⟩
    obtain ⟨d, hd1, hd0, hd3⟩ := hw
    rw [LINE_eq] at hlen'
    simp [hd1, hlen', hpush]
    obtain ⟨r, hr⟩ := hh
    exact ⟨_, _, rfl, c2, l ++ [a], a + 1 + d, .vl (.int (1 + i)), rfl, by simp, ⟨r ++ [a + 1 + d], by rw [hr]; rfl⟩, pw_snoc hp (by omega), by simp; omega, by simp [hl]⟩
  · rintro st env ⟨c', l, a, x3, rfl, rfl, hh, hp, ha, hl⟩
    rw [List.length_range] at ha hl
    have fin1 : ∀ (c : Int), (Dl.fin ((sRetVar 2) (penSt pre c m) [.vl (.obj pre.length), .vl (.int k), .ow (.lst ((l ++ [a]).map .int)), x3])).To (NamesPost pre m k) := fun c =>
      ⟨_, _, rfl, c, l ++ [a], rfl, rfl, ⟨hh, hp, fun n hn => by
        rcases List.mem_append.mp hn with hn | hn
        · have := pw_hi hp n hn
          omega
        · rw [List.mem_singleton] at hn
          omega⟩, by simp; omega⟩
    by_cases hk1 : 1 < k
    · simp [-List.map_append, cmD, Cm.int, hk1]
      refine (dr pre c' m 8 (by omega) (by omega)).bind ?_
      rintro _ _ ⟨c1, g, rfl, rfl, g0, g1⟩
      by_cases hg : g = 0
      · subst hg
        have hne : l ≠ [] := by
          intro e
          subst e
          simp at hl
          omega
        have hix : L2.ixN (l.length + 1) (-1) = some l.length := by
          unfold L2.ixN
          rw [if_neg (by omega), if_pos (by omega)]
          congr 1
          omega
        simp [-List.map_append, dEq, dPow, dNeg, putTo, hix, set_last]
        refine ⟨_, _, rfl, c1, l ++ [1000000], rfl, rfl, ⟨?_, ?_, fun n hn => ?_⟩, by simp; omega⟩
        · obtain ⟨r, hr⟩ := hh
          cases l with
          | nil => exact absurd rfl hne
          | cons b l => cases hr; exact ⟨l ++ [1000000], rfl⟩
        · rw [List.pairwise_append]
          refine ⟨(List.pairwise_append.mp hp).1, by simp, fun x hx y hy => ?_⟩
          rw [List.mem_singleton] at hy
          have := pw_hi hp x hx
          omega
        · rcases List.mem_append.mp hn with hn | hn
          · have := pw_hi hp n hn
            omega
          · rw [List.mem_singleton] at hn
            omega
      · simp [-List.map_append, dEq, hg]
        exact fin1 c1
    · simp [-List.map_append, cmD, Cm.int, hk1]
      exact fin1 c'
end Lw
end
section
set_option maxRecDepth 100000
set_option linter.all false
set_option Elab.async false
set_option maxHeartbeats 1000000
namespace Lw
open PySem Dl
/-! ### ups -/
def encAb (e : Int × Int) : Key × D := (.inl e.1, .int e.2)
/-- each one's up is 0 or was put ahead -/
def AbOk (ab : List (Int × Int)) : Prop := ∀ (i : Nat) (n u : Int), ab[i]? = some (n, u) → u = 0 ∨ ∃ j, j < i ∧ ∃ u', ab[j]? = some (u, u')
theorem AbOk.snoc {ab : List (Int × Int)} (h : AbOk ab) (n u : Int) (hu : u = 0 ∨ u ∈ ab.map (·.1)) : AbOk (ab ++ [(n, u)]) := fun i n' u' hi => by
  by_cases hl : i < ab.length
  · rw [List.getElem?_append_left hl] at hi
    rcases h i n' u' hi with e | ⟨j, hj, v, hv⟩
    · exact .inl e
    · exact .inr ⟨j, hj, v, by rw [List.getElem?_append_left (by omega)]; exact hv⟩
  · rw [List.getElem?_append_right (by omega)] at hi
    have hz : i = ab.length := by
      have := (List.getElem?_eq_some_iff.mp hi).1
      simp at this
      omega
    subst hz
    simp at hi
    obtain ⟨rfl, rfl⟩ := hi
    rcases hu with e | hm
    · exact .inl e
    · obtain ⟨e, he, hq⟩ := List.mem_map.mp hm
      obtain ⟨j, hj, hg⟩ := List.getElem_of_mem he
      refine .inr ⟨j, hj, e.2, ?_⟩
      rw [List.getElem?_append_left hj, List.getElem?_eq_getElem hj, hg, ← hq]
def UpsInv (pre : Store) (m : Int) (names : List Int) (k : Nat) (st : Store) (env : En) : Prop := ∃ (c' : Int) (left : List Int) (ab : List (Int × Int)) (x5 x6 : Sl), st = penSt pre c' m ∧ env = [.vl (.obj pre.length), .vl (.lst (names.map .int)), .ow (.lst ((0 :: ab.map (·.1)).map .int)), .ow (.lst (left.map .int)), .ow (.dct (ab.map encAb)), x5, x6] ∧
  (ab.map (·.1) ++ left).Perm names.tail ∧ AbOk ab ∧ left.length = k
def UpsPost (pre : Store) (m : Int) (names : List Int) (v : D) (st : Store) : Prop := ∃ (c' : Int) (ab : List (Int × Int)), st = penSt pre c' m ∧ v = .dct (ab.map encAb) ∧ (ab.map (·.1)).Perm names.tail ∧ AbOk ab
theorem cut_tail (n : Int) (l : List Int) : cutD ((n :: l).map D.int) (some 1) none = l.map .int := by
  simp [cutD, HT.sIx]
  exact List.take_of_length_le (by simp)
theorem ix_ints (l : List Int) (i : Int) (h0 : 0 ≤ i) (h : i < l.length) (st : Store) : ∃ n, n ∈ l ∧ dIx (.lst (l.map .int)) (.int i) st = .ok (.int n) st := by
  obtain ⟨n, n1, n2, n3, n4⟩ := pop_eq l i h0 h
  refine ⟨n, List.mem_of_getElem? n1, ?_⟩
  have hat : L2.atI (l.map D.int) i = some (.int n) := by
    have e : i = ((i.toNat : Nat) : Int) := by omega
    rw [e]
    exact atI_nat _ _ _ n2
  simp only [dIx, hat]
theorem last_ints (l : List Int) (h : l ≠ []) (st : Store) : ∃ n, n ∈ l ∧ dIx (.lst (l.map .int)) (.int (-1)) st = .ok (.int n) st := by
  have hg : l.getLast? = some (l.getLast h) := List.getLast?_eq_some_getLast h
  exact ⟨_, List.getLast_mem h, last_ok l _ hg st⟩
theorem ix3 (a b c : Int) (w : Int) (h0 : 0 ≤ w) (h3 : w < 3) (st : Store) : ∃ n, (n = a ∨ n = b ∨ n = c) ∧ dIx (.lst [.int a, .int b, .int c]) (.int w) st = .ok (.int n) st := by
  have : w = 0 ∨ w = 1 ∨ w = 2 := by omega
  rcases this with rfl | rfl | rfl
  · exact ⟨a, .inl rfl, by simp [dIx, L2.atI, L2.ixN]⟩
  · exact ⟨b, .inr (.inl rfl), by simp [dIx, L2.atI, L2.ixN]⟩
  · exact ⟨c, .inr (.inr rfl), by simp [dIx, L2.atI, L2.ixN]⟩
theorem lw_ups_ok (pre : Store) (c m : Int) (names : List Int) (hN : NamesOk names) (hl : names.length ≤ 100) : (F__law_ups (penSt pre c m) [.obj pre.length, .lst (names.map .int)]).To (UpsPost pre m names) := by
  obtain ⟨rest, rfl⟩ := hN.hd
  have hnd : (0 :: rest).Nodup := hN.pw.imp fun {a b} h => by omega
  have ho : own (.lst [.int 0]) = .ow (.lst ([0].map .int)) := own_ints [0]
  have ho2 : own (.dct []) = .ow (.dct []) := rfl
  have hi := imms_ints (0 :: rest)
  have hct := cut_tail 0 rest
  have hs : ∀ st, dSl (.lst ((0 :: rest).map .int)) (some 1) none st = .ok (.lst (rest.map .int)) st := fun st => by
    simp only [dSl, hi, if_true, hct]
  have hli : ∀ st, dList (.lst (rest.map .int)) st = .ok (.lst (rest.map .int)) st := fun st => by
    have := imms_ints rest
    simp only [dList, this, if_true]
  generalize hnm : 0 :: rest = names at *
  simp [-List.map_map, F__law_ups, B__law_ups, runFn_fin, sSets, setsGo, ho, ho2, hs, hli, own_ints]
  obtain ⟨st', env', hw, c', left, ab, x5, x6, rfl, rfl, hp, hab, hl0⟩ := while_inv (T := tVal (eEq true (eVar 3) (eLst aNil))) (B := sSeq (sSetPopAt 5 3 (eCall F__law_draw (aCons (eVar 0) (aCons (eLen (eVar 3)) aNil))))
    (sSeq (sSet 6 (eLst (aCons (eC (.int 0)) (aCons (eImm (eIx (eVar 2) (eNeg (eC (.int 1))))) (aCons (eImm (eIx (eVar 2) (eCall F__law_draw (aCons (eVar 0) (aCons (eLen (eVar 2)) aNil))))) aNil)))))
    (sSeq (sPut 4 (eVar 5) (eImm (eIx (eVar 6) (eCall F__law_draw (aCons (eVar 0) (aCons (eC (.int 3)) aNil))))))
    (sApp 2 (eImm (eVar 5))))))
    (UpsInv pre m names) (UpsInv pre m names 0) (by
      rintro k st env ⟨c', left, ab, x5, x6, rfl, rfl, hp, hab, rfl⟩
      by_cases hne : left = []
      · subst hne
        refine .inl ⟨penSt pre c' m, ?_, c', [], ab, x5, x6, rfl, rfl, hp, hab, rfl⟩
        have d0 : deq (.lst []) (.lst []) = some true := deq_ints0 []
        simp [dEq, d0]
      · refine .inr ⟨penSt pre c' m, ?_, ?_⟩
        · have hd := deq_ints0 left
          rw [decide_eq_false hne] at hd
          simp [dEq, hd]
        · have hpos : 0 < left.length := List.length_pos_iff.mpr hne
          have hpl := hp.length_eq
          rw [List.length_append, List.length_map, ← hnm, List.tail_cons] at hpl
          have hrl : rest.length ≤ 99 := by rw [← hnm] at hl; simpa using hl
          suffices h : (sSeq (sSetPopAt 5 3 (eCall F__law_draw (aCons (eVar 0) (aCons (eLen (eVar 3)) aNil))))
    (sSeq (sSet 6 (eLst (aCons (eC (.int 0)) (aCons (eImm (eIx (eVar 2) (eNeg (eC (.int 1))))) (aCons (eImm (eIx (eVar 2) (eCall F__law_draw (aCons (eVar 0) (aCons (eLen (eVar 2)) aNil))))) aNil)))))
    (sSeq (sPut 4 (eVar 5) (eImm (eIx (eVar 6) (eCall F__law_draw (aCons (eVar 0) (aCons (eC (.int 3)) aNil))))))
    (sApp 2 (eImm (eVar 5))))) (penSt pre c' m) [.vl (.obj pre.length), .vl (.lst (names.map .int)), .ow (.lst ((0 :: ab.map (·.1)).map .int)), .ow (.lst (left.map .int)), .ow (.dct (ab.map encAb)), x5, x6]).To (UpsInv pre m names (left.length - 1)) by
            obtain ⟨st2, env2, h1, h2⟩ := h
            exact ⟨left.length - 1, st2, env2, h1, by omega, h2⟩
          have hR : (0 :: ab.map (·.1)).length = ab.length + 1 := by simp
          generalize hRd : (0 :: ab.map (·.1)) = ready at *
          have hrne : ready ≠ [] := by rw [← hRd]; simp
          simp [-List.map_map, sSetPopAt, popAt, ownL, dLen]
          refine (dr pre c' m left.length (by omega) (by omega)).stm ?_
          rintro _ _ ⟨c1, d, rfl, rfl, d0, d1⟩
          obtain ⟨n, n1, n2, n3, n4⟩ := pop_eq left d d0 d1
          have hd2 : d < 9223372036854775808 := by omega
          obtain ⟨a1, a1m, ha1⟩ := last_ints ready hrne (penSt pre c1 m)
          simp [-List.map_map, d0, hd2, n1, n3, dNeg, ha1, dLen]
          refine (dr pre c1 m ready.length (by omega) (by omega)).stm ?_
          rintro _ _ ⟨c2, e, rfl, rfl, e0, e1⟩
          obtain ⟨a2, a2m, ha2⟩ := ix_ints ready e e0 e1 (penSt pre c2 m)
          have ho6 : own (.lst [.int 0, .int a1, .int a2]) = .ow (.lst [.int 0, .int a1, .int a2]) := own_ints [0, a1, a2]
          simp [-List.map_map, ha2, ho6]
          refine (dr pre c2 m 3 (by omega) (by omega)).stm ?_
          rintro _ _ ⟨c3, f, rfl, rfl, f0, f1⟩
          obtain ⟨u, hu, hix⟩ := ix3 0 a1 a2 f f0 f1 (penSt pre c3 m)
          have hal : ab.length < 16777216 := by omega
          have hrl2 : ready.length < 16777216 := by omega
          have hnew : dPut (ab.map encAb) (.inl n) (.int u) = (ab ++ [(n, u)]).map encAb := by
            rw [dPut_new, List.map_append]
            · rfl
            · intro q hq hk
              obtain ⟨e', he', rfl⟩ := List.mem_map.mp hq
              have hk' : e'.1 = n := Sum.inl.inj hk
              have hnl : n ∈ left := List.mem_of_getElem? n1
              have hnd2 : (ab.map (·.1) ++ left).Nodup := hp.nodup_iff.mpr (hnd.sublist (List.tail_sublist _))
              exact (List.nodup_append.mp hnd2).2.2 n (hk' ▸ List.mem_map_of_mem he') n hnl rfl
          simp [-List.map_map, hix, putTo, keyOf, hal, hnew, x_App, ownL, hrl2]
          have hmem : ∀ x ∈ ready, x = 0 ∨ x ∈ ab.map (·.1) := fun x hx => by
            rw [← hRd] at hx
            exact List.mem_cons.mp hx
          refine ⟨_, _, rfl, c3, left.eraseIdx d.toNat, ab ++ [(n, u)], .vl (.int n), .ow (.lst [.int 0, .int a1, .int a2]), rfl, ?_, ?_, hab.snoc n u ?_, ?_⟩
          · have q1 : (ab ++ [(n, u)]).map encAb = ab.map encAb ++ [encAb (n, u)] := List.map_append
            rw [q1, List.map_append, ← List.cons_append, hRd, List.map_append]
            rfl
          · refine List.Perm.trans ?_ hp
            rw [List.map_append, List.append_assoc]
            exact n4.append_left _
          · rcases hu with rfl | rfl | rfl
            · exact .inl rfl
            · exact hmem _ a1m
            · exact hmem _ a2m
          · rw [List.length_eraseIdx]
            have : d.toNat < left.length := by omega
            rw [if_pos this])
    (n := rest.length) (st := penSt pre c m) (env := [.vl (.obj pre.length), .vl (.lst (names.map .int)), .ow (.lst [.int 0]), .ow (.lst (rest.map .int)), .ow (.dct []), .un, .un]) (by rw [← hnm] at hl; simp at hl; omega) ⟨c, rest, [], .un, .un, rfl, rfl, by rw [← hnm]; exact List.Perm.refl _, (fun i n u h => by simp at h), rfl⟩
  rw [hw]
  have hl0' : left = [] := List.eq_nil_of_length_eq_zero hl0
  subst hl0'
  exact ⟨_, _, rfl, c', ab, rfl, rfl, by simpa using hp, hab⟩
end Lw
end
section
set_option maxRecDepth 100000
set_option linter.all false
set_option Elab.async false
set_option maxHeartbeats 1000000
namespace Dl
open PySem
/-- a comprehension that draws: of the items some are left, each with what was drawn for it -/
theorem lc_to2 {α β : Type} (l : List α) (c : α → D) (enc : β → D) (pr : β → α) (P : β → Prop) (I : Store → Prop) {W : Iv} {g : Tg} {T : Tv} {A : Ev} {st : Store} {env : En} (hw : W st env = .ok (l.map c) st) (hl : l.length ≤ LINE) (h0 : I st)
    (h : ∀ a ∈ l, ∀ st, I st → ∃ e, g.set (c a) (wipeE env g.slots) = some e ∧ (T st e).To (fun b st' => I st' ∧ (b = true → (A st' e).To fun v st2 => I st2 ∧ ∃ k, v = enc k ∧ pr k = a ∧ P k))) :
    (eLc W g T A st env).To fun v st' => I st' ∧ ∃ ks : List β, v = .lst (ks.map enc) ∧ (ks.map pr).Sublist l ∧ ∀ k ∈ ks, P k := by
  have q : ∀ l' : List α, (∀ a ∈ l', a ∈ l) → ∀ st, I st → (lcGo g T A (l'.map c) st env).To fun v st' => I st' ∧ ∃ ks : List β, v = ks.map enc ∧ (ks.map pr).Sublist l' ∧ ∀ k ∈ ks, P k := by
    intro l'
    induction l' with
    | nil => exact fun _ st hi => .ok ⟨hi, [], rfl, List.Sublist.slnil, fun k hk => by cases hk⟩
    | cons a r ih =>
      intro hm st hi
      obtain ⟨e, h1, b, st1, h2, hi1, h3⟩ := h a (hm a List.mem_cons_self) st hi
      have i := ih fun b hb => hm b (List.mem_cons_of_mem _ hb)
      rw [List.map_cons]
      unfold lcGo
      rw [h1]
      simp only [h2, Out.bind]
      cases b with
      | true =>
        obtain ⟨v, st2, h4, hi2, k, rfl, hk1, hk2⟩ := h3 rfl
        simp only [h4, Out.bind, if_true]
        refine (i st2 hi2).bind ?_
        rintro xs st3 ⟨hi3, ks, rfl, hs, hp⟩
        refine .ok ⟨hi3, k :: ks, rfl, ?_, fun k' hk' => ?_⟩
        · rw [List.map_cons, hk1]
          exact hs.cons_cons a
        · rcases List.mem_cons.mp hk' with rfl | hk'
          · exact hk2
          · exact hp k' hk'
      | false =>
        simp only [Bool.false_eq_true, if_false]
        refine (i st1 hi1).mono ?_
        rintro xs st3 ⟨hi3, ks, e, hs, hp⟩
        exact ⟨hi3, ks, e, hs.cons a, hp⟩
  obtain ⟨xs, st', e, hi, ks, rfl, hs, hp⟩ := q l (fun _ h => h) st h0
  unfold eLc
  rw [hw]
  simp only [Out.bind, e, Out.calm]
  have hle := hs.length_le
  rw [List.length_map] at hle
  rw [if_pos (by rw [List.length_map]; exact Nat.le_trans hle hl)]
  exact .ok ⟨hi, ks, rfl, hs, hp⟩
end Dl
namespace Lw
open PySem Dl
/-! ### marks -/
def odds : List (Str × Int) := [("asleep", 10), ("hidden", 10), ("hold", 6), ("one", 5)]
def MarksPost (pre : Store) (m u : Int) (v : D) (st : Store) : Prop := ∃ (c' : Int) (ms : List Str), st = penSt pre c' m ∧ v = .tup (ms.map .str) ∧ ms.Sublist MARKS ∧ (Str.ofString "sheet" ∈ ms → u = 0)
theorem no_sheet : Str.ofString "sheet" ∉ (["asleep", "hidden", "hold", "one"] : List Str) := by decide +kernel
theorem no_sheet2 : Str.ofString "sheet" ≠ Str.ofString "stop" := by decide +kernel
theorem lw_marks_ok (pre : Store) (c m u : Int) : (F__law_marks (penSt pre c m) [.obj pre.length, .int u]).To (MarksPost pre m u) := by
  have ho : own (.lst (odds.map fun e => .tup [.str e.1, .int e.2])) = .ow (.lst (odds.map fun e => .tup [.str e.1, .int e.2])) := rfl
  simp [odds] at ho
  simp [F__law_marks, B__law_marks, runFn_fin, ho]
  rw [lcV_eq (by simp [frz, vlOf, isDct])]
  refine (lc_to odds (fun e => .tup [.str e.1, .int e.2]) (fun e => .str e.1) (PenI pre m) (iVar_lst _ _ _ _ rfl) (by rw [LINE_eq]; simp [odds]) ⟨c, rfl⟩ ?_).bind ?_
  · rintro ⟨w, k⟩ hw _ ⟨c6, rfl⟩
    have hk : 0 < k ∧ k < 100 := by
      simp [odds] at hw
      rcases hw with ⟨_, rfl⟩ | ⟨_, rfl⟩ | ⟨_, rfl⟩ | ⟨_, rfl⟩ <;> omega
    refine ⟨_, rfl, ?_⟩
    simp [wipeE, Tg.slots, frz]
    refine (dr pre c6 m k (by omega) (by omega)).bind ?_
    rintro _ _ ⟨c7, d, rfl, rfl, d0, d1⟩
    simp [dEq]
    exact ⟨_, _, rfl, ⟨c7, rfl⟩, fun _ => ⟨_, _, rfl, rfl, ⟨c7, rfl⟩⟩⟩
  · rintro v _ ⟨⟨c6, rfl⟩, s, hs, rfl⟩
    have e5 : s.map (fun e => D.str e.1) = (s.map (·.1)).map .str := by rw [List.map_map]; rfl
    have hs1 : (s.map (·.1)).Sublist (["asleep", "hidden", "hold", "one"] : List Str) := by
      have := hs.map (·.1)
      exact this
    rw [e5]
    generalize s.map (·.1) = ms at hs1
    have hml := hs1.length_le
    simp at hml
    have fin2 : ∀ (c8 : Int) (ms2 : List Str) (x2 x4 x5 : Sl), ms2.Sublist (["asleep", "hidden", "hold", "one", "sheet"] : List Str) → (Str.ofString "sheet" ∈ ms2 → u = 0) →
        (Dl.fin (((sIf (tVal (eCm .gt (eCall F__law_draw (aCons (eVar 0) (aCons (eC (.int 4)) aNil))) (eC (.int 0)))) (sApp 3 (eC (.str (Str.ofString "stop")))) sPass) (penSt pre c8 m) [.vl (.obj pre.length), .vl (.int u), x2, .ow (.lst (ms2.map .str)), x4, x5]).thn
          (sRet (eTuple (eVar 3))))).To (MarksPost pre m u) := by
      intro c8 ms2 x2 x4 x5 h2 h3
      have hl2 := h2.length_le
      simp at hl2
      simp
      refine (dr pre c8 m 4 (by omega) (by omega)).bind ?_
      rintro _ _ ⟨c9, e, rfl, rfl, e0, e1⟩
      by_cases he : 0 < e
      · have ht := dTuple_strs (ms2 ++ (["stop"] : List Str)) (penSt pre c9 m)
        have es : List.map D.str (["stop"] : List Str) = [.str (Str.ofString "stop")] := rfl
        rw [List.map_append, es] at ht
        have hl3 : ms2.length < 16777216 := by omega
        simp [cmD, Cm.int, he, x_App, ownL, hl3, ht]
        refine ⟨_, _, rfl, c9, ms2 ++ (["stop"] : List Str), rfl, by rw [List.map_append, es], h2.append (List.Sublist.refl (["stop"] : List Str)), fun hm => ?_⟩
        rcases List.mem_append.mp hm with hm | hm
        · exact h3 hm
        · exact absurd (List.mem_singleton.mp hm) no_sheet2
      · have ht := dTuple_strs ms2 (penSt pre c9 m)
        simp [cmD, Cm.int, he, ht]
        exact ⟨_, _, rfl, c9, ms2, rfl, rfl, h2.trans (show List.Sublist _ MARKS from List.sublist_append_left (["asleep", "hidden", "hold", "one", "sheet"] : List Str) (["stop"] : List Str)), h3⟩
    have hns : Str.ofString "sheet" ∉ ms := fun hm => no_sheet (hs1.subset hm)
    have plain : ∀ (c8 : Int) (x2 x4 x5 : Sl), _ := fun c8 x2 x4 x5 => fin2 c8 ms x2 x4 x5 (hs1.trans (List.sublist_append_left (["asleep", "hidden", "hold", "one"] : List Str) (["sheet"] : List Str))) (fun hm => absurd hm hns)
    simp only [own_strs, stm_ok, fin_stm, thn_nx, List.set_cons_succ, List.set_cons_zero]
    by_cases hu : u = 0
    · subst hu
      simp [dEq]
      refine (dr pre c6 m 4 (by omega) (by omega)).bind ?_
      rintro _ _ ⟨c7, d, rfl, rfl, d0, d1⟩
      by_cases hd : d = 0
      · have es : List.map D.str (["sheet"] : List Str) = [.str (Str.ofString "sheet")] := rfl
        have hl3 : ms.length < 16777216 := by omega
        have k := fin2 c7 (ms ++ (["sheet"] : List Str))
        rw [List.map_append, es] at k
        have hsa : ∀ st x0 x1 x2 x4 x5, sApp 3 (eC (.str (Str.ofString "sheet"))) st [x0, x1, x2, .ow (.lst (ms.map .str)), x4, x5] = .nx st [x0, x1, x2, .ow (.lst (ms.map .str ++ [.str (Str.ofString "sheet")])), x4, x5] := fun st x0 x1 x2 x4 x5 => by
          simp [x_App, ownL, hl3]
        simp [hd, hsa]
        simpa using k _ _ _ (hs1.append (List.Sublist.refl (["sheet"] : List Str))) (fun _ => rfl)
      · simp [hd]
        simpa using plain c7 _ _ _
    · skip
      simp [dEq, hu]
      simpa using plain c6 _ _ _
end Lw
end
section
set_option maxRecDepth 100000
set_option linter.all false
set_option Elab.async false
set_option maxHeartbeats 1000000
namespace Lw
open PySem Dl
/-! ### box, deed, keys -/
def BoxPost (pre : Store) (m : Int) (v : D) (st : Store) : Prop := ∃ (c' l t w h : Int), st = penSt pre c' m ∧ v = .tup [.int l, .int t, .int w, .int h] ∧ (-4 ≤ l ∧ l ≤ 9) ∧ (-4 ≤ t ∧ t ≤ 9) ∧ (1 ≤ w ∧ w ≤ 12) ∧ (1 ≤ h ∧ h ≤ 12)
theorem lw_box_ok (pre : Store) (c m : Int) : (F__law_box (penSt pre c m) [.obj pre.length]).To (BoxPost pre m) := by
  simp [F__law_box, B__law_box, runFn_fin, sSets, setsGo]
  refine (dr pre c m 14 (by omega) (by omega)).bind ?_
  rintro _ _ ⟨c1, a, rfl, rfl, a0, a1⟩
  simp [dSub]
  refine (dr pre c1 m 14 (by omega) (by omega)).bind ?_
  rintro _ _ ⟨c2, b, rfl, rfl, b0, b1⟩
  simp
  refine (dr pre c2 m 12 (by omega) (by omega)).bind ?_
  rintro _ _ ⟨c3, d, rfl, rfl, d0, d1⟩
  simp [dAdd]
  refine (dr pre c3 m 12 (by omega) (by omega)).bind ?_
  rintro _ _ ⟨c4, e, rfl, rfl, e0, e1⟩
  simp
  exact ⟨_, _, rfl, c4, a - 4, b - 4, 1 + d, 1 + e, rfl, rfl, ⟨by omega, by omega⟩, ⟨by omega, by omega⟩, ⟨by omega, by omega⟩, by omega, by omega⟩
def DeedPost (pre : Store) (m : Int) (g : Bool) (v : D) (st : Store) : Prop := ∃ (c' : Int) (d : Deed), st = penSt pre c' m ∧ v = encDeed d ∧ DeedOk d ∧ (g = true → d.isShut = false)
theorem ix5 (a b c d e : D) (w : Int) (h0 : 0 ≤ w) (h3 : w < 5) (st : Store) : ∃ n, (n = a ∨ n = b ∨ n = c ∨ n = d ∨ (n = e ∧ w = 4)) ∧ dIx (.lst [a, b, c, d, e]) (.int w) st = .ok n st := by
  have : w = 0 ∨ w = 1 ∨ w = 2 ∨ w = 3 ∨ w = 4 := by omega
  rcases this with rfl | rfl | rfl | rfl | rfl
  · exact ⟨a, .inl rfl, by simp [dIx, L2.atI, L2.ixN]⟩
  · exact ⟨b, .inr (.inl rfl), by simp [dIx, L2.atI, L2.ixN]⟩
  · exact ⟨c, .inr (.inr (.inl rfl)), by simp [dIx, L2.atI, L2.ixN]⟩
  · exact ⟨d, .inr (.inr (.inr (.inl rfl))), by simp [dIx, L2.atI, L2.ixN]⟩
  · exact ⟨e, .inr (.inr (.inr (.inr ⟨rfl, rfl⟩))), by simp [dIx, L2.atI, L2.ixN]⟩
theorem ix_strs (l : List Str) (i : Int) (h0 : 0 ≤ i) (h : i < l.length) (st : Store) : ∃ n, n ∈ l ∧ dIx (.lst (l.map .str)) (.int i) st = .ok (.str n) st := by
  have hi : i.toNat < l.length := by omega
  refine ⟨l[i.toNat], List.getElem_mem hi, ?_⟩
  have hat : L2.atI (l.map D.str) i = some (.str l[i.toNat]) := by
    have e : i = ((i.toNat : Nat) : Int) := by omega
    have q := atI_nat (l.map D.str) i.toNat (.str l[i.toNat]) (by rw [List.getElem?_map, List.getElem?_eq_getElem hi]; rfl)
    rw [← e] at q
    exact q
  simp only [dIx, hat]
theorem lw_deed_ok (pre : Store) (c m : Int) (g : Bool) : (F__law_deed (penSt pre c m) [.obj pre.length, .bl g]).To (DeedPost pre m g) := by
  have how : own (.lst (WAYS.map .str)) = .ow (.lst (WAYS.map .str)) := own_strs WAYS
  have hwl : WAYS.length = 8 := rfl
  have hpw : ∀ st, dPow (.int 10) (.int 6) st = .ok (.int 1000000) st := fun st => by simp [dPow]
  have hw : WAYS.map D.str = [.str (Str.ofString "above"), .str (Str.ofString "back"), .str (Str.ofString "below"), .str (Str.ofString "in"), .str (Str.ofString "left"), .str (Str.ofString "next"), .str (Str.ofString "out"), .str (Str.ofString "right")] := rfl
  rw [hw] at how
  simp [F__law_deed, B__law_deed, runFn_fin, how]
  rw [← hw]
  refine (dr pre c m 9 (by omega) (by omega)).bind ?_
  rintro _ _ ⟨c1, a, rfl, rfl, a0, a1⟩
  simp [hpw, dNeg, dSub]
  refine (dr pre c1 m 3 (by omega) (by omega)).bind ?_
  rintro _ _ ⟨c2, b, rfl, rfl, b0, b1⟩
  obtain ⟨num, hnum, hn⟩ := ix3 (a - 4) 1000000 (-1000000) b b0 b1 (penSt pre c2 m)
  simp [hn]
  refine (dr pre c2 m 8 (by omega) (by omega)).bind ?_
  rintro _ _ ⟨c3, w, rfl, rfl, w0, w1⟩
  obtain ⟨way, hway, hwx⟩ := ix_strs WAYS w w0 (by rw [hwl]; exact w1) (penSt pre c3 m)
  have hol : own (.lst [.tup [.str (Str.ofString "say"), .int num], .tup [.str (Str.ofString "go"), .str way], .tup [.str (Str.ofString "still")], .tup [.str (Str.ofString "say"), .int 0], .tup [.str (Str.ofString "shut")]]) = .ow (.lst [.tup [.str (Str.ofString "say"), .int num], .tup [.str (Str.ofString "go"), .str way], .tup [.str (Str.ofString "still")], .tup [.str (Str.ofString "say"), .int 0], .tup [.str (Str.ofString "shut")]]) := by
    simp [own]
  simp [hwx, hol, dInt, dSub]
  have hb : 0 < 5 - b2i g ∧ 5 - b2i g ≤ 5 := by cases g <;> simp [b2i]
  refine (dr pre c3 m (5 - b2i g) hb.1 (by omega)).bind ?_
  rintro _ _ ⟨c4, k, rfl, rfl, k0, k1⟩
  obtain ⟨dd, hdd, hdx⟩ := ix5 (.tup [.str (Str.ofString "say"), .int num]) (.tup [.str (Str.ofString "go"), .str way]) (.tup [.str (Str.ofString "still")]) (.tup [.str (Str.ofString "say"), .int 0]) (.tup [.str (Str.ofString "shut")]) k k0 (by omega) (penSt pre c4 m)
  have him : dd.imm = true := by rcases hdd with rfl | rfl | rfl | rfl | ⟨rfl, _⟩ <;> simp
  simp [hdx, him]
  have hfn : far num = true := by
    unfold far
    rw [Bool.and_eq_true, decide_eq_true_eq, decide_eq_true_eq]
    rcases hnum with rfl | rfl | rfl <;> constructor <;> omega
  rcases hdd with rfl | rfl | rfl | rfl | ⟨rfl, hk4⟩
  · exact ⟨_, _, rfl, c4, .say num, rfl, rfl, hfn, fun _ => rfl⟩
  · exact ⟨_, _, rfl, c4, .go way, rfl, rfl, hway, fun _ => rfl⟩
  · exact ⟨_, _, rfl, c4, .still, rfl, rfl, trivial, fun _ => rfl⟩
  · exact ⟨_, _, rfl, c4, .say 0, rfl, rfl, rfl, fun _ => rfl⟩
  · refine ⟨_, _, rfl, c4, .shut, rfl, rfl, trivial, fun hg => ?_⟩
    subst hg
    simp [b2i] at k1
    omega
def KEYS : List Str := ["0", "a", "esc", "f1", "q9z", "shiftsay"]
def KeysPost (pre : Store) (m : Int) (g : Bool) (v : D) (st : Store) : Prop := ∃ (c' : Int) (ks : List (Str × Deed)), st = penSt pre c' m ∧ v = .tup (ks.map encKey) ∧ (ks.map (·.1)).Sublist KEYS ∧ ∀ k ∈ ks, DeedOk k.2 ∧ (g = true → k.2.isShut = false)
theorem imms_keys (ks : List (Str × Deed)) : D.imms (ks.map encKey) = true := by simp [List.all_map, Function.comp_def, List.all_eq_true]
theorem lw_keys_ok (pre : Store) (c m : Int) (g : Bool) : (F__law_keys (penSt pre c m) [.obj pre.length, .bl g]).To (KeysPost pre m g) := by
  have hok : own (.lst (KEYS.map .str)) = .ow (.lst (KEYS.map .str)) := own_strs KEYS
  have hk : KEYS.map D.str = [.str (Str.ofString "0"), .str (Str.ofString "a"), .str (Str.ofString "esc"), .str (Str.ofString "f1"), .str (Str.ofString "q9z"), .str (Str.ofString "shiftsay")] := rfl
  rw [hk] at hok
  simp [F__law_keys, B__law_keys, runFn_fin, hok]
  rw [← hk]
  rw [lcV_eq (by simp [frz, vlOf, isDct])]
  refine (lc_to2 KEYS .str encKey (·.1) (fun k => DeedOk k.2 ∧ (g = true → k.2.isShut = false)) (PenI pre m) (iVar_lst _ _ _ _ rfl) (by rw [LINE_eq]; simp [KEYS]) ⟨c, rfl⟩ ?_).bind ?_
  · rintro x hx _ ⟨c6, rfl⟩
    refine ⟨_, rfl, ?_⟩
    simp [wipeE, Tg.slots, frz]
    refine (dr pre c6 m 4 (by omega) (by omega)).bind ?_
    rintro _ _ ⟨c7, d, rfl, rfl, d0, d1⟩
    simp [dEq]
    refine ⟨_, _, rfl, ⟨c7, rfl⟩, fun _ => ?_⟩
    refine (lw_deed_ok pre c7 m g).bind ?_
    rintro _ _ ⟨c8, dd, rfl, rfl, h1, h2⟩
    exact ⟨_, _, rfl, ⟨c8, rfl⟩, x, dd, rfl, rfl, h1, h2⟩
  · rintro v _ ⟨⟨c6, rfl⟩, ks, rfl, hs, hp⟩
    have hi := imms_keys ks
    have ht : dTuple (.lst (ks.map encKey)) (penSt pre c6 m) = .ok (.tup (ks.map encKey)) (penSt pre c6 m) := by
      simp only [dTuple, hi, if_true]
    simp [ht]
    exact ⟨_, _, rfl, c6, ks, rfl, rfl, hs, hp⟩
end Lw
end
section
set_option maxRecDepth 100000
set_option linter.all false
set_option Elab.async false
set_option maxHeartbeats 2000000
namespace Lw
open PySem Dl
/-! ### the drawn plan -/
theorem rise_str {l : List Str} (h : l.Pairwise (fun a b => a.cps.toList < b.cps.toList)) : ∀ i a b, l[i]? = some a → l[i + 1]? = some b → a.cps.toList < b.cps.toList := fun i a b h1 h2 => by
  obtain ⟨q1, e1⟩ := List.getElem?_eq_some_iff.mp h1
  obtain ⟨q2, e2⟩ := List.getElem?_eq_some_iff.mp h2
  rw [← e1, ← e2]
  exact List.pairwise_iff_getElem.mp h i (i + 1) q1 q2 (by omega)
theorem rise_pw {l : List Int} (h : l.Pairwise (· < ·)) : ∀ i a b, l[i]? = some a → l[i + 1]? = some b → a < b := fun i a b h1 h2 => by
  obtain ⟨q1, e1⟩ := List.getElem?_eq_some_iff.mp h1
  obtain ⟨q2, e2⟩ := List.getElem?_eq_some_iff.mp h2
  rw [← e1, ← e2]
  exact List.pairwise_iff_getElem.mp h i (i + 1) q1 q2 (by omega)
theorem MARKS_rise : MARKS.Pairwise (fun a b => a.cps.toList < b.cps.toList) := by decide +kernel
theorem KEYS_rise : KEYS.Pairwise (fun a b => a.cps.toList < b.cps.toList) := by decide +kernel
theorem KEYS_ok : ∀ x ∈ KEYS, KeyOk x := fun x hx => by
  have h1 : ∀ x ∈ KEYS, 1 ≤ x.length ∧ x.length ≤ 8 ∧ ∀ c ∈ x.cps.toList, c ∈ SIGNS.cps.toList := by decide +kernel
  obtain ⟨a, b, c⟩ := h1 x hx
  exact ⟨a, b, c⟩
theorem keys_plain {ks : List (Str × Deed)} (h : (ks.map (·.1)).Sublist KEYS) (hd : ∀ k ∈ ks, DeedOk k.2) : ks.length ≤ 20 ∧ (∀ k ∈ ks, KnownOk k) ∧ ∀ i a b, (ks.map (·.1))[i]? = some a → (ks.map (·.1))[i + 1]? = some b → a.cps.toList < b.cps.toList := by
  refine ⟨?_, fun k hk => ⟨KEYS_ok _ (h.subset (List.mem_map_of_mem hk)), hd k hk⟩, rise_str (KEYS_rise.sublist h)⟩
  have := h.length_le
  rw [List.length_map] at this
  have e : KEYS.length = 6 := rfl
  omega
theorem marks_plain {ms : List Str} (h : ms.Sublist MARKS) : ms.length ≤ 1000000 ∧ (∀ x ∈ ms, x ∈ MARKS) ∧ ∀ i a b, ms[i]? = some a → ms[i + 1]? = some b → a.cps.toList < b.cps.toList := by
  refine ⟨?_, fun x hx => h.subset hx, rise_str (MARKS_rise.sublist h)⟩
  have := h.length_le
  have e : MARKS.length = 6 := rfl
  omega
structure DrawnP (ab : List (Int × Int)) (p : Pane) : Prop where
  ok : PaneOk p
  up : ∃ u, p.up = some u ∧ (p.nm, u) ∈ ab ∧ (Str.ofString "sheet" ∈ p.marks → u = 0)
  ks : (p.keys.map (·.1)).Sublist KEYS
  ms : p.marks.Sublist MARKS
structure Drawn (g : Pane) (rest : List Pane) (r : Int → Nat) : Prop where
  ok : PlanOk g rest r
  gw : 6 ≤ g.bw ∧ g.bw ≤ 19
  gh : 6 ≤ g.bh ∧ g.bh ≤ 19
  few : rest.length ≤ 11
  ks : ∀ p ∈ g :: rest, (p.keys.map (·.1)).Sublist KEYS
  ms : ∀ p ∈ g :: rest, p.marks.Sublist MARKS
theorem ab_get {ab : List (Int × Int)} (nd : (ab.map (·.1)).Nodup) {n u : Int} (h : (n, u) ∈ ab) : dGet (ab.map encAb) (.inl n) = some (.int u) := by
  unfold dGet
  induction ab with
  | nil => cases h
  | cons e ab ih =>
    rw [List.map_cons, List.nodup_cons] at nd
    rw [List.map_cons]
    rcases List.mem_cons.mp h with rfl | h
    · rw [List.find?_cons_of_pos (by simp [encAb])]; rfl
    · have hne : e.1 ≠ n := fun q => nd.1 (q ▸ List.mem_map_of_mem (f := (·.1)) h)
      rw [List.find?_cons_of_neg (by simpa [encAb] using hne)]
      exact ih nd.2 h
theorem own_ab (ab : List (Int × Int)) : own (.dct (ab.map encAb)) = .ow (.dct (ab.map encAb)) := by
  have hi : D.imms ((ab.map encAb).map (·.2)) = true := by simp [List.all_map, Function.comp_def, List.all_eq_true, encAb]
  show (if D.imms ((ab.map encAb).map (·.2)) = true then Sl.ow _ else Sl.vl _) = _
  rw [if_pos hi]
/-- the drawn panes make a plan -/
theorem drawn_plan {g : Pane} {rest : List Pane} {ab : List (Int × Int)} {names : List Int} (hN : NamesOk names) (hg : GroundOk g) (hgo : PaneOk g) (hab : AbOk ab) (hp : (ab.map (·.1)).Perm names.tail) (hr : rest.map (·.nm) = names.tail) (hd : ∀ p ∈ rest, DrawnP ab p) (hl : rest.length ≤ 39) : ∃ r, PlanOk g rest r := by
  have hpw := hN.pw
  obtain ⟨nt, hnt⟩ := hN.hd
  have hall : (g :: rest).map (·.nm) = names := by rw [List.map_cons, hr, hg.nm, hnt]; rfl
  have nd : (ab.map (·.1)).Nodup := by
    refine hp.nodup_iff.mpr ?_
    rw [hnt] at hpw ⊢
    exact ((List.pairwise_cons.mp hpw).2).imp fun {a b} h => by omega
  refine ⟨fun n => (ab.map (·.1)).idxOf n, hgo, hg, fun p hp => (hd p hp).ok, ?_, fun p hp hs => ?_, fun p hp' => ?_, hl⟩
  · rw [hall]; exact rise_pw hN.pw
  · obtain ⟨u, hu, _, h0⟩ := (hd p hp).up
    rw [hu, h0 hs]
  · obtain ⟨u, hu, hm, _⟩ := (hd p hp').up
    refine ⟨u, hu, ?_⟩
    obtain ⟨i, hi, he⟩ := List.getElem_of_mem hm
    rcases hab i p.nm u (by rw [List.getElem?_eq_getElem hi, he]) with h | ⟨j, hj, u', hu'⟩
    · exact .inl h
    · refine .inr ?_
      have hmem : u ∈ ab.map (·.1) := by
        have := List.mem_of_getElem? hu'
        exact List.mem_map_of_mem (f := (·.1)) this
      have hmem2 : u ∈ rest.map (·.nm) := by rw [hr]; exact hp.mem_iff.mp hmem
      obtain ⟨q, hq, e⟩ := List.mem_map.mp hmem2
      refine ⟨q, hq, e, ?_⟩
      have idx : ∀ (k : Nat) (x : Int), (ab.map (·.1))[k]? = some x → (ab.map (·.1)).idxOf x = k := fun k x hx => by
        obtain ⟨hk, e⟩ := List.getElem?_eq_some_iff.mp hx
        rw [← e]
        exact nd.idxOf_getElem k hk
      have i1 := idx j u (by rw [List.getElem?_map, hu']; rfl)
      have i2 := idx i p.nm (by rw [List.getElem?_map, List.getElem?_eq_getElem hi, he]; rfl)
      show (ab.map (·.1)).idxOf u < (ab.map (·.1)).idxOf p.nm
      rw [i1, i2]
      exact hj
def PlanInv (pre : Store) (m : Int) (names : List Int) (ab : List (Int × Int)) (far : Int) (size : D) (g : Pane) (done : List Int) (st : Store) (env : En) : Prop := ∃ (c' : Int) (rest : List Pane) (x6 x7 x8 x9 x10 : Sl), st = penSt pre c' m ∧
  env = [.vl (.obj pre.length), .ow (.lst (names.map .int)), .ow (.dct (ab.map encAb)), .vl (.int far), .vl size, .ow (.lst ((g :: rest).map encPane)), x6, x7, x8, x9, x10] ∧ rest.map (·.nm) = done ∧ ∀ p ∈ rest, DrawnP ab p
def PlanPost (pre : Store) (m : Int) (v : D) (st : Store) : Prop := ∃ (c' : Int) (g : Pane) (rest : List Pane) (r : Int → Nat), st = penSt pre c' m ∧ v = encPlan (g :: rest) ∧ Drawn g rest r
def IntPost (pre : Store) (m : Int) (P : Int → Prop) (v : D) (st : Store) : Prop := ∃ (c' n : Int), st = penSt pre c' m ∧ v = .int n ∧ P n
def BoxI (v : D) : Prop := ∃ l t w h : Int, v = .tup [.int l, .int t, .int w, .int h] ∧ Lw.far l = true ∧ Lw.far t = true ∧ side w = true ∧ side h = true
theorem ix2 (a b : D) (w : Int) (h0 : 0 ≤ w) (h3 : w < 2) (st : Store) : ∃ n, (n = a ∨ n = b) ∧ dIx (.lst [a, b]) (.int w) st = .ok n st := by
  have : w = 0 ∨ w = 1 := by omega
  rcases this with rfl | rfl
  · exact ⟨a, .inl rfl, by simp [dIx, L2.atI, L2.ixN]⟩
  · exact ⟨b, .inr rfl, by simp [dIx, L2.atI, L2.ixN]⟩
theorem far_of {n : Int} (h : -1000000 ≤ n ∧ n ≤ 1000000) : Lw.far n = true := by
  unfold Lw.far
  rw [Bool.and_eq_true, decide_eq_true_eq, decide_eq_true_eq]
  exact h
theorem side_of {n : Int} (h : 1 ≤ n ∧ n ≤ 1000000) : side n = true := by
  unfold side
  rw [Bool.and_eq_true, decide_eq_true_eq, decide_eq_true_eq]
  exact h
end Lw
end
section
set_option maxRecDepth 100000
set_option linter.all false
set_option Elab.async false
set_option maxHeartbeats 2000000
namespace Lw
open PySem Dl
def mkG (w h : Int) (ks : List (Str × Deed)) : Pane := ⟨0, none, 0, 0, w, h, 0, [], ks⟩
theorem mkG_ok {w h : Int} {ks : List (Str × Deed)} (hw : 1 ≤ w ∧ w ≤ 1000000) (hh : 1 ≤ h ∧ h ≤ 1000000) (k1 : ks.length ≤ 20) (k2 : ∀ k ∈ ks, KnownOk k) (k3 : ∀ i a b, (ks.map (·.1))[i]? = some a → (ks.map (·.1))[i + 1]? = some b → a.cps.toList < b.cps.toList) : PaneOk (mkG w h ks) where
  nm := ⟨Int.le_refl 0, by show (0 : Int) ≤ 1000000; decide⟩
  up := fun u hu => by cases hu
  bx := rfl
  byy := rfl
  bw := side_of hw
  bh := side_of hh
  turn := rfl
  ml := Nat.zero_le _
  mm := fun x hx => by cases hx
  mr := fun i a b h => by simp [mkG] at h
  kl := k1
  kk := k2
  kr := k3
theorem lw_plan_ok (pre : Store) (c m : Int) : (F__law_plan (penSt pre c m) [.obj pre.length]).To (PlanPost pre m) := by
  have hpw : ∀ st, dPow (.int 10) (.int 6) st = .ok (.int 1000000) st := fun st => by simp [dPow]
  simp [F__law_plan, B__law_plan, runFn_fin]
  refine (dr pre c m 12 (by omega) (by omega)).bind ?_
  rintro _ _ ⟨c1, a, rfl, rfl, a0, a1⟩
  simp [dAdd]
  refine (dr pre c1 m 6 (by omega) (by omega)).bind ?_
  rintro _ _ ⟨c2, b, rfl, rfl, b0, b1⟩
  try simp
  refine (dr pre c2 m 2 (by omega) (by omega)).bind ?_
  rintro _ _ ⟨c3, d, rfl, rfl, d0, d1⟩
  have hk : ∃ k : Int, dIx (.lst [.int (1 + a), .int (4 + b)]) (.int d) (penSt pre c3 m) = .ok (.int k) (penSt pre c3 m) ∧ 1 ≤ k ∧ k ≤ 12 := by
    have : d = 0 ∨ d = 1 := by omega
    rcases this with rfl | rfl
    · exact ⟨1 + a, by simp [dIx, L2.atI, L2.ixN], by omega, by omega⟩
    · exact ⟨4 + b, by simp [dIx, L2.atI, L2.ixN], by omega, by omega⟩
  obtain ⟨k, hk, k1, k2⟩ := hk
  simp [hk]
  refine (lw_names_ok pre c3 m k k1 (by omega)).bind ?_
  rintro _ _ ⟨c4, names, rfl, rfl, hN, hnl⟩
  simp [own_ints, sSets, setsGo]
  refine (lw_ups_ok pre c4 m names hN (by omega)).bind ?_
  rintro _ _ ⟨c5, ab, rfl, rfl, hp, hab⟩
  simp [-List.map_map, own_ab]
  refine (dr pre c5 m 9 (by omega) (by omega)).bind ?_
  rintro _ _ ⟨c6, far, rfl, rfl, f0, f1⟩
  try simp [-List.map_map]
  refine (dr pre c6 m 14 (by omega) (by omega)).bind ?_
  rintro _ _ ⟨c7, w, rfl, rfl, w0, w1⟩
  try simp [-List.map_map]
  refine (dr pre c7 m 14 (by omega) (by omega)).bind ?_
  rintro _ _ ⟨c8, h, rfl, rfl, h0, h1⟩
  try simp [-List.map_map]
  refine (lw_keys_ok pre c8 m true).bind ?_
  rintro _ _ ⟨c9, gks, rfl, rfl, gks1, gks2⟩
  obtain ⟨gk1, gk2, gk3⟩ := keys_plain gks1 fun k hk => (gks2 k hk).1
  let g : Pane := mkG (6 + w) (6 + h) gks
  have hge : D.tup [.int 0, .non, .tup [.int 0, .int 0, .int (6 + w), .int (6 + h)], .int 0, .tup [], .tup (gks.map encKey)] = encPane g := rfl
  have hgo : PaneOk g := mkG_ok (by omega) (by omega) gk1 gk2 gk3
  have hgg : GroundOk g := ⟨rfl, rfl, rfl, rfl, rfl, rfl, fun k hk => (gks2 k hk).2 rfl⟩
  have hgb : (6 ≤ g.bw ∧ g.bw ≤ 19) ∧ (6 ≤ g.bh ∧ g.bh ≤ 19) := by
    show (6 ≤ 6 + w ∧ 6 + w ≤ 19) ∧ (6 ≤ 6 + h ∧ 6 + h ≤ 19)
    omega
  have hgk : (g.keys.map (·.1)).Sublist KEYS := gks1
  have hgm : g.marks.Sublist MARKS := List.nil_sublist _
  rw [hge]
  have hog : own (.lst [encPane g]) = .ow (.lst ([g].map encPane)) := own_panes [g]
  generalize D.tup [.int 0, .int 0, .int (6 + w), .int (6 + h)] = size
  generalize g = g at *
  obtain ⟨nt, hnt⟩ := hN.hd
  have hi := imms_ints names
  have hct : cutD (names.map D.int) (some 1) none = nt.map .int := by rw [hnt]; exact cut_tail 0 nt
  have hsl : ∀ st, dSl (.lst (names.map .int)) (some 1) none st = .ok (.lst (nt.map .int)) st := fun st => by
    simp only [dSl, hi, if_true, hct]
  have htl : names.tail = nt := by rw [hnt]; rfl
  have hntl : nt.length ≤ 11 := by
    rw [hnt, List.length_cons] at hnl
    omega
  have hpw2 := hN.pw
  rw [hnt, List.pairwise_cons] at hpw2
  have hnt0 : ∀ n ∈ nt, 0 ≤ n ∧ n ≤ 1000000 := fun n hn => ⟨hN.lo n (by rw [hnt]; exact List.mem_cons_of_mem _ hn), hN.hi n (by rw [hnt]; exact List.mem_cons_of_mem _ hn)⟩
  have habnd : (ab.map (·.1)).Nodup := hp.nodup_iff.mpr (by rw [htl]; exact hpw2.2.imp fun {a b} h => by omega)
  have hget : ∀ n ∈ nt, ∃ u, (n, u) ∈ ab ∧ dGet (ab.map encAb) (.inl n) = some (.int u) ∧ 0 ≤ u ∧ u ≤ 1000000 := fun n hn => by
    have hm : n ∈ ab.map (·.1) := hp.mem_iff.mpr (by rw [htl]; exact hn)
    obtain ⟨e, he, rfl⟩ := List.mem_map.mp hm
    refine ⟨e.2, he, ab_get habnd he, ?_⟩
    obtain ⟨i, hi, hq⟩ := List.getElem_of_mem he
    rcases hab i e.1 e.2 (by rw [List.getElem?_eq_getElem hi, hq]) with h | ⟨j, hj, u', hu'⟩
    · rw [h]; exact ⟨by decide, by decide⟩
    · have : e.2 ∈ ab.map (·.1) := List.mem_map_of_mem (f := (·.1)) (List.mem_of_getElem? hu')
      have h2 := hp.mem_iff.mp this
      rw [htl] at h2
      exact hnt0 _ h2
  simp [-List.map_map, hog, sFor, frz, iExp, hsl]
  refine (for_to nt D.int (PlanInv pre m names ab far size g) (st := penSt pre c9 m) ⟨c9, [], .un, .un, .un, .un, .un, rfl, rfl, rfl, fun p hp => by cases hp⟩ ?_).fin ?_
  · rintro done n more st env hd ⟨c', rest, x6, x7, x8, x9, x10, rfl, rfl, hr, hD⟩
    have hnm : n ∈ nt := by rw [hd]; simp
    obtain ⟨u, hu, hgu, hu0, hu1⟩ := hget n hnm
    obtain ⟨n0, n1⟩ := hnt0 n hnm
    have hrl : ((g :: rest).map encPane).length < 16777216 := by
      have e1 := congrArg List.length hr
      have e2 := congrArg List.length hd
      simp at e1 e2 ⊢
      omega
    refine ⟨_, rfl, ?_⟩
    have hpush : ∀ q : Pane, (g :: rest).map encPane ++ [encPane q] = (g :: (rest ++ [q])).map encPane := fun q => by simp
    generalize hGL : (g :: rest).map encPane = GL at *
    simp [-List.map_map, hpw, dNeg]
    refine (dr pre c' m 5 (by omega) (by omega)).stm ?_
    rintro _ _ ⟨d1, t1, rfl, rfl, t10, t11⟩
    simp [-List.map_map, dSub]
    refine (dr pre d1 m 5 (by omega) (by omega)).stm ?_
    rintro _ _ ⟨d2, t2, rfl, rfl, t20, t21⟩
    obtain ⟨tn, htn, htx⟩ := ix5 (.int 0) (.int 0) (.int (t1 - 2)) (.int 1000000) (.int (-1000000)) t2 t20 t21 (penSt pre d2 m)
    have htt : ∃ t : Int, tn = .int t ∧ Lw.far t = true := by
      rcases htn with rfl | rfl | rfl | rfl | ⟨rfl, _⟩
      · exact ⟨_, rfl, rfl⟩
      · exact ⟨_, rfl, rfl⟩
      · exact ⟨_, rfl, far_of (by omega)⟩
      · exact ⟨_, rfl, rfl⟩
      · exact ⟨_, rfl, rfl⟩
    obtain ⟨t, rfl, ht⟩ := htt
    simp [-List.map_map, htx, sSets, setsGo]
    refine (lw_box_ok pre d2 m).stm ?_
    rintro _ _ ⟨d3, bl, bt, bw, bh, rfl, rfl, hb1, hb2, hb3, hb4⟩
    simp [-List.map_map, dIx, keyOf, hgu]
    refine (lw_marks_ok pre d3 m u).stm ?_
    rintro _ _ ⟨d4, ms, rfl, rfl, hms, hsh⟩
    obtain ⟨m1, m2, m3⟩ := marks_plain hms
    have himm : D.imm (.tup (ms.map .str)) = true := by simp [List.all_map, Function.comp_def, List.all_eq_true]
    -- the last two steps, whatever the box
    have key : ∀ (c8 : Int) (l t' w' h' : Int) (y10 : Sl), Lw.far l = true → Lw.far t' = true → side w' = true → side h' = true →
        (sApp 5 (eTup (aCons (eImm (eVar 6)) (aCons (eImm (eIx (eVar 2) (eVar 6))) (aCons (eImm (eVar 8)) (aCons (eImm (eVar 7)) (aCons (eImm (eVar 9)) (aCons (eCall F__law_keys (aCons (eVar 0) (aCons (eC (.bl false)) aNil))) aNil))))))) (penSt pre c8 m)
          [.vl (.obj pre.length), .ow (.lst (names.map .int)), .ow (.dct (ab.map encAb)), .vl (.int far), .vl size, .ow (.lst GL), .vl (.int n), .vl (.int t), .vl (.tup [.int l, .int t', .int w', .int h']), .vl (.tup (ms.map .str)), y10]).To (PlanInv pre m names ab far size g (done ++ [n])) := by
      intro c8 l t' w' h' y10 hl ht' hw hh
      simp [-List.map_map, -imm_tup, x_App, ownL, dIx, keyOf, hgu, himm]
      try simp
      refine (lw_keys_ok pre c8 m false).stm ?_
      rintro _ _ ⟨c10, ks, rfl, rfl, ks1, ks2⟩
      obtain ⟨q1, q2, q3⟩ := keys_plain ks1 fun k hk => (ks2 k hk).1
      simp [-List.map_map, hrl]
      let q : Pane := ⟨n, some u, l, t', w', h', t, ms, ks⟩
      have hq : D.tup [.int n, .int u, .tup [.int l, .int t', .int w', .int h'], .int t, .tup (ms.map .str), .tup (ks.map encKey)] = encPane q := rfl
      rw [hq, hpush]
      refine ⟨_, _, rfl, c10, rest ++ [q], _, _, _, _, _, rfl, rfl, by rw [List.map_append, hr]; rfl, fun p hp => ?_⟩
      rcases List.mem_append.mp hp with hp | hp
      · exact hD p hp
      · rw [List.mem_singleton] at hp
        subst hp
        exact ⟨⟨⟨n0, n1⟩, fun v hv => by cases hv; exact ⟨hu0, hu1⟩, hl, ht', hw, hh, ht, m1, m2, m3, q1, q2, q3⟩, ⟨u, rfl, hu, hsh⟩, ks1, hms⟩
    by_cases hf : far = 0
    · subst hf
      simp [-List.map_map, -imm_tup, dEq]
      refine (dr pre d4 m 3 (by omega) (by omega)).stm ?_
      rintro _ _ ⟨d5, e, rfl, rfl, e0, e1⟩
      by_cases he : e = 0
      · subst he
        simp [-List.map_map, -imm_tup, hpw, dNeg]
        try simp
        refine (dr pre d5 m 2 (by omega) (by omega)).stm ?_
        rintro _ _ ⟨d6, f, rfl, rfl, f20, f21⟩
        have hff : f = 0 ∨ f = 1 := by omega
        rcases hff with rfl | rfl
        · have k := key d6 0 1000000 1 1000000 (.vl (.int 1000000)) rfl rfl rfl rfl
          simp [-List.map_map, L2.atI, L2.ixN]
          exact k
        · have k := key d6 (-1000000) (-1000000) 1000000 1000000 (.vl (.int 1000000)) rfl rfl rfl rfl
          simp [-List.map_map, L2.atI, L2.ixN]
          exact k
      · have k := key d5 bl bt bw bh x10 (far_of (by omega)) (far_of (by omega)) (side_of (by omega)) (side_of (by omega))
        simp [-List.map_map, -imm_tup, he]
        exact k
    · have k := key d4 bl bt bw bh x10 (far_of (by omega)) (far_of (by omega)) (side_of (by omega)) (side_of (by omega))
      simp [-List.map_map, -imm_tup, dEq, hf]
      exact k
  · rintro st env ⟨c', rest, x6, x7, x8, x9, x10, rfl, rfl, hr, hD⟩
    have hi : D.imms ((g :: rest).map encPane) = true := by simp [List.all_map, Function.comp_def, List.all_eq_true]
    have ht : dTuple (.lst ((g :: rest).map encPane)) (penSt pre c' m) = .ok (encPlan (g :: rest)) (penSt pre c' m) := by
      simp only [dTuple, hi, if_true]
      rfl
    have hrl : rest.length ≤ 11 := by
      have e1 := congrArg List.length hr
      simp at e1
      omega
    obtain ⟨r, hP⟩ := drawn_plan hN hgg hgo hab hp (by rw [hr, htl]) hD (by omega)
    simp [-List.map_cons, ht]
    refine ⟨_, _, rfl, c', g, rest, r, rfl, rfl, hP, hgb.1, hgb.2, hrl, fun p hp => ?_, fun p hp => ?_⟩
    · rcases List.mem_cons.mp hp with rfl | hp
      · exact hgk
      · exact (hD p hp).ks
    · rcases List.mem_cons.mp hp with rfl | hp
      · exact hgm
      · exact (hD p hp).ms
end Lw
end
section
set_option maxRecDepth 100000
set_option linter.all false
set_option Elab.async false
set_option maxHeartbeats 1000000
namespace Lw
open PySem Dl
/-! ### places -/
theorem ix_box (p : Pane) (st : Store) : dIx (encPane p) (.int 2) st = .ok (.tup [.int p.bx, .int p.byy, .int p.bw, .int p.bh]) st := by simp [dIx, encPane, L2.atI, L2.ixN]
theorem ixb0 (a b c d : D) (st : Store) : dIx (.tup [a, b, c, d]) (.int 0) st = .ok a st := by simp [dIx, L2.atI, L2.ixN]
theorem ixb1 (a b c d : D) (st : Store) : dIx (.tup [a, b, c, d]) (.int 1) st = .ok b st := by simp [dIx, L2.atI, L2.ixN]
theorem ixb2 (a b c d : D) (st : Store) : dIx (.tup [a, b, c, d]) (.int 2) st = .ok c st := by simp [dIx, L2.atI, L2.ixN]
theorem ixb3 (a b c d : D) (st : Store) : dIx (.tup [a, b, c, d]) (.int 3) st = .ok d st := by simp [dIx, L2.atI, L2.ixN]
def sumL (f : Pane → Int) (ps : List Pane) : List Int → Int
  | [] => 0
  | n :: r => sumL f ps r + f (pn ps n)
theorem sumL_snoc (f : Pane → Int) (ps : List Pane) (n : Int) : ∀ l : List Int, sumL f ps (l ++ [n]) = sumL f ps l + f (pn ps n)
  | [] => by simp [sumL]
  | a :: r => by
    rw [List.cons_append, sumL, sumL, sumL_snoc f ps n r]
    omega
def lexR (a b : Bool × Int) : Bool := (!a.1 && b.1) || (a.1 == b.1 && decide (a.2 < b.2))
def stepR (b : Option (Bool × Int)) (r : Bool × Int) : Option (Bool × Int) := match b with
  | none => some r
  | some q => if lexR q r = true then some r else some q
def bestR (l : List (Bool × Int)) : Option (Bool × Int) := l.foldl stepR none
theorem bestR_snoc (r : Bool × Int) (l : List (Bool × Int)) : bestR (l ++ [r]) = stepR (bestR l) r := by
  unfold bestR
  rw [List.foldl_append]
  rfl
section
variable {ps : List Pane} {up : Int → List Int} (P : PlanA ps up) (st : Store)
include P
def placeX (ps : List Pane) (up : Int → List Int) (n : Int) : Int := sumL (·.bx) ps (up n)
def placeY (ps : List Pane) (up : Int → List Int) (n : Int) : Int := sumL (·.byy) ps (up n)
theorem placed_ok (p : Pane) (hp : p ∈ ps) : F_placed st [encPlan ps, .int p.nm] = .ok (.tup [.int (placeX ps up p.nm), .int (placeY ps up p.nm), .int p.bw, .int p.bh]) st := by
  have h0 := lives P st p hp
  have k2 := the_pane_ok st P.r hp
  simp [F_placed, B_placed, runFn_fin, sFor, frz, iExp, h0]
  obtain ⟨st', env', hf, rfl, x4, x5, rfl⟩ := for_inv (up p.nm) D.int (g := .one 4) (st := st) (B := sSeq (sSet 5 (eImm (eIx (eCall F_the_pane (aCons (eVar 0) (aCons (eVar 4) aNil))) (eC (.int 2)))))
    (sSeq (sSet 2 (eAdd (eVar 2) (eIx (eVar 5) (eC (.int 0)))))
    (sSet 3 (eAdd (eVar 3) (eIx (eVar 5) (eC (.int 1)))))))
    (fun done st' env => st = st' ∧ ∃ x4 x5, env = [.vl (encPlan ps), .vl (.int p.nm), .vl (.int (sumL (·.bx) ps done)), .vl (.int (sumL (·.byy) ps done)), x4, x5, .un])
    (env := [.vl (encPlan ps), .vl (.int p.nm), .vl (.int 0), .vl (.int 0), .un, .un, .un]) ⟨rfl, .un, .un, rfl⟩
    (by
      rintro done n rest st' env hd ⟨rfl, x4, x5, rfl⟩
      obtain ⟨q, hq, rfl⟩ := (P.anc p hp).mem n (by rw [hd]; simp)
      have k1 := the_pane_ok st P.r hq
      refine ⟨_, rfl, st, _, ?_, rfl, .vl (.int q.nm), .vl (.tup [.int q.bx, .int q.byy, .int q.bw, .int q.bh]), rfl⟩
      simp [k1, ix_box, ixb0, ixb1, dAdd, sumL_snoc, pn_of P.r.nd hq])
  rw [hf]
  simp [k2, ix_box, ixb2, ixb3]
  exact ⟨rfl, rfl⟩
def inBox (l t w h x y : Int) : Bool := decide (l ≤ x) && decide (x < l + w) && (decide (t ≤ y) && decide (y < t + h))
omit P in
theorem has_point_ok (l t w h x y : Int) : F_has_point st [.tup [.int l, .int t, .int w, .int h], .int x, .int y] = .ok (.bl (inBox l t w h x y)) st := by
  unfold inBox
  by_cases h1 : l ≤ x <;> by_cases h2 : x < l + w <;> by_cases h3 : t ≤ y <;> simp [F_has_point, B_has_point, runFn_fin, ixb0, ixb1, ixb2, ixb3, eChain, cmI, Cm.int, dAdd, h1, h2, h3]
/-- the point lies in a pane's place -/
def inPl (ps : List Pane) (up : Int → List Int) (x y n : Int) : Bool := inBox (placeX ps up n) (placeY ps up n) (pn ps n).bw (pn ps n).bh x y
def sheetB (p : Pane) : Bool := decide (Str.ofString "sheet" ∈ p.marks)
def hidB (p : Pane) : Bool := decide (Str.ofString "hidden" ∈ p.marks)
def rankO : Option (Bool × Int) → D
  | none => .non
  | some r => .tup [.bl r.1, .int r.2]
/-- parts of a pane at a point -/
def cand (ps : List Pane) (up : Int → List Int) (n x y : Int) (p : Pane) : Bool := decide (p.up = some n) && (!hidB p && inPl ps up x y p.nm)
omit P in
theorem dl_ri (a b : Bool) (i j : Int) : PySem.W.dataLt (.tuple [.bool a, .int i]) (.tuple [.bool b, .int j]) = lexR (a, i) (b, j) := by
  cases a <;> cases b <;> simp [lexR, PySem.W.dataLt, PySem.W.keyToks, PySem.W.keyToksAll, PyProof.Rows.lexLt, PyProof.Rows.itemOrd, PyProof.Rows.itemLt]
  all_goals
    rw [Bool.eq_iff_iff]
    simp
    try omega
omit P in
theorem gt_rank (a b : Bool × Int) : cmD .gt (.tup [.bl a.1, .int a.2]) (.tup [.bl b.1, .int b.2]) st = .ok (.bl (lexR b a)) st := by
  have h := dl_ri b.1 a.1 b.2 a.2
  simp [cmD, cmDat, D.pys, PySem.W.alike, PySem.W.alikeAll, PyData.depth, PyData.depthAll, Cm.dat, h]
def ranks (ps : List Pane) (up : Int → List Int) (n x y : Int) (l : List Pane) : List (Bool × Int) := (l.filter (cand ps up n x y)).map fun p => (sheetB p, p.nm)
theorem uppermost_ok (n x y : Int) : F_uppermost st [encPlan ps, .int n, .int x, .int y] = .ok (encUp ((bestR (ranks ps up n x y ps)).map (·.2))) st := by
  simp [F_uppermost, B_uppermost, runFn_fin]
  rw [forV_eq (by simp [frz, vlOf, isDct, encPlan])]
  simp only [sFor]
  have hit : iVar 0 st (frz [0] [.vl (encPlan ps), .vl (.int n), .vl (.int x), .vl (.int y), .vl .non, .un, .un]) = .ok (ps.map encPane) st := iVar_tup _ _ _ _ rfl
  rw [hit]
  simp [frz]
  obtain ⟨st', env', hf, rfl, x5, x6, rfl⟩ := for_inv ps encPane (g := .one 5) (st := st) (B := sIf (Dl.tAnd (tVal (eEq false (eIx (eVar 5) (eC (.int 1))) (eVar 1))) (Dl.tAnd (tVal (eIn true (eC (.str (Str.ofString "hidden"))) (eIx (eVar 5) (eC (.int 4))))) (tTruth (eCall F_has_point (aCons (eCall F_placed (aCons (eVar 0) (aCons (eIx (eVar 5) (eC (.int 0))) aNil))) (aCons (eVar 2) (aCons (eVar 3) aNil))))))) (sSeq (sSet 6 (eTup (aCons (eIn false (eC (.str (Str.ofString "sheet"))) (eIx (eVar 5) (eC (.int 4)))) (aCons (eImm (eIx (eVar 5) (eC (.int 0)))) aNil))))
      (sIf (Dl.tOr (tVal (eIsN false (eVar 4))) (tVal (eCm .gt (eVar 6) (eVar 4)))) (sSet 4 (eImm (eVar 6))) sPass)) sPass)
    (fun done st' env => st = st' ∧ ∃ x5 x6, env = [.vl (encPlan ps), .vl (.int n), .vl (.int x), .vl (.int y), .vl (rankO (bestR (ranks ps up n x y done))), x5, x6])
    (env := [.vl (encPlan ps), .vl (.int n), .vl (.int x), .vl (.int y), .vl .non, .un, .un]) ⟨rfl, .un, .un, rfl⟩
    (by
      rintro done p rest st' env hd ⟨rfl, x5, x6, rfl⟩
      have hp : p ∈ ps := by rw [hd]; simp
      have k1 := placed_ok P st p hp
      have k3 : inPl ps up x y p.nm = inBox (placeX ps up p.nm) (placeY ps up p.nm) p.bw p.bh x y := by unfold inPl; rw [pn_of P.r.nd hp]
      have k2 := has_point_ok st (placeX ps up p.nm) (placeY ps up p.nm) p.bw p.bh x y
      rw [← k3] at k2
      by_cases hc : cand ps up n x y p = true
      · have hr : ranks ps up n x y (done ++ [p]) = ranks ps up n x y done ++ [(sheetB p, p.nm)] := by
          unfold ranks
          rw [List.filter_append, List.filter_cons_of_pos hc, List.map_append]; rfl
        have hc' := hc
        unfold cand hidB at hc'
        rw [Bool.and_eq_true, Bool.and_eq_true, decide_eq_true_eq] at hc'
        obtain ⟨h1, h2, h3⟩ := hc'
        have h2' : decide (Str.ofString "hidden" ∈ p.marks) = false := by simpa using h2
        rw [h3] at k2
        refine ⟨_, rfl, st, [.vl (encPlan ps), .vl (.int n), .vl (.int x), .vl (.int y), .vl (rankO (bestR (ranks ps up n x y (done ++ [p])))), .vl (encPane p), .vl (.tup [.bl (sheetB p), .int p.nm])], ?_, rfl, _, _, rfl⟩
        rw [hr, bestR_snoc]
        unfold stepR
        cases hb : bestR (ranks ps up n x y done) with
        | none => simp [ix_up, ix_marks, ix_nm, h1, encUp, dEq, h2', k1, k2, D.truth, rankO, dIsN, D.isNon, sheetB]
        | some q =>
          have hg := gt_rank st (sheetB p, p.nm) q
          cases hl : lexR q (sheetB p, p.nm) with
          | true =>
            rw [hl] at hg
            simp [ix_up, ix_marks, ix_nm, h1, encUp, dEq, h2', k1, k2, D.truth, rankO, dIsN, D.isNon]
            simp only [sheetB] at hg hl ⊢
            simp [hg, hl, rankO]
          | false =>
            rw [hl] at hg
            simp [ix_up, ix_marks, ix_nm, h1, encUp, dEq, h2', k1, k2, D.truth, rankO, dIsN, D.isNon]
            simp only [sheetB] at hg hl ⊢
            simp [hg, hl, rankO]
      · have hr : ranks ps up n x y (done ++ [p]) = ranks ps up n x y done := by
          unfold ranks
          rw [List.filter_append, List.filter_cons_of_neg hc, List.filter_nil, List.append_nil]
        refine ⟨_, rfl, st, [.vl (encPlan ps), .vl (.int n), .vl (.int x), .vl (.int y), .vl (rankO (bestR (ranks ps up n x y (done ++ [p])))), .vl (encPane p), x6], ?_, rfl, _, _, rfl⟩
        rw [hr]
        by_cases h1 : p.up = some n
        · cases h2 : decide (Str.ofString "hidden" ∈ p.marks) with
          | true => simp [ix_up, ix_marks, ix_nm, h1, encUp, dEq, h2]
          | false =>
            have h3 : inPl ps up x y p.nm = false := by
              unfold cand hidB at hc
              simp only [h1, decide_true, h2, Bool.not_false, Bool.true_and] at hc
              simpa using hc
            rw [h3] at k2
            simp [ix_up, ix_marks, ix_nm, h1, encUp, dEq, h2, k1, k2, D.truth]
        · simp [ix_up, up_eq, h1])
  rw [hf]
  cases hb : bestR (ranks ps up n x y ps) with
  | none => simp [rankO, dIsN, D.isNon, encUp]
  | some q => simp [rankO, dIsN, D.isNon, encUp, dIx, L2.atI, L2.ixN]
end
end Lw
end
section
set_option maxRecDepth 100000
set_option linter.all false
set_option Elab.async false
set_option maxHeartbeats 1000000
namespace Lw
open PySem Dl
/-! ### the pane at a point -/
theorem lexR_total (a b : Bool × Int) (h1 : lexR a b = false) (h2 : lexR b a = false) : a = b := by
  obtain ⟨a1, a2⟩ := a
  obtain ⟨b1, b2⟩ := b
  unfold lexR at h1 h2
  cases a1 <;> cases b1 <;> simp at h1 h2 ⊢ <;> omega
theorem lexR_asy (a b : Bool × Int) (h1 : lexR a b = true) : lexR b a = false := by
  obtain ⟨a1, a2⟩ := a
  obtain ⟨b1, b2⟩ := b
  unfold lexR at *
  cases a1 <;> cases b1 <;> simp at h1 ⊢ <;> omega
theorem lexR_tr (a b c : Bool × Int) (h1 : lexR b a = false) (h2 : lexR c b = false) : lexR c a = false := by
  obtain ⟨a1, a2⟩ := a
  obtain ⟨b1, b2⟩ := b
  obtain ⟨c1, c2⟩ := c
  unfold lexR at *
  cases a1 <;> cases b1 <;> cases c1 <;> simp at h1 h2 ⊢ <;> omega
theorem bestR_max : ∀ (n : Nat) (l : List (Bool × Int)), l.length = n → (l = [] ∧ bestR l = none) ∨ ∃ r, r ∈ l ∧ bestR l = some r ∧ ∀ q ∈ l, lexR r q = false
  | 0, l, h => .inl ⟨List.eq_nil_of_length_eq_zero h, by rw [List.eq_nil_of_length_eq_zero h]; rfl⟩
  | n + 1, l, h => by
    have hne : l ≠ [] := by intro e; subst e; simp at h
    have hl : l = l.dropLast ++ [l.getLast hne] := (List.dropLast_concat_getLast hne).symm
    have hd : l.dropLast.length = n := by rw [List.length_dropLast]; omega
    generalize l.dropLast = d at hl hd
    generalize l.getLast hne = a at hl
    subst hl
    refine .inr ?_
    rw [bestR_snoc]
    rcases bestR_max n d hd with ⟨rfl, hb⟩ | ⟨r, h1, h2, h3⟩
    · rw [hb]
      refine ⟨a, by simp, rfl, fun q hq => ?_⟩
      simp at hq
      subst hq
      cases e : lexR q q with
      | true => have := lexR_asy q q e; rw [e] at this; cases this
      | false => rfl
    · rw [h2]
      unfold stepR
      cases e : lexR r a with
      | true =>
        refine ⟨a, by simp, by simp [e], fun q hq => ?_⟩
        rcases List.mem_append.mp hq with hq | hq
        · exact lexR_tr q r a (h3 q hq) (lexR_asy r a e)
        · rw [List.mem_singleton] at hq
          subst hq
          cases e' : lexR q q with
          | true => have := lexR_asy q q e'; rw [e'] at this; cases this
          | false => rfl
      | false =>
        refine ⟨r, List.mem_append_left _ h1, by simp [e], fun q hq => ?_⟩
        rcases List.mem_append.mp hq with hq | hq
        · exact h3 q hq
        · rw [List.mem_singleton] at hq
          subst hq
          exact e
def leR (a b : Bool × Int) : Bool := !lexR b a
def encR (r : Bool × Int) : D := .tup [.bl r.1, .int r.2]
theorem sort_last (R : List (Bool × Int)) : (R.mergeSort leR).getLast? = bestR R := by
  have hp := List.mergeSort_perm R leR
  have hs := List.pairwise_mergeSort (le := leR) (fun a b c h1 h2 => by
    unfold leR at *
    rw [Bool.not_eq_true'] at *
    exact lexR_tr a b c h1 h2) (fun a b => by
    unfold leR
    cases e : lexR b a with
    | false => rfl
    | true => rw [lexR_asy b a e]; rfl) R
  rcases bestR_max _ R rfl with ⟨rfl, hb⟩ | ⟨r, h1, h2, h3⟩
  · rw [hb, List.mergeSort_nil]; rfl
  · rw [h2]
    generalize R.mergeSort leR = S at *
    have hne : S ≠ [] := by
      intro e
      subst e
      exact absurd (hp.symm.mem_iff.mp h1) List.not_mem_nil
    have hl : S = S.dropLast ++ [S.getLast hne] := (List.dropLast_concat_getLast hne).symm
    generalize S.dropLast = d at hl
    generalize S.getLast hne = a at hl
    subst hl
    rw [List.getLast?_append, List.getLast?_singleton]
    have ha : a ∈ R := hp.mem_iff.mp (by simp)
    have hr : r ∈ d ++ [a] := hp.symm.mem_iff.mp h1
    have e1 := h3 a ha
    have e2 : lexR a r = false := by
      rcases List.mem_append.mp hr with hr | hr
      · have := (List.pairwise_append.mp hs).2.2 r hr a (by simp)
        unfold leR at this
        simpa using this
      · rw [List.mem_singleton] at hr
        subst hr
        exact e1
    rw [lexR_total r a e1 e2]
    rfl
theorem pyD_encR (r : Bool × Int) : pyD (encR r) = .tuple [.bool r.1, .int r.2] := by simp [pyD, encR, D.py, D.pys]
theorem leD_encR (a b : Bool × Int) : leD (encR a) (encR b) = leR a b := by
  unfold leD leR
  rw [PySem.W.dataLe_eq]
  show (!PySem.W.dataLt (pyD (encR b)) (pyD (encR a))) = _
  rw [pyD_encR, pyD_encR, dl_ri]
theorem srtOk_ranks (R : List (Bool × Int)) : srtOk (R.map encR) = true := by
  unfold srtOk
  rw [Bool.and_eq_true]
  refine ⟨by simp [List.all_map, Function.comp_def, List.all_eq_true, encR], ?_⟩
  rw [List.all_eq_true]
  intro d hd
  obtain ⟨r, hr, rfl⟩ := List.mem_map.mp hd
  rw [Bool.and_eq_true, Bool.and_eq_true, Bool.and_eq_true, List.all_eq_true]
  refine ⟨⟨⟨rfl, by simp [encR, D.py, D.pys]⟩, ?_⟩, fun e he => ?_⟩
  · rw [pyD_encR]; simp [PyData.depth, PyData.depthAll]
  · obtain ⟨q, hq, rfl⟩ := List.mem_map.mp he
    rw [pyD_encR, pyD_encR]
    simp [PySem.W.alike, PySem.W.alikeAll]
theorem sorted_ranks (R : List (Bool × Int)) (st : Store) : dSorted (.lst (R.map encR)) st = .ok (.lst ((R.mergeSort leR).map encR)) st := by
  cases hR : R with
  | nil => rw [List.mergeSort_nil]; rfl
  | cons a r =>
    have h := srtOk_ranks (a :: r)
    have e1 : intsOf ((a :: r).map encR) = none := rfl
    have e2 : strsOf ((a :: r).map encR) = none := rfl
    have e3 : Dl.pairsOf ((a :: r).map encR) = none := rfl
    unfold dSorted
    simp only [e1, e2, e3, h, if_true]
    rw [← List.map_mergeSort (r := leR) (fun x _ y _ => (leD_encR x y).symm)]
theorem own_encR (R : List (Bool × Int)) : own (.lst (R.map encR)) = .ow (.lst (R.map encR)) := by
  have hi : D.imms (R.map encR) = true := by simp [List.all_map, Function.comp_def, List.all_eq_true, encR]
  show (if D.imms (R.map encR) = true then Sl.ow _ else Sl.vl _) = _
  rw [if_pos hi]
/-- going inward as long as there is a part -/
inductive Desc (f : Int → Option Int) : Int → Int → Prop
  | stop {n : Int} : f n = none → Desc f n n
  | step {n c e : Int} : f n = some c → Desc f c e → Desc f n e
theorem Desc.uniq {f : Int → Option Int} {n e : Int} (h : Desc f n e) : ∀ {e' : Int}, Desc f n e' → e = e' := by
  induction h with
  | stop h =>
    intro e' h'
    cases h' with
    | stop _ => rfl
    | step h2 _ => rw [h] at h2; cases h2
  | step h _ ih =>
    intro e' h'
    cases h' with
    | stop h2 => rw [h] at h2; cases h2
    | step h2 h3 => rw [h] at h2; cases h2; exact ih h3
def bestC (ps : List Pane) (up : Int → List Int) (x y n : Int) : Option Int := (bestR (ranks ps up n x y ps)).map (·.2)
def Found (ps : List Pane) (up : Int → List Int) (x y : Int) (o : Option Int) : Prop := (inPl ps up x y 0 = false ∧ o = none) ∨ (inPl ps up x y 0 = true ∧ ∃ e, o = some e ∧ Desc (bestC ps up x y) 0 e)
theorem Found.uniq {ps : List Pane} {up : Int → List Int} {x y : Int} {o o' : Option Int} (h : Found ps up x y o) (h' : Found ps up x y o') : o = o' := by
  rcases h with ⟨h1, rfl⟩ | ⟨h1, e, rfl, hd⟩ <;> rcases h' with ⟨h2, rfl⟩ | ⟨h2, e', rfl, hd'⟩
  · rfl
  · rw [h1] at h2; cases h2
  · rw [h1] at h2; cases h2
  · rw [hd.uniq hd']
theorem bestC_part {ps : List Pane} {up : Int → List Int} {x y n c : Int} (h : bestC ps up x y n = some c) : ∃ p ∈ ps, p.nm = c ∧ p.up = some n ∧ inPl ps up x y c = true := by
  unfold bestC at h
  rw [Option.map_eq_some_iff] at h
  obtain ⟨r, hr, rfl⟩ := h
  rcases bestR_max _ (ranks ps up n x y ps) rfl with ⟨_, hb⟩ | ⟨q, h1, h2, _⟩
  · rw [hb] at hr; cases hr
  · rw [h2] at hr
    cases hr
    unfold ranks at h1
    obtain ⟨p, hp, rfl⟩ := List.mem_map.mp h1
    obtain ⟨hp, hc⟩ := List.mem_filter.mp hp
    unfold cand at hc
    rw [Bool.and_eq_true, Bool.and_eq_true, decide_eq_true_eq] at hc
    exact ⟨p, hp, rfl, hc.1, hc.2.2⟩
section
variable {ps : List Pane} {up : Int → List Int} (P : PlanA ps up) (st : Store)
include P
theorem found_ok (hz : ∃ p ∈ ps, p.nm = 0) (x y : Int) : ∃ o, F_found_at st [encPlan ps, .int x, .int y] = .ok (encUp o) st ∧ Found ps up x y o ∧ ∀ n, o = some n → ∃ p ∈ ps, p.nm = n := by
  obtain ⟨g, hg, hg0⟩ := hz
  have k1 := placed_ok P st g hg
  have k2 := has_point_ok st (placeX ps up g.nm) (placeY ps up g.nm) g.bw g.bh x y
  have k3 : inPl ps up x y g.nm = inBox (placeX ps up g.nm) (placeY ps up g.nm) g.bw g.bh x y := by unfold inPl; rw [pn_of P.r.nd hg]
  rw [← k3, hg0] at k2
  rw [hg0] at k1
  cases h0 : inPl ps up x y 0 with
  | false =>
    rw [h0] at k2
    exact ⟨none, by simp [F_found_at, B_found_at, runFn_fin, k1, k2, D.truth, encUp], .inl ⟨h0, rfl⟩, fun n h => by cases h⟩
  | true =>
    rw [h0] at k2
    have ou : ∀ n, own (encUp (bestC ps up x y n)) = .vl (encUp (bestC ps up x y n)) := fun n => by cases bestC ps up x y n <;> rfl
    have hup := fun n => uppermost_ok P st n x y
    have hw := fun n => (hup n).trans (show Out.ok (encUp ((bestR (ranks ps up n x y ps)).map (·.2))) st = .ok (encUp (bestC ps up x y n)) st from rfl)
    obtain ⟨st', env', hwl, rfl, e, hd, he, rfl⟩ := while_inv (T := tVal (eIsN true (eVar 4))) (B := sSeq (sSet 3 (eImm (eVar 4)))
    (sSet 4 (eCall F_uppermost (aCons (eVar 0) (aCons (eVar 3) (aCons (eVar 1) (aCons (eVar 2) aNil)))))))
      (fun k st' env => st = st' ∧ ∃ n, (∀ e, Desc (bestC ps up x y) n e → Desc (bestC ps up x y) 0 e) ∧ (∃ p ∈ ps, p.nm = n) ∧ k = 1001 - (up n).length ∧ env = [.vl (encPlan ps), .vl (.int x), .vl (.int y), .vl (.int n), .vl (encUp (bestC ps up x y n))])
      (fun st' env => st = st' ∧ ∃ e, Desc (bestC ps up x y) 0 e ∧ (∃ p ∈ ps, p.nm = e) ∧ env = [.vl (encPlan ps), .vl (.int x), .vl (.int y), .vl (.int e), .vl .non])
      (by
        rintro k st' env ⟨rfl, n, hD, hn, rfl, rfl⟩
        cases hb : bestC ps up x y n with
        | none => exact .inl ⟨st, by simp [dIsN, D.isNon, encUp], rfl, n, hD n (.stop hb), hn, rfl⟩
        | some c =>
          obtain ⟨p, hp, hpn, hpu, _⟩ := bestC_part hb
          have hl := (up_step P hp hpu).2
          have hll := P.len p hp
          rw [hpn] at hl hll
          refine .inr ⟨st, by simp [dIsN, D.isNon, encUp], 1001 - (up c).length, st, [.vl (encPlan ps), .vl (.int x), .vl (.int y), .vl (.int c), .vl (encUp (bestC ps up x y c))], ?_, ?_, rfl, c, fun e h => hD e (.step hb h), ⟨p, hp, hpn⟩, rfl, rfl⟩
          · have ec : encUp (some c) = .int c := rfl
            simp [ec, hw c, ou]
          · rw [hl, List.length_cons] at hll ⊢
            omega)
      (n := 1001 - (up 0).length) (st := st) (env := [.vl (encPlan ps), .vl (.int x), .vl (.int y), .vl (.int 0), .vl (encUp (bestC ps up x y 0))]) (by omega) ⟨rfl, 0, fun e h => h, ⟨g, hg, hg0⟩, rfl, rfl⟩
    refine ⟨some e, ?_, .inr ⟨h0, e, rfl, hd⟩, fun n h => by cases h; exact he⟩
    show _ = Out.ok (D.int e) st
    simp [F_found_at, B_found_at, runFn_fin, k1, k2, D.truth, hw 0, ou, hwl]
end
end Lw
end
section
set_option maxRecDepth 100000
set_option linter.all false
set_option Elab.async false
set_option maxHeartbeats 1000000
namespace Lw
open PySem Dl
/-! ### the law's own: spans, the pane at a point -/
/-- from the ground on: where a pane lies, what is seen of it -/
def spanF (b w : Pane → Int) (ps : List Pane) : List Int → Int × Option (Int × Int)
  | [] => (0, none)
  | n :: r => ((spanF b w ps r).1 + b (pn ps n), some (match (spanF b w ps r).2 with
    | none => ((spanF b w ps r).1 + b (pn ps n), (spanF b w ps r).1 + b (pn ps n) + w (pn ps n))
    | some (lo, hi) => (if (spanF b w ps r).1 + b (pn ps n) > lo then (spanF b w ps r).1 + b (pn ps n) else lo, if (spanF b w ps r).1 + b (pn ps n) + w (pn ps n) < hi then (spanF b w ps r).1 + b (pn ps n) + w (pn ps n) else hi)))
theorem spanF_sum (b w : Pane → Int) (ps : List Pane) : ∀ l, (spanF b w ps l).1 = sumL b ps l
  | [] => rfl
  | n :: r => by
    rw [spanF, sumL, spanF_sum b w ps r]
/-- x lies in the spans of all of them -/
def inAll (b w : Pane → Int) (ps : List Pane) (x : Int) : List Int → Prop
  | [] => True
  | n :: r => inAll b w ps x r ∧ sumL b ps (n :: r) ≤ x ∧ x < sumL b ps (n :: r) + w (pn ps n)
theorem spanF_in (b w : Pane → Int) (ps : List Pane) (x : Int) : ∀ (l : List Int), l ≠ [] → ∃ lo hi, (spanF b w ps l).2 = some (lo, hi) ∧ ((lo ≤ x ∧ x < hi) ↔ inAll b w ps x l)
  | [], h => absurd rfl h
  | [n], _ => ⟨_, _, rfl, by simp [inAll, spanF, sumL]⟩
  | n :: m :: r, _ => by
    obtain ⟨lo, hi, h1, h2⟩ := spanF_in b w ps x (m :: r) (by simp)
    rw [spanF, h1]
    refine ⟨_, _, rfl, ?_⟩
    rw [inAll, ← h2, sumL, spanF_sum]
    constructor
    · rintro ⟨h3, h4⟩
      split at h3 <;> split at h4 <;> omega
    · rintro ⟨⟨h3, h4⟩, h5, h6⟩
      split <;> split <;> omega
def encO1 : Option (Int × Int) → D
  | none => .non
  | some p => .int p.1
def encO2 : Option (Int × Int) → D
  | none => .non
  | some p => .int p.2
section
variable {ps : List Pane} {up : Int → List Int} (P : PlanA ps up) (st : Store)
include P
theorem span_ok (b w : Pane → Int) (s : Int) (hb : ∀ (p : Pane) st, dIx (.tup [.int p.bx, .int p.byy, .int p.bw, .int p.bh]) (.int s) st = .ok (.int (b p)) st) (hw : ∀ (p : Pane) st, dIx (.tup [.int p.bx, .int p.byy, .int p.bw, .int p.bh]) (.int (s + 2)) st = .ok (.int (w p)) st)
    (p : Pane) (hp : p ∈ ps) : F__law_span st [encPlan ps, .int p.nm, .int s] = .ok (.tup [encO1 (spanF b w ps (up p.nm)).2, encO2 (spanF b w ps (up p.nm)).2]) st := by
  have h0 := line_ok st P.r (P.anc p hp) (P.len p hp)
  have hr : dRev (.lst ((up p.nm).map .int)) st = .ok (.lst ((up p.nm).reverse.map .int)) st := by
    have h := imms_ints (up p.nm)
    simp only [dRev, h, if_true, List.map_reverse]
  have hmm := (P.anc p hp).mem
  simp [-List.map_reverse, F__law_span, B__law_span, runFn_fin, sSets, setsGo, sFor, frz, iExp, h0, hr]
  obtain ⟨st', env', hf, rfl, x6, x7, rfl⟩ := for_inv (up p.nm).reverse D.int (g := .one 6) (st := st) (B := sSeq (sSet 7 (eImm (eIx (eCall F__law_pane (aCons (eVar 0) (aCons (eVar 6) aNil))) (eC (.int 2)))))
    (sSeq (sSet 3 (eAdd (eVar 3) (eIx (eVar 7) (eVar 2))))
    (sSeq (sSet 4 (eImm (eIf (tVal (eIsN false (eVar 4))) (eVar 3) (eMax2 (eVar 4) (eVar 3)))))
    (sSet 5 (eIf (tVal (eIsN false (eVar 5))) (eAdd (eVar 3) (eIx (eVar 7) (eAdd (eVar 2) (eC (.int 2))))) (eMin2 (eVar 5) (eAdd (eVar 3) (eIx (eVar 7) (eAdd (eVar 2) (eC (.int 2)))))))))))
    (fun done st' env => st = st' ∧ ∃ x6 x7, env = [.vl (encPlan ps), .vl (.int p.nm), .vl (.int s), .vl (.int (spanF b w ps done.reverse).1), .vl (encO1 (spanF b w ps done.reverse).2), .vl (encO2 (spanF b w ps done.reverse).2), x6, x7])
    (env := [.vl (encPlan ps), .vl (.int p.nm), .vl (.int s), .vl (.int 0), .vl .non, .vl .non, .un, .un]) ⟨rfl, .un, .un, rfl⟩
    (by
      rintro done n rest st' env hd ⟨rfl, x6, x7, rfl⟩
      obtain ⟨q, hq, rfl⟩ := hmm n (List.mem_reverse.mp (by rw [hd]; simp))
      have k1 := lw_pane_ok P st hq
      have hbq := hb q st
      have hwq := hw q st
      have hrv : (done ++ [q.nm]).reverse = q.nm :: done.reverse := by simp
      refine ⟨_, rfl, st, [.vl (encPlan ps), .vl (.int p.nm), .vl (.int s), .vl (.int (spanF b w ps (done ++ [q.nm]).reverse).1), .vl (encO1 (spanF b w ps (done ++ [q.nm]).reverse).2), .vl (encO2 (spanF b w ps (done ++ [q.nm]).reverse).2), .vl (.int q.nm), .vl (.tup [.int q.bx, .int q.byy, .int q.bw, .int q.bh])], ?_, rfl, _, _, rfl⟩
      rw [hrv, spanF, pn_of P.r.nd hq]
      generalize spanF b w ps done.reverse = ao
      obtain ⟨a, o⟩ := ao
      have xm2 : ∀ (A B : Ev) (env : En), eMax2 A B st env = (A st env).bind fun x st => (B st env).bind fun y st => dMax2 x y st := fun _ _ _ => rfl
      have xn2 : ∀ (A B : Ev) (env : En), eMin2 A B st env = (A st env).bind fun x st => (B st env).bind fun y st => dMin2 x y st := fun _ _ _ => rfl
      cases o with
      | none => simp [k1, ix_box, hbq, dAdd, encO1, encO2, dIsN, D.isNon, hwq]
      | some lh =>
        obtain ⟨lo, hi⟩ := lh
        simp [k1, ix_box, hbq, dAdd, encO1, encO2, dIsN, D.isNon, hwq, xm2, xn2, dMax2, dMin2])
  rw [List.reverse_reverse] at hf
  rw [hf]
  have him1 : (encO1 (spanF b w ps (up p.nm)).2).imm = true := by cases (spanF b w ps (up p.nm)).2 <;> rfl
  have him2 : (encO2 (spanF b w ps (up p.nm)).2).imm = true := by cases (spanF b w ps (up p.nm)).2 <;> rfl
  simp [him1, him2]
def AllIn (ps : List Pane) (x y : Int) (l : List Int) : Prop := inAll (·.bx) (·.bw) ps x l ∧ inAll (·.byy) (·.bh) ps y l
theorem up_ne (p : Pane) (hp : p ∈ ps) : up p.nm ≠ [] := List.ne_nil_of_mem (up_self P hp)
theorem lw_has_ok (x y : Int) (p : Pane) (hp : p ∈ ps) : ∃ b, F__law_has st [encPlan ps, .int p.nm, .int x, .int y] = .ok (.bl b) st ∧ (b = true ↔ AllIn ps x y (up p.nm)) := by
  have s0 := span_ok P st (·.bx) (·.bw) 0 (fun p st => ixb0 ..) (fun p st => ixb2 ..) p hp
  have s1 := span_ok P st (·.byy) (·.bh) 1 (fun p st => ixb1 ..) (fun p st => ixb3 ..) p hp
  obtain ⟨lo, hi, a1, a2⟩ := spanF_in (·.bx) (·.bw) ps x (up p.nm) (up_ne P p hp)
  obtain ⟨lo', hi', b1, b2⟩ := spanF_in (·.byy) (·.bh) ps y (up p.nm) (up_ne P p hp)
  rw [a1] at s0
  rw [b1] at s1
  simp only [encO1, encO2] at s0 s1
  refine ⟨(decide (lo ≤ x) && decide (x < hi)) && (decide (lo' ≤ y) && decide (y < hi')), ?_, ?_⟩
  · have t0 : ∀ (a b : D), dIx (.tup [a, b]) (.int 0) st = .ok a st := fun a b => by simp [dIx, L2.atI, L2.ixN]
    have t1 : ∀ (a b : D), dIx (.tup [a, b]) (.int 1) st = .ok b st := fun a b => by simp [dIx, L2.atI, L2.ixN]
    by_cases h1 : lo ≤ x <;> by_cases h2 : x < hi <;> by_cases h3 : lo' ≤ y <;> simp [F__law_has, B__law_has, runFn_fin, sSets, setsGo, s0, s1, eChain, cmI, Cm.int, t0, t1, h1, h2, h3]
  · unfold AllIn
    rw [← a2, ← b2]
    simp [and_assoc]
/-- inward: a part's own place is enough -/
theorem AllIn_step (x y : Int) (p : Pane) (u : Int) (hp : p ∈ ps) (hu : p.up = some u) (h : AllIn ps x y (up u)) : AllIn ps x y (up p.nm) ↔ inPl ps up x y p.nm = true := by
  have e := (up_step P hp hu).2
  unfold AllIn at *
  unfold inPl inBox placeX placeY
  rw [e]
  simp only [inAll, h.1, h.2, true_and, Bool.and_eq_true, decide_eq_true_eq]
theorem AllIn_root (x y : Int) (p : Pane) (hp : p ∈ ps) (hu : p.up = none) : AllIn ps x y (up p.nm) ↔ inPl ps up x y p.nm = true := by
  have e := up_root P hp hu
  unfold AllIn inPl inBox placeX placeY
  rw [e]
  simp only [inAll, true_and, Bool.and_eq_true, decide_eq_true_eq]
end
end Lw
end
section
set_option maxRecDepth 100000
set_option linter.all false
set_option Elab.async false
set_option maxHeartbeats 1000000
namespace Lw
open PySem Dl
theorem eq_up (n : Int) (u : Option Int) (st : Store) : dEq false (encUp u) (.int n) st = .ok (.bl (decide (u = some n))) st := up_eq u n st
section
variable {ps : List Pane} {up : Int → List Int} (P : PlanA ps up) (st : Store)
include P
def AtInv (ps : List Pane) (up : Int → List Int) (x y : Int) (st : Store) (k : Nat) (st' : Store) (env : En) : Prop := st = st' ∧ ∃ (l : List Int) (x4 x5 : Sl), env = [.vl (encPlan ps), .vl (.int x), .vl (.int y), .ow (.lst (l.map .int)), x4, x5, .un, .un, .un] ∧
  ((∃ d n, l = d ++ [n] ∧ (∃ p ∈ ps, p.nm = n) ∧ AllIn ps x y (up n) ∧ (∀ e, Desc (bestC ps up x y) n e → Desc (bestC ps up x y) 0 e) ∧ k = 1002 - (up n).length) ∨ (l = [] ∧ k = 0 ∧ ∃ e, x4 = .vl (.int e) ∧ Desc (bestC ps up x y) 0 e))
theorem lw_at_ok (hz : ∃ p ∈ ps, p.nm = 0 ∧ p.up = none) (x y : Int) : ∃ o, F__law_at st [encPlan ps, .int x, .int y] = .ok (encUp o) st ∧ Found ps up x y o := by
  obtain ⟨g, hg, hg0, hgu⟩ := hz
  obtain ⟨b, hb1, hb2⟩ := lw_has_ok P st x y g hg
  have hroot := AllIn_root P x y g hg hgu
  rw [hroot, hg0] at hb2
  rw [hg0] at hb1 hroot
  have hb : b = inPl ps up x y 0 := by rw [Bool.eq_iff_iff]; exact hb2
  rw [hb] at hb1
  cases h0 : inPl ps up x y 0 with
  | false =>
    rw [h0] at hb1
    exact ⟨none, by simp [F__law_at, B__law_at, runFn_fin, hb1, D.truth, encUp], .inl ⟨h0, rfl⟩⟩
  | true =>
    rw [h0] at hb1
    have ho : own (.lst [.int 0]) = .ow (.lst ([0].map .int)) := own_ints [0]
    obtain ⟨st', env', hw, ⟨rfl, l, x4, x5, rfl, hend⟩, hl⟩ := while_inv (T := tVal (eEq true (eVar 3) (eLst aNil))) (B := sSeq (sSet 4 (eImm (eIx (eVar 3) (eNeg (eC (.int 1))))))
    (sSeq (sSet 5 (eLcV 0 (iVar 0) (.one 6) (Dl.tAnd (tVal (eEq false (eIx (eVar 6) (eC (.int 1))) (eVar 4))) (tVal (eIn true (eC (.str (Str.ofString "hidden"))) (eIx (eVar 6) (eC (.int 4)))))) (eImm (eVar 6))))
    (sSeq (sSet 5 (eLcV 5 (iVar 5) (.one 6) (tTruth (eCall F__law_has (aCons (eVar 0) (aCons (eIx (eVar 6) (eC (.int 0))) (aCons (eVar 1) (aCons (eVar 2) aNil)))))) (eImm (eVar 6))))
    (sSet 3 (eLc (iExp (eSorted (eLcV 5 (iVar 5) (.one 6) tTrue (eTup (aCons (eIn false (eC (.str (Str.ofString "sheet"))) (eIx (eVar 6) (eC (.int 4)))) (aCons (eImm (eIx (eVar 6) (eC (.int 0)))) aNil)))))) (.tup [7, 8]) tTrue (eImm (eVar 8)))))))
      (AtInv ps up x y st) (fun st' env => AtInv ps up x y st 0 st' env ∧ env.getD 3 .un = .ow (.lst []))
      (by
        rintro k st' env ⟨rfl, l, x4, x5, rfl, hc⟩
        rcases hc with ⟨d, n, rfl, hn, hA, hD, rfl⟩ | ⟨rfl, rfl, he⟩
        · refine .inr ⟨st, ?_, ?_⟩
          · have hnn : decide (d ++ [n] = []) = false := by simp
            have hd := deq_ints0 (d ++ [n])
            rw [hnn] at hd
            simp [-List.map_append, dEq, hd]
          · have hR : ((ps.filter fun p => decide (p.up = some n) && !hidB p).filter fun p => inPl ps up x y p.nm) = ps.filter (cand ps up n x y) := by
              rw [List.filter_filter]
              apply List.filter_congr
              intro p _
              unfold cand
              cases inPl ps up x y p.nm <;> cases hidB p <;> cases decide (p.up = some n) <;> rfl
            have hlk : ((ps.filter fun p => decide (p.up = some n) && !hidB p)).length ≤ 1000000 := Nat.le_trans (List.length_filter_le ..) P.r.len
            have hlk2 : (ps.filter (cand ps up n x y)).length ≤ 1000000 := Nat.le_trans (List.length_filter_le ..) P.r.len
            suffices h : ∀ x5, (sSeq (sSet 4 (eImm (eIx (eVar 3) (eNeg (eC (.int 1))))))
    (sSeq (sSet 5 (eLcV 0 (iVar 0) (.one 6) (Dl.tAnd (tVal (eEq false (eIx (eVar 6) (eC (.int 1))) (eVar 4))) (tVal (eIn true (eC (.str (Str.ofString "hidden"))) (eIx (eVar 6) (eC (.int 4)))))) (eImm (eVar 6))))
    (sSeq (sSet 5 (eLcV 5 (iVar 5) (.one 6) (tTruth (eCall F__law_has (aCons (eVar 0) (aCons (eIx (eVar 6) (eC (.int 0))) (aCons (eVar 1) (aCons (eVar 2) aNil)))))) (eImm (eVar 6))))
    (sSet 3 (eLc (iExp (eSorted (eLcV 5 (iVar 5) (.one 6) tTrue (eTup (aCons (eIn false (eC (.str (Str.ofString "sheet"))) (eIx (eVar 6) (eC (.int 4)))) (aCons (eImm (eIx (eVar 6) (eC (.int 0)))) aNil)))))) (.tup [7, 8]) tTrue (eImm (eVar 8))))))) st [.vl (encPlan ps), .vl (.int x), .vl (.int y), .ow (.lst ((d ++ [n]).map .int)), x4, x5, .un, .un, .un] =
              .nx st [.vl (encPlan ps), .vl (.int x), .vl (.int y), .ow (.lst ((((ranks ps up n x y ps).mergeSort leR).map (·.2)).map .int)), .vl (.int n), .ow (.lst ((ps.filter (cand ps up n x y)).map encPane)), .un, .un, .un] by
              have hlast : (((ranks ps up n x y ps).mergeSort leR).map (·.2)).getLast? = bestC ps up x y n := by
                rw [List.getLast?_map, sort_last]; rfl
              cases hbc : bestC ps up x y n with
              | none =>
                rw [hbc, List.getLast?_eq_none_iff] at hlast
                rw [hlast] at h
                have hun := P.len
                obtain ⟨p, hp, hpn⟩ := hn
                have h1 := hun p hp
                rw [hpn] at h1
                exact ⟨0, st, _, h x5, by omega, rfl, [], _, _, rfl, .inr ⟨rfl, rfl, n, rfl, hD n (.stop hbc)⟩⟩
              | some c =>
                rw [hbc] at hlast
                have hne : ((ranks ps up n x y ps).mergeSort leR).map (·.2) ≠ [] := by intro e; rw [e] at hlast; cases hlast
                have hsplit := (List.dropLast_concat_getLast hne).symm
                rw [List.getLast?_eq_some_getLast hne] at hlast
                rw [Option.some.inj hlast] at hsplit
                rw [hsplit] at h
                obtain ⟨p, hp, hpn, hpu, hpi⟩ := bestC_part hbc
                have hl := (up_step P hp hpu).2
                have hll := P.len p hp
                have hA2 := (AllIn_step P x y p n hp hpu hA).mpr (by rw [hpn]; exact hpi)
                rw [hpn] at hl hll hA2
                refine ⟨1002 - (up c).length, st, _, h x5, ?_, rfl, _, _, _, rfl, .inl ⟨_, c, rfl, ⟨p, hp, hpn⟩, hA2, fun e h => hD e (.step hbc h), rfl⟩⟩
                rw [hl, List.length_cons] at hll ⊢
                omega
            intro x5
            have hix := ixm1 d n st
            have hhas : ∀ p ∈ ps, p.up = some n → F__law_has st [encPlan ps, .int p.nm, .int x, .int y] = .ok (.bl (inPl ps up x y p.nm)) st := fun p hp hpu => by
              obtain ⟨b, hb1, hb2⟩ := lw_has_ok P st x y p hp
              rw [AllIn_step P x y p n hp hpu hA] at hb2
              rw [hb1, (Bool.eq_iff_iff.mpr hb2 : b = inPl ps up x y p.nm)]
            generalize (d ++ [n]).map D.int = L at *
            simp only [x_Seq, x_Set, x_Imm, x_Ix, x_Var, List.getD_cons_zero, List.getD_cons_succ, bind_ok, x_Neg, x_C, dNeg, hix, imm_int, if_true, stm_ok, own_int, thn_nx, List.set_cons_succ, List.set_cons_zero, bind_bind, bind_stm]
            rw [lcV_eq (by simp [frz, vlOf, isDct, encPlan]), lc_eq ps encPane (fun p => decide (p.up = some n) && !hidB p) encPane (iVar_tup _ _ _ _ rfl) (line_ge P.r.len) (fun p hp => ⟨[.vl (encPlan ps), .vl (.int x), .vl (.int y), .ow (.lst L), .vl (.int n), x5, .vl (encPane p), .un, .un], rfl, by
              by_cases h1 : p.up = some n <;> simp [ix_up, ix_marks, eq_up, h1, hidB], fun _ => by simp⟩)]
            simp only [stm_ok, own_panes, thn_nx, List.set_cons_succ, List.set_cons_zero, x_Seq, x_Set]
            generalize hK : (ps.filter fun p => decide (p.up = some n) && !hidB p) = K at *
            have hKm : ∀ p ∈ K, p ∈ ps ∧ p.up = some n := fun p hp => by
              rw [← hK, List.mem_filter, Bool.and_eq_true, decide_eq_true_eq] at hp
              exact ⟨hp.1, hp.2.1⟩
            rw [lcV_eq (by simp [frz, vlOf, isDct]), lc_eq K encPane (fun p => inPl ps up x y p.nm) encPane (iVar_lst _ _ _ _ rfl) (line_ge hlk) (fun p hp => ⟨[.vl (encPlan ps), .vl (.int x), .vl (.int y), .ow (.lst L), .vl (.int n), .vl (.lst (K.map encPane)), .vl (encPane p), .un, .un], rfl, by
              obtain ⟨h1, h2⟩ := hKm p hp
              simp [ix_nm, hhas p h1 h2, D.truth], fun _ => by simp⟩)]
            rw [hR]
            simp only [stm_ok, own_panes, thn_nx, List.set_cons_succ, List.set_cons_zero, x_Seq, x_Set]
            have hlc : eLcV 5 (iVar 5) (.one 6) tTrue (eTup (aCons (eIn false (eC (.str (Str.ofString "sheet"))) (eIx (eVar 6) (eC (.int 4)))) (aCons (eImm (eIx (eVar 6) (eC (.int 0)))) aNil))) st [.vl (encPlan ps), .vl (.int x), .vl (.int y), .ow (.lst L), .vl (.int n), .ow (.lst ((ps.filter (cand ps up n x y)).map encPane)), .un, .un, .un] = .ok (.lst ((ranks ps up n x y ps).map encR)) st := by
              rw [lcV_eq (by simp [frz, vlOf, isDct]), lca_eq (ps.filter (cand ps up n x y)) encPane (fun p => encR (sheetB p, p.nm)) (iVar_lst _ _ _ _ rfl) (line_ge hlk2) (fun p hp => ⟨[.vl (encPlan ps), .vl (.int x), .vl (.int y), .ow (.lst L), .vl (.int n), .vl (.lst ((ps.filter (cand ps up n x y)).map encPane)), .vl (encPane p), .un, .un], rfl, by
                simp [ix_nm, ix_marks, encR, sheetB]⟩)]
              unfold ranks
              rw [List.map_map]
              rfl
            have hml : ((ranks ps up n x y ps).mergeSort leR).length ≤ LINE := by
              rw [List.length_mergeSort]
              unfold ranks
              rw [List.length_map]
              exact line_ge hlk2
            have hsr := sorted_ranks (ranks ps up n x y ps) st
            rw [lca_eq ((ranks ps up n x y ps).mergeSort leR) encR (fun r => .int r.2) (by simp [iExp, hlc, hsr]) hml (fun r hr => ⟨[.vl (encPlan ps), .vl (.int x), .vl (.int y), .ow (.lst L), .vl (.int n), .ow (.lst ((ps.filter (cand ps up n x y)).map encPane)), .un, .vl (.bl r.1), .vl (.int r.2)], rfl, by simp⟩)]
            have e9 : ((ranks ps up n x y ps).mergeSort leR).map (fun r => D.int r.2) = (((ranks ps up n x y ps).mergeSort leR).map (·.2)).map .int := by rw [List.map_map]; rfl
            rw [e9]
            simp only [stm_ok, own_ints, List.set_cons_succ, List.set_cons_zero]
        · refine .inl ⟨st, ?_, ⟨rfl, [], x4, x5, rfl, .inr ⟨rfl, rfl, he⟩⟩, rfl⟩
          have d0 : deq (.lst []) (.lst []) = some true := deq_ints0 []
          simp [dEq, d0])
      (n := 1002 - (up 0).length) (st := st) (env := [.vl (encPlan ps), .vl (.int x), .vl (.int y), .ow (.lst ([0].map .int)), .un, .un, .un, .un, .un]) (by omega) ⟨rfl, [0], .un, .un, rfl, .inl ⟨[], 0, rfl, ⟨g, hg, hg0⟩, by rw [← hg0]; exact (AllIn_root P x y g hg hgu).mpr (by rw [hg0]; exact h0), fun e h => h, rfl⟩⟩
    rcases hend with ⟨d, n, rfl, _⟩ | ⟨rfl, _, e, rfl, hd⟩
    · simp at hl
    · refine ⟨some e, ?_, .inr ⟨h0, e, rfl, hd⟩⟩
      show _ = Out.ok (D.int e) st
      rw [List.map_cons, List.map_nil] at hw ho
      simp [F__law_at, B__law_at, runFn_fin, hb1, D.truth, ho, hw]
end
end Lw
end
section
set_option maxRecDepth 100000
set_option linter.all false
set_option Elab.async false
set_option maxHeartbeats 1000000
namespace Lw
open PySem Dl
@[simp] theorem dSub_ii (a b : Int) (st : Store) : dSub (.int a) (.int b) st = .ok (.int (a - b)) st := rfl
@[simp] theorem dAdd_ii (a b : Int) (st : Store) : dAdd (.int a) (.int b) st = .ok (.int (a + b)) st := rfl
@[simp] theorem dNeg_i (a : Int) (st : Store) : dNeg (.int a) st = .ok (.int (-a)) st := rfl
@[simp] theorem dEq_ii (n : Bool) (a b : Int) (st : Store) : dEq n (.int a) (.int b) st = .ok (.bl (if n then !decide (a = b) else decide (a = b))) st := by simp [dEq]
/-! ### keys moved -/
def movedL (row : List Int) (n : Int) : List Int := row.filter (fun m => !decide (m = n)) ++ [n]
theorem moved_len (row : List Int) (n : Int) : (movedL row n).length ≤ row.length + 1 := by
  unfold movedL
  rw [List.length_append, List.length_singleton]
  have := List.length_filter_le (fun m => !decide (m = n)) row
  omega
theorem dTuple_list (xs : List D) (h : D.imms xs = true) (st : Store) : dTuple (.lst xs) st = .ok (.tup xs) st := by
  simp only [dTuple, h, if_true]
theorem dAdd_tups (a b : List Int) (st : Store) (h : a.length + b.length ≤ 16777216) : dAdd (.tup (a.map .int)) (.tup (b.map .int)) st = .ok (.tup ((a ++ b).map .int)) st := by
  have h1 := imms_ints a
  have h2 := imms_ints b
  have h3 : (a.map D.int).length + (b.map D.int).length ≤ LINE := by rw [List.length_map, List.length_map, LINE_eq]; exact h
  simp only [dAdd, h1, h2, h3, decide_true, Bool.and_self, if_true, List.map_append]
theorem moved_ok (st : Store) (row : List Int) (n : Int) (hl : row.length ≤ 1000) : F_moved_to st [.tup (row.map .int), .int n] = .ok (.tup ((movedL row n).map .int)) st := by
  simp [F_moved_to, B_moved_to, runFn_fin]
  rw [lcV_eq (by simp [frz, vlOf, isDct]), lc_eq row D.int (fun m => !decide (m = n)) D.int (iVar_tup _ _ _ _ rfl) (line_ge (by omega)) (fun m hm => ⟨_, rfl, by simp [frz, wipeE, Tg.slots, dEq], fun _ => by simp [frz, wipeE, Tg.slots]⟩)]
  have hf : (row.filter fun m => !decide (m = n)).length ≤ 1000 := Nat.le_trans (List.length_filter_le ..) hl
  have ha := dAdd_tups (row.filter fun m => !decide (m = n)) [n] st (by rw [List.length_singleton]; omega)
  have ht := dTuple_ints (row.filter fun m => !decide (m = n)) st
  rw [List.map_cons, List.map_nil] at ha
  simp only [bind_ok, ht, ha]
  rfl
theorem see_point_ok (st : Store) (x y : Int) (hx : -1000000000 ≤ x ∧ x ≤ 1000000000) (hy : -1000000000 ≤ y ∧ y ≤ 1000000000) : F_see_point st [.int x, .int y] = .ok .non st := by
  have h1 := num_ok st x (-1000000000) 1000000000
  have h2 := num_ok st y (-1000000000) 1000000000
  simp only [hx.1, hx.2, hy.1, hy.2, decide_true, Bool.and_self] at h1 h2
  simp [F_see_point, B_see_point, runFn_fin, C_FAR_POINT, dNeg, h1, h2, D.truth]
def takesN (ps : List Pane) (up : Int → List Int) (n : Int) : Bool := takesB ps up (pn ps n)
/-- the row behind a press at what was found -/
def pressL (ps : List Pane) (up : Int → List Int) (row : List Int) : Option Int → List Int
  | none => row
  | some n => match (up n).find? (takesN ps up) with
    | none => row
    | some u => movedL row u
section
variable {g : Pane} {rest : List Pane} {r : Int → Nat} {up w : Int → List Int} (P : PlanC g rest r up w) (st : Store)
include P
theorem takesN_ok (p : Pane) (hp : p ∈ g :: rest) : F_takes_keys st [encPlan (g :: rest), .int p.nm] = .ok (.bl (takesN (g :: rest) up p.nm)) st := by
  unfold takesN
  rw [pn_of P.b.a.r.nd hp]
  exact takes_ok P.b.a st p hp
theorem pressed_ok (row : List Int) (hr : RowOk (g :: rest) up row) (x y : Int) (hx : -1000000000 ≤ x ∧ x ≤ 1000000000) (hy : -1000000000 ≤ y ∧ y ≤ 1000000000) : ∃ o, F_pressed st [encPlan (g :: rest), .tup (row.map .int), .int x, .int y] = .ok (.tup ((pressL (g :: rest) up row o).map .int)) st ∧ Found (g :: rest) up x y o := by
  have h1 := see_plan_ok P st
  have h2 := see_row_ok P st row hr
  have h3 := see_point_ok st x y hx hy
  obtain ⟨o, h4, hF, hn⟩ := found_ok P.b.a st ⟨g, List.mem_cons_self, P.o.gg.nm⟩ x y
  refine ⟨o, ?_, hF⟩
  cases o with
  | none => simp [F_pressed, B_pressed, runFn_fin, h1, h2, h3, h4, encUp, dIsN, D.isNon, pressL, List.all_map, Function.comp_def, List.all_eq_true]
  | some n =>
    obtain ⟨p, hp, rfl⟩ := hn n rfl
    have h5 := lives P.b.a st p hp
    have hml : ∀ u, F_moved_to st [.tup (row.map .int), .int u] = .ok (.tup ((movedL row u).map .int)) st := fun u => moved_ok st row u hr.len
    have hit : iExp (eCall F_going_up (aCons (eVar 0) (aCons (eVar 4) aNil))) st [.vl (encPlan (g :: rest)), .vl (.tup (row.map .int)), .vl (.int x), .vl (.int y), .vl (.int p.nm), .un] = .ok ((up p.nm).map .int) st := by simp [iExp, h5]
    obtain ⟨f1, f2⟩ := forGo_find (g := .one 5) (B := sIf (tTruth (eCall F_takes_keys (aCons (eVar 0) (aCons (eVar 5) aNil)))) (sRet (eCall F_moved_to (aCons (eVar 1) (aCons (eVar 5) aNil)))) sPass) (st := st) (c := D.int) (e := fun s => [.vl (encPlan (g :: rest)), .vl (.tup (row.map .int)), .vl (.int x), .vl (.int y), .vl (.int p.nm), s])
      (t := takesN (g :: rest) up) (f := fun u => .tup ((movedL row u).map .int)) (l := up p.nm) .un (fun a ha s => by
        obtain ⟨q, hq, rfl⟩ := (P.b.a.anc p hp).mem a ha
        refine ⟨rfl, ?_⟩
        have k := takesN_ok P st q hq
        cases ht : takesN (g :: rest) up q.nm <;> simp [k, ht, D.truth, hml])
    cases hf : (up p.nm).find? (takesN (g :: rest) up) with
    | some u => simp [F_pressed, B_pressed, runFn_fin, h1, h2, h3, h4, encUp, dIsN, D.isNon, pressL, hf, sFor, frz, hit, f1 u hf]
    | none =>
      obtain ⟨s, q⟩ := f2 hf
      simp [F_pressed, B_pressed, runFn_fin, h1, h2, h3, h4, encUp, dIsN, D.isNon, pressL, hf, sFor, frz, hit, q, List.all_map, Function.comp_def, List.all_eq_true]
theorem takes_hold (p : Pane) (hp : p ∈ g :: rest) : p.nm ∈ holdL (g :: rest) up ↔ takesB (g :: rest) up p = true := by
  unfold holdL
  rw [List.mem_map]
  constructor
  · rintro ⟨q, hq, e⟩
    obtain ⟨h1, h2⟩ := List.mem_filter.mp hq
    cases pane_eq P.b.a.r.nd h1 hp e
    exact h2
  · intro h
    exact ⟨p, List.mem_filter.mpr ⟨hp, h⟩, rfl⟩
theorem lw_can_ok (p : Pane) (hp : p ∈ g :: rest) : F__law_can st [encPlan (g :: rest), .int p.nm] = .ok (.bl (takesN (g :: rest) up p.nm)) st := by
  have h := lw_goods_ok P.b.a st
  have h2 := takes_hold P p hp
  have e : decide (p.nm ∈ holdL (g :: rest) up) = takesN (g :: rest) up p.nm := by
    unfold takesN
    rw [pn_of P.b.a.r.nd hp, Bool.eq_iff_iff, decide_eq_true_iff, h2]
  simp [F__law_can, B__law_can, runFn_fin, h, e]
end
end Lw
end
section
set_option maxRecDepth 100000
set_option linter.all false
set_option Elab.async false
set_option maxHeartbeats 1000000
namespace Lw
open PySem Dl
/-! ### bounds of spans -/
theorem span_bound (b w : Pane → Int) (ps : List Pane) (M : Int) (hM : 0 ≤ M) : ∀ (l : List Int), (∀ n ∈ l, -M ≤ b (pn ps n) ∧ b (pn ps n) ≤ M ∧ 0 ≤ w (pn ps n) ∧ w (pn ps n) ≤ M) →
    (-(M * l.length) ≤ (spanF b w ps l).1 ∧ (spanF b w ps l).1 ≤ M * l.length) ∧ ∀ lo hi, (spanF b w ps l).2 = some (lo, hi) → (-(M * l.length) ≤ lo ∧ lo ≤ M * l.length) ∧ (-(M * l.length) ≤ hi ∧ hi ≤ M * (l.length + 1))
  | [], _ => ⟨by simp [spanF], fun lo hi h => by simp [spanF] at h⟩
  | n :: r, h => by
    obtain ⟨⟨a1, a2⟩, ih⟩ := span_bound b w ps M hM r fun m hm => h m (List.mem_cons_of_mem _ hm)
    obtain ⟨b1, b2, b3, b4⟩ := h n List.mem_cons_self
    have e1 : M * ((n :: r).length : Int) = M * r.length + M := by rw [List.length_cons, Int.natCast_add, Int.mul_add]; simp
    have e2 : M * (((n :: r).length : Int) + 1) = M * r.length + M + M := by rw [Int.mul_add, e1]; simp
    have e3 : M * ((r.length : Int) + 1) = M * r.length + M := by rw [Int.mul_add]; simp
    rw [e1, e2]
    rw [e3] at ih
    generalize M * (r.length : Int) = X at *
    have hs : (spanF b w ps (n :: r)).1 = (spanF b w ps r).1 + b (pn ps n) := rfl
    refine ⟨by rw [hs]; omega, fun lo hi hh => ?_⟩
    rw [spanF] at hh
    cases ho : (spanF b w ps r).2 with
    | none =>
      rw [ho] at hh
      simp only [Option.some.injEq, Prod.mk.injEq] at hh
      omega
    | some p =>
      obtain ⟨lo', hi'⟩ := p
      rw [ho] at hh
      obtain ⟨c1, c2⟩ := ih lo' hi' ho
      simp only [Option.some.injEq, Prod.mk.injEq] at hh
      obtain ⟨rfl, rfl⟩ := hh
      constructor <;> constructor <;> split <;> omega
theorem pane_far {p : Pane} (h : PaneOk p) : (-1000000 ≤ p.bx ∧ p.bx ≤ 1000000 ∧ 0 ≤ p.bw ∧ p.bw ≤ 1000000) ∧ (-1000000 ≤ p.byy ∧ p.byy ≤ 1000000 ∧ 0 ≤ p.bh ∧ p.bh ≤ 1000000) := by
  have h1 := h.bx
  have h2 := h.byy
  have h3 := h.bw
  have h4 := h.bh
  unfold Lw.far at h1 h2
  unfold side at h3 h4
  simp only [Bool.and_eq_true, decide_eq_true_eq] at h1 h2 h3 h4
  omega
section
variable {g : Pane} {rest : List Pane} {r : Int → Nat} {up w : Int → List Int} (P : PlanC g rest r up w)
include P
theorem pane_ok_mem (p : Pane) (hp : p ∈ g :: rest) : PaneOk p := (List.mem_cons.mp hp).elim (fun e => e ▸ P.o.gp) (P.o.rp p)
theorem up_len_le (p : Pane) (hp : p ∈ g :: rest) : (up p.nm).length ≤ 40 := by
  have nd : (up p.nm).Nodup := by
    have h0 : ∀ q ∈ rest, q.nm ≠ 0 := fun q hq e => by
      have nd := P.b.a.r.nd
      rw [List.map_cons, List.nodup_cons] at nd
      exact nd.1 (by rw [P.o.gg.nm, ← e]; exact List.mem_map_of_mem hq)
    rcases List.mem_cons.mp hp with rfl | hp'
    · rw [up_root P.b.a List.mem_cons_self P.o.gg.up]; simp
    · obtain ⟨l, h1, h2, _⟩ := anc_ex P.o.gg.nm P.o.gg.up P.o.rank h0 (r p.nm) p hp' (Nat.le_refl _)
      rw [← h1.uniq P.b.a.r.nd (P.b.a.anc p hp)]
      exact h2
  have := nodup_len (m := (g :: rest).map (·.nm)) nd fun m hm => by
    obtain ⟨q, hq, e⟩ := (P.b.a.anc p hp).mem m hm
    exact e ▸ List.mem_map_of_mem hq
  rw [List.length_map, List.length_cons] at this
  have := P.o.len
  omega
theorem span_far (p : Pane) (hp : p ∈ g :: rest) (b w : Pane → Int) (hbw : ∀ q ∈ g :: rest, -1000000 ≤ b q ∧ b q ≤ 1000000 ∧ 0 ≤ w q ∧ w q ≤ 1000000) : ∃ lo hi, (spanF b w (g :: rest) (up p.nm)).2 = some (lo, hi) ∧ (-50000000 ≤ lo ∧ lo ≤ 50000000) ∧ (-50000000 ≤ hi ∧ hi ≤ 50000000) := by
  obtain ⟨lo, hi, h1, _⟩ := spanF_in b w (g :: rest) 0 (up p.nm) (up_ne P.b.a p hp)
  have hl := up_len_le P p hp
  have h2 := (span_bound b w (g :: rest) 1000000 (by decide) (up p.nm) fun n hn => by
    obtain ⟨q, hq, rfl⟩ := (P.b.a.anc p hp).mem n hn
    rw [pn_of P.b.a.r.nd hq]
    exact hbw q hq).2 lo hi h1
  exact ⟨lo, hi, h1, ⟨by omega, by omega⟩, by omega, by omega⟩
end
end Lw
end
section
set_option maxRecDepth 100000
set_option linter.all false
set_option Elab.async false
set_option maxHeartbeats 1000000
namespace Lw
open PySem Dl
def PtPost (pre : Store) (m : Int) (v : D) (st : Store) : Prop := ∃ (c' x y : Int), st = penSt pre c' m ∧ v = .tup [.int x, .int y] ∧ (-1000000000 ≤ x ∧ x ≤ 1000000000) ∧ (-1000000000 ≤ y ∧ y ≤ 1000000000)
theorem ix_pl (ps : List Pane) (i : Int) (h0 : 0 ≤ i) (h : i < ps.length) (st : Store) : ∃ p, p ∈ ps ∧ dIx (encPlan ps) (.int i) st = .ok (encPane p) st := by
  have hi : i.toNat < ps.length := by omega
  refine ⟨ps[i.toNat], List.getElem_mem hi, ?_⟩
  have hat : L2.atI (ps.map encPane) i = some (encPane ps[i.toNat]) := by
    have e : i = ((i.toNat : Nat) : Int) := by omega
    have q := atI_nat (ps.map encPane) i.toNat (encPane ps[i.toNat]) (by rw [List.getElem?_map, List.getElem?_eq_getElem hi]; rfl)
    rw [← e] at q
    exact q
  simp only [dIx, encPlan, hat]
theorem ixt2 (a b : Int) (w : Int) (h0 : 0 ≤ w) (h3 : w < 2) (st : Store) : ∃ n, (n = a ∨ n = b) ∧ dIx (.tup [.int a, .int b]) (.int w) st = .ok (.int n) st := by
  have : w = 0 ∨ w = 1 := by omega
  rcases this with rfl | rfl
  · exact ⟨a, .inl rfl, by simp [dIx, L2.atI, L2.ixN]⟩
  · exact ⟨b, .inr rfl, by simp [dIx, L2.atI, L2.ixN]⟩
theorem ix3D (a b c : D) (w : Int) (h0 : 0 ≤ w) (h3 : w < 3) (st : Store) : ∃ n, (n = a ∨ n = b ∨ n = c) ∧ dIx (.lst [a, b, c]) (.int w) st = .ok n st := by
  have : w = 0 ∨ w = 1 ∨ w = 2 := by omega
  rcases this with rfl | rfl | rfl
  · exact ⟨a, .inl rfl, by simp [dIx, L2.atI, L2.ixN]⟩
  · exact ⟨b, .inr (.inl rfl), by simp [dIx, L2.atI, L2.ixN]⟩
  · exact ⟨c, .inr (.inr rfl), by simp [dIx, L2.atI, L2.ixN]⟩
section
variable {g : Pane} {rest : List Pane} {r : Int → Nat} {up w : Int → List Int} (P : PlanC g rest r up w)
include P
theorem lw_point_ok (pre : Store) (c m : Int) (hw : 6 ≤ g.bw ∧ g.bw ≤ 19) (hh : 6 ≤ g.bh ∧ g.bh ≤ 19) : (F__law_point (penSt pre c m) [.obj pre.length, encPlan (g :: rest)]).To (PtPost pre m) := by
  have hg0 : ∀ st, dIx (encPlan (g :: rest)) (.int 0) st = .ok (encPane g) st := fun st => by simp [encPlan, dIx, L2.atI, L2.ixN]
  have hlp : ∀ st, dLen (encPlan (g :: rest)) st = .ok (.int ((rest.length + 1 : Nat) : Int)) st := fun st => by simp [dLen, encPlan]
  have hp9 : ∀ st, dPow (.int 10) (.int 9) st = .ok (.int 1000000000) st := fun st => rfl
  have hlen := P.o.len
  have hplx := fun i h0 h st => ix_pl (g :: rest) i h0 h st
  rw [show F__law_point = runFn 2 5 B__law_point from rfl, runFn_fin (n := 2) (ds := [_, _]) rfl]
  simp only [B__law_point, x_Seq, List.map_cons, List.map_nil, List.replicate, List.cons_append, List.nil_append]
  have hbox := fun st => ix_box g st
  generalize hPL : encPlan (g :: rest) = pl at *
  obtain ⟨Q1, hQ1⟩ : ∃ P : Store → En → Prop, P = fun st env => ∃ c1 way : Int, st = penSt pre c1 m ∧ 0 ≤ way ∧ way < 4 ∧ env = [.vl (.obj pre.length), .vl pl, .vl (.int way), .vl (.tup [.int g.bx, .int g.byy, .int g.bw, .int g.bh]), .un, .un, .un] := ⟨_, rfl⟩
  refine SOut.To.fin (P := Q1) ?_ ?_
  · simp [sSets, setsGo]
    refine (dr pre c m 4 (by omega) (by omega)).stm ?_
    rintro _ _ ⟨c1, way, rfl, rfl, w0, w1⟩
    simp [hg0, hbox]
    refine ⟨_, _, rfl, ?_⟩
    rw [hQ1]
    exact ⟨c1, way, rfl, w0, w1, rfl⟩
  rintro _ _ hq
  rw [hQ1] at hq
  obtain ⟨c1, way, rfl, w0, w1, rfl⟩ := hq
  obtain ⟨Q2, hQ2⟩ : ∃ P : Store → En → Prop, P = fun st env => ∃ c1 x y : Int, st = penSt pre c1 m ∧ (-2 ≤ x ∧ x ≤ 30) ∧ (-2 ≤ y ∧ y ≤ 30) ∧ env = [.vl (.obj pre.length), .vl pl, .vl (.int way), .vl (.tup [.int g.bx, .int g.byy, .int g.bw, .int g.bh]), .vl (.int x), .vl (.int y), .un] := ⟨_, rfl⟩
  refine SOut.To.fin (P := Q2) ?_ ?_
  · simp [sSets, setsGo, ixb2, ixb3]
    refine (dr pre c1 m (g.bw + 4) (by omega) (by omega)).stm ?_
    rintro _ _ ⟨c2, x, rfl, rfl, x0, x1⟩
    simp
    refine (dr pre c2 m (g.bh + 4) (by omega) (by omega)).stm ?_
    rintro _ _ ⟨c3, y, rfl, rfl, y0, y1⟩
    simp
    refine ⟨_, _, rfl, ?_⟩
    rw [hQ2]
    exact ⟨c3, x - 2, y - 2, rfl, ⟨by omega, by omega⟩, ⟨by omega, by omega⟩, rfl⟩
  rintro _ _ hq
  rw [hQ2] at hq
  obtain ⟨c3, x, y, rfl, hx, hy, rfl⟩ := hq
  by_cases hw0 : way = 0
  · subst hw0
    simp only [x_Seq, x_sIf, x_tVal, x_Eq, x_Var, x_C, List.getD_cons_zero, List.getD_cons_succ, bind_ok, dEq_ii, decide_true, Bool.false_eq_true, if_false, stm_ok, if_true, thn_thn]
    obtain ⟨Q3, hQ3⟩ : ∃ P : Store → En → Prop, P = fun st env => ∃ (c1 : Int) (p : Pane), p ∈ g :: rest ∧ st = penSt pre c1 m ∧ env = [.vl (.obj pre.length), .vl pl, .vl (.int 0), .vl (.tup [.int g.bx, .int g.byy, .int g.bw, .int g.bh]), .vl (.int x), .vl (.int y), .vl (.int p.nm)] := ⟨_, rfl⟩
    refine SOut.To.fin (P := Q3) ?_ ?_
    · simp [hlp]
      refine (dr pre c3 m _ (by omega) (by omega)).stm ?_
      rintro _ _ ⟨c4, i, rfl, rfl, i0, i1⟩
      obtain ⟨p, hp, hpx⟩ := hplx i i0 (by simp; omega) (penSt pre c4 m)
      simp [hpx, ix_nm]
      refine ⟨_, _, rfl, ?_⟩
      rw [hQ3]
      exact ⟨c4, p, hp, rfl, rfl⟩
    rintro _ _ hq
    rw [hQ3] at hq
    obtain ⟨c4, p, hp, rfl, rfl⟩ := hq
    have s0 := fun st => span_ok P.b.a st (·.bx) (·.bw) 0 (fun p st => ixb0 ..) (fun p st => ixb2 ..) p hp
    have s1 := fun st => span_ok P.b.a st (·.byy) (·.bh) 1 (fun p st => ixb1 ..) (fun p st => ixb3 ..) p hp
    obtain ⟨lo, hi, e0, f1, f2⟩ := span_far P p hp (·.bx) (·.bw) fun q hq => (pane_far (pane_ok_mem P q hq)).1
    obtain ⟨lo', hi', e1, f3, f4⟩ := span_far P p hp (·.byy) (·.bh) fun q hq => (pane_far (pane_ok_mem P q hq)).2
    rw [e0, hPL] at s0
    rw [e1, hPL] at s1
    simp only [encO1, encO2] at s0 s1
    obtain ⟨Q4, hQ4⟩ : ∃ P : Store → En → Prop, P = fun st env => ∃ c1 x' : Int, (-1000000000 ≤ x' ∧ x' ≤ 1000000000) ∧ st = penSt pre c1 m ∧ env = [.vl (.obj pre.length), .vl pl, .vl (.int 0), .vl (.tup [.int g.bx, .int g.byy, .int g.bw, .int g.bh]), .vl (.int x'), .vl (.int y), .vl (.int p.nm)] := ⟨_, rfl⟩
    refine SOut.To.fin (P := Q4) ?_ ?_
    · simp [s0]
      refine (dr pre c4 m 2 (by omega) (by omega)).stm ?_
      rintro _ _ ⟨c5, j, rfl, rfl, j0, j1⟩
      obtain ⟨a, ha, hax⟩ := ixt2 lo hi j j0 j1 (penSt pre c5 m)
      simp [hax]
      refine (dr pre c5 m 2 (by omega) (by omega)).stm ?_
      rintro _ _ ⟨c6, k, rfl, rfl, k0, k1⟩
      simp
      refine ⟨_, _, rfl, ?_⟩
      rw [hQ4]
      refine ⟨c6, a - k, ?_, rfl, rfl⟩
      rcases ha with rfl | rfl <;> omega
    rintro _ _ hq
    rw [hQ4] at hq
    obtain ⟨c6, x', hx', rfl, rfl⟩ := hq
    simp [s1]
    refine (dr pre c6 m 2 (by omega) (by omega)).bind ?_
    rintro _ _ ⟨c7, j', rfl, rfl, j'0, j'1⟩
    obtain ⟨a', ha', hax'⟩ := ixt2 lo' hi' j' j'0 j'1 (penSt pre c7 m)
    simp [hax']
    refine (dr pre c7 m 2 (by omega) (by omega)).bind ?_
    rintro _ _ ⟨c8, k', rfl, rfl, k'0, k'1⟩
    simp
    refine ⟨_, _, rfl, c8, x', a' - k', rfl, rfl, hx', ?_⟩
    rcases ha' with rfl | rfl <;> omega
  · obtain ⟨q, hq, hqx⟩ := ix3D (.tup [.int x, .int y]) (.tup [.int x, .int y]) (.tup [.int 1000000000, .int (-1000000000)]) (way - 1) (by omega) (by omega) (penSt pre c3 m)
    have himm : q.imm = true := by rcases hq with rfl | rfl | rfl <;> simp
    simp [hp9, hqx, himm, hw0]
    rcases hq with rfl | rfl | rfl
    · exact ⟨_, _, rfl, c3, x, y, rfl, rfl, ⟨by omega, by omega⟩, by omega, by omega⟩
    · exact ⟨_, _, rfl, c3, x, y, rfl, rfl, ⟨by omega, by omega⟩, by omega, by omega⟩
    · exact ⟨_, _, rfl, c3, 1000000000, -1000000000, rfl, rfl, ⟨by omega, by omega⟩, by omega, by omega⟩
theorem lw_due_ok (st : Store) (row : List Int) (hl : row.length ≤ 1000) (x y : Int) : ∃ o, F__law_due st [encPlan (g :: rest), .tup (row.map .int), .int x, .int y] = .ok (.tup ((pressL (g :: rest) up row o).map .int)) st ∧ Found (g :: rest) up x y o := by
  obtain ⟨o, h4, hF⟩ := lw_at_ok P.b.a st ⟨g, List.mem_cons_self, P.o.gg.nm, P.o.gg.up⟩ x y
  obtain ⟨o', _, hF', hn⟩ := found_ok P.b.a st ⟨g, List.mem_cons_self, P.o.gg.nm⟩ x y
  cases hF.uniq hF'
  refine ⟨o, ?_, hF⟩
  cases o with
  | none => simp [F__law_due, B__law_due, runFn_fin, h4, encUp, dIsN, D.isNon, pressL, List.all_map, Function.comp_def, List.all_eq_true]
  | some n =>
    obtain ⟨p, hp, rfl⟩ := hn n rfl
    have h5 := line_ok st P.b.a.r (P.b.a.anc p hp) (P.b.a.len p hp)
    have hul := P.b.a.len p hp
    simp [F__law_due, B__law_due, runFn_fin, h4, encUp, dIsN, D.isNon]
    rw [lc_eq (up p.nm) D.int (takesN (g :: rest) up) D.int (by simp [iExp, h5]) (line_ge (by omega)) (fun m hm => ⟨_, rfl, by
      obtain ⟨q, hq, rfl⟩ := (P.b.a.anc p hp).mem m hm
      simp [wipeE, Tg.slots, lw_can_ok P st q hq, D.truth], fun _ => by simp [wipeE, Tg.slots]⟩)]
    have hpl : pressL (g :: rest) up row (some p.nm) = match ((up p.nm).filter (takesN (g :: rest) up)).head? with
      | none => row
      | some u => movedL row u := by
      rw [List.head?_filter]
      rfl
    rw [hpl]
    generalize (up p.nm).filter (takesN (g :: rest) up) = good
    have hd := deq_ints0 good
    cases good with
    | nil =>
      have d0 : deq (.lst []) (.lst []) = some true := deq_ints0 []
      simp [dEq, d0, own, List.all_map, Function.comp_def, List.all_eq_true]
    | cons u more =>
      have hne : decide (u :: more = []) = false := rfl
      rw [hne] at hd
      have hix := head_atI (u :: more) (by simp)
      have hog := own_ints (u :: more)
      generalize hG : (u :: more).map D.int = G at *
      simp [dEq, hd, hog]
      rw [lcV_eq (by simp [frz, vlOf, isDct]), lc_eq row D.int (fun k => !decide (k = u)) D.int (iVar_tup _ _ _ _ rfl) (line_ge (by omega)) (fun k hk => ⟨_, rfl, by simp [frz, wipeE, Tg.slots, dEq, hix], fun _ => by simp [frz, wipeE, Tg.slots]⟩)]
      have hf : (row.filter fun m => !decide (m = u)).length ≤ 1000 := Nat.le_trans (List.length_filter_le ..) hl
      have ha := dAdd_ints (row.filter fun m => !decide (m = u)) [u] st (by rw [List.length_singleton]; omega)
      have ht := dTuple_ints (movedL row u) st
      rw [List.map_cons, List.map_nil] at ha
      unfold movedL at ht
      simp only [bind_ok, hix, List.headD_cons, imm_int, if_true, ha, ht]
      rfl
end
end Lw
end
section
set_option maxRecDepth 100000
set_option linter.all false
set_option Elab.async false
set_option maxHeartbeats 1000000
namespace Lw
open PySem Dl
theorem cut_ints (ns : List Int) (lo hi : Option Int) : ∃ ms : List Int, cutD (ns.map D.int) lo hi = ms.map .int ∧ ms.length ≤ ns.length := by
  refine ⟨(ns.drop (HT.sIx (ns.map D.int).length 0 lo)).take (HT.sIx (ns.map D.int).length (ns.map D.int).length hi - HT.sIx (ns.map D.int).length 0 lo), ?_, ?_⟩
  · unfold cutD
    rw [List.map_take, List.map_drop]
  · rw [List.length_take, List.length_drop]
    omega
theorem SOut.To.mono {x : SOut} {P Q : Store → En → Prop} (h : x.To P) (h2 : ∀ st env, P st env → Q st env) : x.To Q := by
  obtain ⟨st, env, e, p⟩ := h
  exact ⟨st, env, e, h2 st env p⟩
theorem same_tup (st : Store) (k : Nat) {α : Type} (c : α → D) (l : List α) (hl : l.length ≤ 16777216) (h : ∀ a ∈ l, F__law_same k st [c a, c a] = .ok (.bl true) st) : F__law_same (k + 1) st [.tup (l.map c), .tup (l.map c)] = .ok (.bl true) st := by
  have hz : ∀ env : En, env.getD 0 .un = .vl (.tup (l.map c)) → env.getD 1 .un = .vl (.tup (l.map c)) → iZip (eVar 0) (eVar 1) st env = .ok (l.map fun a => D.tup [c a, c a]) st := fun env h0 h1 => by
    have e : List.zipWith (fun a b => D.tup [a, b]) (l.map c) (l.map c) = l.map fun a => D.tup [c a, c a] := by
      rw [List.zipWith_map, List.zipWith_self]
    simp only [iZip, x_Var, h0, h1, bind_ok, e]
  have e1 : dLen (.tup (l.map c)) st = .ok (.int l.length) st := by simp [dLen]
  have e2 : dIsi [.list, .tuple] (.tup (l.map c)) st = .ok (.bl true) st := by simp [dIsi, Ty.has]
  have e3 : dIsi [.list] (.tup (l.map c)) st = .ok (.bl false) st := by simp [dIsi, Ty.has]
  have h4 := all_true l st
  generalize hL : D.tup (l.map c) = L at *
  simp [F__law_same, B__law_same, runFn_fin, e1, e2, e3, D.truth, dEq]
  rw [lca_eq l (fun a => D.tup [c a, c a]) (fun _ => .bl true) (hz _ rfl rfl) (by rw [LINE_eq]; exact hl) (fun a ha => ⟨[.vl L, .vl L, .vl (c a), .vl (c a)], rfl, by simp [h a ha]⟩)]
  simp only [bind_ok, h4]
theorem press_len {g : Pane} {rest : List Pane} {r : Int → Nat} {up w : Int → List Int} (P : PlanC g rest r up w) (row : List Int) (o : Option Int) (hl : row.length ≤ 1000) : (pressL (g :: rest) up row o).length ≤ 16777216 := by
  unfold pressL
  cases o with
  | none => show row.length ≤ _; omega
  | some n =>
    show (match (up n).find? (takesN (g :: rest) up) with
      | none => row
      | some u => movedL row u).length ≤ _
    cases (up n).find? (takesN (g :: rest) up) with
    | none => show row.length ≤ _; omega
    | some u =>
      have := moved_len row u
      show (movedL row u).length ≤ _
      omega
def L42Inv (ns : List Int) (done : List Int) (st : Store) (env : En) : Prop := ∃ x1 x2 x3 x4 x5 x6 x7 : Sl, env = [.vl (.lst (ns.map .int)), x1, x2, x3, x4, x5, x6, x7]
def L42In (pre : Store) (m : Int) (ns : List Int) (cell : Int) (pl rw : D) (done : List Nat) (st : Store) (env : En) : Prop := ∃ (c' : Int) (x5 x6 x7 : Sl), st = penSt pre c' m ∧ env = [.vl (.lst (ns.map .int)), .vl (.int cell), .vl (.obj pre.length), .vl pl, .vl rw, x5, x6, x7]
theorem law_true (ns : List Int) (hns : ns.length ≤ 63) : ∃ st, F_law [] [.lst (ns.map .int)] = .ok (.bl true) st := by
  suffices h : (F_law [] [.lst (ns.map .int)]).To fun v _ => v = .bl true by
    obtain ⟨v, st, e, rfl⟩ := h
    exact ⟨st, e⟩
  obtain ⟨c0, hc⟩ := cell_ok [] ns 0
  have hc : F__law_cell [] [.lst (ns.map .int), .int 0] = .ok (.int c0) [] := hc
  obtain ⟨ms, hms, hml⟩ := cut_ints ns (some 1) (some 2)
  have hi := imms_ints ns
  have hs : dSl (.lst (ns.map .int)) (some 1) (some 2) [] = .ok (.lst (ms.map .int)) [] := by
    simp only [dSl, hi, if_true, hms]
  have ha := dAdd_ints [c0] ms [] (by rw [List.length_singleton]; omega)
  rw [List.map_cons, List.map_nil] at ha
  simp [-List.map_append, F_law, B_law, runFn_fin, sFor, frz, iExp, hc, hs, ha]
  refine (for_to ([c0] ++ ms) D.int (L42Inv ns) (st := []) ⟨.un, .un, .un, .un, .un, .un, .un, rfl⟩ ?_).fin ?_
  · rintro done cell more st env hd ⟨x1, x2, x3, x4, x5, x6, x7, rfl⟩
    refine ⟨_, rfl, ?_⟩
    obtain ⟨m, hpen⟩ := pen_ok st cell
    have hob : own (.obj st.length) = .vl (.obj st.length) := rfl
    simp [hpen, hob]
    refine (lw_plan_ok st cell m).stm ?_
    rintro _ _ ⟨c1, g, rest, r, rfl, rfl, hD⟩
    obtain ⟨up, w, C, hw⟩ := planC_of hD.ok
    have hop : own (encPlan (g :: rest)) = .vl (encPlan (g :: rest)) := rfl
    simp [hop]
    refine (lw_row_ok C st c1 m).stm ?_
    rintro _ _ ⟨c2, row, rfl, rfl, hR⟩
    simp [sFor, frz, iRange1]
    refine SOut.To.mono (for_to (List.range 9) (fun k => D.int k) (L42In st m ns cell (encPlan (g :: rest)) (.tup (row.map .int))) (st := penSt st c2 m) ⟨c2, x5, x6, x7, rfl, rfl⟩ ?_) ?_
    · rintro done k more st' env hd2 ⟨c', y5, y6, y7, rfl, rfl⟩
      refine ⟨_, rfl, ?_⟩
      simp
      refine (lw_point_ok C st c' m hD.gw hD.gh).stm ?_
      rintro _ _ ⟨c3, x, y, rfl, rfl, hx, hy⟩
      obtain ⟨o, hp, hF⟩ := pressed_ok C (penSt st c3 m) row hR x y hx hy
      obtain ⟨o', hp', hF'⟩ := lw_due_ok C (penSt st c3 m) row hR.len x y
      cases hF.uniq hF'
      have hsame := same_tup (penSt st c3 m) 5 D.int (pressL (g :: rest) up row o) (press_len C row o hR.len) (fun a _ => same_int _ 4 a)
      simp [Tg.set, setAll, hp, hp', hsame, D.truth]
      exact ⟨_, _, rfl, c3, _, _, _, rfl, rfl⟩
    · rintro st' env ⟨c', y5, y6, y7, rfl, rfl⟩
      exact ⟨_, _, _, _, _, _, _, rfl⟩
  · rintro st env ⟨x1, x2, x3, x4, x5, x6, x7, rfl⟩
    exact ⟨_, _, rfl, rfl⟩
end Lw
end
set_option maxRecDepth 100000 in
set_option maxHeartbeats 0 in
theorem PySem.Challenge.cw_keypanes_k42_pressed_holds : PySem.Challenge.rw_keypanes_k42_pressed.Holds := by
  exact holds_of Lw.law_true
