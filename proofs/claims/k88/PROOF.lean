import PyProof.Rows.All
import Wide.All
import OpenK.AllK
import Wide.FinOn
import KE.KStateDown
import HandS.ForMost
import HandS.Defaults
import HandS.Head0
import HandS.Head1
import HandS.Head2
import HandS.HeadEnd
import HandS.HeadHook1
import HandS.HeadHook2
import HandS.List
import HandS.Text
import KE.KeyNested
import KE.SortData
import PySem.PyData
import PySem.Syntax
import PyProof.ReprReads
import PyProof.EqLayable
import KE.KDictKeyed
import KE.KDictWalk
import HandS.Wide
import HandS.TupAny
import HandS.Flow
import HandS.Deep
import PyProof.ReprRoads
import HandS.Style
import HandS.Conv
import HandS.IsInst
import HandS.Sort
import KE.KDictSum
import PyProof.CollectStr
import PyProof.TupleOfSeq
import PyProof.Rows.RegReprOcc
import HandS.Codes
import HandS.Iter
import HandS.Walk
import KE.GoesEnum
import HandS.DictComp
import KE.KDictDisplayH
import HandS.Ends
import PyProof.ReprBulk
import PySem.Challenge.RW_everybrought_k88_whole_felt_and_told_apa
set_option Elab.async false
set_option linter.all false
set_option maxRecDepth 100000
/-! Fw1: a small language of its own (E, B, S) and what it does, over data D and a store. -/
namespace Fw
open PySem (Str PyData)

inductive D where
  | non | bl (b : Bool) | int (i : Int) | str (s : List Nat) | tup (l : List D) | ref (n : Nat)
  deriving Inhabited
mutual
def D.beq : D → D → Bool
  | .non, .non => true
  | .bl a, .bl b => a == b
  | .int a, .int b => decide (a = b)
  | .str a, .str b => decide (a = b)
  | .tup a, .tup b => D.beqs a b
  | .ref a, .ref b => decide (a = b)
  | _, _ => false
def D.beqs : List D → List D → Bool
  | [], [] => true
  | a :: as, b :: bs => D.beq a b && D.beqs as bs
  | _, _ => false
end
mutual
theorem D.beq_self : ∀ a : D, D.beq a a = true
  | .non => rfl
  | .bl a => by simp [D.beq]
  | .int a => by simp [D.beq]
  | .str a => by simp [D.beq]
  | .tup a => by rw [D.beq]; exact D.beqs_self a
  | .ref a => by simp [D.beq]
theorem D.beqs_self : ∀ a : List D, D.beqs a a = true
  | [] => rfl
  | a :: as => by rw [D.beqs, D.beq_self a, D.beqs_self as]; rfl
end
mutual
theorem D.eq_of_beq : ∀ a b : D, D.beq a b = true → a = b
  | .non, b, h => by cases b <;> first | rfl | simp [D.beq] at h
  | .bl a, b, h => by cases b <;> simp [D.beq] at h; rw [h]
  | .int a, b, h => by cases b <;> simp [D.beq] at h; rw [h]
  | .str a, b, h => by cases b <;> simp [D.beq] at h; rw [h]
  | .tup a, b, h => by
    cases b with
    | tup b => rw [D.beq] at h; rw [D.eq_of_beqs a b h]
    | _ => simp [D.beq] at h
  | .ref a, b, h => by cases b <;> simp [D.beq] at h; rw [h]
theorem D.eq_of_beqs : ∀ a b : List D, D.beqs a b = true → a = b
  | [], b, h => by cases b <;> first | rfl | simp [D.beqs] at h
  | a :: as, b, h => by
    cases b with
    | nil => simp [D.beqs] at h
    | cons b bs =>
      rw [D.beqs, Bool.and_eq_true] at h
      rw [D.eq_of_beq a b h.1, D.eq_of_beqs as bs h.2]
end
instance : DecidableEq D := fun a b => if h : D.beq a b = true then isTrue (D.eq_of_beq a b h) else isFalse fun e => h (e ▸ D.beq_self a)

/-- what stands in the store: a list (fz: it is never written), a dict, an instance of the class number c -/
inductive O where
  | lst (l : List D) (fz : Bool) | dct (kvs : List (D × D)) | ins (c : Nat) (fs : List (Str × D))
  deriving DecidableEq, Inhabited
abbrev Store := List O
abbrev Env := List (Option D)

inductive Res (α : Type) where
  | ok (a : α) | err (c : Nat) (l : List D) (G : Store) | stuck
def Res.bind {α β : Type} (r : Res α) (f : α → Res β) : Res β := match r with
  | .ok a => f a
  | .err c l G => .err c l G
  | .stuck => .stuck
@[simp] theorem Res.bind_ok {α β : Type} (a : α) (f : α → Res β) : (Res.ok a).bind f = f a := rfl
@[simp] theorem Res.bind_err {α β : Type} (c l G) (f : α → Res β) : (Res.err c l G : Res α).bind f = .err c l G := rfl
@[simp] theorem Res.bind_stuck {α β : Type} (f : α → Res β) : (Res.stuck : Res α).bind f = .stuck := rfl
def Res.of {α : Type} : Option α → Res α
  | some a => .ok a
  | none => .stuck
@[simp] theorem Res.of_some {α : Type} (a : α) : Res.of (some a) = .ok a := rfl
@[simp] theorem Res.of_none {α : Type} : Res.of (none : Option α) = .stuck := rfl
def must {α : Type} (b : Bool) (r : Res α) : Res α := if b = true then r else .stuck
@[simp] theorem must_true {α : Type} (r : Res α) : must true r = r := rfl
abbrev RD := Res (D × Store)

abbrev lim : Nat := 16777216

/-! ### the language -/
inductive Bin where | add | sub | mul | fdiv | mod | pow | shl | shr | band | bor
  deriving DecidableEq
inductive Cmp where | eq | ne | lt | le | gt | ge | in_ | nin | isn | notn
  deriving DecidableEq
inductive Bif where | len | abs | int | sum | min | max | sorted | tuple | list | dict | repr | str | all | any | sortedSet | lenSet
  deriving DecidableEq
inductive Mth where | append | extend | pop | index | count | remove | get | setdefault | update | join | replace | upper | grow
  deriving DecidableEq
inductive Ty where | int | bool | str | tuple | list | dict
  deriving DecidableEq
inductive T where
  | slot (i : Nat) | tup (l : List T)
mutual
inductive E where
  | var (i : Nat) | con (d : D)
  | bin (o : Bin) (a b : E) | neg (a : E)
  | cmp (o : Cmp) (a b : E) | chain (o p : Cmp) (a b c : E)
  | and (a b : E) | or (a b : E) | not (a : E) | ite (t : B) (a b : E)
  | tup (l : List E) | lst (l : List E) | dct (l : List E)
  | idx (a b : E) | sl (a : E) (lo hi : Option E) | rev (a : E)
  | fld (a : E) (f : Str)
  | call (f : Nat) (l : List E) | new (c f : Nat) (l : List E) | mcall (o : E) (c f : Nat) (l : List E)
  | bif (b : Bif) (l : List E) | mth (m : Mth) (o : E) (l : List E) | isT (t : Ty) (a : E) | isC (c : Nat) (a : E)
  | lc (e : E) (t : T) (it : I) (cs : List B) (own : List Nat)
  | dc (k v : E) (t : T) (it : I) (cs : List B) (own : List Nat)
inductive B where
  | and (a b : B) | or (a b : B) | not (a : B) | val (e : E)
inductive I where
  | pl (e : E) | r1 (e : E) | r2 (a b : E) | en (e : E) | zp (a b : E) | its (e : E) | vls (e : E)
end
inductive S where
  | asg (t : T) (e : E) | asub (o i e : E) | aattr (o : E) (f : Str) (e : E)
  | aug (i : Nat) (o : Bin) (e : E) | augSub (o i : E) (p : Bin) (e : E)
  | expr (e : E) | ret (e : E) | retN
  | ite (t : B) (a b : List S) | whl (t : B) (b : List S) | for_ (t : T) (it : I) (b : List S)
  | pass | brk | cont | raise (c : Nat) (l : List E)

/-! ### what the operations do -/
/-- a deep copy, without the store -/
def snaps (f : D → Option PyData) : List D → Option (List PyData)
  | [] => some []
  | d :: ds => (f d).bind fun x => (snaps f ds).map fun xs => x :: xs
def snap (G : Store) : Nat → D → Option PyData
  | _, .non => some .none
  | _, .bl b => some (.bool b)
  | _, .int i => some (.int i)
  | _, .str s => some (.str ⟨s.toArray⟩)
  | 0, _ => none
  | n + 1, .tup l => (snaps (snap G n) l).map .tuple
  | n + 1, .ref i => match G[i]? with
    | some (.lst l _) => (snaps (snap G n) l).map .list
    | _ => none
def eqS (G : Store) (a b : D) : Option Bool := (snap G 64 a).bind fun x => (snap G 64 b).bind fun y =>
  if PySem.SeqAt.shaped x && PySem.SeqAt.shaped y then some (PyData.eqv x y) else none
/-- an item equal to x -/
def memS (G : Store) (x : D) (l : List D) : Option Bool := (snap G 64 x).bind fun y => (snaps (snap G 63) l).bind fun ys =>
  if PySem.SeqAt.shaped y && PySem.SeqAt.shaped (.list ys) then some (ys.any fun z => PyData.eqv z y) else none
/-- the place of the first item equal to x -/
def indexS (G : Store) (x : D) (l : List D) : Option Nat := (snap G 64 x).bind fun y => (snaps (snap G 63) l).bind fun ys =>
  if PySem.SeqAt.shaped y && PySem.SeqAt.shaped (.list ys) then ys.findIdx? fun z => PyData.eqv z y else none

/-! keys of dicts: flat, or tuples of flat things and such tuples -/
open PySem (NestedKey)
mutual
def keyOf : D → Option NestedKey
  | .non => some .none
  | .bl b => some (.num (if b then 1 else 0))
  | .int i => some (.num i)
  | .str s => some (.text ⟨s.toArray⟩)
  | .tup l => (keysOf l).map .tup
  | .ref _ => none
def keysOf : List D → Option (List NestedKey)
  | [] => some []
  | d :: ds => (keyOf d).bind fun k => (keysOf ds).map fun ks => k :: ks
end
def isTup : D → Bool
  | .tup _ => true
  | _ => false
mutual
def dpth : D → Nat
  | .tup l => dpths l + 1
  | _ => 0
def dpths : List D → Nat
  | [] => 0
  | d :: ds => max (dpth d) (dpths ds)
end
def keyForm : D → Bool
  | .tup _ => true
  | .int _ => true
  | .str _ => true
  | _ => false
/-- a key that may stand with these -/
def keyFor (kvs : List (D × D)) (d : D) : Option NestedKey := if keyForm d && (kvs.all fun kv => isTup kv.1 == isTup d) && decide (dpth d ≤ 8) then keyOf d else none
/-- the value under a key (as keyOf gives it) -/
def lookK (k : NestedKey) : List (D × D) → Option D
  | [] => none
  | (d, v) :: r => if keyOf d = some k then some v else lookK k r
/-- the first key stays, its value is new; a new key comes last -/
def putK (k : NestedKey) (d v : D) (kvs : List (D × D)) : List (D × D) := if (lookK k kvs).isSome = true then kvs.map (fun e => if keyOf e.1 = some k then (e.1, v) else e) else kvs ++ [(d, v)]
def dropK (k : NestedKey) (kvs : List (D × D)) : List (D × D) := kvs.filter fun e => decide (keyOf e.1 ≠ some k)

def notNone : PyData → Bool
  | .none => false
  | _ => true
/-- a < b: data that are alike, place by place -/
def ltS (G : Store) (a b : D) : Option Bool := (snap G 64 a).bind fun x => (snap G 64 b).bind fun y =>
  if PySem.W.alike x y && decide (x.depth ≤ 64) && notNone x then some (PySem.W.dataLt x y) else none
def isTupNE : PyData → Bool
  | .tuple (_ :: _) => true
  | _ => false
def notNT : PyData → Bool
  | .none => false
  | .tuple _ => false
  | _ => true
/-- the data are alike, pair by pair, and can be sorted -/
def sortOk (ps : List PyData) : Bool := (ps.all fun x => ps.all fun y => PySem.W.alike x y) && (ps.all isTupNE || ps.all notNT) && ps.all fun x => decide (x.depth ≤ 64)
/-- in order, equal ones as they stood -/
def sortS (G : Store) (l : List D) : Option (List D) := (snaps (snap G 63) l).bind fun ps => if sortOk ps then some (((l.zip ps).mergeSort (PySem.W.dataLe false Prod.snd)).map Prod.fst) else none

def newO (o : O) (G : Store) : RD := .ok (.ref G.length, G ++ [o])
def mkL (l : List D) (G : Store) : RD := must (decide (l.length ≤ lim)) (newO (.lst l false) G)
def lstAt (G : Store) (d : D) : Option (List D) := match d with
  | .ref i => (match G[i]? with
    | some (.lst l false) => some l
    | _ => none)
  | _ => none
def dctAt (G : Store) (d : D) : Option (List (D × D)) := match d with
  | .ref i => (match G[i]? with
    | some (.dct l) => some l
    | _ => none)
  | _ => none
def truthS (G : Store) : D → Option Bool
  | .non => some false
  | .bl b => some b
  | .int i => some (i != 0)
  | .str s => if s.length ≤ lim then some (!s.isEmpty) else none
  | .tup l => some (!l.isEmpty)
  | .ref i => match G[i]? with
    | some (.lst l _) => some (!l.isEmpty)
    | _ => none
/-- signs one by one -/
def signs (s : List Nat) : List D := s.map fun c => .str [c]
/-- what is walked, and what must not change meanwhile -/
def walkS (G : Store) : D → Option (List D × Option (Nat × O))
  | .tup l => some (l, none)
  | .str s => some (signs s, none)
  | .ref i => match G[i]? with
    | some (.lst l f) => some (l, some (i, .lst l f))
    | _ => none
  | _ => none
/-- the items of a tuple, a text, a list -/
def itemsS (G : Store) : D → Option (List D)
  | .tup l => some l
  | .str s => some (signs s)
  | .ref i => match G[i]? with
    | some (.lst l _) => some l
    | _ => none
  | _ => none
def chk (c : Option (Nat × O)) (G : Store) : Bool := match c with
  | none => true
  | some (i, o) => decide (G[i]? = some o)

def small64 (i : Int) : Bool := decide (-(2 ^ 64) < i) && decide (i < 2 ^ 64)
def binS (o : Bin) (a b : D) (G : Store) : RD := match o, a, b with
  | .add, .int i, .int j => .ok (.int (i + j), G)
  | .add, .str s, .str t => must (decide (s.length + t.length ≤ lim)) (.ok (.str (s ++ t), G))
  | .add, .tup s, .tup t => must (decide (s.length + t.length ≤ lim)) (.ok (.tup (s ++ t), G))
  | .add, a, b => match lstAt G a, lstAt G b with
    | some s, some t => mkL (s ++ t) G
    | _, _ => .stuck
  | .sub, .int i, .int j => .ok (.int (i - j), G)
  | .mul, .int i, .int j => must (small64 i || small64 j) (.ok (.int (i * j), G))
  | .mul, a, .int j => match lstAt G a with
    | some s => must (decide (s.length * j.toNat ≤ lim) && decide (-(2 ^ 63) ≤ j) && decide (j < 2 ^ 63)) (mkL (List.replicate j.toNat s).flatten G)
    | _ => .stuck
  | .fdiv, .int i, .int j => must (decide (0 < j) && decide (j < 1073741824)) (.ok (.int (i / j), G))
  | .mod, .int i, .int j => must (decide (0 < j)) (.ok (.int (i % j), G))
  | .pow, .int i, .int j => must (decide (0 ≤ j) && decide (j ≤ 1000000) && decide (i.natAbs < 2 ^ 64)) (.ok (.int (i ^ j.toNat), G))
  | .shl, .int i, .int j => must (decide (0 ≤ j) && decide (j ≤ 1000000) && decide (i.natAbs < 2 ^ 64)) (.ok (.int (i * 2 ^ j.toNat), G))
  | .shr, .int i, .int j => must (decide (0 ≤ j)) (.ok (.int (i / 2 ^ j.toNat), G))
  | _, _, _ => .stuck
def inS (G : Store) (a b : D) : Option Bool := match b with
  | .tup l => memS G a l
  | .str t => (match a with
    | .str [c] => some (decide (c ∈ t))
    | _ => none)
  | .ref i => (match G[i]? with
    | some (.lst l _) => memS G a l
    | some (.dct kvs) => (keyFor kvs a).map fun k => (lookK k kvs).isSome
    | _ => none)
  | _ => none
def cmpS (o : Cmp) (a b : D) (G : Store) : RD := (Res.of (match o with
  | .eq => eqS G a b
  | .ne => (eqS G a b).map (! ·)
  | .lt => ltS G a b
  | .gt => (match a, b with
    | .int i, .int j => some (decide (j < i))
    | _, _ => none)
  | .le => (match a, b with
    | .int i, .int j => some (decide (i ≤ j))
    | _, _ => none)
  | .ge => (match a, b with
    | .int i, .int j => some (decide (j ≤ i))
    | _, _ => none)
  | .in_ => inS G a b
  | .nin => (inS G a b).map (! ·)
  | .isn => if b = .non then some (decide (a = .non)) else none
  | .notn => if b = .non then some (!decide (a = .non)) else none)).bind fun r => .ok (.bl r, G)
/-- a place of a row of n things, counted from behind if below 0 -/
abbrev ixN : Nat → Int → Option Nat := L2.ixN
def idxS (a b : D) (G : Store) : RD := match a with
  | .tup l => (match b with
    | .int i => Res.of (((ixN l.length i).bind fun j => l[j]?).map fun d => (d, G))
    | _ => .stuck)
  | .str s => (match b with
    | .int i => must (decide (s.length ≤ lim)) (Res.of (((ixN s.length i).bind fun j => s[j]?).map fun c => (.str [c], G)))
    | _ => .stuck)
  | .ref n => (match G[n]? with
    | some (.lst l _) => (match b with
      | .int i => Res.of (((ixN l.length i).bind fun j => l[j]?).map fun d => (d, G))
      | _ => .stuck)
    | some (.dct kvs) => Res.of (((keyFor kvs b).bind fun k => lookK k kvs).map fun d => (d, G))
    | _ => .stuck)
  | _ => .stuck
def setS (a b v : D) (G : Store) : Res Store := match a with
  | .ref n => (match G[n]? with
    | some (.lst l false) => (match b with
      | .int i => Res.of ((ixN l.length i).map fun j => G.set n (.lst (l.set j v) false))
      | _ => .stuck)
    | some (.dct kvs) => must (decide (kvs.length < lim)) (Res.of ((keyFor kvs b).map fun k => G.set n (.dct (putK k b v kvs))))
    | _ => .stuck)
  | _ => .stuck
/-- a slice, its bounds by the layer's own reckoning -/
def cut {α : Type} (xs : List α) (lo hi : Option Int) : List α :=
  let b := HT.sIx xs.length 0 lo
  (xs.drop b).take (HT.sIx xs.length xs.length hi - b)
def slS (a : D) (lo hi : Option Int) (G : Store) : RD := match a with
  | .tup l => .ok (.tup (cut l lo hi), G)
  | .str s => must (decide (s.length ≤ lim)) (.ok (.str (cut s lo hi), G))
  | .ref n => (match G[n]? with
    | some (.lst l _) => newO (.lst (cut l lo hi) false) G
    | _ => .stuck)
  | _ => .stuck
def revS (a : D) (G : Store) : RD := match a with
  | .tup l => .ok (.tup l.reverse, G)
  | .str s => must (decide (s.length ≤ lim)) (.ok (.str s.reverse, G))
  | .ref _ => (match lstAt G a with
    | some l => newO (.lst l.reverse false) G
    | _ => .stuck)
  | _ => .stuck
def fldS (a : D) (f : Str) (G : Store) : RD := match a with
  | .ref n => (match G[n]? with
    | some (.ins _ fs) => Res.of ((fs.lookup f).map fun d => (d, G))
    | _ => .stuck)
  | _ => .stuck
def putF (f : Str) (v : D) : List (Str × D) → List (Str × D)
  | [] => [(f, v)]
  | (g, x) :: r => if g = f then (g, v) :: r else (g, x) :: putF f v r
def attrS (a : D) (f : Str) (v : D) (G : Store) : Res Store := match a with
  | .ref n => (match G[n]? with
    | some (.ins c fs) => must (decide (fs.length < 1000)) (.ok (G.set n (.ins c (putF f v fs))))
    | _ => .stuck)
  | _ => .stuck
def intsOf : List D → Option (List Int)
  | [] => some []
  | .int i :: r => (intsOf r).map (i :: ·)
  | _ => none
def bolsOf : List D → Option (List Bool)
  | [] => some []
  | .bl i :: r => (bolsOf r).map (i :: ·)
  | _ => none
def strsOf : List D → Option (List (List Nat))
  | [] => some []
  | .str i :: r => (strsOf r).map (i :: ·)
  | _ => none
def seqAt (G : Store) (d : D) : Option (List D) := match d with
  | .tup l => some l
  | .ref _ => lstAt G d
  | _ => none
/-- each once, the first of equals -/
def dedup : List D → List D
  | [] => []
  | x :: xs => x :: (dedup xs).filter fun y => !decide (y = x)
def pairsOf (l : List D) : Option (List (D × D)) := match l with
  | [] => some []
  | .tup [a, b] :: r => (pairsOf r).map ((a, b) :: ·)
  | _ => none
def putAll : List (D × D) → List (D × D) → Option (List (D × D))
  | kvs, [] => some kvs
  | kvs, (a, b) :: r => (keyFor kvs a).bind fun k => putAll (putK k a b kvs) r
def pairUp : List D → Option (List (D × D))
  | [] => some []
  | a :: b :: r => (pairUp r).map ((a, b) :: ·)
  | _ => none
def lenS (a : D) (G : Store) : RD := match a with
  | .str s => must (decide (s.length ≤ lim)) (.ok (.int s.length, G))
  | .tup l => .ok (.int l.length, G)
  | .ref i => (match G[i]? with
    | some (.lst l _) => .ok (.int l.length, G)
    | some (.dct l) => must (l.all fun kv => !isTup kv.1) (.ok (.int l.length, G))
    | _ => .stuck)
  | _ => .stuck
def absS (a : D) (G : Store) : RD := match a with
  | .int i => .ok (.int (if i < 0 then -i else i), G)
  | _ => .stuck
def intS (a : D) (G : Store) : RD := match a with
  | .int i => .ok (.int i, G)
  | .bl b => .ok (.int (if b then 1 else 0), G)
  | _ => .stuck
def sumS (a : D) (G : Store) : RD := Res.of (((lstAt G a).bind intsOf).map fun l => (.int l.sum, G))
def allS (a : D) (G : Store) : RD := Res.of (((lstAt G a).bind bolsOf).map fun l => (.bl (l.all id), G))
def anyS (a : D) (G : Store) : RD := Res.of (((lstAt G a).bind bolsOf).map fun l => (.bl (l.any id), G))
def minL (x : Int) (xs : List Int) : Int := xs.foldl (fun m y => if y < m then y else m) x
def maxL (x : Int) (xs : List Int) : Int := xs.foldl (fun m y => if m < y then y else m) x
def minS (a : D) (G : Store) : RD := match (lstAt G a).bind intsOf with
  | some (x :: xs) => .ok (.int (minL x xs), G)
  | _ => .stuck
def maxS (a : D) (G : Store) : RD := match (lstAt G a).bind intsOf with
  | some (x :: xs) => .ok (.int (maxL x xs), G)
  | _ => .stuck
def sortedS (a : D) (G : Store) : RD := match itemsS G a with
  | some l => (Res.of (sortS G l)).bind fun m => mkL m G
  | _ => .stuck
def sortedSetS (a : D) (G : Store) : RD := match seqAt G a with
  | some l => (Res.of (sortS G (dedup l))).bind fun m => mkL m G
  | _ => .stuck
def lenSetS (a : D) (G : Store) : RD := match seqAt G a with
  | some l => must (l.all fun d => (keyOf d).isSome) (.ok (.int (dedup l).length, G))
  | _ => .stuck
def tupleS (a : D) (G : Store) : RD := match a with
  | .tup l => .ok (.tup l, G)
  | .ref i => (match G[i]? with
    | some (.lst l _) => .ok (.tup l, G)
    | _ => .stuck)
  | _ => .stuck
def listS (a : D) (G : Store) : RD := match a with
  | .tup l => mkL l G
  | .ref i => (match G[i]? with
    | some (.lst l _) => mkL l G
    | _ => .stuck)
  | _ => .stuck
def dictS (a : D) (G : Store) : RD := match (lstAt G a).bind pairsOf with
  | some l => (match putAll [] l with
    | some kvs => newO (.dct kvs) G
    | _ => .stuck)
  | _ => .stuck
def reprS (a : D) (G : Store) : RD := match a with
  | .ref i => (match snap G 64 (.ref i) with
    | some x => must (x.showable && !x.hasDict && decide (x.depth ≤ 64) && decide (x.shown.length ≤ lim)) (.ok (.str x.shown.cps.toList, G))
    | _ => .stuck)
  | _ => .stuck
def strS (a : D) (G : Store) : RD := match a with
  | .int i => must (decide (i.natAbs.log2 < 1920)) (.ok (.str (Str.ofString (toString i)).cps.toList, G))
  | _ => .stuck
def min2S (a b : D) (G : Store) : RD := match a, b with
  | .int i, .int j => .ok (.int (if j < i then j else i), G)
  | _, _ => .stuck
def max2S (a b : D) (G : Store) : RD := match a, b with
  | .int i, .int j => .ok (.int (if j > i then j else i), G)
  | _, _ => .stuck
def bif1 (b : Bif) (a : D) (G : Store) : RD := match b with
  | .len => lenS a G
  | .abs => absS a G
  | .int => intS a G
  | .sum => sumS a G
  | .min => minS a G
  | .max => maxS a G
  | .sorted => sortedS a G
  | .tuple => tupleS a G
  | .list => listS a G
  | .dict => dictS a G
  | .repr => reprS a G
  | .str => strS a G
  | .all => allS a G
  | .any => anyS a G
  | .sortedSet => sortedSetS a G
  | .lenSet => lenSetS a G
def bif2 (b : Bif) (a c : D) (G : Store) : RD := match b with
  | .min => min2S a c G
  | .max => max2S a c G
  | _ => .stuck
def bifS (b : Bif) (as : List D) (G : Store) : RD := match as with
  | [a] => bif1 b a G
  | [a, c] => bif2 b a c G
  | _ => .stuck
inductive Kd where | lst | dct | str | tup
  deriving DecidableEq
/-- of what kind a value is -/
def kindOf (G : Store) : D → Option Kd
  | .str _ => some .str
  | .tup _ => some .tup
  | .ref n => match G[n]? with
    | some (.lst ..) => some .lst
    | some (.dct _) => some .dct
    | _ => none
  | _ => none
/-- the methods that are known here -/
def msup : Kd → Mth → Bool
  | .lst, .append => true
  | .lst, .extend => true
  | .lst, .pop => true
  | .lst, .index => true
  | .dct, .get => true
  | .str, .join => true
  | .str, .count => true
  | _, _ => false
def mthL (m : Mth) (n : Nat) (l : List D) (fz : Bool) (as : List D) (G : Store) : RD := match m with
  | .append => (match as with
    | [d] => must (!fz && decide (l.length < lim)) (.ok (.non, G.set n (.lst (l ++ [d]) false)))
    | _ => .stuck)
  | .extend => (match as with
    | [e] => (match lstAt G e with
      | some k => must (!fz && decide (l.length + k.length ≤ lim)) (.ok (.non, G.set n (.lst (l ++ k) false)))
      | _ => .stuck)
    | _ => .stuck)
  | .pop => (match as with
    | [] => must (!fz) (Res.of (l[l.length - 1]?.map fun d => (d, G.set n (.lst l.dropLast false))))
    | [i] => (match i with
      | .int i => must (!fz && decide (-(2 ^ 63) ≤ i) && decide (i < 2 ^ 63)) (Res.of ((ixN l.length i).bind fun j => l[j]?.map fun d => (d, G.set n (.lst (l.eraseIdx j) false))))
      | _ => .stuck)
    | _ => .stuck)
  | .index => (match as with
    | [d] => Res.of ((indexS G d l).map fun (j : Nat) => (D.int (j : Int), G))
    | _ => .stuck)
  | _ => .stuck
def mthD (m : Mth) (kvs : List (D × D)) (as : List D) (G : Store) : RD := match m with
  | .get => (match as with
    | [k, d] => Res.of ((keyFor kvs k).map fun q => ((lookK q kvs).getD d, G))
    | _ => .stuck)
  | _ => .stuck
def mthT (m : Mth) (s : List Nat) (as : List D) (G : Store) : RD := match m with
  | .join => (match as with
    | [a] => (match (lstAt G a).bind strsOf with
      | some l => must (decide ((l.map List.length).sum + l.length * s.length ≤ lim)) (.ok (.str (TL.joinL s l), G))
      | _ => .stuck)
    | _ => .stuck)
  | .count => (match as with
    | [a] => (match a with
      | .str [c] => .ok (.int (s.count c : Nat), G)
      | _ => .stuck)
    | _ => .stuck)
  | _ => .stuck
def mthS (kd : Kd) (m : Mth) (o : D) (as : List D) (G : Store) : RD := match kd, o with
  | .lst, .ref n => (match G[n]? with
    | some (.lst l fz) => mthL m n l fz as G
    | _ => .stuck)
  | .dct, .ref n => (match G[n]? with
    | some (.dct kvs) => mthD m kvs as G
    | _ => .stuck)
  | .str, .str s => mthT m s as G
  | _, _ => .stuck
def isTyS (t : Ty) (a : D) (G : Store) : RD := match a with
  | .non => .ok (.bl false, G)
  | .bl _ => .ok (.bl (t == .int || t == .bool), G)
  | .int _ => .ok (.bl (t == .int), G)
  | .str _ => .ok (.bl (t == .str), G)
  | .tup _ => .ok (.bl (t == .tuple), G)
  | .ref n => (match G[n]? with
    | some (.lst ..) => .ok (.bl (t == .list), G)
    | some (.dct ..) => .ok (.bl (t == .dict), G)
    | _ => .stuck)
def isClsS (c : Nat) (a : D) (G : Store) : RD := match a with
  | .ref n => (match G[n]? with
    | some (.ins d _) => .ok (.bl (c == d), G)
    | _ => .stuck)
  | _ => .stuck

/-! ### the interpreter -/
structure Ctx where
  call : Nat → List D → Store → RD
  fuel : Nat
def getV (env : Env) (i : Nat) (G : Store) : RD := match env[i]? with
  | some (some d) => .ok (d, G)
  | _ => .stuck
def wipe (env : Env) : List Nat → Env
  | [] => env
  | v :: vs => (wipe env vs).set v none
mutual
def asgT : T → D → Env → Option Env
  | .slot i, d, env => some (env.set i (some d))
  | .tup ts, .tup ds, env => asgTs ts ds env
  | .tup _, _, _ => none
def asgTs : List T → List D → Env → Option Env
  | [], [], env => some env
  | t :: ts, d :: ds, env => (asgT t d env).bind fun e => asgTs ts ds e
  | _, _, _ => none
end
def zipD : List D → List D → List D
  | a :: as, b :: bs => .tup [a, b] :: zipD as bs
  | _, _ => []
def enumD : Nat → List D → List D
  | _, [] => []
  | n, a :: as => .tup [.int n, a] :: enumD (n + 1) as
def rangeD (a : Int) : Nat → List D
  | 0 => []
  | n + 1 => .int a :: rangeD (a + 1) n
abbrev Wk := List D × Option (Nat × O) × Option (Nat × O)
def small (i : Int) : Bool := decide (-(2 ^ 62) ≤ i) && decide (i < 2 ^ 62)
def lcL (c c' : Option (Nat × O)) (f : D → Store → Res (Option D × Store)) : List D → Store → Res (List D × Store)
  | [], G => must (chk c G && chk c' G) (.ok ([], G))
  | x :: xs, G => must (chk c G && chk c' G) ((f x G).bind fun r => (lcL c c' f xs r.2).bind fun q => .ok (r.1.toList ++ q.1, q.2))
def dcL (c c' : Option (Nat × O)) (f : D → Store → Res (Option (D × D) × Store)) : List D → List (D × D) → Store → Res (List (D × D) × Store)
  | [], kvs, G => must (chk c G && chk c' G) (.ok (kvs, G))
  | x :: xs, kvs, G => must (chk c G && chk c' G) ((f x G).bind fun r => match r.1 with
    | none => dcL c c' f xs kvs r.2
    | some (k, v) => must (decide (kvs.length < lim)) (match keyFor kvs k with
      | some q => dcL c c' f xs (putK q k v kvs) r.2
      | none => .stuck))
mutual
def evE (C : Ctx) : E → Env → Store → RD
  | .var i, env, G => getV env i G
  | .con d, _, G => .ok (d, G)
  | .bin o a b, env, G => (evE C a env G).bind fun x => (evE C b env x.2).bind fun y => binS o x.1 y.1 y.2
  | .neg a, env, G => (evE C a env G).bind fun x => match x.1 with
    | .int i => .ok (.int (-i), x.2)
    | _ => .stuck
  | .cmp o a b, env, G => (evE C a env G).bind fun x => (evE C b env x.2).bind fun y => cmpS o x.1 y.1 y.2
  | .chain o p a b c, env, G => (evE C a env G).bind fun x => (evE C b env x.2).bind fun y => (cmpS o x.1 y.1 y.2).bind fun z => match z.1 with
    | .bl true => (evE C c env z.2).bind fun w => cmpS p y.1 w.1 w.2
    | .bl false => .ok (.bl false, z.2)
    | _ => .stuck
  | .and a b, env, G => (evE C a env G).bind fun x => match truthS x.2 x.1 with
    | some true => evE C b env x.2
    | some false => .ok x
    | none => .stuck
  | .or a b, env, G => (evE C a env G).bind fun x => match truthS x.2 x.1 with
    | some false => evE C b env x.2
    | some true => .ok x
    | none => .stuck
  | .not a, env, G => (evE C a env G).bind fun x => match truthS x.2 x.1 with
    | some b => .ok (.bl (!b), x.2)
    | none => .stuck
  | .ite t a b, env, G => (evB C t env G).bind fun x => match x.1 with
    | true => evE C a env x.2
    | false => evE C b env x.2
  | .tup l, env, G => (evEs C l env G).bind fun x => must (decide (x.1.length ≤ lim)) (.ok (.tup x.1, x.2))
  | .lst l, env, G => (evEs C l env G).bind fun x => mkL x.1 x.2
  | .dct l, env, G => (evEs C l env G).bind fun x => match (pairUp x.1).bind (putAll []) with
    | some kvs => newO (.dct kvs) x.2
    | none => .stuck
  | .idx a b, env, G => (evE C a env G).bind fun x => (evE C b env x.2).bind fun y => idxS x.1 y.1 y.2
  | .sl a lo hi, env, G => (evE C a env G).bind fun x => (evO C lo env x.2).bind fun y => (evO C hi env y.2).bind fun z => slS x.1 y.1 z.1 z.2
  | .rev a, env, G => (evE C a env G).bind fun x => revS x.1 x.2
  | .fld a f, env, G => (evE C a env G).bind fun x => fldS x.1 f x.2
  | .call f l, env, G => (evEs C l env G).bind fun x => C.call f x.1 x.2
  | .new c f l, env, G => (evEs C l env G).bind fun x => (C.call f (.ref x.2.length :: x.1) (x.2 ++ [.ins c []])).bind fun y => match y.1 with
    | .non => .ok (.ref x.2.length, y.2)
    | _ => .stuck
  | .mcall o c f l, env, G => (evE C o env G).bind fun x => match x.1 with
    | .ref n => (match x.2[n]? with
      | some (.ins d _) => must (decide (d = c)) ((evEs C l env x.2).bind fun y => C.call f (.ref n :: y.1) y.2)
      | _ => .stuck)
    | _ => .stuck
  | .bif b l, env, G => (evEs C l env G).bind fun x => bifS b x.1 x.2
  | .mth m o l, env, G => (evE C o env G).bind fun x => match kindOf x.2 x.1 with
    | some kd => must (msup kd m) ((evEs C l env x.2).bind fun y => mthS kd m x.1 y.1 y.2)
    | none => .stuck
  | .isT t a, env, G => (evE C a env G).bind fun x => isTyS t x.1 x.2
  | .isC c a, env, G => (evE C a env G).bind fun x => isClsS c x.1 x.2
  | .lc e t it cs own, env, G => (evI C it env G).bind fun w => (lcL w.1.2.1 w.1.2.2 (fun d G => match asgT t d (wipe env own) with
      | some e2 => (evBs C cs e2 G).bind fun b => (match b.1 with
        | true => (evE C e e2 b.2).bind fun v => .ok (some v.1, v.2)
        | false => .ok (none, b.2))
      | none => .stuck) w.1.1 w.2).bind fun q => mkL q.1 q.2
  | .dc k v t it cs own, env, G => (evI C it env G).bind fun w => (dcL w.1.2.1 w.1.2.2 (fun d G => match asgT t d (wipe env own) with
      | some e2 => (evBs C cs e2 G).bind fun b => (match b.1 with
        | true => (evE C k e2 b.2).bind fun x => (evE C v e2 x.2).bind fun y => .ok (some (x.1, y.1), y.2)
        | false => .ok (none, b.2))
      | none => .stuck) w.1.1 [] w.2).bind fun q => newO (.dct q.1) q.2
def evEs (C : Ctx) : List E → Env → Store → Res (List D × Store)
  | [], _, G => .ok ([], G)
  | e :: es, env, G => (evE C e env G).bind fun x => (evEs C es env x.2).bind fun y => .ok (x.1 :: y.1, y.2)
def evO (C : Ctx) : Option E → Env → Store → Res (Option Int × Store)
  | none, _, G => .ok (none, G)
  | some e, env, G => (evE C e env G).bind fun x => match x.1 with
    | .int i => .ok (some i, x.2)
    | _ => .stuck
def evB (C : Ctx) : B → Env → Store → Res (Bool × Store)
  | .and a b, env, G => (evB C a env G).bind fun x => match x.1 with
    | true => evB C b env x.2
    | false => .ok (false, x.2)
  | .or a b, env, G => (evB C a env G).bind fun x => match x.1 with
    | false => evB C b env x.2
    | true => .ok (true, x.2)
  | .not a, env, G => (evB C a env G).bind fun x => .ok (!x.1, x.2)
  | .val e, env, G => (evE C e env G).bind fun x => Res.of ((truthS x.2 x.1).map fun b => (b, x.2))
def evBs (C : Ctx) : List B → Env → Store → Res (Bool × Store)
  | [], _, G => .ok (true, G)
  | b :: bs, env, G => (evB C b env G).bind fun x => match x.1 with
    | true => evBs C bs env x.2
    | false => .ok (false, x.2)
def evI (C : Ctx) : I → Env → Store → Res (Wk × Store)
  | .pl e, env, G => (evE C e env G).bind fun x => Res.of ((walkS x.2 x.1).map fun w => ((w.1, w.2, none), x.2))
  | .r1 e, env, G => (evE C e env G).bind fun x => match x.1 with
    | .int j => must (small j) (.ok ((rangeD 0 j.toNat, none, none), x.2))
    | _ => .stuck
  | .r2 a b, env, G => (evE C a env G).bind fun x => (evE C b env x.2).bind fun y => match x.1, y.1 with
    | .int i, .int j => must (small i && small j) (.ok ((rangeD i (j - i).toNat, none, none), y.2))
    | _, _ => .stuck
  | .en e, env, G => (evE C e env G).bind fun x => Res.of ((walkS x.2 x.1).map fun w => ((enumD 0 w.1, w.2, none), x.2))
  | .zp a b, env, G => (evE C a env G).bind fun x => (evE C b env x.2).bind fun y => Res.of ((walkS y.2 x.1).bind fun w => (walkS y.2 y.1).map fun z => ((zipD w.1 z.1, w.2, z.2), y.2))
  | .its e, env, G => (evE C e env G).bind fun x => match x.1 with
    | .ref n => (match x.2[n]? with
      | some (.dct kvs) => .ok ((kvs.map fun kv => .tup [kv.1, kv.2], some (n, .dct kvs), none), x.2)
      | _ => .stuck)
    | _ => .stuck
  | .vls e, env, G => (evE C e env G).bind fun x => match x.1 with
    | .ref n => (match x.2[n]? with
      | some (.dct kvs) => .ok ((kvs.map fun kv => kv.2, some (n, .dct kvs), none), x.2)
      | _ => .stuck)
    | _ => .stuck
end
inductive Flow where
  | next | brk | cont | ret (d : D)
abbrev RS := Res (Flow × Env × Store)
def forL (c c' : Option (Nat × O)) (t : T) (f : Env → Store → RS) : List D → Env → Store → RS
  | [], env, G => must (chk c G && chk c' G) (.ok (.next, env, G))
  | x :: xs, env, G => must (chk c G && chk c' G) (match asgT t x env with
    | some e => (f e G).bind fun r => match r.1 with
      | .next => forL c c' t f xs r.2.1 r.2.2
      | .cont => forL c c' t f xs r.2.1 r.2.2
      | .brk => .ok (.next, r.2)
      | .ret d => .ok (.ret d, r.2)
    | none => .stuck)
def whileL (g : Env → Store → Res (Bool × Store)) (f : Env → Store → RS) : Nat → Env → Store → RS
  | 0, _, _ => .stuck
  | n + 1, env, G => (g env G).bind fun b => match b.1 with
    | false => .ok (.next, env, b.2)
    | true => (f env b.2).bind fun r => match r.1 with
      | .next => whileL g f n r.2.1 r.2.2
      | .cont => whileL g f n r.2.1 r.2.2
      | .brk => .ok (.next, r.2)
      | .ret d => .ok (.ret d, r.2)
mutual
def evS (C : Ctx) : S → Env → Store → RS
  | .asg t e, env, G => (evE C e env G).bind fun x => Res.of ((asgT t x.1 env).map fun e2 => (.next, e2, x.2))
  | .asub o i e, env, G => (evE C e env G).bind fun v => (evE C o env v.2).bind fun x => (evE C i env x.2).bind fun y => (setS x.1 y.1 v.1 y.2).bind fun H => .ok (.next, env, H)
  | .aattr o f e, env, G => (evE C e env G).bind fun v => (evE C o env v.2).bind fun x => (attrS x.1 f v.1 x.2).bind fun H => .ok (.next, env, H)
  | .aug i o e, env, G => (getV env i G).bind fun x => (evE C e env x.2).bind fun y => match x.1, y.1 with
    | .int _, .int _ => (binS o x.1 y.1 y.2).bind fun z => .ok (.next, env.set i (some z.1), z.2)
    | _, _ => .stuck
  | .augSub .., _, _ => .stuck
  | .expr e, env, G => (evE C e env G).bind fun x => .ok (.next, env, x.2)
  | .ret e, env, G => (evE C e env G).bind fun x => .ok (.ret x.1, env, x.2)
  | .retN, env, G => .ok (.ret .non, env, G)
  | .ite t a b, env, G => (evB C t env G).bind fun x => match x.1 with
    | true => evSs C a env x.2
    | false => evSs C b env x.2
  | .whl t b, env, G => whileL (evB C t) (evSs C b) C.fuel env G
  | .for_ t it b, env, G => (evI C it env G).bind fun w => forL w.1.2.1 w.1.2.2 t (evSs C b) w.1.1 env w.2
  | .pass, env, G => .ok (.next, env, G)
  | .brk, env, G => .ok (.brk, env, G)
  | .cont, env, G => .ok (.cont, env, G)
  | .raise c l, env, G => (evEs C l env G).bind fun x => .err c x.1 x.2
def evSs (C : Ctx) : List S → Env → Store → RS
  | [], env, G => .ok (.next, env, G)
  | s :: ss, env, G => (evS C s env G).bind fun r => match r.1 with
    | .next => evSs C ss r.2.1 r.2.2
    | f => .ok (f, r.2)
end
/-- a def: how many parameters, how many slots, its body -/
structure Fn where
  ps : Nat
  ns : Nat
  body : List S
def runFn (C : Ctx) (f : Fn) (as : List D) (G : Store) : RD := must (decide (as.length = f.ps)) ((evSs C f.body (as.map some ++ List.replicate (f.ns - f.ps) none) G).bind fun r => match r.1 with
  | .ret d => .ok (d, r.2.2)
  | .next => .ok (.non, r.2.2)
  | _ => .stuck)
/-- a program, called at most k deep -/
def callP (P : List Fn) (N : Nat) : Nat → Nat → List D → Store → RD
  | 0, _, _, _ => .stuck
  | k + 1, f, as, G => match P[f]? with
    | some fn => runFn ⟨callP P N k, N⟩ fn as G
    | none => .stuck
end Fw

/-! Fw2a: how the data D and the store of Fw1 stand in the layer's abstract heap. -/
namespace Fw
open L2 PySem PySem.Spec PyProof.Rows

/-- the law's world: the program, the written part, where classes and defs stand -/
structure Wd where
  P : Program
  w : World
  K : PySem.W.Frag
  mg : Str → Option Value
  base : Heap
  cad : Nat → Addr
  fad : Nat → Addr
  flds : List Str
variable {W : Wd}
mutual
/-- the value v is the datum d -/
inductive Dn (W : Wd) (ρ : List Addr) (H : Hp) : V → D → Prop
  | non : Dn W ρ H .non .non
  | bl (b : Bool) : Dn W ρ H (.bl b) (.bl b)
  | int (i : Int) : Dn W ρ H (.int i) (.int i)
  | str (s : List Nat) : Dn W ρ H (.str ⟨s.toArray⟩) (.str s)
  | tup {a : Addr} {vs : List V} {ds : List D} : SqT W.K H a vs → Dns W ρ H vs ds → Dn W ρ H (.ref a) (.tup ds)
  | ref {a : Addr} {n : Nat} : ρ[n]? = some a → Dn W ρ H (.ref a) (.ref n)
inductive Dns (W : Wd) (ρ : List Addr) (H : Hp) : List V → List D → Prop
  | nil : Dns W ρ H [] []
  | cons {v : V} {vs : List V} {d : D} {ds : List D} : Dn W ρ H v d → Dns W ρ H vs ds → Dns W ρ H (v :: vs) (d :: ds)
end
/-- a place that the row does not know (its first place is the script's) -/
def Off (ρ : List Addr) (a : Addr) : Prop := ∀ i : Nat, i ≠ 0 → ρ[i]? ≠ some a
/-- later: more objects, the tuples as they were -/
structure Ex (W : Wd) (ρ : List Addr) (H : Hp) (ρ' : List Addr) (H' : Hp) : Prop where
  pre : ∀ (i : Nat) (a : Addr), ρ[i]? = some a → ρ'[i]? = some a
  tup : ∀ a vs, SqT W.K H a vs → SqT W.K H' a vs
  /-- what the row of places does not know stays as it is -/
  off : ∀ a u, H a = some u → Off ρ a → H' a = some u ∧ Off ρ' a
section
variable {ρ ρ' ρ'' : List Addr} {H H' H'' : Hp} {v : V} {d : D} {vs ws : List V} {ds es : List D}
theorem Ex.refl : Ex W ρ H ρ H := ⟨fun _ _ h => h, fun _ _ h => h, fun _ _ h n => ⟨h, n⟩⟩
theorem Ex.trans (x : Ex W ρ H ρ' H') (y : Ex W ρ' H' ρ'' H'') : Ex W ρ H ρ'' H'' := ⟨fun i a h => y.pre i a (x.pre i a h), fun a l h => y.tup a l (x.tup a l h), fun a u h n => let z := x.off a u h n; y.off a u z.1 z.2⟩
mutual
theorem Dn.pl (x1 : ∀ (i : Nat) (a : Addr), ρ[i]? = some a → ρ'[i]? = some a) (x2 : ∀ a vs, SqT W.K H a vs → SqT W.K H' a vs) : ∀ {v : V} {d : D}, Dn W ρ H v d → Dn W ρ' H' v d
  | _, _, .non => .non
  | _, _, .bl b => .bl b
  | _, _, .int i => .int i
  | _, _, .str s => .str s
  | _, _, .tup h1 h2 => .tup (x2 _ _ h1) (Dns.pl x1 x2 h2)
  | _, _, .ref h => .ref (x1 _ _ h)
theorem Dns.pl (x1 : ∀ (i : Nat) (a : Addr), ρ[i]? = some a → ρ'[i]? = some a) (x2 : ∀ a vs, SqT W.K H a vs → SqT W.K H' a vs) : ∀ {vs : List V} {ds : List D}, Dns W ρ H vs ds → Dns W ρ' H' vs ds
  | _, _, .nil => .nil
  | _, _, .cons h1 h2 => .cons (Dn.pl x1 x2 h1) (Dns.pl x1 x2 h2)
end
theorem Dn.ex (x : Ex W ρ H ρ' H') (h : Dn W ρ H v d) : Dn W ρ' H' v d := h.pl x.pre x.tup
theorem Dns.ex (x : Ex W ρ H ρ' H') (h : Dns W ρ H vs ds) : Dns W ρ' H' vs ds := h.pl x.pre x.tup
theorem Dns.length : ∀ {vs : List V} {ds : List D}, Dns W ρ H vs ds → vs.length = ds.length
  | _, _, .nil => rfl
  | _, _, .cons _ h => by simp [h.length]
theorem Dns.get : ∀ {vs : List V} {ds : List D} {i : Nat} {d : D}, Dns W ρ H vs ds → ds[i]? = some d → ∃ v, vs[i]? = some v ∧ Dn W ρ H v d
  | _, _, _, _, .nil, e => by simp at e
  | _, _, 0, _, .cons h _, e => by simp at e; subst e; exact ⟨_, rfl, h⟩
  | _, _, i + 1, _, .cons _ h, e => by
    obtain ⟨v, e1, e2⟩ := h.get (i := i) (by simpa using e)
    exact ⟨v, by simpa using e1, e2⟩
theorem Dns.app : ∀ {vs : List V} {ds : List D}, Dns W ρ H vs ds → Dns W ρ H ws es → Dns W ρ H (vs ++ ws) (ds ++ es)
  | _, _, .nil, h => h
  | _, _, .cons a b, h => .cons a (b.app h)
theorem Dns.take : ∀ {vs : List V} {ds : List D} (n : Nat), Dns W ρ H vs ds → Dns W ρ H (vs.take n) (ds.take n)
  | _, _, 0, _ => by simp; exact .nil
  | _, _, n + 1, .nil => .nil
  | _, _, n + 1, .cons a b => .cons a (b.take n)
theorem Dns.drop : ∀ {vs : List V} {ds : List D} (n : Nat), Dns W ρ H vs ds → Dns W ρ H (vs.drop n) (ds.drop n)
  | _, _, 0, h => h
  | _, _, n + 1, .nil => .nil
  | _, _, n + 1, .cons a b => b.drop n
theorem Dns.rev {vs : List V} {ds : List D} (h : Dns W ρ H vs ds) : Dns W ρ H vs.reverse ds.reverse := by
  induction vs generalizing ds with
  | nil => cases h; exact .nil
  | cons v vs ih =>
    cases h with
    | cons a b => simp only [List.reverse_cons]; exact (ih b).app (.cons a .nil)
theorem Dns.set {v : V} {d : D} (hd : Dn W ρ H v d) : ∀ {vs : List V} {ds : List D} (i : Nat), Dns W ρ H vs ds → Dns W ρ H (vs.set i v) (ds.set i d)
  | _, _, _, .nil => .nil
  | _, _, 0, .cons _ b => .cons hd b
  | _, _, i + 1, .cons a b => .cons a (b.set hd i)
theorem Dns.erase : ∀ {vs : List V} {ds : List D} (i : Nat), Dns W ρ H vs ds → Dns W ρ H (vs.eraseIdx i) (ds.eraseIdx i)
  | _, _, _, .nil => .nil
  | _, _, 0, .cons _ b => b
  | _, _, i + 1, .cons a b => .cons a (b.erase i)
theorem Dns.cut {α : Type} (h : Dns W ρ H vs ds) (lo hi : Option Int) : Dns W ρ H (Fw.cut vs lo hi) (Fw.cut ds lo hi) := by
  unfold Fw.cut
  simp only [h.length]
  exact (h.drop _).take _
theorem Dns.split : ∀ {ds es : List D} {us : List V}, Dns W ρ H us (ds ++ es) → ∃ vs ws, us = vs ++ ws ∧ Dns W ρ H vs ds ∧ Dns W ρ H ws es
  | [], _, us, h => ⟨[], us, rfl, .nil, h⟩
  | d :: ds, _, _, h => by
    cases h with
    | cons a b =>
      obtain ⟨vs, ws, e, h1, h2⟩ := Dns.split b
      exact ⟨_ :: vs, ws, by rw [e]; rfl, .cons a h1, h2⟩
end

/-- a dict whose keys are tuples: key, the tuple's place, value -/
def dctO (W : Wd) (a : Addr) (xs : List (NestedKey × Addr × V)) : HO := .ext fun h => (a == sysModules) = false ∧ xs.length ≤ sizeLine ∧ ∃ o es ep, h.get? a = some o ∧ o.ExactDict ∧ o.data = .dict es ep ∧
  Paired (fun (e : DictEntry) (x : NestedKey × Addr × V) => e.hash = x.1.hash W.w ∧ e.key = .ref x.2.1 ∧ RelV x.2.2 e.val) es.toList xs
def flatD : Key → D
  | .inl i => .int i
  | .inr x => .str x.cps.toList
def DctK (W : Wd) (ρ : List Addr) (H : Hp) : List (Key × V) → List (D × D) → Prop := Paired fun x kv => kv.1 = flatD x.1 ∧ Dn W ρ H x.2 kv.2
def DctT (W : Wd) (ρ : List Addr) (H : Hp) : List (NestedKey × Addr × V) → List (D × D) → Prop := Paired fun x kv => keyOf kv.1 = some x.1 ∧ dpth kv.1 ≤ 8 ∧ isTup kv.1 = true ∧ Dn W ρ H (.ref x.2.1) kv.1 ∧ Dn W ρ H x.2.2 kv.2
def Flds (W : Wd) (ρ : List Addr) (H : Hp) : List (Str × V) → List (Str × D) → Prop := Paired fun x y => x.1 = y.1 ∧ Dn W ρ H x.2 y.2
/-- a list that is never written -/
def SqF (K : PySem.W.Frag) (H : Hp) (a : Addr) (vs : List V) : Prop := (∃ ob, H a = some (.frz ob (.lst vs))) ∨ ∀ H', SqL K H' a vs
theorem SqF.sq {K : PySem.W.Frag} {H : Hp} {a : Addr} {vs : List V} (h : SqF K H a vs) : SqL K H a vs := by
  rcases h with ⟨ob, h⟩ | h
  · exact .inl (.inr ⟨ob, h⟩)
  · exact h H
/-- the object at a is o -/
def OOk (W : Wd) (ρ : List Addr) (H : Hp) (a : Addr) : O → Prop
  | .lst l fz => ∃ vs, Dns W ρ H vs l ∧ ((fz = true ∧ SqF W.K H a vs) ∨ (fz = false ∧ H a = some (.lst vs)))
  | .dct kvs => (kvs.map fun kv => keyOf kv.1).Nodup ∧ ((∃ xs, H a = some (.dK xs) ∧ DctK W ρ H xs kvs) ∨ ∃ xs, xs ≠ [] ∧ H a = some (dctO W a xs) ∧ DctT W ρ H xs kvs)
  | .ins c fs => (Cls W.K (W.cad c) ∧ ∀ f ∈ W.flds, NoAttr W.K (W.cad c) f) ∧ (∀ x ∈ fs, x.1 ∈ W.flds) ∧ ∃ dx vs, H a = some (.ins (W.cad c) dx vs) ∧ Flds W ρ H vs fs
structure Rel (W : Wd) (ρ : List Addr) (G : Store) (H : Hp) : Prop where
  len : ρ.length = G.length
  obj : ∀ (i : Nat) (a : Addr) (o : O), ρ[i]? = some a → G[i]? = some o → OOk W ρ H a o
  sep : ∀ (i j : Nat) (a : Addr), i ≠ 0 → j ≠ 0 → i ≠ j → ρ[i]? = some a → ρ[j]? = some a → False
  scr : ∃ l, G[0]? = some (.lst l true)
  fz : ∀ (i : Nat) (l : List D), G[i]? = some (.lst l true) → i = 0
def EnvOk (W : Wd) (ρ : List Addr) (H : Hp) (σ : L2.St) (env : Env) : Prop := σ.length = env.length ∧ ∀ (i : Nat) (d : D), env[i]? = some (some d) → ∃ v, σ[i]? = some (some v) ∧ Dn W ρ H v d
section
variable {ρ ρ' : List Addr} {H H' : Hp} {G : Store} {a : Addr} {σ : L2.St} {env : Env}
theorem EnvOk.ex (e : EnvOk W ρ H σ env) (x : Ex W ρ H ρ' H') : EnvOk W ρ' H' σ env := ⟨e.1, fun i d h => let ⟨v, h1, h2⟩ := e.2 i d h; ⟨v, h1, h2.ex x⟩⟩
theorem EnvOk.set (e : EnvOk W ρ H σ env) {v : V} {d : D} (h : Dn W ρ H v d) (i : Nat) : EnvOk W ρ H (σ.set i (some v)) (env.set i (some d)) := by
  refine ⟨by simp [e.1], fun j u hu => ?_⟩
  by_cases hj : i = j
  · subst hj
    have hl : i < env.length := by
      rcases Nat.lt_or_ge i env.length with q | q
      · exact q
      · rw [List.getElem?_eq_none (by simpa using q)] at hu; cases hu
    rw [List.getElem?_set_self hl] at hu
    cases hu
    exact ⟨v, by rw [List.getElem?_set_self (by rw [e.1]; exact hl)], h⟩
  · rw [List.getElem?_set_ne hj] at hu ⊢
    exact e.2 j u hu
theorem EnvOk.unset (e : EnvOk W ρ H σ env) (i : Nat) : EnvOk W ρ H (σ.set i none) (env.set i none) := by
  refine ⟨by simp [e.1], fun j u hu => ?_⟩
  by_cases hj : i = j
  · subst hj
    rcases Nat.lt_or_ge i env.length with q | q
    · rw [List.getElem?_set_self q] at hu; cases hu
    · rw [List.getElem?_eq_none (by simpa using q)] at hu; cases hu
  · rw [List.getElem?_set_ne hj] at hu ⊢
    exact e.2 j u hu
theorem EnvOk.wipe (e : EnvOk W ρ H σ env) : ∀ vs : List Nat, EnvOk W ρ H (L2.wipe σ vs) (Fw.wipe env vs)
  | [] => e
  | v :: vs => (EnvOk.wipe e vs).unset v
theorem DctK.ex (x : Ex W ρ H ρ' H') {xs : List (Key × V)} {kvs : List (D × D)} (h : DctK W ρ H xs kvs) : DctK W ρ' H' xs kvs := Paired.mapP h fun _ _ q => ⟨q.1, q.2.ex x⟩
theorem DctT.ex (x : Ex W ρ H ρ' H') {xs : List (NestedKey × Addr × V)} {kvs : List (D × D)} (h : DctT W ρ H xs kvs) : DctT W ρ' H' xs kvs := Paired.mapP h fun _ _ q => ⟨q.1, q.2.1, q.2.2.1, q.2.2.2.1.ex x, q.2.2.2.2.ex x⟩
theorem Flds.ex (x : Ex W ρ H ρ' H') {xs : List (Str × V)} {kvs : List (Str × D)} (h : Flds W ρ H xs kvs) : Flds W ρ' H' xs kvs := Paired.mapP h fun _ _ q => ⟨q.1, q.2.ex x⟩
theorem SqT.upd {K : PySem.W.Frag} {p : Addr} {o : HO} (hp : H p = none ∨ ∃ u, H p = some u ∧ (∀ vs, u ≠ .tup vs) ∧ ∀ ob w, u ≠ .frz ob w) {b : Addr} {vs : List V} (h : SqT K H b vs) : SqT K (upd H p o) b vs := by
  rcases h with (h | ⟨ob, h⟩) | h
  · refine .inl (.inl ?_)
    rw [upd_ne ?_]; exact h
    rintro rfl
    rcases hp with q | ⟨u, q, n1, n2⟩
    · rw [q] at h; cases h
    · rw [q] at h; exact n1 vs (Option.some.inj h)
  · refine .inl (.inr ⟨ob, ?_⟩)
    rw [upd_ne ?_]; exact h
    rintro rfl
    rcases hp with q | ⟨u, q, n1, n2⟩
    · rw [q] at h; cases h
    · rw [q] at h; exact n2 _ _ (Option.some.inj h)
  · exact .inr h
theorem SqL.upd {K : PySem.W.Frag} {p : Addr} {o : HO} (hp : H p = none ∨ ∃ u, H p = some u ∧ (∀ ob w, u ≠ .frz ob w)) {b : Addr} {vs : List V} (hb : b ≠ p ∨ ∀ vs, H p ≠ some (.lst vs)) (h : SqL K H b vs) : SqL K (upd H p o) b vs := by
  rcases h with (h | ⟨ob, h⟩) | h
  · refine .inl (.inl ?_)
    rw [upd_ne ?_]; exact h
    rintro rfl
    rcases hb with q | q
    · exact q rfl
    · exact q _ h
  · refine .inl (.inr ⟨ob, ?_⟩)
    rw [upd_ne ?_]; exact h
    rintro rfl
    rcases hp with q | ⟨u, q, n2⟩
    · rw [q] at h; cases h
    · rw [q] at h; exact n2 _ _ (Option.some.inj h)
  · exact .inr h
theorem OOk.has {o : O} (h : OOk W ρ H a o) (nf : ∀ l, o ≠ .lst l true) : ∃ u, H a = some u ∧ (∀ vs, u ≠ .tup vs) ∧ ∀ ob w, u ≠ .frz ob w := by
  cases o with
  | lst l fz =>
    obtain ⟨vs, h1, ⟨e, _⟩ | ⟨h2, h3⟩⟩ := h
    · subst e; exact (nf l rfl).elim
    · exact ⟨_, h3, (fun vs z => by cases z), fun ob w z => by cases z⟩
  | dct kvs =>
    obtain ⟨nd, h⟩ := h
    rcases h with ⟨xs, h1, h2⟩ | ⟨xs, h0, h1, h2⟩
    · exact ⟨_, h1, (fun vs z => by cases z), fun ob w z => by cases z⟩
    · exact ⟨_, h1, (fun vs z => by cases z), fun ob w z => by cases z⟩
  | ins c fs =>
    obtain ⟨_, _, dx, vs, h1, h2⟩ := h
    exact ⟨_, h1, (fun vs z => by cases z), fun ob w z => by cases z⟩
theorem Rel.has (r : Rel W ρ G H) {i : Nat} (i0 : i ≠ 0) (h : ρ[i]? = some a) : ∃ u, H a = some u ∧ (∀ vs, u ≠ .tup vs) ∧ ∀ ob w, u ≠ .frz ob w := by
  have hi := (List.getElem?_eq_some_iff.mp h).1
  rw [r.len] at hi
  have e := List.getElem?_eq_getElem hi
  exact (r.obj i a _ h e).has fun l z => i0 (r.fz i l (by rw [e, z]))
theorem Rel.no (r : Rel W ρ G H) (h : H a = none) : Off ρ a := fun i i0 e => by
  obtain ⟨u, z, _⟩ := r.has i0 e
  rw [h] at z; cases z
theorem Rel.nz (r : Rel W ρ G H) {i : Nat} {o : O} (h : G[i]? = some o) (nf : ∀ l, o ≠ .lst l true) : i ≠ 0 := by
  rintro rfl
  obtain ⟨l, e⟩ := r.scr
  rw [h] at e
  exact nf l (Option.some.inj e)
theorem Rel.pos (r : Rel W ρ G H) : 0 < ρ.length := by
  obtain ⟨l, e⟩ := r.scr
  rw [r.len]
  exact (List.getElem?_eq_some_iff.mp e).1
/-- a new untracked address gets an object -/
theorem Ex.new {p : Addr} {o : HO} (hp : H p = none) : Ex W ρ H (ρ ++ [p]) (upd H p o) := ⟨fun i a h => by
  rw [List.getElem?_append_left (List.getElem?_eq_some_iff.mp h).1]; exact h, fun a vs h => SqT.upd (.inl hp) h, fun a u h n => by
  have ne : a ≠ p := by rintro rfl; rw [hp] at h; cases h
  refine ⟨by rw [upd_ne ne]; exact h, fun i i0 e => ?_⟩
  rcases Nat.lt_or_ge i ρ.length with q | q
  · rw [List.getElem?_append_left q] at e; exact n i i0 e
  · rw [List.getElem?_append_right q] at e
    have := List.mem_of_getElem? e
    exact ne (by simpa using this)⟩
theorem Ex.newT {p : Addr} {o : HO} (hp : H p = none) : Ex W ρ H ρ (upd H p o) := ⟨fun i a h => h, fun a vs h => SqT.upd (.inl hp) h, fun a u h n => by
  have ne : a ≠ p := by rintro rfl; rw [hp] at h; cases h
  exact ⟨by rw [upd_ne ne]; exact h, n⟩⟩
theorem Ex.set {p : Addr} {i : Nat} {o u : HO} (i0 : i ≠ 0) (hi : ρ[i]? = some p) (hp : H p = some u) (n1 : ∀ vs, u ≠ .tup vs) (n2 : ∀ ob w, u ≠ .frz ob w) : Ex W ρ H ρ (upd H p o) := ⟨fun _ _ h => h, fun a vs h => SqT.upd (.inr ⟨u, hp, n1, n2⟩) h, fun a u h n => by
  have ne : a ≠ p := by rintro rfl; exact n i i0 hi
  exact ⟨by rw [upd_ne ne]; exact h, n⟩⟩
theorem SqF.upd {K : PySem.W.Frag} {p : Addr} {o : HO} (hp : H p = none ∨ ∃ u, H p = some u ∧ (∀ ob w, u ≠ .frz ob w)) {b : Addr} {vs : List V} (h : SqF K H b vs) : SqF K (upd H p o) b vs := by
  rcases h with ⟨ob, h⟩ | h
  · refine .inl ⟨ob, ?_⟩
    rw [upd_ne ?_]; exact h
    rintro rfl
    rcases hp with q | ⟨u, q, n2⟩
    · rw [q] at h; cases h
    · rw [q] at h; exact n2 _ _ (Option.some.inj h)
  · exact .inr h
theorem Rel.addr (r : Rel W ρ G H) {i : Nat} {o : O} (h : G[i]? = some o) : ∃ a, ρ[i]? = some a := by
  have := (List.getElem?_eq_some_iff.mp h).1
  rw [← r.len] at this
  exact ⟨_, List.getElem?_eq_getElem this⟩
end
end Fw

/-! Fw2b: the store changes; readings; operators. -/
namespace Fw
open L2 PySem PySem.Spec PyProof.Rows
variable {W : Wd}
section
variable {ρ ρ' : List Addr} {H H' : Hp} {G : Store} {a p : Addr} {σ : L2.St} {env : Env}
theorem Res.bind_eq {α β : Type} {r : Res α} {f : α → Res β} {b : β} (h : r.bind f = .ok b) : ∃ a, r = .ok a ∧ f a = .ok b := by
  cases r with
  | ok a => exact ⟨a, rfl, h⟩
  | err c l G => cases h
  | stuck => cases h
theorem Res.of_eq {α : Type} {o : Option α} {a : α} (h : Res.of o = .ok a) : o = some a := by
  cases o with
  | none => cases h
  | some b => cases h; rfl
theorem must_eq {α : Type} {b : Bool} {r : Res α} {a : α} (h : must b r = .ok a) : b = true ∧ r = .ok a := by
  unfold must at h
  split at h
  · exact ⟨by assumption, h⟩
  · cases h
theorem lim_eq : sizeLine = lim := sizeLine_eq
/-- an untouched object -/
theorem OOk.keep {o : O} (h : OOk W ρ H a o) (x : ∀ {v d}, Dn W ρ H v d → Dn W ρ' H' v d) (e : (∀ l, o ≠ .lst l true) → H' a = H a) (f : (∃ l, o = .lst l true) → ∀ vs, SqF W.K H a vs → SqF W.K H' a vs) : OOk W ρ' H' a o := by
  have xs : ∀ {vs ds}, Dns W ρ H vs ds → Dns W ρ' H' vs ds := by
    intro vs ds h
    induction vs generalizing ds with
    | nil => cases h; exact .nil
    | cons v vs ih => cases h with | cons a b => exact .cons (x a) (ih b)
  cases o with
  | lst l fz =>
    obtain ⟨vs, h1, ⟨h2, h3⟩ | ⟨h2, h3⟩⟩ := h
    · exact ⟨vs, xs h1, .inl ⟨h2, f ⟨l, by rw [h2]⟩ _ h3⟩⟩
    · subst h2
      exact ⟨vs, xs h1, .inr ⟨rfl, (e fun l z => by cases z).trans h3⟩⟩
  | dct kvs =>
    have e := e fun l z => by cases z
    obtain ⟨nd, h⟩ := h
    refine ⟨nd, ?_⟩
    rcases h with ⟨xs, h1, h2⟩ | ⟨xs, h0, h1, h2⟩
    · exact .inl ⟨xs, e.trans h1, Paired.mapP h2 fun _ _ q => ⟨q.1, x q.2⟩⟩
    · exact .inr ⟨xs, h0, e.trans h1, Paired.mapP h2 fun _ _ q => ⟨q.1, q.2.1, q.2.2.1, x q.2.2.2.1, x q.2.2.2.2⟩⟩
  | ins c fs =>
    have e := e fun l z => by cases z
    obtain ⟨c1, c2, dx, vs, h1, h2⟩ := h
    exact ⟨c1, c2, dx, vs, e.trans h1, Paired.mapP h2 fun _ _ q => ⟨q.1, x q.2⟩⟩
/-- the row gets one more place -/
theorem Rel.add {o : O} {ho : HO} (r : Rel W ρ G H) (hp : Off ρ p) (hf : H p = none ∨ ∃ u, H p = some u ∧ (∀ ob w, u ≠ .frz ob w)) (nf : ∀ l, o ≠ .lst l true) (x : ∀ {v d}, Dn W ρ H v d → Dn W (ρ ++ [p]) (upd H p ho) v d) (ok : OOk W (ρ ++ [p]) (upd H p ho) p o) : Rel W (ρ ++ [p]) (G ++ [o]) (upd H p ho) := by
  have hl := r.len
  have hps := r.pos
  have old : ∀ (i : Nat) (b : Addr), (ρ ++ [p])[i]? = some b → (i < ρ.length ∧ ρ[i]? = some b) ∨ (i = ρ.length ∧ b = p) := fun i b h => by
    rcases Nat.lt_or_ge i ρ.length with q | q
    · rw [List.getElem?_append_left q] at h; exact .inl ⟨q, h⟩
    · rw [List.getElem?_append_right q] at h
      rcases Nat.eq_or_lt_of_le q with z | z
      · rw [z] at h; simp at h; exact .inr ⟨z.symm, h.symm⟩
      · rw [List.getElem?_eq_none (by simp; omega)] at h; cases h
  refine ⟨by simp [hl], fun i b u h1 h2 => ?_, fun i j b i0 j0 ne h1 h2 => ?_, ?_, fun i l h => ?_⟩
  · rcases old i b h1 with ⟨q, h⟩ | ⟨q, rfl⟩
    · rw [List.getElem?_append_left (by omega)] at h2
      refine (r.obj i b u h h2).keep x (fun nf' => upd_ne ?_) fun _ vs => SqF.upd hf
      rintro rfl
      exact hp i (r.nz h2 nf') h
    · subst q
      rw [List.getElem?_append_right (by omega)] at h2
      simp [hl] at h2
      subst h2
      exact ok
  · rcases old i b h1 with ⟨q, h⟩ | ⟨q, rfl⟩
    · rcases old j b h2 with ⟨q', h'⟩ | ⟨q', rfl⟩
      · exact r.sep i j b i0 j0 ne h h'
      · exact hp i i0 h
    · rcases old j b h2 with ⟨q', h'⟩ | ⟨q', e⟩
      · exact hp j j0 h'
      · omega
  · obtain ⟨l, e⟩ := r.scr
    exact ⟨l, by rw [List.getElem?_append_left (by omega)]; exact e⟩
  · rcases Nat.lt_or_ge i G.length with q | q
    · rw [List.getElem?_append_left q] at h; exact r.fz i l h
    · rw [List.getElem?_append_right q] at h
      have := List.mem_of_getElem? h
      exact (nf l (List.mem_singleton.mp this).symm).elim
/-- a new object -/
theorem Rel.new {o : O} {ho : HO} (r : Rel W ρ G H) (hp : H p = none) (nf : ∀ l, o ≠ .lst l true) (ok : OOk W (ρ ++ [p]) (upd H p ho) p o) : Rel W (ρ ++ [p]) (G ++ [o]) (upd H p ho) :=
  r.add (r.no hp) (.inl hp) nf (fun h => h.ex (Ex.new hp)) ok
/-- the heap gets a tuple (or what nobody tracks here) -/
theorem Rel.newT {ho : HO} (r : Rel W ρ G H) (hp : H p = none) : Rel W ρ G (upd H p ho) := by
  refine ⟨r.len, fun i b u h1 h2 => ?_, r.sep, r.scr, r.fz⟩
  refine (r.obj i b u h1 h2).keep (fun h => h.ex (Ex.newT hp)) (fun nf' => upd_ne ?_) fun _ vs => SqF.upd (.inl hp)
  rintro rfl
  exact r.no hp i (r.nz h2 nf') h1
/-- what the row does not know is written -/
theorem Rel.apart {u ho : HO} (r : Rel W ρ G H) (hp : Off ρ p) (hu : H p = some u) (n1 : ∀ vs, u ≠ .tup vs) (n2 : ∀ ob w, u ≠ .frz ob w) : Rel W ρ G (upd H p ho) ∧ ∀ {v d}, Dn W ρ H v d → Dn W ρ (upd H p ho) v d := by
  have x : ∀ {v d}, Dn W ρ H v d → Dn W ρ (upd H p ho) v d := by
    intro v d h
    refine Dn.pl (fun _ _ h => h) (fun a vs h => SqT.upd (.inr ⟨u, hu, n1, n2⟩) h) h
  refine ⟨⟨r.len, fun i b u' h1 h2 => ?_, r.sep, r.scr, r.fz⟩, x⟩
  refine (r.obj i b u' h1 h2).keep x (fun nf' => upd_ne ?_) fun _ vs => SqF.upd (.inr ⟨u, hu, n2⟩)
  rintro rfl
  exact hp i (r.nz h2 nf') h1
/-- what stood apart comes into the row -/
theorem Rel.adopt {o : O} {u ho : HO} (r : Rel W ρ G H) (hp : Off ρ p) (hu : H p = some u) (n1 : ∀ vs, u ≠ .tup vs) (n2 : ∀ ob w, u ≠ .frz ob w) (nf : ∀ l, o ≠ .lst l true) (ok : OOk W (ρ ++ [p]) (upd H p ho) p o) : Rel W (ρ ++ [p]) (G ++ [o]) (upd H p ho) := by
  have x : ∀ {v d}, Dn W ρ H v d → Dn W (ρ ++ [p]) (upd H p ho) v d := by
    intro v d h
    exact Dn.pl (fun i a h => by rw [List.getElem?_append_left (List.getElem?_eq_some_iff.mp h).1]; exact h) (fun a vs h => SqT.upd (.inr ⟨u, hu, n1, n2⟩) h) h
  exact r.add hp (.inr ⟨u, hu, n2⟩) nf x ok
/-- an object is written -/
theorem Rel.write {o o' : O} {u ho : HO} {i : Nat} (r : Rel W ρ G H) (hi : ρ[i]? = some a) (hg : G[i]? = some o) (nf : ∀ l, o ≠ .lst l true) (nf' : ∀ l, o' ≠ .lst l true) (hu : H a = some u) (n1 : ∀ vs, u ≠ .tup vs) (n2 : ∀ ob w, u ≠ .frz ob w)
    (ok : OOk W ρ (upd H a ho) a o') : Rel W ρ (G.set i o') (upd H a ho) := by
  have hlt := (List.getElem?_eq_some_iff.mp hg).1
  have i0 := r.nz hg nf
  have ex : Ex W ρ H ρ (upd H a ho) := Ex.set i0 hi hu n1 n2
  refine ⟨by simp [r.len], fun j b v h1 h2 => ?_, r.sep, ?_, fun j l h => ?_⟩
  · by_cases hj : i = j
    · subst hj
      rw [List.getElem?_set_self hlt] at h2
      cases h2
      rw [hi] at h1; cases h1
      exact ok
    · rw [List.getElem?_set_ne hj] at h2
      refine (r.obj j b v h1 h2).keep (fun h => h.ex ex) (fun nf2 => upd_ne ?_) fun _ vs => SqF.upd (.inr ⟨u, hu, n2⟩)
      rintro rfl
      exact r.sep i j b i0 (r.nz h2 nf2) hj hi h1
  · obtain ⟨l, e⟩ := r.scr
    exact ⟨l, by rw [List.getElem?_set_ne i0]; exact e⟩
  · by_cases hj : i = j
    · subst hj
      rw [List.getElem?_set_self hlt] at h
      exact (nf' l (Option.some.inj h)).elim
    · rw [List.getElem?_set_ne hj] at h
      exact r.fz j l h
end
end Fw

/-! Fw2c: readings; what operators, comparisons, subscripts, slices do to data. -/
namespace Fw
open L2 PySem PySem.Spec PyProof.Rows
variable {W : Wd}
/-- the context runs the law's world, and lets nothing out -/
structure Gx (W : Wd) (k : Nat) (X : Cx) : Prop where
  prog : X.prog = W.P
  w : X.w = W.w
  K : X.K = W.K
  mg : X.mg = W.mg
  base : X.base = W.base
  calm : X.calm = true
  nd : X.N.Nodup
  gs : X.A.guards = some []
  room : Room k X.A
  xe : X.xe = fun _ _ => False
abbrev FE := Env → Store → RD
/-- what follows from a result -/
def Fin (W : Wd) (ρ : List Addr) (H : Hp) (r : RD) (Q : V → Hp → Prop) : Prop := ∃ d G', r = .ok (d, G') ∧ ∀ v ρ' H', Ex W ρ H ρ' H' → Rel W ρ' G' H' → Dn W ρ' H' v d → Q v H'
def rE (W : Wd) (f : FE) : TE := fun σ H Q => ∃ ρ G env, Rel W ρ G H ∧ EnvOk W ρ H σ env ∧ Fin W ρ H (f env G) Q
def FinB (W : Wd) (ρ : List Addr) (H : Hp) (r : Res (Bool × Store)) (Q : Bool → Hp → Prop) : Prop := ∃ b G', r = .ok (b, G') ∧ ∀ ρ' H', Ex W ρ H ρ' H' → Rel W ρ' G' H' → Q b H'
def rB (W : Wd) (f : Env → Store → Res (Bool × Store)) : TT := fun σ H Q => ∃ ρ G env, Rel W ρ G H ∧ EnvOk W ρ H σ env ∧ FinB W ρ H (f env G) Q
def FinL (W : Wd) (ρ : List Addr) (H : Hp) (r : Res (List D × Store)) (Q : List V → Hp → Prop) : Prop := ∃ ds G', r = .ok (ds, G') ∧ ∀ vs ρ' H', Ex W ρ H ρ' H' → Rel W ρ' G' H' → Dns W ρ' H' vs ds → Q vs H'
def rA (W : Wd) (f : Env → Store → Res (List D × Store)) : TA := fun σ H Q => ∃ ρ G env, Rel W ρ G H ∧ EnvOk W ρ H σ env ∧ FinL W ρ H (f env G) Q
def rD2 (W : Wd) (g : D → D → Store → RD) : R2 := fun v u H Q => ∃ ρ G x y, Rel W ρ G H ∧ Dn W ρ H v x ∧ Dn W ρ H u y ∧ Fin W ρ H (g x y G) Q
def rD1 (W : Wd) (g : D → Store → RD) : V → Hp → VK → Prop := fun v H Q => ∃ ρ G x, Rel W ρ G H ∧ Dn W ρ H v x ∧ Fin W ρ H (g x G) Q
def rDL (W : Wd) (g : List D → Store → RD) : List V → Hp → VK → Prop := fun vs H Q => ∃ ρ G xs, Rel W ρ G H ∧ Dns W ρ H vs xs ∧ Fin W ρ H (g xs G) Q
section
variable {X : Cx} {ρ ρ' : List Addr} {H H' : Hp} {G : Store} {Q : V → Hp → Prop}
theorem PE.imp {e : Expr} {t t' : TE} (h : PE X e t) (i : ∀ σ H Q, t' σ H Q → t σ H Q) : PE X e t' := ⟨fun pins s σ H Q I q => h.run pins s σ H Q I (i σ H Q q)⟩
theorem PT.imp {e : Expr} {t t' : TT} (h : PT X e t) (i : ∀ σ H Q, t' σ H Q → t σ H Q) : PT X e t' := ⟨fun pins s σ H Q I q => h.run pins s σ H Q I (i σ H Q q)⟩
theorem PA.imp {e : List Expr} {t t' : TA} (h : PA X e t) (i : ∀ σ H Q, t' σ H Q → t σ H Q) : PA X e t' := ⟨fun pos pins s σ H Q I q => h.run pos pins s σ H Q I (i σ H Q q)⟩
theorem OpR.imp {f : Value → Value → Sem Value} {r r' : R2} (h : OpR X f r) (i : ∀ x y H Q, r' x y H Q → r x y H Q) : OpR X f r' := fun pins s σ H x y v u Q I rx ry q => h pins s σ H x y v u Q I rx ry (i x y H Q q)
theorem Fin.ok {d : D} {G' : Store} (h : ∀ v ρ' H', Ex W ρ H ρ' H' → Rel W ρ' G' H' → Dn W ρ' H' v d → Q v H') : Fin W ρ H (.ok (d, G')) Q := ⟨d, G', rfl, h⟩
theorem Fin.use {d : D} {v : V} {G' : Store} (h : Fin W ρ H (.ok (d, G')) Q) (x : Ex W ρ H ρ' H') (r : Rel W ρ' G' H') (n : Dn W ρ' H' v d) : Q v H' := by
  obtain ⟨_, _, e, h⟩ := h
  cases e
  exact h v ρ' H' x r n
theorem Fin.must {b : Bool} {r : RD} (h : Fin W ρ H (Fw.must b r) Q) : b = true ∧ Fin W ρ H r Q := by
  obtain ⟨d, G', e, h⟩ := h
  obtain ⟨e1, e2⟩ := must_eq e
  exact ⟨e1, d, G', e2, h⟩
theorem Fin.of {o : Option (D × Store)} (h : Fin W ρ H (Res.of o) Q) : ∃ z, o = some z ∧ Fin W ρ H (.ok z) Q := by
  obtain ⟨d, G', e, h⟩ := h
  exact ⟨(d, G'), Res.of_eq e, d, G', rfl, h⟩
theorem Fin.stuck (h : Fin W ρ H .stuck Q) : False := by obtain ⟨_, _, e, _⟩ := h; cases e
theorem Fin.bind {α : Type} {r : Res α} {f : α → RD} (h : Fin W ρ H (r.bind f) Q) : ∃ a, r = .ok a ∧ Fin W ρ H (f a) Q := by
  obtain ⟨d, G', e, h⟩ := h
  obtain ⟨a, e1, e2⟩ := Res.bind_eq e
  exact ⟨a, e1, d, G', e2, h⟩
theorem Fin.ex {r : RD} (h : Fin W ρ H r Q) (x : Ex W ρ H ρ' H') : Fin W ρ' H' r Q := by
  obtain ⟨d, G', e, h⟩ := h
  exact ⟨d, G', e, fun v ρ2 H2 x2 => h v ρ2 H2 (x.trans x2)⟩
/-- a new list -/
theorem Fin.newL {l : List D} {vs : List V} {p : Addr} (h : Fin W ρ H (newO (.lst l false) G) Q) (r : Rel W ρ G H) (n : Dns W ρ H vs l) (hp : H p = none) : Q (.ref p) (upd H p (.lst vs)) := by
  refine h.use (ρ' := ρ ++ [p]) (Ex.new hp) (r.new hp (fun l z => by cases z) ⟨vs, n.ex (Ex.new hp), .inr ⟨rfl, upd_same⟩⟩) (.ref ?_)
  rw [← r.len]; simp
theorem Fin.newT {l : List D} {vs : List V} {p : Addr} (h : Fin W ρ H (.ok (.tup l, G)) Q) (r : Rel W ρ G H) (n : Dns W ρ H vs l) (hp : H p = none) : Q (.ref p) (upd H p (.tup vs)) :=
  h.use (ρ' := ρ) (Ex.newT hp) (r.newT hp) (.tup (SqT.of upd_same) (n.ex (Ex.newT hp)))
/-- reading a list -/
theorem Rel.lst {v : V} {n : Nat} {l : List D} {fz : Bool} (r : Rel W ρ G H) (hv : Dn W ρ H v (.ref n)) (hg : G[n]? = some (.lst l fz)) : ∃ a vs, v = .ref a ∧ ρ[n]? = some a ∧ SqL W.K H a vs ∧ Dns W ρ H vs l ∧ (fz = false → H a = some (.lst vs)) := by
  cases hv with
  | @ref a _ ha =>
    obtain ⟨vs, h1, ⟨h2, h3⟩ | ⟨h2, h3⟩⟩ := r.obj _ _ _ ha hg
    · exact ⟨_, vs, rfl, ha, h3.sq, h1, fun z => by rw [h2] at z; cases z⟩
    · exact ⟨_, vs, rfl, ha, SqL.of h3, h1, fun _ => h3⟩
theorem lstAt_eq {d : D} {l : List D} (h : lstAt G d = some l) : ∃ n, d = .ref n ∧ G[n]? = some (.lst l false) := by
  unfold lstAt at h
  split at h
  · split at h
    · rename_i e; cases h; exact ⟨_, rfl, e⟩
    · cases h
  · cases h
theorem small64_iff {i : Int} (h : small64 i = true) : -(2 ^ 64) < i ∧ i < 2 ^ 64 := by
  unfold small64 at h
  simp only [Bool.and_eq_true, decide_eq_true_eq] at h
  exact h
/-! ### operators -/
theorem od_add (hX : X.K = W.K) : OpR X (binaryOp .Add) (rD2 W (binS .add)) := by
  intro pins s σ H v u a b Q I ra rb h
  obtain ⟨ρ, G, x, y, r, n1, n2, f⟩ := h
  have lists : ∀ {l m : List D} {x y : D}, lstAt G x = some l → lstAt G y = some m → Dn W ρ H v x → Dn W ρ H u y → Fin W ρ H (mkL (l ++ m) G) Q → wpAny (model X.prog X.w) X.A (binaryOp .Add a b) (EP X pins σ Q) X.xe s := by
    intro l m x y e1 e2 n1 n2 f
    obtain ⟨i, rfl, g1⟩ := lstAt_eq e1
    obtain ⟨j, rfl, g2⟩ := lstAt_eq e2
    obtain ⟨p, vs, rfl, _, _, m1, t1⟩ := r.lst n1 g1
    obtain ⟨q, ws, rfl, _, _, m2, t2⟩ := r.lst n2 g2
    obtain ⟨hz, f⟩ := f.must
    have hz := of_decide_eq_true hz
    refine op_cat pins s σ H _ _ a b Q I ra rb ⟨p, q, vs, ws, rfl, rfl, t1 rfl, t2 rfl, ?_, fun z hz => f.newL r (m1.app m2) hz⟩
    rw [m1.length, m2.length, lim_eq]; simpa using hz
  cases x with
  | int i =>
    cases y with
    | int j =>
      cases n1; cases n2
      exact op_add pins s σ H _ _ a b Q I ra rb ⟨i, j, rfl, rfl, f.use Ex.refl r (.int _)⟩
    | _ => exact (f.stuck).elim
  | str i =>
    cases y with
    | str j =>
      cases n1; cases n2
      obtain ⟨hz, f⟩ := f.must
      have hz := of_decide_eq_true hz
      refine op_add_str pins s σ H _ _ a b Q I ra rb ⟨_, _, rfl, rfl, ?_, ?_⟩
      · show i.toArray.size + j.toArray.size ≤ sizeLine
        rw [lim_eq]; simpa using hz
      · have e : ((⟨i.toArray⟩ : Str) ++ (⟨j.toArray⟩ : Str)) = ⟨(i ++ j).toArray⟩ := by
          show (⟨i.toArray ++ j.toArray⟩ : Str) = _
          simp
        rw [e]
        exact f.use Ex.refl r (.str _)
    | _ => exact (f.stuck).elim
  | tup i =>
    cases y with
    | tup j =>
      cases n1 with
      | tup s1 d1 =>
        cases n2 with
        | tup s2 d2 =>
          obtain ⟨hz, f⟩ := f.must
          have hz := of_decide_eq_true hz
          refine op_catA pins s σ H _ _ a b Q I ra rb ⟨_, _, _, _, rfl, rfl, by rw [hX]; exact s1, by rw [hX]; exact s2, by rw [d1.length, d2.length, lim_eq]; exact hz, fun e => ?_, fun e1 e2 => ?_, fun _ _ p hp => f.newT r (d1.app d2) hp⟩
          · have e : i = [] := by have := d1.length; rw [e] at this; exact List.length_eq_zero_iff.mp this.symm
            subst e
            exact f.use Ex.refl r (.tup s2 d2)
          · have e : j = [] := by have := d2.length; rw [e2] at this; exact List.length_eq_zero_iff.mp this.symm
            subst e
            exact f.use Ex.refl r (.tup s1 (by simpa using d1))
    | _ => exact (f.stuck).elim
  | ref i =>
    have f : Fin W ρ H (match lstAt G (.ref i), lstAt G y with
      | some s, some t => mkL (s ++ t) G
      | _, _ => .stuck) Q := by cases y <;> exact f
    split at f
    · rename_i e1 e2; exact lists e1 e2 n1 n2 f
    · exact (f.stuck).elim
  | non => cases y <;> exact (f.stuck).elim
  | bl b => cases y <;> exact (f.stuck).elim
theorem od_sub : OpR X (binaryOp .Sub) (rD2 W (binS .sub)) := by
  intro pins s σ H v u a b Q I ra rb h
  obtain ⟨ρ, G, x, y, r, n1, n2, f⟩ := h
  cases x with
  | int i =>
    cases y with
    | int j =>
      cases n1; cases n2
      exact op_sub pins s σ H _ _ a b Q I ra rb ⟨i, j, rfl, rfl, f.use Ex.refl r (.int _)⟩
    | _ => exact (f.stuck).elim
  | _ => cases y <;> exact (f.stuck).elim
theorem od_fdiv : OpR X (binaryOp .FloorDiv) (rD2 W (binS .fdiv)) := by
  intro pins s σ H v u a b Q I ra rb h
  obtain ⟨ρ, G, x, y, r, n1, n2, f⟩ := h
  cases x with
  | int i =>
    cases y with
    | int j =>
      cases n1; cases n2
      obtain ⟨hz, f⟩ := f.must
      simp only [Bool.and_eq_true, decide_eq_true_eq] at hz
      exact op_fdiv pins s σ H _ _ a b Q I ra rb ⟨i, j, rfl, rfl, hz, f.use Ex.refl r (.int _)⟩
    | _ => exact (f.stuck).elim
  | _ => cases y <;> exact (f.stuck).elim
theorem od_mod : OpR X (binaryOp .Mod) (rD2 W (binS .mod)) := by
  intro pins s σ H v u a b Q I ra rb h
  obtain ⟨ρ, G, x, y, r, n1, n2, f⟩ := h
  cases x with
  | int i =>
    cases y with
    | int j =>
      cases n1; cases n2
      obtain ⟨hz, f⟩ := f.must
      exact op_mod pins s σ H _ _ a b Q I ra rb ⟨i, j, rfl, rfl, of_decide_eq_true hz, f.use Ex.refl r (.int _)⟩
    | _ => exact (f.stuck).elim
  | _ => cases y <;> exact (f.stuck).elim
theorem od_pow : OpR X (binaryOp .Pow) (rD2 W (binS .pow)) := by
  intro pins s σ H v u a b Q I ra rb h
  obtain ⟨ρ, G, x, y, r, n1, n2, f⟩ := h
  cases x with
  | int i =>
    cases y with
    | int j =>
      cases n1; cases n2
      obtain ⟨hz, f⟩ := f.must
      simp only [Bool.and_eq_true, decide_eq_true_eq] at hz
      exact op_pow pins s σ H _ _ a b Q I ra rb ⟨i, j, rfl, rfl, ⟨hz.1.1, hz.1.2, hz.2⟩, f.use Ex.refl r (.int _)⟩
    | _ => exact (f.stuck).elim
  | _ => cases y <;> exact (f.stuck).elim
theorem od_mul : OpR X (binaryOp .Mult) (rD2 W (binS .mul)) := by
  intro pins s σ H v u a b Q I ra rb h
  obtain ⟨ρ, G, x, y, r, n1, n2, f⟩ := h
  cases x with
  | int i =>
    cases y with
    | int j =>
      cases n1; cases n2
      obtain ⟨hz, f⟩ := f.must
      rw [Bool.or_eq_true] at hz
      exact op_mul pins s σ H _ _ a b Q I ra rb ⟨i, j, rfl, rfl, hz.imp small64_iff small64_iff, f.use Ex.refl r (.int _)⟩
    | _ => exact (f.stuck).elim
  | ref i =>
    cases y with
    | int j =>
      have f : Fin W ρ H (match lstAt G (.ref i) with
        | some s => must (decide (s.length * j.toNat ≤ lim) && decide (-(2 ^ 63) ≤ j) && decide (j < 2 ^ 63)) (mkL (List.replicate j.toNat s).flatten G)
        | _ => .stuck) Q := f
      split at f
      · rename_i l e
        obtain ⟨hz, f⟩ := f.must
        obtain ⟨hz2, f⟩ := f.must
        simp only [Bool.and_eq_true, decide_eq_true_eq] at hz
        obtain ⟨n, e1, g1⟩ := lstAt_eq e
        cases e1
        obtain ⟨p, vs, rfl, _, _, m1, t1⟩ := r.lst n1 g1
        cases n2
        refine op_rep pins s σ H _ _ a b Q I ra rb ⟨p, j, vs, rfl, rfl, t1 rfl, hz.1.2, hz.2, by rw [m1.length, lim_eq]; exact hz.1.1, fun z hz => f.newL r ?_ hz⟩
        have rep : ∀ k : Nat, Dns W ρ H (List.replicate k vs).flatten (List.replicate k l).flatten := fun k => by
          induction k with
          | zero => exact .nil
          | succ k ih => simp only [List.replicate_succ, List.flatten_cons]; exact m1.app ih
        exact rep _
      · exact (f.stuck).elim
    | _ => exact (f.stuck).elim
  | str i => cases y <;> exact (f.stuck).elim
  | tup i => cases y <;> exact (f.stuck).elim
  | non => cases y <;> exact (f.stuck).elim
  | bl b => cases y <;> exact (f.stuck).elim
/-! ### data as the library reads it -/
section
variable {pins : List (Addr × Obj)} {σ : L2.St} {s : Shared}
theorem dp_all (hK : X.K = W.K) {n : Nat} (ih : ∀ {d : D} {v : V} {pd : PyData}, snap G n d = some pd → Dn W ρ H v d → Dp X.K H v pd) :
    ∀ {ds : List D} {vs : List V} {pds : List PyData}, snaps (snap G n) ds = some pds → Dns W ρ H vs ds → DpAll X.K H vs pds
  | [], _, pds, e, .nil => by cases e; exact .nil
  | d :: ds, _, pds, e, .cons a b => by
    unfold snaps at e
    obtain ⟨x, e1, e⟩ := Option.bind_eq_some_iff.mp e
    obtain ⟨xs, e2, e⟩ := Option.map_eq_some_iff.mp e
    subst e
    exact .cons (ih e1 a) (dp_all hK ih e2 b)
theorem dp_of (hK : X.K = W.K) (r : Rel W ρ G H) : ∀ (n : Nat) {d : D} {v : V} {pd : PyData}, snap G n d = some pd → Dn W ρ H v d → Dp X.K H v pd := by
  intro n
  induction n with
  | zero =>
    intro d v pd e h
    cases d with
    | non => cases e; cases h; exact .non
    | bl b => cases e; cases h; exact .bl b
    | int i => cases e; cases h; exact .int i
    | str z => cases e; cases h; exact .str _
    | _ => cases e
  | succ n ih =>
    intro d v pd e h
    cases d with
    | non => cases e; cases h; exact .non
    | bl b => cases e; cases h; exact .bl b
    | int i => cases e; cases h; exact .int i
    | str z => cases e; cases h; exact .str _
    | tup l =>
      obtain ⟨xs, e2, e⟩ := Option.map_eq_some_iff.mp (show (snaps (snap G n) l).map PyData.tuple = some pd from e)
      subst e
      cases h with
      | tup q ds => exact .tup (by rw [hK]; exact q) (dp_all hK ih e2 ds)
    | ref i =>
      have e : (match G[i]? with
        | some (.lst l _) => (snaps (snap G n) l).map .list
        | _ => none) = some pd := e
      split at e
      · rename_i l fz hg
        obtain ⟨xs, e2, e⟩ := Option.map_eq_some_iff.mp e
        subst e
        obtain ⟨a, vs, rfl, _, q, ds, _⟩ := r.lst h hg
        exact .lst (by rw [hK]; exact q) (dp_all hK ih e2 ds)
      · cases e
theorem reads_of (I : Inv X pins σ H s) (hK : X.K = W.K) (r : Rel W ρ G H) (n : Nat) {d : D} {v : V} {u : Value} {pd : PyData} (e : snap G n d = some pd) (h : Dn W ρ H v d) (ru : RelV v u) : ∃ as, Reads s.heap u pd as :=
  Dp.reads I pd v u (dp_of hK r n e h) ru
end
theorem eqS_eq {x y : D} {b : Bool} (h : eqS G x y = some b) : ∃ p q, snap G 64 x = some p ∧ snap G 64 y = some q ∧ SeqAt.shaped p = true ∧ SeqAt.shaped q = true ∧ b = PyData.eqv p q := by
  unfold eqS at h
  obtain ⟨p, e1, h⟩ := Option.bind_eq_some_iff.mp h
  obtain ⟨q, e2, h⟩ := Option.bind_eq_some_iff.mp h
  split at h
  · rename_i z
    rw [Bool.and_eq_true] at z
    cases h
    exact ⟨p, q, e1, e2, z.1, z.2, rfl⟩
  · cases h
theorem cmp_fin {o : Cmp} {x y : D} (f : Fin W ρ H (cmpS o x y G) Q) {c : Option Bool} (e : cmpS o x y G = (Res.of c).bind fun r => .ok (.bl r, G)) (r : Rel W ρ G H) : ∃ b, c = some b ∧ Q (.bl b) H := by
  rw [e] at f
  obtain ⟨b, e1, f⟩ := f.bind
  exact ⟨b, Res.of_eq e1, f.use Ex.refl r (.bl _)⟩
theorem oc_eq {k : Nat} (hX : Gx W k X) : OpR X (compareOp .Eq) (rD2 W (cmpS .eq)) := by
  intro pins s σ H v u a b Q I ra rb h
  obtain ⟨ρ, G, x, y, r, n1, n2, f⟩ := h
  obtain ⟨c, e, q⟩ := cmp_fin f rfl r
  obtain ⟨p, p', e1, e2, s1, s2, rfl⟩ := eqS_eq e
  obtain ⟨as, r1⟩ := reads_of I hX.K r 64 e1 n1 ra
  obtain ⟨bs, r2⟩ := reads_of I hX.K r 64 e2 n2 rb
  exact SeqAt.compareEq_shaped r1 r2 s1 s2 hX.room.units (fin_bl I q rfl)
theorem oc_ne {k : Nat} (hX : Gx W k X) : OpR X (compareOp .NotEq) (rD2 W (cmpS .ne)) := by
  intro pins s σ H v u a b Q I ra rb h
  obtain ⟨ρ, G, x, y, r, n1, n2, f⟩ := h
  obtain ⟨c, e, q⟩ := cmp_fin f rfl r
  obtain ⟨c', e0, rfl⟩ := Option.map_eq_some_iff.mp e
  obtain ⟨p, p', e1, e2, s1, s2, rfl⟩ := eqS_eq e0
  obtain ⟨as, r1⟩ := reads_of I hX.K r 64 e1 n1 ra
  obtain ⟨bs, r2⟩ := reads_of I hX.K r 64 e2 n2 rb
  exact SeqAt.compareNe_shaped r1 r2 s1 s2 hX.room.units (fin_bl I q rfl)
theorem oc_le : OpR X (compareOp .LtE) (rD2 W (cmpS .le)) := by
  intro pins s σ H v u a b Q I ra rb h
  obtain ⟨ρ, G, x, y, r, n1, n2, f⟩ := h
  obtain ⟨c, e, q⟩ := cmp_fin f rfl r
  cases x with
  | int i =>
    cases y with
    | int j =>
      cases n1; cases n2; cases e
      exact op_le pins s σ H _ _ a b Q I ra rb ⟨i, j, rfl, rfl, q⟩
    | _ => cases e
  | _ => cases y <;> cases e
theorem oc_ge : OpR X (compareOp .GtE) (rD2 W (cmpS .ge)) := by
  intro pins s σ H v u a b Q I ra rb h
  obtain ⟨ρ, G, x, y, r, n1, n2, f⟩ := h
  obtain ⟨c, e, q⟩ := cmp_fin f rfl r
  cases x with
  | int i =>
    cases y with
    | int j =>
      cases n1; cases n2; cases e
      exact op_ge pins s σ H _ _ a b Q I ra rb ⟨i, j, rfl, rfl, q⟩
    | _ => cases e
  | _ => cases y <;> cases e
theorem oc_isn : OpR X (compareOp .Is) (rD2 W (cmpS .isn)) := by
  intro pins s σ H v u a b Q I ra rb h
  obtain ⟨ρ, G, x, y, r, n1, n2, f⟩ := h
  obtain ⟨c, e, q⟩ := cmp_fin f rfl r
  have e : (if y = .non then some (decide (x = .non)) else none) = some c := e
  split at e
  · rename_i hy
    subst hy
    cases n2
    cases e
    refine op_isN pins s σ H _ _ a b Q I ra rb ⟨rfl, ?_⟩
    have z : decide (v = V.non) = decide (x = D.non) := by cases n1 <;> rfl
    rw [z]; exact q
  · cases e
theorem oc_notn : OpR X (compareOp .IsNot) (rD2 W (cmpS .notn)) := by
  intro pins s σ H v u a b Q I ra rb h
  obtain ⟨ρ, G, x, y, r, n1, n2, f⟩ := h
  obtain ⟨c, e, q⟩ := cmp_fin f rfl r
  have e : (if y = .non then some (!decide (x = .non)) else none) = some c := e
  split at e
  · rename_i hy
    subst hy
    cases n2
    cases e
    refine op_notN pins s σ H _ _ a b Q I ra rb ⟨rfl, ?_⟩
    have z : decide (v = V.non) = decide (x = D.non) := by cases n1 <;> rfl
    rw [z]; exact q
  · cases e
end
end Fw

/-! Fw2d: <, in, subscripts, slices, stores, fields. -/
namespace Fw
open L2 PySem PySem.Spec PyProof.Rows
variable {W : Wd}
section
variable {X : Cx} {ρ ρ' : List Addr} {H H' : Hp} {G : Store} {Q : V → Hp → Prop}
theorem oc_lt {k : Nat} (hX : Gx W k X) : OpR X (compareOp .Lt) (rD2 W (cmpS .lt)) := by
  intro pins s σ H v u a b Q I ra rb h
  obtain ⟨ρ, G, x, y, r, n1, n2, f⟩ := h
  obtain ⟨c, e, q⟩ := cmp_fin f rfl r
  have e : ltS G x y = some c := e
  unfold ltS at e
  obtain ⟨p, e1, e⟩ := Option.bind_eq_some_iff.mp e
  obtain ⟨p', e2, e⟩ := Option.bind_eq_some_iff.mp e
  split at e
  · rename_i z
    simp only [Bool.and_eq_true, decide_eq_true_eq] at z
    cases e
    obtain ⟨as, r1⟩ := reads_of I hX.K r 64 e1 n1 ra
    obtain ⟨bs, r2⟩ := reads_of I hX.K r 64 e2 n2 rb
    have hn : p ≠ .none := by
      rintro rfl
      exact absurd z.2 (by simp [notNone])
    have hu := hX.room.units
    exact PySem.W.rcLt_alike p p' X.A s a b as bs r1 r2 z.1.1 hn (by have := Nat.min_le_left p.depth p'.depth; omega) X.prog X.w X.xe _ (fin_bl I q rfl)
  · cases e
theorem oc_gt : OpR X (compareOp .Gt) (rD2 W (cmpS .gt)) := by
  intro pins s σ H v u a b Q I ra rb h
  obtain ⟨ρ, G, x, y, r, n1, n2, f⟩ := h
  obtain ⟨c, e, q⟩ := cmp_fin f rfl r
  cases x with
  | int i =>
    cases y with
    | int j =>
      cases n1; cases n2; cases e
      exact op_gt pins s σ H _ _ a b Q I ra rb ⟨i, j, rfl, rfl, q⟩
    | _ => cases e
  | _ => cases y <;> cases e
/-! ### dicts -/
def kN : Key → NestedKey
  | .inl i => .num i
  | .inr x => .text x
theorem keyOf_flat (k : Key) : keyOf (flatD k) = some (kN k) := by
  cases k with
  | inl i => simp only [flatD, keyOf, kN]
  | inr x => simp [flatD, keyOf, kN]
theorem kN_inj {a b : Key} : kN a = kN b ↔ a = b := by
  cases a <;> cases b <;> simp [kN]
theorem isTup_flat (k : Key) : isTup (flatD k) = false := by cases k <;> rfl
/-- a flat key -/
theorem flat_of {d : D} (h : keyForm d = true) (h2 : isTup d = false) : ∃ k, d = flatD k := by
  cases d with
  | int i => exact ⟨.inl i, rfl⟩
  | str s => exact ⟨.inr ⟨s.toArray⟩, by simp [flatD]⟩
  | tup l => cases h2
  | _ => cases h
theorem Dn.key {k : Key} {v : V} (h : Dn W ρ H v (flatD k)) : v = kV k := by
  cases k with
  | inl i => cases h; rfl
  | inr x =>
    have h : Dn W ρ H v (.str x.cps.toList) := h
    cases h
    show V.str _ = V.str x
    simp
theorem DctK.look : ∀ {xs : List (Key × V)} {kvs : List (D × D)} (k : Key), DctK W ρ H xs kvs → (valV xs k = none ∧ lookK (kN k) kvs = none) ∨ ∃ v d, valV xs k = some v ∧ lookK (kN k) kvs = some d ∧ Dn W ρ H v d
  | _, _, k, .nil => .inl ⟨rfl, rfl⟩
  | x :: xs, kv :: kvs, k, .cons a b => by
    have e : keyOf kv.1 = some (kN x.1) := by rw [a.1]; exact keyOf_flat _
    by_cases h : x.1 = k
    · refine .inr ⟨x.2, kv.2, valV_pos h, ?_, a.2⟩
      rw [show kv = (kv.1, kv.2) from rfl, lookK, if_pos (by rw [e, h])]
    · rw [valV_neg h, show kv = (kv.1, kv.2) from rfl, lookK, if_neg (by rw [e]; simp only [Option.some.injEq, kN_inj]; exact h)]
      exact DctK.look k b
theorem DctK.put {xs : List (Key × V)} {kvs : List (D × D)} (k : Key) {v : V} {d : D} (h : DctK W ρ H xs kvs) (hd : Dn W ρ H v d) : DctK W ρ H (L2.putK xs k v) (Fw.putK (kN k) (flatD k) d kvs) := by
  have e : (xs.any fun kv => decide (kv.1 = k)) = (lookK (kN k) kvs).isSome := by
    rw [valV_any]
    rcases h.look k with ⟨h1, h2⟩ | ⟨v, d, h1, h2, _⟩ <;> rw [h1, h2] <;> rfl
  have mp : ∀ {xs : List (Key × V)} {kvs : List (D × D)}, DctK W ρ H xs kvs → DctK W ρ H (xs.map fun kv => if kv.1 = k then (kv.1, v) else kv) (kvs.map fun e => if keyOf e.1 = some (kN k) then (e.1, d) else e) := by
    intro xs kvs h
    induction h with
    | nil => exact .nil
    | @cons x kv xs kvs a b ih =>
      refine .cons ?_ ih
      dsimp only
      have e : keyOf kv.1 = some (kN x.1) := by rw [a.1]; exact keyOf_flat _
      by_cases hx : x.1 = k
      · rw [if_pos hx, if_pos (by rw [e, hx])]
        exact ⟨a.1, hd⟩
      · rw [if_neg hx, if_neg (by rw [e]; simp only [Option.some.injEq, kN_inj]; exact hx)]
        exact a
  have sn : ∀ {xs : List (Key × V)} {kvs : List (D × D)}, DctK W ρ H xs kvs → DctK W ρ H (xs ++ [(k, v)]) (kvs ++ [(flatD k, d)]) := by
    intro xs kvs h
    induction h with
    | nil => exact .cons ⟨rfl, hd⟩ .nil
    | cons a b ih => exact .cons a ih
  unfold L2.putK Fw.putK
  rw [e]
  by_cases hb : (lookK (kN k) kvs).isSome = true
  · rw [if_pos hb, if_pos hb]; exact mp h
  · rw [if_neg hb, if_neg hb]; exact sn h
theorem look_none {k : NestedKey} : ∀ {kvs : List (D × D)}, lookK k kvs = none → some k ∉ kvs.map fun kv => keyOf kv.1
  | [], _ => by simp
  | (d, v) :: r, h => by
    unfold lookK at h
    split at h
    · cases h
    · rename_i n
      simp only [List.map_cons, List.mem_cons, not_or]
      exact ⟨fun e => n e.symm, look_none h⟩
theorem put_nodup {k : NestedKey} {d v : D} {kvs : List (D × D)} (hd : keyOf d = some k) (h : (kvs.map fun kv => keyOf kv.1).Nodup) : ((Fw.putK k d v kvs).map fun kv => keyOf kv.1).Nodup := by
  unfold Fw.putK
  by_cases hb : (lookK k kvs).isSome = true
  · rw [if_pos hb]
    have e : (kvs.map fun e => if keyOf e.1 = some k then (e.1, v) else e).map (fun kv => keyOf kv.1) = kvs.map fun kv => keyOf kv.1 := by
      rw [List.map_map]
      refine List.map_congr_left fun x _ => ?_
      show keyOf (if keyOf x.1 = some k then (x.1, v) else x).1 = keyOf x.1
      split <;> rfl
    rw [e]; exact h
  · rw [if_neg hb]
    have hn : lookK k kvs = none := by
      cases e : lookK k kvs with
      | none => rfl
      | some d => rw [e] at hb; simp at hb
    rw [List.map_append, List.nodup_append]
    refine ⟨h, by simp, ?_⟩
    intro a ha b hb e
    simp only [List.map_cons, List.map_nil, List.mem_singleton] at hb
    rw [hd] at hb
    exact look_none hn (by rw [← hb, ← e]; exact ha)
theorem drop_nodup {k : NestedKey} {kvs : List (D × D)} (h : (kvs.map fun kv => keyOf kv.1).Nodup) : ((Fw.dropK k kvs).map fun kv => keyOf kv.1).Nodup := h.sublist (List.Sublist.map _ List.filter_sublist)
/-! tuples as keys -/
abbrev XT := List (NestedKey × Addr × V)
def atV (xs : XT) (k : NestedKey) : Option (Addr × V) := (xs.find? fun x => decide (x.1 = k)).map (·.2)
def stV (xs : XT) (k : NestedKey) (b : Addr) (y : V) : XT := if (atV xs k).isSome = true then xs.map (fun x => if x.1 = k then (x.1, x.2.1, y) else x) else xs ++ [(k, b, y)]
def ET : List (NestedKey × Addr × Value) → XT → Prop := Paired fun u x => u.1 = x.1 ∧ u.2.1 = x.2.1 ∧ RelV x.2.2 u.2.2
theorem ET.look : ∀ {us : List (NestedKey × Addr × Value)} {xs : XT} (k : NestedKey), ET us xs → (atKey us k = none ∧ atV xs k = none) ∨ ∃ b u v, atKey us k = some (b, u) ∧ atV xs k = some (b, v) ∧ RelV v u
  | _, _, k, .nil => .inl ⟨rfl, rfl⟩
  | u :: us, x :: xs, k, .cons a b => by
    by_cases h : x.1 = k
    · refine .inr ⟨x.2.1, u.2.2, x.2.2, ?_, ?_, a.2.2⟩
      · unfold atKey
        rw [List.find?_cons_of_pos (by rw [a.1]; simpa using h)]
        rw [Option.map_some, ← a.2.1]
      · unfold atV
        rw [List.find?_cons_of_pos (by simpa using h)]
        rfl
    · have h1 : atKey (u :: us) k = atKey us k := by unfold atKey; rw [List.find?_cons_of_neg (by rw [a.1]; simpa using h)]
      have h2 : atV (x :: xs) k = atV xs k := by unfold atV; rw [List.find?_cons_of_neg (by simpa using h)]
      rw [h1, h2]
      exact ET.look k b
theorem ET.st {us : List (NestedKey × Addr × Value)} {xs : XT} (k : NestedKey) (b : Addr) {y : V} {u : Value} (h : ET us xs) (r : RelV y u) : ET (storedH us k b u) (stV xs k b y) := by
  have e : (atKey us k).isSome = (atV xs k).isSome := by
    rcases h.look k with ⟨h1, h2⟩ | ⟨b, u, v, h1, h2, _⟩ <;> rw [h1, h2] <;> rfl
  have mp : ∀ {us : List (NestedKey × Addr × Value)} {xs : XT}, ET us xs → ET (us.map (putAt k u)) (xs.map fun x => if x.1 = k then (x.1, x.2.1, y) else x) := by
    intro us xs h
    induction h with
    | nil => exact .nil
    | @cons w x us xs a b ih =>
      refine .cons ?_ ih
      dsimp only
      unfold putAt
      rw [a.1]
      by_cases hx : x.1 = k
      · rw [if_pos hx, if_pos hx]; exact ⟨rfl, a.2.1, r⟩
      · rw [if_neg hx, if_neg hx]; exact a
  have sn : ∀ {us : List (NestedKey × Addr × Value)} {xs : XT}, ET us xs → ET (us ++ [(k, b, u)]) (xs ++ [(k, b, y)]) := by
    intro us xs h
    induction h with
    | nil => exact .cons ⟨rfl, rfl, r⟩ .nil
    | cons a b ih => exact .cons a ih
  unfold storedH stV
  rw [e]
  by_cases hb : (atV xs k).isSome = true
  · rw [if_pos hb, if_pos hb]; exact mp h
  · rw [if_neg hb, if_neg hb]; exact sn h
theorem DctT.look : ∀ {xs : XT} {kvs : List (D × D)} (k : NestedKey), DctT W ρ H xs kvs → (atV xs k = none ∧ lookK k kvs = none) ∨ ∃ b v d, atV xs k = some (b, v) ∧ lookK k kvs = some d ∧ Dn W ρ H v d
  | _, _, k, .nil => .inl ⟨rfl, rfl⟩
  | x :: xs, kv :: kvs, k, .cons a b => by
    by_cases h : x.1 = k
    · refine .inr ⟨x.2.1, x.2.2, kv.2, ?_, ?_, a.2.2.2.2⟩
      · unfold atV; rw [List.find?_cons_of_pos (by simpa using h)]; rfl
      · rw [show kv = (kv.1, kv.2) from rfl, lookK, if_pos (by rw [a.1, h])]
    · have h2 : atV (x :: xs) k = atV xs k := by unfold atV; rw [List.find?_cons_of_neg (by simpa using h)]
      rw [h2, show kv = (kv.1, kv.2) from rfl, lookK, if_neg (by rw [a.1]; simpa using h)]
      exact DctT.look k b
theorem DctT.put {xs : XT} {kvs : List (D × D)} {k : NestedKey} {b : Addr} {v : V} {c d : D} (h : DctT W ρ H xs kvs) (hc : Dn W ρ H (.ref b) c) (kc : keyOf c = some k) (dc : dpth c ≤ 8) (tc : isTup c = true) (hd : Dn W ρ H v d) : DctT W ρ H (stV xs k b v) (Fw.putK k c d kvs) := by
  have e : (atV xs k).isSome = (lookK k kvs).isSome := by
    rcases h.look k with ⟨h1, h2⟩ | ⟨b, u, v, h1, h2, _⟩ <;> rw [h1, h2] <;> rfl
  have mp : ∀ {xs : XT} {kvs : List (D × D)}, DctT W ρ H xs kvs → DctT W ρ H (xs.map fun x => if x.1 = k then (x.1, x.2.1, v) else x) (kvs.map fun e => if keyOf e.1 = some k then (e.1, d) else e) := by
    intro xs kvs h
    induction h with
    | nil => exact .nil
    | @cons x kv xs kvs a b ih =>
      refine .cons ?_ ih
      dsimp only
      by_cases hx : x.1 = k
      · rw [if_pos hx, if_pos (by rw [a.1, hx])]
        exact ⟨a.1, a.2.1, a.2.2.1, a.2.2.2.1, hd⟩
      · rw [if_neg hx, if_neg (by rw [a.1]; simpa using hx)]
        exact a
  have sn : ∀ {xs : XT} {kvs : List (D × D)}, DctT W ρ H xs kvs → DctT W ρ H (xs ++ [(k, b, v)]) (kvs ++ [(c, d)]) := by
    intro xs kvs h
    induction h with
    | nil => exact .cons ⟨kc, dc, tc, hc, hd⟩ .nil
    | cons a b ih => exact .cons a ih
  unfold stV Fw.putK
  rw [e]
  by_cases hb : (lookK k kvs).isSome = true
  · rw [if_pos hb, if_pos hb]; exact mp h
  · rw [if_neg hb, if_neg hb]; exact sn h
end
end Fw

/-! Fw2e: what is asked of dicts. -/
namespace Fw
open L2 PySem PySem.Spec PyProof.Rows
variable {W : Wd}
section
variable {X : Cx} {k : Nat} {pins : List (Addr × Obj)} {σ : L2.St} {s : Shared} {ρ ρ' : List Addr} {H H' : Hp} {G : Store} {Q : V → Hp → Prop} {a : Addr} {kvs : List (D × D)}
mutual
theorem nested_is (I : Inv X pins σ H s) (hK : X.K = W.K) : ∀ {d : D} {q : NestedKey} {v : V} {u : Value}, keyOf d = some q → Dn W ρ H v d → RelV v u → NestedIs s.heap q u
  | .non, q, _, _, e, .non, r => by cases e; cases r; exact .none
  | .bl b, q, _, _, e, .bl _, r => by cases e; cases r; exact .bool rfl
  | .int i, q, _, _, e, .int _, r => by cases e; obtain ⟨t, rfl⟩ := r; exact .int i t
  | .str z, q, _, _, e, .str _, r => by cases e; obtain ⟨t, rfl⟩ := r; exact .text _ t
  | .tup l, q, _, _, e, .tup h1 h2, r => by
    rw [keyOf] at e
    obtain ⟨ks, e1, rfl⟩ := Option.map_eq_some_iff.mp e
    cases r
    obtain ⟨its, rv, ⟨o, ho, hc, m, hd⟩, hz⟩ := I.tuple (by rw [hK]; exact h1)
    exact .tup ho hc hd (nested_all I hK e1 h2 rv)
  | .ref _, _, _, _, e, _, _ => by rw [keyOf] at e; cases e
theorem nested_all (I : Inv X pins σ H s) (hK : X.K = W.K) : ∀ {ds : List D} {qs : List NestedKey} {vs : List V} {us : List Value}, keysOf ds = some qs → Dns W ρ H vs ds → Vals vs us → NestedAll s.heap qs us
  | [], _, _, _, e, .nil, .nil => by cases e; exact .nil
  | d :: ds, _, _, _, e, .cons a b, .cons p q => by
    rw [keysOf] at e
    obtain ⟨x, e1, e⟩ := Option.bind_eq_some_iff.mp e
    obtain ⟨xs, e2, rfl⟩ := Option.map_eq_some_iff.mp e
    exact .cons (nested_is I hK e1 a p) (nested_all I hK e2 b q)
end
mutual
theorem key_depth : ∀ {d : D} {q : NestedKey}, keyOf d = some q → q.depth = dpth d
  | .non, _, e => by cases e; rfl
  | .bl b, _, e => by cases e; rfl
  | .int i, _, e => by cases e; rfl
  | .str z, _, e => by cases e; rfl
  | .tup l, _, e => by
    rw [keyOf] at e
    obtain ⟨ks, e1, rfl⟩ := Option.map_eq_some_iff.mp e
    rw [NestedKey.depth, dpth, keys_depth e1]
  | .ref _, _, e => by rw [keyOf] at e; cases e
theorem keys_depth : ∀ {ds : List D} {qs : List NestedKey}, keysOf ds = some qs → NestedKey.depthAll qs = dpths ds
  | [], _, e => by cases e; rfl
  | d :: ds, _, e => by
    rw [keysOf] at e
    obtain ⟨x, e1, e⟩ := Option.bind_eq_some_iff.mp e
    obtain ⟨xs, e2, rfl⟩ := Option.map_eq_some_iff.mp e
    rw [NestedKey.depthAll, dpths, key_depth e1, keys_depth e2]
end
theorem keyFor_eq {d : D} {q : NestedKey} (h : keyFor kvs d = some q) : keyForm d = true ∧ (∀ kv ∈ kvs, isTup kv.1 = isTup d) ∧ dpth d ≤ 8 ∧ keyOf d = some q := by
  unfold keyFor at h
  split at h
  · rename_i z
    simp only [Bool.and_eq_true, List.all_eq_true, decide_eq_true_eq, beq_iff_eq] at z
    exact ⟨z.1.1, z.1.2, z.2, h⟩
  · cases h
theorem nodup_some {α : Type} : ∀ {l : List α}, (l.map some).Nodup → l.Nodup
  | [], _ => .nil
  | a :: l, h => by
    rw [List.map_cons, List.nodup_cons] at h
    rw [List.nodup_cons]
    exact ⟨fun m => h.1 (List.mem_map_of_mem m), nodup_some h.2⟩
/-- the dict at a, its keys tuples -/
structure TD (W : Wd) (X : Cx) (ρ : List Addr) (H : Hp) (s : Shared) (a : Addr) (kvs : List (D × D)) (xs : XT) (us : List (NestedKey × Addr × Value)) : Prop where
  t : DctT W ρ H xs kvs
  e : ET us xs
  d : s.heap.DictOfH (nestedKind X.prog X.w) a us
  sys : (a == sysModules) = false
  len : xs.length ≤ sizeLine
  was : ∃ u, H a = some u ∧ (∀ vs, u ≠ .tup vs) ∧ (∀ ob w, u ≠ .frz ob w) ∧ Mut (some u)
theorem EK {w : World} : ∀ {es : List DictEntry} {xs : XT}, Paired (fun (e : DictEntry) (x : NestedKey × Addr × V) => e.hash = x.1.hash w ∧ e.key = .ref x.2.1 ∧ RelV x.2.2 e.val) es xs →
    ∃ us : List (NestedKey × Addr × Value), ET us xs ∧ es = us.map (fun x => (⟨x.1.hash w, .ref x.2.1, x.2.2⟩ : DictEntry))
  | _, _, .nil => ⟨[], .nil, rfl⟩
  | e :: es, x :: xs, .cons a b => by
    obtain ⟨us, h1, h2⟩ := EK b
    refine ⟨(x.1, x.2.1, e.val) :: us, .cons ⟨rfl, rfl, a.2.2⟩ h1, ?_⟩
    rw [List.map_cons, ← h2]
    obtain ⟨hh, kk, vv⟩ := e
    have h1 : hh = _ := a.1
    have h2 : kk = _ := a.2.1
    rw [h1, h2]
theorem ET.keys {us : List (NestedKey × Addr × Value)} {xs : XT} (h : ET us xs) : us.map (·.1) = xs.map (·.1) := by
  induction h with
  | nil => rfl
  | cons a b ih => rw [List.map_cons, List.map_cons, ih, a.1]
theorem DctT.keys {xs : XT} (h : DctT W ρ H xs kvs) : kvs.map (fun kv => keyOf kv.1) = (xs.map (·.1)).map some := by
  induction h with
  | nil => rfl
  | cons a b ih => rw [List.map_cons, ih, a.1]; rfl
theorem ET.length {us : List (NestedKey × Addr × Value)} {xs : XT} (h : ET us xs) : us.length = xs.length := Paired.length h
theorem td_at (I : Inv X pins σ H s) (hX : Gx W k X) (ok : OOk W ρ H a (.dct kvs)) (all : ∀ kv ∈ kvs, isTup kv.1 = true) : ∃ xs us, TD W X ρ H s a kvs xs us := by
  obtain ⟨nd, ok⟩ := ok
  rcases ok with ⟨xs, h1, h2⟩ | ⟨xs, h0, h1, h2⟩
  · have e : kvs = [] := by
      cases h2 with
      | nil => rfl
      | cons a b =>
        have := all _ (List.mem_cons_self ..)
        rw [a.1, isTup_flat] at this
        cases this
    subst e
    cases h2
    obtain ⟨z, hs, vs, kv, o, es, ep, ho, hx, hd, hk, hp, _⟩ := I.hok a _ h1
    cases kv
    refine ⟨[], [], .nil, .nil, ⟨o, es, ep, ho, hx, hd, ?_, fun x hx => by simp at hx, by simp⟩, hs, Nat.zero_le _, ⟨_, h1, (fun vs z => by cases z), (fun ob w z => by cases z), trivial⟩⟩
    cases hp' : es.toList with
    | nil => rfl
    | cons x y => rw [hp'] at hp; cases hp
  · obtain ⟨⟨hs, hl, o, es, ep, ho, hx, hd, hp⟩, _, _⟩ := I.hok a _ h1
    obtain ⟨us, e1, e2⟩ := EK hp
    refine ⟨xs, us, h2, e1, ⟨o, es, ep, ho, hx, hd, ?_, fun x hx => ?_, ?_⟩, hs, hl, ⟨_, h1, (fun vs z => by cases z), (fun ob w z => by cases z), trivial⟩⟩
    · rw [e2, hX.w]; rfl
    · have key : ∀ {us : List (NestedKey × Addr × Value)} {xs : XT} {kvs : List (D × D)}, ET us xs → DctT W ρ H xs kvs → ∀ x ∈ us, NestedIs s.heap x.1 (.ref x.2.1) ∧ x.1.depth ≤ 8 := by
        intro us xs kvs h1
        induction h1 generalizing kvs with
        | nil => intro _ x hx; simp at hx
        | cons a b ih =>
          intro t x hx
          cases t with
          | cons p q =>
            rcases List.mem_cons.mp hx with rfl | hx
            · refine ⟨?_, ?_⟩
              · rw [a.1, a.2.1]; exact nested_is I hX.K p.1 p.2.2.2.1 rfl
              · rw [a.1, key_depth p.1]; exact p.2.1
            · exact ih q x hx
      exact key e1 h2 x hx
    · rw [e1.keys]
      rw [h2.keys] at nd
      exact nodup_some nd
/-- the dict at a, its keys flat -/
theorem kd_at (ok : OOk W ρ H a (.dct kvs)) (all : ∀ kv ∈ kvs, isTup kv.1 = false) : ∃ xs, H a = some (.dK xs) ∧ DctK W ρ H xs kvs := by
  obtain ⟨nd, ok⟩ := ok
  rcases ok with h | ⟨xs, h0, h1, h2⟩
  · exact h
  · cases h2 with
    | nil => exact (h0 rfl).elim
    | cons a b =>
      have := all _ (List.mem_cons_self ..)
      rw [a.2.2.1] at this
      cases this
theorem Gx.u8 (hX : Gx W k X) : (nestedKind X.prog X.w).room X.A.in1 := by
  have := hX.room.un
  show X.A.units + 1 + 8 < cLine
  omega
theorem Gx.u1 (hX : Gx W k X) : X.A.units + 1 < cLine := by have := hX.room.un; omega
theorem Rel.dct {v : V} {n : Nat} (r : Rel W ρ G H) (hv : Dn W ρ H v (.ref n)) (hg : G[n]? = some (.dct kvs)) : ∃ a, v = .ref a ∧ ρ[n]? = some a ∧ OOk W ρ H a (.dct kvs) := by
  cases hv with
  | @ref a _ ha => exact ⟨a, rfl, ha, r.obj _ _ _ ha hg⟩
theorem TD.key (I : Inv X pins σ H s) (hX : Gx W k X) {d : D} {q : NestedKey} {v : V} (kf : keyOf d = some q) (dp : dpth d ≤ 8) (tp : isTup d = true) (n : Dn W ρ H v d) : ∃ b, v = .ref b ∧ (nestedKind X.prog X.w).is s.heap q b := by
  cases d with
  | tup l =>
    cases n with
    | tup h1 h2 => exact ⟨_, rfl, nested_is I hX.K kf (.tup h1 h2) rfl, by rw [key_depth kf]; exact dp⟩
  | _ => cases tp
/-- d[q], there -/
theorem dg_item {E : Value → Shared → Prop} {R : Value → Shared → Prop} {v : V} {u : Value} {d y : D} {q : NestedKey} (I : Inv X pins σ H s) (hX : Gx W k X) (ok : OOk W ρ H a (.dct kvs)) (kf : keyFor kvs d = some q) (n : Dn W ρ H v d) (ru : RelV v u)
    (l : lookK q kvs = some y) (h : ∀ z u' s', Inv X pins σ H s' → RelV z u' → Dn W ρ H z y → R u' s') : wpAny (model X.prog X.w) X.A (getItem (.ref a) u) R E s := by
  obtain ⟨f1, f2, f3, f4⟩ := keyFor_eq kf
  cases tp : isTup d with
  | true =>
    obtain ⟨xs, us, t⟩ := td_at I hX ok fun kv hkv => (f2 kv hkv).trans tp
    obtain ⟨b, rfl, ki⟩ := TD.key I hX f4 f3 tp n
    cases ru
    rcases t.t.look q with ⟨_, z⟩ | ⟨b', v', d', h1, h2, h3⟩
    · rw [z] at l; cases l
    · rw [h2] at l; cases l
      rcases t.e.look q with ⟨_, z⟩ | ⟨b2, u2, v2, g1, g2, g3⟩
      · rw [z] at h1; cases h1
      · rw [g2] at h1; cases h1
        exact wpAny_getItem_heap hX.u8 ki t.d g1 (h _ _ _ (I.tok _) g3 h3)
  | false =>
    obtain ⟨xs, h1, h2⟩ := kd_at ok fun kv hkv => (f2 kv hkv).trans tp
    obtain ⟨c, rfl⟩ := flat_of f1 tp
    rw [keyOf_flat] at f4; cases f4
    rw [n.key] at ru
    rcases h2.look c with ⟨_, z⟩ | ⟨v', d', g1, g2, g3⟩
    · rw [z] at l; cases l
    · rw [g2] at l; cases l
      exact d_getItem hX.u1 I (g1 ▸ DGet.k h1) ru fun u' s' I' r' => h _ u' s' I' r' g3
/-- q in d -/
theorem dg_in {E : Value → Shared → Prop} {R : Value → Shared → Prop} {v : V} {u : Value} {d : D} {q : NestedKey} (I : Inv X pins σ H s) (hX : Gx W k X) (ok : OOk W ρ H a (.dct kvs)) (kf : keyFor kvs d = some q) (n : Dn W ρ H v d) (ru : RelV v u)
    (h : ∀ s', Inv X pins σ H s' → R (.bool (lookK q kvs).isSome) s') : wpAny (model X.prog X.w) X.A (compareOp .In u (.ref a)) R E s := by
  obtain ⟨f1, f2, f3, f4⟩ := keyFor_eq kf
  cases tp : isTup d with
  | true =>
    obtain ⟨xs, us, t⟩ := td_at I hX ok fun kv hkv => (f2 kv hkv).trans tp
    obtain ⟨b, rfl, ki⟩ := TD.key I hX f4 f3 tp n
    cases ru
    refine wpAny_in_heap hX.u8 ki t.sys t.d ?_
    have e : (atKey us q).isSome = (lookK q kvs).isSome := by
      rcases t.t.look q with ⟨h1, h2⟩ | ⟨b', v', d', h1, h2, h3⟩
      · rcases t.e.look q with ⟨g1, _⟩ | ⟨b2, u2, v2, g1, g2, g3⟩
        · rw [g1, h2]; rfl
        · rw [g2] at h1; cases h1
      · rcases t.e.look q with ⟨_, z⟩ | ⟨b2, u2, v2, g1, g2, g3⟩
        · rw [z] at h1; cases h1
        · rw [g1, h2]; rfl
    rw [e]
    exact h _ (I.tok _)
  | false =>
    obtain ⟨xs, h1, h2⟩ := kd_at ok fun kv hkv => (f2 kv hkv).trans tp
    obtain ⟨c, rfl⟩ := flat_of f1 tp
    rw [keyOf_flat] at f4; cases f4
    rw [n.key] at ru
    refine d_in hX.u1 I (DGet.k h1) ru fun s' I' => ?_
    have e : (valV xs c).isSome = (lookK (kN c) kvs).isSome := by
      rcases h2.look c with ⟨g1, g2⟩ | ⟨v', d', g1, g2, g3⟩ <;> rw [g1, g2] <;> rfl
    rw [e]
    exact h s' I'
theorem dg_notIn {E : Value → Shared → Prop} {R : Value → Shared → Prop} {v : V} {u : Value} {d : D} {q : NestedKey} (I : Inv X pins σ H s) (hX : Gx W k X) (ok : OOk W ρ H a (.dct kvs)) (kf : keyFor kvs d = some q) (n : Dn W ρ H v d) (ru : RelV v u)
    (h : ∀ s', Inv X pins σ H s' → R (.bool (!(lookK q kvs).isSome)) s') : wpAny (model X.prog X.w) X.A (compareOp .NotIn u (.ref a)) R E s := by
  obtain ⟨f1, f2, f3, f4⟩ := keyFor_eq kf
  cases tp : isTup d with
  | true =>
    obtain ⟨xs, us, t⟩ := td_at I hX ok fun kv hkv => (f2 kv hkv).trans tp
    obtain ⟨b, rfl, ki⟩ := TD.key I hX f4 f3 tp n
    cases ru
    have e : (atKey us q).isSome = (lookK q kvs).isSome := by
      rcases t.t.look q with ⟨h1, h2⟩ | ⟨b', v', d', h1, h2, h3⟩
      · rcases t.e.look q with ⟨g1, _⟩ | ⟨b2, u2, v2, g1, g2, g3⟩
        · rw [g1, h2]; rfl
        · rw [g2] at h1; cases h1
      · rcases t.e.look q with ⟨_, z⟩ | ⟨b2, u2, v2, g1, g2, g3⟩
        · rw [z] at h1; cases h1
        · rw [g1, h2]; rfl
    refine notIn_keyed hX.u8 ki t.sys ⟨us, t.d, rfl⟩ ?_
    rw [valueAt_pairsH, Option.isSome_map, e]
    exact h _ (I.tok _)
  | false =>
    obtain ⟨xs, h1, h2⟩ := kd_at ok fun kv hkv => (f2 kv hkv).trans tp
    obtain ⟨c, rfl⟩ := flat_of f1 tp
    rw [keyOf_flat] at f4; cases f4
    rw [n.key] at ru
    refine d_notIn hX.u1 I (DGet.k h1) ru fun s' I' => ?_
    have e : (valV xs c).isSome = (lookK (kN c) kvs).isSome := by
      rcases h2.look c with ⟨g1, g2⟩ | ⟨v', d', g1, g2, g3⟩ <;> rw [g1, g2] <;> rfl
    rw [e]
    exact h s' I'
/-- d.get(q, x) -/
theorem dg_get2 {E : Value → Shared → Prop} {R : Value → Shared → Prop} {v v2 : V} {u u2 : Value} {d e : D} {q : NestedKey} (I : Inv X pins σ H s) (hX : Gx W k X) (ok : OOk W ρ H a (.dct kvs)) (kf : keyFor kvs d = some q) (n : Dn W ρ H v d) (ru : RelV v u) (n2 : Dn W ρ H v2 e) (ru2 : RelV v2 u2)
    (h : ∀ z u' s', Inv X pins σ H s' → RelV z u' → Dn W ρ H z ((lookK q kvs).getD e) → R u' s') : wpAny (model X.prog X.w) X.A (PySem.call (.builtin "dict.get") [.ref a, u, u2]) R E s := by
  obtain ⟨f1, f2, f3, f4⟩ := keyFor_eq kf
  cases tp : isTup d with
  | true =>
    obtain ⟨xs, us, t⟩ := td_at I hX ok fun kv hkv => (f2 kv hkv).trans tp
    obtain ⟨b, rfl, ki⟩ := TD.key I hX f4 f3 tp n
    cases ru
    refine getOr_keyed hX.u8 ki t.sys ⟨us, t.d, rfl⟩ ?_
    rw [valueAt_pairsH]
    rcases t.t.look q with ⟨h1, h2⟩ | ⟨b', v', d', h1, h2, h3⟩
    · rw [h2] at h
      rcases t.e.look q with ⟨g1, _⟩ | ⟨b2, u3, v3, g1, g2, g3⟩
      · rw [g1]; exact h _ _ _ (I.tok _) ru2 n2
      · rw [g2] at h1; cases h1
    · rw [h2] at h
      rcases t.e.look q with ⟨_, z⟩ | ⟨b2, u3, v3, g1, g2, g3⟩
      · rw [z] at h1; cases h1
      · rw [g2] at h1; cases h1
        rw [g1]; exact h _ _ _ (I.tok _) g3 h3
  | false =>
    obtain ⟨xs, h1, h2⟩ := kd_at ok fun kv hkv => (f2 kv hkv).trans tp
    obtain ⟨c, rfl⟩ := flat_of f1 tp
    rw [keyOf_flat] at f4; cases f4
    rw [n.key] at ru
    refine d_get2 hX.u1 I (DGet.k h1) ru ru2 fun u' s' I' r' => ?_
    rcases h2.look c with ⟨g1, g2⟩ | ⟨v', d', g1, g2, g3⟩
    · rw [g1] at r'; rw [g2] at h
      exact h _ u' s' I' r' n2
    · rw [g1] at r'; rw [g2] at h
      exact h _ u' s' I' r' g3
theorem dctO_new {h' : Heap} {xs : XT} {us : List (NestedKey × Addr × Value)} (hw : X.w = W.w) (sys : (a == sysModules) = false) (len : xs.length ≤ sizeLine) (e : ET us xs) (d : h'.DictOfH (nestedKind X.prog X.w) a us) : ObjOk X.prog X.w H' h' a (dctO W a xs) := by
  obtain ⟨o, es, ep, ho, hx, hd, he, d1, d2⟩ := d
  have hp : Paired (fun (e : DictEntry) (x : NestedKey × Addr × V) => e.hash = x.1.hash W.w ∧ e.key = .ref x.2.1 ∧ RelV x.2.2 e.val) es.toList xs := by
    rw [he]
    clear he d1 d2 len
    induction e with
    | nil => exact .nil
    | cons a b ih =>
      refine .cons ⟨?_, ?_, a.2.2⟩ ih
      · rw [← a.1, ← hw]; rfl
      · rw [← a.2.1]; rfl
  exact ⟨⟨sys, len, o, es, ep, ho, hx, hd, hp⟩, ⟨o, ho⟩, fun h1 h2 ⟨s1, l1, o1, es1, ep1, a1, a2, a3, a4⟩ st => ⟨s1, l1, o1, es1, ep1, st _ a1, a2, a3, a4⟩⟩
theorem stV_ne {xs : XT} {q : NestedKey} {b : Addr} {y : V} : stV xs q b y ≠ [] := by
  unfold stV
  split
  · rename_i h
    intro e
    have : xs = [] := by simpa using e
    subst this
    cases h
  · simp
theorem stV_len {xs : XT} {q : NestedKey} {b : Addr} {y : V} : (stV xs q b y).length ≤ xs.length + 1 := by
  unfold stV
  split <;> simp
theorem put_len {q : NestedKey} {d v : D} : (Fw.putK q d v kvs).length ≤ kvs.length + 1 := by
  unfold Fw.putK
  split <;> simp
/-- d[q] = y -/
theorem dg_set {E : Value → Shared → Prop} {R : Unit → Shared → Prop} {v y : V} {u w : Value} {d e : D} {q : NestedKey} {n : Nat} (I : Inv X pins σ H s) (hX : Gx W k X) (r : Rel W ρ G H) (ha : ρ[n]? = some a) (hg : G[n]? = some (.dct kvs)) (kf : keyFor kvs d = some q) (n1 : Dn W ρ H v d) (ru : RelV v u) (n2 : Dn W ρ H y e) (rw' : RelV y w)
    (hl : kvs.length < lim) (h : ∀ s' H', Inv X pins σ H' s' → Ex W ρ H ρ H' → Rel W ρ (G.set n (.dct (Fw.putK q d e kvs))) H' → R () s') : wpAny (model X.prog X.w) X.A (setItem (.ref a) u w) R E s := by
  have ok := r.obj n a _ ha hg
  obtain ⟨f1, f2, f3, f4⟩ := keyFor_eq kf
  have nd := put_nodup (v := e) f4 ok.1
  cases tp : isTup d with
  | true =>
    obtain ⟨xs, us, t⟩ := td_at I hX ok fun kv hkv => (f2 kv hkv).trans tp
    obtain ⟨b, rfl, ki⟩ := TD.key I hX f4 f3 tp n1
    cases ru
    have lx : xs.length = kvs.length := Paired.length t.t
    refine wpAny_setItem_heap (hsz := by rw [t.e.length]; exact t.len) hX.u8 ki t.d fun h' dd' hs => ?_
    obtain ⟨u0, z1, z2, z3, z4⟩ := t.was
    have he : ∃ q, h'.get? a = some q := let ⟨q, _, _, hq, _⟩ := dd'; ⟨q, hq⟩
    have ll : (stV xs q b y).length ≤ sizeLine := by have := stV_len (xs := xs) (q := q) (b := b) (y := y); rw [lim_eq]; omega
    have I' := d_write (t' := s.toks + (nestedKind X.prog X.w).draws q) I (by rw [z1]; exact z4) hs he (dctO_new (H' := upd H a (dctO W a (stV xs q b y))) hX.w t.sys ll (t.e.st q b rw') dd')
    have ex : Ex W ρ H ρ (upd H a (dctO W a (stV xs q b y))) := Ex.set (r.nz hg fun l z => by cases z) ha z1 z2 z3
    exact h _ _ I' ex (r.write ha hg (fun l z => by cases z) (fun l z => by cases z) z1 z2 z3 ⟨nd, .inr ⟨_, stV_ne, upd_same, (t.t.put n1 f4 f3 tp n2).ex ex⟩⟩)
  | false =>
    obtain ⟨xs, h1, h2⟩ := kd_at ok fun kv hkv => (f2 kv hkv).trans tp
    obtain ⟨c, rfl⟩ := flat_of f1 tp
    rw [keyOf_flat] at f4; cases f4
    rw [n1.key] at ru
    have lx : xs.length = kvs.length := Paired.length h2
    have ex : Ex W ρ H ρ (upd H a (.dK (L2.putK xs c y))) := Ex.set (r.nz hg fun l z => by cases z) ha h1 (fun vs z => by cases z) fun ob w z => by cases z
    exact d_setItem hX.u1 I (DPut.k h1 (by rw [lim_eq]; omega)) ru rw' fun s' I' => h s' _ I' ex
      (r.write ha hg (fun l z => by cases z) (fun l z => by cases z) h1 (fun vs z => by cases z) (fun ob w z => by cases z) ⟨nd, .inl ⟨_, upd_same, (h2.put c n2).ex ex⟩⟩)
end
end Fw

/-! Fw2f: in, subscripts, stores into subscripts, slices. -/
namespace Fw
open L2 PySem PySem.Spec PyProof.Rows
variable {W : Wd}
section
variable {X : Cx} {k : Nat} {pins : List (Addr × Obj)} {σ : L2.St} {s : Shared} {ρ ρ' : List Addr} {H H' : Hp} {G : Store} {Q : V → Hp → Prop} {a : Addr} {kvs : List (D × D)}
theorem dict_is (I : Inv X pins σ H s) (hX : Gx W k X) (ok : OOk W ρ H a (.dct kvs)) : s.TypeIs (.ref a) "dict" := by
  obtain ⟨nd, ok⟩ := ok
  rcases ok with ⟨xs, h1, h2⟩ | ⟨xs, h0, h1, h2⟩
  · obtain ⟨_, _, vs, _, dd⟩ := dk_rd I.hok (.inl h1)
    exact dd.typeIs
  · obtain ⟨⟨hs, hl, o, es, ep, ho, hx, hd, hp⟩, _, _⟩ := I.hok a _ h1
    exact ⟨o, ho, hx.1⟩
/-- the data of a row -/
theorem memS_eq {x : D} {l : List D} {b : Bool} (h : memS G x l = some b) : ∃ y ys, snap G 64 x = some y ∧ snaps (snap G 63) l = some ys ∧ SeqAt.shaped y = true ∧ SeqAt.shaped (.list ys) = true ∧ b = ys.any fun z => PyData.eqv z y := by
  unfold memS at h
  obtain ⟨y, e1, h⟩ := Option.bind_eq_some_iff.mp h
  obtain ⟨ys, e2, h⟩ := Option.bind_eq_some_iff.mp h
  split at h
  · rename_i z
    rw [Bool.and_eq_true] at z
    cases h
    exact ⟨y, ys, e1, e2, z.1, z.2, rfl⟩
  · cases h
theorem Gx.u65 (hX : Gx W k X) : X.A.units + 65 < cLine := by have := hX.room.un; omega
theorem in_row {neg : Bool} {f : Value → Value → Sem Value} {x y : D} {v u : V} {p q : Value} {l : List D} {b : Bool} {E : Value → Shared → Prop} {R : Value → Shared → Prop} (I : Inv X pins σ H s) (hX : Gx W k X) (r : Rel W ρ G H) (m : memS G x l = some b)
    (hy : y = .tup l ∨ ∃ n fz, y = .ref n ∧ G[n]? = some (.lst l fz)) (n1 : Dn W ρ H v x) (n2 : Dn W ρ H u y) (rp : RelV v p) (rq : RelV u q) :
    (R (.bool b) s → wpAny (model X.prog X.w) X.A (compareOp .In p q) R E s) ∧ (R (.bool (!b)) s → wpAny (model X.prog X.w) X.A (compareOp .NotIn p q) R E s) := by
  obtain ⟨d, ds, e1, e2, s1, s2, rfl⟩ := memS_eq m
  obtain ⟨as, r1⟩ := reads_of I hX.K r 64 e1 n1 rp
  have c1 := SeqAt.canLay_of_shaped s1
  have c2 : PyData.canLayAll0 ds = true := SeqAt.canLay_of_shaped s2
  have ro := room_in_shaped (A := X.A) (xs := ds) s1 hX.u65
  rcases hy with rfl | ⟨n, fz, rfl, hg⟩
  · have e3 : snap G 64 (.tup l) = some (.tuple ds) := by show (snaps (snap G 63) l).map PyData.tuple = _; rw [e2]; rfl
    obtain ⟨bs, r2⟩ := reads_of I hX.K r 64 e3 n2 rq
    exact ⟨SeqAt.in_tuple_reads r2 r1 c2 c1 ro, SeqAt.notIn_tuple_reads r2 r1 c2 c1 ro⟩
  · have e3 : snap G 64 (.ref n) = some (.list ds) := by
      show (match G[n]? with
        | some (.lst l _) => (snaps (snap G 63) l).map PyData.list
        | _ => none) = _
      rw [hg]; dsimp only; rw [e2]; rfl
    obtain ⟨bs, r2⟩ := reads_of I hX.K r 64 e3 n2 rq
    exact ⟨SeqAt.in_list_reads r2 r1 c2 c1 ro, SeqAt.notIn_list_reads r2 r1 c2 c1 ro⟩
theorem oc_in2 {x y : D} {v u : V} {p q : Value} {b : Bool} {E : Value → Shared → Prop} {R : Value → Shared → Prop} (I : Inv X pins σ H s) (hX : Gx W k X) (r : Rel W ρ G H) (m : inS G x y = some b) (n1 : Dn W ρ H v x) (n2 : Dn W ρ H u y) (rp : RelV v p) (rq : RelV u q) :
    ((∀ s', Inv X pins σ H s' → R (.bool b) s') → wpAny (model X.prog X.w) X.A (compareOp .In p q) R E s) ∧ ((∀ s', Inv X pins σ H s' → R (.bool (!b)) s') → wpAny (model X.prog X.w) X.A (compareOp .NotIn p q) R E s) := by
  cases y with
  | tup l =>
    obtain ⟨h1, h2⟩ := in_row (neg := true) (f := fun _ _ => pure .none) (E := E) (R := R) I hX r (show memS G x l = some b from m) (.inl rfl) n1 n2 rp rq
    exact ⟨fun h => h1 (h s I), fun h => h2 (h s I)⟩
  | str t =>
    cases n2
    obtain ⟨t2, rfl⟩ := rq
    cases x with
    | str z =>
      cases n1
      obtain ⟨t1, rfl⟩ := rp
      match z, m with
      | [c], m =>
        cases m
        refine ⟨fun h => PyProof.Rows.in_str ?_, fun h => PyProof.Rows.notIn_str ?_⟩
        · have e := PySem.StrLaws.found_one ⟨t.toArray⟩ c
          rw [show (⟨[c].toArray⟩ : Str) = ⟨#[c]⟩ from rfl, e]
          exact h s I
        · have e := PySem.StrLaws.found_one ⟨t.toArray⟩ c
          rw [show (⟨[c].toArray⟩ : Str) = ⟨#[c]⟩ from rfl, e]
          exact h s I
      | [], m => cases m
      | _ :: _ :: _, m => cases m
    | _ => cases m
  | ref n =>
    have m : (match G[n]? with
      | some (.lst l _) => memS G x l
      | some (.dct kvs) => (keyFor kvs x).map fun k => (lookK k kvs).isSome
      | _ => none) = some b := m
    split at m
    · rename_i l fz hg
      obtain ⟨h1, h2⟩ := in_row (neg := true) (f := fun _ _ => pure .none) (E := E) (R := R) I hX r m (.inr ⟨n, fz, rfl, hg⟩) n1 n2 rp rq
      exact ⟨fun h => h1 (h s I), fun h => h2 (h s I)⟩
    · rename_i kvs hg
      obtain ⟨q, e1, e2⟩ := Option.map_eq_some_iff.mp m
      subst e2
      obtain ⟨a, rfl, ha, ok⟩ := r.dct n2 hg
      cases rq
      exact ⟨fun h => dg_in I hX ok e1 n1 rp h, fun h => dg_notIn I hX ok e1 n1 rp h⟩
    · cases m
  | _ => cases m
theorem oc_in (hX : Gx W k X) : OpR X (compareOp .In) (rD2 W (cmpS .in_)) := by
  intro pins s σ H v u a b Q I ra rb h
  obtain ⟨ρ, G, x, y, r, n1, n2, f⟩ := h
  obtain ⟨c, e, q⟩ := cmp_fin f rfl r
  exact (oc_in2 I hX r e n1 n2 ra rb).1 fun s' I' => ⟨.bl c, H, I', rfl, q⟩
theorem oc_nin (hX : Gx W k X) : OpR X (compareOp .NotIn) (rD2 W (cmpS .nin)) := by
  intro pins s σ H v u a b Q I ra rb h
  obtain ⟨ρ, G, x, y, r, n1, n2, f⟩ := h
  obtain ⟨c, e, q⟩ := cmp_fin f rfl r
  obtain ⟨c', e0, rfl⟩ := Option.map_eq_some_iff.mp e
  exact (oc_in2 I hX r e0 n1 n2 ra rb).2 fun s' I' => ⟨.bl _, H, I', rfl, q⟩
/-! ### subscripts -/
theorem atI_of {l : List D} {vs : List V} {i : Int} {d : D} (n : Dns W ρ H vs l) (h : ((ixN l.length i).bind fun j => l[j]?) = some d) : ∃ v, atI vs i = some v ∧ Dn W ρ H v d := by
  obtain ⟨j, e1, e2⟩ := Option.bind_eq_some_iff.mp h
  obtain ⟨v, e3, e4⟩ := n.get e2
  refine ⟨v, ?_, e4⟩
  unfold atI
  rw [n.length, show L2.ixN l.length i = some j from e1]
  exact e3
theorem ox_idx (hX : Gx W k X) : IxR X (rD2 W idxS) := by
  intro value slice pins s σ H v u a b Q I ra rb h hs
  obtain ⟨ρ, G, x, y, r, n1, n2, f⟩ := h
  cases x with
  | tup l =>
    cases y with
    | int i =>
      obtain ⟨z, e, f⟩ := f.of
      obtain ⟨d, e1, e2⟩ := Option.map_eq_some_iff.mp e
      subst e2
      cases n2
      cases n1 with
      | tup q ds =>
        obtain ⟨w, g1, g2⟩ := atI_of ds e1
        exact ix_tup value slice pins s σ H _ _ a b Q I ra rb ⟨_, _, i, w, rfl, rfl, by rw [hX.K]; exact q, g1, f.use Ex.refl r g2⟩ hs
    | _ => exact (f.stuck).elim
  | str z =>
    cases y with
    | int i =>
      obtain ⟨hz, f⟩ := f.must
      have hz := of_decide_eq_true hz
      obtain ⟨z', e, f⟩ := f.of
      obtain ⟨d, e1, e2⟩ := Option.map_eq_some_iff.mp e
      subst e2
      cases n2; cases n1
      exact ix_str value slice pins s σ H _ _ a b Q I ra rb ⟨_, i, d, rfl, rfl, by show z.toArray.size ≤ sizeLine; rw [lim_eq]; simpa using hz, by simpa [atI] using e1, f.use Ex.refl r (.str [d])⟩ hs
    | _ => exact (f.stuck).elim
  | ref n =>
    have f : Fin W ρ H (match G[n]? with
      | some (.lst l _) => (match (generalizing := false) y with
        | .int i => Res.of (((ixN l.length i).bind fun j => l[j]?).map fun d => (d, G))
        | _ => .stuck)
      | some (.dct kvs) => Res.of (((keyFor kvs y).bind fun k => lookK k kvs).map fun d => (d, G))
      | _ => .stuck) Q := f
    split at f
    · rename_i l fz hg
      cases y with
      | int i =>
        obtain ⟨z, e, f⟩ := f.of
        obtain ⟨d, e1, e2⟩ := Option.map_eq_some_iff.mp e
        subst e2
        cases n2
        obtain ⟨p, vs, rfl, _, q, ds, _⟩ := r.lst n1 hg
        obtain ⟨w, g1, g2⟩ := atI_of ds e1
        exact ix_list value slice pins s σ H _ _ a b Q I ra rb ⟨_, _, i, w, rfl, rfl, by rw [hX.K]; exact q, g1, f.use Ex.refl r g2⟩ hs
      | _ => exact (f.stuck).elim
    · rename_i kvs hg
      obtain ⟨z, e, f⟩ := f.of
      obtain ⟨d, e1, e2⟩ := Option.map_eq_some_iff.mp e
      subst e2
      obtain ⟨q, e3, e4⟩ := Option.bind_eq_some_iff.mp e1
      obtain ⟨p, rfl, ha, ok⟩ := r.dct n1 hg
      cases ra
      exact tail_any (dict_is I hX ok) slot_dict_getitem.lookup (dg_item I hX ok e3 n2 rb e4 fun z u' s' I' r' n' => ⟨z, H, I', r', f.use Ex.refl r n'⟩) hs
    · exact (f.stuck).elim
  | _ => exact (f.stuck).elim
/-! ### stores -/
def FinU (W : Wd) (ρ : List Addr) (H : Hp) (r : Res Store) (Q : Hp → Prop) : Prop := ∃ G', r = .ok G' ∧ ∀ ρ' H', Ex W ρ H ρ' H' → Rel W ρ' G' H' → Q H'
theorem FinU.stuck {Q : Hp → Prop} (h : FinU W ρ H .stuck Q) : False := by obtain ⟨_, e, _⟩ := h; cases e
theorem FinU.must {Q : Hp → Prop} {b : Bool} {r : Res Store} (h : FinU W ρ H (Fw.must b r) Q) : b = true ∧ FinU W ρ H r Q := by
  obtain ⟨G', e, h⟩ := h
  obtain ⟨e1, e2⟩ := must_eq e
  exact ⟨e1, G', e2, h⟩
theorem FinU.of {Q : Hp → Prop} {o : Option Store} (h : FinU W ρ H (Res.of o) Q) : ∃ z, o = some z ∧ ∀ ρ' H', Ex W ρ H ρ' H' → Rel W ρ' z H' → Q H' := by
  obtain ⟨G', e, h⟩ := h
  exact ⟨G', Res.of_eq e, h⟩
theorem os_set (hX : Gx W k X) : PSet X (fun o i v H Q => ∃ ρ G x y z, Rel W ρ G H ∧ Dn W ρ H o x ∧ Dn W ρ H i y ∧ Dn W ρ H v z ∧ FinU W ρ H (setS x y z G) Q) := by
  intro pins s σ H o i v ov iv u Q I ro ri rv h
  obtain ⟨ρ, G, x, y, z, r, n1, n2, n3, f⟩ := h
  cases x with
  | ref n =>
    have f : FinU W ρ H (match G[n]? with
      | some (.lst l false) => (match (generalizing := false) y with
        | .int i => Res.of ((ixN l.length i).map fun j => G.set n (.lst (l.set j z) false))
        | _ => .stuck)
      | some (.dct kvs) => must (decide (kvs.length < lim)) (Res.of ((keyFor kvs y).map fun k => G.set n (.dct (Fw.putK k y z kvs))))
      | _ => .stuck) Q := f
    split at f
    · rename_i l hg
      cases y with
      | int j =>
        obtain ⟨G', e, f⟩ := f.of
        obtain ⟨m, e1, e2⟩ := Option.map_eq_some_iff.mp e
        subst e2
        cases n2
        obtain ⟨p, vs, rfl, ha, q, ds, hp⟩ := r.lst n1 hg
        have hp := hp rfl
        have ex : Ex W ρ H ρ (upd H p (.lst (vs.set m v))) := Ex.set (r.nz hg fun l z => by cases z) ha hp (fun vs z => by cases z) (fun ob w z => by cases z)
        exact L2.set_list pins s σ H _ _ v ov iv u Q I ro ri rv ⟨p, vs, j, m, rfl, rfl, hp, by rw [ds.length]; exact e1,
          f _ _ ex (r.write ha hg (fun l z => by cases z) (fun l z => by cases z) hp (fun vs z => by cases z) (fun ob w z => by cases z) ⟨_, (ds.set n3 m).ex ex, .inr ⟨rfl, upd_same⟩⟩)⟩
      | _ => exact (f.stuck).elim
    · rename_i kvs hg
      obtain ⟨hl, f⟩ := f.must
      obtain ⟨G', e, f⟩ := f.of
      obtain ⟨q, e1, e2⟩ := Option.map_eq_some_iff.mp e
      subst e2
      obtain ⟨p, rfl, ha, ok⟩ := r.dct n1 hg
      cases ro
      exact dg_set I hX r ha hg e1 n2 ri n3 rv (of_decide_eq_true hl) fun s' H' I' x' r' => ⟨H', I', f _ _ x' r'⟩
    · exact (f.stuck).elim
  | _ => exact (f.stuck).elim
/-! ### slices -/
theorem cutV_cut (xs : List V) (lo hi : Option Int) : cutV xs lo hi = cut xs lo hi := rfl
theorem cut_whole {α : Type} (xs : List α) (lo hi : Option Int) (h : HT.sIx xs.length 0 lo = 0 ∧ HT.sIx xs.length xs.length hi = xs.length) : cut xs lo hi = xs := by
  unfold cut
  simp only [h.1, h.2]
  simp
theorem ol_sl (hX : Gx W k X) : SlR X (fun v lo hi H Q => ∃ ρ G x, Rel W ρ G H ∧ Dn W ρ H v x ∧ Fin W ρ H (slS x lo hi G) Q) := by
  intro pins s σ H v a vl vu lo hi sl Q I ra hs pl pu h
  obtain ⟨ρ, G, x, r, n1, f⟩ := h
  cases x with
  | tup l =>
    cases n1 with
    | tup q ds =>
      refine sl_tupA pins s σ H _ a vl vu lo hi sl Q I ra hs pl pu ⟨_, _, rfl, by rw [hX.K]; exact q, fun w => ?_, fun w p hp => ?_⟩
      · have f : Fin W ρ H (.ok (.tup (cut l lo hi), G)) Q := f
        rw [cut_whole l lo hi (by rw [← ds.length]; exact w)] at f
        exact f.use Ex.refl r (.tup q ds)
      · exact f.newT r (Dns.cut (α := V) ds lo hi) hp
  | str z =>
    cases n1
    obtain ⟨hz, f⟩ := f.must
    have hz := of_decide_eq_true hz
    refine sl_str pins s σ H _ a vl vu lo hi sl Q I ra hs pl pu ⟨_, rfl, by show z.toArray.size ≤ sizeLine; rw [lim_eq]; simpa using hz, ?_⟩
    have e : cutS ⟨z.toArray⟩ lo hi = ⟨(cut z lo hi).toArray⟩ := by
      unfold cutS cut
      simp [Str.length]
    rw [e]
    exact f.use Ex.refl r (.str _)
  | ref n =>
    have f : Fin W ρ H (match G[n]? with
      | some (.lst l _) => newO (.lst (cut l lo hi) false) G
      | _ => .stuck) Q := f
    split at f
    · rename_i l fz hg
      obtain ⟨p, vs, rfl, ha, q, ds, _⟩ := r.lst n1 hg
      exact sl_list pins s σ H _ a vl vu lo hi sl Q I ra hs pl pu ⟨_, _, rfl, by rw [hX.K]; exact q, fun p hp => f.newL r (Dns.cut (α := V) ds lo hi) hp⟩
    · exact (f.stuck).elim
  | _ => exact (f.stuck).elim
end
end Fw

/-! Fw2g: the rules for expressions and tests. -/
namespace Fw
open L2 PySem PySem.Spec PyProof.Rows
variable {W : Wd}
section
variable {X : Cx} {k : Nat} {ρ ρ' : List Addr} {H H' : Hp} {G : Store} {Q : V → Hp → Prop} {σ : L2.St} {a b c : Expr} {fa fb fc : FE} {pos : Pos}
theorem Fin.seq {r : RD} {f : D × Store → RD} {Q' : VK} (h : Fin W ρ H (r.bind f) Q) (q : ∀ d G' v ρ' H', Ex W ρ H ρ' H' → Rel W ρ' G' H' → Dn W ρ' H' v d → Fin W ρ' H' (f (d, G')) Q → Q' v H') : Fin W ρ H r Q' := by
  obtain ⟨⟨d, G'⟩, e, h⟩ := h.bind
  exact ⟨d, G', e, fun v ρ' H' x r n => q d G' v ρ' H' x r n (h.ex x)⟩
theorem Fin.seqL {r : Res (List D × Store)} {f : List D × Store → RD} {Q' : List V → Hp → Prop} (h : Fin W ρ H (r.bind f) Q) (q : ∀ ds G' vs ρ' H', Ex W ρ H ρ' H' → Rel W ρ' G' H' → Dns W ρ' H' vs ds → Fin W ρ' H' (f (ds, G')) Q → Q' vs H') : FinL W ρ H r Q' := by
  obtain ⟨⟨d, G'⟩, e, h⟩ := h.bind
  exact ⟨d, G', e, fun v ρ' H' x r n => q d G' v ρ' H' x r n (h.ex x)⟩
theorem Fin.seqB {r : Res (Bool × Store)} {f : Bool × Store → RD} {Q' : Bool → Hp → Prop} (h : Fin W ρ H (r.bind f) Q) (q : ∀ d G' ρ' H', Ex W ρ H ρ' H' → Rel W ρ' G' H' → Fin W ρ' H' (f (d, G')) Q → Q' d H') : FinB W ρ H r Q' := by
  obtain ⟨⟨d, G'⟩, e, h⟩ := h.bind
  exact ⟨d, G', e, fun ρ' H' x r => q d G' ρ' H' x r (h.ex x)⟩
theorem FinB.ex {r : Res (Bool × Store)} {Q : Bool → Hp → Prop} (h : FinB W ρ H r Q) (x : Ex W ρ H ρ' H') : FinB W ρ' H' r Q := by
  obtain ⟨d, G', e, h⟩ := h
  exact ⟨d, G', e, fun ρ2 H2 x2 => h ρ2 H2 (x.trans x2)⟩
theorem FinB.bind {α : Type} {r : Res α} {f : α → Res (Bool × Store)} {Q : Bool → Hp → Prop} (h : FinB W ρ H (r.bind f) Q) : ∃ a, r = .ok a ∧ FinB W ρ H (f a) Q := by
  obtain ⟨d, G', e, h⟩ := h
  obtain ⟨a, e1, e2⟩ := Res.bind_eq e
  exact ⟨a, e1, d, G', e2, h⟩
theorem FinB.use {b : Bool} {G' : Store} {Q : Bool → Hp → Prop} (h : FinB W ρ H (.ok (b, G')) Q) (x : Ex W ρ H ρ' H') (r : Rel W ρ' G' H') : Q b H' := by
  obtain ⟨_, _, e, h⟩ := h
  cases e
  exact h ρ' H' x r
theorem FinB.seq {r : RD} {f : D × Store → Res (Bool × Store)} {Q : Bool → Hp → Prop} {Q' : VK} (h : FinB W ρ H (r.bind f) Q) (q : ∀ d G' v ρ' H', Ex W ρ H ρ' H' → Rel W ρ' G' H' → Dn W ρ' H' v d → FinB W ρ' H' (f (d, G')) Q → Q' v H') : Fin W ρ H r Q' := by
  obtain ⟨⟨d, G'⟩, e, h⟩ := h.bind
  exact ⟨d, G', e, fun v ρ' H' x r n => q d G' v ρ' H' x r n (h.ex x)⟩
theorem FinB.seqB {r : Res (Bool × Store)} {f : Bool × Store → Res (Bool × Store)} {Q Q' : Bool → Hp → Prop} (h : FinB W ρ H (r.bind f) Q) (q : ∀ d G' ρ' H', Ex W ρ H ρ' H' → Rel W ρ' G' H' → FinB W ρ' H' (f (d, G')) Q → Q' d H') : FinB W ρ H r Q' := by
  obtain ⟨⟨d, G'⟩, e, h⟩ := h.bind
  exact ⟨d, G', e, fun ρ' H' x r => q d G' ρ' H' x r (h.ex x)⟩
theorem FinB.of {o : Option (Bool × Store)} {Q : Bool → Hp → Prop} (h : FinB W ρ H (Res.of o) Q) : ∃ z, o = some z ∧ FinB W ρ H (.ok z) Q := by
  obtain ⟨d, G', e, h⟩ := h
  exact ⟨(d, G'), Res.of_eq e, d, G', rfl, h⟩
theorem FinL.bind {α : Type} {r : Res α} {f : α → Res (List D × Store)} {Q : List V → Hp → Prop} (h : FinL W ρ H (r.bind f) Q) : ∃ a, r = .ok a ∧ FinL W ρ H (f a) Q := by
  obtain ⟨d, G', e, h⟩ := h
  obtain ⟨a, e1, e2⟩ := Res.bind_eq e
  exact ⟨a, e1, d, G', e2, h⟩
theorem FinL.ex {r : Res (List D × Store)} {Q : List V → Hp → Prop} (h : FinL W ρ H r Q) (x : Ex W ρ H ρ' H') : FinL W ρ' H' r Q := by
  obtain ⟨d, G', e, h⟩ := h
  exact ⟨d, G', e, fun v ρ2 H2 x2 => h v ρ2 H2 (x.trans x2)⟩
theorem FinL.use {ds : List D} {vs : List V} {G' : Store} {Q : List V → Hp → Prop} (h : FinL W ρ H (.ok (ds, G')) Q) (x : Ex W ρ H ρ' H') (r : Rel W ρ' G' H') (n : Dns W ρ' H' vs ds) : Q vs H' := by
  obtain ⟨_, _, e, h⟩ := h
  cases e
  exact h vs ρ' H' x r n
/-- an expression's reading from its value -/
def IsE (W : Wd) (X : Cx) (e : Expr) (f : FE) : Prop := PE X e (rE W f)
def IsB (W : Wd) (X : Cx) (e : Expr) (f : Env → Store → Res (Bool × Store)) : Prop := PT X e (rB W f)
def IsA (W : Wd) (X : Cx) (e : List Expr) (f : Env → Store → Res (List D × Store)) : Prop := PA X e (rA W f)
theorem is_var {i : Nat} {x : Str} (hN : X.N[i]? = some x) (hv : Vis X.env.scope x) (hd : (x == ("__debug__" : Str)) = false) (hcd : (x == ("__classdict__" : Str)) = false) : IsE W X (.Name x pos) (fun env G => getV env i G) := by
  refine PE.imp (pe_var hN hv hd hcd) fun σ H Q h => ?_
  obtain ⟨ρ, G, env, r, eo, f⟩ := h
  dsimp only at f
  unfold getV at f
  split at f
  · rename_i d e
    obtain ⟨v, h1, h2⟩ := eo.2 i d e
    exact ⟨v, h1, f.use Ex.refl r h2⟩
  · exact (f.stuck).elim
theorem is_con {d : D} {v : V} {e : Expr} (h : PE X e (tC v)) (n : ∀ ρ H, Dn W ρ H v d) : IsE W X e (fun _ G => .ok (d, G)) := by
  refine PE.imp h fun σ H Q h => ?_
  obtain ⟨ρ, G, env, r, eo, f⟩ := h
  exact f.use Ex.refl r (n _ _)
theorem two {g : D → D → Store → RD} (h : rE W (fun env G => (fa env G).bind fun x => (fb env x.2).bind fun y => g x.1 y.1 y.2) σ H Q) : tOp (rD2 W g) (rE W fa) (rE W fb) σ H Q := by
  obtain ⟨ρ, G, env, r, eo, f⟩ := h
  refine ⟨ρ, G, env, r, eo, f.seq fun d G1 v ρ1 H1 x1 r1 n1 f1 => ⟨ρ1, G1, env, r1, eo.ex x1, f1.seq fun d2 G2 u ρ2 H2 x2 r2 n2 f2 => ⟨ρ2, G2, d, d2, r2, n1.ex x2, n2, f2⟩⟩⟩
theorem is_bin {op : Operator} {g : D → D → Store → RD} (ho : OpR X (binaryOp op) (rD2 W g)) (ha : IsE W X a fa) (hb : IsE W X b fb) : IsE W X (.BinOp a op b pos) (fun env G => (fa env G).bind fun x => (fb env x.2).bind fun y => g x.1 y.1 y.2) :=
  PE.imp (pe_op ho ha hb) fun σ H Q h => two h
theorem is_cmp {op : CmpOp} {g : D → D → Store → RD} (ho : OpR X (compareOp op) (rD2 W g)) (ha : IsE W X a fa) (hb : IsE W X b fb) (hm : behindInMarks op b = false) : IsE W X (.Compare a [op] [b] pos) (fun env G => (fa env G).bind fun x => (fb env x.2).bind fun y => g x.1 y.1 y.2) :=
  PE.imp (pe_cmpR ho ha hb hm) fun σ H Q h => two h
theorem is_ix {g : D → D → Store → RD} (ho : IxR X (rD2 W g)) (ha : IsE W X a fa) (hb : IsE W X b fb) (hs : PlainIx b) : IsE W X (.Subscript a b pos) (fun env G => (fa env G).bind fun x => (fb env x.2).bind fun y => g x.1 y.1 y.2) :=
  PE.imp (pe_ix ho ha hb hs) fun σ H Q h => two h
theorem is_neg (ha : IsE W X a fa) : IsE W X (.UnaryOp .USub a pos) (fun env G => (fa env G).bind fun x => match x.1 with
    | .int i => .ok (.int (-i), x.2)
    | _ => .stuck) := by
  refine PE.imp (pe_un un_neg ha) fun σ H Q h => ?_
  obtain ⟨ρ, G, env, r, eo, f⟩ := h
  refine ⟨ρ, G, env, r, eo, f.seq fun d G1 v ρ1 H1 x1 r1 n1 f1 => ?_⟩
  cases d with
  | int i => cases n1; exact ⟨i, rfl, f1.use Ex.refl r1 (.int _)⟩
  | _ => exact (f1.stuck).elim
/-! ### truth -/
theorem truth_of {v : V} {d : D} {b : Bool} (r : Rel W ρ G H) (n : Dn W ρ H v d) (e : truthS G d = some b) : TruV W.K v H b := by
  cases d with
  | non => cases n; cases e; rfl
  | bl c => cases n; cases e; rfl
  | int i => cases n; cases e; rfl
  | str s =>
    cases n
    have e : (if s.length ≤ lim then some (!s.isEmpty) else none) = some b := e
    split at e
    · rename_i hz
      cases e
      refine ⟨by show s.toArray.size ≤ sizeLine; rw [lim_eq]; simpa using hz, ?_⟩
      show (!s.isEmpty) = (((s.toArray.size : Nat) : Int) != 0)
      cases s with
      | nil => rfl
      | cons x y =>
        show true = _
        rw [eq_comm, bne_iff_ne]
        simp only [List.size_toArray, List.length_cons]
        omega
    · cases e
  | tup l =>
    cases e
    cases n with
    | tup q ds =>
      refine .inr (.inl ⟨_, q, ?_⟩)
      have := ds.length
      cases ds <;> rfl
  | ref i =>
    unfold truthS at e
    dsimp only at e
    split at e
    · rename_i l fz hg
      cases e
      obtain ⟨p, vs, rfl, _, q, ds, _⟩ := r.lst n hg
      exact .inl ⟨vs, q, by cases ds <;> rfl⟩
    · cases e
theorem is_not (hX : Gx W k X) (ha : IsE W X a fa) : IsE W X (.UnaryOp .Not a pos) (fun env G => (fa env G).bind fun x => match truthS x.2 x.1 with
    | some b => .ok (.bl (!b), x.2)
    | none => .stuck) := by
  refine PE.imp (pe_notT ha) fun σ H Q h => ?_
  obtain ⟨ρ, G, env, r, eo, f⟩ := h
  refine ⟨ρ, G, env, r, eo, f.seq fun d G1 v ρ1 H1 x1 r1 n1 f1 => ?_⟩
  dsimp only at f1
  split at f1
  · rename_i t e
    exact ⟨t, by rw [hX.K]; exact truth_of r1 n1 e, f1.use Ex.refl r1 (.bl _)⟩
  · exact (f1.stuck).elim
theorem is_and {rest : List Expr} (hX : Gx W k X) (ha : IsE W X a fa) (hb : IsE W X (.BoolOp .And (b :: rest) pos) fb) : IsE W X (.BoolOp .And (a :: b :: rest) pos) (fun env G => (fa env G).bind fun x => match truthS x.2 x.1 with
    | some true => fb env x.2
    | some false => .ok x
    | none => .stuck) := by
  refine PE.imp (pe_andT ha hb) fun σ H Q h => ?_
  obtain ⟨ρ, G, env, r, eo, f⟩ := h
  refine ⟨ρ, G, env, r, eo, f.seq fun d G1 v ρ1 H1 x1 r1 n1 f1 => ?_⟩
  dsimp only at f1
  split at f1
  · rename_i e
    refine ⟨true, by rw [hX.K]; exact truth_of r1 n1 e, ?_⟩
    rw [if_pos rfl]
    exact ⟨ρ1, G1, env, r1, eo.ex x1, f1⟩
  · rename_i e
    refine ⟨false, by rw [hX.K]; exact truth_of r1 n1 e, ?_⟩
    rw [if_neg (by decide)]
    exact f1.use Ex.refl r1 n1
  · exact (f1.stuck).elim
theorem is_or {rest : List Expr} (hX : Gx W k X) (ha : IsE W X a fa) (hb : IsE W X (.BoolOp .Or (b :: rest) pos) fb) : IsE W X (.BoolOp .Or (a :: b :: rest) pos) (fun env G => (fa env G).bind fun x => match truthS x.2 x.1 with
    | some false => fb env x.2
    | some true => .ok x
    | none => .stuck) := by
  refine PE.imp (pe_orT ha hb) fun σ H Q h => ?_
  obtain ⟨ρ, G, env, r, eo, f⟩ := h
  refine ⟨ρ, G, env, r, eo, f.seq fun d G1 v ρ1 H1 x1 r1 n1 f1 => ?_⟩
  dsimp only at f1
  split at f1
  · rename_i e
    refine ⟨false, by rw [hX.K]; exact truth_of r1 n1 e, ?_⟩
    rw [if_neg (by decide)]
    exact ⟨ρ1, G1, env, r1, eo.ex x1, f1⟩
  · rename_i e
    refine ⟨true, by rw [hX.K]; exact truth_of r1 n1 e, ?_⟩
    rw [if_pos rfl]
    exact f1.use Ex.refl r1 n1
  · exact (f1.stuck).elim
theorem is_one {op : BoolOp} (ha : IsE W X a fa) : IsE W X (.BoolOp op [a] pos) fa := pe_one ha
theorem chn {g g' : D → D → Store → RD} (h : rE W (fun env G => (fa env G).bind fun x => (fb env x.2).bind fun y => (g x.1 y.1 y.2).bind fun z => match z.1 with
    | .bl true => (fc env z.2).bind fun w => g' y.1 w.1 w.2
    | .bl false => .ok (.bl false, z.2)
    | _ => .stuck) σ H Q) : tChain (rD2 W g) (rD2 W g') (rE W fa) (rE W fb) (rE W fc) σ H Q := by
  obtain ⟨ρ, G, env, r, eo, f⟩ := h
  refine ⟨ρ, G, env, r, eo, f.seq fun d G1 v ρ1 H1 x1 r1 n1 f1 => ⟨ρ1, G1, env, r1, eo.ex x1, f1.seq fun d2 G2 u ρ2 H2 x2 r2 n2 f2 => ⟨ρ2, G2, d, d2, r2, n1.ex x2, n2, f2.seq fun d3 G3 t ρ3 H3 x3 r3 n3 f3 => ?_⟩⟩⟩
  dsimp only at f3
  split at f3
  · cases n3
    refine ⟨true, rfl, ?_⟩
    rw [if_pos rfl]
    exact ⟨ρ3, G3, env, r3, (eo.ex x1).ex (x2.trans x3), f3.seq fun d4 G4 t4 ρ4 H4 x4 r4 n4 f4 => ⟨ρ4, G4, d2, d4, r4, n2.ex (x3.trans x4), n4, f4⟩⟩
  · cases n3
    refine ⟨false, rfl, ?_⟩
    rw [if_neg (by decide)]
    exact f3.use Ex.refl r3 (.bl _)
  · exact (f3.stuck).elim
theorem is_chain {op op' : CmpOp} {g g' : D → D → Store → RD} (ho : OpR X (compareOp op) (rD2 W g)) (ho' : OpR X (compareOp op') (rD2 W g')) (ha : IsE W X a fa) (hb : IsE W X b fb) (hc : IsE W X c fc) (hm : lastMarks [op, op'] [b, c] = false) :
    IsE W X (.Compare a [op, op'] [b, c] pos) (fun env G => (fa env G).bind fun x => (fb env x.2).bind fun y => (g x.1 y.1 y.2).bind fun z => match z.1 with
    | .bl true => (fc env z.2).bind fun w => g' y.1 w.1 w.2
    | .bl false => .ok (.bl false, z.2)
    | _ => .stuck) := PE.imp (pe_chain ho ho' ha hb hc hm) fun σ H Q h => chn h
theorem is_ite {t : Expr} {ft : Env → Store → Res (Bool × Store)} (ht : IsB W X t ft) (ha : IsE W X a fa) (hb : IsE W X b fb) : IsE W X (.IfExp t a b pos) (fun env G => (ft env G).bind fun x => match x.1 with
    | true => fa env x.2
    | false => fb env x.2) := by
  refine PE.imp (pe_ifExp ht ha hb) fun σ H Q h => ?_
  obtain ⟨ρ, G, env, r, eo, f⟩ := h
  refine ⟨ρ, G, env, r, eo, f.seqB fun d G1 ρ1 H1 x1 r1 f1 => ?_⟩
  cases d with
  | true => rw [if_pos rfl]; exact ⟨ρ1, G1, env, r1, eo.ex x1, f1⟩
  | false => rw [if_neg (by decide)]; exact ⟨ρ1, G1, env, r1, eo.ex x1, f1⟩
/-! ### tests -/
theorem ib_val (hX : Gx W k X) (ha : IsE W X a fa) (he : ∀ whole, isTrue a X.env whole = (do let v ← whole; standAt a.pos; holding [v] (truthy v))) : IsB W X a (fun env G => (fa env G).bind fun x => Res.of ((truthS x.2 x.1).map fun b => (b, x.2))) := by
  refine PT.imp (pt_truth ha he) fun σ H Q h => ?_
  obtain ⟨ρ, G, env, r, eo, f⟩ := h
  refine ⟨ρ, G, env, r, eo, f.seq fun d G1 v ρ1 H1 x1 r1 n1 f1 => ?_⟩
  obtain ⟨z, e, f1⟩ := f1.of
  obtain ⟨t, e1, e2⟩ := Option.map_eq_some_iff.mp e
  subst e2
  exact ⟨t, by rw [hX.K]; exact truth_of r1 n1 e1, f1.use Ex.refl r1⟩
theorem test_of {t : TE} {f : FE} (i : ∀ σ H Q, rE W f σ H Q → t σ H Q) (bl : ∀ env G d G', f env G = .ok (d, G') → ∃ b, d = .bl b) {Q : Bool → Hp → Prop}
    (h : rB W (fun env G => (f env G).bind fun x => Res.of ((truthS x.2 x.1).map fun b => (b, x.2))) σ H Q) : tTest t σ H Q := by
  obtain ⟨ρ, G, env, r, eo, f1⟩ := h
  refine i _ _ _ ⟨ρ, G, env, r, eo, ?_⟩
  obtain ⟨⟨d, G'⟩, e, f1⟩ := f1.bind
  obtain ⟨b, rfl⟩ := bl _ _ _ _ e
  refine ⟨_, G', e, fun v ρ' H' x r' n => ?_⟩
  cases n
  obtain ⟨z, e2, f1⟩ := f1.of
  cases e2
  exact ⟨b, rfl, f1.use x r'⟩
theorem ib_cmp {op : CmpOp} {g : D → D → Store → RD} (bl : ∀ x y G d G', g x y G = .ok (d, G') → ∃ b, d = .bl b) (ho : OpR X (compareOp op) (rD2 W g)) (ha : IsE W X a fa) (hb : IsE W X b fb) (hm : behindInMarks op b = false) :
    IsB W X (.Compare a [op] [b] pos) (fun env G => ((fa env G).bind fun x => (fb env x.2).bind fun y => g x.1 y.1 y.2).bind fun x => Res.of ((truthS x.2 x.1).map fun b => (b, x.2))) := by
  refine PT.imp (pt_cmpR ho ha hb hm) fun σ H Q h => test_of (fun σ H Q h => two h) (fun env G d G' e => ?_) h
  obtain ⟨x, e1, e⟩ := Res.bind_eq e
  obtain ⟨y, e2, e⟩ := Res.bind_eq e
  exact bl _ _ _ _ _ e
theorem ib_chain {op op' : CmpOp} {g g' : D → D → Store → RD} (bl : ∀ x y G d G', g' x y G = .ok (d, G') → ∃ b, d = .bl b) (ho : OpR X (compareOp op) (rD2 W g)) (ho' : OpR X (compareOp op') (rD2 W g')) (ha : IsE W X a fa) (hb : IsE W X b fb) (hc : IsE W X c fc) (hm : lastMarks [op, op'] [b, c] = false) :
    IsB W X (.Compare a [op, op'] [b, c] pos) (fun env G => ((fa env G).bind fun x => (fb env x.2).bind fun y => (g x.1 y.1 y.2).bind fun z => match z.1 with
    | .bl true => (fc env z.2).bind fun w => g' y.1 w.1 w.2
    | .bl false => .ok (.bl false, z.2)
    | _ => .stuck).bind fun x => Res.of ((truthS x.2 x.1).map fun b => (b, x.2))) := by
  refine PT.imp (pt_chain ho ho' ha hb hc hm) fun σ H Q h => test_of (fun σ H Q h => chn h) (fun env G d G' e => ?_) h
  obtain ⟨x, e1, e⟩ := Res.bind_eq e
  obtain ⟨y, e2, e⟩ := Res.bind_eq e
  obtain ⟨z, e3, e⟩ := Res.bind_eq e
  split at e
  · obtain ⟨w, e4, e⟩ := Res.bind_eq e
    exact bl _ _ _ _ _ e
  · cases e; exact ⟨_, rfl⟩
  · cases e
theorem ib_not {fa : Env → Store → Res (Bool × Store)} (ha : IsB W X a fa) : IsB W X (.UnaryOp .Not a pos) (fun env G => (fa env G).bind fun x => .ok (!x.1, x.2)) := by
  refine PT.imp (pt_not ha) fun σ H Q h => ?_
  obtain ⟨ρ, G, env, r, eo, f⟩ := h
  exact ⟨ρ, G, env, r, eo, f.seqB fun d G1 ρ1 H1 x1 r1 f1 => f1.use Ex.refl r1⟩
theorem pw_of {op : BoolOp} {l : List Expr} {t : TT} (h : PT X (.BoolOp op l pos) t) : PW X (.BoolOp op l pos) t := ⟨fun wh pins s σ H Q I q => h.run pins s σ H Q I q⟩
theorem ib_and {rest : List Expr} {fa fb : Env → Store → Res (Bool × Store)} (ha : IsB W X a fa) (hb : IsB W X (.BoolOp .And (b :: rest) pos) fb) : IsB W X (.BoolOp .And (a :: b :: rest) pos) (fun env G => (fa env G).bind fun x => match x.1 with
    | true => fb env x.2
    | false => .ok (false, x.2)) := by
  refine PT.imp (pw_and ha (pw_of hb)).pt fun σ H Q h => ?_
  obtain ⟨ρ, G, env, r, eo, f⟩ := h
  refine ⟨ρ, G, env, r, eo, f.seqB fun d G1 ρ1 H1 x1 r1 f1 => ?_⟩
  cases d with
  | true => rw [if_pos rfl]; exact ⟨ρ1, G1, env, r1, eo.ex x1, f1⟩
  | false => rw [if_neg (by decide)]; exact f1.use Ex.refl r1
theorem ib_or {rest : List Expr} {fa fb : Env → Store → Res (Bool × Store)} (ha : IsB W X a fa) (hb : IsB W X (.BoolOp .Or (b :: rest) pos) fb) : IsB W X (.BoolOp .Or (a :: b :: rest) pos) (fun env G => (fa env G).bind fun x => match x.1 with
    | false => fb env x.2
    | true => .ok (true, x.2)) := by
  refine PT.imp (pw_or ha (pw_of hb)).pt fun σ H Q h => ?_
  obtain ⟨ρ, G, env, r, eo, f⟩ := h
  refine ⟨ρ, G, env, r, eo, f.seqB fun d G1 ρ1 H1 x1 r1 f1 => ?_⟩
  cases d with
  | false => rw [if_neg (by decide)]; exact ⟨ρ1, G1, env, r1, eo.ex x1, f1⟩
  | true => rw [if_pos rfl]; exact f1.use Ex.refl r1
theorem ib_one {op : BoolOp} {fa : Env → Store → Res (Bool × Store)} (ha : IsB W X a fa) : IsB W X (.BoolOp op [a] pos) fa := by
  cases op with
  | And => exact (pw_and1 ha).pt
  | Or => exact (pw_or1 ha).pt
theorem cmp_bl {o : Cmp} : ∀ x y G d G', cmpS o x y G = .ok (d, G') → ∃ b, d = .bl b := by
  intro x y G d G' e
  unfold cmpS at e
  obtain ⟨b, e1, e⟩ := Res.bind_eq e
  cases e
  exact ⟨b, rfl⟩
/-! ### rows of arguments, displays -/
def noStar : Expr → Bool
  | .Starred .. => false
  | _ => true
theorem star_cons {env : PySem.Env} {es : List Expr} (h : noStar a = true) : starEach (a :: es) env = (false, eval a env) :: starEach es env := by
  cases a <;> first | rfl | cases h
theorem star_any {env : PySem.Env} : ∀ {es : List Expr}, es.all noStar = true → (backTo pos (starEach es env)).any (·.1) = false
  | [], _ => rfl
  | a :: es, h => by
    rw [List.all_cons, Bool.and_eq_true] at h
    rw [star_cons h.1]
    show (false || (backTo pos (starEach es env)).any (·.1)) = false
    rw [star_any h.2]; rfl
theorem ia_nil : IsA W X [] (fun _ G => .ok ([], G)) := by
  refine PA.imp pa_nil fun σ H Q h => ?_
  obtain ⟨ρ, G, env, r, eo, f⟩ := h
  exact f.use Ex.refl r .nil
theorem ia_cons {es : List Expr} {fs : Env → Store → Res (List D × Store)} (hs : noStar a = true) (ha : IsE W X a fa) (hr : IsA W X es fs) : IsA W X (a :: es) (fun env G => (fa env G).bind fun x => (fs env x.2).bind fun y => .ok (x.1 :: y.1, y.2)) := by
  refine PA.imp (pa_cons ha hr (star_cons hs)) fun σ H Q h => ?_
  obtain ⟨ρ, G, env, r, eo, f⟩ := h
  obtain ⟨⟨d, G1⟩, e1, f⟩ := f.bind
  refine ⟨ρ, G, env, r, eo, d, G1, e1, fun v ρ1 H1 x1 r1 n1 => ?_⟩
  have f := f.ex x1
  obtain ⟨⟨ds, G2⟩, e2, f⟩ := f.bind
  refine ⟨ρ1, G1, env, r1, eo.ex x1, ds, G2, e2, fun vs ρ2 H2 x2 r2 n2 => ?_⟩
  exact f.use x2 r2 (.cons (n1.ex x2) n2)
theorem is_tup {es : List Expr} {x1} {fs : Env → Store → Res (List D × Store)} (h : IsA W X es fs) : IsE W X (.Tuple es x1 pos) (fun env G => (fs env G).bind fun x => must (decide (x.1.length ≤ lim)) (.ok (.tup x.1, x.2))) := by
  refine PE.imp (pe_tup h) fun σ H Q h => ?_
  obtain ⟨ρ, G, env, r, eo, f⟩ := h
  refine ⟨ρ, G, env, r, eo, f.seqL fun d G1 v ρ1 H1 x1 r1 n1 f1 => ?_⟩
  obtain ⟨hz, f1⟩ := f1.must
  have hz := of_decide_eq_true hz
  exact ⟨by rw [n1.length, lim_eq]; exact hz, fun p hp => f1.newT r1 n1 hp⟩
theorem is_lst {es : List Expr} {fs : Env → Store → Res (List D × Store)} (h : IsA W X es fs) : IsE W X (.List es pos) (fun env G => (fs env G).bind fun x => mkL x.1 x.2) := by
  refine PE.imp (pe_lst h) fun σ H Q h => ?_
  obtain ⟨ρ, G, env, r, eo, f⟩ := h
  refine ⟨ρ, G, env, r, eo, f.seqL fun d G1 v ρ1 H1 x1 r1 n1 f1 => ?_⟩
  obtain ⟨hz, f1⟩ := f1.must
  have hz := of_decide_eq_true hz
  exact ⟨by rw [n1.length, lim_eq]; exact hz, fun p hp => f1.newL r1 n1 hp⟩
/-! ### slices -/
def rO (W : Wd) (f : Env → Store → Res (Option Int × Store)) : TO := fun σ H Q => ∃ ρ G env, Rel W ρ G H ∧ EnvOk W ρ H σ env ∧ ∃ o G', f env G = .ok (o, G') ∧ ∀ ρ' H', Ex W ρ H ρ' H' → Rel W ρ' G' H' → Q o H'
theorem PO.imp {e : Option Expr} {t t' : TO} (h : PO X e t) (i : ∀ σ H Q, t' σ H Q → t σ H Q) : PO X e t' := ⟨fun pins s σ H Q I q => h.run pins s σ H Q I (i σ H Q q)⟩
theorem io_none : PO X none (rO W fun _ G => .ok (none, G)) := by
  refine PO.imp po_none fun σ H Q h => ?_
  obtain ⟨ρ, G, env, r, eo, o, G', e, f⟩ := h
  cases e
  exact f _ _ Ex.refl r
theorem io_some (h : IsE W X a fa) : PO X (some a) (rO W fun env G => (fa env G).bind fun x => match x.1 with
    | .int i => .ok (some i, x.2)
    | _ => .stuck) := by
  refine PO.imp (po_some h) fun σ H Q h => ?_
  obtain ⟨ρ, G, env, r, eo, o, G', e, f⟩ := h
  obtain ⟨⟨d, G1⟩, e1, e⟩ := Res.bind_eq e
  refine ⟨ρ, G, env, r, eo, d, G1, e1, fun v ρ' H' x r' n => ?_⟩
  dsimp only at e
  split at e
  · cases e; cases n
    exact ⟨_, rfl, f _ _ x r'⟩
  · cases e
theorem is_sl {lo hi : Option Expr} {fl fh : Env → Store → Res (Option Int × Store)} {p2 : Pos} (hX : Gx W k X) (ha : IsE W X a fa) (hl : PO X lo (rO W fl)) (hh : PO X hi (rO W fh)) :
    IsE W X (.Subscript a (.Slice lo hi none p2) pos) (fun env G => (fa env G).bind fun x => (fl env x.2).bind fun y => (fh env y.2).bind fun z => slS x.1 y.1 z.1 z.2) := by
  refine PE.imp (pe_slice (ol_sl hX) ha hl hh) fun σ H Q h => ?_
  obtain ⟨ρ, G, env, r, eo, f⟩ := h
  refine ⟨ρ, G, env, r, eo, f.seq fun d G1 v ρ1 H1 x1 r1 n1 f1 => ?_⟩
  obtain ⟨⟨o, G2⟩, e2, f1⟩ := f1.bind
  refine ⟨ρ1, G1, env, r1, eo.ex x1, o, G2, e2, fun ρ2 H2 x2 r2 => ?_⟩
  obtain ⟨⟨o3, G3⟩, e3, f1⟩ := f1.bind
  exact ⟨ρ2, G2, env, r2, (eo.ex x1).ex x2, o3, G3, e3, fun ρ3 H3 x3 r3 => ⟨ρ3, G3, d, r3, n1.ex (x2.trans x3), (f1.ex x2).ex x3⟩⟩
/-! ### fields -/
theorem Flds.look {f : Str} {d : D} : ∀ {xs : List (Str × V)} {ys : List (Str × D)}, Flds W ρ H xs ys → ys.lookup f = some d → ∃ v, xs.lookup f = some v ∧ Dn W ρ H v d
  | _, _, .nil, e => by cases e
  | x :: xs, y :: ys, .cons p q, e => by
    obtain ⟨x1, x2⟩ := x
    obtain ⟨y1, y2⟩ := y
    obtain ⟨p1, p2⟩ := p
    dsimp only at p1 p2
    subst p1
    rw [List.lookup_cons] at e ⊢
    cases hb : f == x1 with
    | true => rw [hb] at e; cases e; exact ⟨_, rfl, p2⟩
    | false => rw [hb] at e; exact Flds.look q e
theorem Flds.none {f : Str} : ∀ {xs : List (Str × V)} {ys : List (Str × D)}, Flds W ρ H xs ys → (∀ y ∈ ys, y.1 ≠ f) → xs.lookup f = none
  | _, _, .nil, _ => rfl
  | x :: xs, y :: ys, .cons p q, h => by
    obtain ⟨x1, x2⟩ := x
    obtain ⟨y1, y2⟩ := y
    obtain ⟨p1, p2⟩ := p
    dsimp only at p1 p2
    subst p1
    rw [List.lookup_cons]
    have : (f == x1) = false := by
      rw [beq_eq_false_iff_ne]
      exact fun e => h _ (List.mem_cons_self ..) e.symm
    rw [this]
    exact Flds.none q fun y hy => h y (List.mem_cons_of_mem _ hy)
theorem Flds.put {f : Str} {v : V} {d : D} (n : Dn W ρ H v d) : ∀ {xs : List (Str × V)} {ys : List (Str × D)}, Flds W ρ H xs ys → Flds W ρ H (L2.putF f v xs) (Fw.putF f d ys)
  | _, _, .nil => .cons ⟨rfl, n⟩ .nil
  | x :: xs, y :: ys, .cons p q => by
    obtain ⟨x1, x2⟩ := x
    obtain ⟨y1, y2⟩ := y
    obtain ⟨p1, p2⟩ := p
    dsimp only at p1 p2
    subst p1
    unfold L2.putF Fw.putF
    by_cases e : x1 = f
    · rw [if_pos e, if_pos e]; exact .cons ⟨rfl, n⟩ q
    · rw [if_neg e, if_neg e]; exact .cons ⟨rfl, p2⟩ (Flds.put n q)
theorem putF_mem {f : Str} {d : D} : ∀ {ys : List (Str × D)} {x : Str × D}, x ∈ Fw.putF f d ys → x.1 = f ∨ ∃ y ∈ ys, y.1 = x.1
  | [], x, h => by
    unfold Fw.putF at h
    rw [List.mem_singleton] at h
    subst h; exact .inl rfl
  | (g, y) :: r, x, h => by
    unfold Fw.putF at h
    split at h
    · rename_i e
      rcases List.mem_cons.mp h with h | h
      · subst h; exact .inl e
      · exact .inr ⟨x, List.mem_cons_of_mem _ h, rfl⟩
    · rcases List.mem_cons.mp h with h | h
      · subst h; exact .inr ⟨_, List.mem_cons_self .., rfl⟩
      · rcases putF_mem h with e | ⟨z, hz, e⟩
        · exact .inl e
        · exact .inr ⟨z, List.mem_cons_of_mem _ hz, e⟩
theorem is_fld {f : Str} (hX : Gx W k X) (hf : f ∈ W.flds) (ha : IsE W X a fa) (hb : attributeBase a f X.env (eval a X.env) = eval a X.env) : IsE W X (.Attribute a f pos) (fun env G => (fa env G).bind fun x => fldS x.1 f x.2) := by
  refine PE.imp (pe_fld ha hb) fun σ H Q h => ?_
  obtain ⟨ρ, G, env, r, eo, f0⟩ := h
  refine ⟨ρ, G, env, r, eo, f0.seq fun d G1 v ρ1 H1 x1 r1 n1 f1 => ?_⟩
  cases d with
  | ref n =>
    have f1 : Fin W ρ1 H1 (match G1[n]? with
      | some (.ins _ fs) => Res.of ((fs.lookup f).map fun d => (d, G1))
      | _ => .stuck) Q := f1
    split at f1
    · rename_i c fs hg
      obtain ⟨z, e, f1⟩ := f1.of
      obtain ⟨d, e1, e2⟩ := Option.map_eq_some_iff.mp e
      subst e2
      cases n1 with
      | @ref p _ hp =>
        obtain ⟨⟨c1, c2⟩, c3, dx, vs, h1, h2⟩ := r1.obj _ _ _ hp hg
        obtain ⟨v, g1, g2⟩ := h2.look e1
        exact ⟨_, _, dx, vs, v, rfl, h1, by rw [hX.K]; exact c1, by rw [hX.K]; exact c2 f hf, g1, f1.use Ex.refl r1 g2⟩
    · exact (f1.stuck).elim
  | _ => exact (f1.stuck).elim
/-! ### a call of what is known -/
theorem is_callR {es : List Expr} {fs : Env → Store → Res (List D × Store)} {g : List D → Store → RD} {x : Str} {id : String} {p : Pos} (hc : CallR X (.builtin id) (rDL W g)) (hg : Gl X x) (hm : X.mg x = none) (hv : bootBuiltins x = some (.builtin id)) (hn : x ≠ "__name__") (hdb : (x == ("__debug__" : Str)) = false) (h0 : noStar a = true) (hs : es.all noStar = true)
    (ha : IsA W X (a :: es) fs) : IsE W X (.Call (.Name x p) (a :: es) [] pos) (fun env G => (fs env G).bind fun x => g x.1 x.2) := by
  refine PE.imp (pe_callB hc hg hm hv ha hn hdb (star_cons h0) (star_any hs)) fun σ H Q h => ?_
  obtain ⟨ρ, G, env, r, eo, f⟩ := h
  exact ⟨ρ, G, env, r, eo, f.seqL fun d G1 v ρ1 H1 x1 r1 n1 f1 => ⟨ρ1, G1, d, r1, n1, f1⟩⟩
theorem is_callT {es : List Expr} {fs : Env → Store → Res (List D × Store)} {g : List D → Store → RD} {x : Str} {T : String} {p : Pos} (hc : CallR X (.type T) (rDL W g)) (hg : Gl X x) (hm : X.mg x = none) (hv : bootBuiltins x = some (.type T)) (hn : x ≠ "__name__") (hdb : (x == ("__debug__" : Str)) = false) (h0 : noStar a = true) (hs : es.all noStar = true)
    (ha : IsA W X (a :: es) fs) : IsE W X (.Call (.Name x p) (a :: es) [] pos) (fun env G => (fs env G).bind fun x => g x.1 x.2) := by
  refine PE.imp (pe_callTy hc hg hm hv ha hn hdb (star_cons h0) (star_any hs)) fun σ H Q h => ?_
  obtain ⟨ρ, G, env, r, eo, f⟩ := h
  exact ⟨ρ, G, env, r, eo, f.seqL fun d G1 v ρ1 H1 x1 r1 n1 f1 => ⟨ρ1, G1, d, r1, n1, f1⟩⟩
end
end Fw

/-! Fw2h: built-in functions. -/
namespace Fw
open L2 PySem PySem.Spec PyProof.Rows
variable {W : Wd}
section
variable {X : Cx} {k : Nat} {pins : List (Addr × Obj)} {σ : L2.St} {s : Shared} {ρ ρ' : List Addr} {H H' : Hp} {G : Store} {Q : V → Hp → Prop} {a b c : Expr} {fa fb fc : FE} {pos : Pos}
theorem Dns.one {vs : List V} {d : D} (n : Dns W ρ H vs [d]) : ∃ v, vs = [v] ∧ Dn W ρ H v d := by
  cases n with | cons a b => cases b; exact ⟨_, rfl, a⟩
theorem Dns.two {vs : List V} {d e : D} (n : Dns W ρ H vs [d, e]) : ∃ v u, vs = [v, u] ∧ Dn W ρ H v d ∧ Dn W ρ H u e := by
  cases n with | cons a b => cases b with | cons c d => cases d; exact ⟨_, _, rfl, a, c⟩
theorem Dns.nil' {vs : List V} (n : Dns W ρ H vs []) : vs = [] := by cases n; rfl
/-- what a call of one argument does -/
def One (W : Wd) (X : Cx) (f : Value) (g : D → Store → RD) : Prop := ∀ (pins : List (Addr × Obj)) (s : Shared) (σ : L2.St) (H : Hp) (v : V) (u : Value) (Q : VK) (ρ : List Addr) (G : Store) (x : D), Inv X pins σ H s → RelV v u → Rel W ρ G H → Dn W ρ H v x → Fin W ρ H (g x G) Q →
    wpAny (model X.prog X.w) X.A (PySem.call f [u]) (EP X pins σ Q) X.xe s
def Two (W : Wd) (X : Cx) (f : Value) (g : D → D → Store → RD) : Prop := ∀ (pins : List (Addr × Obj)) (s : Shared) (σ : L2.St) (H : Hp) (v v' : V) (u u' : Value) (Q : VK) (ρ : List Addr) (G : Store) (x y : D), Inv X pins σ H s → RelV v u → RelV v' u' → Rel W ρ G H → Dn W ρ H v x → Dn W ρ H v' y → Fin W ρ H (g x y G) Q →
    wpAny (model X.prog X.w) X.A (PySem.call f [u, u']) (EP X pins σ Q) X.xe s
theorem cr_of {f : Value} {b : Bif} (h1 : One W X f (bif1 b)) (h2 : Two W X f (bif2 b)) : CallR X f (rDL W (bifS b)) := by
  intro pins s σ H vs us Q I r ⟨ρ, G, xs, rl, n, f0⟩
  match xs, n, f0 with
  | [], n, f0 => exact (Fin.stuck (show Fin W ρ H .stuck Q from f0)).elim
  | [x], n, f0 =>
    obtain ⟨v, rfl, n1⟩ := n.one
    obtain ⟨u, rfl, r1⟩ := vals1 r
    exact h1 pins s σ H v u Q ρ G x I r1 rl n1 f0
  | [x, y], n, f0 =>
    obtain ⟨v, v', rfl, n1, n'⟩ := n.two
    obtain ⟨u, u', rfl, r1, r'⟩ := vals2 r
    exact h2 pins s σ H v v' u u' Q ρ G x y I r1 r' rl n1 n' f0
  | _ :: _ :: _ :: _, n, f0 => exact (Fin.stuck (show Fin W ρ H .stuck Q from f0)).elim
theorem no2 {f : Value} : Two W X f (fun _ _ _ => .stuck) := fun _ _ _ _ _ _ _ _ _ _ _ _ _ _ _ _ _ _ _ f => f.stuck.elim
theorem v1 {v : V} {u : Value} (r : RelV v u) : Vals [v] [u] := .cons r .nil
theorem cb_len (hX : Gx W k X) : CallR X (.builtin "len") (rDL W (bifS .len)) := by
  refine cr_of (fun pins s σ H v u Q ρ G d I r rl n f => ?_) no2
  have f : Fin W ρ H (lenS d G) Q := f
  cases d with
  | str z =>
    cases n
    obtain ⟨hz, f⟩ := f.must
    have hz := of_decide_eq_true hz
    have e : ((⟨z.toArray⟩ : Str).length) = z.length := by show z.toArray.size = _; simp
    exact call_len_str pins s σ H _ [u] Q I (v1 r) ⟨_, rfl, by rw [e, lim_eq]; exact hz, by rw [e]; exact f.use Ex.refl rl (.int _)⟩
  | tup l =>
    cases n with
    | tup q ds => exact call_len_seq pins s σ H _ [u] Q I (v1 r) ⟨_, _, rfl, .inr (by rw [hX.K]; exact q), by rw [ds.length]; exact f.use Ex.refl rl (.int _)⟩
  | ref i =>
    have f : Fin W ρ H (match G[i]? with
      | some (.lst l _) => .ok (.int l.length, G)
      | some (.dct l) => must (l.all fun kv => !isTup kv.1) (.ok (.int l.length, G))
      | _ => .stuck) Q := f
    split at f
    · rename_i l fz hg
      obtain ⟨p, ws, rfl, _, q, ds, _⟩ := rl.lst n hg
      exact call_len_seq pins s σ H _ [u] Q I (v1 r) ⟨_, _, rfl, .inl (by rw [hX.K]; exact q), by rw [ds.length]; exact f.use Ex.refl rl (.int _)⟩
    · rename_i l hg
      obtain ⟨hz, f⟩ := f.must
      obtain ⟨p, rfl, ha, ok⟩ := rl.dct n hg
      cases r
      have hl := line63
      obtain ⟨ys, h1, h2⟩ := kd_at ok fun kv hkv => by
        have := List.all_eq_true.mp hz kv hkv
        simpa using this
      obtain ⟨z, hd, vs', rel, dd⟩ := dk_rd I.hok (.inl h1)
      have e1 : vs'.length = l.length := by rw [← Paired.length rel]; exact Paired.length h2
      have e2 : ys.length = l.length := Paired.length h2
      exact call_len_dict hd dd (by rw [e1]; omega) ⟨.int (l.length : Nat), H, I.tok _, ⟨_, by rw [e1]⟩, f.use Ex.refl rl (.int _)⟩
    · exact f.stuck.elim
  | _ => exact f.stuck.elim
theorem cb_abs (hX : Gx W k X) : CallR X (.builtin "abs") (rDL W (bifS .abs)) := by
  refine cr_of (fun pins s σ H v u Q ρ G d I r rl n f => ?_) no2
  have f : Fin W ρ H (absS d G) Q := f
  cases d with
  | int i => cases n; exact call_abs pins s σ H _ [u] Q I (v1 r) ⟨i, rfl, f.use Ex.refl rl (.int _)⟩
  | _ => exact f.stuck.elim
theorem cb_int (hX : Gx W k X) : CallR X (.type "int") (rDL W (bifS .int)) := by
  refine cr_of (fun pins s σ H v u Q ρ G d I r rl n f => ?_) no2
  have f : Fin W ρ H (intS d G) Q := f
  cases d with
  | int i => cases n; exact call_int1 pins s σ H _ [u] Q I (v1 r) (.inl ⟨i, rfl, f.use Ex.refl rl (.int _)⟩)
  | bl i => cases n; exact call_int1 pins s σ H _ [u] Q I (v1 r) (.inr ⟨i, rfl, f.use Ex.refl rl (.int _)⟩)
  | _ => exact f.stuck.elim
theorem ints_dn : ∀ {l : List D} {is : List Int} {vs : List V}, intsOf l = some is → Dns W ρ H vs l → vs = is.map V.int
  | [], _, _, e, .nil => by cases e; rfl
  | .int i :: l, _, _, e, .cons a b => by
    obtain ⟨js, e1, e2⟩ := Option.map_eq_some_iff.mp e
    subst e2
    cases a
    rw [ints_dn e1 b]; rfl
  | .non :: _, _, _, e, _ => by cases e
  | .bl _ :: _, _, _, e, _ => by cases e
  | .str _ :: _, _, _, e, _ => by cases e
  | .tup _ :: _, _, _, e, _ => by cases e
  | .ref _ :: _, _, _, e, _ => by cases e
theorem bols_dn : ∀ {l : List D} {is : List Bool} {vs : List V}, bolsOf l = some is → Dns W ρ H vs l → vs = is.map V.bl
  | [], _, _, e, .nil => by cases e; rfl
  | .bl i :: l, _, _, e, .cons a b => by
    obtain ⟨js, e1, e2⟩ := Option.map_eq_some_iff.mp e
    subst e2
    cases a
    rw [bols_dn e1 b]; rfl
  | .non :: _, _, _, e, _ => by cases e
  | .int _ :: _, _, _, e, _ => by cases e
  | .str _ :: _, _, _, e, _ => by cases e
  | .tup _ :: _, _, _, e, _ => by cases e
  | .ref _ :: _, _, _, e, _ => by cases e
theorem strs_dn : ∀ {l : List D} {is : List (List Nat)} {vs : List V}, strsOf l = some is → Dns W ρ H vs l → vs = (is.map fun x => (⟨x.toArray⟩ : Str)).map V.str
  | [], _, _, e, .nil => by cases e; rfl
  | .str i :: l, _, _, e, .cons a b => by
    obtain ⟨js, e1, e2⟩ := Option.map_eq_some_iff.mp e
    subst e2
    cases a
    rw [strs_dn e1 b]; rfl
  | .non :: _, _, _, e, _ => by cases e
  | .int _ :: _, _, _, e, _ => by cases e
  | .bl _ :: _, _, _, e, _ => by cases e
  | .tup _ :: _, _, _, e, _ => by cases e
  | .ref _ :: _, _, _, e, _ => by cases e
theorem cb_sum (hX : Gx W k X) : CallR X (.builtin "sum") (rDL W (bifS .sum)) := by
  refine cr_of (fun pins s σ H v u Q ρ G d I r rl n f => ?_) no2
  have f : Fin W ρ H (sumS d G) Q := f
  obtain ⟨z, e, f1⟩ := f.of
  clear f
  obtain ⟨is, e1, e2⟩ := Option.map_eq_some_iff.mp e
  subst e2
  obtain ⟨l, e3, e4⟩ := Option.bind_eq_some_iff.mp e1
  obtain ⟨m, rfl, hg⟩ := lstAt_eq e3
  obtain ⟨p, ws, rfl, _, q, ds, _⟩ := rl.lst n hg
  exact cr_sum hX.calm pins s σ H _ [u] Q I (v1 r) ⟨p, is, rfl, by rw [hX.K, ← ints_dn e4 ds]; exact q, f1.use Ex.refl rl (.int _)⟩
theorem cb_all (hX : Gx W k X) : CallR X (.builtin "all") (rDL W (bifS .all)) := by
  refine cr_of (fun pins s σ H v u Q ρ G d I r rl n f => ?_) no2
  have f : Fin W ρ H (allS d G) Q := f
  obtain ⟨z, e, f1⟩ := f.of
  clear f
  obtain ⟨is, e1, e2⟩ := Option.map_eq_some_iff.mp e
  subst e2
  obtain ⟨l, e3, e4⟩ := Option.bind_eq_some_iff.mp e1
  obtain ⟨m, rfl, hg⟩ := lstAt_eq e3
  obtain ⟨p, ws, rfl, _, q, ds, _⟩ := rl.lst n hg
  exact L2.cr_all hX.calm pins s σ H _ [u] Q I (v1 r) ⟨p, is, rfl, by rw [hX.K, ← bols_dn e4 ds]; exact q, f1.use Ex.refl rl (.bl _)⟩
theorem cb_any (hX : Gx W k X) : CallR X (.builtin "any") (rDL W (bifS .any)) := by
  refine cr_of (fun pins s σ H v u Q ρ G d I r rl n f => ?_) no2
  have f : Fin W ρ H (anyS d G) Q := f
  obtain ⟨z, e, f1⟩ := f.of
  clear f
  obtain ⟨is, e1, e2⟩ := Option.map_eq_some_iff.mp e
  subst e2
  obtain ⟨l, e3, e4⟩ := Option.bind_eq_some_iff.mp e1
  obtain ⟨m, rfl, hg⟩ := lstAt_eq e3
  obtain ⟨p, ws, rfl, _, q, ds, _⟩ := rl.lst n hg
  exact L2.cr_any hX.calm pins s σ H _ [u] Q I (v1 r) ⟨p, is, rfl, by rw [hX.K, ← bols_dn e4 ds]; exact q, f1.use Ex.refl rl (.bl _)⟩
theorem cb_tuple (hX : Gx W k X) : CallR X (.type "tuple") (rDL W (bifS .tuple)) := by
  refine cr_of (fun pins s σ H v u Q ρ G d I r rl n f => ?_) no2
  have f : Fin W ρ H (tupleS d G) Q := f
  cases d with
  | tup l =>
    cases n with
    | tup q ds => exact rl_tuple pins s σ H _ u Q I r (.inr ⟨_, _, rfl, by rw [hX.K]; exact q, f.use Ex.refl rl (.tup q ds)⟩)
  | ref i =>
    have f : Fin W ρ H (match G[i]? with
      | some (.lst l _) => .ok (.tup l, G)
      | _ => .stuck) Q := f
    split at f
    · rename_i l fz hg
      obtain ⟨p, ws, rfl, _, q, ds, _⟩ := rl.lst n hg
      exact rl_tuple pins s σ H _ u Q I r (.inl ⟨_, _, rfl, by rw [hX.K]; exact q, fun p hp => f.newT rl ds hp⟩)
    · exact f.stuck.elim
  | _ => exact f.stuck.elim
theorem cb_repr (hX : Gx W k X) : CallR X (.builtin "repr") (rDL W (bifS .repr)) := by
  refine cr_of (fun pins s σ H v u Q ρ G d I r rl n f => ?_) no2
  have f : Fin W ρ H (reprS d G) Q := f
  cases d with
  | ref i =>
    have f : Fin W ρ H (match snap G 64 (.ref i) with
      | some x => must (x.showable && !x.hasDict && decide (x.depth ≤ 64) && decide (x.shown.length ≤ lim)) (.ok (.str x.shown.cps.toList, G))
      | _ => .stuck) Q := f
    split at f
    · rename_i x e
      obtain ⟨hz, f⟩ := f.must
      simp only [Bool.and_eq_true, decide_eq_true_eq, Bool.not_eq_true'] at hz
      obtain ⟨as, rd⟩ := reads_of I hX.K rl 64 e n r
      cases n with
      | @ref p _ hp =>
        cases r
        have hu := hX.room.un
        refine PySem.repr_of_reads' rd hz.1.1.1 (fun h => by rw [hz.1.1.2] at h; cases h) hX.gs (by omega) (fun b o e => e) (fun h' u tk hk => ⟨.str x.shown, H, I.kept hk, ⟨u, rfl⟩, ?_⟩) (by rw [lim_eq]; exact hz.2)
        exact f.use Ex.refl rl (by
          have := Dn.str (W := W) (ρ := ρ) (H := H) x.shown.cps.toList
          simpa using this)
    · exact f.stuck.elim
  | _ => exact f.stuck.elim
/-! ### sorted -/
theorem signs_dn {x : Str} {acc : Array Value} (h : ItemsOf (SignAt x) acc x.cps.size) : ∃ vs : List V, Vals vs acc.toList ∧ ∀ ρ H, Dns W ρ H vs (signs x.cps.toList) := by
  have key : ∀ (cs : List Nat) (us : List Value), us.length = cs.length → (∀ (j : Nat) (v : Value), us[j]? = some v → ∃ (c : Nat) (t : Tok), cs[j]? = some c ∧ v = Value.str ⟨#[c]⟩ t) → ∃ vs : List V, Vals vs us ∧ ∀ ρ H, Dns W ρ H vs (signs cs) := by
    intro cs
    induction cs with
    | nil =>
      intro us hl _
      cases us with
      | nil => exact ⟨[], .nil, fun _ _ => .nil⟩
      | cons _ _ => cases hl
    | cons c cs ih =>
      intro us hl h
      cases us with
      | nil => cases hl
      | cons u us =>
        obtain ⟨c', t, e1, e2⟩ := h 0 u rfl
        cases e1
        obtain ⟨vs, r1, r2⟩ := ih us (by simpa using hl) fun j v e => h (j + 1) v (by simpa using e)
        exact ⟨.str ⟨#[c]⟩ :: vs, .cons ⟨t, e2⟩ r1, fun ρ H => .cons (.str [c]) (r2 ρ H)⟩
  refine key _ _ (by simp [h.1]) fun j v e => ?_
  obtain ⟨c, t, e1, e2⟩ := h.2 j v (by simpa using e)
  exact ⟨c, t, by simpa using e1, e2⟩
theorem Inv.keptS {s' : Shared} (I : Inv X pins σ H s) (hk : ∀ b o, s.heap.get? b = some o → s'.heap.get? b = some o) (hg : s'.gens = s.gens) (hd : s'.drawn = s.drawn) (ho : s'.os = s.os) : Inv X pins σ H s' := by
  have := I.kept (h' := s'.heap) (t' := s'.toks) hk
  obtain ⟨hh, g, d, t, o⟩ := s'
  dsimp only at hg hd ho
  subst hg hd ho
  exact this
/-- all items of a value -/
theorem collect_of {d : D} {v : V} {u : Value} {l : List D} {A : Around} {R : List Value → Shared → Prop} {E : Value → Shared → Prop} (hA : A.handled = none) (hX : Gx W k X) (I : Inv X pins σ H s) (rl : Rel W ρ G H) (n : Dn W ρ H v d) (r : RelV v u) (e : itemsS G d = some l) (hl : l.length ≤ lim)
    (h : ∀ us vs s', Inv X pins σ H s' → Vals vs us → Dns W ρ H vs l → R us s') : wpAny (model X.prog X.w) A (collect u) R E s := by
  cases d with
  | tup l' =>
    cases e
    cases n with
    | tup q ds =>
      cases r
      obtain ⟨its, rv, ⟨o, ho, hc, m, hd⟩, hz⟩ := I.tuple (by rw [hX.K]; exact q)
      refine wpAny_collect_seq _ (.inr rfl) ho hc hd (fun h' hk => h _ _ _ (I.kept (t' := s.toks) hk) (by simpa using rv) ds) (by rw [List.size_toArray, ← rv.length]; exact hz)
  | str z =>
    cases e
    cases n
    obtain ⟨t, rfl⟩ := r
    refine wpAny_collect_str hA _ t (fun s' acc hk hg hd ho hi => ?_) (by show z.toArray.size ≤ sizeLine; rw [lim_eq]; simpa [signs] using hl)
    obtain ⟨vs, r1, r2⟩ := signs_dn (W := W) hi
    exact h _ vs s' (Inv.keptS I hk hg hd ho) r1 (by simpa using r2 ρ H)
  | ref i =>
    have e : (match G[i]? with
      | some (.lst l _) => some l
      | _ => none) = some l := e
    split at e
    · rename_i l fz hg
      cases e
      obtain ⟨p, ws, rfl, _, q, ds, _⟩ := rl.lst n hg
      cases r
      obtain ⟨its, rv, ⟨o, m, ho, hc, _, hd⟩, hz⟩ := I.list (by rw [hX.K]; exact q)
      refine wpAny_collect_seq _ (.inl rfl) ho hc hd (fun h' hk => h _ _ _ (I.kept (t' := s.toks) hk) (by simpa using rv) ds) (by rw [List.size_toArray, ← rv.length]; exact hz)
    · cases e
  | _ => cases e
theorem each_of (hK : X.K = W.K) (I : Inv X pins σ H s) (rl : Rel W ρ G H) : ∀ {l : List D} {ps : List PyData} {vs : List V} {us : List Value}, snaps (snap G 63) l = some ps → Dns W ρ H vs l → Vals vs us →
    PySem.W.EachIs (fun u (b : D × PyData) => ∃ v, RelV v u ∧ Dn W ρ H v b.1) us (l.zip ps) ∧ PySem.W.EachIs (fun u (b : D × PyData) => ∃ as, Reads s.heap u b.2 as) us (l.zip ps)
  | [], _, _, _, e, .nil, .nil => by cases e; exact ⟨.nil, .nil⟩
  | d :: l, _, _, _, e, .cons a b, .cons r1 r2 => by
    unfold snaps at e
    obtain ⟨x, e1, e⟩ := Option.bind_eq_some_iff.mp e
    obtain ⟨xs, e2, e⟩ := Option.map_eq_some_iff.mp e
    subst e
    obtain ⟨h1, h2⟩ := each_of hK I rl e2 b r2
    exact ⟨.cons ⟨_, r1, a⟩ h1, .cons (reads_of I hK rl 63 e1 a r1) h2⟩
theorem of_each : ∀ {us : List Value} {bs : List (D × PyData)}, PySem.W.EachIs (fun u (b : D × PyData) => ∃ v, RelV v u ∧ Dn W ρ H v b.1) us bs → ∃ vs, Vals vs us ∧ Dns W ρ H vs (bs.map Prod.fst)
  | _, _, .nil => ⟨[], .nil, .nil⟩
  | _, _, .cons ⟨v, r, n⟩ t => by
    obtain ⟨vs, h1, h2⟩ := of_each t
    exact ⟨v :: vs, .cons r h1, .cons n h2⟩
theorem snaps_length : ∀ {l : List D} {ps : List PyData} {n : Nat}, snaps (snap G n) l = some ps → ps.length = l.length
  | [], _, _, e => by cases e; rfl
  | d :: l, _, _, e => by
    unfold snaps at e
    obtain ⟨x, e1, e⟩ := Option.bind_eq_some_iff.mp e
    obtain ⟨xs, e2, e⟩ := Option.map_eq_some_iff.mp e
    subst e
    rw [List.length_cons, List.length_cons, snaps_length e2]
theorem zip_snd : ∀ {l : List D} {ps : List PyData}, ps.length = l.length → (l.zip ps).map Prod.snd = ps
  | [], [], _ => rfl
  | d :: l, p :: ps, h => by
    rw [List.zip_cons_cons, List.map_cons, zip_snd (by simpa using h)]
theorem sortOk_eq {ps : List PyData} (h : sortOk ps = true) : PySem.W.AllAlike ps ∧ PySem.W.Sortable ps ∧ ∀ x ∈ ps, x.depth ≤ 64 := by
  unfold sortOk at h
  simp only [Bool.and_eq_true, Bool.or_eq_true, List.all_eq_true, decide_eq_true_eq] at h
  refine ⟨fun x hx y hy => h.1.1 x hx y hy, ?_, h.2⟩
  rcases h.1.2 with q | q
  · refine .inl fun d hd => ?_
    have := q d hd
    unfold isTupNE at this
    split at this
    · exact ⟨_, _, rfl⟩
    · cases this
  · refine .inr fun d hd => ?_
    have := q d hd
    refine ⟨?_, fun xs => ?_⟩ <;> rintro rfl <;> cases this
theorem sortS_eq {l m : List D} (h : sortS G l = some m) : ∃ ps, snaps (snap G 63) l = some ps ∧ sortOk ps = true ∧ m = ((l.zip ps).mergeSort (PySem.W.dataLe false Prod.snd)).map Prod.fst := by
  unfold sortS at h
  obtain ⟨ps, e1, h⟩ := Option.bind_eq_some_iff.mp h
  split at h
  · rename_i z
    cases h
    exact ⟨ps, e1, z, rfl⟩
  · cases h
theorem cb_sorted (hX : Gx W k X) : CallR X (.builtin "sorted") (rDL W (bifS .sorted)) := by
  refine cr_of (fun pins s σ H v u Q ρ G d I r rl n f => ?_) no2
  have f : Fin W ρ H (sortedS d G) Q := f
  unfold sortedS at f
  split at f
  · rename_i l e
    obtain ⟨m, e2, f⟩ := f.bind
    obtain ⟨ps, e3, ok, rfl⟩ := sortS_eq (Res.of_eq e2)
    obtain ⟨hz, f⟩ := f.must
    have hz := of_decide_eq_true hz
    have hps := snaps_length e3
    have hlen : (l.zip ps).length = l.length := by rw [List.length_zip, hps, Nat.min_self]
    have hl : l.length ≤ lim := by
      rw [List.length_map, List.length_mergeSort, hlen] at hz
      exact hz
    obtain ⟨o1, o2, o3⟩ := sortOk_eq ok
    have hu := hX.room.un
    refine Calls.call_function_entry kind_sorted plain_sorted entry_sorted (args_sorted1 _) ?_
    unfold Builtin.«sorted»
    refine wpAny_bind (m := checkCount "sorted" 1 1 _) (wpAny_pure ?_)
    refine wpAny_bind (collect_of (A := X.A.in1) (show X.A.handled = none from hX.room.hd) hX I rl n r e hl fun us vs s1 I1 rv ds => ?_)
    obtain ⟨h1, h2⟩ := each_of hX.K I1 rl e3 ds rv
    have ulen : us.length = l.length := by rw [← rv.length, ds.length]
    refine wpAny_bind (wpAny_newList ?_ (by rw [ulen, lim_eq]; exact hl))
    have ho : (s1.heap.push (seqObj "list" us.toArray 0)).get? s1.heap.objs.size = some (seqObj "list" us.toArray 0) := Heap.get?_push_size _ rfl
    have old : ∀ b o, s1.heap.get? b = some o → (PySem.W.sortingHeap (s1.heap.push (seqObj "list" us.toArray 0)) s1.heap.objs.size us).get? b = some o := fun b o q =>
      PySem.W.sortingHeap_old (Nat.ne_of_lt (Heap.lt_size q)) (Heap.get?_push_of_some _ q)
    have h2' : PySem.W.EachIs (fun u (b : D × PyData) => ∃ as, Reads (PySem.W.sortingHeap (s1.heap.push (seqObj "list" us.toArray 0)) s1.heap.objs.size us) u b.2 as) us (l.zip ps) := h2.mono fun _ _ ⟨as, q⟩ => ⟨as, PyProof.Rows.Reads.keeps old q⟩
    have hal : PySem.W.AllAlike ((l.zip ps).map Prod.snd) := by rw [zip_snd hps]; exact o1
    have hso : PySem.W.Sortable ((l.zip ps).map Prod.snd) := by rw [zip_snd hps]; exact o2
    have bd : ∀ d, d ∈ (l.zip ps).map Prod.snd → X.A.in1.in1.units + d.depth < cLine := fun d hd => by
      rw [zip_snd hps] at hd
      have := o3 d hd
      show X.A.units + 1 + 1 + d.depth < cLine
      omega
    refine wpAny_bind (wpAny_holding (wpAny_call_entry slot_list_sort ⟨_, ho, rfl⟩ entry_list_sort (PySem.W.list_sort_vals (κ := PySem.W.dataKind (PySem.W.sortingHeap (s1.heap.push (seqObj "list" us.toArray 0)) s1.heap.objs.size us) ((l.zip ps).map Prod.snd)) ho
      (PySem.W.SortsAt.data (s := { s1 with heap := PySem.W.sortingHeap (s1.heap.push (seqObj "list" us.toArray 0)) s1.heap.objs.size us }) (PySem.W.each_map (R := fun v d => ∃ as, Reads (PySem.W.sortingHeap (s1.heap.push (seqObj "list" us.toArray 0)) s1.heap.objs.size us) v d as) Prod.snd h2') hal hso bd)
      (by rw [ulen, lim_eq]; exact hl) ⟨.none, rfl, wpAny_pure ⟨_, rfl, ?_⟩⟩) (args_list_sort _)))
    have eo := PySem.W.sortVals_data (R := fun u (b : D × PyData) => ∃ v, RelV v u ∧ Dn W ρ H v b.1) false h1 h2' hal
    obtain ⟨ws, q1, q2⟩ := of_each eo
    obtain ⟨ep, he⟩ := sortedHeap_at (vs := us) (out := (PySem.W.sortVals (PySem.W.dataKind (PySem.W.sortingHeap (s1.heap.push (seqObj "list" us.toArray 0)) s1.heap.objs.size us) ((l.zip ps).map Prod.snd)) false us us).toArray) ho
    refine ⟨.ref _, upd H s1.heap.objs.size (.lst ws), I1.laid (t' := s1.toks) (a := s1.heap.objs.size) (o := .lst ws) (fun b o q => ?_) (Nat.le_refl _) ?_, rfl, f.newL rl q2 (I1.hok.fresh (Nat.le_refl _))⟩
    · rw [sortedHeap_old (Nat.ne_of_lt (Heap.lt_size q)) (by rw [size_push']; exact Nat.lt_succ_of_lt (Heap.lt_size q))]
      exact Heap.get?_push_of_some _ q
    · refine ⟨?_, _, ep, q1, he⟩
      rw [q2.length, List.length_map, List.length_mergeSort, hlen, lim_eq]
      exact hl
  · exact f.stuck.elim
end
end Fw

/-! Fw2i: built-in methods, isinstance. -/
namespace Fw
open L2 PySem PySem.Spec PyProof.Rows
variable {W : Wd}
def Mth.nm : Mth → Str
  | .append => "append" | .extend => "extend" | .pop => "pop" | .index => "index" | .count => "count" | .remove => "remove" | .get => "get" | .setdefault => "setdefault" | .update => "update"
  | .join => "join" | .replace => "replace" | .upper => "upper" | .grow => "grow"
def Kd.ty : Kd → String
  | .lst => "list" | .dct => "dict" | .str => "str" | .tup => "tuple"
def Mth.id (kd : Kd) (m : Mth) : String := match kd, m with
  | .lst, .append => "list.append" | .lst, .extend => "list.extend" | .lst, .pop => "list.pop" | .lst, .index => "list.index"
  | .dct, .get => "dict.get" | .str, .join => "str.join" | .str, .count => "str.count" | _, _ => ""
section
variable {X : Cx} {k : Nat} {pins : List (Addr × Obj)} {σ : L2.St} {s : Shared} {ρ ρ' : List Addr} {H H' : Hp} {G : Store} {Q : V → Hp → Prop} {a b c : Expr} {fa fb fc : FE} {pos apos cpos : Pos}
/-- the kind's facts -/
theorem kd_plain (kd : Kd) : PlainAttrs kd.ty := by
  cases kd with
  | lst => exact F.plainAttrs_list
  | dct => exact F.plainAttrs_dict
  | str => exact F.plainAttrs_str
  | tup => exact F.plainAttrs_tuple
theorem m_slot {kd : Kd} {m : Mth} (h : msup kd m = true) : Slot kd.ty m.nm (Mth.id kd m) ∧ typeOf (.builtin (Mth.id kd m)) = pure (.type "method_descriptor") := by
  cases kd <;> cases m <;> first
    | (cases h; done)
    | exact ⟨F.slot_list_append, F.type_list_append⟩
    | exact ⟨F.slot_list_extend, F.type_list_extend⟩
    | exact ⟨F.slot_list_pop, F.type_list_pop⟩
    | exact ⟨F.slot_list_index, F.type_list_index⟩
    | exact ⟨F.slot_dict_get, F.type_dict_get⟩
    | exact ⟨F.slot_str_join, F.type_str_join⟩
    | exact ⟨F.slot_str_count, F.type_str_count⟩
theorem kd_is {kd : Kd} {d : D} {v : V} {u : Value} (hX : Gx W k X) (I : Inv X pins σ H s) (rl : Rel W ρ G H) (n : Dn W ρ H v d) (r : RelV v u) (e : kindOf G d = some kd) (nt : kd ≠ .tup) : s.TypeIs u kd.ty ∧ ∀ a, u = .ref a → ∃ ob, s.heap.get? a = some ob ∧ ob.dict = none := by
  cases d with
  | str z =>
    cases e; cases n
    obtain ⟨t, rfl⟩ := r
    exact ⟨typeIs_str _ _ _, fun _ e => nomatch e⟩
  | tup l => cases e; exact (nt rfl).elim
  | ref i =>
    have e : (match G[i]? with
      | some (.lst ..) => some Kd.lst
      | some (.dct _) => some Kd.dct
      | _ => none) = some kd := e
    split at e
    · rename_i l fz hg
      cases e
      obtain ⟨p, ws, rfl, _, q, ds, _⟩ := rl.lst n hg
      cases r
      obtain ⟨its, rv, ⟨o, m, ho, hc, hn, hd⟩, hz⟩ := I.list (by rw [hX.K]; exact q)
      exact ⟨⟨o, ho, hc⟩, fun a e => by cases e; exact ⟨o, ho, hn⟩⟩
    · rename_i kvs hg
      cases e
      obtain ⟨p, rfl, ha, ok⟩ := rl.dct n hg
      cases r
      refine ⟨dict_is I hX ok, fun a e => ?_⟩
      cases e
      obtain ⟨nd, ok⟩ := ok
      rcases ok with ⟨xs, h1, h2⟩ | ⟨xs, h0, h1, h2⟩
      · obtain ⟨_, _, vs, _, ob, _, _, h1, h2, _⟩ := dk_rd I.hok (.inl h1)
        exact ⟨ob, h1, h2.2.1⟩
      · obtain ⟨⟨hs, hl, o, es, ep, ho, hx, hd, hp⟩, _, _⟩ := I.hok _ _ h1
        exact ⟨o, ho, hx.2.1⟩
    · cases e
  | _ => cases e

/-- what a method does -/
def MOk (W : Wd) (X : Cx) (kd : Kd) (m : Mth) : Prop := ∀ (pins : List (Addr × Obj)) (s : Shared) (σ : L2.St) (H : Hp) (v : V) (u : Value) (vs : List V) (us : List Value) (Q : VK) (ρ : List Addr) (G : Store) (x : D) (xs : List D), Inv X pins σ H s → RelV v u → Vals vs us → Rel W ρ G H → Dn W ρ H v x → Dns W ρ H vs xs → Fin W ρ H (mthS kd m x xs G) Q →
    wpAny (model X.prog X.w) X.A (PySem.call (.builtin (Mth.id kd m)) (u :: us)) (EP X pins σ Q) X.xe s
theorem mL {m : Mth} (h : ∀ (pins : List (Addr × Obj)) (s : Shared) (σ : L2.St) (H : Hp) (p : Addr) (ws vs : List V) (us : List Value) (Q : VK) (ρ : List Addr) (G : Store) (i : Nat) (l : List D) (fz : Bool) (xs : List D), Inv X pins σ H s → Vals vs us → Rel W ρ G H → ρ[i]? = some p → G[i]? = some (.lst l fz) →
      SqL W.K H p ws → Dns W ρ H ws l → (fz = false → H p = some (.lst ws)) → Dns W ρ H vs xs → Fin W ρ H (mthL m i l fz xs G) Q → wpAny (model X.prog X.w) X.A (PySem.call (.builtin (Mth.id .lst m)) (.ref p :: us)) (EP X pins σ Q) X.xe s) : MOk W X .lst m := by
  intro pins s σ H v u vs us Q ρ G x xs I r rs rl n ns f
  cases x with
  | ref i =>
    have f : Fin W ρ H (match G[i]? with
      | some (.lst l fz) => mthL m i l fz xs G
      | _ => .stuck) Q := f
    split at f
    · rename_i l fz hg
      obtain ⟨p, ws, rfl, hp, q, ds, hH⟩ := rl.lst n hg
      cases r
      exact h pins s σ H p ws vs us Q ρ G i l fz xs I rs rl hp hg q ds hH ns f
    · exact f.stuck.elim
  | _ => exact f.stuck.elim
theorem one_of {g : D → RD} {xs : List D} (f : Fin W ρ H (match (generalizing := false) xs with
    | [d] => g d
    | _ => .stuck) Q) : ∃ d, xs = [d] ∧ Fin W ρ H (g d) Q := by
  match xs, f with
  | [], f => exact f.stuck.elim
  | [d], f => exact ⟨d, rfl, f⟩
  | _ :: _ :: _, f => exact f.stuck.elim
theorem two_of {g : D → D → RD} {xs : List D} (f : Fin W ρ H (match (generalizing := false) xs with
    | [d, e] => g d e
    | _ => .stuck) Q) : ∃ d e, xs = [d, e] ∧ Fin W ρ H (g d e) Q := by
  match xs, f with
  | [], f => exact f.stuck.elim
  | [_], f => exact f.stuck.elim
  | [d, e], f => exact ⟨d, e, rfl, f⟩
  | _ :: _ :: _ :: _, f => exact f.stuck.elim
theorem mo_append : MOk W X .lst .append := by
  refine mL fun pins s σ H p ws vs us Q ρ G i l fz xs I rs rl hp hg q ds hH ns f => ?_
  obtain ⟨d, rfl, f2⟩ := one_of (show Fin W ρ H (match (generalizing := false) xs with
    | [d] => must (!fz && decide (l.length < lim)) (.ok (.non, G.set i (.lst (l ++ [d]) false)))
    | _ => .stuck) Q from f)
  clear f
  have f := f2
  clear f2
  obtain ⟨v, rfl, n⟩ := ns.one
  obtain ⟨hz, f⟩ := f.must
  simp only [Bool.and_eq_true, decide_eq_true_eq, Bool.not_eq_true'] at hz
  have hH := hH hz.1
  have nf : ∀ l', O.lst l fz ≠ .lst l' true := fun l' z => by cases z; cases hz.1
  have ex : Ex W ρ H ρ (upd H p (.lst (ws ++ [v]))) := Ex.set (rl.nz hg nf) hp hH (fun vs z => by cases z) fun ob w z => by cases z
  refine mt_append pins s σ H (.ref p) [v] _ us Q I rfl rs ⟨p, ws, v, rfl, rfl, hH, by rw [ds.length, lim_eq]; exact hz.2, ?_⟩
  exact f.use ex (rl.write hp hg nf (fun l z => by cases z) hH (fun vs z => by cases z) (fun ob w z => by cases z) ⟨_, (ds.app (.cons n .nil)).ex ex, .inr ⟨rfl, upd_same⟩⟩) .non
theorem mo_extend : MOk W X .lst .extend := by
  refine mL fun pins s σ H p ws vs us Q ρ G i l fz xs I rs rl hp hg q ds hH ns f => ?_
  obtain ⟨d, rfl, f2⟩ := one_of (show Fin W ρ H (match (generalizing := false) xs with
    | [e] => (match lstAt G e with
      | some k => must (!fz && decide (l.length + k.length ≤ lim)) (.ok (.non, G.set i (.lst (l ++ k) false)))
      | _ => .stuck)
    | _ => .stuck) Q from f)
  clear f
  have f := f2
  clear f2
  obtain ⟨v, rfl, n⟩ := ns.one
  split at f
  · rename_i ks e
    obtain ⟨j, rfl, hg2⟩ := lstAt_eq e
    obtain ⟨p2, ws2, rfl, hp2, q2, ds2, hH2⟩ := rl.lst n hg2
    obtain ⟨hz, f⟩ := f.must
    simp only [Bool.and_eq_true, decide_eq_true_eq, Bool.not_eq_true'] at hz
    have hH := hH hz.1
    have nf : ∀ l', O.lst l fz ≠ .lst l' true := fun l' z => by cases z; cases hz.1
    have ex : Ex W ρ H ρ (upd H p (.lst (ws ++ ws2))) := Ex.set (rl.nz hg nf) hp hH (fun vs z => by cases z) fun ob w z => by cases z
    refine mt_extend pins s σ H (.ref p) [.ref p2] _ us Q I rfl rs ⟨p, p2, ws, ws2, rfl, rfl, hH, hH2 rfl, by rw [ds.length, ds2.length, lim_eq]; exact hz.2, ?_⟩
    exact f.use ex (rl.write hp hg nf (fun l z => by cases z) hH (fun vs z => by cases z) (fun ob w z => by cases z) ⟨_, (ds.app ds2).ex ex, .inr ⟨rfl, upd_same⟩⟩) .non
  · exact f.stuck.elim
theorem Dns.dropLast {vs : List V} {l : List D} (h : Dns W ρ H vs l) : Dns W ρ H vs.dropLast l.dropLast := by
  rw [List.dropLast_eq_take, List.dropLast_eq_take, h.length]
  exact h.take _
theorem mo_pop : MOk W X .lst .pop := by
  refine mL fun pins s σ H p ws vs us Q ρ G i l fz xs I rs rl hp hg q ds hH ns f => ?_
  have f : Fin W ρ H (match (generalizing := false) xs with
    | [] => must (!fz) (Res.of (l[l.length - 1]?.map fun d => (d, G.set i (.lst l.dropLast false))))
    | [i'] => (match (generalizing := false) i' with
      | .int i' => must (!fz && decide (-(2 ^ 63) ≤ i') && decide (i' < 2 ^ 63)) (Res.of ((ixN l.length i').bind fun j => l[j]?.map fun d => (d, G.set i (.lst (l.eraseIdx j) false))))
      | _ => .stuck)
    | _ => .stuck) Q := f
  match xs, ns, f with
  | [], ns, f =>
    cases ns
    obtain ⟨hz, f⟩ := f.must
    simp only [Bool.not_eq_true'] at hz
    obtain ⟨z, e, f⟩ := f.of
    obtain ⟨d, e1, e2⟩ := Option.map_eq_some_iff.mp e
    subst e2
    have hH := hH hz
    have nf : ∀ l', O.lst l fz ≠ .lst l' true := fun l' z => by cases z; cases hz
    have ex : Ex W ρ H ρ (upd H p (.lst ws.dropLast)) := Ex.set (rl.nz hg nf) hp hH (fun vs z => by cases z) fun ob w z => by cases z
    obtain ⟨v, g1, g2⟩ := ds.get e1
    refine mt_pop pins s σ H (.ref p) [] _ us Q I rfl rs ⟨p, ws, v, rfl, rfl, hH, by rw [ds.length]; exact g1, ?_⟩
    exact f.use ex (rl.write hp hg nf (fun l z => by cases z) hH (fun vs z => by cases z) (fun ob w z => by cases z) ⟨_, ds.dropLast.ex ex, .inr ⟨rfl, upd_same⟩⟩) (g2.ex ex)
  | [x], ns, f =>
    obtain ⟨v, rfl, n⟩ := ns.one
    cases x with
    | int i' =>
      cases n
      obtain ⟨hz, f⟩ := f.must
      simp only [Bool.and_eq_true, decide_eq_true_eq, Bool.not_eq_true'] at hz
      obtain ⟨z, e, f⟩ := f.of
      obtain ⟨j, e0, e⟩ := Option.bind_eq_some_iff.mp e
      obtain ⟨d, e1, e2⟩ := Option.map_eq_some_iff.mp e
      subst e2
      have hH := hH hz.1.1
      have nf : ∀ l', O.lst l fz ≠ .lst l' true := fun l' z => by cases z; cases hz.1.1
      have ex : Ex W ρ H ρ (upd H p (.lst (ws.eraseIdx j))) := Ex.set (rl.nz hg nf) hp hH (fun vs z => by cases z) fun ob w z => by cases z
      obtain ⟨v, g1, g2⟩ := ds.get e1
      obtain ⟨h1, _⟩ := ixN_seq e0
      refine mt_popAt pins s σ H (.ref p) [.int i'] _ us Q I rfl rs ⟨p, ws, i', j, v, rfl, rfl, hH, hz.1.2, hz.2, by rw [ds.length]; exact h1, g1, ?_⟩
      exact f.use ex (rl.write hp hg nf (fun l z => by cases z) hH (fun vs z => by cases z) (fun ob w z => by cases z) ⟨_, (ds.erase j).ex ex, .inr ⟨rfl, upd_same⟩⟩) (g2.ex ex)
    | _ => exact f.stuck.elim
  | _ :: _ :: _, ns, f => exact f.stuck.elim
theorem mo_index (hX : Gx W k X) : MOk W X .lst .index := by
  refine mL fun pins s σ H p ws vs us Q ρ G i l fz xs I rs rl hp hg q ds hH ns f => ?_
  obtain ⟨d, rfl, f2⟩ := one_of (show Fin W ρ H (match (generalizing := false) xs with
    | [d] => Res.of ((indexS G d l).map fun (j : Nat) => (D.int (j : Int), G))
    | _ => .stuck) Q from f)
  clear f
  have f := f2
  clear f2
  obtain ⟨v, rfl, n⟩ := ns.one
  obtain ⟨z, e, f⟩ := f.of
  obtain ⟨j, e1, e2⟩ := Option.map_eq_some_iff.mp e
  subst e2
  unfold indexS at e1
  obtain ⟨y, g1, e1⟩ := Option.bind_eq_some_iff.mp e1
  obtain ⟨ys, g2, e1⟩ := Option.bind_eq_some_iff.mp e1
  split at e1
  · rename_i sh
    rw [Bool.and_eq_true] at sh
    have e3 : snap G 64 (.ref i) = some (.list ys) := by
      show (match G[i]? with
        | some (.lst l _) => (snaps (snap G 63) l).map PyData.list
        | _ => none) = _
      rw [hg]; dsimp only; rw [g2]; rfl
    obtain ⟨h1, h2, h3⟩ := List.findIdx?_eq_some_iff_getElem.mp e1
    refine mt_indexD hX.u65 pins s σ H (.ref p) [v] _ us Q I rfl rs ⟨p, v, y, ys, j, ys[j], rfl, rfl, dp_of hX.K rl 64 e3 (.ref hp), dp_of hX.K rl 64 g1 n, sh.2, sh.1, List.getElem?_eq_getElem h1, h2, fun m z' hm hz => ?_, f.use Ex.refl rl (.int _)⟩
    have hlt : m < ys.length := by omega
    rw [List.getElem?_eq_getElem hlt] at hz
    cases hz
    simpa using h3 m hm
  · cases e1
theorem mo_get (hX : Gx W k X) : MOk W X .dct .get := by
  intro pins s σ H v u vs us Q ρ G x xs I r rs rl n ns f
  cases x with
  | ref i =>
    have f : Fin W ρ H (match G[i]? with
      | some (.dct kvs) => mthD .get kvs xs G
      | _ => .stuck) Q := f
    split at f
    · rename_i kvs hg
      obtain ⟨p, rfl, hp, ok⟩ := rl.dct n hg
      cases r
      obtain ⟨d, e, rfl, f2⟩ := two_of (show Fin W ρ H (match (generalizing := false) xs with
        | [k, d] => Res.of ((keyFor kvs k).map fun q => ((lookK q kvs).getD d, G))
        | _ => .stuck) Q from f)
      clear f
      have f := f2
      clear f2
      obtain ⟨w, w', rfl, n1, n2⟩ := ns.two
      obtain ⟨z, e0, f⟩ := f.of
      obtain ⟨q, e1, e2⟩ := Option.map_eq_some_iff.mp e0
      subst e2
      obtain ⟨u1, u2, rfl, r1, r2⟩ := vals2 rs
      exact dg_get2 I hX ok e1 n1 r1 n2 r2 fun z u' s' I' r' n' => ⟨z, H, I', r', f.use Ex.refl rl n'⟩
    · exact f.stuck.elim
  | _ => exact f.stuck.elim
theorem count_nat (c : Nat) : ∀ l : List Nat, cnt c l = ((l.count c : Nat) : Int)
  | [] => rfl
  | x :: l => by
    rw [cnt_cons, count_nat c l, List.count_cons]
    by_cases h : x = c
    · subst h; simp; omega
    · rw [if_neg h, if_neg (by simpa using h)]; simp
theorem mo_str {m : Mth} (h : ∀ (pins : List (Addr × Obj)) (s : Shared) (σ : L2.St) (H : Hp) (z : List Nat) (u : Value) (vs : List V) (us : List Value) (Q : VK) (ρ : List Addr) (G : Store) (xs : List D), Inv X pins σ H s → RelV (.str ⟨z.toArray⟩) u → Vals vs us → Rel W ρ G H → Dns W ρ H vs xs → Fin W ρ H (mthT m z xs G) Q →
    wpAny (model X.prog X.w) X.A (PySem.call (.builtin (Mth.id .str m)) (u :: us)) (EP X pins σ Q) X.xe s) : MOk W X .str m := by
  intro pins s σ H v u vs us Q ρ G x xs I r rs rl n ns f
  cases x with
  | str z => cases n; exact h pins s σ H z u vs us Q ρ G xs I r rs rl ns f
  | _ => exact f.stuck.elim
theorem mo_join (hX : Gx W k X) : MOk W X .str .join := by
  refine mo_str fun pins s σ H z u vs us Q ρ G xs I r rs rl ns f => ?_
  obtain ⟨d, rfl, f2⟩ := one_of (show Fin W ρ H (match (generalizing := false) xs with
    | [a] => (match (lstAt G a).bind strsOf with
      | some l => must (decide ((l.map List.length).sum + l.length * z.length ≤ lim)) (.ok (.str (TL.joinL z l), G))
      | _ => .stuck)
    | _ => .stuck) Q from f)
  clear f
  have f := f2
  clear f2
  obtain ⟨v, rfl, n⟩ := ns.one
  split at f
  · rename_i ls e
    obtain ⟨l, e1, e2⟩ := Option.bind_eq_some_iff.mp e
    obtain ⟨i, rfl, hg⟩ := lstAt_eq e1
    obtain ⟨p, ws, rfl, hp, q, ds, hH⟩ := rl.lst n hg
    obtain ⟨hz, f⟩ := f.must
    have hz := of_decide_eq_true hz
    have ew := strs_dn e2 ds
    subst ew
    refine mt_join pins s σ H _ _ u us Q I r rs ⟨_, p, _, rfl, rfl, .inl (by rw [hX.K]; exact q), ?_, ?_⟩
    · have e3 : (List.map (fun x : List Nat => (⟨x.toArray⟩ : Str)) ls).map (·.length) = ls.map List.length := by
        rw [List.map_map]
        exact List.map_congr_left fun x _ => by show x.toArray.size = _; simp
      have e4 : (⟨z.toArray⟩ : Str).length = z.length := by show z.toArray.size = _; simp
      rw [e3, List.length_map, e4]
      exact hz
    · have e5 : Txt.join ⟨z.toArray⟩ (List.map (fun x : List Nat => (⟨x.toArray⟩ : Str)) ls) = ⟨(TL.joinL z ls).toArray⟩ := SX.join_S z ls
      rw [e5]
      exact f.use Ex.refl rl (.str _)
  · exact f.stuck.elim
theorem mo_count : MOk W X .str .count := by
  refine mo_str fun pins s σ H z u vs us Q ρ G xs I r rs rl ns f => ?_
  obtain ⟨d, rfl, f2⟩ := one_of (show Fin W ρ H (match (generalizing := false) xs with
    | [a] => (match (generalizing := false) a with
      | .str [c] => .ok (.int (z.count c : Nat), G)
      | _ => .stuck)
    | _ => .stuck) Q from f)
  clear f
  have f := f2
  clear f2
  obtain ⟨v, rfl, n⟩ := ns.one
  split at f
  · rename_i c
    cases n
    refine mt_count pins s σ H _ _ u us Q I r rs ⟨_, _, rfl, rfl, ?_⟩
    have e : Txt.count ⟨z.toArray⟩ ⟨[c].toArray⟩ = ((z.count c : Nat) : Int) := (count_cnt ⟨z.toArray⟩ c).trans (count_nat c z)
    rw [e]
    exact f.use Ex.refl rl (.int _)
  · exact f.stuck.elim
theorem mo_all (hX : Gx W k X) {kd : Kd} {m : Mth} (h : msup kd m = true) : MOk W X kd m := by
  cases kd <;> cases m <;> first
    | (cases h; done)
    | exact mo_append
    | exact mo_extend
    | exact mo_pop
    | exact mo_index hX
    | exact mo_get hX
    | exact mo_join hX
    | exact mo_count
theorem few_of {env : PySem.Env} {es : List Expr} (h : es.all noStar = true) (hl : es.length < 30) : ((backTo cpos (starEach es env)).all (fun x => !x.1) && (backToKw cpos (keywordEach [] env)).all (fun x => x.1.isSome)
      && decide (es.length + ([] : List Keyword).length + (if ([] : List Keyword).isEmpty then 0 else 1) < 30)) = true := by
  have e1 : (backTo cpos (starEach es env)).all (fun x => !x.1) = true := by
    have := star_any (pos := cpos) (env := env) h
    rw [List.all_eq_true]
    intro x hx
    rw [List.any_eq_false] at this
    have := this x hx
    simpa using this
  rw [e1]
  have e2 : (backToKw cpos (keywordEach [] env)).all (fun x => x.1.isSome) = true := rfl
  rw [e2]
  simp
  exact hl
/-- o.m(..) -/
theorem is_mth {o e : Expr} {fo : FE} {es : List Expr} {fs : Env → Store → Res (List D × Store)} {m : Mth} (hX : Gx W k X) (ho : IsE W X o fo) (ha : IsA W X (e :: es) fs) (h0 : noStar e = true) (hs : es.all noStar = true) (hl : es.length < 29) (hb : attributeBase o m.nm X.env (eval o X.env) = eval o X.env) (hline : (apos.endLine == cpos.line) = true) :
    IsE W X (.Call (.Attribute o m.nm apos) (e :: es) [] cpos) (fun env G => (fo env G).bind fun x => match kindOf x.2 x.1 with
    | some kd => must (msup kd m) ((fs env x.2).bind fun y => mthS kd m x.1 y.1 y.2)
    | none => .stuck) := by
  refine ⟨fun pins s σ H Q I h => ?_⟩
  obtain ⟨ρ, G, env, r, eo, f⟩ := h
  have hs' : (e :: es).all noStar = true := by rw [List.all_cons, h0, hs]; rfl
  refine wpAny_Call_method_late hb (few_of hs' (by simp; omega)) hline rfl (thn (ho.run pins s σ H _ I ⟨ρ, G, env, r, eo, f.seq (Q' := fun v H1 => ∃ ρ1 G1 x, Rel W ρ1 G1 H1 ∧ EnvOk W ρ1 H1 σ env ∧ Dn W ρ1 H1 v x ∧ ∃ kd, kindOf G1 x = some kd ∧ msup kd m = true ∧ Fin W ρ1 H1 ((fs env G1).bind fun y => mthS kd m x y.1 y.2) Q) fun d G1 v ρ1 H1 x1 r1 n1 f1 => ?_⟩) fun u s1 hu => ?_)
  · dsimp only at f1
    split at f1
    · rename_i kd e
      obtain ⟨hm, f1⟩ := f1.must
      exact ⟨ρ1, G1, d, r1, eo.ex x1, n1, kd, e, hm, f1⟩
    · exact f1.stuck.elim
  · obtain ⟨v, H1, I1, r1, ρ1, G1, x, rl1, eo1, n1, kd, e, hm, f1⟩ := hu
    have nt : kd ≠ .tup := by rintro rfl; cases m <;> cases hm
    obtain ⟨t1, t2⟩ := kd_is hX I1 rl1 n1 r1 e nt
    obtain ⟨sl, ty⟩ := m_slot hm
    refine ⟨kd.ty, _, kd_plain kd, sl, ty, t1, t2, ?_⟩
    have hA := ha.run cpos pins s1 σ H1 (fun vs H2 => ∃ ρ2 G2 xs, Rel W ρ2 G2 H2 ∧ Dn W ρ2 H2 v x ∧ Dns W ρ2 H2 vs xs ∧ Fin W ρ2 H2 (mthS kd m x xs G2) Q) I1 ⟨ρ1, G1, env, rl1, eo1, f1.seqL fun ds G2 vs ρ2 H2 x2 r2 n2 f2 => ⟨ρ2, G2, ds, r2, n1.ex x2, n2, f2⟩⟩
    rw [star_cons h0] at hA ⊢
    refine Calls.callWith_builtin (by show (false || (backTo cpos (starEach es X.env)).any (·.1)) = false; rw [star_any hs]; rfl) (Calls.evalArgs_plain ?_)
    refine thn hA fun us s2 ⟨vs, H2, I2, r2, ρ2, G2, xs, rl2, n2, ns2, f2⟩ => mo_all hX hm pins s2 σ H2 v u vs us Q ρ2 G2 x xs I2 r1 r2 rl2 n2 ns2 f2
/-- o.m() -/
theorem is_mth0 {o : Expr} {fo : FE} {m : Mth} (hX : Gx W k X) (ho : IsE W X o fo) (hb : attributeBase o m.nm X.env (eval o X.env) = eval o X.env) (hline : (apos.endLine == cpos.line) = true) :
    IsE W X (.Call (.Attribute o m.nm apos) [] [] cpos) (fun env G => (fo env G).bind fun x => match kindOf x.2 x.1 with
    | some kd => must (msup kd m) ((Res.ok (([] : List D), x.2)).bind fun y => mthS kd m x.1 y.1 y.2)
    | none => .stuck) := by
  refine ⟨fun pins s σ H Q I h => ?_⟩
  obtain ⟨ρ, G, env, r, eo, f⟩ := h
  refine wpAny_Call_method0_late hb hline (thn (ho.run pins s σ H _ I ⟨ρ, G, env, r, eo, f.seq (Q' := fun v H1 => ∃ ρ1 G1 x, Rel W ρ1 G1 H1 ∧ Dn W ρ1 H1 v x ∧ ∃ kd, kindOf G1 x = some kd ∧ msup kd m = true ∧ Fin W ρ1 H1 (mthS kd m x [] G1) Q) fun d G1 v ρ1 H1 x1 r1 n1 f1 => ?_⟩) fun u s1 hu => ?_)
  · dsimp only at f1
    split at f1
    · rename_i kd e
      obtain ⟨hm, f1⟩ := f1.must
      exact ⟨ρ1, G1, d, r1, n1, kd, e, hm, f1⟩
    · exact f1.stuck.elim
  · obtain ⟨v, H1, I1, r1, ρ1, G1, x, rl1, n1, kd, e, hm, f1⟩ := hu
    have nt : kd ≠ .tup := by rintro rfl; cases m <;> cases hm
    obtain ⟨t1, t2⟩ := kd_is hX I1 rl1 n1 r1 e nt
    obtain ⟨sl, ty⟩ := m_slot hm
    exact ⟨kd.ty, _, kd_plain kd, sl, ty, t1, t2, Calls.callWith_builtin rfl (PySem.evalArgs_none (mo_all hX hm pins s1 σ H1 v u [] [] Q ρ1 G1 x [] I1 r1 .nil rl1 n1 .nil f1))⟩
/-! ### isinstance -/
def Ty.nm : Ty → Str
  | .int => "int" | .bool => "bool" | .str => "str" | .tuple => "tuple" | .list => "list" | .dict => "dict"
def Ty.id : Ty → String
  | .int => "int" | .bool => "bool" | .str => "str" | .tuple => "tuple" | .list => "list" | .dict => "dict"
theorem ty_boot (t : Ty) : bootBuiltins t.nm = some (.type t.id) := by
  cases t <;> (first | exact boot_tuple | exact boot_int | exact boot_str | exact boot_list | exact boot_dict | exact boot_bool | (with_unfolding_all rfl) | kernel_rfl)
theorem isT_ok {t : Ty} {d : D} {v : V} {u : Value} (hX : Gx W k X) (I : Inv X pins σ H s) (rl : Rel W ρ G H) (n : Dn W ρ H v d) (r : RelV v u) (f : Fin W ρ H (isTyS t d G) Q) :
    wpAny (model X.prog X.w) X.A (PySem.call (.builtin "isinstance") [u, .type t.id]) (EP X pins σ Q) X.xe s := by
  have key : ∀ {P : Heap → Prop} {tn : String} {b : Bool}, PySem.W.KitX X.K u (.type tn) P → P s.heap → kitB tn t.id = some b → u ≠ .builtin "__main__.__loader__#opaque" → Fin W ρ H (.ok (.bl b, G)) Q → wpAny (model X.prog X.w) X.A (PySem.call (.builtin "isinstance") [u, .type t.id]) (EP X pins σ Q) X.xe s :=
    fun Z p e hx f => PySem.W.kia_one Z I.kIn p (kit_ty e) hx fun tk => ⟨.bl _, H, I.tok tk, rfl, f.use Ex.refl rl (.bl _)⟩
  cases d with
  | non => cases n; cases r; exact key PySem.W.kitx_none True.intro (by cases t <;> decide +kernel) (fun z => nomatch z) f
  | bl b => cases n; cases r; exact key PySem.W.kitx_bool True.intro (by cases t <;> decide +kernel) (fun z => nomatch z) f
  | int i => cases n; obtain ⟨tk, rfl⟩ := r; exact key PySem.W.kitx_int True.intro (by cases t <;> decide +kernel) (fun z => nomatch z) f
  | str z => cases n; obtain ⟨tk, rfl⟩ := r; exact key PySem.W.kitx_str True.intro (by cases t <;> decide +kernel) (fun z => nomatch z) f
  | tup l =>
    cases n with
    | tup q ds =>
      cases r
      obtain ⟨its, rv, ⟨o, ho, hc, m, hd⟩, hz⟩ := I.tuple (by rw [hX.K]; exact q)
      exact key PySem.W.kitx_tuple ⟨o, ho, hc⟩ (by cases t <;> decide +kernel) (fun z => nomatch z) f
  | ref i =>
    have f : Fin W ρ H (match G[i]? with
      | some (.lst ..) => .ok (.bl (t == .list), G)
      | some (.dct ..) => .ok (.bl (t == .dict), G)
      | _ => .stuck) Q := f
    split at f
    · rename_i l fz hg
      obtain ⟨p, ws, rfl, _, q, ds, _⟩ := rl.lst n hg
      cases r
      obtain ⟨its, rv, ⟨o, m, ho, hc, hn, hd⟩, hz⟩ := I.list (by rw [hX.K]; exact q)
      exact key PySem.W.kitx_list ⟨o, ho, hc⟩ (by cases t <;> decide +kernel) (fun z => nomatch z) f
    · rename_i kvs hg
      obtain ⟨p, rfl, ha, ok⟩ := rl.dct n hg
      cases r
      exact key PySem.W.kitx_dict (dict_is I hX ok) (by cases t <;> decide +kernel) (fun z => nomatch z) f
    · exact f.stuck.elim
theorem is_isT {t : Ty} {p1 p2 : Pos} (hX : Gx W k X) (ha : IsE W X a fa) (h0 : noStar a = true) (g1 : Gl X "isinstance") (m1 : X.mg "isinstance" = none) (g2 : Gl X t.nm) (m2 : X.mg t.nm = none) :
    IsE W X (.Call (.Name "isinstance" p1) [a, .Name t.nm p2] [] pos) (fun env G => (fa env G).bind fun x => isTyS t x.1 x.2) := by
  have h2 : PE X (.Name t.nm p2) (tC (.ty t.id)) := pe_bltn g2 m2 (ty_boot t) rfl (by cases t <;> decide) (by cases t <;> decide)
  have hc : CallR X (.builtin "isinstance") (fun vs H Q => ∃ v ρ G x, vs = [v, .ty t.id] ∧ Rel W ρ G H ∧ Dn W ρ H v x ∧ Fin W ρ H (isTyS t x G) Q) := by
    intro pins s σ H vs us Q I r ⟨v, ρ, G, x, e, rl, n, f⟩
    subst e
    obtain ⟨u, u', rfl, r1, r2⟩ := vals2 r
    cases (show u' = .type t.id from r2)
    exact isT_ok hX I rl n r1 f
  refine PE.imp (pe_callB hc g1 m1 boot_isinstance (pa_cons ha (pa_cons h2 pa_nil (star_cons rfl)) (star_cons h0)) (by decide) (by decide) (star_cons h0) (star_any rfl)) fun σ H Q h => ?_
  obtain ⟨ρ, G, env, r, eo, f⟩ := h
  exact ⟨ρ, G, env, r, eo, f.seq fun d G1 v ρ1 H1 x1 r1 n1 f1 => ⟨v, ρ1, G1, d, rfl, r1, n1, f1⟩⟩
end
end Fw

/-! Fw2j: calls of the program's own defs and classes; a def by its body; the end of a law. -/
namespace Fw
open L2 PySem PySem.Spec PyProof.Rows
variable {W : Wd}
abbrev NoX : CXT := fun _ _ _ _ _ _ => False
abbrev NoE : XK := fun _ _ _ => False
/-- a def's promise -/
structure FnG (W : Wd) (k : Nat) (g : List D → Store → RD) (f : Addr) : Prop where
  run : ∀ (A : Around) (outer : List PySem.Env) (s : Shared) (H : Hp) (us : List Value) (vs : List V) (Q : VK), Room k A → A.guards = some [] → Env0 W.P W.w W.K W.mg W.base A outer s H → Vals vs us → rDL W g vs H Q →
    codeAny (model W.P W.w) A (.call (.ref f) ⟨us, []⟩) (CR NoX outer W.P W.w H s Q NoE) s
section
variable {X : Cx} {k j : Nat} {pins : List (Addr × Obj)} {σ : L2.St} {s : Shared} {ρ ρ' : List Addr} {H H' : Hp} {G : Store} {Q : V → Hp → Prop} {a b c : Expr} {fa fb fc : FE} {pos apos cpos : Pos} {g : List D → Store → RD} {f : Addr}
theorem FnG.mono (F : FnG W j g f) (h : j ≤ k) : FnG W k g f := ⟨fun A outer s H us vs Q r => F.run A outer s H us vs Q (r.mono h)⟩
theorem Gx.mono (hX : Gx W k X) (h : j ≤ k) : Gx W j X := ⟨hX.prog, hX.w, hX.K, hX.mg, hX.base, hX.calm, hX.nd, hX.gs, hX.room.mono h, hX.xe⟩
theorem Gx.env0 (hX : Gx W k X) (I : Inv X pins σ H s) : Env0 W.P W.w W.K W.mg W.base X.A X.stack s H := by
  rw [← hX.prog, ← hX.w, ← hX.K, ← hX.mg, ← hX.base]; exact I.env0
theorem fn_call (F : FnG W k g f) (hX : Gx W k X) : CallR X (.ref f) (rDL W g) := by
  intro pins s σ H vs us Q I r q
  have c := F.run X.A X.stack s H us vs Q hX.room hX.gs (hX.env0 I) r q
  rw [← hX.prog, ← hX.w] at c
  refine wpAny_call (codeAny_mono c fun r s' hq => ?_)
  cases r with
  | error e => exact hq.elim
  | ok fl =>
    cases fl with
    | ret u => exact I.after hq
    | next => exact False.elim hq
    | brk => exact False.elim hq
    | cont => exact False.elim hq
theorem is_call {es : List Expr} {fs : Env → Store → Res (List D × Store)} {x : Str} {p : Pos} (F : FnG W k g f) (hX : Gx W k X) (hg : Gl X x) (hm : X.mg x = some (.ref f)) (hk : PySem.W.keepIn W.K (.ref f) = true) (hdb : (x == ("__debug__" : Str)) = false) (h0 : noStar a = true) (hs : es.all noStar = true) (ha : IsA W X (a :: es) fs) :
    IsE W X (.Call (.Name x p) (a :: es) [] pos) (fun env G => (fs env G).bind fun x => g x.1 x.2) := by
  refine ⟨fun pins s σ H Q I h => ?_⟩
  obtain ⟨ρ, G, env, r, eo, h⟩ := h
  refine wpAny_Call_Name_kw (ld_glob I hg hm ?_ hdb)
  refine PySem.W.callWith_K (h₀ := X.base) I.ok.mod.kin (by rw [hX.K]; exact hk) (thn (ha.run pos pins s σ H (fun vs H1 => rDL W g vs H1 Q) I ⟨ρ, G, env, r, eo, h.seqL fun d G1 v ρ1 H1 x1 r1 n1 f1 => ⟨ρ1, G1, d, r1, n1, f1⟩⟩) fun us s1 ⟨vs, H1, I1, r, q⟩ => ⟨I1.kIn, ?_⟩) (star_cons h0) (star_any hs)
  exact fn_call F hX pins s1 σ H1 vs us Q I1 r q
/-- a new instance -/
def newS (g : List D → Store → RD) (c : Nat) (xs : List D) (G : Store) : RD := (g (.ref G.length :: xs) (G ++ [.ins c []])).bind fun y => match y.1 with
  | .non => .ok (.ref G.length, y.2)
  | _ => .stuck
theorem make_guards {A : Around} {C : Addr} {us : List Value} {kw : List (Str × Value)} : (A.under (.builtin "type.__call__" ⟨.ref C :: us, kw⟩)).guards = A.guards := by
  first | rfl | (simp [Around.under, Code.guards, Code.isGuard, guardIds, pushGuards]; done)
theorem mk_call {c : Nat} (F : FnG W k g f) (M : Mk W.K (W.cad c) f) (ck : Cls W.K (W.cad c) ∧ ∀ f ∈ W.flds, NoAttr W.K (W.cad c) f) (hX : Gx W (k + 1) X) : CallR X (.ref (W.cad c)) (rDL W (newS g c)) := by
  intro pins s σ H vs us Q I r q
  obtain ⟨ρ, G, xs, rl, n, h⟩ := q
  have I2 := Inv.made (C := W.cad c) I
  have hdx : H s.heap.objs.size = none := I.hok.fresh (Nat.le_refl _)
  have hx : H (s.heap.objs.size + 1) = none := I.hok.fresh (Nat.le_succ _)
  have ne : s.heap.objs.size + 1 ≠ s.heap.objs.size := Nat.succ_ne_self _
  have e1 : Ex W ρ H ρ (upd H s.heap.objs.size (.own (s.heap.objs.size + 1))) := Ex.newT hdx
  have hx' : (upd H s.heap.objs.size (.own (s.heap.objs.size + 1))) (s.heap.objs.size + 1) = none := by rw [upd_ne ne]; exact hx
  have e2 := Ex.new (W := W) (ρ := ρ) (o := .ins (W.cad c) s.heap.objs.size []) hx'
  have rl2 : Rel W (ρ ++ [s.heap.objs.size + 1]) (G ++ [.ins c []]) (upd (upd H s.heap.objs.size (.own (s.heap.objs.size + 1))) (s.heap.objs.size + 1) (.ins (W.cad c) s.heap.objs.size [])) :=
    (rl.newT hdx).new hx' (fun l z => by cases z) ⟨ck, fun x hx => by simp at hx, _, _, upd_same, .nil⟩
  have nn : Dns W (ρ ++ [s.heap.objs.size + 1]) (upd (upd H s.heap.objs.size (.own (s.heap.objs.size + 1))) (s.heap.objs.size + 1) (.ins (W.cad c) s.heap.objs.size [])) (.ref (s.heap.objs.size + 1) :: vs) (.ref G.length :: xs) :=
    .cons (.ref (by rw [← rl.len]; simp)) ((n.ex e1).ex e2)
  have h2 := h.ex (e1.trans e2)
  have hR : Room k (X.A.under (.builtin "type.__call__" ⟨.ref (W.cad c) :: us, []⟩)) := hX.room.make (W.cad c) us []
  have E2 := (hX.env0 I2).make (W.cad c) us []
  have cc := F.run _ X.stack _ _ (.ref (s.heap.objs.size + 1) :: us) (.ref (s.heap.objs.size + 1) :: vs) (fun v H2 => v = .non ∧ Q (.ref (s.heap.objs.size + 1)) H2) hR (by rw [make_guards]; exact hX.gs) E2 (.cons rfl r)
    ⟨_, _, _, rl2, nn, h2.seq fun d G1 v ρ1 H1 x1 r1 n1 f1 => by
      dsimp only at f1
      split at f1
      · cases n1
        exact ⟨rfl, f1.use Ex.refl r1 (.ref (x1.pre _ _ (by rw [← rl.len]; simp)))⟩
      · exact f1.stuck.elim⟩
  rw [← hX.prog, ← hX.w] at cc
  have Mi : PySem.W.makesIn X.K (W.cad c) = true := by rw [hX.K]; exact M.makes
  have Mn : PySem.W.findIn X.K (.ref (W.cad c)) "__init__" = some (some (.ref f)) := by rw [hX.K]; exact M.init
  have Mf : PySem.W.isFn X.K (.ref f) = true := by rw [hX.K]; exact M.fn
  refine wpAny_call (make_map (f := f) I.kIn Mi Mn (beq_iff_eq.mp Mf) (codeAny_mono cc fun r s' hq' => ?_))
  cases r with
  | error e => exact hq'.elim
  | ok fl =>
    cases fl with
    | ret u =>
      obtain ⟨v, H', I3, rv, ev, q3⟩ := I2.after hq'
      subst ev
      exact ⟨rv, ⟨V.ref (s.heap.objs.size + 1), H', I3, rfl, q3⟩⟩
    | next => exact False.elim hq'
    | brk => exact False.elim hq'
    | cont => exact False.elim hq'
theorem is_new {c : Nat} {es : List Expr} {fs : Env → Store → Res (List D × Store)} {x : Str} {p : Pos} (F : FnG W k g f) (M : Mk W.K (W.cad c) f) (ck : Cls W.K (W.cad c) ∧ ∀ f ∈ W.flds, NoAttr W.K (W.cad c) f) (hX : Gx W (k + 1) X) (hg : Gl X x) (hm : X.mg x = some (.ref (W.cad c))) (hdb : (x == ("__debug__" : Str)) = false) (h0 : noStar a = true) (hs : es.all noStar = true) (ha : IsA W X (a :: es) fs) :
    IsE W X (.Call (.Name x p) (a :: es) [] pos) (fun env G => (fs env G).bind fun x => (g (.ref x.2.length :: x.1) (x.2 ++ [.ins c []])).bind fun y => match y.1 with
    | .non => .ok (.ref x.2.length, y.2)
    | _ => .stuck) := by
  refine ⟨fun pins s σ H Q I h => ?_⟩
  obtain ⟨ρ, G, env, r, eo, h⟩ := h
  refine wpAny_Call_Name_kw (ld_glob I hg hm ?_ hdb)
  refine PySem.W.callWith_K (h₀ := X.base) I.ok.mod.kin (by rw [hX.K]; exact M.kp) (thn (ha.run pos pins s σ H (fun vs H1 => rDL W (newS g c) vs H1 Q) I ⟨ρ, G, env, r, eo, h.seqL fun d G1 v ρ1 H1 x1 r1 n1 f1 => ⟨ρ1, G1, d, r1, n1, f1⟩⟩) fun us s1 ⟨vs, H1, I1, r, q⟩ => ⟨I1.kIn, ?_⟩) (star_cons h0) (star_any hs)
  exact mk_call F M ck hX pins s1 σ H1 vs us Q I1 r q
/-- a def by its body -/
theorem fn_body {x qual : Str} {params : Arguments} {body : List Stmt} {scope : Scope} {fd : FuncData} {N ps : List Str} (F : FunD W.K x qual params body scope [] [] f fd) (S : FnScope N ps scope) (hb : ∀ (s : Shared) (us : List Value), us.length = ps.length → BindsTo s fd ⟨us, []⟩ (ps.zip us))
    (len : ∀ xs G d G', g xs G = .ok (d, G') → xs.length = ps.length)
    (hbody : ∀ (X : Cx), Gx W k X → X.N = N → X.env.scope = scope → (∀ y, X.fn y = true) → ∀ (σ : L2.St) (H : Hp) (vs : List V) (Q : VK), σ = start N vs → rDL W g vs H Q → ∃ t, PSs X body t ∧ t { nx := fun _ H' => Q .non H', rt := Q } σ H) : FnG W (k + 1) g f := by
  obtain ⟨oc, od, dV, kV, doc, pm, an, cdv, ct, osl, rfl, lk, hcd, _, _⟩ := F.ex
  refine ⟨fun A outer s H us vs Q hr hgs e0 r hsp => ?_⟩
  have hl : vs.length = ps.length := by
    obtain ⟨ρ, G, xs, rl, n, d, G', e, _⟩ := hsp
    rw [n.length]; exact len _ _ _ _ e
  have hul : us.length = ps.length := by rw [← r.length]; exact hl
  have KX : W.K.In s.heap := e0.mod.kin.keeps fun b o e => (e0.bs b o e).1
  have lim : s.heap.NoLimit := e0.mod.nolimit.keeps fun b o e => (e0.bs b o e).1
  have hkind : ∀ y ∈ ps.zip us, scope.names.lookup y.1 = some .local ∨ (scope.names.lookup y.1 = some .cell ∧ ((cellsFrom (s.heap.objs.size + 1) scope.names []).lookup y.1).isSome = true) := fun ⟨n, v⟩ hy => by
    rcases S.par n (List.of_mem_zip hy).1 with q | q
    · exact .inl q
    · exact .inr ⟨q, PySem.W.cellsFrom_some _ _ _ (.inl q)⟩
  refine codeAny_call_function hr.depth (KX _ _ lk) rfl S.co S.gen rfl (PySem.W.codeRec_of KX hcd) (hb s us hul _ _ _ _ ?_)
  refine wpAny_newFunctionEnv_cells S.kind hkind fun env he s1 x => ?_
  subst he
  refine ⟨lim.keeps x.toInCall.keep, codeAny_func ?_⟩
  have I : Inv (cxOf NoX W.P W.w W.K W.mg W.base N qual scope f cdv A outer s H NoE) [] (start N vs) H s1 := inv_start S hr.hd e0 hl r x
  have hX : Gx W k (cxOf NoX W.P W.w W.K W.mg W.base N qual scope f cdv A outer s H NoE).nox := ⟨rfl, rfl, rfl, rfl, rfl, rfl, S.nd, hgs, hr.deeper _, rfl⟩
  obtain ⟨t, ht, hq⟩ := hbody _ hX rfl rfl (fun _ => rfl) (start N vs) H vs Q rfl hsp
  refine wpAny_mono (ht.nox.run [] s1 (start N vs) H _ I hq) (fun fl s' hs => ?_) fun e s' hs => hs
  have fin : ∀ {σ' : L2.St} {H' : Hp} {v : V} {u : Value}, Inv (cxOf NoX W.P W.w W.K W.mg W.base N qual scope f cdv A outer s H NoE) [] σ' H' s' → RelV v u → Q v H' → CE outer W.P W.w H s Q u s' :=
    fun {σ' H' v u} J rv q => ⟨v, H', J.os, J.bare, J.base, J.hok, rv, q⟩
  cases fl with
  | ret u =>
    obtain ⟨v, σ', H', J, rv, q⟩ := hs
    exact fin J rv q
  | next =>
    obtain ⟨σ', H', J, q⟩ := hs
    exact fin (v := V.non) (u := Value.none) J rfl q
  | brk =>
    obtain ⟨_, _, _, q⟩ := hs
    exact False.elim q
  | cont =>
    obtain ⟨_, _, _, q⟩ := hs
    exact False.elim q
end
end Fw

/-! Fw2k: what is walked. -/
namespace Fw
open L2 PySem PySem.Spec PyProof.Rows
variable {W : Wd}
/-! ### enumerate of a tuple, of a text -/
theorem meets_enum1 {v : Value} {o : Obj} {H : Heap → Prop} (B : Begins v o H) :
    Meets (Builtin.«enumerate.__new__» ⟨[.type "enumerate", v], []⟩) (fun _ R s => H s.heap ∧
      R (.ok (.ret (.ref (s.heap.push o).objs.size))) { s with heap := (s.heap.push o).push { cls := .type "enumerate", data := .fields #[.none, .bool false, .ref s.heap.objs.size, rawInt 0, .none, .none] } }) :=
  .of_wp fun prog w A R s h => by
    obtain ⟨hp, g, d, tk, os⟩ := s; obtain ⟨h1, h⟩ := h
    have hsub := sub_enumerate
    have q1 : ∀ {A' : Around} {E : Value → Shared → Prop} {Q : Value → Shared → Prop}, Q (.ref hp.objs.size) ⟨hp.push o, g, d, tk, os⟩ → wpAny (model prog w) A' (pyIter v) Q E ⟨hp, g, d, tk, os⟩ :=
      fun q => B.iter prog w _ _ ⟨hp, g, d, tk, os⟩ _ h1 q
    wp_walk using q1
    refine wpAny_stack_any fun st => wpAny_pure ?_
    split
    · rename_i c _ _ _ _ _
      cases (c == Value.type "enumerate")
      · wp_walk using q1
        exact ⟨_, rfl, h⟩
      · wp_walk using q1
        exact ⟨_, rfl, h⟩
    · wp_walk using q1
      exact ⟨_, rfl, h⟩
theorem call_enum1 {prog : Program} {w : World} {A : Around} {E : Value → Shared → Prop} {s : Shared} {v : Value} {o : Obj} {H : Heap → Prop} {Q : Value → Shared → Prop} (B : Begins v o H) (h1 : H s.heap)
    (h : ∀ h', IsEnum h' (s.heap.objs.size + 1) s.heap.objs.size 0 .none → h'.get? s.heap.objs.size = some o → h'.objs.size = s.heap.objs.size + 2 →
      (∀ b o, s.heap.get? b = some o → h'.get? b = some o) → Q (.ref (s.heap.objs.size + 1)) { s with heap := h' }) :
    wpAny (model prog w) A (PySem.call (.type "enumerate") [v]) Q E s := by
  refine callType_new F.called_enumerate (by decide) (F.typeCall_enumerate_1 _) (F.newCall_enumerate_1 _) (fun obj => F.args_object_init_2 obj _) F.entry_enumerate_new
    (meets_enum1 B) ⟨h1, ?_⟩
  have hz : (s.heap.push o).objs.size = s.heap.objs.size + 1 := Heap.size_push ..
  show _ ∧ _
  rw [hz]
  have he : IsEnum ((s.heap.push o).push { cls := .type "enumerate", data := .fields #[.none, .bool false, .ref s.heap.objs.size, rawInt 0, .none, .none] }) (s.heap.objs.size + 1) s.heap.objs.size 0 .none := by
    have := Heap.get?_push_size (s.heap.push o) (o := { cls := .type "enumerate", data := .fields #[.none, .bool false, .ref s.heap.objs.size, rawInt 0, .none, .none] }) rfl
    rw [hz] at this; exact this
  refine ⟨⟨_, he, rfl⟩, h _ he (Heap.get?_push_of_some _ (Heap.get?_push_size _ B.free)) (by rw [Heap.size_push, hz]) fun b o x => Heap.get?_push_of_some _ (Heap.get?_push_of_some _ x)⟩
/-- pairs of the places and the items xs, while Gd holds -/
def ItE (Gd : Hp → Prop) (xs : List V) : It :=
  ⟨fun i H => Gd H ∧ i < xs.length, fun i H v H' => ∃ T x, v = .ref T ∧ H T = none ∧ H' = upd H T (.tup [.int (i : Nat), x]) ∧ xs[i]? = some x, fun i H => Gd H ∧ i = xs.length⟩
theorem turn_enumG {P : Program} {w : World} {K : PySem.W.Frag} {elts : List Expr} {kk : Nat} {tpos : Pos} {e it : Addr} {xs : List V} {Gd : Hp → Prop} {St : Nat → Heap → Prop}
    (src : ∀ (X : Cx) (pins : List (Addr × Obj)) (σ : L2.St) (H : Hp) (s : Shared) (i : Nat) (c : Int) (old : Value), X.K = K → X.calm = true → Inv X pins σ H s → Gd H → St i s.heap → IsEnum s.heap e it c old →
      ∃ (fp : List Addr) (P' : Nat → Value → Prop) (St' : Nat → Heap → Prop), Draws X.prog X.w X.A.in1 it fp xs.length P' St' ∧ St' i s.heap ∧ (∀ j h, St' j h → St j h) ∧ (∀ j v, P' j v → ∃ x, xs[j]? = some x ∧ RelV x v) ∧ e ∉ fp)
    (stK : ∀ i h h', St i h → (∀ o, h.get? it = some o → h'.get? it = some o) → St i h') (stL : ∀ i h, St i h → ∃ o, h.get? it = some o ∧ ∀ v, o.data ≠ .cell v) :
    Turn P w K (.Tuple elts kk tpos) (ItE Gd xs) [e, it] e (fun i h => (∃ old, IsEnum h e it ((i : Nat) : Int) old) ∧ St i h ∧ e ≠ it) where
  mem := by simp
  obj := fun i h st b hb => by
    obtain ⟨⟨old, he⟩, hs, _⟩ := st
    have e' : b = e ∨ b = it := by simpa using hb
    rcases e' with z | z
    · rw [z]; exact ⟨_, he, fun v q => nomatch q⟩
    · rw [z]; exact stL _ _ hs
  keep := fun i h h' st k => let ⟨⟨old, he⟩, hi, hne⟩ := st; ⟨⟨old, k e (by simp) _ he⟩, stK _ _ _ hi fun o q => k it (by simp) o q, hne⟩
  item := by
    intro X hP hw hK hc i pins s σ H E I hf st hg
    obtain ⟨⟨old, he⟩, hit, hne⟩ := st
    obtain ⟨fp, P', St', D, hst, hto, hP', hef⟩ := src X pins σ H s i _ old hK hc I hg.1 hit he
    subst hP hw hK
    have hel : e < s.heap.objs.size := Heap.lt_size he
    have hil : it < s.heap.objs.size := by obtain ⟨_, q, _⟩ := stL _ _ hit; exact Heap.lt_size q
    refine wpAny_pyNext_enum_itemC D he hst hg.2 hne hef fun u h' tk hPx ho hit' hT hsz hk => ?_
    obtain ⟨x, hx, ru⟩ := hP' i u hPx
    refine ⟨_, rfl, wpAny_letOwnedTupleGo_enum (s := { s with heap := h', toks := tk + 1 }) ho fun h'' he' sb => ?_⟩
    have hT2 : h''.get? s.heap.objs.size = some { cls := .type "tuple", data := .seq #[.int i tk, u] } := (sb.2 _ (Nat.ne_of_gt hel)).trans hT
    have new : ObjOk X.prog X.w (upd H s.heap.objs.size (.tup [.int (i : Nat), x])) h'' s.heap.objs.size (.tup [.int (i : Nat), x]) :=
      ⟨by show 2 ≤ sizeLine; decide, [.int i tk, u], .cons ⟨_, rfl⟩ (.cons ru .nil), ⟨_, hT2, rfl, _, rfl⟩⟩
    have I1 : Inv X pins σ (upd H s.heap.objs.size (.tup [.int (i : Nat), x])) { s with heap := h'', toks := tk + 1 } :=
      I.turnedNew (ch := [e, it]) (fun b ob hb q => (sb.2 b (fun z => hb (by simp [z]))).trans (hk b ob (fun z => hb (by simp [z])) (fun z => hb (by simp [z])) q)) hf (Nat.le_refl _) new
    refine ⟨.ref s.heap.objs.size, _, I1, rfl, ⟨_, x, rfl, I.hok.fresh (Nat.le_refl _), rfl, hx⟩, ⟨⟨u, ?_⟩, stK _ _ _ (hto _ _ hit') fun o q => (sb.2 it (Ne.symm hne)).trans q, hne⟩, fun b hb => ?_⟩
    · have e1 : ((i + 1 : Nat) : Int) = (i : Int) + 1 := by omega
      rw [e1]; exact he'
    · have hb' : b < s.heap.objs.size := by
        have e' : b = e ∨ b = it := by simpa using hb
        rcases e' with z | z
        · rw [z]; exact hel
        · rw [z]; exact hil
      rw [upd_ne (Nat.ne_of_lt hb')]
      exact (hf b hb).1
  done := by
    intro X hP hw hK hc i pins s σ H E I hf st hg
    obtain ⟨⟨old, he⟩, hit, hne⟩ := st
    obtain ⟨hG, rfl⟩ := hg
    obtain ⟨fp, P', St', D, hst, hto, hP', hef⟩ := src X pins σ H s _ _ old hK hc I hG hit he
    subst hP hw hK
    obtain ⟨f0, f1, f2, f3, f4, f5⟩ := hf it (by simp)
    exact wpAny_pyNext_enum_endD D he hst fun h' eb => ⟨rfl, I.turned (t' := s.toks) (fun b o hb q => eb b o hb q) f0 f1 f3 f4 f5⟩
  self := fun A i s Q E st h => let ⟨⟨_, he⟩, _⟩ := st; wpAny_pyIter_enum he h
theorem turn_enumT {P : Program} {w : World} {K : PySem.W.Frag} {elts : List Expr} {kk : Nat} {tpos : Pos} {a e it : Addr} {xs : List V} :
    Turn P w K (.Tuple elts kk tpos) (ItE (fun H => SqT K H a xs) xs) [e, it] e (fun i h => (∃ old, IsEnum h e it ((i : Nat) : Int) old) ∧ h.IsTupleIter it a i ∧ e ≠ it) := by
  refine turn_enumG (fun X pins σ H s i c old hK hc I hq st he => ?_) (fun i h h' st k => st.at k) fun i h st => ?_
  · subst hK
    obtain ⟨its, rv, p, hz⟩ := I.tuple hq
    have hai : a ≠ it := by
      rintro rfl
      obtain ⟨o, ho, hc', _⟩ := id p
      obtain ⟨o', ho', hc'', _⟩ := st
      rw [ho] at ho'; cases ho'
      rw [hc'] at hc''; exact absurd (Value.type.inj hc'') (by decide)
    have hae : a ≠ e := by
      rintro rfl
      obtain ⟨o, ho, hc', _⟩ := id p
      rw [show s.heap.get? a = _ from he] at ho
      cases ho; exact absurd (Value.type.inj hc') (by decide)
    have hei : e ≠ it := by
      rintro rfl
      obtain ⟨o', ho', hc'', _⟩ := st
      rw [show s.heap.get? e = _ from he] at ho'
      cases ho'; exact absurd (Value.type.inj hc'') (by decide)
    have D := Draws.tuple (prog := X.prog) (w := X.w) (A := X.A.in1) (I.ok.hd hc) it a hai its.toArray
    rw [List.size_toArray, ← rv.length] at D
    refine ⟨_, _, _, D, ⟨st, p⟩, fun j h q => q.1, fun j v hv => ?_, by simp [hei, hae.symm]⟩
    have hv : its[j]? = some v := by simpa using hv
    have hl : j < xs.length := by rw [rv.length]; exact (List.getElem?_eq_some_iff.mp hv).1
    obtain ⟨u, hu, ru⟩ := rv.get (List.getElem?_eq_getElem hl)
    rw [hv] at hu; cases hu
    exact ⟨_, List.getElem?_eq_getElem hl, ru⟩
  · obtain ⟨o, ho, c, d⟩ := st
    exact ⟨o, ho, fun v z => by rw [d] at z; cases z⟩
theorem turn_enumS {P : Program} {w : World} {K : PySem.W.Frag} {elts : List Expr} {kk : Nat} {tpos : Pos} {z : Str} {t : Tok} {e it : Addr} :
    Turn P w K (.Tuple elts kk tpos) (ItE (fun _ => True) (z.cps.toList.map fun c => V.str ⟨#[c]⟩)) [e, it] e (fun i h => (∃ old, IsEnum h e it ((i : Nat) : Int) old) ∧ h.IsStrIter it (strIterType z) z t i ∧ e ≠ it) := by
  refine turn_enumG (fun X pins σ H s i c old hK hc I hq st he => ?_) (fun i h h' st k => let ⟨o, ho, r⟩ := st; ⟨o, k o ho, r⟩) fun i h st => ?_
  · have hei : e ≠ it := by
      rintro rfl
      obtain ⟨o', ho', hc'', _⟩ := st
      rw [show s.heap.get? e = _ from he] at ho'
      cases ho'
      unfold strIterType at hc''
      split at hc'' <;> exact absurd (Value.type.inj hc'') (by decide)
    have D := Draws.text (prog := X.prog) (w := X.w) (A := X.A.in1) (I.ok.hd hc) it z t
    have hl : z.cps.size = (z.cps.toList.map fun c => V.str ⟨#[c]⟩).length := by simp
    rw [hl] at D
    refine ⟨_, _, _, D, st, fun j h q => q, fun j v hv => ?_, by simp [hei]⟩
    obtain ⟨c, u, e1, rfl⟩ := hv
    exact ⟨.str ⟨#[c]⟩, by rw [List.getElem?_map]; simp [e1], ⟨u, rfl⟩⟩
  · obtain ⟨o, ho, c, d⟩ := st
    exact ⟨o, ho, fun v z => by rw [d] at z; cases z⟩
/-! ### what a walk gives, by data -/
structure WkD (W : Wd) (ρ0 : List Addr) (H0 : Hp) (J : It) (w : Wk) : Prop where
  goes : ∀ (i : Nat) (ρ : List Addr) (G : Store) (H : Hp), i < w.1.length → Ex W ρ0 H0 ρ H → Rel W ρ G H → chk w.2.1 G = true → chk w.2.2 G = true → J.go i H
  stops : ∀ (ρ : List Addr) (G : Store) (H : Hp), Ex W ρ0 H0 ρ H → Rel W ρ G H → chk w.2.1 G = true → chk w.2.2 G = true → J.stop w.1.length H
  yields : ∀ (i : Nat) (ρ : List Addr) (G : Store) (H : Hp) (x : V) (H' : Hp), i < w.1.length → Ex W ρ0 H0 ρ H → Rel W ρ G H → chk w.2.1 G = true → chk w.2.2 G = true → J.yld i H x H' → Ex W ρ H ρ H' ∧ Rel W ρ G H' ∧ ∃ d, w.1[i]? = some d ∧ Dn W ρ H' x d
def rI (W : Wd) (f : Env → Store → Res (Wk × Store)) : TI := fun σ H R => ∃ ρ G env, Rel W ρ G H ∧ EnvOk W ρ H σ env ∧ ∃ w G', f env G = .ok (w, G') ∧ ∀ ρ' H' J, Ex W ρ H ρ' H' → Rel W ρ' G' H' → WkD W ρ' H' J w → R J H'
def IsI (W : Wd) (X : Cx) (tg iter : Expr) (f : Env → Store → Res (Wk × Store)) : Prop := PI X tg iter (rI W f)
section
variable {X : Cx} {k j : Nat} {pins : List (Addr × Obj)} {σ : L2.St} {s : Shared} {ρ ρ' : List Addr} {H H' : Hp} {G : Store} {Q : V → Hp → Prop} {a b c tg : Expr} {fa fb fc : FE} {pos apos cpos tpos : Pos} {elts : List Expr} {kk : Nat}
theorem get_of {ds : List D} {vs : List V} {i : Nat} (n : Dns W ρ H vs ds) (h : i < ds.length) : ∃ v d, vs[i]? = some v ∧ ds[i]? = some d ∧ Dn W ρ H v d := by
  obtain ⟨v, e, q⟩ := n.get (List.getElem?_eq_getElem h)
  exact ⟨v, _, e, List.getElem?_eq_getElem h, q⟩
theorem wk_tup {p : Addr} {vs : List V} {l : List D} (q : SqT W.K H p vs) (n : Dns W ρ H vs l) : WkD W ρ H (Itt W.K p) (l, none, none) := by
  refine ⟨fun i ρ1 G1 H1 hi x r _ _ => ?_, fun ρ1 G1 H1 x r _ _ => ⟨vs, x.tup _ _ q, by rw [n.length]; exact Nat.le_refl _⟩, fun i ρ1 G1 H1 v H' hi x r _ _ y => ?_⟩
  · obtain ⟨v, d, e1, _, _⟩ := get_of n hi
    exact ⟨vs, v, x.tup _ _ q, e1⟩
  · obtain ⟨rfl, y⟩ := y
    obtain ⟨u, d, e1, e2, n2⟩ := get_of n hi
    have := y vs (x.tup _ _ q)
    rw [e1] at this; cases this
    exact ⟨Ex.refl, r, d, e2, n2.ex x⟩
theorem wk_lst {p : Addr} {n : Nat} {l : List D} {fz : Bool} (hp : ρ[n]? = some p) : WkD W ρ H (Itl W.K p) (l, some (n, .lst l fz), none) := by
  have get : ∀ {ρ1 : List Addr} {G1 : Store} {H1 : Hp}, Ex W ρ H ρ1 H1 → Rel W ρ1 G1 H1 → chk (some (n, O.lst l fz)) G1 = true → ∃ vs, SqL W.K H1 p vs ∧ Dns W ρ1 H1 vs l := by
    intro ρ1 G1 H1 x r c
    have hg : G1[n]? = some (.lst l fz) := of_decide_eq_true c
    obtain ⟨p', vs, e, _, q, ds, _⟩ := r.lst (.ref (x.pre _ _ hp)) hg
    cases e
    exact ⟨vs, q, ds⟩
  refine ⟨fun i ρ1 G1 H1 hi x r c _ => ?_, fun ρ1 G1 H1 x r c _ => ?_, fun i ρ1 G1 H1 v H' hi x r c _ y => ?_⟩
  · obtain ⟨vs, q, ds⟩ := get x r c
    obtain ⟨v, d, e1, _, _⟩ := get_of ds hi
    exact ⟨vs, v, q, e1⟩
  · obtain ⟨vs, q, ds⟩ := get x r c
    exact ⟨vs, q, by rw [ds.length]; exact Nat.le_refl _⟩
  · obtain ⟨rfl, y⟩ := y
    obtain ⟨vs, q, ds⟩ := get x r c
    obtain ⟨u, d, e1, e2, n2⟩ := get_of ds hi
    have := y vs q
    rw [e1] at this; cases this
    exact ⟨Ex.refl, r, d, e2, n2⟩
theorem wk_str {z : List Nat} : WkD W ρ H (Its ⟨z.toArray⟩) (signs z, none, none) := by
  have hl : (signs z).length = z.length := by simp [signs]
  refine ⟨fun i ρ1 G1 H1 hi x r _ _ => ?_, fun ρ1 G1 H1 x r _ _ => ?_, fun i ρ1 G1 H1 v H' hi x r _ _ y => ?_⟩
  · show i < z.toArray.size
    rw [hl] at hi; simpa using hi
  · show z.toArray.size ≤ (signs z).length
    rw [hl]; simp
  · obtain ⟨rfl, c, e, rfl⟩ := y
    refine ⟨Ex.refl, r, .str [c], ?_, .str [c]⟩
    have e : z[i]? = some c := by simpa using e
    simp [signs, e]
theorem ii_pl (hX : Gx W k X) (ha : IsE W X a fa) : IsI W X tg a (fun env G => (fa env G).bind fun x => Res.of ((walkS x.2 x.1).map fun w => ((w.1, w.2, none), x.2))) := by
  have hp : PI X tg a (fun σ H R => rE W fa σ H fun v H1 => (∃ x, v = .str x ∧ R (Its x) H1) ∨ (∃ p, v = .ref p ∧ (∃ xs, SqT X.K H1 p xs) ∧ R (Itt X.K p) H1) ∨ ∃ p, v = .ref p ∧ (∃ xs, SqL X.K H1 p xs) ∧ R (Itl X.K p) H1) := by
    refine ⟨fun pins s σ H R I h => ?_⟩
    refine thn (ha.run pins s σ H _ I h) fun u s1 ⟨v, H1, I1, r1, q⟩ => ?_
    rcases q with ⟨x, rfl, q⟩ | ⟨p, rfl, ⟨xs, hq⟩, q⟩ | ⟨p, rfl, ⟨xs, hq⟩, q⟩
    · obtain ⟨t, rfl⟩ := r1
      cases ha : x.cps.all (· < 128)
      · exact wpAny_pyIter_wide ha (pi_one (tk := s1.toks) I1 _ (turn_str _ x t "str_iterator" (.inr rfl)) ⟨_, Heap.get?_push_size _ rfl, rfl, rfl⟩ q)
      · exact wpAny_pyIter_ascii ha (pi_one (tk := s1.toks) I1 _ (turn_str _ x t "str_ascii_iterator" (.inl rfl)) ⟨_, Heap.get?_push_size _ rfl, rfl, rfl⟩ q)
    · cases r1
      obtain ⟨its, rv, p', hz⟩ := I1.tuple hq
      exact wpAny_pyIter_tuple (show s1.heap.IsTuple p its.toArray from p') (pi_one (tk := s1.toks) I1 _ (turn_tuple p _) ⟨_, Heap.get?_push_size _ rfl, rfl, rfl⟩ q)
    · cases r1
      obtain ⟨its, rv, p', hz⟩ := I1.list hq
      exact wpAny_pyIter_list p'.isList (pi_one (tk := s1.toks) I1 _ (turn_list p _) ⟨_, Heap.get?_push_size _ rfl, rfl, rfl⟩ q)
  refine ⟨fun pins s σ H R I h => hp.run pins s σ H R I ?_⟩
  obtain ⟨ρ, G, env, r, eo, w, G', e, f⟩ := h
  obtain ⟨⟨d, G1⟩, e1, e⟩ := Res.bind_eq e
  obtain ⟨w0, e2, e3⟩ := Option.map_eq_some_iff.mp (Res.of_eq e)
  cases e3
  refine ⟨ρ, G, env, r, eo, d, G1, e1, fun v ρ' H' x r' n => ?_⟩
  cases d with
  | tup l =>
    cases e2
    cases n with
    | tup q ds => exact .inr (.inl ⟨_, rfl, ⟨_, by rw [hX.K]; exact q⟩, by rw [hX.K]; exact f _ _ _ x r' (wk_tup q ds)⟩)
  | str z => cases e2; cases n; exact .inl ⟨_, rfl, f _ _ _ x r' wk_str⟩
  | ref i =>
    have e2 : (match G1[i]? with
      | some (.lst l f) => some (l, some (i, O.lst l f))
      | _ => none) = some w0 := e2
    split at e2
    · rename_i l fz hg
      cases e2
      obtain ⟨p, vs, rfl, hp, q, ds, _⟩ := r'.lst n hg
      exact .inr (.inr ⟨_, rfl, ⟨_, by rw [hX.K]; exact q⟩, by rw [hX.K]; exact f _ _ _ x r' (wk_lst hp)⟩)
    · cases e2
  | _ => cases e2
end
end Fw

/-! Fw2l: range, enumerate; targets; comprehensions. -/
namespace Fw
open L2 PySem PySem.Spec PyProof.Rows
variable {W : Wd}
section
variable {X : Cx} {k j : Nat} {pins : List (Addr × Obj)} {σ : L2.St} {s : Shared} {ρ ρ' ρ'' : List Addr} {H H' H'' : Hp} {G : Store} {Q : V → Hp → Prop} {a b c tg : Expr} {fa fb fc : FE} {pos apos cpos tpos : Pos} {elts : List Expr} {kk : Nat}
theorem rangeD_length : ∀ (n : Nat) (lo : Int), (rangeD lo n).length = n
  | 0, _ => rfl
  | n + 1, lo => by rw [rangeD, List.length_cons, rangeD_length n]
theorem rangeD_get : ∀ (n : Nat) (lo : Int) (i : Nat), i < n → (rangeD lo n)[i]? = some (.int (lo + i))
  | 0, _, _, h => by omega
  | n + 1, lo, 0, _ => by simp [rangeD]
  | n + 1, lo, i + 1, h => by
    rw [rangeD, List.getElem?_cons_succ, rangeD_get n _ i (by omega)]
    congr 2
    omega
theorem wk_range {lo : Int} {n : Nat} : WkD W ρ H (Itr lo n) (rangeD lo n, none, none) := by
  refine ⟨fun i ρ1 G1 H1 hi x r _ _ => ?_, fun ρ1 G1 H1 x r _ _ => ?_, fun i ρ1 G1 H1 v H' hi x r _ _ y => ?_⟩
  · rw [rangeD_length] at hi; exact hi
  · show n ≤ (rangeD lo n).length
    rw [rangeD_length]; exact Nat.le_refl _
  · obtain ⟨rfl, rfl⟩ := y
    rw [rangeD_length] at hi
    exact ⟨Ex.refl, r, _, rangeD_get n lo i hi, .int _⟩
theorem small_eq {i : Int} (h : small i = true) : -(2 ^ 62) ≤ i ∧ i < 2 ^ 62 := by
  unfold small at h
  simp only [Bool.and_eq_true, decide_eq_true_eq] at h
  exact h
theorem ii_r1 {p : Pos} (hg : Gl X "range") (hm : X.mg "range" = none) (h0 : noStar a = true) (ha : IsE W X a fa) : IsI W X tg (.Call (.Name "range" p) [a] [] pos) (fun env G => (fa env G).bind fun x => match x.1 with
    | .int j => must (small j) (.ok ((rangeD 0 j.toNat, none, none), x.2))
    | _ => .stuck) := by
  refine ⟨fun pins s σ H R I h => (pi_range1 hg hm (pa_cons ha pa_nil (star_cons h0)) (star_cons h0)).run pins s σ H R I ?_⟩
  obtain ⟨ρ, G, env, r, eo, w, G', e, f⟩ := h
  obtain ⟨⟨d, G1⟩, e1, e⟩ := Res.bind_eq e
  refine ⟨ρ, G, env, r, eo, d, G1, e1, fun v ρ' H' x r' n => ?_⟩
  cases d with
  | int j =>
    cases n
    obtain ⟨hs, e⟩ := must_eq e
    cases e
    obtain ⟨s1, s2⟩ := small_eq hs
    exact ⟨j, rfl, s1, s2, f _ _ _ x r' wk_range⟩
  | _ => cases e
theorem ii_r2 {p : Pos} (hg : Gl X "range") (hm : X.mg "range" = none) (h0 : noStar a = true) (h1 : noStar b = true) (ha : IsE W X a fa) (hb : IsE W X b fb) : IsI W X tg (.Call (.Name "range" p) [a, b] [] pos) (fun env G => (fa env G).bind fun x => (fb env x.2).bind fun y => match x.1, y.1 with
    | .int i, .int j => must (small i && small j) (.ok ((rangeD i (j - i).toNat, none, none), y.2))
    | _, _ => .stuck) := by
  have s2 : ∀ env, starEach [b] env = [(false, eval b env)] := fun env => star_cons h1
  refine ⟨fun pins s σ H R I h => (pi_range2 hg hm (pa_cons ha (pa_cons hb pa_nil (star_cons h1)) (star_cons h0)) ((star_cons h0).trans (by rw [s2])) (s2 _)).run pins s σ H R I ?_⟩
  obtain ⟨ρ, G, env, r, eo, w, G', e, f⟩ := h
  obtain ⟨⟨d, G1⟩, e1, e⟩ := Res.bind_eq e
  obtain ⟨⟨d2, G2⟩, e2, e⟩ := Res.bind_eq e
  refine ⟨ρ, G, env, r, eo, d, G1, e1, fun v ρ' H' x r' n => ⟨ρ', G1, env, r', eo.ex x, d2, G2, e2, fun v2 ρ2 H2 x2 r2 n2 => ?_⟩⟩
  cases d with
  | int i =>
    cases d2 with
    | int j =>
      cases n; cases n2
      obtain ⟨hs, e⟩ := must_eq e
      cases e
      rw [Bool.and_eq_true] at hs
      obtain ⟨a1, a2⟩ := small_eq hs.1
      obtain ⟨b1, b2⟩ := small_eq hs.2
      exact ⟨i, j, rfl, ⟨a1, a2, b1, b2⟩, f _ _ _ (x.trans x2) r2 wk_range⟩
    | _ => cases e
  | _ => cases e
theorem enumD_length : ∀ (l : List D) (n : Nat), (enumD n l).length = l.length
  | [], _ => rfl
  | _ :: l, n => by rw [enumD, List.length_cons, List.length_cons, enumD_length l]
theorem enumD_get : ∀ (l : List D) (n i : Nat) (d : D), l[i]? = some d → (enumD n l)[i]? = some (.tup [.int (n + i : Nat), d])
  | [], _, _, _, h => by simp at h
  | x :: l, n, 0, d, h => by
    simp only [List.getElem?_cons_zero, Option.some.injEq] at h
    subst h
    simp [enumD]
  | x :: l, n, i + 1, d, h => by
    rw [enumD, List.getElem?_cons_succ, enumD_get l (n + 1) i d (by simpa using h)]
    congr 4
    omega
/-- the new pair -/
theorem pair_new {T : Addr} {i : Nat} {x : V} {d : D} (r : Rel W ρ G H) (hT : H T = none) (n : Dn W ρ H x d) : Ex W ρ H ρ (upd H T (.tup [.int (i : Nat), x])) ∧ Rel W ρ G (upd H T (.tup [.int (i : Nat), x])) ∧ Dn W ρ (upd H T (.tup [.int (i : Nat), x])) (.ref T) (.tup [.int (i : Nat), d]) := by
  have ex : Ex W ρ H ρ (upd H T (.tup [.int (i : Nat), x])) := Ex.newT hT
  exact ⟨ex, r.newT hT, .tup (SqT.of upd_same) (.cons (.int _) (.cons (n.ex ex) .nil))⟩
theorem wk_enT {p : Addr} {vs : List V} {l : List D} (q : SqT W.K H p vs) (n : Dns W ρ H vs l) : WkD W ρ H (ItE (fun H => SqT W.K H p vs) vs) (enumD 0 l, none, none) := by
  have hl : (enumD 0 l).length = vs.length := by rw [enumD_length, n.length]
  refine ⟨fun i ρ1 G1 H1 hi x r _ _ => ⟨x.tup _ _ q, by rw [hl] at hi; exact hi⟩, fun ρ1 G1 H1 x r _ _ => ⟨x.tup _ _ q, hl⟩, fun i ρ1 G1 H1 v H' hi x r _ _ y => ?_⟩
  obtain ⟨T, u, rfl, hT, rfl, e⟩ := y
  rw [enumD_length] at hi
  obtain ⟨u', d, e1, e2, n2⟩ := get_of n hi
  rw [e] at e1; cases e1
  obtain ⟨a1, a2, a3⟩ := pair_new (i := i) r hT (n2.ex x)
  exact ⟨a1, a2, _, by have := enumD_get l 0 i d e2; simpa using this, a3⟩
theorem wk_enS {z : List Nat} : WkD W ρ H (ItE (fun _ => True) ((⟨z.toArray⟩ : Str).cps.toList.map fun c => V.str ⟨#[c]⟩)) (enumD 0 (signs z), none, none) := by
  have hl : (enumD 0 (signs z)).length = ((⟨z.toArray⟩ : Str).cps.toList.map fun c => V.str ⟨#[c]⟩).length := by rw [enumD_length]; simp [signs]
  refine ⟨fun i ρ1 G1 H1 hi x r _ _ => ⟨trivial, by rw [hl] at hi; exact hi⟩, fun ρ1 G1 H1 x r _ _ => ⟨trivial, hl⟩, fun i ρ1 G1 H1 v H' hi x r _ _ y => ?_⟩
  obtain ⟨T, u, rfl, hT, rfl, e⟩ := y
  rw [List.getElem?_map] at e
  obtain ⟨c, e1, rfl⟩ := Option.map_eq_some_iff.mp e
  have e1 : z[i]? = some c := by simpa using e1
  obtain ⟨a1, a2, a3⟩ := pair_new (i := i) r hT (.str [c])
  exact ⟨a1, a2, _, by have := enumD_get (signs z) 0 i (.str [c]) (by simp [signs, e1]); simpa using this, a3⟩
theorem wk_enL {p : Addr} {n : Nat} {l : List D} {fz : Bool} (hp : ρ[n]? = some p) : WkD W ρ H (Ite W.K p) (enumD 0 l, some (n, .lst l fz), none) := by
  have get : ∀ {ρ1 : List Addr} {G1 : Store} {H1 : Hp}, Ex W ρ H ρ1 H1 → Rel W ρ1 G1 H1 → chk (some (n, O.lst l fz)) G1 = true → ∃ vs, SqL W.K H1 p vs ∧ Dns W ρ1 H1 vs l := by
    intro ρ1 G1 H1 x r c
    have hg : G1[n]? = some (.lst l fz) := of_decide_eq_true c
    obtain ⟨p', vs, e, _, q, ds, _⟩ := r.lst (.ref (x.pre _ _ hp)) hg
    cases e
    exact ⟨vs, q, ds⟩
  refine ⟨fun i ρ1 G1 H1 hi x r c _ => ?_, fun ρ1 G1 H1 x r c _ => ?_, fun i ρ1 G1 H1 v H' hi x r c _ y => ?_⟩
  · obtain ⟨vs, q, ds⟩ := get x r c
    rw [enumD_length] at hi
    obtain ⟨v, d, e1, _, _⟩ := get_of ds hi
    exact ⟨vs, v, q, e1⟩
  · obtain ⟨vs, q, ds⟩ := get x r c
    exact ⟨vs, q, by rw [enumD_length, ds.length]; exact Nat.le_refl _⟩
  · obtain ⟨T, u, rfl, hT, rfl, e⟩ := y
    obtain ⟨vs, q, ds⟩ := get x r c
    rw [enumD_length] at hi
    obtain ⟨u', d, e1, e2, n2⟩ := get_of ds hi
    have := e vs q
    rw [e1] at this; cases this
    obtain ⟨a1, a2, a3⟩ := pair_new (i := i) r hT n2
    exact ⟨a1, a2, _, by have := enumD_get l 0 i d e2; simpa using this, a3⟩
theorem ii_en {p : Pos} (hX : Gx W k X) (hg : Gl X "enumerate") (hm : X.mg "enumerate" = none) (h0 : noStar a = true) (ha : IsE W X a fa) : IsI W X (.Tuple elts kk tpos) (.Call (.Name "enumerate" p) [a] [] pos) (fun env G => (fa env G).bind fun x => Res.of ((walkS x.2 x.1).map fun w => ((enumD 0 w.1, w.2, none), x.2))) := by
  have hp : PI X (.Tuple elts kk tpos) (.Call (.Name "enumerate" p) [a] [] pos) (fun σ H R => rE W fa σ H fun v H1 => (∃ x, v = .str x ∧ R (ItE (fun _ => True) (x.cps.toList.map fun c => V.str ⟨#[c]⟩)) H1) ∨ (∃ p xs, v = .ref p ∧ SqT X.K H1 p xs ∧ R (ItE (fun H => SqT X.K H p xs) xs) H1) ∨ ∃ p xs, v = .ref p ∧ SqL X.K H1 p xs ∧ R (Ite X.K p) H1) := by
    refine ⟨fun pins s σ H R I h => ?_⟩
    have hs : starEach [a] X.env = [(false, eval a X.env)] := star_cons h0
    refine Call_ (ld_blt I hg hm boot_enumerate (PyProof.Rows.callWith_type1 (thn ((pa_cons ha pa_nil (star_cons h0)).run pos pins s σ H (fun vs H1 => ∃ v, vs = [v] ∧ ((∃ x, v = .str x ∧ R (ItE (fun _ => True) (x.cps.toList.map fun c => V.str ⟨#[c]⟩)) H1) ∨ (∃ p xs, v = .ref p ∧ SqT X.K H1 p xs ∧ R (ItE (fun H => SqT X.K H p xs) xs) H1) ∨ ∃ p xs, v = .ref p ∧ SqL X.K H1 p xs ∧ R (Ite X.K p) H1)) I ?_) fun us s1 ⟨vs, H1, I1, r1, q1⟩ => ?_) hs rfl))
    · obtain ⟨ρ, G, env, r, eo, d, G1, e1, f⟩ := h
      exact ⟨ρ, G, env, r, eo, d, G1, e1, fun v ρ' H' x r' n => ⟨v, rfl, f v ρ' H' x r' n⟩⟩
    · obtain ⟨v, rfl, q1⟩ := q1
      obtain ⟨u, rfl, ru⟩ := vals1 r1
      have fin : ∀ {h' : Heap} {J : It} {tn : Nat → Heap → Prop}, (∀ b o, s1.heap.get? b = some o → h'.get? b = some o) → Turn X.prog X.w X.K (.Tuple elts kk tpos) J [s1.heap.objs.size + 1, s1.heap.objs.size] (s1.heap.objs.size + 1) tn → tn 0 h' → R J H1 →
          PIE X pins σ (.Tuple elts kk tpos) R (.ref (s1.heap.objs.size + 1)) { s1 with heap := h' } := fun {h' J tn} hk T st q =>
        ⟨s1.heap.objs.size + 1, [s1.heap.objs.size + 1, s1.heap.objs.size], _, _, H1, rfl, I1.kept (t' := s1.toks) hk, T, st, fun b hb => by
          have e' : b = s1.heap.objs.size + 1 ∨ b = s1.heap.objs.size := by simpa using hb
          have hle : s1.heap.objs.size ≤ b := by
            rcases e' with z | z
            · rw [z]; exact Nat.le_add_right _ _
            · rw [z]; exact Nat.le_refl _
          exact I1.fpOk hle (I1.hok.fresh hle), q⟩
      rcases q1 with ⟨x, rfl, q⟩ | ⟨p, xs, rfl, hq, q⟩ | ⟨p, xs, rfl, hq, q⟩
      · obtain ⟨t, rfl⟩ := ru
        exact call_enumerate_str fun h' he hit hsz hk => wpAny_pyIter_enum he (fin hk turn_enumS ⟨⟨.none, he⟩, hit, Nat.succ_ne_self _⟩ q)
      · cases ru
        obtain ⟨its, rv, p', hz⟩ := I1.tuple hq
        exact call_enum1 (begins_tuple p its.toArray) (show s1.heap.IsTuple p its.toArray from p') fun h' he hit hsz hk => wpAny_pyIter_enum he (fin hk turn_enumT ⟨⟨.none, he⟩, ⟨_, hit, rfl, rfl⟩, Nat.succ_ne_self _⟩ q)
      · cases ru
        obtain ⟨its, rv, p', hz⟩ := I1.list hq
        exact call_enumerate_list p'.isList fun h' he hit hsz hk => wpAny_pyIter_enum he (fin hk (turn_enum p _ _) ⟨⟨.none, he⟩, hit, Nat.succ_ne_self _⟩ q)
  refine ⟨fun pins s σ H R I h => hp.run pins s σ H R I ?_⟩
  obtain ⟨ρ, G, env, r, eo, w, G', e, f⟩ := h
  obtain ⟨⟨d, G1⟩, e1, e⟩ := Res.bind_eq e
  obtain ⟨w0, e2, e3⟩ := Option.map_eq_some_iff.mp (Res.of_eq e)
  cases e3
  refine ⟨ρ, G, env, r, eo, d, G1, e1, fun v ρ' H' x r' n => ?_⟩
  cases d with
  | tup l =>
    cases e2
    cases n with
    | tup q ds => exact .inr (.inl ⟨_, _, rfl, by rw [hX.K]; exact q, by rw [hX.K]; exact f _ _ _ x r' (wk_enT q ds)⟩)
  | str z => cases e2; cases n; exact .inl ⟨_, rfl, f _ _ _ x r' wk_enS⟩
  | ref i =>
    have e2 : (match G1[i]? with
      | some (.lst l f) => some (l, some (i, O.lst l f))
      | _ => none) = some w0 := e2
    split at e2
    · rename_i l fz hg
      cases e2
      obtain ⟨p, vs, rfl, hp, q, ds, _⟩ := r'.lst n hg
      exact .inr (.inr ⟨_, _, rfl, by rw [hX.K]; exact q, by rw [hX.K]; exact f _ _ _ x r' (wk_enL hp)⟩)
    · cases e2
  | _ => cases e2
/-! ### targets -/
mutual
def slotsT : T → List Nat
  | .slot i => [i]
  | .tup ts => slotsTs ts
def slotsTs : List T → List Nat
  | [] => []
  | t :: ts => slotsT t ++ slotsTs ts
end
/-- what a store to a target does -/
def gT (W : Wd) (t : T) : TG := fun v σ H Q => ∃ ρ G env x env', Rel W ρ G H ∧ EnvOk W ρ H σ env ∧ Dn W ρ H v x ∧ asgT t x env = some env' ∧ ∀ σ', EnvOk W ρ H σ' env' → (∀ j : Nat, j ∉ slotsT t → σ'[j]? = σ[j]?) → Q σ' H
def gTs (W : Wd) (ts : List T) : TGs := fun vs σ H Q => ∃ ρ G env xs env', Rel W ρ G H ∧ EnvOk W ρ H σ env ∧ Dns W ρ H vs xs ∧ asgTs ts xs env = some env' ∧ ∀ σ', EnvOk W ρ H σ' env' → (∀ j : Nat, j ∉ slotsTs ts → σ'[j]? = σ[j]?) → Q σ' H
theorem PG.imp {e : Expr} {t t' : TG} (h : PG X e t) (i : ∀ v σ H Q, t' v σ H Q → t v σ H Q) : PG X e t' := ⟨fun pins s σ H v u Q I r q => h.run pins s σ H v u Q I r (i v σ H Q q)⟩
theorem PGs.imp {e : List Expr} {t t' : TGs} (h : PGs X e t) (i : ∀ v σ H Q, t' v σ H Q → t v σ H Q) : PGs X e t' := ⟨fun pins s σ H v u Q I r q => h.run pins s σ H v u Q I r (i v σ H Q q)⟩
theorem ig_name {i : Nat} {x : Str} (hN : X.N.Nodup) (hi : X.N[i]? = some x) (hx : Loc X.env.scope x) (hf : X.fn x = true ∨ X.env.scope.names.lookup x = some .local) : PG X (.Name x pos) (gT W (.slot i)) := by
  refine PG.imp (pg_name hN hi hx hf) fun v σ H Q h => ?_
  obtain ⟨ρ, G, env, x, env', r, eo, n, e, q⟩ := h
  cases e
  refine q _ (eo.set n i) fun j hj => ?_
  rw [List.getElem?_set_ne]
  rintro rfl
  exact hj (by simp [slotsT])
theorem igs_nil : PGs X [] (gTs W []) := by
  refine PGs.imp pgs_nil fun vs σ H Q h => ?_
  obtain ⟨ρ, G, env, xs, env', r, eo, n, e, q⟩ := h
  cases xs with
  | nil => cases e; cases n; exact ⟨rfl, q σ eo fun _ _ => rfl⟩
  | cons _ _ => cases e
theorem igs_cons {e : Expr} {es : List Expr} {t : T} {ts : List T} (hs : noStar e = true) (h1 : PG X e (gT W t)) (h2 : PGs X es (gTs W ts)) : PGs X (e :: es) (gTs W (t :: ts)) := by
  have hh : (assignEach (e :: es) X.env).map (·.2) = assign e X.env :: (assignEach es X.env).map (·.2) := by cases e <;> first | rfl | cases hs
  refine PGs.imp (pgs_cons h1 h2 hh) fun vs σ H Q h => ?_
  obtain ⟨ρ, G, env, xs, env', r, eo, n, e, q⟩ := h
  cases n with
  | nil => cases e
  | @cons v vs d ds a b =>
    obtain ⟨env1, e1, e2⟩ := Option.bind_eq_some_iff.mp e
    refine ⟨v, vs, rfl, ρ, G, env, d, env1, r, eo, a, e1, fun σ1 eo1 f1 => ⟨ρ, G, env1, ds, env', r, eo1, b, e2, fun σ2 eo2 f2 => q σ2 eo2 fun j hj => ?_⟩⟩
    rw [slotsTs, List.mem_append, not_or] at hj
    rw [f2 j hj.2, f1 j hj.1]
theorem each_len {env : PySem.Env} : ∀ {es : List Expr}, (assignEach es env).length = es.length
  | [] => rfl
  | e :: es => by
    have h : (assignEach (e :: es) env).length = (assignEach es env).length + 1 := by cases e <;> rfl
    rw [h, each_len, List.length_cons]
theorem each_none {env : PySem.Env} : ∀ {es : List Expr}, es.all noStar = true → (assignEach es env).findIdx? (·.1) = none
  | [], _ => rfl
  | e :: es, h => by
    rw [List.all_cons, Bool.and_eq_true] at h
    have hh : assignEach (e :: es) env = (false, assign e env) :: assignEach es env := by
      have h1 := h.1
      cases e <;> first | rfl | cases h1
    rw [hh, List.findIdx?_cons, each_none h.2]
    rfl
theorem asgTs_length : ∀ {ts : List T} {xs : List D} {env env' : Env}, asgTs ts xs env = some env' → xs.length = ts.length
  | [], [], _, _, _ => rfl
  | [], _ :: _, _, _, e => by cases e
  | _ :: _, [], _, _, e => by cases e
  | t :: ts, x :: xs, _, _, e => by
    obtain ⟨env1, e1, e2⟩ := Option.bind_eq_some_iff.mp e
    rw [List.length_cons, List.length_cons, asgTs_length e2]
theorem ig_tup {es : List Expr} {ts : List T} (hX : Gx W k X) (hs : es.all noStar = true) (hl : es.length = ts.length) (h : PGs X es (gTs W ts)) : PG X (.Tuple es kk pos) (gT W (.tup ts)) := by
  refine PG.imp (pg_tup hX.calm h each_len (each_none hs)) fun v σ H Q q => ?_
  obtain ⟨ρ, G, env, x, env', r, eo, n, e, q⟩ := q
  cases x with
  | tup xs =>
    cases n with
    | tup sq ds => exact ⟨_, _, rfl, by rw [hX.K]; exact sq, by rw [ds.length, hl]; exact asgTs_length e, ρ, G, env, xs, env', r, eo, ds, e, q⟩
  | _ => cases e
end
end Fw

/-! Fw2m: list comprehensions. -/
namespace Fw
open L2 PySem PySem.Spec PyProof.Rows
variable {W : Wd}
section
variable {X : Cx} {k j : Nat} {pins : List (Addr × Obj)} {σ σ' σ2 : L2.St} {s : Shared} {ρ ρ' ρ'' : List Addr} {H H' H'' : Hp} {G : Store} {Q : V → Hp → Prop} {a b c tg : Expr} {fa fb fc : FE} {pos apos cpos tpos : Pos} {elts : List Expr} {kk : Nat}
theorem upd_self {D : Addr} {u : HO} (h : H D = some u) : upd H D u = H := by
  funext b
  by_cases e : b = D
  · subst e; rw [upd_same, h]
  · rw [upd_ne e]
/-- what was not there at first may be written -/
theorem Ex.late {D : Addr} {u o : HO} (x : Ex W ρ H ρ' H') (h0 : H D = none) (hu : H' D = some u) (n1 : ∀ vs, u ≠ .tup vs) (n2 : ∀ ob w, u ≠ .frz ob w) : Ex W ρ H ρ' (upd H' D o) :=
  ⟨x.pre, fun a vs h => SqT.upd (.inr ⟨u, hu, n1, n2⟩) (x.tup a vs h), fun a v h n => by
    have ne : a ≠ D := by rintro rfl; rw [h0] at h; cases h
    obtain ⟨h1, h2⟩ := x.off a v h n
    exact ⟨by rw [upd_ne ne]; exact h1, h2⟩⟩
theorem Ex.adopt {D : Addr} (x : Ex W ρ H ρ' H') (h0 : H D = none) : Ex W ρ H (ρ' ++ [D]) H' :=
  ⟨fun i a h => by have := x.pre i a h; rw [List.getElem?_append_left (List.getElem?_eq_some_iff.mp this).1]; exact this, x.tup, fun a v h n => by
    have ne : a ≠ D := by rintro rfl; rw [h0] at h; cases h
    obtain ⟨h1, h2⟩ := x.off a v h n
    refine ⟨h1, fun i i0 e => ?_⟩
    rcases Nat.lt_or_ge i ρ'.length with q | q
    · rw [List.getElem?_append_left q] at e; exact h2 i i0 e
    · rw [List.getElem?_append_right q] at e
      have := List.mem_of_getElem? e
      exact ne (by simpa using this)⟩
theorem wipe_get : ∀ {vs : List Nat} {j : Nat}, j ∉ vs → (L2.wipe σ vs)[j]? = σ[j]?
  | [], _, _ => rfl
  | v :: vs, j, h => by
    rw [List.mem_cons, not_or] at h
    show ((L2.wipe σ vs).set v none)[j]? = σ[j]?
    rw [List.getElem?_set_ne (fun e => h.1 e.symm), wipe_get h.2]
theorem wipe_get_in : ∀ {vs : List Nat} {j : Nat}, j ∈ vs → (L2.wipe σ vs)[j]? = if j < σ.length then some none else none
  | v :: vs, j, h => by
    show ((L2.wipe σ vs).set v none)[j]? = _
    by_cases e : v = j
    · subst e
      by_cases hl : v < σ.length
      · rw [List.getElem?_set_self (by rw [L2.wipe_length]; exact hl), if_pos hl]
      · rw [List.getElem?_eq_none (by rw [List.length_set, L2.wipe_length]; omega), if_neg hl]
    · rw [List.getElem?_set_ne e]
      rcases List.mem_cons.mp h with z | z
      · exact (e z.symm).elim
      · exact wipe_get_in z
theorem wipe_eq {vs : List Nat} (hl : σ2.length = σ.length) (h : ∀ j : Nat, j ∉ vs → σ2[j]? = σ[j]?) : L2.wipe σ2 vs = L2.wipe σ vs := by
  apply List.ext_getElem?
  intro j
  by_cases hj : j ∈ vs
  · rw [wipe_get_in hj, wipe_get_in hj, hl]
  · rw [wipe_get hj, wipe_get hj, h j hj]
mutual
theorem asgT_length : ∀ {t : T} {d : D} {env env2 : Env}, asgT t d env = some env2 → env2.length = env.length
  | .slot i, d, env, env2, e => by cases e; rw [List.length_set]
  | .tup ts, .tup ds, env, env2, e => asgTs_len (ts := ts) e
  | .tup _, .non, _, _, e => by cases e
  | .tup _, .bl _, _, _, e => by cases e
  | .tup _, .int _, _, _, e => by cases e
  | .tup _, .str _, _, _, e => by cases e
  | .tup _, .ref _, _, _, e => by cases e
theorem asgTs_len : ∀ {ts : List T} {ds : List D} {env env2 : Env}, asgTs ts ds env = some env2 → env2.length = env.length
  | [], [], _, _, e => by cases e; rfl
  | [], _ :: _, _, _, e => by cases e
  | _ :: _, [], _, _, e => by cases e
  | t :: ts, d :: ds, env, env2, e => by
    obtain ⟨env1, e1, e2⟩ := Option.bind_eq_some_iff.mp e
    rw [asgTs_len e2, asgT_length e1]
end
theorem lcL_cons {c c' : Option (Nat × O)} {f : D → Store → Res (Option D × Store)} {x : D} {xs : List D} {z : List D × Store} (h : lcL c c' f (x :: xs) G = .ok z) : chk c G = true ∧ chk c' G = true ∧ ∃ o G1 l, f x G = .ok (o, G1) ∧ lcL c c' f xs G1 = .ok (l, z.2) ∧ z.1 = o.toList ++ l := by
  unfold lcL at h
  obtain ⟨h0, h⟩ := must_eq h
  rw [Bool.and_eq_true] at h0
  obtain ⟨⟨o, G1⟩, e1, h⟩ := Res.bind_eq h
  obtain ⟨⟨l, G2⟩, e2, h⟩ := Res.bind_eq h
  cases h
  exact ⟨h0.1, h0.2, o, G1, l, e1, e2, rfl⟩
theorem lcL_nil {c c' : Option (Nat × O)} {f : D → Store → Res (Option D × Store)} {z : List D × Store} (h : lcL c c' f [] G = .ok z) : chk c G = true ∧ chk c' G = true ∧ z = ([], G) := by
  unfold lcL at h
  obtain ⟨h0, h⟩ := must_eq h
  rw [Bool.and_eq_true] at h0
  cases h
  exact ⟨h0.1, h0.2, rfl⟩
def noSet : Expr → Bool
  | .Set .. => false
  | _ => true
theorem folded {env : PySem.Env} (h : noSet a = true) : ∀ x, foldedSetIterable a env x = pure x := by
  intro x
  cases a <;> first | rfl | cases h
/-- the tests of a clause -/
def IsBs (W : Wd) (X : Cx) (ifs : List Expr) (f : Env → Store → Res (Bool × Store)) : Prop := PTs X ifs (rB W f)
theorem ibs_nil : IsBs W X [] (fun _ G => .ok (true, G)) := by
  refine ⟨fun pins s σ H Q I h => (pts_nil (X := X)).run pins s σ H Q I ?_⟩
  obtain ⟨ρ, G, env, r, eo, f⟩ := h
  exact f.use Ex.refl r
theorem ibs_one {f : Env → Store → Res (Bool × Store)} (h : IsB W X a f) : IsBs W X [a] (fun env G => (f env G).bind fun x => match x.1 with
    | true => .ok (true, x.2)
    | false => .ok (false, x.2)) := by
  refine ⟨fun pins s σ H Q I q => (pts_one h).run pins s σ H Q I ?_⟩
  obtain ⟨ρ, G, env, r, eo, q⟩ := q
  refine ⟨ρ, G, env, r, eo, q.seqB fun d G1 ρ1 H1 x1 r1 f1 => ?_⟩
  cases d <;> exact f1.use Ex.refl r1
/-- one turn of a list comprehension -/
def lcStep (t : T) (fB : Env → Store → Res (Bool × Store)) (fE : FE) (own : List Nat) (env : Env) (d : D) (G : Store) : Res (Option D × Store) := match asgT t d (Fw.wipe env own) with
  | some e2 => (fB e2 G).bind fun b => (match b.1 with
    | true => (fE e2 b.2).bind fun v => .ok (some v.1, v.2)
    | false => .ok (none, b.2))
  | none => .stuck
theorem lc_reads {t : T} {fI : Env → Store → Res (Wk × Store)} {fB : Env → Store → Res (Bool × Store)} {fE : FE} {own : List Nat} (hsl : ∀ j ∈ slotsT t, j ∈ own)
    (h : rE W (fun env G => (fI env G).bind fun w => (lcL w.1.2.1 w.1.2.2 (lcStep t fB fE own env) w.1.1 w.2).bind fun q => mkL q.1 q.2) σ H Q) : tLc (rI W fI) (gT W t) (rB W fB) (rE W fE) own σ H Q := by
  obtain ⟨ρ, G, env, r, eo, f⟩ := h
  obtain ⟨⟨w, G1⟩, e1, f⟩ := f.bind
  refine ⟨ρ, G, env, r, eo, w, G1, e1, fun ρ1 H1 J x1 r1 wk Da hD => ?_⟩
  have eo1 := eo.ex x1
  have f := f.ex x1
  obtain ⟨⟨ds, G2⟩, e2, f⟩ := f.bind
  obtain ⟨hlim, f⟩ := f.must
  have hlim := of_decide_eq_true hlim
  refine ⟨fun i m H => m = w.1.length - i ∧ i ≤ w.1.length ∧ ∃ (ρ : List Addr) (G : Store) (acc : List V) (l1 l2 : List D), Ex W ρ1 H1 ρ H ∧ Rel W ρ G H ∧ H Da = some (.lst acc) ∧ Off ρ Da ∧ Dns W ρ H acc l1 ∧ lcL w.2.1 w.2.2 (lcStep t fB fE own env) (w.1.drop i) G = .ok (l2, G2) ∧ ds = l1 ++ l2,
    ⟨w.1.length, by simp, Nat.zero_le _, ρ1, G1, [], [], ds, Ex.newT hD, r1.newT hD, upd_same, r1.no hD, .nil, by simpa using e2, rfl⟩, ?_⟩
  rintro i m H5 ⟨rfl, hi, ρ5, G5, acc, l1, l2, x5, r5, hD5, off5, ds5, e5, eds⟩
  by_cases hlt : i < w.1.length
  · have hdrop : w.1.drop i = w.1[i] :: w.1.drop (i + 1) := List.drop_eq_getElem_cons hlt
    rw [hdrop] at e5
    obtain ⟨c1, c2, o, G6, l3, e6, e7, e8⟩ := lcL_cons e5
    have e8 : l2 = o.toList ++ l3 := e8
    have hlim : ds.length ≤ lim := hlim
    have e7 : lcL w.2.1 w.2.2 (lcStep t fB fE own env) (w.1.drop (i + 1)) G6 = .ok (l3, G2) := e7
    refine .inr ⟨wk.goes i ρ5 G5 H5 hlt x5 r5 c1 c2, _, fun H' nx => ⟨w.1.length - (i + 1), by omega, rfl, hlt, nx⟩, fun x H' y => ?_⟩
    obtain ⟨x6, r6, d, ed, nd⟩ := wk.yields i ρ5 G5 H5 x H' hlt x5 r5 c1 c2 y
    rw [List.getElem?_eq_getElem hlt] at ed
    cases ed
    obtain ⟨hD6, off6⟩ := x6.off Da _ hD5 off5
    have x56 := x5.trans x6
    unfold lcStep at e6
    split at e6
    · rename_i env2 ea
      obtain ⟨⟨bv, G7⟩, e9, e6⟩ := Res.bind_eq e6
      refine ⟨ρ5, G5, Fw.wipe env own, w.1[i], env2, r6, (eo1.ex x56).wipe own, nd, ea, fun σ2 eo2 same => ⟨?_, ρ5, G5, env2, r6, eo2, bv, G7, e9, fun ρ7 H7 x7 r7 => ?_⟩⟩
      · have hl : σ2.length = (L2.wipe σ own).length := by
          have h1 := eo2.1
          have h2 := ((eo1.ex x56).wipe own).1
          have h3 : env2.length = (Fw.wipe env own).length := asgT_length ea
          rw [h1, h2, h3]
        rw [wipe_eq (vs := own) hl fun j hj => same j fun z => hj (hsl j z)]
        exact wipe_eq (L2.wipe_length σ own) fun j hj => wipe_get hj
      · obtain ⟨hD7, off7⟩ := x7.off Da _ hD6 off6
        have x57 := x56.trans x7
        cases bv with
        | false =>
          cases e6
          rw [if_neg (by decide)]
          exact ⟨ρ7, _, acc, l1, l3, x57, r7, hD7, off7, (ds5.ex x6).ex x7, e7, by rw [eds, e8]; rfl⟩
        | true =>
          obtain ⟨⟨v, G8⟩, e10, e6⟩ := Res.bind_eq e6
          cases e6
          rw [if_pos rfl]
          refine ⟨ρ7, _, env2, r7, eo2.ex x7, v, G8, e10, fun y ρ8 H8 x8 r8 n8 => ⟨acc, (x8.off Da _ hD7 off7).1, ?_, ?_⟩⟩
          · have hl : acc.length = l1.length := ds5.length
            have : ds.length ≤ lim := hlim
            rw [eds, e8, List.length_append] at this
            simp at this
            rw [lim_eq]
            omega
          · obtain ⟨hD8, off8⟩ := x8.off Da _ hD7 off7
            obtain ⟨r9, keep⟩ := r8.apart (ho := .lst (acc ++ [y])) off8 hD8 (fun vs z => by cases z) (fun ob w z => by cases z)
            have nsk : ∀ {vs : List V} {xs : List D}, Dns W ρ8 H8 vs xs → Dns W ρ8 (upd H8 Da (.lst (acc ++ [y]))) vs xs := fun h => h.pl (fun _ _ h => h) fun a vs h => SqT.upd (.inr ⟨_, hD8, (fun vs z => by cases z), fun ob w z => by cases z⟩) h
            exact ⟨ρ8, G8, acc ++ [y], l1 ++ [v], l3, (x57.trans x8).late hD hD8 (fun vs z => by cases z) (fun ob w z => by cases z), r9, upd_same, off8, nsk ((((ds5.ex x6).ex x7).ex x8).app (.cons n8 .nil)), e7, by rw [eds, e8]; simp⟩
    · cases e6
  · have e : i = w.1.length := by omega
    subst e
    rw [List.drop_length] at e5
    obtain ⟨c1, c2, ez⟩ := lcL_nil e5
    cases ez
    refine .inl ⟨wk.stops ρ5 _ H5 x5 r5 c1 c2, ?_⟩
    have el : ds = l1 := by rw [eds]; simp
    subst el
    have r6 := r5.adopt (o := .lst ds false) (ho := .lst acc) off5 hD5 (fun vs z => by cases z) (fun ob w z => by cases z) (fun l z => by cases z) ⟨acc, by
      rw [upd_self hD5]
      exact ds5.pl (fun i a h => by rw [List.getElem?_append_left (List.getElem?_eq_some_iff.mp h).1]; exact h) fun _ _ h => h, .inr ⟨rfl, upd_same⟩⟩
    rw [upd_self hD5] at r6
    exact f.use (x5.adopt hD) r6 (.ref (by rw [← r5.len]; simp))
end
end Fw

/-! Fw2n: dict comprehensions with keys of either sort; dict displays. -/
namespace Fw
open L2 PySem PySem.Spec PyProof.Rows
variable {W : Wd}
section
variable {X : Cx} {k j : Nat} {pins : List (Addr × Obj)} {σ σ' σ2 : L2.St} {s : Shared} {ρ ρ' ρ'' : List Addr} {H H' H'' : Hp} {G : Store} {Q : V → Hp → Prop} {a b c tg : Expr} {fa fb fc : FE} {pos apos cpos tpos : Pos} {elts : List Expr} {kk : Nat} {kvs : List (D × D)} {da : Addr}
/-- a dict that the row need not know is written -/
theorem dg_dset {E : Value → Shared → Prop} {R : Unit → Shared → Prop} {v y : V} {u w : Value} {d e : D} {q : NestedKey} (I : Inv X pins σ H s) (hX : Gx W k X) (ok : OOk W ρ H da (.dct kvs)) (kf : keyFor kvs d = some q) (n1 : Dn W ρ H v d) (ru : RelV v u) (n2 : Dn W ρ H y e) (rw' : RelV y w)
    (hl : kvs.length < lim) (h : ∀ s' ho, Inv X pins σ (upd H da ho) s' → (∃ u, H da = some u ∧ (∀ vs, u ≠ .tup vs) ∧ ∀ ob w, u ≠ .frz ob w) → OOk W ρ (upd H da ho) da (.dct (Fw.putK q d e kvs)) → R () s') : wpAny (model X.prog X.w) X.A (dictSet da u w) R E s := by
  obtain ⟨f1, f2, f3, f4⟩ := keyFor_eq kf
  have nd := put_nodup (v := e) f4 ok.1
  cases tp : isTup d with
  | true =>
    obtain ⟨xs, us, t⟩ := td_at I hX ok fun kv hkv => (f2 kv hkv).trans tp
    obtain ⟨b, rfl, ki⟩ := TD.key I hX f4 f3 tp n1
    cases ru
    have lx : xs.length = kvs.length := Paired.length t.t
    have hu8 : (nestedKind X.prog X.w).room X.A := by
      have := hX.room.un
      show X.A.units + 8 < cLine
      omega
    refine wpAny_dictSet_heap (hsz := by rw [t.e.length]; exact t.len) hu8 ki t.d fun h' dd' hs => ?_
    obtain ⟨u0, z1, z2, z3, z4⟩ := t.was
    have he : ∃ q, h'.get? da = some q := let ⟨q, _, _, hq, _⟩ := dd'; ⟨q, hq⟩
    have ll : (stV xs q b y).length ≤ sizeLine := by have := stV_len (xs := xs) (q := q) (b := b) (y := y); rw [lim_eq]; omega
    have I' := d_write (t' := s.toks + (nestedKind X.prog X.w).draws q) I (by rw [z1]; exact z4) hs he (dctO_new (H' := upd H da (dctO W da (stV xs q b y))) hX.w t.sys ll (t.e.st q b rw') dd')
    have pl : ∀ {v d}, Dn W ρ H v d → Dn W ρ (upd H da (dctO W da (stV xs q b y))) v d := fun h => h.pl (fun _ _ h => h) fun a vs h => SqT.upd (.inr ⟨_, z1, z2, z3⟩) h
    exact h _ _ I' ⟨_, z1, z2, z3⟩ ⟨nd, .inr ⟨_, stV_ne, upd_same, Paired.mapP (t.t.put n1 f4 f3 tp n2) fun _ _ q => ⟨q.1, q.2.1, q.2.2.1, pl q.2.2.2.1, pl q.2.2.2.2⟩⟩⟩
  | false =>
    obtain ⟨xs, h1, h2⟩ := kd_at ok fun kv hkv => (f2 kv hkv).trans tp
    obtain ⟨c, rfl⟩ := flat_of f1 tp
    rw [keyOf_flat] at f4; cases f4
    rw [n1.key] at ru
    have lx : xs.length = kvs.length := Paired.length h2
    have n0 : (∀ vs, HO.dK xs ≠ .tup vs) ∧ ∀ ob w, HO.dK xs ≠ .frz ob w := ⟨fun vs z => (by cases z), fun ob w z => by cases z⟩
    have pl : ∀ {v d}, Dn W ρ H v d → Dn W ρ (upd H da (.dK (L2.putK xs c y))) v d := fun h => h.pl (fun _ _ h => h) fun a vs h => SqT.upd (.inr ⟨_, h1, n0⟩) h
    exact d_dictSet I h1 (by rw [lim_eq]; omega) ru rw' fun s' I' => h s' _ I' ⟨_, h1, n0⟩ ⟨nd, .inl ⟨_, upd_same, Paired.mapP (h2.put c n2) fun _ _ q => ⟨q.1, pl q.2⟩⟩⟩
/-! ### a dict comprehension, the store of a pair left open -/
/-- what putting y: z into the dict at D does -/
abbrev TPut := Addr → V → V → Hp → (Hp → Prop) → Prop
def tDcG (put : TPut) (wi : TI) (g : TG) (tt : TT) (tk tv : TE) (vs : List Nat) : TE := fun σ H Q => wi σ H fun J H1 => ∀ da, H1 da = none → ∃ Wm : Nat → Nat → Hp → Prop, (∃ m, Wm 0 m (upd H1 da (.dK []))) ∧ ∀ i m H, Wm i m H →
  (J.stop i H ∧ Q (.ref da) H) ∨ (J.go i H ∧ ∃ Nx : Hp → Prop, (∀ H', Nx H' → ∃ m', m' < m ∧ Wm (i + 1) m' H') ∧ ∀ x H', J.yld i H x H' → g x (L2.wipe σ vs) H' fun σ2 H2 => L2.wipe σ2 vs = L2.wipe σ vs ∧ tt σ2 H2 fun b H3 =>
    if b = true then tk σ2 H3 fun y H4 => tv σ2 H4 fun z H5 => put da y z H5 Nx else Nx H3)
theorem dcG_core {put : TPut} {kx vx tg iter : Expr} {ifs : List Expr} {scope : Scope} {own : List (Str × Nat)} {pos : Pos} {wi : TI} {g : TG} {tt : TT} {tk tv : TE} {pos' : Pos} {use : Option (Value → Sem Unit)} {Qf : Value → Shared → Prop}
    (hput : ∀ (X' : Cx) (pins : List (Addr × Obj)) (σ : L2.St) (H : Hp) (s : Shared) (da : Addr) (y z : V) (u r : Value) (N : Hp → Prop) (E : Value → Shared → Prop), Gx W k X' → Inv X' pins σ H s → RelV y u → RelV z r → put da y z H N → wpAny (model X'.prog X'.w) X'.A (dictSet da u r) (fun _ s' => ∃ H', Inv X' pins σ H' s' ∧ N H') E s)
    (hX : Gx W k X) (hi : PI X tg iter wi) (ok : BlkOk X.N X.env.scope scope own)
    (hg : ∀ (s : Shared) (H : Hp) (C : Addr) (cl : List (Str × Addr)) (fp : List Addr), PG (X.blk s H scope (compEnvC scope cl C X.env) fp) tg g) (ht : ∀ (s : Shared) (H : Hp) (C : Addr) (cl : List (Str × Addr)) (fp : List Addr), PTs (X.blk s H scope (compEnvC scope cl C X.env) fp) ifs tt)
    (hk : ∀ (s : Shared) (H : Hp) (C : Addr) (cl : List (Str × Addr)) (fp : List Addr), PE (X.blk s H scope (compEnvC scope cl C X.env) fp) kx tk)
    (he : ∀ (s : Shared) (H : Hp) (C : Addr) (cl : List (Str × Addr)) (fp : List Addr), PE (X.blk s H scope (compEnvC scope cl C X.env) fp) vx tv) (hs : ∀ x, foldedSetIterable iter X.env x = pure x)
    (I : Inv X pins σ H s) (h : tDcG put wi g tt tk tv (own.map (·.2)) σ H Q)
    (hRR : ∀ da C s' m H', Inv X pins σ H' s' → Q (.ref da) H' → s'.heap.Ns C m → FpOk X pins H' C → compPost (model X.prog X.w) X.A X.xe use Qf (.ref da) C (.ok .next) s') :
    wpAny (model X.prog X.w) X.A (comprehension (.DictComp kx vx [⟨tg, iter, ifs, 0⟩] scope pos) scope X.env pos' newDict false (eval iter X.env) use) Qf X.xe s := by
  have hc := hX.calm
  have hN := hX.nd
  have cells : ∀ y ∈ scope.names, y.2 = .free → ∃ c, X.env.cells.lookup y.1 = some c := fun y hy e => (ok.free y hy e).elim (fun k => I.ok.has _ (.inl k)) fun k => I.ok.has _ (.inr k)
  refine wpAny_comprehension_free (use := use) rfl hs (closure_ok cells) ok.kind (fun y hy e => by rw [ok.uniq y hy, e]) (thn (hi.run pins s σ H _ I h) fun xv s1 hx => thn hx fun itv s2 h2 => ?_)
  obtain ⟨it, fp, tn, J, H2, e, I2, T, st2, f2, q⟩ := h2
  subst e
  refine wpAny_newObj_type (newEnv_comp ?_)
  have hDn : H2 s2.heap.objs.size = none := I2.hok.fresh (Nat.le_refl _)
  obtain ⟨Wm, ⟨m0, w0⟩, turn⟩ := q _ hDn
  -- the dict is there
  have I3 : Inv X pins σ (upd H2 s2.heap.objs.size (.dK [])) { s2 with heap := s2.heap.push { cls := .type "dict", data := .dict #[] } } :=
    I2.laid (t' := s2.toks) (fun b o e => Heap.get?_push_of_some _ e) (Nat.le_refl _) (dk_empty s2.heap I2.big)
  have f3 : ∀ b ∈ fp, FpOk X pins (upd H2 s2.heap.objs.size (.dK [])) b ∧ b < (s2.heap.push { cls := .type "dict", data := .dict #[] }).objs.size := fun b hb => by
    obtain ⟨o, e, _⟩ := T.obj _ _ st2 b hb
    have hlt := Heap.lt_size e
    exact ⟨⟨by rw [upd_ne (Nat.ne_of_lt hlt)]; exact (f2 b hb).1, (f2 b hb).2⟩, by rw [Heap.size_push]; exact Nat.lt_succ_of_lt hlt⟩
  have st3 : tn 0 (s2.heap.push { cls := .type "dict", data := .dict #[] }) := T.keep _ _ _ st2 fun b _ o e => Heap.get?_push_of_some _ e
  generalize hs3 : ({ s2 with heap := s2.heap.push { cls := .type "dict", data := .dict #[] } } : Shared) = s3 at I3
  generalize hda : s2.heap.objs.size = da at *
  have h3 : s3.heap = s2.heap.push { cls := .type "dict", data := .dict #[] } := by rw [← hs3]
  rw [← h3] at f3 st3
  have I4 := block_start I3 ok hN f3
  have pg := hg s3 (upd H2 da (.dK [])) s3.heap.objs.size (cellsFrom (s3.heap.objs.size + 1) scope.names (cloFrom X.env.cells scope.names [])) fp
  have pt := ht s3 (upd H2 da (.dK [])) s3.heap.objs.size (cellsFrom (s3.heap.objs.size + 1) scope.names (cloFrom X.env.cells scope.names [])) fp
  have pk := hk s3 (upd H2 da (.dK [])) s3.heap.objs.size (cellsFrom (s3.heap.objs.size + 1) scope.names (cloFrom X.env.cells scope.names [])) fp
  have pv := he s3 (upd H2 da (.dK [])) s3.heap.objs.size (cellsFrom (s3.heap.objs.size + 1) scope.names (cloFrom X.env.cells scope.names [])) fp
  show codeAny _ _ (.compStart (.DictComp kx vx [⟨tg, iter, ifs, 0⟩] scope pos) 0 (.ref it) (.ref da) (compEnvC scope (cellsFrom (s3.heap.objs.size + 1) scope.names (cloFrom X.env.cells scope.names [])) s3.heap.objs.size X.env)) (compPost (model X.prog X.w) X.A X.xe use Qf (.ref da) s3.heap.objs.size) { s3 with heap := pushCells (s3.heap.push { cls := .type "dict", data := .dict #[] }) scope.names }
  have nfp : ∀ b ∈ fp, (upd H2 da (.dK [])) b = none := fun b hb => (f3 b hb).1.1
  have hXb : Gx W k (X.blk s3 (upd H2 da (.dK [])) scope (compEnvC scope (cellsFrom (s3.heap.objs.size + 1) scope.names (cloFrom X.env.cells scope.names [])) s3.heap.objs.size X.env) fp) :=
    ⟨hX.prog, hX.w, hX.K, hX.mg, hX.base, hX.calm, hX.nd, hX.gs, hX.room, rfl⟩
  generalize hce : compEnvC scope (cellsFrom (s3.heap.objs.size + 1) scope.names (cloFrom X.env.cells scope.names [])) s3.heap.objs.size X.env = ce at I4 pg pt pk pv hXb ⊢
  have cL : ce.locals = s3.heap.objs.size := by subst hce; rfl
  generalize hH3 : upd H2 da (.dK []) = H3 at I3 I4 pg pt pk pv w0 nfp f3 hXb
  have st4 : tn 0 (pushCells (s3.heap.push { cls := .type "dict", data := .dict #[] }) scope.names) := T.keep _ _ _ st3 fun b _ o e => pushCells_keeps _ _ _ _ (Heap.get?_push_of_some _ e)
  have fpB : ∀ {σ' : L2.St} {H' : Hp} {s' : Shared}, Inv (X.blk s3 H3 scope ce fp) [] σ' H' s' → (∀ b ∈ fp, H' b = none) → ∀ b ∈ fp, FpOk (X.blk s3 H3 scope ce fp) [] H' b := fun {σ' H' s'} I' hn b hb =>
    ⟨hn b hb, (I'.ok.exf b hb).1, I'.ok.exfs b hb, .inl hb, fun x c e => (I'.ok.exf b hb).2 x c e, fun p hp => absurd (show p ∈ ([] : List (Addr × Obj)) ++ [] from hp) (by simp)⟩
  have loop : codeAny (model X.prog X.w) X.A (.compLoop (.DictComp kx vx [⟨tg, iter, ifs, 0⟩] scope pos) 0 (.ref it) (.ref da) ce) (compPost (model X.prog X.w) X.A X.xe use Qf (.ref da) s3.heap.objs.size) { s3 with heap := pushCells (s3.heap.push { cls := .type "dict", data := .dict #[] }) scope.names } := by
    refine compLoop_anyD (fun n s' => ∃ i H', Inv (X.blk s3 H3 scope ce fp) [] (L2.wipe σ (own.map (·.2))) H' s' ∧ tn i s'.heap ∧ (∀ b ∈ fp, H' b = none) ∧ Wm i n H') ?_ m0 ⟨0, H3, I4, st4, nfp, w0⟩
    rintro n s5 ⟨i, H5, I5, st5, n5, w5⟩
    rcases turn i n H5 w5 with ⟨stop, qq⟩ | ⟨go, Nx, hNx, step⟩
    · refine thnF (T.done (X.blk s3 H3 scope ce fp) rfl rfl rfl hc i [] s5 _ H5 (fun _ _ => False) I5 (fpB I5 n5) st5 stop) fun r s6 ⟨hr, I6⟩ => ?_
      subst hr
      have I7 : Inv X pins σ H5 s6 := I3.call' (ch := fp) I6.os I6.base I6.hok I6.bare fun b hb => ⟨(f3 b hb).1.2.2.2.1, (f3 b hb).1.2.1, (f3 b hb).1.2.2.2.2.1, (f3 b hb).1.2.2.2.2.2⟩
      have nC : H5 s3.heap.objs.size = none := by rw [← cL]; exact I6.free
      obtain ⟨m, hn, _⟩ := I6.loc
      exact hRR da s3.heap.objs.size s6 m H5 I7 qq (by rw [← cL]; exact hn) (I3.fpOk (Nat.le_refl _) nC)
    · refine thnF (T.item (X.blk s3 H3 scope ce fp) rfl rfl rfl hc i [] s5 _ H5 (fun _ _ => False) I5 (fpB I5 n5) st5 go) fun r s6 ⟨u, hr, h6⟩ => ?_
      subst hr
      refine thnF h6 fun _ s7 ⟨x, H7, I7, r7, y7, st7, n7⟩ => ?_
      refine thnF (pg.run _ s7 _ H7 x u _ (I7.pinned (fpB I7 n7) (T.obj _ _ st7)) r7 (step x H7 y7)) fun _ s8 ⟨σ8, H8, I8, hw8, q8⟩ => ?_
      refine thnF (pt.run _ s8 σ8 H8 _ I8 q8) fun b s9 ⟨H9, I9, q9⟩ => ?_
      have fin : ∀ {s' : Shared} {H' : Hp}, Inv (X.blk s3 H3 scope ce fp) ([] ++ pinsAt fp s7.heap) σ8 H' s' → Nx H' → ∃ m, m < n ∧ ∃ i H', Inv (X.blk s3 H3 scope ce fp) [] (L2.wipe σ (own.map (·.2))) H' s' ∧ tn i s'.heap ∧ (∀ b ∈ fp, H' b = none) ∧ Wm i m H' := fun {s' H'} I' nx => by
        obtain ⟨m', hm, w'⟩ := hNx H' nx
        have stay : ∀ b ∈ fp, ∀ o, s7.heap.get? b = some o → s'.heap.get? b = some o ∧ H' b = none := fun b hb o e =>
          let z := I'.pin (b, o) (List.mem_append_right _ (List.mem_append_right _ (mem_pinsAt hb e)))
          ⟨z.1, z.2.1⟩
        refine ⟨m', hm, i + 1, H', (I'.unpinned (pins := [])).weak (by rw [← hw8, L2.wipe_length]) (fun j v e => ?_), T.keep _ _ _ st7 fun b hb o e => (stay b hb o e).1, fun b hb => ?_, w'⟩
        · rw [← hw8] at e
          exact (wipe_some e).1
        · obtain ⟨o, e, _⟩ := T.obj _ _ st7 b hb
          exact (stay b hb o e).2
      cases b with
      | false =>
        simp only [Bool.false_eq_true, if_false] at q9 ⊢
        exact fin I9 q9
      | true =>
        simp only [if_true] at q9 ⊢
        refine thnF (pk.run _ s9 σ8 H9 _ I9 q9) fun z s10 ⟨yk, H10, I10, r10, q10⟩ => ?_
        refine thnF (pv.run _ s10 σ8 H10 _ I10 q10) fun z2 s11 ⟨yv, H11, I11, r11, q11⟩ => ?_
        exact wpAny_mono (hput (X.blk s3 H3 scope ce fp) _ _ _ s11 da yk yv z z2 Nx _ hXb I11 r10 r11 q11) (fun _ s12 ⟨H12, I12, nx⟩ => fin I12 nx) fun _ _ z => z
  exact codeAny_compStart_dict loop (T.self X.A 0 _ _ _ st4 loop)

theorem pe_dcG {put : TPut} {kx vx tg iter : Expr} {ifs : List Expr} {scope : Scope} {own : List (Str × Nat)} {pos : Pos} {wi : TI} {g : TG} {tt : TT} {tk tv : TE}
    (hput : ∀ (X' : Cx) (pins : List (Addr × Obj)) (σ : L2.St) (H : Hp) (s : Shared) (da : Addr) (y z : V) (u r : Value) (N : Hp → Prop) (E : Value → Shared → Prop), Gx W k X' → Inv X' pins σ H s → RelV y u → RelV z r → put da y z H N → wpAny (model X'.prog X'.w) X'.A (dictSet da u r) (fun _ s' => ∃ H', Inv X' pins σ H' s' ∧ N H') E s)
    (hX : Gx W k X) (hi : PI X tg iter wi) (ok : BlkOk X.N X.env.scope scope own)
    (hg : ∀ (s : Shared) (H : Hp) (C : Addr) (cl : List (Str × Addr)) (fp : List Addr), PG (X.blk s H scope (compEnvC scope cl C X.env) fp) tg g) (ht : ∀ (s : Shared) (H : Hp) (C : Addr) (cl : List (Str × Addr)) (fp : List Addr), PTs (X.blk s H scope (compEnvC scope cl C X.env) fp) ifs tt)
    (hk : ∀ (s : Shared) (H : Hp) (C : Addr) (cl : List (Str × Addr)) (fp : List Addr), PE (X.blk s H scope (compEnvC scope cl C X.env) fp) kx tk)
    (he : ∀ (s : Shared) (H : Hp) (C : Addr) (cl : List (Str × Addr)) (fp : List Addr), PE (X.blk s H scope (compEnvC scope cl C X.env) fp) vx tv) (hs : ∀ x, foldedSetIterable iter X.env x = pure x) :
    PE X (.DictComp kx vx [⟨tg, iter, ifs, 0⟩] scope pos) (tDcG put wi g tt tk tv (own.map (·.2))) := by
  refine ⟨fun pins s σ H Q I h => ?_⟩
  rw [arm_eval_DictComp]
  refine dcG_core hput hX hi ok hg ht hk he hs I h fun da C s' m H' I' q hn f => ⟨m, hn, fun h'' sb => ?_⟩
  obtain ⟨g0, g1, g2, g3, g4, g5⟩ := f
  exact ⟨.ref da, H', I'.turned (t' := s'.toks) (fun b o hb e => (sb.2 b hb).trans e) g0 g1 g3 g4 g5, rfl, q⟩
theorem ps_setDcG {i : Nat} {y : Str} {py : Pos} {spos : Pos} {put : TPut} {kx vx tg iter : Expr} {ifs : List Expr} {scope : Scope} {own : List (Str × Nat)} {pos : Pos} {wi : TI} {g : TG} {tt : TT} {tk tv : TE}
    (hput : ∀ (X' : Cx) (pins : List (Addr × Obj)) (σ : L2.St) (H : Hp) (s : Shared) (da : Addr) (y z : V) (u r : Value) (N : Hp → Prop) (E : Value → Shared → Prop), Gx W k X' → Inv X' pins σ H s → RelV y u → RelV z r → put da y z H N → wpAny (model X'.prog X'.w) X'.A (dictSet da u r) (fun _ s' => ∃ H', Inv X' pins σ H' s' ∧ N H') E s)
    (hX : Gx W k X) (hi : PI X tg iter wi) (ok : BlkOk X.N X.env.scope scope own)
    (hg : ∀ (s : Shared) (H : Hp) (C : Addr) (cl : List (Str × Addr)) (fp : List Addr), PG (X.blk s H scope (compEnvC scope cl C X.env) fp) tg g) (ht : ∀ (s : Shared) (H : Hp) (C : Addr) (cl : List (Str × Addr)) (fp : List Addr), PTs (X.blk s H scope (compEnvC scope cl C X.env) fp) ifs tt)
    (hk : ∀ (s : Shared) (H : Hp) (C : Addr) (cl : List (Str × Addr)) (fp : List Addr), PE (X.blk s H scope (compEnvC scope cl C X.env) fp) kx tk)
    (he : ∀ (s : Shared) (H : Hp) (C : Addr) (cl : List (Str × Addr)) (fp : List Addr), PE (X.blk s H scope (compEnvC scope cl C X.env) fp) vx tv) (hs : ∀ x, foldedSetIterable iter X.env x = pure x)
    (hy : X.N[i]? = some y) (hyl : X.env.scope.names.lookup y = some .local) (hsw : swapsWith (.DictComp kx vx [⟨tg, iter, ifs, 0⟩] scope pos) (some (.Name y py)) spos.line X.env = pure true) :
    PS X (.Assign [.Name y py] (.DictComp kx vx [⟨tg, iter, ifs, 0⟩] scope pos) spos) (tAsg (tDcG put wi g tt tk tv (own.map (·.2))) (gName i)) := by
  refine ⟨fun pins s σ H D I h => ?_⟩
  rw [exec_Assign_Name_used _ _ _ _ hsw]
  refine wpAny_bind (wpAny_standAt (wpAny_bind ?_))
  show wpAny _ X.A (do let _ ← comprehension (.DictComp kx vx [⟨tg, iter, ifs, 0⟩] scope pos) scope X.env (firstIterPos [⟨tg, iter, ifs, 0⟩] pos) newDict false (eval iter X.env) (some (assign (.Name y py) X.env))) _ _ s
  have h : tDcG put wi g tt tk tv (own.map (·.2)) σ H (fun x H1 => gName i x σ H1 D.nx) := h
  refine wpAny_bind (thn (dcG_core (Qf := fun _ s' => SP X pins D .next s') hput hX hi ok hg ht hk he hs I h fun L C s' m H' I' q hn f => ?_) fun _ s' hq => wpAny_pure (wpAny_pure hq))
  show wpAny _ _ (assign (.Name y py) X.env (.ref L)) _ _ _
  refine wpAny_assign_Name (store_ok2 (v := V.ref L) I' hX.nd hy (.inl hyl) rfl (fun s2 I2 ⟨a, sb, ha⟩ => ?_) (.inr hyl))
  obtain ⟨g0, g1, g2, g3, g4, g5⟩ := f
  have haC : C ≠ a := by
    rcases ha with z | z
    · rw [z]; exact g1
    · exact fun e => g4 y a z e.symm
  refine ⟨m, hn.sameBut sb haC, fun h3 sb3 => ?_⟩
  exact ⟨_, H', I2.turned (t' := s2.toks) (fun b o hb e => (sb3.2 b hb).trans e) g0 g1 g3 g4 g5, q⟩
/-- one turn of a dict comprehension -/
def dcStep (t : T) (fB : Env → Store → Res (Bool × Store)) (fK fV : FE) (own : List Nat) (env : Env) (d : D) (G : Store) : Res (Option (D × D) × Store) := match asgT t d (Fw.wipe env own) with
  | some e2 => (fB e2 G).bind fun b => (match b.1 with
    | true => (fK e2 b.2).bind fun x => (fV e2 x.2).bind fun y => .ok (some (x.1, y.1), y.2)
    | false => .ok (none, b.2))
  | none => .stuck
theorem dcL_cons {c c' : Option (Nat × O)} {f : D → Store → Res (Option (D × D) × Store)} {x : D} {xs : List D} {z : List (D × D) × Store} (h : dcL c c' f (x :: xs) kvs G = .ok z) : chk c G = true ∧ chk c' G = true ∧ ∃ o G1, f x G = .ok (o, G1) ∧
    ((o = none ∧ dcL c c' f xs kvs G1 = .ok z) ∨ ∃ k v q, o = some (k, v) ∧ kvs.length < lim ∧ keyFor kvs k = some q ∧ dcL c c' f xs (Fw.putK q k v kvs) G1 = .ok z) := by
  unfold dcL at h
  obtain ⟨h0, h⟩ := must_eq h
  rw [Bool.and_eq_true] at h0
  obtain ⟨⟨o, G1⟩, e1, h⟩ := Res.bind_eq h
  refine ⟨h0.1, h0.2, o, G1, e1, ?_⟩
  cases o with
  | none => exact .inl ⟨rfl, h⟩
  | some kv =>
    obtain ⟨k, v⟩ := kv
    obtain ⟨h1, h⟩ := must_eq h
    dsimp only at h
    split at h
    · rename_i q e2
      exact .inr ⟨k, v, q, rfl, of_decide_eq_true h1, e2, h⟩
    · cases h
theorem dcL_nil {c c' : Option (Nat × O)} {f : D → Store → Res (Option (D × D) × Store)} {z : List (D × D) × Store} (h : dcL c c' f [] kvs G = .ok z) : chk c G = true ∧ chk c' G = true ∧ z = (kvs, G) := by
  unfold dcL at h
  obtain ⟨h0, h⟩ := must_eq h
  rw [Bool.and_eq_true] at h0
  cases h
  exact ⟨h0.1, h0.2, rfl⟩
/-- the store of a pair, by data -/
def putD (W : Wd) : TPut := fun da y z H N => ∃ ρ kvs d e q, keyFor kvs d = some q ∧ Dn W ρ H y d ∧ Dn W ρ H z e ∧ OOk W ρ H da (.dct kvs) ∧ kvs.length < lim ∧ ∀ ho, (∃ u, H da = some u ∧ (∀ vs, u ≠ .tup vs) ∧ ∀ ob w, u ≠ .frz ob w) → OOk W ρ (upd H da ho) da (.dct (Fw.putK q d e kvs)) → N (upd H da ho)
theorem putD_ok (X' : Cx) (pins : List (Addr × Obj)) (σ : L2.St) (H : Hp) (s : Shared) (da : Addr) (y z : V) (u r : Value) (N : Hp → Prop) (E : Value → Shared → Prop) (hX : Gx W k X') (I : Inv X' pins σ H s) (ry : RelV y u) (rz : RelV z r) (h : putD W da y z H N) :
    wpAny (model X'.prog X'.w) X'.A (dictSet da u r) (fun _ s' => ∃ H', Inv X' pins σ H' s' ∧ N H') E s := by
  obtain ⟨ρ, kvs, d, e, q, kf, n1, n2, ok, hl, f⟩ := h
  exact dg_dset I hX ok kf n1 ry n2 rz hl fun s' ho I' hu ok' => ⟨_, I', f ho hu ok'⟩
/-- the dict stands apart -/
structure Apart (W : Wd) (ρ : List Addr) (H : Hp) (da : Addr) (kvs : List (D × D)) : Prop where
  off : Off ρ da
  ok : OOk W ρ H da (.dct kvs)
theorem Apart.ex (p : Apart W ρ H da kvs) (x : Ex W ρ H ρ' H') : Apart W ρ' H' da kvs := by
  obtain ⟨u, hu, n1, n2⟩ := p.ok.has fun l z => by cases z
  obtain ⟨h1, h2⟩ := x.off da u hu p.off
  exact ⟨h2, p.ok.keep (fun h => h.ex x) (fun _ => by rw [h1, hu]) fun ⟨l, z⟩ => by cases z⟩
theorem Apart.put {q : NestedKey} {d e : D} {ho : HO} (p : Apart W ρ H da kvs) (ok : OOk W ρ (upd H da ho) da (.dct (Fw.putK q d e kvs))) : Apart W ρ (upd H da ho) da (Fw.putK q d e kvs) := ⟨p.off, ok⟩
theorem Apart.at (p : Apart W ρ H da kvs) : ∃ u, H da = some u ∧ (∀ vs, u ≠ .tup vs) ∧ ∀ ob w, u ≠ .frz ob w := p.ok.has fun l z => by cases z
/-- it comes into the row -/
theorem Apart.join (p : Apart W ρ H da kvs) (r : Rel W ρ G H) : Rel W (ρ ++ [da]) (G ++ [.dct kvs]) H := by
  obtain ⟨u, hu, n1, n2⟩ := p.at
  have pl : ∀ {v d}, Dn W ρ H v d → Dn W (ρ ++ [da]) H v d := fun h => h.pl (fun i a h => by rw [List.getElem?_append_left (List.getElem?_eq_some_iff.mp h).1]; exact h) fun _ _ h => h
  have := r.adopt (o := .dct kvs) (ho := u) p.off hu n1 n2 (fun l z => by cases z) (by rw [upd_self hu]; exact p.ok.keep pl (fun _ => rfl) fun ⟨l, z⟩ => by cases z)
  rw [upd_self hu] at this
  exact this
theorem dc_reads {t : T} {fI : Env → Store → Res (Wk × Store)} {fB : Env → Store → Res (Bool × Store)} {fK fV : FE} {own : List Nat} (hsl : ∀ j ∈ slotsT t, j ∈ own)
    (h : rE W (fun env G => (fI env G).bind fun w => (dcL w.1.2.1 w.1.2.2 (dcStep t fB fK fV own env) w.1.1 [] w.2).bind fun q => newO (.dct q.1) q.2) σ H Q) : tDcG (putD W) (rI W fI) (gT W t) (rB W fB) (rE W fK) (rE W fV) own σ H Q := by
  obtain ⟨ρ, G, env, r, eo, f⟩ := h
  obtain ⟨⟨w, G1⟩, e1, f⟩ := f.bind
  refine ⟨ρ, G, env, r, eo, w, G1, e1, fun ρ1 H1 J x1 r1 wk da hD => ?_⟩
  have eo1 := eo.ex x1
  have f := f.ex x1
  obtain ⟨⟨kvs, G2⟩, e2, f⟩ := f.bind
  refine ⟨fun i m H => m = w.1.length - i ∧ i ≤ w.1.length ∧ ∃ (ρ : List Addr) (G : Store) (cur : List (D × D)), Ex W ρ1 H1 ρ H ∧ Rel W ρ G H ∧ Apart W ρ H da cur ∧ dcL w.2.1 w.2.2 (dcStep t fB fK fV own env) (w.1.drop i) cur G = .ok (kvs, G2),
    ⟨w.1.length, by simp, Nat.zero_le _, ρ1, G1, [], Ex.newT hD, r1.newT hD, ⟨r1.no hD, .nil, .inl ⟨[], upd_same, .nil⟩⟩, by simpa using e2⟩, ?_⟩
  rintro i m H5 ⟨rfl, hi, ρ5, G5, cur, x5, r5, ap5, e5⟩
  by_cases hlt : i < w.1.length
  · have hdrop : w.1.drop i = w.1[i] :: w.1.drop (i + 1) := List.drop_eq_getElem_cons hlt
    rw [hdrop] at e5
    obtain ⟨c1, c2, o, G6, e6, e7⟩ := dcL_cons e5
    refine .inr ⟨wk.goes i ρ5 G5 H5 hlt x5 r5 c1 c2, _, fun H' nx => ⟨w.1.length - (i + 1), by omega, rfl, hlt, nx⟩, fun x H' y => ?_⟩
    obtain ⟨x6, r6, d, ed, nd⟩ := wk.yields i ρ5 G5 H5 x H' hlt x5 r5 c1 c2 y
    rw [List.getElem?_eq_getElem hlt] at ed
    cases ed
    have ap6 := ap5.ex x6
    have x56 := x5.trans x6
    unfold dcStep at e6
    split at e6
    · rename_i env2 ea
      obtain ⟨⟨bv, G7⟩, e9, e6⟩ := Res.bind_eq e6
      refine ⟨ρ5, G5, Fw.wipe env own, w.1[i], env2, r6, (eo1.ex x56).wipe own, nd, ea, fun σ2 eo2 same => ⟨?_, ρ5, G5, env2, r6, eo2, bv, G7, e9, fun ρ7 H7 x7 r7 => ?_⟩⟩
      · have hl : σ2.length = (L2.wipe σ own).length := by
          have h1 := eo2.1
          have h2 := ((eo1.ex x56).wipe own).1
          have h3 : env2.length = (Fw.wipe env own).length := asgT_length ea
          rw [h1, h2, h3]
        rw [wipe_eq (vs := own) hl fun j hj => same j fun z => hj (hsl j z)]
        exact wipe_eq (L2.wipe_length σ own) fun j hj => wipe_get hj
      · have ap7 := ap6.ex x7
        have x57 := x56.trans x7
        cases bv with
        | false =>
          cases e6
          simp only [Bool.false_eq_true, if_false]
          rcases e7 with ⟨_, e7⟩ | ⟨k0, v0, q0, z, _⟩
          · exact ⟨ρ7, _, cur, x57, r7, ap7, e7⟩
          · cases z
        | true =>
          obtain ⟨⟨kd, G8⟩, e10, e6⟩ := Res.bind_eq e6
          obtain ⟨⟨vd, G9⟩, e11, e6⟩ := Res.bind_eq e6
          cases e6
          simp only [if_true]
          rcases e7 with ⟨z, _⟩ | ⟨k0, v0, q0, z, hl, kf, e7⟩
          · cases z
          · cases z
            refine ⟨ρ7, _, env2, r7, eo2.ex x7, kd, G8, e10, fun y ρ8 H8 x8 r8 n8 => ⟨ρ8, G8, env2, r8, (eo2.ex x7).ex x8, vd, G9, e11, fun z ρ9 H9 x9 r9 n9 => ?_⟩⟩
            have ap9 := (ap7.ex x8).ex x9
            refine ⟨ρ9, cur, kd, vd, q0, kf, n8.ex x9, n9, ap9.ok, hl, fun ho hu ok => ?_⟩
            obtain ⟨u, hu, n1, n2⟩ := hu
            exact ⟨ρ9, G9, _, ((x57.trans x8).trans x9).late hD hu n1 n2, (r9.apart ap9.off hu n1 n2).1, ap9.put ok, e7⟩
    · cases e6
  · have e : i = w.1.length := by omega
    subst e
    rw [List.drop_length] at e5
    obtain ⟨c1, c2, ez⟩ := dcL_nil e5
    cases ez
    exact .inl ⟨wk.stops ρ5 _ H5 x5 r5 c1 c2, f.use (x5.adopt hD) (ap5.join r5) (.ref (by rw [← r5.len]; simp))⟩
/-! ### displays of dicts -/
def flatP : List (Value × Value) → List Value
  | [] => []
  | (a, b) :: r => a :: b :: flatP r
structure IsP (W : Wd) (X : Cx) (pos : Pos) (keys : List (Option Expr)) (values : List Expr) (f : Env → Store → Res (List D × Store)) : Prop where
  run : ∀ (pins : List (Addr × Obj)) (s : Shared) (σ : L2.St) (H : Hp) (Q : List V → Hp → Prop), Inv X pins σ H s → rA W f σ H Q →
    wpAny (model X.prog X.w) X.A (evalPairs (pairTrees keys values X.env pos)) (fun ws s' => ∃ vs H', Inv X pins σ H' s' ∧ Vals vs (flatP ws) ∧ Q vs H') X.xe s
theorem ip_nil : IsP W X pos [] [] (fun _ G => .ok ([], G)) := ⟨fun pins s σ H Q I h => by
  obtain ⟨ρ, G, env, r, eo, f⟩ := h
  exact pairTrees_nil_walk ⟨[], H, I, .nil, f.use Ex.refl r .nil⟩⟩
theorem ip_cons {ks : List (Option Expr)} {vs : List Expr} {fs : Env → Store → Res (List D × Store)} (hk : IsE W X a fa) (hv : IsE W X b fb) (hr : IsP W X pos ks vs fs) : IsP W X pos (some a :: ks) (b :: vs) (fun env G => (fa env G).bind fun x => ((fb env x.2).bind fun y => (fs env y.2).bind fun z => .ok (y.1 :: z.1, z.2)).bind fun w => .ok (x.1 :: w.1, w.2)) := by
  refine ⟨fun pins s σ H Q I h => ?_⟩
  obtain ⟨ρ, G, env, r, eo, f⟩ := h
  obtain ⟨⟨d, G1⟩, e1, f⟩ := f.bind
  obtain ⟨⟨l, G0⟩, e0, f⟩ := f.bind
  obtain ⟨⟨d2, G2⟩, e2, e0⟩ := Res.bind_eq e0
  obtain ⟨⟨ds, G3⟩, e3, e0⟩ := Res.bind_eq e0
  cases e0
  refine pairTrees_cons_walk (thn (hk.run pins s σ H (fun v H1 => ∃ ρ1, Ex W ρ H ρ1 H1 ∧ Rel W ρ1 G1 H1 ∧ Dn W ρ1 H1 v d) I ⟨ρ, G, env, r, eo, d, G1, e1, fun v ρ1 H1 x1 r1 n1 => ⟨ρ1, x1, r1, n1⟩⟩) fun u s1 ⟨v, H1, I1, rv, ρ1, x1, r1, n1⟩ =>
    thn (hv.run pins s1 σ H1 (fun v2 H2 => ∃ ρ2, Ex W ρ1 H1 ρ2 H2 ∧ Rel W ρ2 G2 H2 ∧ Dn W ρ2 H2 v2 d2) I1 ⟨ρ1, G1, env, r1, eo.ex x1, d2, G2, e2, fun v ρ2 H2 x2 r2 n2 => ⟨ρ2, x2, r2, n2⟩⟩) fun u2 s2 ⟨v2, H2, I2, rv2, ρ2, x2, r2, n2⟩ =>
      thn (hr.run pins s2 σ H2 (fun ws H3 => ∃ ρ3, Ex W ρ2 H2 ρ3 H3 ∧ Rel W ρ3 G3 H3 ∧ Dns W ρ3 H3 ws ds) I2 ⟨ρ2, G2, env, r2, (eo.ex x1).ex x2, ds, G3, e3, fun v ρ3 H3 x3 r3 n3 => ⟨ρ3, x3, r3, n3⟩⟩) fun us s3 ⟨ws, H3, I3, rvs, ρ3, x3, r3, n3⟩ => ?_)
  exact ⟨v :: v2 :: ws, H3, I3, .cons rv (.cons rv2 rvs), f.use ((x1.trans x2).trans x3) r3 (.cons (n1.ex (x2.trans x3)) (.cons (n2.ex x3) n3))⟩
theorem putAll_cons {kvs z : List (D × D)} {a b : D} {r : List (D × D)} (h : putAll kvs ((a, b) :: r) = some z) : ∃ q, keyFor kvs a = some q ∧ putAll (Fw.putK q a b kvs) r = some z := by
  unfold putAll at h
  exact Option.bind_eq_some_iff.mp h
theorem store_all (hX : Gx W k X) {E : Value → Shared → Prop} : ∀ (ws : List (Value × Value)) (ps : List (D × D)) (vs : List V) (ds : List D) (kvs z : List (D × D)) (H : Hp) (s : Shared) (R : PUnit → Shared → Prop), Vals vs (flatP ws) → Dns W ρ H vs ds → pairUp ds = some ps → putAll kvs ps = some z → kvs.length + ps.length < lim →
    Inv X pins σ H s → Rel W ρ G H → Apart W ρ H da kvs → (∀ H' s', Inv X pins σ H' s' → Rel W ρ G H' → Apart W ρ H' da z → (∀ a vs, SqT W.K H a vs → SqT W.K H' a vs) → (∀ a, a ≠ da → H' a = H a) → R PUnit.unit s') →
    wpAny (model X.prog X.w) X.A (forIn ws PUnit.unit fun (x : Value × Value) (_ : PUnit) => (do dictSet da x.1 x.2; pure (ForInStep.yield PUnit.unit) : Sem (ForInStep PUnit))) R E s
  | [], ps, vs, ds, kvs, z, H, s, R, rv, n, e1, e2, hl, I, r, ap, h => by
    cases rv
    cases n
    cases e1
    cases e2
    rw [List.forIn_nil]
    exact wpAny_pure (h H s I r ap (fun _ _ h => h) fun _ _ => rfl)
  | (u, w) :: ws, ps, vs, ds, kvs, z, H, s, R, rv, n, e1, e2, hl, I, r, ap, h => by
    cases rv with
    | cons r1 rv =>
      cases rv with
      | cons r2 rv =>
        cases n with
        | @cons v1 _ d1 _ n1 n =>
          cases n with
          | @cons v2 vs d2 ds n2 n =>
            obtain ⟨ps', e3, e4⟩ := Option.map_eq_some_iff.mp e1
            subst e4
            obtain ⟨q, kf, e5⟩ := putAll_cons e2
            rw [List.length_cons] at hl
            rw [List.forIn_cons]
            refine wpAny_bind (wpAny_bind (dg_dset I hX ap.ok kf n1 r1 n2 r2 (by omega) fun s' ho I' hu ok => wpAny_pure ?_))
            obtain ⟨u0, hu, m1, m2⟩ := hu
            obtain ⟨r', keep⟩ := r.apart (ho := ho) ap.off hu m1 m2
            have keeps : ∀ {vs : List V} {xs : List D}, Dns W ρ H vs xs → Dns W ρ (upd H da ho) vs xs := fun h => h.pl (fun _ _ h => h) fun a vs h => SqT.upd (.inr ⟨_, hu, m1, m2⟩) h
            refine store_all hX ws ps' _ _ _ z _ s' R rv (keeps n) e3 e5 ?_ I' r' (ap.put ok) fun H2 s2 I2 r2 ap2 k2 a2 => h H2 s2 I2 r2 ap2 (fun a vs hd => k2 a vs (SqT.upd (.inr ⟨_, hu, m1, m2⟩) hd)) fun a ha => by rw [a2 a ha, upd_ne ha]
            have := put_len (q := q) (d := d1) (v := d2) (kvs := kvs)
            omega
theorem pairUp_len : ∀ {ds : List D} {ps : List (D × D)}, pairUp ds = some ps → ds.length = 2 * ps.length
  | [], _, e => by cases e; rfl
  | [_], _, e => by cases e
  | a :: b :: r, _, e => by
    obtain ⟨ps', e3, e4⟩ := Option.map_eq_some_iff.mp e
    subst e4
    rw [List.length_cons, List.length_cons, pairUp_len e3, List.length_cons]
    omega
theorem flatP_len : ∀ {ws : List (Value × Value)}, (flatP ws).length = 2 * ws.length
  | [] => rfl
  | (a, b) :: r => by
    show (flatP r).length + 1 + 1 = 2 * (r.length + 1)
    rw [flatP_len]; omega
theorem is_dct0 : IsE W X (.Dict [] [] pos) (fun _ G => newO (.dct []) G) := by
  refine PE.imp pe_dnewK fun σ H Q h => ?_
  obtain ⟨ρ, G, env, r, eo, f⟩ := h
  intro p hp
  exact f.use (Ex.new hp) (r.new hp (fun l z => by cases z) ⟨.nil, .inl ⟨[], upd_same, .nil⟩⟩) (.ref (by rw [← r.len]; simp))
theorem is_dct {keys : List (Option Expr)} {values : List Expr} {fs : Env → Store → Res (List D × Store)} (hX : Gx W k X) (hp : IsP W X pos keys values fs) (hall : keys.all (·.isSome) = true) (hl : keys.length = values.length) (h0 : keys ≠ []) (h15 : keys.length ≤ 15) :
    IsE W X (.Dict keys values pos) (fun env G => (fs env G).bind fun x => match (pairUp x.1).bind (putAll []) with
    | some kvs => newO (.dct kvs) x.2
    | none => .stuck) := by
  refine ⟨fun pins s σ H Q I h => ?_⟩
  obtain ⟨ρ, G, env, r, eo, f⟩ := h
  obtain ⟨⟨ds, G1⟩, e1, f⟩ := f.bind
  dsimp only at f
  split at f
  case h_2 => exact f.stuck.elim
  rename_i z e2
  obtain ⟨ps, e3, e4⟩ := Option.bind_eq_some_iff.mp e2
  have hn := pairTrees_length keys values X.env pos hall hl
  rw [arm_eval_Dict, zip_pairTrees keys values X.env pos hall hl, dictDisplay_pairs _ (fun e => h0 (List.length_eq_zero_iff.mp (by rw [← hn, e]; rfl))) (by rw [hn]; omega)]
  refine wpAny_bind (wpAny_standAt (wpAny_bind ?_))
  unfold subDict
  refine wpAny_bind (wpAny_alloc ?_)
  refine wpAny_bind (wpAny_holding ?_)
  rw [if_pos (by rw [hn]; exact h15)]
  have hd : H s.heap.objs.size = none := I.hok.fresh (Nat.le_refl _)
  have I1 := I.laid (a := s.heap.objs.size) (o := .dK []) (h' := s.heap.push { cls := .type "dict", data := .dict #[] }) (t' := s.toks) (fun _ _ q => Heap.get?_push_of_some _ q) (Nat.le_refl _) (dk_empty s.heap I.big)
  have x0 : Ex W ρ H ρ (upd H s.heap.objs.size (.dK [])) := Ex.newT hd
  have ap0 : Apart W ρ (upd H s.heap.objs.size (.dK [])) s.heap.objs.size [] := ⟨r.no hd, .nil, .inl ⟨[], upd_same, .nil⟩⟩
  refine wpAny_bind (wpAny_mono (wpAny_evalPairs_len (hp.run pins _ σ _ (fun vs H1 => ∃ ρ1, Ex W ρ (upd H s.heap.objs.size (.dK [])) ρ1 H1 ∧ Rel W ρ1 G1 H1 ∧ Dns W ρ1 H1 vs ds) I1 ⟨ρ, G, env, r.newT hd, eo.ex x0, ds, G1, e1, fun vs ρ1 H1 x1 r1 n1 => ⟨ρ1, x1, r1, n1⟩⟩)) (fun ws s1 h1 => ?_) fun _ _ e => e)
  obtain ⟨wl, vs, H1, I2, rv, ρ1, x1, r1, n1⟩ := h1
  have ap1 := ap0.ex x1
  refine wpAny_holding (wpAny_bind (store_all hX ws ps vs ds [] z H1 s1 _ rv n1 e3 e4 ?_ I2 r1 ap1 fun H2 s2 I3 r2 ap2 k2 a2 => wpAny_pure (wpAny_pure (wpAny_pure ⟨.ref s.heap.objs.size, H2, I3, rfl, ?_⟩))))
  · have h2 := rv.length
    rw [n1.length, pairUp_len e3, flatP_len, wl, hn] at h2
    show 0 + ps.length < 16777216
    omega
  · obtain ⟨u, hu, m1, m2⟩ := ap1.at
    have xx : Ex W ρ H ρ1 H2 := by
      have x01 := x0.trans x1
      refine ⟨x01.pre, fun a vs h => k2 a vs (x01.tup a vs h), fun a v h n => ?_⟩
      · have ne : a ≠ s.heap.objs.size := by rintro rfl; rw [hd] at h; cases h
        obtain ⟨g1, g2⟩ := x01.off a v h n
        exact ⟨by rw [a2 a ne]; exact g1, g2⟩
    exact f.use (xx.adopt hd) (ap2.join r2) (.ref (by rw [← r2.len]; simp))
end
end Fw

/-! Fw2o: statements. -/
namespace Fw
open L2 PySem PySem.Spec PyProof.Rows
variable {W : Wd}
abbrev FS := Env → Store → RS
def endsAt (W : Wd) (Ed : Ends) (f : Fw.Flow) (σ : L2.St) (ρ : List Addr) (H : Hp) : Prop := match f with
  | .next => Ed.nx σ H
  | .brk => Ed.bk σ H
  | .cont => Ed.ct σ H
  | .ret d => ∀ v, Dn W ρ H v d → Ed.rt v H
def FinS (W : Wd) (ρ : List Addr) (H : Hp) (r : RS) (Ed : Ends) : Prop := ∃ f env' G', r = .ok (f, env', G') ∧ ∀ σ' ρ' H', Ex W ρ H ρ' H' → Rel W ρ' G' H' → EnvOk W ρ' H' σ' env' → endsAt W Ed f σ' ρ' H'
def rS (W : Wd) (f : FS) : TS := fun Ed σ H => ∃ ρ G env, Rel W ρ G H ∧ EnvOk W ρ H σ env ∧ FinS W ρ H (f env G) Ed
def IsS (W : Wd) (X : Cx) (st : Stmt) (f : FS) : Prop := PS X st (rS W f)
def IsSs (W : Wd) (X : Cx) (st : List Stmt) (f : FS) : Prop := PSs X st (rS W f)
section
variable {X : Cx} {k j : Nat} {pins : List (Addr × Obj)} {σ σ' σ2 : L2.St} {s : Shared} {ρ ρ' ρ'' : List Addr} {H H' H'' : Hp} {G G' : Store} {Ed Ed' : Ends} {a b c tg e : Expr} {fa fb fc : FE} {pos apos cpos tpos : Pos} {st : Stmt} {sts sts2 : List Stmt} {f g : FS} {env env' : Env}
theorem PS.imp {t t' : TS} (h : PS X st t) (i : ∀ Ed σ H, t' Ed σ H → t Ed σ H) : PS X st t' := ⟨fun pins s σ H Ed I q => h.run pins s σ H Ed I (i Ed σ H q)⟩
theorem PSs.imp {t t' : TS} (h : PSs X sts t) (i : ∀ Ed σ H, t' Ed σ H → t Ed σ H) : PSs X sts t' := ⟨fun pins s σ H Ed I q => h.run pins s σ H Ed I (i Ed σ H q)⟩
theorem FinS.bind {α : Type} {r : Res α} {f : α → RS} (h : FinS W ρ H (r.bind f) Ed) : ∃ a, r = .ok a ∧ FinS W ρ H (f a) Ed := by
  obtain ⟨d, e', G', e, h⟩ := h
  obtain ⟨a, e1, e2⟩ := Res.bind_eq e
  exact ⟨a, e1, d, e', G', e2, h⟩
theorem FinS.ex {r : RS} (h : FinS W ρ H r Ed) (x : Ex W ρ H ρ' H') : FinS W ρ' H' r Ed := by
  obtain ⟨d, e', G', e, h⟩ := h
  exact ⟨d, e', G', e, fun σ ρ2 H2 x2 => h σ ρ2 H2 (x.trans x2)⟩
theorem FinS.use {f : Fw.Flow} (h : FinS W ρ H (.ok (f, env', G')) Ed) (x : Ex W ρ H ρ' H') (r : Rel W ρ' G' H') (eo : EnvOk W ρ' H' σ env') : endsAt W Ed f σ ρ' H' := by
  obtain ⟨_, _, _, e, h⟩ := h
  cases e
  exact h σ ρ' H' x r eo
theorem FinS.stuck (h : FinS W ρ H .stuck Ed) : False := by obtain ⟨_, _, _, e, _⟩ := h; cases e
theorem FinS.of {o : Option (Fw.Flow × Env × Store)} (h : FinS W ρ H (Res.of o) Ed) : ∃ z, o = some z ∧ FinS W ρ H (.ok z) Ed := by
  obtain ⟨d, e', G', e, h⟩ := h
  exact ⟨_, Res.of_eq e, d, e', G', rfl, h⟩
theorem FinS.must {c : Bool} {r : RS} (h : FinS W ρ H (Fw.must c r) Ed) : c = true ∧ FinS W ρ H r Ed := by
  obtain ⟨d, e', G', e, h⟩ := h
  obtain ⟨e1, e2⟩ := must_eq e
  exact ⟨e1, d, e', G', e2, h⟩
theorem FinS.seq {r : RD} {f : D × Store → RS} {Q : VK} (h : FinS W ρ H (r.bind f) Ed) (q : ∀ d G' v ρ' H', Ex W ρ H ρ' H' → Rel W ρ' G' H' → Dn W ρ' H' v d → FinS W ρ' H' (f (d, G')) Ed → Q v H') : Fin W ρ H r Q := by
  obtain ⟨⟨d, G'⟩, e, h⟩ := h.bind
  exact ⟨d, G', e, fun v ρ' H' x r n => q d G' v ρ' H' x r n (h.ex x)⟩
theorem FinS.seqB {r : Res (Bool × Store)} {f : Bool × Store → RS} {Q : Bool → Hp → Prop} (h : FinS W ρ H (r.bind f) Ed) (q : ∀ d G' ρ' H', Ex W ρ H ρ' H' → Rel W ρ' G' H' → FinS W ρ' H' (f (d, G')) Ed → Q d H') : FinB W ρ H r Q := by
  obtain ⟨⟨d, G'⟩, e, h⟩ := h.bind
  exact ⟨d, G', e, fun ρ' H' x r => q d G' ρ' H' x r (h.ex x)⟩
/-! ### blocks -/
theorem ss_nil : IsSs W X [] (fun env G => .ok (.next, env, G)) := by
  refine PSs.imp pss_nil fun Ed σ H h => ?_
  obtain ⟨ρ, G, env, r, eo, f⟩ := h
  exact f.use Ex.refl r eo
theorem ss_cons (h1 : IsS W X st f) (h2 : IsSs W X sts g) : IsSs W X (st :: sts) (fun env G => (f env G).bind fun r => match r.1 with
    | .next => g r.2.1 r.2.2
    | fl => .ok (fl, r.2)) := by
  refine PSs.imp (pss_cons h1 h2) fun Ed σ H h => ?_
  obtain ⟨ρ, G, env, r, eo, q⟩ := h
  obtain ⟨⟨fl, env1, G1⟩, e1, q⟩ := q.bind
  refine ⟨ρ, G, env, r, eo, fl, env1, G1, e1, fun σ1 ρ1 H1 x1 r1 eo1 => ?_⟩
  have q := q.ex x1
  cases fl with
  | next => exact ⟨ρ1, G1, env1, r1, eo1, q⟩
  | brk => exact q.use Ex.refl r1 eo1
  | cont => exact q.use Ex.refl r1 eo1
  | ret d => exact fun v hv => q.use Ex.refl r1 eo1 v hv
theorem s_pass : IsS W X (.Pass pos) (fun env G => .ok (.next, env, G)) := by
  refine PS.imp ps_pass fun Ed σ H h => ?_
  obtain ⟨ρ, G, env, r, eo, f⟩ := h
  exact f.use Ex.refl r eo
theorem s_brk : IsS W X (.Break pos) (fun env G => .ok (.brk, env, G)) := by
  refine PS.imp ps_break fun Ed σ H h => ?_
  obtain ⟨ρ, G, env, r, eo, f⟩ := h
  exact f.use Ex.refl r eo
theorem s_cont : IsS W X (.Continue pos) (fun env G => .ok (.cont, env, G)) := by
  refine PS.imp ps_continue fun Ed σ H h => ?_
  obtain ⟨ρ, G, env, r, eo, f⟩ := h
  exact f.use Ex.refl r eo
theorem s_expr (ha : IsE W X a fa) (hs : swapsWith a none pos.line X.env = pure false) : IsS W X (.Expr a pos) (fun env G => (fa env G).bind fun x => .ok (.next, env, x.2)) := by
  refine PS.imp (ps_expr ha hs) fun Ed σ H h => ?_
  obtain ⟨ρ, G, env, r, eo, f⟩ := h
  exact ⟨ρ, G, env, r, eo, f.seq fun d G1 v ρ1 H1 x1 r1 n1 f1 => FinS.use (f := .next) f1 Ex.refl r1 (eo.ex x1)⟩
theorem s_ret (ha : IsE W X a fa) : IsS W X (.Return (some a) pos) (fun env G => (fa env G).bind fun x => .ok (.ret x.1, env, x.2)) := by
  refine PS.imp (ps_ret ha) fun Ed σ H h => ?_
  obtain ⟨ρ, G, env, r, eo, f⟩ := h
  exact ⟨ρ, G, env, r, eo, f.seq fun d G1 v ρ1 H1 x1 r1 n1 f1 => FinS.use (f := .ret d) (σ := σ) f1 Ex.refl r1 (eo.ex x1) v n1⟩
theorem s_retN : IsS W X (.Return none pos) (fun env G => .ok (.ret .non, env, G)) := by
  refine PS.imp ps_retN fun Ed σ H h => ?_
  obtain ⟨ρ, G, env, r, eo, f⟩ := h
  exact f.use Ex.refl r eo .non .non
theorem s_never {f : FS} (h : ∀ env G z, f env G ≠ .ok z) : IsS W X st f := by
  refine PS.imp ps_never fun Ed σ H q => ?_
  obtain ⟨ρ, G, env, r, eo, fl, e', G', e, _⟩ := q
  exact h _ _ _ e
theorem s_if {t : Expr} {ft : Env → Store → Res (Bool × Store)} (ht : IsB W X t ft) (ha : IsSs W X sts f) (hb : IsSs W X sts2 g) : IsS W X (.If t sts sts2 pos) (fun env G => (ft env G).bind fun x => match x.1 with
    | true => f env x.2
    | false => g env x.2) := by
  refine PS.imp (ps_if ht ha hb) fun Ed σ H h => ?_
  obtain ⟨ρ, G, env, r, eo, q⟩ := h
  refine ⟨ρ, G, env, r, eo, q.seqB fun d G1 ρ1 H1 x1 r1 f1 => ?_⟩
  cases d with
  | true => rw [if_pos rfl]; exact ⟨ρ1, G1, env, r1, eo.ex x1, f1⟩
  | false => rw [if_neg (by decide)]; exact ⟨ρ1, G1, env, r1, eo.ex x1, f1⟩
/-! ### stores -/
theorem s_asg {t : T} (ha : IsE W X a fa) (hg : PG X tg (gT W t)) (hs : swapsWithSole [tg] a pos.line X.env = pure false) (hw : swappedStores [tg] a X.env = pure none) (h1 : noStar tg = true) :
    IsS W X (.Assign [tg] a pos) (fun env G => (fa env G).bind fun x => Res.of ((asgT t x.1 env).map fun e2 => (.next, e2, x.2))) := by
  have h1 : (assignEach [tg] X.env).map (·.2) = [assign tg X.env] := by cases tg <;> first | rfl | cases h1
  refine PS.imp (ps_asg ha hg hs hw h1) fun Ed σ H h => ?_
  obtain ⟨ρ, G, env, r, eo, f⟩ := h
  refine ⟨ρ, G, env, r, eo, f.seq fun d G1 v ρ1 H1 x1 r1 n1 f1 => ?_⟩
  obtain ⟨z, e1, f1⟩ := f1.of
  obtain ⟨env2, e2, e3⟩ := Option.map_eq_some_iff.mp e1
  subst e3
  exact ⟨ρ1, G1, env, d, env2, r1, eo.ex x1, n1, e2, fun σ2 eo2 _ => f1.use Ex.refl r1 eo2⟩
theorem s_set {i : Nat} {x : Str} {p : Pos} (hX : Gx W k X) (hi : X.N[i]? = some x) (hx : Loc X.env.scope x) (hf : X.fn x = true ∨ X.env.scope.names.lookup x = some .local) (ha : IsE W X a fa) (hs : swapsWith a (some (.Name x p)) pos.line X.env = pure false) :
    IsS W X (.Assign [.Name x p] a pos) (fun env G => (fa env G).bind fun x => Res.of ((asgT (.slot i) x.1 env).map fun e2 => (.next, e2, x.2))) := by
  refine PS.imp (ps_set hX.nd hi hx ha hs hf) fun Ed σ H h => ?_
  obtain ⟨ρ, G, env, r, eo, f⟩ := h
  refine ⟨ρ, G, env, r, eo, f.seq fun d G1 v ρ1 H1 x1 r1 n1 f1 => ?_⟩
  obtain ⟨z, e1, f1⟩ := f1.of
  cases e1
  exact f1.use Ex.refl r1 ((eo.ex x1).set n1 i)
theorem two_app {d1 d2 : D} {env env2 : Env} {i j : Nat} {e : asgT (.tup [.slot i, .slot j]) (.tup [d1, d2]) env = some env2} : env2 = (env.set i (some d1)).set j (some d2) := by
  cases e; rfl
/-- a, b = x, y of plain local names -/
theorem s_par {i j : Nat} {x y : Str} {px py pt : Pos} {kt k2 : Nat} {pt2 : Pos} (hX : Gx W k X) (hi : X.N[i]? = some x) (hj : X.N[j]? = some y) (hij : i ≠ j) (hx : X.env.scope.names.lookup x = some .local) (hy : X.env.scope.names.lookup y = some .local)
    (hw : swappedStores [.Tuple [.Name x px, .Name y py] kt pt] (.Tuple [a, b] k2 pt2) X.env = pure (some [x, y])) {fs : Env → Store → Res (List D × Store)} (hfs : IsA W X [a, b] fs) :
    IsS W X (.Assign [.Tuple [.Name x px, .Name y py] kt pt] (.Tuple [a, b] k2 pt2) pos) (fun env G => ((fs env G).bind fun x => must (decide (x.1.length ≤ lim)) (.ok (.tup x.1, x.2))).bind fun x => Res.of ((asgT (.tup [.slot i, .slot j]) x.1 env).map fun e2 => (.next, e2, x.2))) := by
  refine PS.imp (ps_par hX.calm hX.nd hi hj hij hx hy hfs hw rfl) fun Ed σ H h => ?_
  obtain ⟨ρ, G, env, r, eo, f⟩ := h
  obtain ⟨⟨d, G1⟩, e1, f⟩ := f.bind
  obtain ⟨⟨ds, G2⟩, e2, e1⟩ := Res.bind_eq e1
  obtain ⟨_, e1⟩ := must_eq e1
  cases e1
  refine ⟨ρ, G, env, r, eo, ds, G2, e2, fun vs ρ1 H1 x1 r1 n1 => ?_⟩
  obtain ⟨z, e3, f1⟩ := (f.ex x1).of
  obtain ⟨env2, e4, e5⟩ := Option.map_eq_some_iff.mp e3
  subst e5
  have e4 : asgTs [.slot i, .slot j] ds env = some env2 := e4
  have hl := asgTs_length e4
  obtain ⟨d1, d2, rfl⟩ : ∃ d1 d2, ds = [d1, d2] := by
    match ds, hl with
    | [d1, d2], _ => exact ⟨d1, d2, rfl⟩
  · obtain ⟨v1, v2, rfl, m1, m2⟩ := n1.two
    cases e4
    exact ⟨v1, v2, rfl, f1.use Ex.refl r1 (((eo.ex x1).set m1 i).set m2 j)⟩
/-- a, b, c = x, y, z of plain local names -/
theorem s_par3 {i j l : Nat} {x y z : Str} {px py pz pt : Pos} {kt k2 : Nat} {pt2 : Pos} (hX : Gx W k X) (hi : X.N[i]? = some x) (hj : X.N[j]? = some y) (hl : X.N[l]? = some z) (hij : i ≠ j) (hil : i ≠ l) (hjl : j ≠ l) (hx : X.env.scope.names.lookup x = some .local) (hy : X.env.scope.names.lookup y = some .local) (hz : X.env.scope.names.lookup z = some .local)
    (hw : swappedStores [.Tuple [.Name x px, .Name y py, .Name z pz] kt pt] (.Tuple [a, b, c] k2 pt2) X.env = pure (some [x, y, z])) {fs : Env → Store → Res (List D × Store)} (hfs : IsA W X [a, b, c] fs) :
    IsS W X (.Assign [.Tuple [.Name x px, .Name y py, .Name z pz] kt pt] (.Tuple [a, b, c] k2 pt2) pos) (fun env G => ((fs env G).bind fun x => must (decide (x.1.length ≤ lim)) (.ok (.tup x.1, x.2))).bind fun x => Res.of ((asgT (.tup [.slot i, .slot j, .slot l]) x.1 env).map fun e2 => (.next, e2, x.2))) := by
  refine PS.imp (ps_par3 hX.calm hX.nd hi hj hl hij hil hjl hx hy hz hfs hw rfl) fun Ed σ H h => ?_
  obtain ⟨ρ, G, env, r, eo, f⟩ := h
  obtain ⟨⟨d, G1⟩, e1, f⟩ := f.bind
  obtain ⟨⟨ds, G2⟩, e2, e1⟩ := Res.bind_eq e1
  obtain ⟨_, e1⟩ := must_eq e1
  cases e1
  refine ⟨ρ, G, env, r, eo, ds, G2, e2, fun vs ρ1 H1 x1 r1 n1 => ?_⟩
  obtain ⟨z, e3, f1⟩ := (f.ex x1).of
  obtain ⟨env2, e4, e5⟩ := Option.map_eq_some_iff.mp e3
  subst e5
  have e4 : asgTs [.slot i, .slot j, .slot l] ds env = some env2 := e4
  have hl := asgTs_length e4
  obtain ⟨d1, d2, d3, rfl⟩ : ∃ d1 d2 d3, ds = [d1, d2, d3] := by
    match ds, hl with
    | [d1, d2, d3], _ => exact ⟨d1, d2, d3, rfl⟩
  · cases n1 with
    | cons m1 n1 =>
      obtain ⟨v2, v3, rfl, m2, m3⟩ := n1.two
      cases e4
      exact ⟨_, v2, v3, rfl, f1.use Ex.refl r1 ((((eo.ex x1).set m1 i).set m2 j).set m3 l)⟩
theorem FinU.seq {r : Res Store} {f : Store → RS} {Q : Hp → Prop} (h : FinS W ρ H (r.bind f) Ed) (q : ∀ G' ρ' H', Ex W ρ H ρ' H' → Rel W ρ' G' H' → FinS W ρ' H' (f G') Ed → Q H') : FinU W ρ H r Q := by
  obtain ⟨G', e, h⟩ := h.bind
  exact ⟨G', e, fun ρ' H' x r => q G' ρ' H' x r (h.ex x)⟩
/-- o[i] = e -/
theorem s_asub {p : Pos} (hX : Gx W k X) (ha : IsE W X a fa) (hb : IsE W X b fb) (hc : IsE W X c fc) (hs : swapsWithSole [.Subscript a b p] c pos.line X.env = pure false) (hsl : ∀ v, assign (.Subscript a b p) X.env v = (do
      let ov ← holding [v] (eval a X.env)
      let iv ← holding [v, ov] (eval b X.env)
      standAt p
      holding [v, ov, iv] (setItem ov iv v)
      release [v, ov, iv] [])) (hw : swappedStores [.Subscript a b p] c X.env = pure none) :
    IsS W X (.Assign [.Subscript a b p] c pos) (fun env G => (fc env G).bind fun v => (fa env v.2).bind fun x => (fb env x.2).bind fun y => (setS x.1 y.1 v.1 y.2).bind fun H => .ok (.next, env, H)) := by
  refine PS.imp (ps_asg hc (pg_sub ha hb (os_set hX) hsl) hs hw rfl) fun Ed σ H h => ?_
  obtain ⟨ρ, G, env, r, eo, f⟩ := h
  refine ⟨ρ, G, env, r, eo, f.seq fun d G1 v ρ1 H1 x1 r1 n1 f1 => ?_⟩
  refine ⟨ρ1, G1, env, r1, eo.ex x1, f1.seq fun d2 G2 v2 ρ2 H2 x2 r2 n2 f2 => ?_⟩
  refine ⟨ρ2, G2, env, r2, (eo.ex x1).ex x2, f2.seq fun d3 G3 v3 ρ3 H3 x3 r3 n3 f3 => ?_⟩
  exact ⟨ρ3, G3, d2, d3, d, r3, n2.ex x3, n3, n1.ex (x2.trans x3), FinU.seq f3 fun G4 ρ4 H4 x4 r4 f4 => f4.use Ex.refl r4 (((eo.ex x1).ex x2).ex (x3.trans x4))⟩
/-- o.f = e -/
theorem s_aattr {fl : Str} {p : Pos} (hX : Gx W k X) (hf : fl ∈ W.flds) (ha : IsE W X a fa) (hb : IsE W X b fb) (hs : swapsWith b (some (.Attribute a fl p)) pos.line X.env = pure false) :
    IsS W X (.Assign [.Attribute a fl p] b pos) (fun env G => (fb env G).bind fun v => (fa env v.2).bind fun x => (attrS x.1 fl v.1 x.2).bind fun H => .ok (.next, env, H)) := by
  refine PS.imp (ps_fld ha hb hs) fun Ed σ H h => ?_
  obtain ⟨ρ, G, env, r, eo, f⟩ := h
  refine ⟨ρ, G, env, r, eo, f.seq fun d G1 v ρ1 H1 x1 r1 n1 f1 => ?_⟩
  refine ⟨ρ1, G1, env, r1, eo.ex x1, f1.seq fun d2 G2 v2 ρ2 H2 x2 r2 n2 f2 => ?_⟩
  obtain ⟨G3, e3, f2⟩ := f2.bind
  cases d2 with
  | ref n =>
    have e3 : (match G2[n]? with
      | some (.ins c fs) => must (decide (fs.length < 1000)) (.ok (G2.set n (.ins c (Fw.putF fl d fs))))
      | _ => .stuck) = Res.ok G3 := e3
    split at e3
    · rename_i c fs hg
      obtain ⟨hl, e3⟩ := must_eq e3
      have hl := of_decide_eq_true hl
      cases e3
      cases n2 with
      | @ref q _ hq =>
        obtain ⟨c1, c2, dx, vs, h1, h2⟩ := r2.obj _ _ _ hq hg
        have n0 : (∀ ws, HO.ins (W.cad c) dx vs ≠ .tup ws) ∧ ∀ ob w, HO.ins (W.cad c) dx vs ≠ .frz ob w := ⟨fun vs z => (by cases z), fun ob w z => by cases z⟩
        have ex : Ex W ρ2 H2 ρ2 (upd H2 q (.ins (W.cad c) dx (L2.putF fl v vs))) := Ex.set (r2.nz hg fun l z => by cases z) hq h1 n0.1 n0.2
        have hlen : vs.length = fs.length := Paired.length h2
        refine ⟨q, W.cad c, dx, vs, rfl, h1, by rw [hX.K]; exact c1.1, by rw [hX.K]; exact c1.2 fl hf, by omega, ?_⟩
        refine f2.use ex (r2.write hq hg (fun l z => by cases z) (fun l z => by cases z) h1 n0.1 n0.2 ⟨c1, fun x hx => ?_, dx, _, upd_same, ((h2.put (n1.ex x2)).ex ex)⟩) ((eo.ex x1).ex (x2.trans ex))
        rcases putF_mem hx with e | ⟨y, hy, e⟩
        · rw [e]; exact hf
        · rw [← e]; exact c2 y hy
    · cases e3
  | _ => cases e3
/-! ### loops -/
theorem s_while {t : Expr} {ft : Env → Store → Res (Bool × Store)} {n : Nat} (hX : Gx W k X) (ht : IsB W X t ft) (hb : IsSs W X sts f) : IsS W X (.While t sts [] pos) (fun env G => whileL ft f n env G) := by
  refine PS.imp (ps_while (by rw [hX.xe]; exact PassesOwn.never) ht hb) fun Ed σ H h => ?_
  obtain ⟨ρ, G, env, r, eo, q⟩ := h
  refine ⟨fun m σ H => ∃ ρ G env, Rel W ρ G H ∧ EnvOk W ρ H σ env ∧ FinS W ρ H (whileL ft f m env G) Ed, ⟨n, ρ, G, env, r, eo, q⟩, ?_⟩
  rintro m σ1 H1 ⟨ρ1, G1, env1, r1, eo1, q1⟩
  cases m with
  | zero => exact (FinS.stuck q1).elim
  | succ m =>
    unfold whileL at q1
    refine ⟨ρ1, G1, env1, r1, eo1, q1.seqB fun d G2 ρ2 H2 x2 r2 q2 => ?_⟩
    cases d with
    | false => rw [if_neg (by decide)]; exact q2.use Ex.refl r2 (eo1.ex x2)
    | true =>
      rw [if_pos rfl]
      refine ⟨fun σ' H' => ∃ ρ G env, Rel W ρ G H' ∧ EnvOk W ρ H' σ' env ∧ FinS W ρ H' (whileL ft f m env G) Ed, fun σ' H' h => ⟨m, Nat.lt_succ_self m, h⟩, ?_⟩
      obtain ⟨⟨fl, env3, G3⟩, e3, q2⟩ := q2.bind
      refine ⟨ρ2, G2, env1, r2, eo1.ex x2, fl, env3, G3, e3, fun σ3 ρ3 H3 x3 r3 eo3 => ?_⟩
      have q3 := q2.ex x3
      cases fl with
      | next => exact ⟨ρ3, G3, env3, r3, eo3, q3⟩
      | cont => exact ⟨ρ3, G3, env3, r3, eo3, q3⟩
      | brk => exact q3.use Ex.refl r3 eo3
      | ret d => exact fun v hv => q3.use Ex.refl r3 eo3 v hv
theorem s_for {t : T} {fI : Env → Store → Res (Wk × Store)} (hX : Gx W k X) (hi : IsI W X tg a fI) (hg : PG X tg (gT W t)) (hb : IsSs W X sts f) (hs : noSet a = true) :
    IsS W X (.For tg a sts [] pos) (fun env G => (fI env G).bind fun w => forL w.1.2.1 w.1.2.2 t f w.1.1 env w.2) := by
  refine PS.imp (ps_for (by rw [hX.xe]; exact PassesOwn.never) hX.calm hi hg hb (folded hs)) fun Ed σ H h => ?_
  obtain ⟨ρ, G, env, r, eo, q⟩ := h
  obtain ⟨⟨w, G1⟩, e1, q⟩ := q.bind
  refine ⟨ρ, G, env, r, eo, w, G1, e1, fun ρ1 H1 J x1 r1 wk => ?_⟩
  have eo1 := eo.ex x1
  have q := q.ex x1
  refine ⟨fun i m σ H => m = w.1.length - i ∧ i ≤ w.1.length ∧ ∃ ρ G env, Ex W ρ1 H1 ρ H ∧ Rel W ρ G H ∧ EnvOk W ρ H σ env ∧ FinS W ρ H (forL w.2.1 w.2.2 t f (w.1.drop i) env G) Ed,
    ⟨w.1.length, by simp, Nat.zero_le _, ρ1, G1, env, Ex.refl, r1, eo1, by simpa using q⟩, ?_⟩
  rintro i m σ5 H5 ⟨rfl, hi, ρ5, G5, env5, x5, r5, eo5, q5⟩
  by_cases hlt : i < w.1.length
  · have hdrop : w.1.drop i = w.1[i] :: w.1.drop (i + 1) := List.drop_eq_getElem_cons hlt
    rw [hdrop] at q5
    unfold forL at q5
    obtain ⟨hc, q5⟩ := q5.must
    rw [Bool.and_eq_true] at hc
    refine .inr ⟨wk.goes i ρ5 G5 H5 hlt x5 r5 hc.1 hc.2, fun σ' H' => ∃ ρ G env, Ex W ρ1 H1 ρ H' ∧ Rel W ρ G H' ∧ EnvOk W ρ H' σ' env ∧ FinS W ρ H' (forL w.2.1 w.2.2 t f (w.1.drop (i + 1)) env G) Ed, fun σ' H' nx => ⟨w.1.length - (i + 1), by omega, rfl, hlt, nx⟩, fun x H' y => ?_⟩
    obtain ⟨x6, r6, d, ed, nd⟩ := wk.yields i ρ5 G5 H5 x H' hlt x5 r5 hc.1 hc.2 y
    rw [List.getElem?_eq_getElem hlt] at ed
    cases ed
    have q6 := q5.ex x6
    split at q6
    · rename_i env2 ea
      refine ⟨ρ5, G5, env5, w.1[i], env2, r6, eo5.ex x6, nd, ea, fun σ2 eo2 _ => ?_⟩
      obtain ⟨⟨fl, env3, G3⟩, e3, q7⟩ := q6.bind
      refine ⟨ρ5, G5, env2, r6, eo2, fl, env3, G3, e3, fun σ3 ρ3 H3 x3 r3 eo3 => ?_⟩
      have q8 := q7.ex x3
      cases fl with
      | next => exact ⟨ρ3, G3, env3, (x5.trans x6).trans x3, r3, eo3, q8⟩
      | cont => exact ⟨ρ3, G3, env3, (x5.trans x6).trans x3, r3, eo3, q8⟩
      | brk => exact q8.use Ex.refl r3 eo3
      | ret d => exact fun v hv => q8.use Ex.refl r3 eo3 v hv
    · exact q6.stuck.elim
  · have e : i = w.1.length := by omega
    subst e
    rw [List.drop_length] at q5
    unfold forL at q5
    obtain ⟨hc, q5⟩ := q5.must
    rw [Bool.and_eq_true] at hc
    exact .inl ⟨wk.stops ρ5 G5 H5 x5 r5 hc.1 hc.2, q5.use Ex.refl r5 eo5⟩
end
end Fw

/-! Fw2p: the look at a text: does an expression of the program say what the small language says. -/
namespace Fw
open L2 PySem PySem.Spec PyProof.Rows
/-- the program's names -/
structure Lk where
  fns : List (Str × Nat)
  cls : List (Str × Nat × Nat)
  con : List (Str × D)
  free : List Str
  flds : List Str
def lkp (sc : Scope) (x : Str) : Option NameKind := sc.names.lookup x
def notDbg (x : Str) : Bool := !(x == ("__debug__" : Str))
def glC (sc : Scope) (x : Str) : Bool := decide (lkp sc x = some .globalImplicit)
def visC (sc : Scope) (x : Str) : Bool := decide (lkp sc x = some .local) || decide (lkp sc x = some .cell) || decide (lkp sc x = some .free)
def locC (sc : Scope) (x : Str) : Bool := decide (lkp sc x = some .local) || decide (lkp sc x = some .cell)
def conC (d : D) (c : Const) : Bool := match d, c with
  | .non, .none => true
  | .bl b, .bool c => decide (b = c)
  | .int i, .int j => decide (i = j)
  | .str s, .str z => decide (z.cps.toList = s)
  | _, _ => false
def opC (o : Bin) (op : Operator) : Bool := match o, op with
  | .add, .Add => true
  | .sub, .Sub => true
  | .mul, .Mult => true
  | .fdiv, .FloorDiv => true
  | .mod, .Mod => true
  | .pow, .Pow => true
  | _, _ => false
def cmpC (o : Cmp) (op : CmpOp) : Bool := match o, op with
  | .eq, .Eq => true
  | .ne, .NotEq => true
  | .lt, .Lt => true
  | .le, .LtE => true
  | .gt, .Gt => true
  | .ge, .GtE => true
  | .in_, .In => true
  | .nin, .NotIn => true
  | .isn, .Is => true
  | .notn, .IsNot => true
  | _, _ => false
def notSlice : Expr → Bool
  | .Slice .. => false
  | _ => true
def notSuper : Expr → Bool
  | .Call (.Name _ _) [] [] _ => false
  | _ => true
def plainTest : Expr → Bool
  | .UnaryOp .Not _ _ => false
  | .BoolOp .. => false
  | .IfExp .. => false
  | .Compare .. => false
  | _ => true
def notComp : Expr → Bool
  | .ListComp .. => false
  | .SetComp .. => false
  | .DictComp .. => false
  | _ => true
def isCmp : E → Bool
  | .cmp .. => true
  | .chain .. => true
  | _ => false
def Bif.nm : Bif → Str
  | .len => "len" | .abs => "abs" | .int => "int" | .sum => "sum" | .min => "min" | .max => "max" | .sorted => "sorted" | .tuple => "tuple" | .list => "list" | .dict => "dict" | .repr => "repr" | .str => "str" | .all => "all" | .any => "any"
  | .sortedSet => "sorted" | .lenSet => "len"
def bifOk : Bif → Bool
  | .len => true
  | .abs => true
  | .int => true
  | .sum => true
  | .sorted => true
  | .tuple => true
  | .repr => true
  | .all => true
  | .any => true
  | _ => false
mutual
def okT (N : List Str) (sc : Scope) (fn : Str → Bool) : T → Expr → Bool
  | .slot i, x => (match x with
    | .Name y _ => decide (N[i]? = some y) && locC sc y && (fn y || decide (lkp sc y = some .local))
    | _ => false)
  | .tup ts, x => (match x with
    | .Tuple es _ _ => okTs N sc fn ts es
    | _ => false)
def okTs (N : List Str) (sc : Scope) (fn : Str → Bool) : List T → List Expr → Bool
  | [], es => es.isEmpty
  | t :: ts, es => (match es with
    | e :: es => okT N sc fn t e && noStar e && okTs N sc fn ts es
    | [] => false)
end
def ownN (N : List Str) (own : List Nat) : List (Str × Nat) := own.filterMap fun i => N[i]?.map fun x => (x, i)
def lcFn (scope : Scope) (x : Str) : Bool := scope.names.lookup x == some .cell
mutual
def okE (L : Lk) (N : List Str) : E → Scope → Expr → Bool
  | .var i, sc, x => (match x with
    | .Name y _ => decide (N[i]? = some y) && visC sc y && notDbg y && !(y == ("__classdict__" : Str))
    | _ => false)
  | .con d, sc, x => (match x with
    | .Constant c _ _ => conC d c
    | .Name y _ => glC sc y && decide (L.con.lookup y = some d) && notDbg y
    | _ => false)
  | .bin o a b, sc, x => (match x with
    | .BinOp l op r _ => opC o op && okE L N a sc l && okE L N b sc r
    | _ => false)
  | .neg a, sc, x => (match x with
    | .UnaryOp .USub y _ => okE L N a sc y
    | _ => false)
  | .cmp o a b, sc, x => (match x with
    | .Compare l [op] [r] _ => cmpC o op && okE L N a sc l && okE L N b sc r && !behindInMarks op r
    | _ => false)
  | .chain o p a b c, sc, x => (match x with
    | .Compare l [op, op'] [m, r] _ => cmpC o op && cmpC p op' && okE L N a sc l && okE L N b sc m && okE L N c sc r && !lastMarks [op, op'] [m, r]
    | _ => false)
  | .and a b, sc, x => (match x with
    | .BoolOp .And (y :: z :: rest) pos => okE L N a sc y && okE L N b sc (match rest with
      | [] => z
      | _ => .BoolOp .And (z :: rest) pos)
    | _ => false)
  | .or a b, sc, x => (match x with
    | .BoolOp .Or (y :: z :: rest) pos => okE L N a sc y && okE L N b sc (match rest with
      | [] => z
      | _ => .BoolOp .Or (z :: rest) pos)
    | _ => false)
  | .not a, sc, x => (match x with
    | .UnaryOp .Not y _ => okE L N a sc y
    | _ => false)
  | .ite t a b, sc, x => (match x with
    | .IfExp c y z _ => okB L N t sc c && okE L N a sc y && okE L N b sc z
    | _ => false)
  | .tup l, sc, x => (match x with
    | .Tuple es _ _ => okEs L N l sc es
    | _ => false)
  | .lst l, sc, x => (match x with
    | .List es _ => okEs L N l sc es
    | _ => false)
  | .dct l, sc, x => (match x with
    | .Dict keys values _ => okP L N l sc keys values && decide (keys.length ≤ 15)
    | _ => false)
  | .idx a b, sc, x => (match x with
    | .Subscript y i _ => okE L N a sc y && okE L N b sc i && notSlice i
    | _ => false)
  | .sl a lo hi, sc, x => (match x with
    | .Subscript y (.Slice l h none _) _ => okE L N a sc y && okO L N lo sc l && okO L N hi sc h
    | _ => false)
  | .rev _, _, _ => false
  | .fld a f, sc, x => (match x with
    | .Attribute y g _ => decide (g = f) && decide (f ∈ L.flds) && okE L N a sc y && notSuper y
    | _ => false)
  | .call f l, sc, x => (match x with
    | .Call (.Name y _) (e :: es) [] _ => glC sc y && decide (L.fns.lookup y = some f) && notDbg y && okEs L N l sc (e :: es)
    | _ => false)
  | .new c f l, sc, x => (match x with
    | .Call (.Name y _) (e :: es) [] _ => glC sc y && decide (L.cls.lookup y = some (c, f)) && notDbg y && okEs L N l sc (e :: es)
    | _ => false)
  | .mcall .., _, _ => false
  | .bif b l, sc, x => (match x with
    | .Call (.Name y _) (e :: es) [] _ => decide (y = b.nm) && bifOk b && glC sc y && decide (y ∈ L.free) && okEs L N l sc (e :: es)
    | _ => false)
  | .mth m o l, sc, x => (match x with
    | .Call (.Attribute y g apos) es [] cpos => decide (g = m.nm) && okE L N o sc y && okEs L N l sc es && decide (es.length < 29) && notSuper y && (apos.endLine == cpos.line)
    | _ => false)
  | .isT t a, sc, x => (match x with
    | .Call (.Name y _) [z, .Name w _] [] _ => decide (y = "isinstance") && decide (w = t.nm) && glC sc y && glC sc w && decide (y ∈ L.free) && decide (w ∈ L.free) && okE L N a sc z && noStar z
    | _ => false)
  | .isC .., _, _ => false
  | .lc e t it cs own, sc, x => (match x with
    | .ListComp elt [⟨tg, iter, ifs, 0⟩] scope _ => okI L N it sc iter tg && blkC N sc scope (ownN N own) && decide ((ownN N own).map (·.2) = own) && okT N (relS scope sc) (lcFn scope) t tg && okBs L N cs (relS scope sc) ifs && okE L N e (relS scope sc) elt && noSet iter && (slotsT t).all fun i => decide (i ∈ own)
    | _ => false)
  | .dc k v t it cs own, sc, x => (match x with
    | .DictComp kx vx [⟨tg, iter, ifs, 0⟩] scope _ => okI L N it sc iter tg && blkC N sc scope (ownN N own) && decide ((ownN N own).map (·.2) = own) && okT N (relS scope sc) (lcFn scope) t tg && okBs L N cs (relS scope sc) ifs && okE L N k (relS scope sc) kx && okE L N v (relS scope sc) vx && noSet iter && (slotsT t).all fun i => decide (i ∈ own)
    | _ => false)
def okEs (L : Lk) (N : List Str) : List E → Scope → List Expr → Bool
  | [], _, es => es.isEmpty
  | e :: l, sc, es => (match es with
    | x :: es => okE L N e sc x && noStar x && okEs L N l sc es
    | [] => false)
def okP (L : Lk) (N : List Str) : List E → Scope → List (Option Expr) → List Expr → Bool
  | [], _, ks, vs => ks.isEmpty && vs.isEmpty
  | [_], _, _, _ => false
  | a :: b :: l, sc, ks, vs => (match ks, vs with
    | some k :: ks, v :: vs => okE L N a sc k && okE L N b sc v && okP L N l sc ks vs
    | _, _ => false)
def okO (L : Lk) (N : List Str) : Option E → Scope → Option Expr → Bool
  | none, _, x => x.isNone
  | some e, sc, x => (match x with
    | some y => okE L N e sc y
    | none => false)
def okB (L : Lk) (N : List Str) : B → Scope → Expr → Bool
  | .and a b, sc, x => (match x with
    | .BoolOp .And (y :: z :: rest) pos => okB L N a sc y && okB L N b sc (match rest with
      | [] => z
      | _ => .BoolOp .And (z :: rest) pos)
    | _ => false)
  | .or a b, sc, x => (match x with
    | .BoolOp .Or (y :: z :: rest) pos => okB L N a sc y && okB L N b sc (match rest with
      | [] => z
      | _ => .BoolOp .Or (z :: rest) pos)
    | _ => false)
  | .not a, sc, x => (match x with
    | .UnaryOp .Not y _ => okB L N a sc y
    | _ => false)
  | .val e, sc, x => okE L N e sc x && (plainTest x || isCmp e)
def okBs (L : Lk) (N : List Str) : List B → Scope → List Expr → Bool
  | [], _, es => es.isEmpty
  | b :: l, sc, es => (match es with
    | [x] => okB L N b sc x && l.isEmpty
    | _ => false)
def okI (L : Lk) (N : List Str) : I → Scope → Expr → Expr → Bool
  | .pl e, sc, x, _ => okE L N e sc x
  | .r1 e, sc, x, _ => (match x with
    | .Call (.Name y _) [z] [] _ => decide (y = "range") && glC sc y && decide (y ∈ L.free) && okE L N e sc z && noStar z
    | _ => false)
  | .r2 a b, sc, x, _ => (match x with
    | .Call (.Name y _) [z, w] [] _ => decide (y = "range") && glC sc y && decide (y ∈ L.free) && okE L N a sc z && okE L N b sc w && noStar z && noStar w
    | _ => false)
  | .en e, sc, x, tg => (match x, tg with
    | .Call (.Name y _) [z] [] _, .Tuple .. => decide (y = "enumerate") && glC sc y && decide (y ∈ L.free) && okE L N e sc z && noStar z
    | _, _ => false)
  | .zp .., _, _, _ => false
  | .its .., _, _, _ => false
  | .vls .., _, _, _ => false
end
end Fw

/-! Fw2q: what the look sees is so: expressions. -/
namespace Fw
open L2 PySem PySem.Spec PyProof.Rows
variable {W : Wd}
/-- a context of a def's body or a comprehension's block -/
structure At (W : Wd) (k : Nat) (N : List Str) (sc : Scope) (fn : Str → Bool) (X : Cx) : Prop where
  gx : Gx W k X
  N : X.N = N
  sc : X.env.scope = sc
  fn : ∀ x, fn x = true → X.fn x = true
/-- the names are what they are said to be -/
structure LkOk (W : Wd) (L : Lk) (j : Nat) (C : Ctx) : Prop where
  fns : ∀ x f, L.fns.lookup x = some f → W.mg x = some (.ref (W.fad f)) ∧ PySem.W.keepIn W.K (.ref (W.fad f)) = true ∧ FnG W j (C.call f) (W.fad f)
  cls : ∀ x c f, L.cls.lookup x = some (c, f) → W.mg x = some (.ref (W.cad c)) ∧ Mk W.K (W.cad c) (W.fad f) ∧ (Cls W.K (W.cad c) ∧ ∀ f ∈ W.flds, NoAttr W.K (W.cad c) f) ∧ FnG W j (C.call f) (W.fad f)
  con : ∀ x d, L.con.lookup x = some d → ∃ v u, W.mg x = some u ∧ RelV v u ∧ ∀ ρ H, Dn W ρ H v d
  free : ∀ x ∈ L.free, W.mg x = none
  flds : L.flds = W.flds
section
variable {X : Cx} {j k : Nat} {N : List Str} {sc : Scope} {fn : Str → Bool} {L : Lk} {C : Ctx} {σ : L2.St} {s : Shared} {ρ ρ' : List Addr} {H H' : Hp} {G : Store} {Q : V → Hp → Prop} {x : Str} {a b : Expr} {pos : Pos}
theorem and2 {p q : Bool} (h : (p && q) = true) : p = true ∧ q = true := Bool.and_eq_true_iff.mp h
theorem visC_ok (A : At W k N sc fn X) (h : visC sc x = true) : Vis X.env.scope x := by
  unfold visC lkp at h
  simp only [Bool.or_eq_true, decide_eq_true_eq] at h
  rw [A.sc]
  rcases h with (h | h) | h
  · exact .inl h
  · exact .inr (.inl h)
  · exact .inr (.inr h)
theorem locC_ok (A : At W k N sc fn X) (h : locC sc x = true) : Loc X.env.scope x := by
  unfold locC lkp at h
  simp only [Bool.or_eq_true, decide_eq_true_eq] at h
  rw [A.sc]
  exact h
theorem glC_ok (A : At W k N sc fn X) (h : glC sc x = true) : Gl X x := by
  unfold glC lkp at h
  have h := of_decide_eq_true h
  show X.env.scope.names.lookup x = _
  rw [A.sc]; exact h
theorem dbg_ok (h : notDbg x = true) : (x == ("__debug__" : Str)) = false := by
  unfold notDbg at h
  simpa using h
theorem free_ok (A : At W k N sc fn X) (O : LkOk W L j C) (h : x ∈ L.free) : X.mg x = none := by rw [A.gx.mg]; exact O.free x h
theorem base_of {env : PySem.Env} {f : Str} (h : notSuper a = true) (w : Sem Value) : attributeBase a f env w = w := by
  cases a with
  | Call g args kws p =>
    cases g with
    | Name id q =>
      cases args with
      | nil =>
        cases kws with
        | nil => cases h
        | cons _ _ => rfl
      | cons _ _ => rfl
    | _ => rfl
  | _ => rfl
theorem plainIx_of (h : notSlice a = true) : PlainIx a := by
  intro o i
  cases a <;> first | rfl | cases h
theorem test_plain {env : PySem.Env} (h : plainTest a = true) : ∀ whole, isTrue a env whole = (do let v ← whole; standAt a.pos; holding [v] (truthy v)) := by
  intro whole
  cases a with
  | UnaryOp op x p => cases op <;> first | rfl | cases h
  | BoolOp _ _ _ => cases h
  | IfExp _ _ _ _ => cases h
  | Compare _ _ _ _ => cases h
  | _ => rfl
theorem opC_ok {o : Bin} {op : Operator} (hX : Gx W k X) (h : opC o op = true) : OpR X (binaryOp op) (rD2 W (binS o)) := by
  cases o <;> cases op <;> first
    | (cases h; done)
    | exact od_add hX.K
    | exact od_sub
    | exact od_mul
    | exact od_fdiv
    | exact od_mod
    | exact od_pow
theorem cmpC_ok {o : Cmp} {op : CmpOp} (hX : Gx W k X) (h : cmpC o op = true) : OpR X (compareOp op) (rD2 W (cmpS o)) := by
  cases o <;> cases op <;> first
    | (cases h; done)
    | exact oc_eq hX
    | exact oc_ne hX
    | exact oc_lt hX
    | exact oc_le
    | exact oc_gt
    | exact oc_ge
    | exact oc_in hX
    | exact oc_nin hX
    | exact oc_isn
    | exact oc_notn
theorem bif_ok {t : Bif} (hX : Gx W k X) (h : bifOk t = true) : (∃ id, bootBuiltins t.nm = some (.builtin id) ∧ CallR X (.builtin id) (rDL W (bifS t))) ∨ ∃ T, bootBuiltins t.nm = some (.type T) ∧ CallR X (.type T) (rDL W (bifS t)) := by
  cases t <;> first
    | (cases h; done)
    | exact .inl ⟨_, boot_len, cb_len hX⟩
    | exact .inl ⟨_, boot_abs, cb_abs hX⟩
    | exact .inr ⟨_, boot_int, cb_int hX⟩
    | exact .inl ⟨_, PyProof.Rows.boot_sum, cb_sum hX⟩
    | exact .inl ⟨_, boot_sorted, cb_sorted hX⟩
    | exact .inr ⟨_, boot_tuple, cb_tuple hX⟩
    | exact .inl ⟨_, boot_repr, cb_repr hX⟩
    | exact .inl ⟨_, PyProof.Rows.boot_all, cb_all hX⟩
    | exact .inl ⟨_, PyProof.Rows.boot_any, cb_any hX⟩
theorem conC_ok {d : D} {c : Const} {q : Nat} (h : conC d c = true) : IsE W X (.Constant c q pos) (fun _ G => .ok (d, G)) := by
  cases d <;> cases c <;> first
    | (cases h; done)
    | skip
  · exact is_con pe_non fun _ _ => .non
  · cases of_decide_eq_true h
    exact is_con pe_bl fun _ _ => .bl _
  · cases of_decide_eq_true h
    exact is_con pe_int fun _ _ => .int _
  · rename_i s z
    have h : z.cps.toList = s := of_decide_eq_true h
    subst h
    exact is_con pe_str fun _ _ => by
      have := Dn.str (W := W) (ρ := ‹List Addr›) (H := ‹Hp›) z.cps.toList
      simpa using this
theorem IsE.cast {f g : FE} {e : Expr} (h : IsE W X e f) (q : g = f) : IsE W X e g := q ▸ h
theorem okEs_star : ∀ {l : List E} {es : List Expr}, okEs L N l sc es = true → es.all noStar = true ∧ es.length = l.length
  | [], es, h => by
    unfold okEs at h
    cases es with
    | nil => exact ⟨rfl, rfl⟩
    | cons _ _ => cases h
  | e :: l, es, h => by
    unfold okEs at h
    cases es with
    | nil => cases h
    | cons x es =>
      obtain ⟨h, h3⟩ := and2 h
      obtain ⟨h1, h2⟩ := and2 h
      obtain ⟨q1, q2⟩ := okEs_star h3
      exact ⟨by rw [List.all_cons, h2, q1]; rfl, by rw [List.length_cons, List.length_cons, q2]⟩
theorem ownN_ix {own : List Nat} : ∀ p ∈ ownN N own, N[p.2]? = some p.1 := by
  intro p hp
  obtain ⟨i, hi, e⟩ := List.mem_filterMap.mp hp
  obtain ⟨x, e1, e2⟩ := Option.map_eq_some_iff.mp e
  subst e2
  exact e1
/-- the block of a comprehension -/
theorem At.blk (A : At W k N sc fn X) {scope : Scope} (s : Shared) (H : Hp) (C : Addr) (cl : List (Str × Addr)) (fp : List Addr) : At W k N (relS scope sc) (lcFn scope) (X.blk s H scope (compEnvC scope cl C X.env) fp) := by
  refine ⟨⟨A.gx.prog, A.gx.w, A.gx.K, A.gx.mg, A.gx.base, A.gx.calm, A.gx.nd, A.gx.gs, A.gx.room, rfl⟩, A.N, ?_, fun x h => h⟩
  show (compEnvC scope cl C X.env).scope = _
  rw [← A.sc]; rfl
mutual
theorem soT (A : At W k N sc fn X) : ∀ (t : T) (e : Expr), okT N sc fn t e = true → PG X e (gT W t)
  | .slot i, e, h => by
    unfold okT at h
    split at h
    · obtain ⟨h, h3⟩ := and2 h
      obtain ⟨h1, h2⟩ := and2 h
      refine ig_name A.gx.nd (by rw [A.N]; exact of_decide_eq_true h1) (locC_ok A h2) ?_
      rw [Bool.or_eq_true] at h3
      rcases h3 with h3 | h3
      · exact .inl (A.fn _ h3)
      · exact .inr (by rw [A.sc]; exact of_decide_eq_true h3)
    · cases h
  | .tup ts, e, h => by
    unfold okT at h
    split at h
    · obtain ⟨q1, q2, q3⟩ := soTs A ts _ h
      exact ig_tup A.gx q2 q3 q1
    · cases h
theorem soTs (A : At W k N sc fn X) : ∀ (ts : List T) (es : List Expr), okTs N sc fn ts es = true → PGs X es (gTs W ts) ∧ es.all noStar = true ∧ es.length = ts.length
  | [], es, h => by
    unfold okTs at h
    cases es with
    | nil => exact ⟨igs_nil, rfl, rfl⟩
    | cons _ _ => cases h
  | t :: ts, es, h => by
    unfold okTs at h
    cases es with
    | nil => cases h
    | cons e es =>
      obtain ⟨h, h3⟩ := and2 h
      obtain ⟨h1, h2⟩ := and2 h
      obtain ⟨q1, q2, q3⟩ := soTs A ts es h3
      exact ⟨igs_cons h2 (soT A t e h1) q1, by rw [List.all_cons, h2, q2]; rfl, by rw [List.length_cons, List.length_cons, q3]⟩
end
theorem val_plain {e : E} {x : Expr} {f : FE} (A : At W k N sc fn X) (hc : isCmp e = false) (h : okB L N (.val e) sc x = true) (q : IsE W X x f) : IsB W X x (fun env G => (f env G).bind fun x => Res.of ((truthS x.2 x.1).map fun b => (b, x.2))) := by
  have h : (okE L N e sc x && (plainTest x || isCmp e)) = true := h
  obtain ⟨_, h2⟩ := and2 h
  rw [hc, Bool.or_false] at h2
  exact ib_val A.gx q (test_plain h2)
mutual
theorem soE (O : LkOk W L j C) : ∀ (e : E) {sc : Scope} {fn : Str → Bool} {X : Cx} {x : Expr}, At W (j + 1) N sc fn X → okE L N e sc x = true → IsE W X x (evE C e)
  | .var i, sc, fn, X, x, A, h => by
    unfold okE at h
    split at h
    · obtain ⟨h, h4⟩ := and2 h
      obtain ⟨h, h3⟩ := and2 h
      obtain ⟨h1, h2⟩ := and2 h
      exact (is_var (by rw [A.N]; exact of_decide_eq_true h1) (visC_ok A h2) (dbg_ok h3) (by simpa using h4)).cast rfl
    · cases h
  | .con d, sc, fn, X, x, A, h => by
    unfold okE at h
    split at h
    · exact (conC_ok h).cast rfl
    · obtain ⟨h, h3⟩ := and2 h
      obtain ⟨h1, h2⟩ := and2 h
      obtain ⟨v, u, g1, g2, g3⟩ := O.con _ _ (of_decide_eq_true h2)
      exact (is_con (pe_glob (glC_ok A h1) (by rw [A.gx.mg]; exact g1) g2 (dbg_ok h3)) g3).cast rfl
    · cases h
  | .bin o a b, sc, fn, X, x, A, h => by
    unfold okE at h
    split at h
    · obtain ⟨h, h3⟩ := and2 h
      obtain ⟨h1, h2⟩ := and2 h
      exact (is_bin (opC_ok A.gx h1) (soE O a A h2) (soE O b A h3)).cast rfl
    · cases h
  | .neg a, sc, fn, X, x, A, h => by
    unfold okE at h
    split at h
    · exact (is_neg (soE O a A h)).cast rfl
    · cases h
  | .cmp o a b, sc, fn, X, x, A, h => by
    unfold okE at h
    split at h
    · obtain ⟨h, h4⟩ := and2 h
      obtain ⟨h, h3⟩ := and2 h
      obtain ⟨h1, h2⟩ := and2 h
      exact (is_cmp (cmpC_ok A.gx h1) (soE O a A h2) (soE O b A h3) (by simpa using h4)).cast rfl
    · cases h
  | .chain o p a b c, sc, fn, X, x, A, h => by
    unfold okE at h
    split at h
    · obtain ⟨h, h6⟩ := and2 h
      obtain ⟨h, h5⟩ := and2 h
      obtain ⟨h, h4⟩ := and2 h
      obtain ⟨h, h3⟩ := and2 h
      obtain ⟨h1, h2⟩ := and2 h
      exact (is_chain (cmpC_ok A.gx h1) (cmpC_ok A.gx h2) (soE O a A h3) (soE O b A h4) (soE O c A h5) (by simpa using h6)).cast rfl
    · cases h
  | .and a b, sc, fn, X, x, A, h => by
    unfold okE at h
    split at h
    · rename_i y z rest pos
      obtain ⟨h1, h2⟩ := and2 h
      refine (is_and A.gx (soE O a A h1) (?_ : IsE W X (.BoolOp .And (z :: rest) pos) (evE C b))).cast rfl
      cases rest with
      | nil => exact is_one (soE O b A h2)
      | cons w rest => exact soE O b A h2
    · cases h
  | .or a b, sc, fn, X, x, A, h => by
    unfold okE at h
    split at h
    · rename_i y z rest pos
      obtain ⟨h1, h2⟩ := and2 h
      refine (is_or A.gx (soE O a A h1) (?_ : IsE W X (.BoolOp .Or (z :: rest) pos) (evE C b))).cast rfl
      cases rest with
      | nil => exact is_one (soE O b A h2)
      | cons w rest => exact soE O b A h2
    · cases h
  | .not a, sc, fn, X, x, A, h => by
    unfold okE at h
    split at h
    · exact (is_not A.gx (soE O a A h)).cast rfl
    · cases h
  | .ite t a b, sc, fn, X, x, A, h => by
    unfold okE at h
    split at h
    · obtain ⟨h, h3⟩ := and2 h
      obtain ⟨h1, h2⟩ := and2 h
      exact (is_ite (soB O t A h1) (soE O a A h2) (soE O b A h3)).cast rfl
    · cases h
  | .tup l, sc, fn, X, x, A, h => by
    unfold okE at h
    split at h
    · exact (is_tup (soEs O l A h)).cast rfl
    · cases h
  | .lst l, sc, fn, X, x, A, h => by
    unfold okE at h
    split at h
    · exact (is_lst (soEs O l A h)).cast rfl
    · cases h
  | .dct l, sc, fn, X, x, A, h => by
    unfold okE at h
    split at h
    · rename_i keys values pos
      obtain ⟨h1, h2⟩ := and2 h
      obtain ⟨q1, q2, q3, q4⟩ := soP O l (pos := pos) A h1
      cases keys with
      | nil =>
        cases values with
        | nil =>
          cases l with
          | nil => exact is_dct0.cast rfl
          | cons _ _ => exact absurd (q4 rfl) (by simp)
        | cons _ _ => cases q3
      | cons k ks => exact (is_dct A.gx q1 q2 q3 (by simp) (of_decide_eq_true h2)).cast rfl
    · cases h
  | .idx a b, sc, fn, X, x, A, h => by
    unfold okE at h
    split at h
    · obtain ⟨h, h3⟩ := and2 h
      obtain ⟨h1, h2⟩ := and2 h
      exact (is_ix (ox_idx A.gx) (soE O a A h1) (soE O b A h2) (plainIx_of h3)).cast rfl
    · cases h
  | .sl a lo hi, sc, fn, X, x, A, h => by
    unfold okE at h
    split at h
    · obtain ⟨h, h3⟩ := and2 h
      obtain ⟨h1, h2⟩ := and2 h
      exact (is_sl A.gx (soE O a A h1) (soO O lo A h2) (soO O hi A h3)).cast rfl
    · cases h
  | .rev a, sc, fn, X, x, A, h => by unfold okE at h; cases h
  | .fld a f, sc, fn, X, x, A, h => by
    unfold okE at h
    split at h
    · obtain ⟨h, h4⟩ := and2 h
      obtain ⟨h, h3⟩ := and2 h
      obtain ⟨h1, h2⟩ := and2 h
      cases of_decide_eq_true h1
      exact (is_fld A.gx (by rw [← O.flds]; exact of_decide_eq_true h2) (soE O a A h3) (base_of h4 _)).cast rfl
    · cases h
  | .call f l, sc, fn, X, x, A, h => by
    unfold okE at h
    split at h
    · obtain ⟨h, h4⟩ := and2 h
      obtain ⟨h, h3⟩ := and2 h
      obtain ⟨h1, h2⟩ := and2 h
      obtain ⟨g1, g2, g3⟩ := O.fns _ _ (of_decide_eq_true h2)
      have hs := (okEs_star h4).1
      rw [List.all_cons] at hs
      obtain ⟨s1, s2⟩ := and2 hs
      exact (is_call (g3.mono (Nat.le_succ j)) A.gx (glC_ok A h1) (by rw [A.gx.mg]; exact g1) g2 (dbg_ok h3) s1 s2 (soEs O l A h4)).cast rfl
    · cases h
  | .new c f l, sc, fn, X, x, A, h => by
    unfold okE at h
    split at h
    · obtain ⟨h, h4⟩ := and2 h
      obtain ⟨h, h3⟩ := and2 h
      obtain ⟨h1, h2⟩ := and2 h
      obtain ⟨g1, g2, g3, g4⟩ := O.cls _ _ _ (of_decide_eq_true h2)
      have hs := (okEs_star h4).1
      rw [List.all_cons] at hs
      obtain ⟨s1, s2⟩ := and2 hs
      exact (is_new g4 g2 g3 A.gx (glC_ok A h1) (by rw [A.gx.mg]; exact g1) (dbg_ok h3) s1 s2 (soEs O l A h4)).cast rfl
    · cases h
  | .mcall .., sc, fn, X, x, A, h => by unfold okE at h; cases h
  | .bif t l, sc, fn, X, x, A, h => by
    unfold okE at h
    split at h
    · obtain ⟨h, h5⟩ := and2 h
      obtain ⟨h, h4⟩ := and2 h
      obtain ⟨h, h3⟩ := and2 h
      obtain ⟨h1, h2⟩ := and2 h
      have e1 := of_decide_eq_true h1
      subst e1
      have hs := (okEs_star h5).1
      rw [List.all_cons] at hs
      obtain ⟨s1, s2⟩ := and2 hs
      have hn : t.nm ≠ "__name__" := by cases t <;> decide
      have hd : (t.nm == ("__debug__" : Str)) = false := by cases t <;> decide
      rcases bif_ok (t := t) A.gx h2 with ⟨id, b1, b2⟩ | ⟨T, b1, b2⟩
      · exact (is_callR b2 (glC_ok A h3) (free_ok A O (of_decide_eq_true h4)) b1 hn hd s1 s2 (soEs O l A h5)).cast rfl
      · exact (is_callT b2 (glC_ok A h3) (free_ok A O (of_decide_eq_true h4)) b1 hn hd s1 s2 (soEs O l A h5)).cast rfl
    · cases h
  | .mth m o l, sc, fn, X, x, A, h => by
    unfold okE at h
    split at h
    · rename_i y g apos es cpos
      obtain ⟨h, h6⟩ := and2 h
      obtain ⟨h, h5⟩ := and2 h
      obtain ⟨h, h4⟩ := and2 h
      obtain ⟨h, h3⟩ := and2 h
      obtain ⟨h1, h2⟩ := and2 h
      have e1 := of_decide_eq_true h1
      subst e1
      cases es with
      | nil =>
        cases l with
        | nil => exact (is_mth0 A.gx (soE O o A h2) (base_of h5 _) h6).cast rfl
        | cons _ _ => unfold okEs at h3; cases h3
      | cons e es =>
        have hs := (okEs_star h3).1
        rw [List.all_cons] at hs
        obtain ⟨s1, s2⟩ := and2 hs
        have h4 : es.length + 1 < 29 := of_decide_eq_true h4
        exact (is_mth A.gx (soE O o A h2) (soEs O l A h3) s1 s2 (by omega) (base_of h5 _) h6).cast rfl
    · cases h
  | .isT t a, sc, fn, X, x, A, h => by
    unfold okE at h
    split at h
    · obtain ⟨h, h8⟩ := and2 h
      obtain ⟨h, h7⟩ := and2 h
      obtain ⟨h, h6⟩ := and2 h
      obtain ⟨h, h5⟩ := and2 h
      obtain ⟨h, h4⟩ := and2 h
      obtain ⟨h, h3⟩ := and2 h
      obtain ⟨h1, h2⟩ := and2 h
      have e1 := of_decide_eq_true h1
      have e2 := of_decide_eq_true h2
      subst e1 e2
      exact (is_isT A.gx (soE O a A h7) h8 (glC_ok A h3) (free_ok A O (of_decide_eq_true h5)) (glC_ok A h4) (free_ok A O (of_decide_eq_true h6))).cast rfl
    · cases h
  | .isC .., sc, fn, X, x, A, h => by unfold okE at h; cases h
  | .lc e t it cs own, sc, fn, X, x, A, h => by
    unfold okE at h
    split at h
    · rename_i elt tg iter ifs scope pos
      obtain ⟨h, h8⟩ := and2 h
      obtain ⟨h, h7⟩ := and2 h
      obtain ⟨h, h6⟩ := and2 h
      obtain ⟨h, h5⟩ := and2 h
      obtain ⟨h, h4⟩ := and2 h
      obtain ⟨h, h3⟩ := and2 h
      obtain ⟨h1, h2⟩ := and2 h
      have ho : (ownN N own).map (·.2) = own := of_decide_eq_true h3
      have q := pe_lc (pos := pos) A.gx.calm A.gx.nd (soI O it A h1) (own := ownN N own) (blkOk_by (by rw [A.N, A.sc]; exact h2)) (fun s H C' cl fp => soT (A.blk s H C' cl fp) t tg h4) (fun s H C' cl fp => soBs O cs (A.blk s H C' cl fp) h5) (fun s H C' cl fp => soE O e (A.blk s H C' cl fp) h6) (folded h7)
      rw [ho] at q
      refine IsE.cast (PE.imp q fun σ H Q hq => lc_reads (fun i hi => ?_) hq) rfl
      rw [List.all_eq_true] at h8
      exact of_decide_eq_true (h8 i hi)
    · cases h
  | .dc kk v t it cs own, sc, fn, X, x, A, h => by
    unfold okE at h
    split at h
    · rename_i kx vx tg iter ifs scope pos
      obtain ⟨h, h9⟩ := and2 h
      obtain ⟨h, h8⟩ := and2 h
      obtain ⟨h, h7⟩ := and2 h
      obtain ⟨h, h6⟩ := and2 h
      obtain ⟨h, h5⟩ := and2 h
      obtain ⟨h, h4⟩ := and2 h
      obtain ⟨h, h3⟩ := and2 h
      obtain ⟨h1, h2⟩ := and2 h
      have ho : (ownN N own).map (·.2) = own := of_decide_eq_true h3
      have q := pe_dcG (W := W) (k := j + 1) (pos := pos) (put := putD W) (fun X' pins σ H s da y z u r N E => putD_ok X' pins σ H s da y z u r N E) A.gx (soI O it A h1) (own := ownN N own) (blkOk_by (by rw [A.N, A.sc]; exact h2)) (fun s H C' cl fp => soT (A.blk s H C' cl fp) t tg h4) (fun s H C' cl fp => soBs O cs (A.blk s H C' cl fp) h5) (fun s H C' cl fp => soE O kk (A.blk s H C' cl fp) h6) (fun s H C' cl fp => soE O v (A.blk s H C' cl fp) h7) (folded h8)
      rw [ho] at q
      refine IsE.cast (PE.imp q fun σ H Q hq => dc_reads (fun i hi => ?_) hq) rfl
      rw [List.all_eq_true] at h9
      exact of_decide_eq_true (h9 i hi)
    · cases h
theorem soEs (O : LkOk W L j C) : ∀ (l : List E) {sc : Scope} {fn : Str → Bool} {X : Cx} {es : List Expr}, At W (j + 1) N sc fn X → okEs L N l sc es = true → IsA W X es (evEs C l)
  | [], sc, fn, X, es, A, h => by
    unfold okEs at h
    cases es with
    | nil => exact ia_nil
    | cons _ _ => cases h
  | e :: l, sc, fn, X, es, A, h => by
    unfold okEs at h
    cases es with
    | nil => cases h
    | cons x es =>
      obtain ⟨h, h3⟩ := and2 h
      obtain ⟨h1, h2⟩ := and2 h
      exact ia_cons h2 (soE O e A h1) (soEs O l A h3)
theorem soP (O : LkOk W L j C) : ∀ (l : List E) {sc : Scope} {fn : Str → Bool} {X : Cx} {ks : List (Option Expr)} {vs : List Expr} {pos : Pos}, At W (j + 1) N sc fn X → okP L N l sc ks vs = true → IsP W X pos ks vs (evEs C l) ∧ ks.all (·.isSome) = true ∧ ks.length = vs.length ∧ (ks = [] → l = [])
  | [], sc, fn, X, ks, vs, pos, A, h => by
    unfold okP at h
    obtain ⟨h1, h2⟩ := and2 h
    cases ks with
    | nil =>
      cases vs with
      | nil => exact ⟨ip_nil, rfl, rfl, fun _ => rfl⟩
      | cons _ _ => cases h2
    | cons _ _ => cases h1
  | [_], sc, fn, X, ks, vs, pos, A, h => by unfold okP at h; cases h
  | a :: b :: l, sc, fn, X, ks, vs, pos, A, h => by
    unfold okP at h
    split at h
    · obtain ⟨h, h3⟩ := and2 h
      obtain ⟨h1, h2⟩ := and2 h
      obtain ⟨q1, q2, q3, q4⟩ := soP O l (pos := pos) A h3
      exact ⟨ip_cons (soE O a A h1) (soE O b A h2) q1, by rw [List.all_cons, q2]; rfl, by rw [List.length_cons, List.length_cons, q3], fun e => by cases e⟩
    · cases h
theorem soO (O : LkOk W L j C) : ∀ (l : Option E) {sc : Scope} {fn : Str → Bool} {X : Cx} {x : Option Expr}, At W (j + 1) N sc fn X → okO L N l sc x = true → PO X x (rO W (evO C l))
  | none, sc, fn, X, x, A, h => by
    unfold okO at h
    cases x with
    | none => exact io_none
    | some _ => cases h
  | some e, sc, fn, X, x, A, h => by
    unfold okO at h
    cases x with
    | none => cases h
    | some y => exact io_some (soE O e A h)
theorem soB (O : LkOk W L j C) : ∀ (t : B) {sc : Scope} {fn : Str → Bool} {X : Cx} {x : Expr}, At W (j + 1) N sc fn X → okB L N t sc x = true → IsB W X x (evB C t)
  | .and a b, sc, fn, X, x, A, h => by
    unfold okB at h
    split at h
    · rename_i y z rest pos
      obtain ⟨h1, h2⟩ := and2 h
      refine ib_and (soB O a A h1) (?_ : IsB W X (.BoolOp .And (z :: rest) pos) (evB C b))
      cases rest with
      | nil => exact ib_one (soB O b A h2)
      | cons w rest => exact soB O b A h2
    · cases h
  | .or a b, sc, fn, X, x, A, h => by
    unfold okB at h
    split at h
    · rename_i y z rest pos
      obtain ⟨h1, h2⟩ := and2 h
      refine ib_or (soB O a A h1) (?_ : IsB W X (.BoolOp .Or (z :: rest) pos) (evB C b))
      cases rest with
      | nil => exact ib_one (soB O b A h2)
      | cons w rest => exact soB O b A h2
    · cases h
  | .not a, sc, fn, X, x, A, h => by
    unfold okB at h
    split at h
    · exact ib_not (soB O a A h)
    · cases h
  | .val (.cmp o a b), sc, fn, X, x, A, h => by
    unfold okB at h
    obtain ⟨h, _⟩ := and2 h
    unfold okE at h
    split at h
    · obtain ⟨h, h4⟩ := and2 h
      obtain ⟨h, h3⟩ := and2 h
      obtain ⟨h1, h2⟩ := and2 h
      exact ib_cmp cmp_bl (cmpC_ok A.gx h1) (soE O a A h2) (soE O b A h3) (by simpa using h4)
    · cases h
  | .val (.chain o p a b c), sc, fn, X, x, A, h => by
    unfold okB at h
    obtain ⟨h, _⟩ := and2 h
    unfold okE at h
    split at h
    · obtain ⟨h, h6⟩ := and2 h
      obtain ⟨h, h5⟩ := and2 h
      obtain ⟨h, h4⟩ := and2 h
      obtain ⟨h, h3⟩ := and2 h
      obtain ⟨h1, h2⟩ := and2 h
      exact ib_chain cmp_bl (cmpC_ok A.gx h1) (cmpC_ok A.gx h2) (soE O a A h3) (soE O b A h4) (soE O c A h5) (by simpa using h6)
    · cases h
  | .val (.var i), sc, fn, X, x, A, h => val_plain A rfl h (soE O (.var i) A (and2 (show (okE L N (.var i) sc x && (plainTest x || isCmp (.var i))) = true from h)).1)
  | .val (.con d), sc, fn, X, x, A, h => val_plain A rfl h (soE O (.con d) A (and2 (show (okE L N (.con d) sc x && (plainTest x || isCmp (.con d))) = true from h)).1)
  | .val (.bin o a b), sc, fn, X, x, A, h => val_plain A rfl h (soE O (.bin o a b) A (and2 (show (okE L N (.bin o a b) sc x && (plainTest x || isCmp (.bin o a b))) = true from h)).1)
  | .val (.neg a), sc, fn, X, x, A, h => val_plain A rfl h (soE O (.neg a) A (and2 (show (okE L N (.neg a) sc x && (plainTest x || isCmp (.neg a))) = true from h)).1)
  | .val (.and a b), sc, fn, X, x, A, h => val_plain A rfl h (soE O (.and a b) A (and2 (show (okE L N (.and a b) sc x && (plainTest x || isCmp (.and a b))) = true from h)).1)
  | .val (.or a b), sc, fn, X, x, A, h => val_plain A rfl h (soE O (.or a b) A (and2 (show (okE L N (.or a b) sc x && (plainTest x || isCmp (.or a b))) = true from h)).1)
  | .val (.not a), sc, fn, X, x, A, h => val_plain A rfl h (soE O (.not a) A (and2 (show (okE L N (.not a) sc x && (plainTest x || isCmp (.not a))) = true from h)).1)
  | .val (.ite t a b), sc, fn, X, x, A, h => val_plain A rfl h (soE O (.ite t a b) A (and2 (show (okE L N (.ite t a b) sc x && (plainTest x || isCmp (.ite t a b))) = true from h)).1)
  | .val (.tup l), sc, fn, X, x, A, h => val_plain A rfl h (soE O (.tup l) A (and2 (show (okE L N (.tup l) sc x && (plainTest x || isCmp (.tup l))) = true from h)).1)
  | .val (.lst l), sc, fn, X, x, A, h => val_plain A rfl h (soE O (.lst l) A (and2 (show (okE L N (.lst l) sc x && (plainTest x || isCmp (.lst l))) = true from h)).1)
  | .val (.dct l), sc, fn, X, x, A, h => val_plain A rfl h (soE O (.dct l) A (and2 (show (okE L N (.dct l) sc x && (plainTest x || isCmp (.dct l))) = true from h)).1)
  | .val (.idx a b), sc, fn, X, x, A, h => val_plain A rfl h (soE O (.idx a b) A (and2 (show (okE L N (.idx a b) sc x && (plainTest x || isCmp (.idx a b))) = true from h)).1)
  | .val (.sl a lo hi), sc, fn, X, x, A, h => val_plain A rfl h (soE O (.sl a lo hi) A (and2 (show (okE L N (.sl a lo hi) sc x && (plainTest x || isCmp (.sl a lo hi))) = true from h)).1)
  | .val (.rev a), sc, fn, X, x, A, h => val_plain A rfl h (soE O (.rev a) A (and2 (show (okE L N (.rev a) sc x && (plainTest x || isCmp (.rev a))) = true from h)).1)
  | .val (.fld a f), sc, fn, X, x, A, h => val_plain A rfl h (soE O (.fld a f) A (and2 (show (okE L N (.fld a f) sc x && (plainTest x || isCmp (.fld a f))) = true from h)).1)
  | .val (.call f l), sc, fn, X, x, A, h => val_plain A rfl h (soE O (.call f l) A (and2 (show (okE L N (.call f l) sc x && (plainTest x || isCmp (.call f l))) = true from h)).1)
  | .val (.new c f l), sc, fn, X, x, A, h => val_plain A rfl h (soE O (.new c f l) A (and2 (show (okE L N (.new c f l) sc x && (plainTest x || isCmp (.new c f l))) = true from h)).1)
  | .val (.mcall o c f l), sc, fn, X, x, A, h => val_plain A rfl h (soE O (.mcall o c f l) A (and2 (show (okE L N (.mcall o c f l) sc x && (plainTest x || isCmp (.mcall o c f l))) = true from h)).1)
  | .val (.bif t l), sc, fn, X, x, A, h => val_plain A rfl h (soE O (.bif t l) A (and2 (show (okE L N (.bif t l) sc x && (plainTest x || isCmp (.bif t l))) = true from h)).1)
  | .val (.mth m o l), sc, fn, X, x, A, h => val_plain A rfl h (soE O (.mth m o l) A (and2 (show (okE L N (.mth m o l) sc x && (plainTest x || isCmp (.mth m o l))) = true from h)).1)
  | .val (.isT t a), sc, fn, X, x, A, h => val_plain A rfl h (soE O (.isT t a) A (and2 (show (okE L N (.isT t a) sc x && (plainTest x || isCmp (.isT t a))) = true from h)).1)
  | .val (.isC c a), sc, fn, X, x, A, h => val_plain A rfl h (soE O (.isC c a) A (and2 (show (okE L N (.isC c a) sc x && (plainTest x || isCmp (.isC c a))) = true from h)).1)
  | .val (.lc e t it cs own), sc, fn, X, x, A, h => val_plain A rfl h (soE O (.lc e t it cs own) A (and2 (show (okE L N (.lc e t it cs own) sc x && (plainTest x || isCmp (.lc e t it cs own))) = true from h)).1)
  | .val (.dc k v t it cs own), sc, fn, X, x, A, h => val_plain A rfl h (soE O (.dc k v t it cs own) A (and2 (show (okE L N (.dc k v t it cs own) sc x && (plainTest x || isCmp (.dc k v t it cs own))) = true from h)).1)
theorem soBs (O : LkOk W L j C) : ∀ (l : List B) {sc : Scope} {fn : Str → Bool} {X : Cx} {es : List Expr}, At W (j + 1) N sc fn X → okBs L N l sc es = true → IsBs W X es (evBs C l)
  | [], sc, fn, X, es, A, h => by
    unfold okBs at h
    cases es with
    | nil => exact ibs_nil
    | cons _ _ => cases h
  | b :: l, sc, fn, X, es, A, h => by
    unfold okBs at h
    split at h
    · obtain ⟨h1, h2⟩ := and2 h
      cases l with
      | nil => exact ibs_one (soB O b A h1)
      | cons _ _ => cases h2
    · cases h
theorem soI (O : LkOk W L j C) : ∀ (i : I) {sc : Scope} {fn : Str → Bool} {X : Cx} {x tg : Expr}, At W (j + 1) N sc fn X → okI L N i sc x tg = true → IsI W X tg x (evI C i)
  | .pl e, sc, fn, X, x, tg, A, h => by
    unfold okI at h
    exact ii_pl A.gx (soE O e A h)
  | .r1 e, sc, fn, X, x, tg, A, h => by
    unfold okI at h
    split at h
    · obtain ⟨h, h5⟩ := and2 h
      obtain ⟨h, h4⟩ := and2 h
      obtain ⟨h, h3⟩ := and2 h
      obtain ⟨h1, h2⟩ := and2 h
      have e1 := of_decide_eq_true h1
      subst e1
      exact ii_r1 (glC_ok A h2) (free_ok A O (of_decide_eq_true h3)) h5 (soE O e A h4)
    · cases h
  | .r2 a b, sc, fn, X, x, tg, A, h => by
    unfold okI at h
    split at h
    · obtain ⟨h, h7⟩ := and2 h
      obtain ⟨h, h6⟩ := and2 h
      obtain ⟨h, h5⟩ := and2 h
      obtain ⟨h, h4⟩ := and2 h
      obtain ⟨h, h3⟩ := and2 h
      obtain ⟨h1, h2⟩ := and2 h
      have e1 := of_decide_eq_true h1
      subst e1
      exact ii_r2 (glC_ok A h2) (free_ok A O (of_decide_eq_true h3)) h6 h7 (soE O a A h4) (soE O b A h5)
    · cases h
  | .en e, sc, fn, X, x, tg, A, h => by
    unfold okI at h
    split at h
    · obtain ⟨h, h5⟩ := and2 h
      obtain ⟨h, h4⟩ := and2 h
      obtain ⟨h, h3⟩ := and2 h
      obtain ⟨h1, h2⟩ := and2 h
      have e1 := of_decide_eq_true h1
      subst e1
      exact ii_en A.gx (glC_ok A h2) (free_ok A O (of_decide_eq_true h3)) h5 (soE O e A h4)
    · cases h
  | .zp .., sc, fn, X, x, tg, A, h => by unfold okI at h; cases h
  | .its .., sc, fn, X, x, tg, A, h => by unfold okI at h; cases h
  | .vls .., sc, fn, X, x, tg, A, h => by unfold okI at h; cases h
end
end
end Fw

/-! Fw2r: statements, defs, the whole program. -/
namespace Fw
open L2 PySem PySem.Spec PyProof.Rows
variable {W : Wd}
/-- whether a tuple's items are stored one by one, from the right; none: the model says nothing -/
def swC (ts vs : List Expr) (sc : Scope) : Option (Option (List Str)) :=
  if (!(ts.length == 2 || ts.length == 3) || vs.length != ts.length) = true then some none
  else if (vs.any fun | .Starred .. => true | _ => false) = true then some none
  else
    let line := (ts.head?.map (·.pos.line)).getD 0
    let names := ts.filterMap fun
      | .Name id pos => if lkp sc id == some .local && pos.line == line then some id else none
      | _ => none
    if (names.length != ts.length || names.eraseDups.length != names.length) = true then some none
    else if vs.all (foldedForSure 8) = true then some none
    else if vs.all (constantsAlone 8) = true then none
    else some (some names)
/-- whether name = [..] stores out of the comprehension's own loop -/
def swComp (v : Expr) (y : Str) (p : Pos) (sc : Scope) : Bool := match v with
  | .ListComp _ _ s _ => lkp sc y == some .local && p.line == v.pos.line && !(s.names.any fun (n, k) => n == y && (k == .local || k == .cell))
  | .SetComp _ _ s _ => lkp sc y == some .local && p.line == v.pos.line && !(s.names.any fun (n, k) => n == y && (k == .local || k == .cell))
  | .DictComp _ _ _ s _ => lkp sc y == some .local && p.line == v.pos.line && !(s.names.any fun (n, k) => n == y && (k == .local || k == .cell))
  | _ => false
def allTrue : Str → Bool := fun _ => true
def okPar (L : Lk) (N : List Str) (t : T) (ts vs : List Expr) (sc : Scope) (e : E) (v : Expr) : Bool := match t, ts, vs with
  | .tup [.slot i, .slot j], [.Name x _, .Name y _], [_, _] => decide (swC ts vs sc = some (some [x, y])) && decide (N[i]? = some x) && decide (N[j]? = some y) && decide (i ≠ j) && decide (lkp sc x = some .local) && decide (lkp sc y = some .local) && okE L N e sc v
  | .tup [.slot i, .slot j, .slot l], [.Name x _, .Name y _, .Name z _], [_, _, _] => decide (swC ts vs sc = some (some [x, y, z])) && decide (N[i]? = some x) && decide (N[j]? = some y) && decide (N[l]? = some z) && decide (i ≠ j) && decide (i ≠ l) && decide (j ≠ l) && decide (lkp sc x = some .local) && decide (lkp sc y = some .local) && decide (lkp sc z = some .local) && okE L N e sc v
  | _, _, _ => false
mutual
def okS (L : Lk) (N : List Str) (sc : Scope) : S → Stmt → Bool
  | .asg t e, x => (match x with
    | .Assign [.Name y p] v pos => (match t with
      | .slot i => decide (N[i]? = some y) && locC sc y && okE L N e sc v
      | _ => false)
    | .Assign [.Tuple ts k p] (.Tuple vs k2 p2) pos => (decide (swC ts vs sc = some none) && okT N sc allTrue t (.Tuple ts k p) && okE L N e sc (.Tuple vs k2 p2)) || okPar L N t ts vs sc e (.Tuple vs k2 p2)
    | .Assign [.Tuple ts k p] (.Call g as ks p2) pos => okT N sc allTrue t (.Tuple ts k p) && okE L N e sc (.Call g as ks p2)
    | .Assign [.Tuple ts k p] (.Name z p2) pos => okT N sc allTrue t (.Tuple ts k p) && okE L N e sc (.Name z p2)
    | .Assign [.Tuple ts k p] (.Subscript g i p2) pos => okT N sc allTrue t (.Tuple ts k p) && okE L N e sc (.Subscript g i p2)
    | .Assign [.Tuple ts k p] (.Attribute g i p2) pos => okT N sc allTrue t (.Tuple ts k p) && okE L N e sc (.Attribute g i p2)
    | _ => false)
  | .asub o i e, x => (match x with
    | .Assign [.Subscript y z _] v _ => okE L N o sc y && okE L N i sc z && okE L N e sc v && notSlice z
    | _ => false)
  | .aattr o f e, x => (match x with
    | .Assign [.Attribute y g _] v _ => decide (g = f) && decide (f ∈ L.flds) && okE L N o sc y && okE L N e sc v
    | _ => false)
  | .aug .., _ => false
  | .augSub .., _ => false
  | .expr e, x => (match x with
    | .Expr v _ => okE L N e sc v && notComp v
    | _ => false)
  | .ret e, x => (match x with
    | .Return (some v) _ => okE L N e sc v
    | _ => false)
  | .retN, x => (match x with
    | .Return none _ => true
    | _ => false)
  | .ite t a b, x => (match x with
    | .If c y z _ => okB L N t sc c && okSs L N sc a y && okSs L N sc b z
    | _ => false)
  | .whl t b, x => (match x with
    | .While c y [] _ => okB L N t sc c && okSs L N sc b y
    | _ => false)
  | .for_ t it b, x => (match x with
    | .For tg iter y [] _ => okI L N it sc iter tg && okT N sc allTrue t tg && okSs L N sc b y && noSet iter
    | _ => false)
  | .pass, x => (match x with
    | .Pass _ => true
    | _ => false)
  | .brk, x => (match x with
    | .Break _ => true
    | _ => false)
  | .cont, x => (match x with
    | .Continue _ => true
    | _ => false)
  | .raise .., _ => true
def okSs (L : Lk) (N : List Str) (sc : Scope) : List S → List Stmt → Bool
  | [], xs => xs.isEmpty
  | s :: ss, xs => (match xs with
    | x :: xs => okS L N sc s x && okSs L N sc ss xs
    | [] => false)
end
section
variable {X : Cx} {j k : Nat} {N : List Str} {sc : Scope} {fn : Str → Bool} {L : Lk} {C : Ctx} {σ : L2.St} {s : Shared} {ρ ρ' : List Addr} {H H' : Hp} {G : Store} {Q : V → Hp → Prop} {x y : Str} {a b v : Expr} {pos p : Pos} {env : PySem.Env}
theorem blk_fn (h : env.scope = sc) (hk : sc.kind = .function) : env.blockKind = .function := by unfold Env.blockKind; rw [h, hk]; rfl
theorem swC_eq {ts vs : List Expr} {r : Option (List Str)} {k1 k2 : Nat} {p1 p2 : Pos} (h : env.scope = sc) (hk : sc.kind = .function) (e : swC ts vs sc = some r) : swappedStores [.Tuple ts k1 p1] (.Tuple vs k2 p2) env = pure r := by
  have hb := blk_fn h hk
  have kk : ∀ id, env.kindOf id = lkp sc id := fun id => by unfold Env.kindOf lkp; rw [h]
  unfold swC at e
  unfold swappedStores
  dsimp only
  rw [hb]
  have hbb : (ScopeKind.function != ScopeKind.function) = false := rfl
  rw [hbb, Bool.or_false]
  split at e
  · rename_i c
    cases e
    exact if_pos c
  · rename_i c
    refine Eq.trans (if_neg c) ?_
    split at e
    · rename_i c2
      cases e
      exact if_pos c2
    · rename_i c2
      refine Eq.trans (if_neg c2) ?_
      dsimp only at e
      simp only [kk]
      split at e
      · rename_i c3
        cases e
        exact if_pos c3
      · rename_i c3
        refine Eq.trans (if_neg c3) ?_
        split at e
        · rename_i c4
          cases e
          exact if_pos c4
        · rename_i c4
          refine Eq.trans (if_neg c4) ?_
          split at e
          · cases e
          · rename_i c5
            cases e
            exact Eq.trans (if_neg c5) rfl
theorem swComp_eq {l : Nat} (h : env.scope = sc) (hk : sc.kind = .function) : swapsWith v (some (.Name y p)) l env = pure (swComp v y p sc) := by
  have hb := blk_fn h hk
  have kk : env.kindOf y = lkp sc y := by unfold Env.kindOf lkp; rw [h]
  cases v <;> first
    | rfl
    | (unfold swapsWith swComp; dsimp only; rw [hb, kk]; rfl)
theorem sw_tup {ts : List Expr} {k1 l : Nat} {p1 : Pos} : swapsWithSole [.Tuple ts k1 p1] v l env = pure false := by cases v <;> rfl
theorem sw_sub {p1 : Pos} {l : Nat} : swapsWithSole [.Subscript a b p1] v l env = pure false := by cases v <;> rfl
theorem sw_att {p1 : Pos} {l : Nat} {f : Str} : swapsWith v (some (.Attribute a f p1)) l env = pure false := by cases v <;> rfl
theorem sw_non {l : Nat} (h : notComp v = true) : swapsWith v none l env = pure false := by cases v <;> first | rfl | cases h
theorem st_sub {p1 : Pos} : swappedStores [.Subscript a b p1] v env = pure none := by cases v <;> rfl
theorem asg_sub (h : notSlice b = true) : ∀ v, assign (.Subscript a b p) env v = (do
      let ov ← holding [v] (eval a env)
      let iv ← holding [v, ov] (eval b env)
      standAt p
      holding [v, ov, iv] (setItem ov iv v)
      release [v, ov, iv] []) := by
  intro v
  cases b <;> first | rfl | cases h
theorem comp_inv {e : E} (h : okE L N e sc v = true) (c : swComp v y p sc = true) : (∃ e' t it cs own, e = .lc e' t it cs own) ∨ ∃ k v t it cs own, e = .dc k v t it cs own := by
  cases v <;> first
    | (cases c; done)
    | (cases e <;> first
        | exact .inl ⟨_, _, _, _, _, rfl⟩
        | exact .inr ⟨_, _, _, _, _, _, rfl⟩
        | (unfold okE at h; cases h; done)
        | (unfold okE at h; simp at h; done))
theorem tup_inv {e : E} {es : List Expr} {k1 : Nat} (h : okE L N e sc (.Tuple es k1 pos) = true) : ∃ l, e = .tup l ∧ okEs L N l sc es = true := by
  cases e <;> first
    | exact ⟨_, rfl, by unfold okE at h; exact h⟩
    | (unfold okE at h; cases h; done)
    | (unfold okE at h; simp at h; done)
end
end Fw

/-! Fw2s: what the look sees of statements is so; defs; the program; the end of a law. -/
namespace Fw
open L2 PySem PySem.Spec PyProof.Rows
variable {W : Wd}
section
variable {X : Cx} {j k : Nat} {N : List Str} {sc : Scope} {fn : Str → Bool} {L : Lk} {C : Ctx} {σ : L2.St} {s : Shared} {ρ ρ' : List Addr} {H H' : Hp} {G : Store} {Q : V → Hp → Prop} {x y : Str} {a b v : Expr} {pos p : Pos} {env : PySem.Env}
theorem loc_fn (A : At W k N sc fn X) (hf : ∀ y, X.fn y = true) (y : Str) : X.fn y = true ∨ X.env.scope.names.lookup y = some .local := .inl (hf y)
/-- name = [..], the store within -/
theorem s_setLc {i : Nat} {e : E} {t : T} {it : I} {cs : List B} {own : List Nat} (O : LkOk W L j C) (A : At W (j + 1) N sc fn X) (hk : sc.kind = .function) (hi : X.N[i]? = some y) (h : okE L N (.lc e t it cs own) sc v = true) (c : swComp v y p sc = true) :
    IsS W X (.Assign [.Name y p] v pos) (fun env G => (evE C (.lc e t it cs own) env G).bind fun x => Res.of ((asgT (.slot i) x.1 env).map fun e2 => (.next, e2, x.2))) := by
  unfold okE at h
  split at h
  · rename_i elt tg iter ifs scope pos'
    obtain ⟨h, h8⟩ := and2 h
    obtain ⟨h, h7⟩ := and2 h
    obtain ⟨h, h6⟩ := and2 h
    obtain ⟨h, h5⟩ := and2 h
    obtain ⟨h, h4⟩ := and2 h
    obtain ⟨h, h3⟩ := and2 h
    obtain ⟨h1, h2⟩ := and2 h
    have ho : (ownN N own).map (·.2) = own := of_decide_eq_true h3
    have hsw := swComp_eq (env := X.env) (v := .ListComp elt [⟨tg, iter, ifs, 0⟩] scope pos') (y := y) (p := p) (l := pos.line) A.sc hk
    rw [c] at hsw
    have hloc : X.env.scope.names.lookup y = some .local := by
      have c' : (lkp sc y == some NameKind.local && p.line == _ && _) = true := c
      obtain ⟨c', _⟩ := and2 c'
      obtain ⟨c', _⟩ := and2 c'
      rw [A.sc]
      exact eq_of_beq c'
    have q := ps_setLc (pos := pos') (spos := pos) A.gx.calm A.gx.nd hi hloc hsw (soI O it A h1) (own := ownN N own) (blkOk_by (by rw [A.N, A.sc]; exact h2)) (fun s H C' cl fp => soT (A.blk s H C' cl fp) t tg h4) (fun s H C' cl fp => soBs O cs (A.blk s H C' cl fp) h5) (fun s H C' cl fp => soE O e (A.blk s H C' cl fp) h6) (folded h7)
    rw [ho] at q
    refine PS.imp q fun D σ H hq => ?_
    obtain ⟨ρ, G, env, r, eo, f⟩ := hq
    refine lc_reads (fun i hi => ?_) ⟨ρ, G, env, r, eo, f.seq fun d G1 v ρ1 H1 x1 r1 n1 f1 => ?_⟩
    · rw [List.all_eq_true] at h8
      exact of_decide_eq_true (h8 i hi)
    · obtain ⟨z, e1, f1⟩ := f1.of
      cases e1
      exact FinS.use (f := .next) f1 Ex.refl r1 ((eo.ex x1).set n1 i)
  · cases h
theorem s_setDc {i : Nat} {e e2 : E} {t : T} {it : I} {cs : List B} {own : List Nat} (O : LkOk W L j C) (A : At W (j + 1) N sc fn X) (hk : sc.kind = .function) (hi : X.N[i]? = some y) (h : okE L N (.dc e e2 t it cs own) sc v = true) (c : swComp v y p sc = true) :
    IsS W X (.Assign [.Name y p] v pos) (fun env G => (evE C (.dc e e2 t it cs own) env G).bind fun x => Res.of ((asgT (.slot i) x.1 env).map fun e2 => (.next, e2, x.2))) := by
  unfold okE at h
  split at h
  · rename_i kx vx tg iter ifs scope pos'
    obtain ⟨h, h9⟩ := and2 h
    obtain ⟨h, h8⟩ := and2 h
    obtain ⟨h, h7⟩ := and2 h
    obtain ⟨h, h6⟩ := and2 h
    obtain ⟨h, h5⟩ := and2 h
    obtain ⟨h, h4⟩ := and2 h
    obtain ⟨h, h3⟩ := and2 h
    obtain ⟨h1, h2⟩ := and2 h
    have ho : (ownN N own).map (·.2) = own := of_decide_eq_true h3
    have hsw := swComp_eq (env := X.env) (v := .DictComp kx vx [⟨tg, iter, ifs, 0⟩] scope pos') (y := y) (p := p) (l := pos.line) A.sc hk
    rw [c] at hsw
    have hloc : X.env.scope.names.lookup y = some .local := by
      have c' : (lkp sc y == some NameKind.local && p.line == _ && _) = true := c
      obtain ⟨c', _⟩ := and2 c'
      obtain ⟨c', _⟩ := and2 c'
      rw [A.sc]
      exact eq_of_beq c'
    have q := ps_setDcG (W := W) (k := j + 1) (pos := pos') (spos := pos) (put := putD W) (fun X' pins σ H s da y z u r N E => putD_ok X' pins σ H s da y z u r N E) A.gx (soI O it A h1) (own := ownN N own) (blkOk_by (by rw [A.N, A.sc]; exact h2)) (fun s H C' cl fp => soT (A.blk s H C' cl fp) t tg h4) (fun s H C' cl fp => soBs O cs (A.blk s H C' cl fp) h5) (fun s H C' cl fp => soE O e (A.blk s H C' cl fp) h6) (fun s H C' cl fp => soE O e2 (A.blk s H C' cl fp) h7) (folded h8) hi hloc hsw
    rw [ho] at q
    refine PS.imp q fun D σ H hq => ?_
    obtain ⟨ρ, G, env, r, eo, f⟩ := hq
    refine dc_reads (fun i hi => ?_) ⟨ρ, G, env, r, eo, f.seq fun d G1 v ρ1 H1 x1 r1 n1 f1 => ?_⟩
    · rw [List.all_eq_true] at h9
      exact of_decide_eq_true (h9 i hi)
    · obtain ⟨z, e1, f1⟩ := f1.of
      cases e1
      exact FinS.use (f := .next) f1 Ex.refl r1 ((eo.ex x1).set n1 i)
  · cases h
theorem IsS.cast {st : Stmt} {f g : FS} (h : IsS W X st f) (q : g = f) : IsS W X st g := q ▸ h
theorem so_par {t : T} {ts vs : List Expr} {e : E} {k1 k2 : Nat} {p1 p2 : Pos} (O : LkOk W L j C) (A : At W (j + 1) N sc fn X) (hk : sc.kind = .function) (h : okPar L N t ts vs sc e (.Tuple vs k2 p2) = true) : IsS W X (.Assign [.Tuple ts k1 p1] (.Tuple vs k2 p2) pos) (evS C (.asg t e)) := by
  unfold okPar at h
  split at h
  · rename_i i j' x px y py a b
    obtain ⟨h, h7⟩ := and2 h
    obtain ⟨h, h6⟩ := and2 h
    obtain ⟨h, h5⟩ := and2 h
    obtain ⟨h, h4⟩ := and2 h
    obtain ⟨h, h3⟩ := and2 h
    obtain ⟨h1, h2⟩ := and2 h
    obtain ⟨l, rfl, h8⟩ := tup_inv h7
    have hs := (okEs_star h8).1
    have q := soEs O l A h8
    exact (IsS.cast (s_par (fs := evEs C l) A.gx (by rw [A.N]; exact of_decide_eq_true h2) (by rw [A.N]; exact of_decide_eq_true h3) (of_decide_eq_true h4) (by rw [A.sc]; exact of_decide_eq_true h5) (by rw [A.sc]; exact of_decide_eq_true h6) (swC_eq A.sc hk (of_decide_eq_true h1)) q) rfl)
  · rename_i i j' l' x px y py z pz a b c
    obtain ⟨h, h11⟩ := and2 h
    obtain ⟨h, h10⟩ := and2 h
    obtain ⟨h, h9⟩ := and2 h
    obtain ⟨h, h8⟩ := and2 h
    obtain ⟨h, h7⟩ := and2 h
    obtain ⟨h, h6⟩ := and2 h
    obtain ⟨h, h5⟩ := and2 h
    obtain ⟨h, h4⟩ := and2 h
    obtain ⟨h, h3⟩ := and2 h
    obtain ⟨h1, h2⟩ := and2 h
    obtain ⟨l, rfl, h12⟩ := tup_inv h11
    have q := soEs O l A h12
    exact (IsS.cast (s_par3 (fs := evEs C l) A.gx (by rw [A.N]; exact of_decide_eq_true h2) (by rw [A.N]; exact of_decide_eq_true h3) (by rw [A.N]; exact of_decide_eq_true h4) (of_decide_eq_true h5) (of_decide_eq_true h6) (of_decide_eq_true h7) (by rw [A.sc]; exact of_decide_eq_true h8) (by rw [A.sc]; exact of_decide_eq_true h9) (by rw [A.sc]; exact of_decide_eq_true h10) (swC_eq A.sc hk (of_decide_eq_true h1)) q) rfl)
  · cases h
theorem st_call {ts : List Expr} {k1 : Nat} {p1 : Pos} (hv : (match v with
    | .Tuple .. => false
    | _ => true) = true) : swappedStores [.Tuple ts k1 p1] v env = pure none := by cases v <;> first | rfl | cases hv
mutual
theorem soS (O : LkOk W L j C) (A : At W (j + 1) N sc allTrue X) (hk : sc.kind = .function) : ∀ (s : S) (x : Stmt), okS L N sc s x = true → IsS W X x (evS C s)
  | .asg t e, x, h => by
    unfold okS at h
    split at h
    · rename_i y p v pos
      split at h
      · rename_i i
        obtain ⟨h, h3⟩ := and2 h
        obtain ⟨h1, h2⟩ := and2 h
        have hi : X.N[i]? = some y := by rw [A.N]; exact of_decide_eq_true h1
        cases c : swComp v y p sc with
        | true =>
          rcases comp_inv h3 c with ⟨e', t', it, cs, own, rfl⟩ | ⟨k', v', t', it, cs, own, rfl⟩
          · exact (s_setLc O A hk hi h3 c).cast rfl
          · exact (s_setDc O A hk hi h3 c).cast rfl
        | false =>
          have hsw := swComp_eq (env := X.env) (v := v) (y := y) (p := p) (l := pos.line) A.sc hk
          rw [c] at hsw
          exact (s_set A.gx hi (locC_ok A h2) (.inl (A.fn _ rfl)) (soE O e A h3) hsw).cast rfl
      · cases h
    · rename_i ts k1 p1 vs k2 p2 pos
      rw [Bool.or_eq_true] at h
      rcases h with h | h
      · obtain ⟨h, h3⟩ := and2 h
        obtain ⟨h1, h2⟩ := and2 h
        exact (s_asg (soE O e A h3) (soT A t _ h2) sw_tup (swC_eq A.sc hk (of_decide_eq_true h1)) rfl).cast rfl
      · exact so_par O A hk h
    · obtain ⟨h1, h2⟩ := and2 h
      exact (s_asg (soE O e A h2) (soT A t _ h1) sw_tup (st_call rfl) rfl).cast rfl
    · obtain ⟨h1, h2⟩ := and2 h
      exact (s_asg (soE O e A h2) (soT A t _ h1) sw_tup (st_call rfl) rfl).cast rfl
    · obtain ⟨h1, h2⟩ := and2 h
      exact (s_asg (soE O e A h2) (soT A t _ h1) sw_tup (st_call rfl) rfl).cast rfl
    · obtain ⟨h1, h2⟩ := and2 h
      exact (s_asg (soE O e A h2) (soT A t _ h1) sw_tup (st_call rfl) rfl).cast rfl
    · cases h
  | .asub o i e, x, h => by
    unfold okS at h
    split at h
    · obtain ⟨h, h4⟩ := and2 h
      obtain ⟨h, h3⟩ := and2 h
      obtain ⟨h1, h2⟩ := and2 h
      exact (s_asub A.gx (soE O o A h1) (soE O i A h2) (soE O e A h3) sw_sub (asg_sub h4) st_sub).cast rfl
    · cases h
  | .aattr o f e, x, h => by
    unfold okS at h
    split at h
    · obtain ⟨h, h4⟩ := and2 h
      obtain ⟨h, h3⟩ := and2 h
      obtain ⟨h1, h2⟩ := and2 h
      cases of_decide_eq_true h1
      exact (s_aattr A.gx (by rw [← O.flds]; exact of_decide_eq_true h2) (soE O o A h3) (soE O e A h4) sw_att).cast rfl
    · cases h
  | .aug .., x, h => by unfold okS at h; cases h
  | .augSub .., x, h => by unfold okS at h; cases h
  | .expr e, x, h => by
    unfold okS at h
    split at h
    · obtain ⟨h1, h2⟩ := and2 h
      exact (s_expr (soE O e A h1) (sw_non h2)).cast rfl
    · cases h
  | .ret e, x, h => by
    unfold okS at h
    split at h
    · exact (s_ret (soE O e A h)).cast rfl
    · cases h
  | .retN, x, h => by
    unfold okS at h
    split at h
    · exact s_retN.cast rfl
    · cases h
  | .ite t a b, x, h => by
    unfold okS at h
    split at h
    · obtain ⟨h, h3⟩ := and2 h
      obtain ⟨h1, h2⟩ := and2 h
      exact (s_if (soB O t A h1) (soSs O A hk a _ h2) (soSs O A hk b _ h3)).cast rfl
    · cases h
  | .whl t b, x, h => by
    unfold okS at h
    split at h
    · obtain ⟨h1, h2⟩ := and2 h
      exact (s_while (n := C.fuel) A.gx (soB O t A h1) (soSs O A hk b _ h2)).cast rfl
    · cases h
  | .for_ t it b, x, h => by
    unfold okS at h
    split at h
    · obtain ⟨h, h4⟩ := and2 h
      obtain ⟨h, h3⟩ := and2 h
      obtain ⟨h1, h2⟩ := and2 h
      exact (s_for A.gx (soI O it A h1) (soT A t _ h2) (soSs O A hk b _ h3) h4).cast rfl
    · cases h
  | .pass, x, h => by
    unfold okS at h
    split at h
    · exact s_pass.cast rfl
    · cases h
  | .brk, x, h => by
    unfold okS at h
    split at h
    · exact s_brk.cast rfl
    · cases h
  | .cont, x, h => by
    unfold okS at h
    split at h
    · exact s_cont.cast rfl
    · cases h
  | .raise c l, x, h => s_never fun env G z e => by
    have e : (evEs C l env G).bind (fun x => (.err c x.1 x.2 : RS)) = .ok z := e
    obtain ⟨_, _, e⟩ := Res.bind_eq e
    cases e
theorem soSs (O : LkOk W L j C) (A : At W (j + 1) N sc allTrue X) (hk : sc.kind = .function) : ∀ (l : List S) (xs : List Stmt), okSs L N sc l xs = true → IsSs W X xs (evSs C l)
  | [], xs, h => by
    unfold okSs at h
    cases xs with
    | nil => exact ss_nil
    | cons _ _ => cases h
  | s :: l, xs, h => by
    unfold okSs at h
    cases xs with
    | nil => cases h
    | cons x xs =>
      obtain ⟨h1, h2⟩ := and2 h
      exact ss_cons (soS O A hk s x h1) (soSs O A hk l xs h2)
end
end
end Fw

/-! Fw2t: the program as a whole; the end of a law. -/
namespace Fw
open L2 PySem PySem.Spec PyProof.Rows
def dead (d : Fn) : Bool := match d.body with
  | [.brk] => true
  | _ => false
/-- a def of the program is the small language's -/
def DefOk (W : Wd) (L : Lk) (f : Nat) (d : Fn) : Prop := ∃ (x qual : Str) (params : Arguments) (body : List Stmt) (scope : Scope) (fd : FuncData) (N ps : List Str), FunD W.K x qual params body scope [] [] (W.fad f) fd ∧ C8.scC N ps scope = true ∧
  (∀ (s : Shared) (us : List Value), us.length = ps.length → BindsTo s fd ⟨us, []⟩ (ps.zip us)) ∧ N.length = d.ns ∧ ps.length = d.ps ∧ okSs L N scope d.body body = true
structure PgOk (W : Wd) (P : List Fn) (L : Lk) : Prop where
  defs : ∀ f d, P[f]? = some d → dead d = true ∨ DefOk W L f d
  fns : ∀ x f, L.fns.lookup x = some f → W.mg x = some (.ref (W.fad f)) ∧ PySem.W.keepIn W.K (.ref (W.fad f)) = true
  cls : ∀ x c f, L.cls.lookup x = some (c, f) → W.mg x = some (.ref (W.cad c)) ∧ Mk W.K (W.cad c) (W.fad f) ∧ (Cls W.K (W.cad c) ∧ ∀ f ∈ W.flds, NoAttr W.K (W.cad c) f)
  con : ∀ x d, L.con.lookup x = some d → ∃ v u, W.mg x = some u ∧ RelV v u ∧ ∀ ρ H, Dn W ρ H v d
  free : ∀ x ∈ L.free, W.mg x = none
  flds : L.flds = W.flds
theorem fn_stuck {W : Wd} {k : Nat} {g : List D → Store → RD} {f : Addr} (h : ∀ xs G z, g xs G ≠ .ok z) : FnG W k g f := ⟨fun A outer s H us vs Q _ _ _ _ q => by
  obtain ⟨ρ, G, xs, rl, n, d, G', e, _⟩ := q
  exact (h _ _ _ e).elim⟩
theorem dead_stuck {d : Fn} (h : dead d = true) (C : Ctx) : ∀ xs G z, runFn C d xs G ≠ .ok z := by
  intro xs G z e
  unfold runFn at e
  obtain ⟨_, e⟩ := must_eq e
  unfold dead at h
  split at h
  · rename_i hb
    rw [hb] at e
    cases e
  · cases h
theorem start_env {W : Wd} {ρ : List Addr} {H : Hp} {N : List Str} {vs : List V} {xs : List D} {n p : Nat} (h : Dns W ρ H vs xs) (hN : N.length = n) (hp : xs.length = p) : EnvOk W ρ H (start N vs) (xs.map some ++ List.replicate (n - p) none) := by
  refine ⟨by simp [L2.start, h.length, hN, hp], fun i d e => ?_⟩
  rcases Nat.lt_or_ge i xs.length with q | q
  · rw [List.getElem?_append_left (by simpa using q)] at e
    rw [List.getElem?_map] at e
    obtain ⟨d', e1, e2⟩ := Option.map_eq_some_iff.mp e
    cases e2
    obtain ⟨v, e3, e4⟩ := h.get e1
    refine ⟨v, ?_, e4⟩
    unfold L2.start
    rw [List.getElem?_append_left (by rw [List.length_map, h.length]; exact q), List.getElem?_map, e3]
    rfl
  · rw [List.getElem?_append_right (by simpa using q)] at e
    have := List.mem_of_getElem? e
    simp at this
theorem pg_fn {W : Wd} {P : List Fn} {L : Lk} {fuel : Nat} (O : PgOk W P L) : ∀ (k f : Nat), FnG W (2 * k) (callP P fuel k f) (W.fad f)
  | 0, f => fn_stuck fun xs G z e => by cases e
  | k + 1, f => by
    cases hf : P[f]? with
    | none =>
      refine fn_stuck fun xs G z e => ?_
      unfold callP at e
      rw [hf] at e
      cases e
    | some d =>
      have eq : callP P fuel (k + 1) f = runFn ⟨callP P fuel k, fuel⟩ d := by
        funext xs G
        rw [callP, hf]
      rw [eq]
      rcases O.defs f d hf with hd | ⟨x, qual, params, body, scope, fd, N, ps, F, sc, hb, hN, hps, ok⟩
      · exact fn_stuck (dead_stuck hd _)
      · have S := C8.fnScope_by sc
        have LO : LkOk W L (2 * k) ⟨callP P fuel k, fuel⟩ := ⟨fun x f h => let ⟨a, b⟩ := O.fns x f h; ⟨a, b, pg_fn O k f⟩, fun x c f h => let ⟨a, b, c'⟩ := O.cls x c f h; ⟨a, b, c', pg_fn O k f⟩, O.con, O.free, O.flds⟩
        refine fn_body (k := 2 * k + 1) F S hb (fun xs G d' G' e => ?_) fun X hX hXN hXs hXf σ H vs Q hσ q => ?_
        · unfold runFn at e
          obtain ⟨h, _⟩ := must_eq e
          rw [hps]; exact of_decide_eq_true h
        · subst hσ
          have A : At W (2 * k + 1) N scope allTrue X := ⟨hX, hXN, hXs, fun y _ => hXf y⟩
          refine ⟨_, soSs LO A S.kind d.body body ok, ?_⟩
          obtain ⟨ρ, G, xs, rl, n, q⟩ := q
          unfold runFn at q
          obtain ⟨hl, q⟩ := q.must
          obtain ⟨⟨fl, env', G'⟩, e, q⟩ := q.bind
          refine ⟨ρ, G, _, rl, start_env n hN (of_decide_eq_true hl), fl, env', G', e, fun σ' ρ' H' x r eo => ?_⟩
          cases fl with
          | next => exact q.use x r .non
          | ret d' => exact fun v hv => q.use x r hv
          | brk => exact q.stuck.elim
          | cont => exact q.stuck.elim
/-! ### the end of a law -/
theorem dns_ints {W : Wd} {ρ : List Addr} {H : Hp} : ∀ ns : List Int, Dns W ρ H (ns.map V.int) (ns.map D.int)
  | [] => .nil
  | n :: ns => .cons (.int n) (dns_ints ns)
/-- the script comes frozen -/
theorem rel_script {W : Wd} {H : Hp} {a : Addr} {ns : List Int} (hO : Only H) (hS : SqL W.K H a (ns.map V.int)) : Rel W [a] [.lst (ns.map D.int) true] H := by
  have hF : SqF W.K H a (ns.map V.int) := by
    rcases hS with (h | ⟨ob, h⟩) | h
    · rcases hO a with z | ⟨o, xs, z⟩
      · rw [h] at z; cases z
      · rw [h] at z; cases z
    · exact .inl ⟨ob, h⟩
    · exact .inr fun _ => .inr h
  refine ⟨rfl, fun i b o h1 h2 => ?_, fun i j b i0 j0 _ h1 _ => ?_, ⟨_, rfl⟩, fun i l h => ?_⟩
  · cases i with
    | zero => cases h1; cases h2; exact ⟨_, dns_ints ns, .inl ⟨rfl, hF⟩⟩
    | succ i => simp at h1
  · cases i with
    | zero => exact i0 rfl
    | succ i => simp at h1
  · cases i with
    | zero => rfl
    | succ i => simp at h
theorem law_callG {P : Program} {w : World} {K : PySem.W.Frag} {mg mb : Str → Option Value} {k n : Nat} {fa a : Addr} {g : List D → Store → RD} {s₁ : Shared} {vs : List Value} {ns : List Int}
    (KX : K.In s₁.heap) (hns : s₁.heap.Ns mainGlobals mg) (hb : s₁.heap.Ns builtinsNs mb) (hbb : ∀ x : Str, x ≠ "__name__" → mb x = bootBuiltins x) (hlim : s₁.heap.NoLimit) (hg : s₁.gens = #[])
    (ha : s₁.heap.get? a = some { cls := .type "list", data := .seq vs.toArray }) (hi : IntsAre vs ns) (hl : ns.length ≤ sizeLine) (hr : Room k callerA)
    (F : ∀ base : Heap, K.In base → base.Ns mainGlobals mg → ∃ W : Wd, W.P = P ∧ W.w = w ∧ W.K = K ∧ W.mg = mg ∧ W.base = base ∧ FnG W k g fa) (hval : ∃ G', g [.ref 0] [.lst (ns.map D.int) true] = .ok (.bl true, G')) :
    codeAny (model P w) callerA (.call (.ref fa) ⟨[.ref a], []⟩) (fun r s' => r = .ok (.ret (.bool true)) ∧ OldK s₁.heap s'.heap ∧ s'.os = s₁.os ∧ AllBare s'.gens) s₁ := by
  have rv := vals_ints hi
  have lenV := hi.length
  have core : ∀ H : Hp, Only H → SqL K H a (ns.map V.int) → HOk P w H s₁.heap → (∀ b, H b ≠ none → b = a) → (H a ≠ none → K.lookup a = none) →
      codeAny (model P w) callerA (.call (.ref fa) ⟨[.ref a], []⟩) (fun r s' => r = .ok (.ret (.bool true)) ∧ OldK s₁.heap s'.heap ∧ s'.os = s₁.os ∧ AllBare s'.gens) s₁ := by
    intro H hO hS hok hA hK
    have only_a : ∀ {b : Addr}, b ≠ a → H b = none := fun {b} hb => by
      cases q : H b with
      | none => rfl
      | some u => exact (hb (hA b (by rw [q]; simp))).elim
    have hidden : ∀ {b : Addr} {o : Obj}, s₁.heap.get? b = some o → H b = none → (hidT s₁.heap H).get? b = some o := fun e n => hidT_get e n
    have keepNs : ∀ {b : Addr} {m : Str → Option Value}, s₁.heap.Ns b m → (hidT s₁.heap H).Ns b m := fun {b m} ⟨o, es, ep, e, d, r⟩ => ⟨o, es, ep, hidden e (only_a (by
      rintro rfl
      rw [ha] at e; cases e
      have d' : Data.seq vs.toArray _ = Data.dict es ep := d
      cases d')), d, r⟩
    have hKb : K.In (hidT s₁.heap H) := fun b o e => hidden (KX b o e) (by
      by_cases hb : b = a
      · subst hb
        cases q : H b with
        | none => rfl
        | some u => rw [hK (by rw [q]; simp)] at e; cases e
      · exact only_a hb)
    have hM : Mod K mg (hidT s₁.heap H) := ⟨hKb, keepNs hns, ⟨mb, keepNs hb, hbb⟩, let ⟨mc, h1, h2⟩ := hlim; ⟨mc, keepNs h1, h2⟩⟩
    have e0 : Env0 P w K mg (hidT s₁.heap H) callerA [] s₁ H := ⟨rfl, hM, fun b o e => of_hidT e, Nat.le_of_eq (hidT_size _ _), trivial, fun b hb => absurd (show b ∈ ([] : List Addr) from hb) (by simp), hok, .of_eq hg⟩
    obtain ⟨W, rfl, rfl, rfl, rfl, hbase, FG⟩ := F _ hKb (keepNs hns)
    rw [← hbase] at e0
    obtain ⟨G', hv⟩ := hval
    refine codeAny_mono (FG.run callerA [] s₁ H [.ref a] [.ref a] (fun v _ => v = .bl true) hr rfl e0 (.cons rfl .nil) ⟨[a], _, [.ref 0], rel_script hO hS, .cons (.ref rfl) .nil, .bl true, G', hv, fun v ρ' H' _ _ n => by cases n; rfl⟩) fun r s' h => ?_
    cases r with
    | error e => exact h.elim
    | ok fl =>
      cases fl with
      | next => exact False.elim h
      | brk => exact False.elim h
      | cont => exact False.elim h
      | ret u =>
        obtain ⟨v, H', os, bare, un, hok', r', q⟩ := h
        have q' : v = .bl true := q
        subst q'
        obtain rfl : u = Value.bool true := r'
        refine ⟨rfl, OldK.of_keep fun b o e => ?_, os, bare⟩
        cases q : H b with
        | none => exact un.keep b o e q (by intro z; exact absurd (show b ∈ ([] : List Addr) from z) (by simp)) (by simp)
        | some u =>
          rcases hO b with z | ⟨ob, xs, z⟩
          · rw [q] at z; cases z
          · obtain ⟨e1, _⟩ := hok b _ z
            obtain ⟨e2, _⟩ := hok' b _ (un.frzs b ob _ z)
            rw [e] at e1; cases e1
            exact e2
  cases hk : K.lookup a with
  | some o =>
    have e := KX a o hk
    rw [ha] at e
    cases e
    exact core (fun _ => none) (fun _ => .inl rfl) (.inr ⟨_, vs.toArray, _, hk, rfl, rfl, rfl, by rw [List.size_toArray, lenV]; exact hl, by simpa using rv⟩) (fun b u z => by have z' : (none : Option HO) = some u := z; cases z') (fun b z => absurd rfl z) fun z => absurd rfl z
  | none =>
    have at_ : ∀ b, (if b = a then some (HO.frz { cls := .type "list", data := .seq vs.toArray } (.lst (ns.map V.int))) else none) = none ∨ b = a := fun b => by
      by_cases hb : b = a
      · exact .inr hb
      · exact .inl (if_neg hb)
    refine core (fun b => if b = a then some (.frz { cls := .type "list", data := .seq vs.toArray } (.lst (ns.map V.int))) else none) (fun b => ?_) (.inl (.inr ⟨{ cls := .type "list", data := .seq vs.toArray }, if_pos rfl⟩)) (fun b u z => ?_) (fun b z => (at_ b).resolve_left z) fun _ => hk
    · rcases at_ b with h | h
      · exact .inl h
      · exact .inr ⟨_, _, if_pos h⟩
    · rcases at_ b with h | h
      · cases h.symm.trans z
      · cases (if_pos h).symm.trans z
        subst h
        exact ⟨ha, by rw [List.length_map]; exact hl, vs, _, rv, ha⟩
/-- a law's end -/
theorem walk_ofG {l : PySem.W.OpenLaw} {n k : Nat} {q : Program} {loose : List Str} {XP : (Str → Option Value) → Heap → Prop} {YP : World → Heap → Prop} {d : DefRec} {g : List D → Store → RD}
    (hn : l.most = some n) (hn2 : n ≤ sizeLine) (hdf : d.params.defaults = []) (hr : Room k callerA)
    (F : ∀ (w : World) (mg : Str → Option Value) (fa : Addr) (h : Heap), YP w h → h.Ns mainGlobals mg → mg d.name = some (.ref fa) →
      ∃ K : PySem.W.Frag, K.In h ∧ ∀ base : Heap, K.In base → base.Ns mainGlobals mg → ∃ W : Wd, W.P = l.prog ∧ W.w = w ∧ W.K = K ∧ W.mg = mg ∧ W.base = base ∧ FnG W k g fa)
    (hval : ∀ ns : List Int, ns.length ≤ n → ∃ G', g [.ref 0] [.lst (ns.map D.int) true] = .ok (.bl true, G')) :
    PySem.W.WalkO q loose XP YP l.row.toRowW d [] (fun f vs => PySem.call f vs) := by
  refine Att.attach_call hn hdf fun w s₀ s₁ mg mb fa o pm cd doc a vs ns G Y ho hd hcd hmg hobj hints hlen hg => ?_
  obtain ⟨K, KX, hF⟩ := F w mg fa _ Y G.T.g hmg
  exact law_callG (n := n) KX G.T.g G.T.b G.T.builtins G.T.nolimit hg hobj hints (Nat.le_trans hlen hn2) hr hF (hval ns hlen)
end Fw

/-! Fw2u: a law's program from its head. -/
namespace Fw
open L2 PySem PySem.Spec PyProof.Rows
/-- the look at one def -/
def okD (L : Lk) (N : List Str) (d : Fn) (dd : He.DefD) : Bool := C8.scC N (N.take d.ps) dd.scope && decide (N.length = d.ns) && decide (d.ps ≤ N.length) && okSs L N dd.scope d.body dd.body
theorem def_of {W : Wd} {L : Lk} {fa : List He.Fa} {fn : List He.DefD} (c : He.SaysD fa fn W.K) {f i : Nat} {d : Fn} {dd : He.DefD} {N : List Str} (hi : fn[i]? = some dd) (hfad : W.fad f = He.fAd W.K dd.at_) (h0 : dd.dfl = [] ∧ dd.kwd = [])
    (hb : ∀ (kV doc pm : Value) (an : Option Addr) (cdv ct : Value) (us : List Value), us.length = (N.take d.ps).length → bindArgs (PySem.W.fnOf dd.name dd.qual dd.params dd.body dd.scope .none kV doc pm an cdv ct) ⟨us, []⟩ = pure ((N.take d.ps).zip us)) (ok : okD L N d dd = true) : DefOk W L f d := by
  obtain ⟨ok, h4⟩ := and2 ok
  obtain ⟨ok, h3⟩ := and2 ok
  obtain ⟨h1, h2⟩ := and2 ok
  obtain ⟨fd, F⟩ := c.def_ i hi
  have e1 : dd.dvs W.K = [] := by unfold He.DefD.dvs; rw [h0.1]; rfl
  have e2 : dd.kws W.K = [] := by unfold He.DefD.kws; rw [h0.2]; rfl
  rw [e1, e2, ← hfad] at F
  have h3 : d.ps ≤ N.length := of_decide_eq_true h3
  exact ⟨_, _, _, _, _, fd, N, _, F, h1, F.bindsA hb, of_decide_eq_true h2, by rw [List.length_take]; omega, h4⟩
theorem keep_of {W : Wd} {fa : List He.Fa} {fn : List He.DefD} (c : He.SaysD fa fn W.K) {f i : Nat} {dd : He.DefD} (hi : fn[i]? = some dd) (hfad : W.fad f = He.fAd W.K dd.at_) : PySem.W.keepIn W.K (.ref (W.fad f)) = true := by
  obtain ⟨fd, F⟩ := c.def_ i hi
  rw [hfad]; exact F.kp
/-- rows of names, looked through one by one -/
theorem look_all {α β : Type} [BEq α] [LawfulBEq α] {p : α → β → Prop} : ∀ {l : List (α × β)}, (∀ q ∈ l, p q.1 q.2) → ∀ x y, l.lookup x = some y → p x y
  | [], _, _, _, e => by cases e
  | (a, b) :: l, h, x, y, e => by
    rw [List.lookup_cons] at e
    cases hb : x == a with
    | true =>
      rw [hb] at e
      cases e
      cases eq_of_beq hb
      exact h _ (List.mem_cons_self ..)
    | false =>
      rw [hb] at e
      exact look_all (fun q hq => h q (List.mem_cons_of_mem _ hq)) x y e
theorem con_int {W : Wd} {x : Str} {i : Int} (h : ∃ t, W.mg x = some (.int i t)) : ∃ v u, W.mg x = some u ∧ RelV v u ∧ ∀ ρ H, Dn W ρ H v (.int i) :=
  let ⟨t, e⟩ := h; ⟨.int i, _, e, ⟨t, rfl⟩, fun _ _ => .int i⟩
theorem con_str {W : Wd} {x z : Str} {l : List Nat} (h : ∃ t, W.mg x = some (.str z t)) (e : z = ⟨l.toArray⟩) : ∃ v u, W.mg x = some u ∧ RelV v u ∧ ∀ ρ H, Dn W ρ H v (.str l) :=
  let ⟨t, e'⟩ := h; ⟨.str z, _, e', ⟨t, rfl⟩, fun _ _ => e ▸ .str l⟩
end Fw

/-! Wp: how a law's mathematics speaks of the interpreter. -/
/-- it ends well, and so -/
inductive Fw.Res.Is {α : Type} : Fw.Res α → (α → Prop) → Prop where
  | mk {a : α} {Q : α → Prop} (h : Q a) : Fw.Res.Is (.ok a) Q
namespace Wp
open Fw
open PySem (Str PyData)
variable {α β : Type}
theorem Is_ok {a : α} {Q : α → Prop} : (Res.ok a).Is Q = Q a := propext ⟨fun h => by cases h; assumption, fun h => .mk h⟩
theorem Is_err {c l G} {Q : α → Prop} : ¬ (Res.err c l G : Res α).Is Q := fun h => by cases h
theorem Is_stuck {Q : α → Prop} : ¬ (Res.stuck : Res α).Is Q := fun h => by cases h
theorem Is_bind {r : Res α} {f : α → Res β} {Q : β → Prop} : (r.bind f).Is Q = r.Is fun a => (f a).Is Q := by
  cases r with
  | ok a => rw [Res.bind_ok, Is_ok]
  | err => exact propext ⟨fun h => (Is_err h).elim, fun h => (Is_err h).elim⟩
  | stuck => exact propext ⟨fun h => (Is_stuck h).elim, fun h => (Is_stuck h).elim⟩
theorem Is_must {b : Bool} {r : Res α} {Q : α → Prop} : (must b r).Is Q = (b = true ∧ r.Is Q) := by
  cases b
  · exact propext ⟨fun h => (Is_stuck h).elim, fun h => Bool.noConfusion h.1⟩
  · exact propext ⟨fun h => ⟨rfl, h⟩, fun h => h.2⟩
theorem Is_of {o : Option α} {Q : α → Prop} : (Res.of o).Is Q = ∃ a, o = some a ∧ Q a := by
  cases o
  · exact propext ⟨fun h => (Is_stuck h).elim, fun ⟨_, h, _⟩ => by cases h⟩
  · rw [Res.of_some, Is_ok]; exact propext ⟨fun h => ⟨_, rfl, h⟩, fun ⟨_, h, q⟩ => by cases h; exact q⟩
theorem Is.mono {r : Res α} {Q R : α → Prop} (h : r.Is Q) (f : ∀ a, Q a → R a) : r.Is R := by
  cases h with
  | mk h => exact .mk (f _ h)
theorem Is.get {r : Res α} {Q : α → Prop} (h : r.Is Q) : ∃ a, r = .ok a ∧ Q a := by
  cases h with
  | mk h => exact ⟨_, rfl, h⟩
theorem Is.of {r : Res α} {Q : α → Prop} {a : α} (e : r = .ok a) (h : Q a) : r.Is Q := by rw [e]; exact .mk h
theorem Is_mkL {l : List D} {G : Store} {Q : D × Store → Prop} : (mkL l G).Is Q = (l.length ≤ lim ∧ Q (.ref G.length, G ++ [.lst l false])) := by
  unfold mkL newO; rw [Is_must, decide_eq_true_eq, Is_ok]
theorem Is_newO {o : O} {G : Store} {Q : D × Store → Prop} : (newO o G).Is Q = Q (.ref G.length, G ++ [o]) := Is_ok
theorem callP_succ {P : List Fn} {N k f : Nat} {as : List D} {G : Store} {fn : Fn} (h : P[f]? = some fn) : callP P N (k + 1) f as G = runFn ⟨callP P N k, N⟩ fn as G := by rw [callP, h]

/-! ### stores -/
/-- what stood still stands, but for the things in A -/
def Kp (A : Nat → Prop) (G H : Store) : Prop := G.length ≤ H.length ∧ ∀ i o, ¬ A i → G[i]? = some o → H[i]? = some o
def Ex (G H : Store) : Prop := Kp (fun _ => False) G H
theorem Kp.refl {A : Nat → Prop} (G : Store) : Kp A G G := ⟨Nat.le_refl _, fun _ _ _ h => h⟩
theorem Kp.trans {A : Nat → Prop} {G H K : Store} (a : Kp A G H) (b : Kp A H K) : Kp A G K := ⟨Nat.le_trans a.1 b.1, fun i o n h => b.2 i o n (a.2 i o n h)⟩
theorem Kp.imp {A B : Nat → Prop} {G H : Store} (a : Kp A G H) (f : ∀ i, i < G.length → A i → B i) : Kp B G H :=
  ⟨a.1, fun i o n h => a.2 i o (fun x => n (f i (List.getElem?_eq_some_iff.1 h).1 x)) h⟩
theorem Ex.kp {A : Nat → Prop} {G H : Store} (a : Ex G H) : Kp A G H := Kp.imp a fun _ _ h => h.elim
theorem Ex.refl (G : Store) : Ex G G := Kp.refl G
theorem Ex.trans {G H K : Store} (a : Ex G H) (b : Ex H K) : Ex G K := Kp.trans a b
theorem Ex.at {G H : Store} (a : Ex G H) {i : Nat} {o : O} (h : G[i]? = some o) : H[i]? = some o := a.2 i o (fun x => x) h
theorem Kp.app {A : Nat → Prop} (G : Store) (o : O) : Kp A G (G ++ [o]) :=
  ⟨by rw [List.length_append]; omega, fun i p _ h => by rw [List.getElem?_append_left (List.getElem?_eq_some_iff.1 h).1]; exact h⟩
theorem Ex.app (G : Store) (o : O) : Ex G (G ++ [o]) := Kp.app G o
theorem Kp.set {A : Nat → Prop} (G : Store) {n : Nat} (h : A n) (o : O) : Kp A G (G.set n o) :=
  ⟨by rw [List.length_set]; omega, fun i p x e => by rw [List.getElem?_set_ne (fun q => by subst q; exact x h)]; exact e⟩
/-- what is changed is new: nothing old is changed -/
theorem Kp.new {A : Nat → Prop} {G H : Store} (a : Kp A G H) (f : ∀ i, A i → G.length ≤ i) : Ex G H :=
  a.imp fun i h x => by have := f i x; omega
theorem app_at (G : Store) (o : O) : (G ++ [o])[G.length]? = some o := by
  rw [List.getElem?_append_right (Nat.le_refl _), Nat.sub_self]; rfl
theorem app_old {G : Store} {o p : O} {i : Nat} (h : G[i]? = some p) : (G ++ [o])[i]? = some p := by
  rw [List.getElem?_append_left (List.getElem?_eq_some_iff.1 h).1]; exact h
theorem set_at {G : Store} {o p : O} {i : Nat} (h : G[i]? = some p) : (G.set i o)[i]? = some o := by
  rw [List.getElem?_set_self (List.getElem?_eq_some_iff.1 h).1]
theorem set_old {G : Store} {o p : O} {i j : Nat} (n : i ≠ j) (h : G[j]? = some p) : (G.set i o)[j]? = some p := by
  rw [List.getElem?_set_ne n]; exact h
theorem at_lt {G : Store} {o : O} {i : Nat} (h : G[i]? = some o) : i < G.length := (List.getElem?_eq_some_iff.1 h).1

/-! ### loops -/
/-- a walk: what holds before each item, and at the end -/
theorem forL_is {c c' : Option (Nat × O)} {t : T} {f : Env → Store → RS} {Q : Flow × Env × Store → Prop} (Inv : List D → Env → Store → Prop)
    (hc : ∀ xs env G, Inv xs env G → chk c G = true ∧ chk c' G = true)
    (hs : ∀ x xs env G, Inv (x :: xs) env G → ∃ e, asgT t x env = some e ∧ (f e G).Is fun r => match r.1 with
      | .next => Inv xs r.2.1 r.2.2
      | .cont => Inv xs r.2.1 r.2.2
      | .brk => Q (.next, r.2)
      | .ret d => Q (.ret d, r.2))
    (hl : ∀ env G, Inv [] env G → Q (.next, env, G)) : ∀ (xs : List D) (env : Env) (G : Store), Inv xs env G → (forL c c' t f xs env G).Is Q
  | [], env, G, h => by
    obtain ⟨a, b⟩ := hc _ _ _ h
    rw [forL, a, b]; exact .mk (hl _ _ h)
  | x :: xs, env, G, h => by
    obtain ⟨a, b⟩ := hc _ _ _ h
    obtain ⟨e, h1, h2⟩ := hs _ _ _ _ h
    rw [forL, a, b, h1]
    show ((f e G).bind _).Is Q
    rw [Is_bind]
    refine Is.mono h2 ?_
    rintro ⟨fl, e2, G2⟩ h3
    cases fl with
    | next => exact forL_is Inv hc hs hl xs _ _ h3
    | cont => exact forL_is Inv hc hs hl xs _ _ h3
    | brk => exact .mk h3
    | ret d => exact .mk h3
/-- a comprehension -/
theorem lcL_is {c c' : Option (Nat × O)} {f : D → Store → Res (Option D × Store)} (Inv : List D → List D → Store → Prop)
    (hc : ∀ xs l G, Inv xs l G → chk c G = true ∧ chk c' G = true)
    (hs : ∀ x xs l G, Inv (x :: xs) l G → (f x G).Is fun r => Inv xs (l ++ r.1.toList) r.2) : ∀ (xs l : List D) (G : Store), Inv xs l G → (lcL c c' f xs G).Is fun r => Inv [] (l ++ r.1) r.2
  | [], l, G, h => by
    obtain ⟨a, b⟩ := hc _ _ _ h
    rw [lcL, a, b]
    refine .mk ?_
    show Inv [] (l ++ []) G
    rw [List.append_nil]; exact h
  | x :: xs, l, G, h => by
    obtain ⟨a, b⟩ := hc _ _ _ h
    rw [lcL, a, b]
    show ((f x G).bind _).Is _
    rw [Is_bind]
    refine Is.mono (hs _ _ _ _ h) ?_
    rintro ⟨o, G2⟩ h3
    rw [Is_bind]
    refine Is.mono (lcL_is Inv hc hs xs _ _ h3) ?_
    rintro ⟨q, G3⟩ h4
    refine .mk ?_
    show Inv [] (l ++ (o.toList ++ q)) G3
    rw [← List.append_assoc]; exact h4
/-- a comprehension that changes nothing -/
theorem lcL_pure {c c' : Option (Nat × O)} {f : D → Store → Res (Option D × Store)} {G : Store} (hc : chk c G = true) (hc' : chk c' G = true) (g : D → Option D) : ∀ (xs : List D), (∀ x ∈ xs, f x G = .ok (g x, G)) → lcL c c' f xs G = .ok (xs.filterMap g, G)
  | [], _ => by rw [lcL, hc, hc']; rfl
  | x :: xs, h => by
    rw [lcL, hc, hc', h x (List.mem_cons_self ..)]
    show (lcL c c' f xs G).bind _ = _
    rw [lcL_pure hc hc' g xs fun y hy => h y (List.mem_cons_of_mem _ hy)]
    show Res.ok ((g x).toList ++ _, G) = _
    cases e : g x with
    | none => rw [List.filterMap_cons_none e]; rfl
    | some d => rw [List.filterMap_cons_some e]; rfl
/-- a while loop: m falls -/
theorem whileL_is {g : Env → Store → Res (Bool × Store)} {f : Env → Store → RS} {Q : Flow × Env × Store → Prop} (Inv : Nat → Env → Store → Prop)
    (hs : ∀ m env G, Inv m env G → (g env G).Is fun b => match b.1 with
      | false => Q (.next, env, b.2)
      | true => (f env b.2).Is fun r => match r.1 with
        | .next => ∃ m', m' < m ∧ Inv m' r.2.1 r.2.2
        | .cont => ∃ m', m' < m ∧ Inv m' r.2.1 r.2.2
        | .brk => Q (.next, r.2)
        | .ret d => Q (.ret d, r.2)) : ∀ (n m : Nat) (env : Env) (G : Store), m < n → Inv m env G → (whileL g f n env G).Is Q
  | 0, _, _, _, h, _ => by omega
  | n + 1, m, env, G, h, i => by
    rw [whileL, Is_bind]
    refine Is.mono (hs _ _ _ i) ?_
    rintro ⟨b, G2⟩ h2
    cases b with
    | false => exact .mk h2
    | true =>
      show ((f env G2).bind _).Is Q
      rw [Is_bind]
      refine Is.mono h2 ?_
      rintro ⟨fl, e2, G3⟩ h3
      cases fl with
      | next => obtain ⟨m', l, h4⟩ := h3; exact whileL_is Inv hs n m' _ _ (by omega) h4
      | cont => obtain ⟨m', l, h4⟩ := h3; exact whileL_is Inv hs n m' _ _ (by omega) h4
      | brk => exact .mk h3
      | ret d => exact .mk h3

/-! ### small steps -/
theorem getV_zero {d : D} {e : Env} {G : Store} : getV (some d :: e) 0 G = .ok (d, G) := (rfl)
theorem getV_succ {x : Option D} {e : Env} {i : Nat} {G : Store} : getV (x :: e) (i + 1) G = getV e i G := (rfl)
theorem asgT_slot {i : Nat} {d : D} {env : Env} : asgT (.slot i) d env = some (env.set i (some d)) := by rw [asgT]
theorem asgT_tup {ts : List T} {ds : List D} {env : Env} : asgT (.tup ts) (.tup ds) env = asgTs ts ds env := by rw [asgT]
theorem asgTs_nil {env : Env} : asgTs [] [] env = some env := by rw [asgTs]
theorem asgTs_cons {t : T} {ts : List T} {d : D} {ds : List D} {env : Env} : asgTs (t :: ts) (d :: ds) env = (asgT t d env).bind fun e => asgTs ts ds e := by rw [asgTs]
theorem bin_add_int {i j : Int} {G : Store} : binS .add (.int i) (.int j) G = .ok (.int (i + j), G) := (rfl)
theorem bin_add_str {i j : List Nat} {G : Store} : binS .add (.str i) (.str j) G = must (decide (i.length + j.length ≤ lim)) (.ok (.str (i ++ j), G)) := (rfl)
theorem bin_sub_int {i j : Int} {G : Store} : binS .sub (.int i) (.int j) G = .ok (.int (i - j), G) := (rfl)
theorem bin_mul_int {i j : Int} {G : Store} : binS .mul (.int i) (.int j) G = must (small64 i || small64 j) (.ok (.int (i * j), G)) := (rfl)
theorem bin_fdiv_int {i j : Int} {G : Store} : binS .fdiv (.int i) (.int j) G = must (decide (0 < j) && decide (j < 1073741824)) (.ok (.int (i / j), G)) := (rfl)
theorem bin_mod_int {i j : Int} {G : Store} : binS .mod (.int i) (.int j) G = must (decide (0 < j)) (.ok (.int (i % j), G)) := (rfl)
theorem cmp_lt_int {i j : Int} {G : Store} : cmpS .lt (.int i) (.int j) G = .ok (.bl (decide (i < j)), G) := by
  have : ltS G (.int i) (.int j) = some (decide (i < j)) := by
    show (if (PySem.W.alike (.int i) (.int j) && decide ((PyData.int i).depth ≤ 64) && notNone (.int i)) = true then some (PySem.W.dataLt (.int i) (.int j)) else none) = _
    have e1 : PySem.W.alike (.int i) (.int j) = true := by simp [PySem.W.alike]
    have e2 : (PyData.int i).depth = 0 := by simp [PyData.depth]
    rw [e1, e2, PySem.W.dataLt_int]; rfl
  unfold cmpS; rw [this]; rfl
theorem cmp_gt_int {i j : Int} {G : Store} : cmpS .gt (.int i) (.int j) G = .ok (.bl (decide (j < i)), G) := (rfl)
theorem cmp_le_int {i j : Int} {G : Store} : cmpS .le (.int i) (.int j) G = .ok (.bl (decide (i ≤ j)), G) := (rfl)
theorem cmp_ge_int {i j : Int} {G : Store} : cmpS .ge (.int i) (.int j) G = .ok (.bl (decide (j ≤ i)), G) := (rfl)

/-! ### plain data: no flags, no references -/
mutual
def pdOf : D → PyData
  | .non => .none
  | .bl b => .bool b
  | .int i => .int i
  | .str s => .str ⟨s.toArray⟩
  | .tup l => .tuple (pdsOf l)
  | .ref _ => .none
def pdsOf : List D → List PyData
  | [] => []
  | d :: ds => pdOf d :: pdsOf ds
end
mutual
def pln : D → Bool
  | .non => true
  | .int _ => true
  | .str s => s.all fun x => decide (x < 1114112)
  | .tup l => plns l
  | _ => false
def plns : List D → Bool
  | [] => true
  | d :: ds => pln d && plns ds
end
mutual
theorem snap_pln (G : Store) : ∀ (d : D) (n : Nat), pln d = true → dpth d ≤ n → snap G n d = some (pdOf d)
  | .non, n, _, _ => by cases n <;> rfl
  | .int i, n, _, _ => by cases n <;> rfl
  | .str s, n, _, _ => by cases n <;> rfl
  | .tup l, 0, _, h => by rw [dpth] at h; omega
  | .tup l, n + 1, p, h => by
    rw [dpth] at h
    rw [pln] at p
    rw [snap, snaps_pln G l n p (by omega)]; rfl
theorem snaps_pln (G : Store) : ∀ (l : List D) (n : Nat), plns l = true → dpths l ≤ n → snaps (snap G n) l = some (pdsOf l)
  | [], _, _, _ => rfl
  | d :: ds, n, p, h => by
    rw [dpths] at h
    rw [plns, Bool.and_eq_true] at p
    rw [snaps, snap_pln G d n p.1 (by omega), snaps_pln G ds n p.2 (by omega)]; rfl
end
mutual
theorem eqv_pln : ∀ a b : D, pln a = true → pln b = true → PyData.eqv (pdOf a) (pdOf b) = decide (a = b)
  | .non, b, _, q => by cases b <;> first | (simp [pln] at q; done) | simp [pdOf, PyData.eqv]
  | .int i, b, _, q => by cases b <;> first | (simp [pln] at q; done) | (simp [pdOf, PyData.eqv]; done) | (rw [Bool.eq_iff_iff]; simp [pdOf, PyData.eqv])
  | .str i, b, _, q => by cases b <;> first | (simp [pln] at q; done) | (simp [pdOf, PyData.eqv]; done) | (rw [Bool.eq_iff_iff]; simp [pdOf, PyData.eqv])
  | .tup l, b, p, q => by
    cases b with
    | tup k =>
      rw [pln] at p q
      rw [pdOf, pdOf, PyData.eqv, eqvs_pln l k p q]; simp
    | _ => first | (simp [pln] at q; done) | simp [pdOf, PyData.eqv]
theorem eqvs_pln : ∀ a b : List D, plns a = true → plns b = true → PyData.eqvAll (pdsOf a) (pdsOf b) = decide (a = b)
  | [], b, _, _ => by cases b <;> simp [pdsOf, PyData.eqvAll]
  | a :: as, [], _, _ => by simp [pdsOf, PyData.eqvAll]
  | a :: as, b :: bs, p, q => by
    rw [plns, Bool.and_eq_true] at p q
    rw [pdsOf, pdsOf, PyData.eqvAll, eqv_pln a b p.1 q.1, eqvs_pln as bs p.2 q.2]; simp
end
mutual
theorem can_pln : ∀ a : D, pln a = true → PyData.canLay0 (pdOf a) = true
  | .non, _ => by simp [pdOf, PyData.canLay0]
  | .int i, _ => by simp [pdOf, PyData.canLay0]
  | .str s, h => by
    rw [pln] at h
    simp only [pdOf, PyData.canLay0, PyData.strOk]
    rw [← Array.all_toList]; exact h
  | .tup l, h => by
    rw [pln] at h
    rw [pdOf, PyData.canLay0]; exact cans_pln l h
theorem cans_pln : ∀ a : List D, plns a = true → PyData.canLayAll0 (pdsOf a) = true
  | [], _ => by simp [pdsOf, PyData.canLayAll0]
  | a :: as, h => by
    rw [plns, Bool.and_eq_true] at h
    rw [pdsOf, PyData.canLayAll0, can_pln a h.1, cans_pln as h.2]; rfl
end
mutual
theorem depth_pln : ∀ a : D, (pdOf a).depth = dpth a
  | .non => by simp [pdOf, PyData.depth, dpth]
  | .bl _ => by simp [pdOf, PyData.depth, dpth]
  | .ref _ => by simp [pdOf, PyData.depth, dpth]
  | .int i => by simp [pdOf, PyData.depth, dpth]
  | .str s => by simp [pdOf, PyData.depth, dpth]
  | .tup l => by
    rw [pdOf, PyData.depth, depths_pln l, dpth]
theorem depths_pln : ∀ a : List D, PyData.depthAll (pdsOf a) = dpths a
  | [] => by simp [pdsOf, PyData.depthAll, dpths]
  | a :: as => by
    rw [pdsOf, PyData.depthAll, depth_pln a, depths_pln as, dpths]
end
theorem shaped_pln {a : D} (p : pln a = true) (h : dpth a ≤ 60) : PySem.SeqAt.shaped (pdOf a) = true := by
  unfold PySem.SeqAt.shaped
  rw [can_pln a p, depth_pln a, decide_eq_true (by omega : dpth a ≤ 64)]; rfl
theorem eqS_pln {a b : D} (G : Store) (p : pln a = true) (q : pln b = true) (h : dpth a ≤ 60) (k : dpth b ≤ 60) : eqS G a b = some (decide (a = b)) := by
  unfold eqS
  rw [snap_pln G a 64 p (by omega), snap_pln G b 64 q (by omega)]
  show (if (PySem.SeqAt.shaped (pdOf a) && PySem.SeqAt.shaped (pdOf b)) = true then some (PyData.eqv (pdOf a) (pdOf b)) else none) = _
  rw [shaped_pln p h, shaped_pln q k, eqv_pln a b p q]; rfl
end Wp

/-! Wq: rows of plain data, dicts with plain keys, texts that show data. -/
namespace Wp
open Fw
open PySem (Str PyData)

/-! ### rows -/
theorem plns_iff : ∀ {l : List D}, plns l = true ↔ ∀ d ∈ l, pln d = true
  | [] => by simp [plns]
  | d :: ds => by rw [plns, Bool.and_eq_true, plns_iff]; simp
theorem dpths_le {n : Nat} : ∀ {l : List D}, dpths l ≤ n ↔ ∀ d ∈ l, dpth d ≤ n
  | [] => by simp [dpths]
  | d :: ds => by
    rw [dpths]
    have := dpths_le (n := n) (l := ds)
    simp only [List.mem_cons, forall_eq_or_imp, ← this]
    omega
theorem shapedL_pln {l : List D} (p : plns l = true) (h : dpths l ≤ 60) : PySem.SeqAt.shaped (.list (pdsOf l)) = true := by
  unfold PySem.SeqAt.shaped
  rw [PyData.canLay0, cans_pln l p, PyData.depth, depths_pln l, decide_eq_true (by omega)]; rfl
theorem any_pln {x : D} (p : pln x = true) : ∀ {l : List D}, plns l = true → ((pdsOf l).any fun z => PyData.eqv z (pdOf x)) = decide (x ∈ l)
  | [], _ => by simp [pdsOf]
  | d :: ds, q => by
    rw [plns, Bool.and_eq_true] at q
    rw [pdsOf, List.any_cons, eqv_pln d x q.1 p, any_pln p q.2]
    by_cases h : d = x
    · subst h; simp
    · have h2 : x ≠ d := fun e => h e.symm
      simp [h, h2]
theorem memS_pln {x : D} {l : List D} (G : Store) (p : pln x = true) (h : dpth x ≤ 60) (q : plns l = true) (k : dpths l ≤ 60) : memS G x l = some (decide (x ∈ l)) := by
  unfold memS
  rw [snap_pln G x 64 p (by omega), snaps_pln G l 63 q (by omega)]
  show (if (PySem.SeqAt.shaped (pdOf x) && PySem.SeqAt.shaped (.list (pdsOf l))) = true then _ else none) = _
  rw [shaped_pln p h, shapedL_pln q k, any_pln p q]; rfl
theorem find_pln {x : D} (p : pln x = true) : ∀ {l : List D}, plns l = true → ((pdsOf l).findIdx? fun z => PyData.eqv z (pdOf x)) = l.idxOf? x
  | [], _ => by simp [pdsOf]
  | d :: ds, q => by
    rw [plns, Bool.and_eq_true] at q
    rw [pdsOf, List.findIdx?_cons, eqv_pln d x q.1 p, find_pln p q.2, List.idxOf?_cons]
    by_cases h : d = x
    · subst h; simp
    · simp [h]
theorem indexS_pln {x : D} {l : List D} (G : Store) (p : pln x = true) (h : dpth x ≤ 60) (q : plns l = true) (k : dpths l ≤ 60) : indexS G x l = l.idxOf? x := by
  unfold indexS
  rw [snap_pln G x 64 p (by omega), snaps_pln G l 63 q (by omega)]
  show (if (PySem.SeqAt.shaped (pdOf x) && PySem.SeqAt.shaped (.list (pdsOf l))) = true then _ else none) = _
  rw [shaped_pln p h, shapedL_pln q k, find_pln p q]; rfl

/-! ### keys -/
mutual
theorem keyOf_some : ∀ {d : D}, pln d = true → ∃ k, keyOf d = some k
  | .non, _ => ⟨_, rfl⟩
  | .int _, _ => ⟨_, rfl⟩
  | .str _, _ => ⟨_, rfl⟩
  | .tup l, h => by
    rw [pln] at h
    obtain ⟨k, e⟩ := keysOf_some h
    exact ⟨_, by rw [keyOf, e]; rfl⟩
  | .bl _, h => by simp [pln] at h
  | .ref _, h => by simp [pln] at h
theorem keysOf_some : ∀ {l : List D}, plns l = true → ∃ k, keysOf l = some k
  | [], _ => ⟨_, rfl⟩
  | d :: ds, h => by
    rw [plns, Bool.and_eq_true] at h
    obtain ⟨k, e⟩ := keyOf_some h.1
    obtain ⟨ks, es⟩ := keysOf_some h.2
    exact ⟨_, by rw [keysOf, e, es]; rfl⟩
end
mutual
theorem keyOf_inj : ∀ {a b : D}, pln a = true → pln b = true → keyOf a = keyOf b → a = b
  | .non, b, _, q, e => by cases b <;> first | (simp [pln] at q; done) | rfl | (simp [keyOf] at e; done) | (rw [pln] at q; obtain ⟨k, e2⟩ := keysOf_some q; rw [keyOf, keyOf, e2] at e; simp at e)
  | .int i, b, _, q, e => by cases b <;> first | (simp [pln] at q; done) | (simp [keyOf] at e; subst e; rfl) | (simp [keyOf] at e; done) | (rw [pln] at q; obtain ⟨k, e2⟩ := keysOf_some q; rw [keyOf, keyOf, e2] at e; simp at e)
  | .str i, b, _, q, e => by cases b <;> first | (simp [pln] at q; done) | (simp [keyOf] at e; subst e; rfl) | (simp [keyOf] at e; done) | (rw [pln] at q; obtain ⟨k, e2⟩ := keysOf_some q; rw [keyOf, keyOf, e2] at e; simp at e)
  | .tup l, b, p, q, e => by
    rw [pln] at p
    obtain ⟨k, e1⟩ := keysOf_some p
    cases b with
    | tup m =>
      rw [pln] at q
      obtain ⟨k', e2⟩ := keysOf_some q
      rw [keyOf, keyOf, e1, e2] at e
      have e3 : k = k' := by simpa using e
      rw [keysOf_inj p q (by rw [e1, e2, e3])]
    | bl _ => simp [pln] at q
    | ref _ => simp [pln] at q
    | non => rw [show keyOf (.tup l) = (keysOf l).map .tup from by rw [keyOf], e1] at e; simp [keyOf] at e
    | int _ => rw [show keyOf (.tup l) = (keysOf l).map .tup from by rw [keyOf], e1] at e; simp [keyOf] at e
    | str _ => rw [show keyOf (.tup l) = (keysOf l).map .tup from by rw [keyOf], e1] at e; simp [keyOf] at e
theorem keysOf_inj : ∀ {a b : List D}, plns a = true → plns b = true → keysOf a = keysOf b → a = b
  | [], [], _, _, _ => rfl
  | [], b :: bs, _, q, e => by
    obtain ⟨k, e2⟩ := keysOf_some q
    rw [e2, keysOf] at e
    rw [keysOf] at e2
    cases h : keyOf b with
    | none => rw [h] at e2; cases e2
    | some z =>
      cases h3 : keysOf bs with
      | none => rw [h, h3] at e2; cases e2
      | some zs => rw [h, h3] at e2; cases e2; cases e
  | a :: as, [], p, _, e => by
    obtain ⟨k, e2⟩ := keysOf_some p
    rw [e2, keysOf] at e
    rw [keysOf] at e2
    cases h : keyOf a with
    | none => rw [h] at e2; cases e2
    | some z =>
      cases h3 : keysOf as with
      | none => rw [h, h3] at e2; cases e2
      | some zs => rw [h, h3] at e2; cases e2; cases e
  | a :: as, b :: bs, p, q, e => by
    rw [plns, Bool.and_eq_true] at p q
    obtain ⟨k1, e1⟩ := keyOf_some p.1
    obtain ⟨k2, e2⟩ := keysOf_some p.2
    obtain ⟨k3, e3⟩ := keyOf_some q.1
    obtain ⟨k4, e4⟩ := keysOf_some q.2
    rw [keysOf, keysOf, e1, e2, e3, e4] at e
    have e5 : k1 = k3 ∧ k2 = k4 := by simpa using e
    rw [keyOf_inj p.1 q.1 (by rw [e1, e3, e5.1]), keysOf_inj p.2 q.2 (by rw [e2, e4, e5.2])]
end
/-- keys that are fit: plain, all tuples or none -/
structure DK (t : Bool) (kvs : List (D × D)) : Prop where
  pl : ∀ kv ∈ kvs, pln kv.1 = true ∧ isTup kv.1 = t
/-- a key that is fit -/
def KF (t : Bool) (d : D) : Prop := pln d = true ∧ isTup d = t ∧ keyForm d = true ∧ dpth d ≤ 8
def lkD (d : D) : List (D × D) → Option D
  | [] => none
  | (e, v) :: r => if e = d then some v else lkD d r
def ptD (d v : D) (kvs : List (D × D)) : List (D × D) := if (lkD d kvs).isSome = true then kvs.map (fun e => if e.1 = d then (e.1, v) else e) else kvs ++ [(d, v)]
theorem DK.nil {t : Bool} : DK t [] := ⟨fun _ h => by cases h⟩
theorem DK.cons {t : Bool} {kv : D × D} {kvs : List (D × D)} (h : DK t (kv :: kvs)) : (pln kv.1 = true ∧ isTup kv.1 = t) ∧ DK t kvs := ⟨h.pl kv (List.mem_cons_self ..), ⟨fun x m => h.pl x (List.mem_cons_of_mem _ m)⟩⟩
theorem keyFor_fit {t : Bool} {kvs : List (D × D)} {d : D} (h : DK t kvs) (k : KF t d) : ∃ q, keyFor kvs d = some q ∧ keyOf d = some q := by
  obtain ⟨q, e⟩ := keyOf_some k.1
  refine ⟨q, ?_, e⟩
  unfold keyFor
  have h2 : (kvs.all fun kv => isTup kv.1 == isTup d) = true := List.all_eq_true.2 fun kv m => by rw [(h.pl kv m).2, k.2.1]; exact beq_self_eq_true _
  rw [k.2.2.1, h2, decide_eq_true k.2.2.2]
  exact e
theorem lookK_fit {t : Bool} {d : D} {q : PySem.NestedKey} (k : KF t d) (e : keyOf d = some q) : ∀ {kvs : List (D × D)}, DK t kvs → lookK q kvs = lkD d kvs
  | [], _ => rfl
  | (a, v) :: r, h => by
    rw [lookK, lkD, lookK_fit k e h.cons.2]
    by_cases x : a = d
    · rw [if_pos x, x, if_pos e]
    · rw [if_neg x, if_neg fun y => x (keyOf_inj h.cons.1.1 k.1 (y.trans e.symm))]
theorem putK_fit {t : Bool} {d v : D} {q : PySem.NestedKey} (k : KF t d) (e : keyOf d = some q) {kvs : List (D × D)} (h : DK t kvs) : putK q d v kvs = ptD d v kvs := by
  unfold putK ptD
  rw [lookK_fit k e h]
  have : kvs.map (fun z => if keyOf z.1 = some q then (z.1, v) else z) = kvs.map (fun z => if z.1 = d then (z.1, v) else z) := by
    refine List.map_congr_left fun z m => ?_
    by_cases x : z.1 = d
    · rw [if_pos x, x, if_pos e]
    · rw [if_neg x, if_neg fun y => x (keyOf_inj (h.pl z m).1 k.1 (y.trans e.symm))]
  rw [this]
theorem DK.put {t : Bool} {d v : D} (k : KF t d) {kvs : List (D × D)} (h : DK t kvs) : DK t (ptD d v kvs) := by
  unfold ptD
  split
  · refine ⟨fun z m => ?_⟩
    obtain ⟨y, my, rfl⟩ := List.mem_map.1 m
    have := h.pl y my
    split <;> exact this
  · refine ⟨fun z m => ?_⟩
    rw [List.mem_append, List.mem_singleton] at m
    rcases m with m | rfl
    · exact h.pl z m
    · exact ⟨k.1, k.2.1⟩
theorem ptD_new {d v : D} {kvs : List (D × D)} (h : lkD d kvs = none) : ptD d v kvs = kvs ++ [(d, v)] := by
  unfold ptD; rw [h]; rfl
theorem lkD_none {d : D} : ∀ {kvs : List (D × D)}, (∀ kv ∈ kvs, kv.1 ≠ d) → lkD d kvs = none
  | [], _ => rfl
  | (a, v) :: r, h => by
    rw [lkD, if_neg (h _ (List.mem_cons_self ..))]
    exact lkD_none fun kv m => h kv (List.mem_cons_of_mem _ m)
theorem lkD_app {d : D} : ∀ {kvs r : List (D × D)}, lkD d (kvs ++ r) = (lkD d kvs).or (lkD d r)
  | [], _ => rfl
  | (a, v) :: k, r => by
    rw [List.cons_append, lkD, lkD]
    by_cases x : a = d
    · rw [if_pos x, if_pos x]; rfl
    · rw [if_neg x, if_neg x]; exact lkD_app
/-! what the steps do with dicts -/
theorem idx_dct {t : Bool} {n : Nat} {kvs : List (D × D)} {b : D} {G : Store} (hn : G[n]? = some (.dct kvs)) (h : DK t kvs) (k : KF t b) : idxS (.ref n) b G = Res.of ((lkD b kvs).map fun d => (d, G)) := by
  obtain ⟨q, e1, e2⟩ := keyFor_fit h k
  unfold idxS
  dsimp only
  rw [hn]
  show Res.of (((keyFor kvs b).bind fun k => lookK k kvs).map _) = _
  rw [e1]
  show Res.of ((lookK q kvs).map _) = _
  rw [lookK_fit k e2 h]
theorem in_dct {t : Bool} {n : Nat} {kvs : List (D × D)} {b : D} {G : Store} (hn : G[n]? = some (.dct kvs)) (h : DK t kvs) (k : KF t b) : inS G b (.ref n) = some (lkD b kvs).isSome := by
  obtain ⟨q, e1, e2⟩ := keyFor_fit h k
  unfold inS
  dsimp only
  rw [hn]
  show (keyFor kvs b).map _ = _
  rw [e1]
  show some (lookK q kvs).isSome = _
  rw [lookK_fit k e2 h]
theorem set_dct {t : Bool} {n : Nat} {kvs : List (D × D)} {b v : D} {G : Store} (hn : G[n]? = some (.dct kvs)) (h : DK t kvs) (k : KF t b) (l : kvs.length < lim) : setS (.ref n) b v G = .ok (G.set n (.dct (ptD b v kvs))) := by
  obtain ⟨q, e1, e2⟩ := keyFor_fit h k
  unfold setS
  dsimp only
  rw [hn]
  show must (decide (kvs.length < lim)) (Res.of ((keyFor kvs b).map _)) = _
  rw [decide_eq_true l, e1, ← putK_fit k e2 h]; rfl
theorem get_dct {t : Bool} {n : Nat} {kvs : List (D × D)} {b d : D} {G : Store} (hn : G[n]? = some (.dct kvs)) (h : DK t kvs) (k : KF t b) : mthS .dct .get (.ref n) [b, d] G = .ok ((lkD b kvs).getD d, G) := by
  obtain ⟨q, e1, e2⟩ := keyFor_fit h k
  unfold mthS
  dsimp only
  rw [hn]
  show Res.of ((keyFor kvs b).map _) = _
  rw [e1]
  show Res.ok ((lookK q kvs).getD d, G) = _
  rw [lookK_fit k e2 h]
/-- a dict comprehension that changes nothing: each key and value in turn -/
theorem dcL_pure {t : Bool} {c c' : Option (Nat × O)} {f : D → Store → Res (Option (D × D) × Store)} {G : Store} (hc : chk c G = true) (hc' : chk c' G = true) (g : D → D × D) : ∀ (xs : List D) (kvs : List (D × D)),
    (∀ x ∈ xs, f x G = .ok (some (g x), G) ∧ KF t (g x).1) → DK t kvs → kvs.length + xs.length < lim → (∀ kv ∈ kvs, ∀ x ∈ xs, kv.1 ≠ (g x).1) → (xs.map fun x => (g x).1).Nodup → dcL c c' f xs kvs G = .ok (kvs ++ xs.map g, G)
  | [], kvs, _, _, _, _, _ => by rw [dcL, hc, hc']; simp
  | x :: xs, kvs, hf, hk, hl, hn, hd => by
    obtain ⟨h1, h2⟩ := hf x (List.mem_cons_self ..)
    obtain ⟨q, e1, e2⟩ := keyFor_fit hk h2
    have hnew : lkD (g x).1 kvs = none := lkD_none fun kv m => hn kv m x (List.mem_cons_self ..)
    have hput : putK q (g x).1 (g x).2 kvs = kvs ++ [g x] := by rw [putK_fit h2 e2 hk, ptD_new hnew]
    rw [List.length_cons] at hl
    rw [List.map_cons, List.nodup_cons] at hd
    rw [dcL, hc, hc', h1]
    show must (decide (kvs.length < lim)) (match keyFor kvs (g x).1 with
      | some q => dcL c c' f xs (putK q (g x).1 (g x).2 kvs) G
      | none => .stuck) = _
    rw [decide_eq_true (by omega), e1]
    show dcL c c' f xs (putK q (g x).1 (g x).2 kvs) G = _
    rw [hput, dcL_pure hc hc' g xs _ (fun y m => hf y (List.mem_cons_of_mem _ m)) ?_ (by rw [List.length_append, List.length_singleton]; omega) ?_ hd.2]
    · rw [List.append_assoc]; rfl
    · have := hk.put (v := (g x).2) h2
      rwa [ptD_new hnew] at this
    · intro kv m y my e
      rw [List.mem_append, List.mem_singleton] at m
      rcases m with m | rfl
      · exact hn kv m y (List.mem_cons_of_mem _ my) e
      · exact hd.1 (by rw [e]; exact List.mem_map_of_mem my)
end Wp

/-! Wr: the text that shows plain data. -/
namespace Wp
open Fw
open PySem (Str PyData)
/-- all its signs are signs -/
def Sg (x : Str) : Prop := ∀ c ∈ x.cps.toList, c < 1114112
theorem Sg.app {a b : Str} (h : Sg a) (k : Sg b) : Sg (a ++ b) := by
  intro c m
  have e : (a ++ b).cps.toList = a.cps.toList ++ b.cps.toList := by
    show (a.cps ++ b.cps).toList = _
    rw [Array.toList_append]
  rw [e, List.mem_append] at m
  rcases m with m | m
  · exact h c m
  · exact k c m
theorem Sg.ofString (s : String) : Sg (Str.ofString s) := by
  intro c m
  rw [Str.ofString_eq_toList] at m
  rw [List.mem_map] at m
  obtain ⟨d, _, rfl⟩ := m
  have := d.valid
  unfold UInt32.isValidChar Nat.isValidChar at this
  show d.val.toNat < _
  omega
theorem Sg.join {sep : Str} (h : Sg sep) : ∀ l : List Str, (∀ x ∈ l, Sg x) → Sg (Str.join sep l)
  | [], _ => by intro c m; cases m
  | [x], k => k x (List.mem_cons_self ..)
  | x :: y :: r, k => ((k x (List.mem_cons_self ..)).app h).app (Sg.join h (y :: r) fun z m => k z (List.mem_cons_of_mem _ m))
theorem Sg.textFrom : ∀ (l : List Str) (n : Nat) (acc : Str), Sg acc → (∀ x ∈ l, Sg x) → Sg (PySem.textFrom n acc l)
  | [], _, _, h, _ => h
  | x :: r, n, acc, h, k => Sg.textFrom r (n + 1) _ ((h.app (Sg.ofString _)).app (k x (List.mem_cons_self ..))) fun z m => k z (List.mem_cons_of_mem _ m)
theorem dig_lt (n : Nat) : ∀ c ∈ (Nat.toDigits 16 n).map Char.toNat, c < 1114112 := by
  intro c m
  rw [List.mem_map] at m
  obtain ⟨d, _, rfl⟩ := m
  have := d.valid
  unfold UInt32.isValidChar Nat.isValidChar at this
  show d.val.toNat < _
  omega
theorem hex_lt (n w : Nat) : ∀ c ∈ List.replicate w 48 ++ (Nat.toDigits 16 n).map Char.toNat, c < 1114112 := by
  intro c m
  rw [List.mem_append] at m
  rcases m with m | m
  · rw [List.eq_of_mem_replicate m]; omega
  · exact dig_lt n c m
theorem reprChar_sg {q c : Nat} (hc : c < 1114112) : ∀ x ∈ PySem.Builtin.Str.reprChar q c, x < 1114112 := by
  intro x m
  unfold PySem.Builtin.Str.reprChar at m
  dsimp only at m
  repeat' split at m
  all_goals
    simp only [List.mem_append, List.mem_cons, List.not_mem_nil, or_false] at m
    first
    | (rcases m with rfl | rfl <;> omega)
    | (subst m; exact hc)
    | (rcases m with (rfl | rfl) | m
       · omega
       · omega
       · exact hex_lt _ _ x (by rw [List.mem_append]; exact m))
theorem foldl_sg (q : Nat) : ∀ (l : List Nat) (acc : Array Nat), (∀ c ∈ acc.toList, c < 1114112) → (∀ c ∈ l, c < 1114112) → ∀ c ∈ (l.foldl (fun out c => out ++ (PySem.Builtin.Str.reprChar q c).toArray) acc).toList, c < 1114112
  | [], _, h, _ => h
  | a :: l, acc, h, k => foldl_sg q l _ (by
      intro c m
      rw [Array.toList_append, List.mem_append] at m
      rcases m with m | m
      · exact h c m
      · exact reprChar_sg (k a (List.mem_cons_self ..)) c m) fun c m => k c (List.mem_cons_of_mem _ m)
theorem reprText_sg {x : Str} (h : Sg x) : Sg (PySem.reprText x) := by
  have hq : PySem.reprQuote x < 1114112 := by unfold PySem.reprQuote; split <;> omega
  intro c m
  unfold PySem.reprText at m
  rw [Array.toList_push, List.mem_append, ← Array.foldl_toList] at m
  rcases m with m | m
  · refine foldl_sg _ _ _ ?_ h c m
    intro c m
    rw [List.mem_singleton.1 m]; exact hq
  · rw [List.mem_singleton.1 m]; exact hq
mutual
theorem shown_sg : ∀ d : D, pln d = true → Sg (pdOf d).shown
  | .non, _ => by rw [pdOf, PyData.shown]; exact Sg.ofString _
  | .bl b, _ => by rw [pdOf, PyData.shown]; split <;> exact Sg.ofString _
  | .ref _, _ => by rw [pdOf, PyData.shown]; exact Sg.ofString _
  | .int i, _ => by rw [pdOf, PyData.shown]; exact Sg.ofString _
  | .str s, h => by
    rw [pdOf, PyData.shown]
    rw [pln] at h
    exact reprText_sg fun c m => of_decide_eq_true (List.all_eq_true.1 h c m)
  | .tup l, h => by
    rw [pdOf, PyData.shown]
    rw [pln] at h
    exact ((Sg.ofString _).app (Sg.join (Sg.ofString _) _ (showns_sg l h))).app (Sg.ofString _)
theorem showns_sg : ∀ l : List D, plns l = true → ∀ x ∈ PyData.shownAll (pdsOf l), Sg x
  | [], _, x, m => by rw [pdsOf, PyData.shownAll] at m; cases m
  | d :: ds, h, x, m => by
    rw [plns, Bool.and_eq_true] at h
    rw [pdsOf, PyData.shownAll, List.mem_cons] at m
    rcases m with rfl | m
    · exact shown_sg d h.1
    · exact showns_sg ds h.2 x m
end
/-! how long it is -/
mutual
/-- whole numbers near 0 -/
def sht : D → Bool
  | .int i => decide (i.natAbs < 4096)
  | .tup l => shts l
  | _ => true
def shts : List D → Bool
  | [] => true
  | d :: ds => sht d && shts ds
end
mutual
def blk : D → Nat
  | .str s => s.length
  | .tup l => blks l
  | _ => 0
def blks : List D → Nat
  | [] => 0
  | d :: ds => blk d + 1 + blks ds
end
theorem log_lt {n : Nat} (h : n < 4096) : n.log2 < 12 := by
  by_cases h0 : n = 0
  · subst h0; decide
  · exact (Nat.log2_lt h0).2 h
mutual
theorem leaves_pln : ∀ d : D, pln d = true → sht d = true → (pdOf d).leavesShort 13 = true
  | .non, _, _ => by simp only [pdOf, PyData.leavesShort]
  | .bl _, h, _ => by simp [pln] at h
  | .ref _, h, _ => by simp [pln] at h
  | .int i, _, h => by
    rw [sht, decide_eq_true_eq] at h
    simp only [pdOf, PyData.leavesShort, decide_eq_true_eq]
    have h1 := PySem.int_text_length_le (a := i) (k := 12) (by decide) (log_lt h)
    have h2 : (PyData.int i).shown.length = (toString i).length := by
      rw [PyData.shown]
      show (Str.ofString (toString i)).cps.size = _
      rw [Str.ofString_eq_toList]
      simp only [List.size_toArray, List.length_map]
      first | rfl | exact String.length_toList
    omega
  | .str s, h, _ => by
    rw [pln] at h
    simp only [pdOf, PyData.leavesShort, List.all_eq_true, decide_eq_true_eq]
    intro c m
    have := of_decide_eq_true (List.all_eq_true.1 h c m)
    have e : (16 : Nat) ^ 8 = 4294967296 := by decide
    omega
  | .tup l, h, k => by
    rw [pln] at h
    rw [sht] at k
    simp only [pdOf, PyData.leavesShort]
    exact leavess_pln l h k
theorem leavess_pln : ∀ l : List D, plns l = true → shts l = true → PyData.leavesShortAll 13 (pdsOf l) = true
  | [], _, _ => by simp only [pdsOf, PyData.leavesShortAll]
  | d :: ds, h, k => by
    rw [plns, Bool.and_eq_true] at h
    rw [shts, Bool.and_eq_true] at k
    rw [pdsOf, PyData.leavesShortAll, leaves_pln d h.1 k.1, leavess_pln ds h.2 k.2]; rfl
end
mutual
theorem bulk_pln : ∀ d : D, (pdOf d).bulk = blk d
  | .non => by simp [pdOf, PyData.bulk, blk]
  | .bl _ => by simp [pdOf, PyData.bulk, blk]
  | .ref _ => by simp [pdOf, PyData.bulk, blk]
  | .int _ => by simp [pdOf, PyData.bulk, blk]
  | .str s => by simp [pdOf, PyData.bulk, blk]
  | .tup l => by rw [pdOf, PyData.bulk, bulks_pln l, blk]
theorem bulks_pln : ∀ l : List D, PyData.bulkAll (pdsOf l) = blks l
  | [] => by simp [pdsOf, PyData.bulkAll, blks]
  | d :: ds => by rw [pdsOf, PyData.bulkAll, bulk_pln d, bulks_pln ds, blks]
end
mutual
theorem showable_pln : ∀ d : D, sht d = true → (pdOf d).showable = true
  | .non, _ => by simp [pdOf, PyData.showable]
  | .bl _, _ => by simp [pdOf, PyData.showable]
  | .ref _, _ => by simp [pdOf, PyData.showable]
  | .int i, h => by
    rw [sht, decide_eq_true_eq] at h
    rw [pdOf, PyData.showable, decide_eq_true_eq]
    have := log_lt h
    omega
  | .str s, _ => by simp [pdOf, PyData.showable]
  | .tup l, h => by
    rw [sht] at h
    rw [pdOf, PyData.showable]; exact showables_pln l h
theorem showables_pln : ∀ l : List D, shts l = true → PyData.showableAll (pdsOf l) = true
  | [], _ => by simp [pdsOf, PyData.showableAll]
  | d :: ds, h => by
    rw [shts, Bool.and_eq_true] at h
    rw [pdsOf, PyData.showableAll, showable_pln d h.1, showables_pln ds h.2]; rfl
end
mutual
theorem hasDict_pln : ∀ d : D, (pdOf d).hasDict = false
  | .non => by simp [pdOf, PyData.hasDict]
  | .bl _ => by simp [pdOf, PyData.hasDict]
  | .ref _ => by simp [pdOf, PyData.hasDict]
  | .int _ => by simp [pdOf, PyData.hasDict]
  | .str s => by simp [pdOf, PyData.hasDict]
  | .tup l => by rw [pdOf, PyData.hasDict, hasDicts_pln l]
theorem hasDicts_pln : ∀ l : List D, PyData.hasDictAll (pdsOf l) = false
  | [] => by simp [pdsOf, PyData.hasDictAll]
  | d :: ds => by rw [pdsOf, PyData.hasDictAll, hasDict_pln d, hasDicts_pln ds]; rfl
end
/-- the text that shows a list of plain data -/
def rp (l : List D) : List Nat := (PyData.list (pdsOf l)).shown.cps.toList
theorem rp_pln {l : List D} (h : plns l = true) : pln (.str (rp l)) = true := by
  rw [pln, List.all_eq_true]
  intro c m
  rw [decide_eq_true_eq]
  unfold rp at m
  rw [PyData.shown] at m
  exact (Sg.textFrom _ 0 _ (Sg.ofString _) (showns_sg l h)).app (Sg.ofString _) c m
theorem reprS_pln {l : List D} {f : Bool} {i : Nat} {G : Store} (hi : G[i]? = some (.lst l f)) (h : plns l = true) (k : shts l = true) (d : dpths l ≤ 60) (b : blks l ≤ 1048576) : reprS (.ref i) G = .ok (.str (rp l), G) := by
  have e : snap G 64 (.ref i) = some (.list (pdsOf l)) := by
    rw [snap, hi]
    show (snaps (snap G 63) l).map _ = _
    rw [snaps_pln G l 63 h (by omega)]; rfl
  have e1 : (PyData.list (pdsOf l)).showable = true := by rw [PyData.showable]; exact showables_pln l k
  have e2 : (PyData.list (pdsOf l)).hasDict = false := by rw [PyData.hasDict]; exact hasDicts_pln l
  have e3 : (PyData.list (pdsOf l)).depth ≤ 64 := by rw [PyData.depth, depths_pln]; omega
  have e4 : (PyData.list (pdsOf l)).shown.length ≤ lim := by
    refine PyData.shown_fits_bulk (B := 13) (by decide) (by decide) ?_ ?_
    · simp only [PyData.leavesShort]; exact leavess_pln l h k
    · rw [PyData.bulk, bulks_pln]; exact b
  unfold reprS
  dsimp only
  rw [e]
  dsimp only
  rw [e1, e2, decide_eq_true e3, decide_eq_true e4]; rfl
end Wp

/-! Ws: small steps, and how they are taken in order. -/
namespace Wp
open Fw
open PySem (Str PyData)
variable {α β : Type}
theorem bind_cg {r r' : Res α} {f : α → Res β} (h : r = r') : r.bind f = r'.bind f := by rw [h]
theorem Is_cg {r r' : Res α} {Q : α → Prop} (h : r = r') : r.Is Q = r'.Is Q := by rw [h]
theorem must_cg {b b' : Bool} {r : Res α} (h : b = b') : must b r = must b' r := by rw [h]
theorem bind_okN {a : α} {f : α → Res β} : (Res.ok a).bind f = f a := (rfl)
theorem of_someN {a : α} : Res.of (some a) = .ok a := (rfl)
theorem must_tN {r : Res α} : must true r = r := (rfl)
theorem truth_bl {G : Store} {b : Bool} : truthS G (.bl b) = some b := (rfl)
theorem bifS_one {b : Bif} {a : D} {G : Store} : bifS b [a] G = bif1 b a G := (rfl)
theorem abs_int {i : Int} {G : Store} : absS (.int i) G = .ok (.int (if i < 0 then -i else i), G) := (rfl)
theorem int_int {i : Int} {G : Store} : intS (.int i) G = .ok (.int i, G) := (rfl)
theorem gmin {i : Int} {G : Store} : (match (D.int i, G).1 with
    | .int i => (Res.ok (.int (-i), (D.int i, G).2) : RD)
    | _ => .stuck) = .ok (.int (-i), G) := (rfl)
theorem gsec {a : D} {G : Store} : (a, G).2 = G := (rfl)
theorem idx_tup0 {a : D} {l : List D} {G : Store} : idxS (.tup (a :: l)) (.int 0) G = .ok (a, G) := by
  have : ixN (a :: l).length 0 = some 0 := by show L2.ixN (l.length + 1) 0 = some 0; simp [L2.ixN]
  unfold idxS
  dsimp only
  rw [this]; rfl
theorem idx_tup1 {a b : D} {l : List D} {G : Store} : idxS (.tup (a :: b :: l)) (.int 1) G = .ok (b, G) := by
  have : ixN (a :: b :: l).length 1 = some 1 := by show L2.ixN (l.length + 1 + 1) 1 = some 1; simp [L2.ixN]; omega
  unfold idxS
  dsimp only
  rw [this]; rfl
/-- a place that is there -/
theorem ixN_nat {n i : Nat} (h : i < n) : ixN n (i : Int) = some i := by
  show L2.ixN n i = some i
  simp [L2.ixN]; omega
theorem idx_lst {n : Nat} {l : List D} {f : Bool} {i : Nat} {d : D} {G : Store} (hn : G[n]? = some (.lst l f)) (hi : l[i]? = some d) : idxS (.ref n) (.int i) G = .ok (d, G) := by
  unfold idxS
  dsimp only
  rw [hn]
  dsimp only
  rw [ixN_nat (List.getElem?_eq_some_iff.1 hi).1]
  show Res.of ((l[i]?).map _) = _
  rw [hi]; rfl
theorem idx_tup {l : List D} {i : Nat} {d : D} {G : Store} (hi : l[i]? = some d) : idxS (.tup l) (.int i) G = .ok (d, G) := by
  unfold idxS
  dsimp only
  rw [ixN_nat (List.getElem?_eq_some_iff.1 hi).1]
  show Res.of ((l[i]?).map _) = _
  rw [hi]; rfl
theorem idx_str {s : List Nat} {i c : Nat} {G : Store} (hs : s.length ≤ lim) (hi : s[i]? = some c) : idxS (.str s) (.int i) G = .ok (.str [c], G) := by
  unfold idxS
  dsimp only
  rw [ixN_nat (List.getElem?_eq_some_iff.1 hi).1, decide_eq_true hs]
  show Res.of ((s[i]?).map _) = _
  rw [hi]; rfl
theorem set_lst {n : Nat} {l : List D} {i : Nat} {v : D} {G : Store} (hn : G[n]? = some (.lst l false)) (hi : i < l.length) : setS (.ref n) (.int i) v G = .ok (G.set n (.lst (l.set i v) false)) := by
  unfold setS
  dsimp only
  rw [hn]
  dsimp only
  rw [ixN_nat hi]; rfl
theorem len_lst {n : Nat} {l : List D} {f : Bool} {G : Store} (hn : G[n]? = some (.lst l f)) : lenS (.ref n) G = .ok (.int l.length, G) := by
  unfold lenS
  dsimp only
  rw [hn]
theorem len_tup {l : List D} {G : Store} : lenS (.tup l) G = .ok (.int l.length, G) := (rfl)
theorem len_str {s : List Nat} {G : Store} (h : s.length ≤ lim) : lenS (.str s) G = .ok (.int s.length, G) := by
  unfold lenS
  dsimp only
  rw [decide_eq_true h]; rfl
theorem append_lst {n : Nat} {l : List D} {d : D} {G : Store} (hn : G[n]? = some (.lst l false)) (h : l.length < lim) : mthS .lst .append (.ref n) [d] G = .ok (.non, G.set n (.lst (l ++ [d]) false)) := by
  unfold mthS
  dsimp only
  rw [hn]
  show must (!false && decide (l.length < lim)) _ = _
  rw [decide_eq_true h]; rfl
theorem kind_lst {n : Nat} {l : List D} {f : Bool} {G : Store} (hn : G[n]? = some (.lst l f)) : kindOf G (.ref n) = some .lst := by
  unfold kindOf
  dsimp only
  rw [hn]
theorem kind_dct {n : Nat} {l : List (D × D)} {G : Store} (hn : G[n]? = some (.dct l)) : kindOf G (.ref n) = some .dct := by
  unfold kindOf
  dsimp only
  rw [hn]
theorem walk_lst {n : Nat} {l : List D} {f : Bool} {G : Store} (hn : G[n]? = some (.lst l f)) : walkS G (.ref n) = some (l, some (n, .lst l f)) := by
  unfold walkS
  dsimp only
  rw [hn]
theorem chk_some {i : Nat} {o : O} {G : Store} (h : G[i]? = some o) : chk (some (i, o)) G = true := by
  unfold chk; exact decide_eq_true h
theorem chk_none {G : Store} : chk none G = true := (rfl)
theorem cmp_eq_int {i j : Int} {G : Store} : cmpS .eq (.int i) (.int j) G = .ok (.bl (decide (i = j)), G) := by
  unfold cmpS
  dsimp only
  rw [eqS_pln G (a := .int i) (b := .int j) rfl rfl (by simp [dpth]) (by simp [dpth])]
  by_cases h : i = j
  · subst h; simp
  · simp [h]
theorem cmp_ne_int {i j : Int} {G : Store} : cmpS .ne (.int i) (.int j) G = .ok (.bl (!decide (i = j)), G) := by
  unfold cmpS
  dsimp only
  rw [eqS_pln G (a := .int i) (b := .int j) rfl rfl (by simp [dpth]) (by simp [dpth])]
  by_cases h : i = j
  · subst h; simp
  · simp [h]
theorem cmp_eq_pln {a b : D} {G : Store} (p : pln a = true) (q : pln b = true) (h : dpth a ≤ 60) (k : dpth b ≤ 60) : cmpS .eq a b G = .ok (.bl (decide (a = b)), G) := by
  unfold cmpS
  dsimp only
  rw [eqS_pln G p q h k]; rfl
theorem cmp_ne_pln {a b : D} {G : Store} (p : pln a = true) (q : pln b = true) (h : dpth a ≤ 60) (k : dpth b ≤ 60) : cmpS .ne a b G = .ok (.bl (!decide (a = b)), G) := by
  unfold cmpS
  dsimp only
  rw [eqS_pln G p q h k]; rfl
theorem cmp_isn {a : D} {G : Store} : cmpS .isn a .non G = .ok (.bl (decide (a = .non)), G) := (rfl)
theorem cmp_notn {a : D} {G : Store} : cmpS .notn a .non G = .ok (.bl (!decide (a = .non)), G) := (rfl)
end Wp

/-! Wt: the interpreter's steps, each with what is left to do as a name: so that simp takes them in order. -/
namespace Wp
open Fw
open PySem (Str PyData)
variable {C : Ctx} {env : Env} {G : Store}
def kBin (C : Ctx) (o : Bin) (b : E) (env : Env) : D × Store → RD := fun x => (evE C b env x.2).bind fun y => binS o x.1 y.1 y.2
def kBin2 (o : Bin) (x : D) : D × Store → RD := fun y => binS o x y.1 y.2
def kNeg : D × Store → RD := fun x => match x.1 with
    | .int i => .ok (.int (-i), x.2)
    | _ => .stuck
def kCmp (C : Ctx) (o : Cmp) (b : E) (env : Env) : D × Store → RD := fun x => (evE C b env x.2).bind fun y => cmpS o x.1 y.1 y.2
def kCmp2 (o : Cmp) (x : D) : D × Store → RD := fun y => cmpS o x y.1 y.2
def kCh3 (C : Ctx) (p : Cmp) (c : E) (env : Env) (y : D) : D × Store → RD := fun z => match z.1 with
    | .bl true => (evE C c env z.2).bind fun w => cmpS p y w.1 w.2
    | .bl false => .ok (.bl false, z.2)
    | _ => .stuck
def kCh2 (C : Ctx) (o p : Cmp) (c : E) (env : Env) (x : D) : D × Store → RD := fun y => (cmpS o x y.1 y.2).bind fun z => match z.1 with
    | .bl true => (evE C c env z.2).bind fun w => cmpS p y.1 w.1 w.2
    | .bl false => .ok (.bl false, z.2)
    | _ => .stuck
def kCh1 (C : Ctx) (o p : Cmp) (b c : E) (env : Env) : D × Store → RD := fun x => (evE C b env x.2).bind fun y => (cmpS o x.1 y.1 y.2).bind fun z => match z.1 with
    | .bl true => (evE C c env z.2).bind fun w => cmpS p y.1 w.1 w.2
    | .bl false => .ok (.bl false, z.2)
    | _ => .stuck
def kAnd (C : Ctx) (b : E) (env : Env) : D × Store → RD := fun x => match truthS x.2 x.1 with
    | some true => evE C b env x.2
    | some false => .ok x
    | none => .stuck
def kOr (C : Ctx) (b : E) (env : Env) : D × Store → RD := fun x => match truthS x.2 x.1 with
    | some false => evE C b env x.2
    | some true => .ok x
    | none => .stuck
def kNot : D × Store → RD := fun x => match truthS x.2 x.1 with
    | some b => .ok (.bl (!b), x.2)
    | none => .stuck
def kIte (C : Ctx) (a b : E) (env : Env) : Bool × Store → RD := fun x => match x.1 with
    | true => evE C a env x.2
    | false => evE C b env x.2
def kTup : List D × Store → RD := fun x => must (decide (x.1.length ≤ lim)) (.ok (.tup x.1, x.2))
def kLst : List D × Store → RD := fun x => mkL x.1 x.2
def kDct : List D × Store → RD := fun x => match (pairUp x.1).bind (putAll []) with
    | some kvs => newO (.dct kvs) x.2
    | none => .stuck
def kIdx (C : Ctx) (b : E) (env : Env) : D × Store → RD := fun x => (evE C b env x.2).bind fun y => idxS x.1 y.1 y.2
def kIdx2 (x : D) : D × Store → RD := fun y => idxS x y.1 y.2
def kSl (C : Ctx) (lo hi : Option E) (env : Env) : D × Store → RD := fun x => (evO C lo env x.2).bind fun y => (evO C hi env y.2).bind fun z => slS x.1 y.1 z.1 z.2
def kSl2 (C : Ctx) (hi : Option E) (env : Env) (x : D) : Option Int × Store → RD := fun y => (evO C hi env y.2).bind fun z => slS x y.1 z.1 z.2
def kSl3 (x : D) (y : Option Int) : Option Int × Store → RD := fun z => slS x y z.1 z.2
def kFld (f : Str) : D × Store → RD := fun x => fldS x.1 f x.2
def kCall (C : Ctx) (f : Nat) : List D × Store → RD := fun x => C.call f x.1 x.2
def kNew2 (n : Nat) : D × Store → RD := fun y => match y.1 with
    | .non => .ok (.ref n, y.2)
    | _ => .stuck
def kNew (C : Ctx) (c f : Nat) : List D × Store → RD := fun x => (C.call f (.ref x.2.length :: x.1) (x.2 ++ [.ins c []])).bind fun y => match y.1 with
    | .non => .ok (.ref x.2.length, y.2)
    | _ => .stuck
def kBif (b : Bif) : List D × Store → RD := fun x => bifS b x.1 x.2
def kMthK (C : Ctx) (m : Mth) (l : List E) (env : Env) (o : D) (G : Store) (k : Option Kd) : RD := match k with
    | some kd => must (msup kd m) ((evEs C l env G).bind fun y => mthS kd m o y.1 y.2)
    | none => .stuck
def kMth (C : Ctx) (m : Mth) (l : List E) (env : Env) : D × Store → RD := fun x => match kindOf x.2 x.1 with
    | some kd => must (msup kd m) ((evEs C l env x.2).bind fun y => mthS kd m x.1 y.1 y.2)
    | none => .stuck
def kMth2 (kd : Kd) (m : Mth) (o : D) : List D × Store → RD := fun y => mthS kd m o y.1 y.2
def kIsT (t : Ty) : D × Store → RD := fun x => isTyS t x.1 x.2
def fLc (C : Ctx) (e : E) (t : T) (cs : List B) (own : List Nat) (env : Env) : D → Store → Res (Option D × Store) := fun d G => match asgT t d (wipe env own) with
      | some e2 => (evBs C cs e2 G).bind fun b => (match b.1 with
        | true => (evE C e e2 b.2).bind fun v => .ok (some v.1, v.2)
        | false => .ok (none, b.2))
      | none => .stuck
def kLc (C : Ctx) (e : E) (t : T) (cs : List B) (own : List Nat) (env : Env) : Wk × Store → RD := fun w => (lcL w.1.2.1 w.1.2.2 (fLc C e t cs own env) w.1.1 w.2).bind kLst
def kLcB (C : Ctx) (e : E) (env : Env) : Bool × Store → Res (Option D × Store) := fun b => match b.1 with
        | true => (evE C e env b.2).bind fun v => .ok (some v.1, v.2)
        | false => .ok (none, b.2)
def kLcV : D × Store → Res (Option D × Store) := fun v => .ok (some v.1, v.2)
def fDc (C : Ctx) (k v : E) (t : T) (cs : List B) (own : List Nat) (env : Env) : D → Store → Res (Option (D × D) × Store) := fun d G => match asgT t d (wipe env own) with
      | some e2 => (evBs C cs e2 G).bind fun b => (match b.1 with
        | true => (evE C k e2 b.2).bind fun x => (evE C v e2 x.2).bind fun y => .ok (some (x.1, y.1), y.2)
        | false => .ok (none, b.2))
      | none => .stuck
def kDc2 : List (D × D) × Store → RD := fun q => newO (.dct q.1) q.2
def kDc (C : Ctx) (k v : E) (t : T) (cs : List B) (own : List Nat) (env : Env) : Wk × Store → RD := fun w => (dcL w.1.2.1 w.1.2.2 (fDc C k v t cs own env) w.1.1 [] w.2).bind kDc2
def kDcB (C : Ctx) (k v : E) (env : Env) : Bool × Store → Res (Option (D × D) × Store) := fun b => match b.1 with
        | true => (evE C k env b.2).bind fun x => (evE C v env x.2).bind fun y => .ok (some (x.1, y.1), y.2)
        | false => .ok (none, b.2)
def kDcK (C : Ctx) (v : E) (env : Env) : D × Store → Res (Option (D × D) × Store) := fun x => (evE C v env x.2).bind fun y => .ok (some (x.1, y.1), y.2)
def kDcV (x : D) : D × Store → Res (Option (D × D) × Store) := fun y => .ok (some (x, y.1), y.2)
def kEs (C : Ctx) (es : List E) (env : Env) : D × Store → Res (List D × Store) := fun x => (evEs C es env x.2).bind fun y => .ok (x.1 :: y.1, y.2)
def kEs2 (x : D) : List D × Store → Res (List D × Store) := fun y => .ok (x :: y.1, y.2)
def kO : D × Store → Res (Option Int × Store) := fun x => match x.1 with
    | .int i => .ok (some i, x.2)
    | _ => .stuck
def kBA (C : Ctx) (b : B) (env : Env) : Bool × Store → Res (Bool × Store) := fun x => match x.1 with
    | true => evB C b env x.2
    | false => .ok (false, x.2)
def kBO (C : Ctx) (b : B) (env : Env) : Bool × Store → Res (Bool × Store) := fun x => match x.1 with
    | false => evB C b env x.2
    | true => .ok (true, x.2)
def kBN : Bool × Store → Res (Bool × Store) := fun x => .ok (!x.1, x.2)
def kBV : D × Store → Res (Bool × Store) := fun x => Res.of ((truthS x.2 x.1).map fun b => (b, x.2))
def kBs (C : Ctx) (bs : List B) (env : Env) : Bool × Store → Res (Bool × Store) := fun x => match x.1 with
    | true => evBs C bs env x.2
    | false => .ok (false, x.2)
def kPl : D × Store → Res (Wk × Store) := fun x => Res.of ((walkS x.2 x.1).map fun w => ((w.1, w.2, none), x.2))
def kR1 : D × Store → Res (Wk × Store) := fun x => match x.1 with
    | .int j => must (small j) (.ok ((rangeD 0 j.toNat, none, none), x.2))
    | _ => .stuck
def kR2 (C : Ctx) (b : E) (env : Env) : D × Store → Res (Wk × Store) := fun x => (evE C b env x.2).bind fun y => match x.1, y.1 with
    | .int i, .int j => must (small i && small j) (.ok ((rangeD i (j - i).toNat, none, none), y.2))
    | _, _ => .stuck
def kR3 (a : D) : D × Store → Res (Wk × Store) := fun y => match a, y.1 with
    | .int i, .int j => must (small i && small j) (.ok ((rangeD i (j - i).toNat, none, none), y.2))
    | _, _ => .stuck
def kEn : D × Store → Res (Wk × Store) := fun x => Res.of ((walkS x.2 x.1).map fun w => ((enumD 0 w.1, w.2, none), x.2))
def kAsg (t : T) (env : Env) : D × Store → RS := fun x => Res.of ((asgT t x.1 env).map fun e2 => (.next, e2, x.2))
def kAs4 (env : Env) : Store → RS := fun H => .ok (.next, env, H)
def kAs3 (env : Env) (v x : D) : D × Store → RS := fun y => (setS x y.1 v y.2).bind fun H => .ok (.next, env, H)
def kAs2 (C : Ctx) (i : E) (env : Env) (v : D) : D × Store → RS := fun x => (evE C i env x.2).bind fun y => (setS x.1 y.1 v y.2).bind fun H => .ok (.next, env, H)
def kAs1 (C : Ctx) (o i : E) (env : Env) : D × Store → RS := fun v => (evE C o env v.2).bind fun x => (evE C i env x.2).bind fun y => (setS x.1 y.1 v.1 y.2).bind fun H => .ok (.next, env, H)
def kAt2 (f : Str) (env : Env) (v : D) : D × Store → RS := fun x => (attrS x.1 f v x.2).bind fun H => .ok (.next, env, H)
def kAt1 (C : Ctx) (o : E) (f : Str) (env : Env) : D × Store → RS := fun v => (evE C o env v.2).bind fun x => (attrS x.1 f v.1 x.2).bind fun H => .ok (.next, env, H)
def kEx (env : Env) : D × Store → RS := fun x => .ok (.next, env, x.2)
def kRet (env : Env) : D × Store → RS := fun x => .ok (.ret x.1, env, x.2)
def kIf (C : Ctx) (a b : List S) (env : Env) : Bool × Store → RS := fun x => match x.1 with
    | true => evSs C a env x.2
    | false => evSs C b env x.2
def kFor (C : Ctx) (t : T) (b : List S) (env : Env) : Wk × Store → RS := fun w => forL w.1.2.1 w.1.2.2 t (evSs C b) w.1.1 env w.2
def kSs (C : Ctx) (ss : List S) : Flow × Env × Store → RS := fun r => match r.1 with
    | .next => evSs C ss r.2.1 r.2.2
    | f => .ok (f, r.2)
def kRun : Flow × Env × Store → RD := fun r => match r.1 with
  | .ret d => .ok (d, r.2.2)
  | .next => .ok (.non, r.2.2)
  | _ => .stuck
/-! the steps -/
section E
variable {a b c : E} {x y : D} {l : List D}
theorem s_var {i : Nat} : evE C (.var i) env G = getV env i G := by rw [evE]
theorem s_con {d : D} : evE C (.con d) env G = .ok (d, G) := by rw [evE]
theorem s_bin {o : Bin} : evE C (.bin o a b) env G = (evE C a env G).bind (kBin C o b env) := by rw [evE]; rfl
theorem s_bin1 {o : Bin} : kBin C o b env (x, G) = (evE C b env G).bind (kBin2 o x) := (rfl)
theorem s_bin2 {o : Bin} : kBin2 o x (y, G) = binS o x y G := (rfl)
theorem s_neg : evE C (.neg a) env G = (evE C a env G).bind kNeg := by rw [evE]; rfl
theorem s_neg1 {i : Int} : kNeg (.int i, G) = .ok (.int (-i), G) := (rfl)
theorem s_cmp {o : Cmp} : evE C (.cmp o a b) env G = (evE C a env G).bind (kCmp C o b env) := by rw [evE]; rfl
theorem s_cmp1 {o : Cmp} : kCmp C o b env (x, G) = (evE C b env G).bind (kCmp2 o x) := (rfl)
theorem s_cmp2 {o : Cmp} : kCmp2 o x (y, G) = cmpS o x y G := (rfl)
theorem s_ch {o p : Cmp} : evE C (.chain o p a b c) env G = (evE C a env G).bind (kCh1 C o p b c env) := by rw [evE]; rfl
theorem s_ch1 {o p : Cmp} : kCh1 C o p b c env (x, G) = (evE C b env G).bind (kCh2 C o p c env x) := (rfl)
theorem s_ch2 {o p : Cmp} : kCh2 C o p c env x (y, G) = (cmpS o x y G).bind (kCh3 C p c env y) := (rfl)
theorem s_ch3t {p : Cmp} : kCh3 C p c env y (.bl true, G) = (evE C c env G).bind (kCmp2 p y) := (rfl)
theorem s_ch3f {p : Cmp} : kCh3 C p c env y (.bl false, G) = .ok (.bl false, G) := (rfl)
theorem s_and : evE C (.and a b) env G = (evE C a env G).bind (kAnd C b env) := by rw [evE]; rfl
theorem s_andt : kAnd C b env (.bl true, G) = evE C b env G := (rfl)
theorem s_andf : kAnd C b env (.bl false, G) = .ok (.bl false, G) := (rfl)
theorem s_or : evE C (.or a b) env G = (evE C a env G).bind (kOr C b env) := by rw [evE]; rfl
theorem s_orf : kOr C b env (.bl false, G) = evE C b env G := (rfl)
theorem s_ort : kOr C b env (.bl true, G) = .ok (.bl true, G) := (rfl)
theorem s_not : evE C (.not a) env G = (evE C a env G).bind kNot := by rw [evE]; rfl
theorem s_not1 {q : Bool} : kNot (.bl q, G) = .ok (.bl (!q), G) := (rfl)
theorem s_ite {t : B} : evE C (.ite t a b) env G = (evB C t env G).bind (kIte C a b env) := by rw [evE]; rfl
theorem s_itet : kIte C a b env (true, G) = evE C a env G := (rfl)
theorem s_itef : kIte C a b env (false, G) = evE C b env G := (rfl)
theorem s_tup {l : List E} : evE C (.tup l) env G = (evEs C l env G).bind kTup := by rw [evE]; rfl
theorem s_tup1 : kTup ([x], G) = .ok (.tup [x], G) := (rfl)
theorem s_tup2 : kTup ([x, y], G) = .ok (.tup [x, y], G) := (rfl)
theorem s_tup3 {z : D} : kTup ([x, y, z], G) = .ok (.tup [x, y, z], G) := (rfl)
theorem s_tup4 {z w : D} : kTup ([x, y, z, w], G) = .ok (.tup [x, y, z, w], G) := (rfl)
theorem s_lst {l : List E} : evE C (.lst l) env G = (evEs C l env G).bind kLst := by rw [evE]; rfl
theorem s_lst0 : kLst ([], G) = .ok (.ref G.length, G ++ [.lst [] false]) := (rfl)
theorem s_lst1 : kLst ([x], G) = .ok (.ref G.length, G ++ [.lst [x] false]) := (rfl)
theorem s_lst2 : kLst ([x, y], G) = .ok (.ref G.length, G ++ [.lst [x, y] false]) := (rfl)
theorem s_lst4 {z w : D} : kLst ([x, y, z, w], G) = .ok (.ref G.length, G ++ [.lst [x, y, z, w] false]) := (rfl)
theorem s_lst5 {z w v : D} : kLst ([x, y, z, w, v], G) = .ok (.ref G.length, G ++ [.lst [x, y, z, w, v] false]) := (rfl)
theorem s_lstN {l : List D} (h : l.length ≤ lim) : kLst (l, G) = .ok (.ref G.length, G ++ [.lst l false]) := by
  show must (decide (l.length ≤ lim)) _ = _
  rw [decide_eq_true h]; rfl
theorem s_dct {l : List E} : evE C (.dct l) env G = (evEs C l env G).bind kDct := by rw [evE]; rfl
theorem s_dct0 : kDct ([], G) = .ok (.ref G.length, G ++ [.dct []]) := (rfl)
theorem s_dct2 {t : Bool} (h : KF t x) : kDct ([x, y], G) = .ok (.ref G.length, G ++ [.dct [(x, y)]]) := by
  obtain ⟨q, e1, e2⟩ := keyFor_fit DK.nil h
  show (match (keyFor [] x).bind (fun k => putAll (putK k x y []) []) with
    | some kvs => newO (.dct kvs) G
    | none => .stuck) = _
  rw [e1]; rfl
theorem s_idx : evE C (.idx a b) env G = (evE C a env G).bind (kIdx C b env) := by rw [evE]; rfl
theorem s_idx1 : kIdx C b env (x, G) = (evE C b env G).bind (kIdx2 x) := (rfl)
theorem s_idx2 : kIdx2 x (y, G) = idxS x y G := (rfl)
theorem s_sl {lo hi : Option E} : evE C (.sl a lo hi) env G = (evE C a env G).bind (kSl C lo hi env) := by rw [evE]; rfl
theorem s_sl1 {lo hi : Option E} : kSl C lo hi env (x, G) = (evO C lo env G).bind (kSl2 C hi env x) := (rfl)
theorem s_sl2 {hi : Option E} {i : Option Int} : kSl2 C hi env x (i, G) = (evO C hi env G).bind (kSl3 x i) := (rfl)
theorem s_sl3 {i j : Option Int} : kSl3 x i (j, G) = slS x i j G := (rfl)
theorem s_fld {f : Str} : evE C (.fld a f) env G = (evE C a env G).bind (kFld f) := by rw [evE]; rfl
theorem s_fld1 {f : Str} : kFld f (x, G) = fldS x f G := (rfl)
theorem s_call {f : Nat} {l : List E} : evE C (.call f l) env G = (evEs C l env G).bind (kCall C f) := by rw [evE]; rfl
theorem s_call1 {f : Nat} {l : List D} {p : Nat → List D → Store → RD} {n : Nat} : kCall ⟨p, n⟩ f (l, G) = p f l G := (rfl)
theorem s_new {n f : Nat} {l : List E} : evE C (.new n f l) env G = (evEs C l env G).bind (kNew C n f) := by rw [evE]; rfl
theorem s_new1 {c f : Nat} {l : List D} {p : Nat → List D → Store → RD} {n : Nat} : kNew ⟨p, n⟩ c f (l, G) = (p f (.ref G.length :: l) (G ++ [.ins c []])).bind (kNew2 G.length) := (rfl)
theorem s_new2 {n : Nat} : kNew2 n (.non, G) = .ok (.ref n, G) := (rfl)
theorem s_bif {b : Bif} {l : List E} : evE C (.bif b l) env G = (evEs C l env G).bind (kBif b) := by rw [evE]; rfl
theorem s_bif1 {b : Bif} : kBif b ([x], G) = bif1 b x G := (rfl)
theorem s_mth {m : Mth} {l : List E} : evE C (.mth m a l) env G = (evE C a env G).bind (kMth C m l env) := by rw [evE]; rfl
theorem s_mth1 {m : Mth} {l : List E} : kMth C m l env (x, G) = kMthK C m l env x G (kindOf G x) := (rfl)
theorem s_mth2 {m : Mth} {l : List E} {kd : Kd} : kMthK C m l env x G (some kd) = must (msup kd m) ((evEs C l env G).bind (kMth2 kd m x)) := (rfl)
theorem s_mth3 {m : Mth} {l : List D} {kd : Kd} : kMth2 kd m x (l, G) = mthS kd m x l G := (rfl)
theorem s_ms1 : msup .lst .append = true := (rfl)
theorem s_ms2 : msup .lst .extend = true := (rfl)
theorem s_ms3 : msup .lst .pop = true := (rfl)
theorem s_ms4 : msup .lst .index = true := (rfl)
theorem s_ms5 : msup .dct .get = true := (rfl)
theorem s_ms6 : msup .str .join = true := (rfl)
theorem s_ms7 : msup .str .count = true := (rfl)
theorem s_kstr {s : List Nat} : kindOf G (.str s) = some .str := (rfl)
theorem s_isT {t : Ty} : evE C (.isT t a) env G = (evE C a env G).bind (kIsT t) := by rw [evE]; rfl
theorem s_isT1 {t : Ty} : kIsT t (x, G) = isTyS t x G := (rfl)
theorem s_lc {e : E} {t : T} {it : I} {cs : List B} {own : List Nat} : evE C (.lc e t it cs own) env G = (evI C it env G).bind (kLc C e t cs own env) := by rw [evE]; rfl
theorem s_lc1 {e : E} {t : T} {cs : List B} {own : List Nat} {xs : List D} {c c' : Option (Nat × O)} : kLc C e t cs own env ((xs, c, c'), G) = (lcL c c' (fLc C e t cs own env) xs G).bind kLst := (rfl)
theorem s_flc {e : E} {t : T} {cs : List B} {own : List Nat} {d : D} {e2 : Env} (h : asgT t d (wipe env own) = some e2) : fLc C e t cs own env d G = (evBs C cs e2 G).bind (kLcB C e e2) := by unfold fLc; rw [h]; rfl
theorem s_lcBt {e : E} : kLcB C e env (true, G) = (evE C e env G).bind kLcV := (rfl)
theorem s_lcBf {e : E} : kLcB C e env (false, G) = .ok (none, G) := (rfl)
theorem s_lcV : kLcV (x, G) = .ok (some x, G) := (rfl)
theorem s_dc {k v : E} {t : T} {it : I} {cs : List B} {own : List Nat} : evE C (.dc k v t it cs own) env G = (evI C it env G).bind (kDc C k v t cs own env) := by rw [evE]; rfl
theorem s_dc1 {k v : E} {t : T} {cs : List B} {own : List Nat} {xs : List D} {c c' : Option (Nat × O)} : kDc C k v t cs own env ((xs, c, c'), G) = (dcL c c' (fDc C k v t cs own env) xs [] G).bind kDc2 := (rfl)
theorem s_dc2 {kvs : List (D × D)} : kDc2 (kvs, G) = .ok (.ref G.length, G ++ [.dct kvs]) := (rfl)
theorem s_fdc {k v : E} {t : T} {cs : List B} {own : List Nat} {d : D} {e2 : Env} (h : asgT t d (wipe env own) = some e2) : fDc C k v t cs own env d G = (evBs C cs e2 G).bind (kDcB C k v e2) := by unfold fDc; rw [h]; rfl
theorem s_dcBt {k v : E} : kDcB C k v env (true, G) = (evE C k env G).bind (kDcK C v env) := (rfl)
theorem s_dcK {v : E} : kDcK C v env (x, G) = (evE C v env G).bind (kDcV x) := (rfl)
theorem s_dcV : kDcV x (y, G) = .ok (some (x, y), G) := (rfl)
theorem s_es0 : evEs C [] env G = .ok ([], G) := by rw [evEs]
theorem s_es {e : E} {es : List E} : evEs C (e :: es) env G = (evE C e env G).bind (kEs C es env) := by rw [evEs]; rfl
theorem s_es1 {es : List E} : kEs C es env (x, G) = (evEs C es env G).bind (kEs2 x) := (rfl)
theorem s_es2 {l : List D} : kEs2 x (l, G) = .ok (x :: l, G) := (rfl)
theorem s_o0 : evO C none env G = .ok (none, G) := by rw [evO]
theorem s_o {e : E} : evO C (some e) env G = (evE C e env G).bind kO := by rw [evO]; rfl
theorem s_o1 {i : Int} : kO (.int i, G) = .ok (some i, G) := (rfl)
theorem s_ba {a b : B} : evB C (.and a b) env G = (evB C a env G).bind (kBA C b env) := by rw [evB]; rfl
theorem s_bat {b : B} : kBA C b env (true, G) = evB C b env G := (rfl)
theorem s_baf {b : B} : kBA C b env (false, G) = .ok (false, G) := (rfl)
theorem s_bo {a b : B} : evB C (.or a b) env G = (evB C a env G).bind (kBO C b env) := by rw [evB]; rfl
theorem s_bof {b : B} : kBO C b env (false, G) = evB C b env G := (rfl)
theorem s_bot {b : B} : kBO C b env (true, G) = .ok (true, G) := (rfl)
theorem s_bn {a : B} : evB C (.not a) env G = (evB C a env G).bind kBN := by rw [evB]; rfl
theorem s_bn1 {q : Bool} : kBN (q, G) = .ok (!q, G) := (rfl)
theorem s_bv {e : E} : evB C (.val e) env G = (evE C e env G).bind kBV := by rw [evB]; rfl
theorem s_bv1 {q : Bool} : kBV (.bl q, G) = .ok (q, G) := (rfl)
theorem s_bs0 : evBs C [] env G = .ok (true, G) := by rw [evBs]
theorem s_bs {b : B} {bs : List B} : evBs C (b :: bs) env G = (evB C b env G).bind (kBs C bs env) := by rw [evBs]; rfl
theorem s_bst {bs : List B} : kBs C bs env (true, G) = evBs C bs env G := (rfl)
theorem s_bsf {bs : List B} : kBs C bs env (false, G) = .ok (false, G) := (rfl)
theorem s_pl {e : E} : evI C (.pl e) env G = (evE C e env G).bind kPl := by rw [evI]; rfl
theorem s_plt {l : List D} : kPl (.tup l, G) = .ok ((l, none, none), G) := (rfl)
theorem s_pls {s : List Nat} : kPl (.str s, G) = .ok ((signs s, none, none), G) := (rfl)
theorem s_plr {n : Nat} {l : List D} {f : Bool} (h : G[n]? = some (.lst l f)) : kPl (.ref n, G) = .ok ((l, some (n, .lst l f), none), G) := by
  show Res.of ((walkS G (.ref n)).map _) = _
  rw [walk_lst h]; rfl
theorem s_r1 {e : E} : evI C (.r1 e) env G = (evE C e env G).bind kR1 := by rw [evI]; rfl
theorem s_r11 {j : Nat} (h : j < 4611686018427387904) : kR1 (.int j, G) = .ok ((rangeD 0 j, none, none), G) := by
  show must (small j) _ = _
  have : small (j : Int) = true := by
    unfold small
    have e : (2 : Int) ^ 62 = 4611686018427387904 := by decide
    rw [decide_eq_true (by omega), decide_eq_true (by omega)]; rfl
  rw [this]; rfl
theorem s_r2 {a b : E} : evI C (.r2 a b) env G = (evE C a env G).bind (kR2 C b env) := by rw [evI]; rfl
theorem s_r21 {b : E} : kR2 C b env (x, G) = (evE C b env G).bind (kR3 x) := (rfl)
theorem s_en {e : E} : evI C (.en e) env G = (evE C e env G).bind kEn := by rw [evI]; rfl
theorem s_ent {l : List D} : kEn (.tup l, G) = .ok ((enumD 0 l, none, none), G) := (rfl)
theorem s_ens {s : List Nat} : kEn (.str s, G) = .ok ((enumD 0 (signs s), none, none), G) := (rfl)
theorem s_enr {n : Nat} {l : List D} {f : Bool} (h : G[n]? = some (.lst l f)) : kEn (.ref n, G) = .ok ((enumD 0 l, some (n, .lst l f), none), G) := by
  show Res.of ((walkS G (.ref n)).map _) = _
  rw [walk_lst h]; rfl
end E
section S
variable {e o i : E} {x y v d : D} {t : T}
theorem s_asg : evS C (.asg t e) env G = (evE C e env G).bind (kAsg t env) := by rw [evS]; rfl
theorem s_asg1 {j : Nat} : kAsg (.slot j) env (x, G) = .ok (.next, env.set j (some x), G) := by unfold kAsg; dsimp only; rw [asgT]; rfl
theorem s_asgT {e2 : Env} (h : asgT t x env = some e2) : kAsg t env (x, G) = .ok (.next, e2, G) := by unfold kAsg; dsimp only; rw [h]; rfl
theorem s_asg2 {i j : Nat} : kAsg (.tup [.slot i, .slot j]) env (.tup [x, y], G) = .ok (.next, (env.set i (some x)).set j (some y), G) := by unfold kAsg; simp [asgT, asgTs]
theorem s_asg3 {i j k : Nat} {z : D} : kAsg (.tup [.slot i, .slot j, .slot k]) env (.tup [x, y, z], G) = .ok (.next, ((env.set i (some x)).set j (some y)).set k (some z), G) := by unfold kAsg; simp [asgT, asgTs]
theorem s_as : evS C (.asub o i e) env G = (evE C e env G).bind (kAs1 C o i env) := by rw [evS]; rfl
theorem s_as1 : kAs1 C o i env (v, G) = (evE C o env G).bind (kAs2 C i env v) := (rfl)
theorem s_as2 : kAs2 C i env v (x, G) = (evE C i env G).bind (kAs3 env v x) := (rfl)
theorem s_as3 : kAs3 env v x (y, G) = (setS x y v G).bind (kAs4 env) := (rfl)
theorem s_as4 : kAs4 env G = .ok (.next, env, G) := (rfl)
theorem s_at {f : Str} : evS C (.aattr o f e) env G = (evE C e env G).bind (kAt1 C o f env) := by rw [evS]; rfl
theorem s_at1 {f : Str} : kAt1 C o f env (v, G) = (evE C o env G).bind (kAt2 f env v) := (rfl)
theorem s_at2 {f : Str} : kAt2 f env v (x, G) = (attrS x f v G).bind (kAs4 env) := (rfl)
theorem s_ex : evS C (.expr e) env G = (evE C e env G).bind (kEx env) := by rw [evS]; rfl
theorem s_ex1 : kEx env (x, G) = .ok (.next, env, G) := (rfl)
theorem s_ret : evS C (.ret e) env G = (evE C e env G).bind (kRet env) := by rw [evS]; rfl
theorem s_ret1 : kRet env (x, G) = .ok (.ret x, env, G) := (rfl)
theorem s_retN : evS C .retN env G = .ok (.ret .non, env, G) := by rw [evS]
theorem s_if {t : B} {a b : List S} : evS C (.ite t a b) env G = (evB C t env G).bind (kIf C a b env) := by rw [evS]; rfl
theorem s_ift {a b : List S} : kIf C a b env (true, G) = evSs C a env G := (rfl)
theorem s_iff {a b : List S} : kIf C a b env (false, G) = evSs C b env G := (rfl)
theorem s_whl {t : B} {b : List S} : evS C (.whl t b) env G = whileL (evB C t) (evSs C b) C.fuel env G := by rw [evS]
theorem s_for {it : I} {b : List S} : evS C (.for_ t it b) env G = (evI C it env G).bind (kFor C t b env) := by rw [evS]; rfl
theorem s_for1 {b : List S} {xs : List D} {c c' : Option (Nat × O)} : kFor C t b env ((xs, c, c'), G) = forL c c' t (evSs C b) xs env G := (rfl)
theorem s_pass : evS C .pass env G = .ok (.next, env, G) := by rw [evS]
theorem s_brk : evS C .brk env G = .ok (.brk, env, G) := by rw [evS]
theorem s_cont : evS C .cont env G = .ok (.cont, env, G) := by rw [evS]
theorem s_ss0 : evSs C [] env G = .ok (.next, env, G) := by rw [evSs]
theorem s_ss {s : S} {ss : List S} : evSs C (s :: ss) env G = (evS C s env G).bind (kSs C ss) := by rw [evSs]; rfl
theorem s_ssn {ss : List S} : kSs C ss (.next, env, G) = evSs C ss env G := (rfl)
theorem s_ssr {ss : List S} : kSs C ss (.ret d, env, G) = .ok (.ret d, env, G) := (rfl)
theorem s_ssb {ss : List S} : kSs C ss (.brk, env, G) = .ok (.brk, env, G) := (rfl)
theorem s_ssc {ss : List S} : kSs C ss (.cont, env, G) = .ok (.cont, env, G) := (rfl)
theorem s_run {p n : Nat} {body : List S} {as : List D} (h : as.length = p) : runFn C ⟨p, n, body⟩ as G = (evSs C body (as.map some ++ List.replicate (n - p) none) G).bind kRun := by
  unfold runFn
  rw [decide_eq_true h]; rfl
theorem s_runr : kRun (.ret d, env, G) = .ok (d, G) := (rfl)
theorem s_runn : kRun (.next, env, G) = .ok (.non, G) := (rfl)
end S
theorem call_run {P : List Fn} {N k f : Nat} {as : List D} (fn : Fn) (h : P[f]? = some fn) (e : as.length = fn.ps) : callP P N (k + 1) f as G = (evSs ⟨callP P N k, N⟩ fn.body (as.map some ++ List.replicate (fn.ns - fn.ps) none) G).bind kRun := by
  rw [callP_succ h]
  exact s_run (p := fn.ps) (n := fn.ns) (body := fn.body) e
end Wp

/-! Vl1: the small language over values (no store): a list is its items. What is changed is owned by one name. -/
namespace Vl
open Fw
open PySem (Str PyData NestedKey)

inductive V where
  | non | bl (b : Bool) | int (i : Int) | str (s : List Nat) | tup (l : List V) | lst (l : List V) | dct (l : List (D × V)) | ins (c : Nat) (fs : List (Str × V)) | hand
  deriving Inhabited
mutual
def V.beq : V → V → Bool
  | .non, .non => true
  | .bl a, .bl b => a == b
  | .int a, .int b => decide (a = b)
  | .str a, .str b => decide (a = b)
  | .tup a, .tup b => V.beqs a b
  | .lst a, .lst b => V.beqs a b
  | .dct a, .dct b => V.beqk a b
  | .ins c a, .ins d b => decide (c = d) && V.beqf a b
  | .hand, .hand => true
  | _, _ => false
def V.beqs : List V → List V → Bool
  | [], [] => true
  | a :: as, b :: bs => V.beq a b && V.beqs as bs
  | _, _ => false
def V.beqk : List (D × V) → List (D × V) → Bool
  | [], [] => true
  | (k, a) :: as, (l, b) :: bs => decide (k = l) && (V.beq a b && V.beqk as bs)
  | _, _ => false
def V.beqf : List (Str × V) → List (Str × V) → Bool
  | [], [] => true
  | (k, a) :: as, (l, b) :: bs => decide (k = l) && (V.beq a b && V.beqf as bs)
  | _, _ => false
end
mutual
theorem V.beq_self : ∀ a : V, V.beq a a = true
  | .non => by simp [V.beq]
  | .bl a => by simp [V.beq]
  | .int a => by simp [V.beq]
  | .str a => by simp [V.beq]
  | .tup a => by rw [V.beq]; exact V.beqs_self a
  | .lst a => by rw [V.beq]; exact V.beqs_self a
  | .dct a => by rw [V.beq]; exact V.beqk_self a
  | .ins c a => by rw [V.beq, V.beqf_self a]; simp
  | .hand => by simp [V.beq]
theorem V.beqs_self : ∀ a : List V, V.beqs a a = true
  | [] => by simp [V.beqs]
  | a :: as => by rw [V.beqs, V.beq_self a, V.beqs_self as]; rfl
theorem V.beqk_self : ∀ a : List (D × V), V.beqk a a = true
  | [] => by simp [V.beqk]
  | (k, a) :: as => by rw [V.beqk, V.beq_self a, V.beqk_self as]; simp
theorem V.beqf_self : ∀ a : List (Str × V), V.beqf a a = true
  | [] => by simp [V.beqf]
  | (k, a) :: as => by rw [V.beqf, V.beq_self a, V.beqf_self as]; simp
end
mutual
theorem V.eq_of_beq : ∀ a b : V, V.beq a b = true → a = b
  | .non, b, h => by cases b <;> first | rfl | simp [V.beq] at h
  | .hand, b, h => by cases b <;> first | rfl | simp [V.beq] at h
  | .bl a, b, h => by cases b <;> simp [V.beq] at h; rw [h]
  | .int a, b, h => by cases b <;> simp [V.beq] at h; rw [h]
  | .str a, b, h => by cases b <;> simp [V.beq] at h; rw [h]
  | .tup a, b, h => by
    cases b with
    | tup b => rw [V.beq] at h; rw [V.eq_of_beqs a b h]
    | _ => simp [V.beq] at h
  | .lst a, b, h => by
    cases b with
    | lst b => rw [V.beq] at h; rw [V.eq_of_beqs a b h]
    | _ => simp [V.beq] at h
  | .dct a, b, h => by
    cases b with
    | dct b => rw [V.beq] at h; rw [V.eq_of_beqk a b h]
    | _ => simp [V.beq] at h
  | .ins c a, b, h => by
    cases b with
    | ins d b => rw [V.beq, Bool.and_eq_true, decide_eq_true_eq] at h; rw [h.1, V.eq_of_beqf a b h.2]
    | _ => simp [V.beq] at h
theorem V.eq_of_beqs : ∀ a b : List V, V.beqs a b = true → a = b
  | [], b, h => by cases b <;> first | rfl | simp [V.beqs] at h
  | a :: as, b, h => by
    cases b with
    | nil => simp [V.beqs] at h
    | cons b bs =>
      rw [V.beqs, Bool.and_eq_true] at h
      rw [V.eq_of_beq a b h.1, V.eq_of_beqs as bs h.2]
theorem V.eq_of_beqk : ∀ a b : List (D × V), V.beqk a b = true → a = b
  | [], b, h => by cases b <;> first | rfl | simp [V.beqk] at h
  | (k, a) :: as, b, h => by
    cases b with
    | nil => simp [V.beqk] at h
    | cons b bs =>
      obtain ⟨l, b⟩ := b
      rw [V.beqk, Bool.and_eq_true, Bool.and_eq_true, decide_eq_true_eq] at h
      rw [h.1, V.eq_of_beq a b h.2.1, V.eq_of_beqk as bs h.2.2]
theorem V.eq_of_beqf : ∀ a b : List (Str × V), V.beqf a b = true → a = b
  | [], b, h => by cases b <;> first | rfl | simp [V.beqf] at h
  | (k, a) :: as, b, h => by
    cases b with
    | nil => simp [V.beqf] at h
    | cons b bs =>
      obtain ⟨l, b⟩ := b
      rw [V.beqf, Bool.and_eq_true, Bool.and_eq_true, decide_eq_true_eq] at h
      rw [h.1, V.eq_of_beq a b h.2.1, V.eq_of_beqf as bs h.2.2]
end
instance : DecidableEq V := fun a b => if h : V.beq a b = true then isTrue (V.eq_of_beq a b h) else isFalse fun e => h (e ▸ V.beq_self a)

inductive Rv (α : Type) where
  | ok (a : α) | err (c : Nat) (l : List V) (H : List V) | stuck
def Rv.bind {α β : Type} (r : Rv α) (f : α → Rv β) : Rv β := match r with
  | .ok a => f a
  | .err c l G => .err c l G
  | .stuck => .stuck
theorem Rv.bind_ok {α β : Type} (a : α) (f : α → Rv β) : (Rv.ok a).bind f = f a := (rfl)
theorem Rv.bind_err {α β : Type} (c l G) (f : α → Rv β) : (Rv.err c l G : Rv α).bind f = .err c l G := (rfl)
theorem Rv.bind_stuck {α β : Type} (f : α → Rv β) : (Rv.stuck : Rv α).bind f = .stuck := (rfl)
def Rv.of {α : Type} : Option α → Rv α
  | some a => .ok a
  | none => .stuck
def mustV {α : Type} (b : Bool) (r : Rv α) : Rv α := if b = true then r else .stuck
/-- a condition of a plain result -/
def wh {α : Type} (b : Bool) (r : Option α) : Option α := if b = true then r else none

/-! ### data -/
mutual
/-- what has no store is a value -/
def ofD : D → Option V
  | .non => some .non
  | .bl b => some (.bl b)
  | .int i => some (.int i)
  | .str s => some (.str s)
  | .tup l => (ofDs l).map .tup
  | .ref _ => none
def ofDs : List D → Option (List V)
  | [] => some []
  | d :: ds => (ofD d).bind fun v => (ofDs ds).map fun vs => v :: vs
end
mutual
/-- a value without things is its data -/
def toD : V → Option D
  | .non => some .non
  | .bl b => some (.bl b)
  | .int i => some (.int i)
  | .str s => some (.str s)
  | .tup l => (toDs l).map .tup
  | _ => none
def toDs : List V → Option (List D)
  | [] => some []
  | d :: ds => (toD d).bind fun v => (toDs ds).map fun vs => v :: vs
end
def snapsV (f : V → Option PyData) : List V → Option (List PyData)
  | [] => some []
  | d :: ds => (f d).bind fun x => (snapsV f ds).map fun xs => x :: xs
def snapV : Nat → V → Option PyData
  | _, .non => some .none
  | _, .bl b => some (.bool b)
  | _, .int i => some (.int i)
  | _, .str s => some (.str ⟨s.toArray⟩)
  | 0, _ => none
  | n + 1, .tup l => (snapsV (snapV n) l).map .tuple
  | n + 1, .lst l => (snapsV (snapV n) l).map .list
  | _ + 1, _ => none
def eqV (a b : V) : Option Bool := (snapV 64 a).bind fun x => (snapV 64 b).bind fun y =>
  if PySem.SeqAt.shaped x && PySem.SeqAt.shaped y then some (PyData.eqv x y) else none
def memV (x : V) (l : List V) : Option Bool := (snapV 64 x).bind fun y => (snapsV (snapV 63) l).bind fun ys =>
  if PySem.SeqAt.shaped y && PySem.SeqAt.shaped (.list ys) then some (ys.any fun z => PyData.eqv z y) else none
def indexV (x : V) (l : List V) : Option Nat := (snapV 64 x).bind fun y => (snapsV (snapV 63) l).bind fun ys =>
  if PySem.SeqAt.shaped y && PySem.SeqAt.shaped (.list ys) then ys.findIdx? fun z => PyData.eqv z y else none
def ltV (a b : V) : Option Bool := (snapV 64 a).bind fun x => (snapV 64 b).bind fun y =>
  if PySem.W.alike x y && decide (x.depth ≤ 64) && notNone x then some (PySem.W.dataLt x y) else none
def sortV (l : List V) : Option (List V) := (snapsV (snapV 63) l).bind fun ps => if sortOk ps then some (((l.zip ps).mergeSort (PySem.W.dataLe false Prod.snd)).map Prod.fst) else none
def keyForV (kvs : List (D × V)) (d : D) : Option NestedKey := if keyForm d && (kvs.all fun kv => isTup kv.1 == isTup d) && decide (dpth d ≤ 8) then keyOf d else none
def lookV (k : NestedKey) : List (D × V) → Option V
  | [] => none
  | (d, v) :: r => if keyOf d = some k then some v else lookV k r
def putV (k : NestedKey) (d : D) (v : V) (kvs : List (D × V)) : List (D × V) := if (lookV k kvs).isSome = true then kvs.map (fun e => if keyOf e.1 = some k then (e.1, v) else e) else kvs ++ [(d, v)]
def putAllV : List (D × V) → List (V × V) → Option (List (D × V))
  | kvs, [] => some kvs
  | kvs, (a, b) :: r => (toD a).bind fun d => (keyForV kvs d).bind fun k => putAllV (putV k d b kvs) r
def pairUpV : List V → Option (List (V × V))
  | [] => some []
  | a :: b :: r => (pairUpV r).map ((a, b) :: ·)
  | _ => none
def signsV (s : List Nat) : List V := s.map fun c => .str [c]
def truthV : V → Option Bool
  | .non => some false
  | .bl b => some b
  | .int i => some (i != 0)
  | .str s => wh (decide (s.length ≤ lim)) (some (!s.isEmpty))
  | .tup l => some (!l.isEmpty)
  | .lst l => some (!l.isEmpty)
  | _ => none
def itemsV : V → Option (List V)
  | .tup l => some l
  | .str s => some (signsV s)
  | .lst l => some l
  | _ => none
def binV (o : Bin) (a b : V) : Option V := match o, a, b with
  | .add, .int i, .int j => some (.int (i + j))
  | .add, .str s, .str t => wh (decide (s.length + t.length ≤ lim)) (some (.str (s ++ t)))
  | .add, .tup s, .tup t => wh (decide (s.length + t.length ≤ lim)) (some (.tup (s ++ t)))
  | .add, .lst s, .lst t => wh (decide ((s ++ t).length ≤ lim)) (some (.lst (s ++ t)))
  | .sub, .int i, .int j => some (.int (i - j))
  | .mul, .int i, .int j => wh (small64 i || small64 j) (some (.int (i * j)))
  | .mul, .lst s, .int j => wh (decide (s.length * j.toNat ≤ lim) && decide (-(2 ^ 63) ≤ j) && decide (j < 2 ^ 63) && decide ((List.replicate j.toNat s).flatten.length ≤ lim)) (some (.lst (List.replicate j.toNat s).flatten))
  | .fdiv, .int i, .int j => wh (decide (0 < j) && decide (j < 1073741824)) (some (.int (i / j)))
  | .mod, .int i, .int j => wh (decide (0 < j)) (some (.int (i % j)))
  | .pow, .int i, .int j => wh (decide (0 ≤ j) && decide (j ≤ 1000000) && decide (i.natAbs < 2 ^ 64)) (some (.int (i ^ j.toNat)))
  | _, _, _ => none
def inV (a b : V) : Option Bool := match b with
  | .tup l => memV a l
  | .str t => (match a with
    | .str [c] => some (decide (c ∈ t))
    | _ => none)
  | .lst l => memV a l
  | .dct kvs => (toD a).bind fun d => (keyForV kvs d).map fun k => (lookV k kvs).isSome
  | _ => none
def cmpV (o : Cmp) (a b : V) : Option Bool := match o with
  | .eq => eqV a b
  | .ne => (eqV a b).map (! ·)
  | .lt => ltV a b
  | .gt => (match a, b with
    | .int i, .int j => some (decide (j < i))
    | _, _ => none)
  | .le => (match a, b with
    | .int i, .int j => some (decide (i ≤ j))
    | _, _ => none)
  | .ge => (match a, b with
    | .int i, .int j => some (decide (j ≤ i))
    | _, _ => none)
  | .in_ => inV a b
  | .nin => (inV a b).map (! ·)
  | .isn => if b = .non then some (decide (a = .non)) else none
  | .notn => if b = .non then some (!decide (a = .non)) else none
def idxV (a b : V) : Option V := match a with
  | .tup l => (match b with
    | .int i => (ixN l.length i).bind fun j => l[j]?
    | _ => none)
  | .str s => (match b with
    | .int i => wh (decide (s.length ≤ lim)) (((ixN s.length i).bind fun j => s[j]?).map fun c => .str [c])
    | _ => none)
  | .lst l => (match b with
    | .int i => (ixN l.length i).bind fun j => l[j]?
    | _ => none)
  | .dct kvs => (toD b).bind fun d => (keyForV kvs d).bind fun k => lookV k kvs
  | _ => none
def slV (a : V) (lo hi : Option Int) : Option V := match a with
  | .tup l => some (.tup (cut l lo hi))
  | .str s => wh (decide (s.length ≤ lim)) (some (.str (cut s lo hi)))
  | .lst l => some (.lst (cut l lo hi))
  | _ => none
def revV (a : V) : Option V := match a with
  | .tup l => some (.tup l.reverse)
  | .str s => wh (decide (s.length ≤ lim)) (some (.str s.reverse))
  | _ => none
def fldV (a : V) (f : Str) : Option V := match a with
  | .ins _ fs => fs.lookup f
  | _ => none
def putFV (f : Str) (v : V) : List (Str × V) → List (Str × V)
  | [] => [(f, v)]
  | (g, x) :: r => if g = f then (g, v) :: r else (g, x) :: putFV f v r
def intsV : List V → Option (List Int)
  | [] => some []
  | .int i :: r => (intsV r).map (i :: ·)
  | _ => none
def bolsV : List V → Option (List Bool)
  | [] => some []
  | .bl i :: r => (bolsV r).map (i :: ·)
  | _ => none
def strsV : List V → Option (List (List Nat))
  | [] => some []
  | .str i :: r => (strsV r).map (i :: ·)
  | _ => none
def lstV : V → Option (List V)
  | .lst l => some l
  | _ => none
def lenV (a : V) : Option V := match a with
  | .str s => wh (decide (s.length ≤ lim)) (some (.int s.length))
  | .tup l => some (.int l.length)
  | .lst l => some (.int l.length)
  | .dct l => wh (l.all fun kv => !isTup kv.1) (some (.int l.length))
  | _ => none
def reprV (a : V) : Option V := match a with
  | .lst l => (snapV 64 (.lst l)).bind fun x => wh (x.showable && !x.hasDict && decide (x.depth ≤ 64) && decide (x.shown.length ≤ lim)) (some (.str x.shown.cps.toList))
  | _ => none
def bif1V (b : Bif) (a : V) : Option V := match b with
  | .len => lenV a
  | .abs => (match a with
    | .int i => some (.int (if i < 0 then -i else i))
    | _ => none)
  | .int => (match a with
    | .int i => some (.int i)
    | .bl b => some (.int (if b then 1 else 0))
    | _ => none)
  | .sum => ((lstV a).bind intsV).map fun l => .int l.sum
  | .sorted => (itemsV a).bind fun l => (sortV l).bind fun m => wh (decide (m.length ≤ lim)) (some (.lst m))
  | .tuple => (match a with
    | .tup l => some (.tup l)
    | .lst l => some (.tup l)
    | _ => none)
  | .list => (match a with
    | .tup l => wh (decide (l.length ≤ lim)) (some (.lst l))
    | .lst l => wh (decide (l.length ≤ lim)) (some (.lst l))
    | _ => none)
  | .min => (match (lstV a).bind intsV with
    | some (x :: xs) => some (.int (minL x xs))
    | _ => none)
  | .max => (match (lstV a).bind intsV with
    | some (x :: xs) => some (.int (maxL x xs))
    | _ => none)
  | .repr => reprV a
  | .all => ((lstV a).bind bolsV).map fun l => .bl (l.all id)
  | .any => ((lstV a).bind bolsV).map fun l => .bl (l.any id)
  | _ => none
def bifV (b : Bif) (as : List V) : Option V := match as with
  | [a] => bif1V b a
  | _ => none
def mthV (m : Mth) (o : V) (as : List V) : Option V := match m, o, as with
  | .index, .lst l, [d] => (indexV d l).map fun (j : Nat) => .int (j : Int)
  | .get, .dct kvs, [a, d] => (toD a).bind fun k => (keyForV kvs k).map fun q => (lookV q kvs).getD d
  | .join, .str s, [.lst l] => (strsV l).bind fun l => wh (decide ((l.map List.length).sum + l.length * s.length ≤ lim)) (some (.str (TL.joinL s l)))
  | .count, .str s, [.str [c]] => some (.int (s.count c : Nat))
  | _, _, _ => none
def kindV : V → Option Kd
  | .str _ => some .str
  | .tup _ => some .tup
  | .lst _ => some .lst
  | .dct _ => some .dct
  | _ => none
/-- a method that is there -/
def okM (m : Mth) (v : V) : Bool := match kindV v with
  | some kd => msup kd m
  | none => false
def isTyV (t : Ty) (a : V) : Option V := match a with
  | .non => some (.bl false)
  | .bl _ => some (.bl (t == .int || t == .bool))
  | .int _ => some (.bl (t == .int))
  | .str _ => some (.bl (t == .str))
  | .tup _ => some (.bl (t == .tuple))
  | .lst _ => some (.bl (t == .list))
  | .dct _ => some (.bl (t == .dict))
  | _ => none

/-! ### the interpreter -/
/-- what a name holds: own: this name alone knows it -/
inductive Sl where
  | val (v : V) | own (self : Bool) (v : V)
abbrev VEnv := List (Option Sl)
abbrev RV := Rv (V × List V)
structure VCtx where
  call : Nat → List V → List V → RV
  init : Nat → Nat → List V → List V → RV
  fuel : Nat
def vget (env : VEnv) (i : Nat) (H : List V) : RV := match env[i]? with
  | some (some (.val v)) => .ok (v, H)
  | _ => .stuck
def vgetW (env : VEnv) (i : Nat) (H : List V) : RV := match env[i]? with
  | some (some (.val v)) => .ok (v, H)
  | some (some (.own _ v)) => .ok (v, H)
  | _ => .stuck
/-- an expression that is just looked at -/
def wk (e : E) (env : VEnv) (H : List V) (r : RV) : RV := match e with
  | .var i => vgetW env i H
  | _ => r
def wks (st : Bool) (e : E) (env : VEnv) (H : List V) (r : RV) : RV := match st with
  | true => r
  | false => wk e env H r
def wipeV (env : VEnv) : List Nat → VEnv
  | [] => env
  | v :: vs => (wipeV env vs).set v none
mutual
def asgTV : T → V → VEnv → Option VEnv
  | .slot i, d, env => some (env.set i (some (.val d)))
  | .tup ts, .tup ds, env => asgTsV ts ds env
  | .tup _, _, _ => none
def asgTsV : List T → List V → VEnv → Option VEnv
  | [], [], env => some env
  | t :: ts, d :: ds, env => (asgTV t d env).bind fun e => asgTsV ts ds e
  | _, _, _ => none
end
def zipV : List V → List V → List V
  | a :: as, b :: bs => .tup [a, b] :: zipV as bs
  | _, _ => []
def enumV : Nat → List V → List V
  | _, [] => []
  | n, a :: as => .tup [.int n, a] :: enumV (n + 1) as
def rangeV (a : Int) : Nat → List V
  | 0 => []
  | n + 1 => .int a :: rangeV (a + 1) n
def lcV (f : V → List V → Rv (Option V × List V)) : List V → List V → Rv (List V × List V)
  | [], H => .ok ([], H)
  | x :: xs, H => (f x H).bind fun r => (lcV f xs r.2).bind fun q => .ok (r.1.toList ++ q.1, q.2)
def dcV (f : V → List V → Rv (Option (V × V) × List V)) : List V → List (D × V) → List V → Rv (List (D × V) × List V)
  | [], kvs, H => .ok (kvs, H)
  | x :: xs, kvs, H => (f x H).bind fun r => match r.1 with
    | none => dcV f xs kvs r.2
    | some kv => mustV (decide (kvs.length < lim)) ((Rv.of ((toD kv.1).bind fun d => (keyForV kvs d).map fun q => putV q d kv.2 kvs)).bind fun k => dcV f xs k r.2)
def mkLV (l : List V) (H : List V) : RV := mustV (decide (l.length ≤ lim)) (.ok (.lst l, H))
def mkRV (o : Option V) (H : List V) : RV := (Rv.of o).bind fun v => .ok (v, H)
def hidx (a b : V) (H : List V) : RV := match a, b with
  | .hand, .int i => mkRV ((ixN H.length i).bind fun j => H[j]?) H
  | _, _ => mkRV (idxV a b) H
mutual
def evE (C : VCtx) : E → VEnv → List V → RV
  | .var i, env, H => vget env i H
  | .con d, _, H => mkRV (ofD d) H
  | .bin o a b, env, H => (wk a env H (evE C a env H)).bind fun x => (wk b env x.2 (evE C b env x.2)).bind fun y => mkRV (binV o x.1 y.1) y.2
  | .neg a, env, H => (evE C a env H).bind fun x => match x.1 with
    | .int i => .ok (.int (-i), x.2)
    | _ => .stuck
  | .cmp o a b, env, H => (wk a env H (evE C a env H)).bind fun x => (wk b env x.2 (evE C b env x.2)).bind fun y => mkRV ((cmpV o x.1 y.1).map .bl) y.2
  | .chain o p a b c, env, H => (evE C a env H).bind fun x => (evE C b env x.2).bind fun y => (mkRV ((cmpV o x.1 y.1).map .bl) y.2).bind fun z => match z.1 with
    | .bl true => (evE C c env z.2).bind fun w => mkRV ((cmpV p y.1 w.1).map .bl) w.2
    | .bl false => .ok (.bl false, z.2)
    | _ => .stuck
  | .and a b, env, H => (evE C a env H).bind fun x => match truthV x.1 with
    | some true => evE C b env x.2
    | some false => .ok x
    | none => .stuck
  | .or a b, env, H => (evE C a env H).bind fun x => match truthV x.1 with
    | some false => evE C b env x.2
    | some true => .ok x
    | none => .stuck
  | .not a, env, H => (wk a env H (evE C a env H)).bind fun x => match truthV x.1 with
    | some b => .ok (.bl (!b), x.2)
    | none => .stuck
  | .ite t a b, env, H => (evB C t env H).bind fun x => match x.1 with
    | true => evE C a env x.2
    | false => evE C b env x.2
  | .tup l, env, H => (evEs C l env H).bind fun x => mustV (decide (x.1.length ≤ lim)) (.ok (.tup x.1, x.2))
  | .lst l, env, H => (evEs C l env H).bind fun x => mkLV x.1 x.2
  | .dct l, env, H => (evEs C l env H).bind fun x => mkRV (((pairUpV x.1).bind (putAllV [])).map .dct) x.2
  | .idx a b, env, H => (wk a env H (evE C a env H)).bind fun x => (evE C b env x.2).bind fun y => hidx x.1 y.1 y.2
  | .sl a lo hi, env, H => (wk a env H (evE C a env H)).bind fun x => (evO C lo env x.2).bind fun y => (evO C hi env y.2).bind fun z => mkRV (slV x.1 y.1 z.1) z.2
  | .rev a, env, H => (wk a env H (evE C a env H)).bind fun x => mkRV (revV x.1) x.2
  | .fld a f, env, H => (wk a env H (evE C a env H)).bind fun x => mkRV (fldV x.1 f) x.2
  | .call f l, env, H => (evEs C l env H).bind fun x => C.call f x.1 x.2
  | .new c f l, env, H => (evEs C l env H).bind fun x => C.init c f x.1 x.2
  | .mcall .., _, _ => .stuck
  | .bif b l, env, H => (evWs C l env H).bind fun x => mkRV (bifV b x.1) x.2
  | .mth m o l, env, H => (wk o env H (evE C o env H)).bind fun x => mustV (okM m x.1) (match m with
    | .get => (evEs C l env x.2).bind fun y => mkRV (mthV m x.1 y.1) y.2
    | _ => (evWs C l env x.2).bind fun y => mkRV (mthV m x.1 y.1) y.2)
  | .isT t a, env, H => (wk a env H (evE C a env H)).bind fun x => mkRV (isTyV t x.1) x.2
  | .isC c a, env, H => (wk a env H (evE C a env H)).bind fun x => match x.1 with
    | .ins d _ => .ok (.bl (c == d), x.2)
    | _ => .stuck
  | .lc e t it cs own, env, H => (evI C false it env H).bind fun w => (lcV (fun d H => (Rv.of (asgTV t d (wipeV env own))).bind fun e2 => (evBs C cs e2 H).bind fun b => (match b.1 with
        | true => (evE C e e2 b.2).bind fun v => .ok (some v.1, v.2)
        | false => .ok (none, b.2))) w.1 w.2).bind fun q => mkLV q.1 q.2
  | .dc k v t it cs own, env, H => (evI C false it env H).bind fun w => (dcV (fun d H => (Rv.of (asgTV t d (wipeV env own))).bind fun e2 => (evBs C cs e2 H).bind fun b => (match b.1 with
        | true => (evE C k e2 b.2).bind fun x => (evE C v e2 x.2).bind fun y => .ok (some (x.1, y.1), y.2)
        | false => .ok (none, b.2))) w.1 [] w.2).bind fun q => .ok (.dct q.1, q.2)
def evEs (C : VCtx) : List E → VEnv → List V → Rv (List V × List V)
  | [], _, H => .ok ([], H)
  | e :: es, env, H => (evE C e env H).bind fun x => (evEs C es env x.2).bind fun y => .ok (x.1 :: y.1, y.2)
def evWs (C : VCtx) : List E → VEnv → List V → Rv (List V × List V)
  | [], _, H => .ok ([], H)
  | e :: es, env, H => (wk e env H (evE C e env H)).bind fun x => (evWs C es env x.2).bind fun y => .ok (x.1 :: y.1, y.2)
def evO (C : VCtx) : Option E → VEnv → List V → Rv (Option Int × List V)
  | none, _, H => .ok (none, H)
  | some e, env, H => (evE C e env H).bind fun x => match x.1 with
    | .int i => .ok (some i, x.2)
    | _ => .stuck
def evB (C : VCtx) : B → VEnv → List V → Rv (Bool × List V)
  | .and a b, env, H => (evB C a env H).bind fun x => match x.1 with
    | true => evB C b env x.2
    | false => .ok (false, x.2)
  | .or a b, env, H => (evB C a env H).bind fun x => match x.1 with
    | false => evB C b env x.2
    | true => .ok (true, x.2)
  | .not a, env, H => (evB C a env H).bind fun x => .ok (!x.1, x.2)
  | .val e, env, H => (wk e env H (evE C e env H)).bind fun x => (Rv.of (truthV x.1)).bind fun b => .ok (b, x.2)
def evBs (C : VCtx) : List B → VEnv → List V → Rv (Bool × List V)
  | [], _, H => .ok (true, H)
  | b :: bs, env, H => (evB C b env H).bind fun x => match x.1 with
    | true => evBs C bs env x.2
    | false => .ok (false, x.2)
def evI (C : VCtx) : Bool → I → VEnv → List V → Rv (List V × List V)
  | st, .pl e, env, H => (wks st e env H (evE C e env H)).bind fun x => (Rv.of (itemsV x.1)).bind fun l => .ok (l, x.2)
  | _, .r1 e, env, H => (evE C e env H).bind fun x => match x.1 with
    | .int j => mustV (small j) (.ok (rangeV 0 j.toNat, x.2))
    | _ => .stuck
  | _, .r2 a b, env, H => (evE C a env H).bind fun x => (evE C b env x.2).bind fun y => match x.1, y.1 with
    | .int i, .int j => mustV (small i && small j) (.ok (rangeV i (j - i).toNat, y.2))
    | _, _ => .stuck
  | st, .en e, env, H => (wks st e env H (evE C e env H)).bind fun x => (Rv.of (itemsV x.1)).bind fun l => .ok (enumV 0 l, x.2)
  | st, .zp a b, env, H => (wks st a env H (evE C a env H)).bind fun x => (wks st b env x.2 (evE C b env x.2)).bind fun y => (Rv.of (itemsV x.1)).bind fun l => (Rv.of (itemsV y.1)).bind fun m => .ok (zipV l m, y.2)
  | st, .its e, env, H => (wks st e env H (evE C e env H)).bind fun x => match x.1 with
    | .dct kvs => (Rv.of (ofDs (kvs.map Prod.fst))).bind fun ks => .ok (zipV ks (kvs.map Prod.snd), x.2)
    | _ => .stuck
  | st, .vls e, env, H => (wks st e env H (evE C e env H)).bind fun x => match x.1 with
    | .dct kvs => .ok (kvs.map Prod.snd, x.2)
    | _ => .stuck
end
/-! which names' things go on into others -/
def ew (e : E) (r : List Nat) : List Nat := match e with
  | .var _ => []
  | _ => r
def inL (i : Nat) : List Nat → Bool
  | [] => false
  | j :: js => (i == j) || inL i js
def cns (b : Bool) (i : Nat) (r : List Nat) : List Nat := match b with
  | true => r
  | false => i :: r
/-- without these -/
def rmI (own : List Nat) : List Nat → List Nat
  | [] => []
  | i :: is => cns (inL i own) i (rmI own is)
def esI (st : Bool) (e : E) (r : List Nat) : List Nat := match st with
  | true => r
  | false => ew e r
mutual
def escE : E → List Nat
  | .var i => [i]
  | .con _ => []
  | .bin _ a b => ew a (escE a) ++ ew b (escE b)
  | .neg a => escE a
  | .cmp _ a b => ew a (escE a) ++ ew b (escE b)
  | .chain _ _ a b c => escE a ++ (escE b ++ escE c)
  | .and a b => escE a ++ escE b
  | .or a b => escE a ++ escE b
  | .not a => ew a (escE a)
  | .ite t a b => escB t ++ (escE a ++ escE b)
  | .tup l => escEs l
  | .lst l => escEs l
  | .dct l => escEs l
  | .idx a b => ew a (escE a) ++ escE b
  | .sl a lo hi => ew a (escE a) ++ (escO lo ++ escO hi)
  | .rev a => ew a (escE a)
  | .fld a _ => ew a (escE a)
  | .call _ l => escEs l
  | .new _ _ l => escEs l
  | .mcall a _ _ l => escE a ++ escEs l
  | .bif _ l => escWs l
  | .mth m a l => ew a (escE a) ++ (match m with
    | .get => escEs l
    | _ => escWs l)
  | .isT _ a => ew a (escE a)
  | .isC _ a => ew a (escE a)
  | .lc e _ it cs own => escI false it ++ rmI own (escBs cs ++ escE e)
  | .dc k v _ it cs own => escI false it ++ rmI own (escBs cs ++ (escE k ++ escE v))
def escEs : List E → List Nat
  | [] => []
  | e :: es => escE e ++ escEs es
def escWs : List E → List Nat
  | [] => []
  | e :: es => ew e (escE e) ++ escWs es
def escO : Option E → List Nat
  | none => []
  | some e => escE e
def escB : B → List Nat
  | .and a b => escB a ++ escB b
  | .or a b => escB a ++ escB b
  | .not a => escB a
  | .val e => ew e (escE e)
def escBs : List B → List Nat
  | [] => []
  | b :: bs => escB b ++ escBs bs
def escI : Bool → I → List Nat
  | st, .pl e => esI st e (escE e)
  | _, .r1 e => escE e
  | _, .r2 a b => escE a ++ escE b
  | st, .en e => esI st e (escE e)
  | st, .zp a b => esI st a (escE a) ++ esI st b (escE b)
  | st, .its e => esI st e (escE e)
  | st, .vls e => esI st e (escE e)
end
def frz1 : Nat → VEnv → VEnv
  | _, [] => []
  | 0, some (.own _ v) :: r => some (.val v) :: r
  | 0, x :: r => x :: r
  | i + 1, x :: r => x :: frz1 i r
def frz : List Nat → VEnv → VEnv
  | [], env => env
  | i :: is, env => frz is (frz1 i env)
def isAlloc : E → Bool
  | .lst _ => true
  | .dct _ => true
  | .lc .. => true
  | .dc .. => true
  | .sl .. => true
  | .bin .. => true
  | .bif .list _ => true
  | .bif .sorted _ => true
  | _ => false
def isObj : V → Bool
  | .lst _ => true
  | .dct _ => true
  | _ => false
def slot_of (a : Bool) (v : V) : Sl := if a && isObj v then .own false v else .val v
inductive FlowV where
  | next | brk | cont | ret (v : V)
abbrev RSV := Rv (FlowV × VEnv × List V)
def slotsOf : List T → Option (List Nat)
  | [] => some []
  | .slot i :: ts => (slotsOf ts).map (i :: ·)
  | _ => none
def setAll : List Nat → List Sl → VEnv → VEnv
  | i :: is, s :: ss, env => setAll is ss (env.set i (some s))
  | _, _, env => env
def evAs (C : VCtx) : List E → VEnv → List V → Rv (List Sl × List V)
  | [], _, H => .ok ([], H)
  | e :: es, env, H => (evE C e env H).bind fun x => (evAs C es env x.2).bind fun y => .ok (slot_of (isAlloc e) x.1 :: y.1, y.2)
/-- an item taken from a list of one's own -/
def popV (l : List V) (as : List V) : Option (V × List V) := match as with
  | [] => (l[l.length - 1]?).map fun v => (v, l.dropLast)
  | [.int i] => wh (decide (-(2 ^ 63) ≤ i) && decide (i < 2 ^ 63)) ((ixN l.length i).bind fun j => (l[j]?).map fun v => (v, l.eraseIdx j))
  | _ => none
def ownL (env : VEnv) (i : Nat) : Option (List V) := match env[i]? with
  | some (some (.own false (.lst l))) => some l
  | _ => none
def evP (C : VCtx) (e : E) (env : VEnv) (H : List V) : Rv (V × VEnv × List V) := match e with
  | .mth .pop (.var i) as => (Rv.of (ownL (frz (escEs as) env) i)).bind fun l => (evEs C as (frz (escEs as) env) H).bind fun x => (Rv.of (popV l x.1)).bind fun p => .ok (p.1, (frz (escEs as) env).set i (some (.own false (.lst p.2))), x.2)
  | e => (evE C e (frz (escE e) env) H).bind fun x => .ok (x.1, frz (escE e) env, x.2)
def isPop : E → Bool
  | .mth .pop (.var _) _ => true
  | _ => false
def asgS (C : VCtx) (t : T) (e : E) (env : VEnv) (H : List V) : RSV := match t, e with
  | .slot i, e => if isPop e then (evP C e env H).bind fun x => .ok (.next, x.2.1.set i (some (.val x.1)), x.2.2) else (evE C e (frz (escE e) env) H).bind fun x => .ok (.next, (frz (escE e) env).set i (some (slot_of (isAlloc e) x.1)), x.2)
  | .tup ts, .tup es => (match slotsOf ts with
    | some is => mustV (decide (is.length = es.length) && decide (es.length ≤ lim)) ((evAs C es (frz (escEs es) env) H).bind fun x => .ok (.next, setAll is x.1 (frz (escEs es) env), x.2))
    | none => (evE C (.tup es) (frz (escEs es) env) H).bind fun x => (Rv.of (asgTV (.tup ts) x.1 (frz (escEs es) env))).bind fun e2 => .ok (.next, e2, x.2))
  | t, e => (evP C e env H).bind fun x => (Rv.of (asgTV t x.1 x.2.1)).bind fun e2 => .ok (.next, e2, x.2.2)
/-- what stands under a key of one's own -/
def setV (s : Sl) (k v : V) (H : List V) : Option (Sl × List V) := match s, k with
  | .own false (.lst l), .int i => (ixN l.length i).map fun j => (.own false (.lst (l.set j v)), H)
  | .own false (.dct kvs), k => wh (decide (kvs.length < lim)) ((toD k).bind fun d => (keyForV kvs d).map fun q => (.own false (.dct (putV q d v kvs)), H))
  | .val .hand, .int i => (ixN H.length i).map fun j => (.val .hand, H.set j v)
  | _, _ => none
def vslot (env : VEnv) (i : Nat) : Option Sl := (env[i]?).bind id
def exprS (C : VCtx) (e : E) (env : VEnv) (H : List V) : RSV := match e with
  | .mth .append (.var i) [e] => (Rv.of (ownL env i)).bind fun _ => (evP C e env H).bind fun x => (Rv.of (ownL x.2.1 i)).bind fun l => mustV (decide (l.length < lim)) (.ok (.next, x.2.1.set i (some (.own false (.lst (l ++ [x.1])))), x.2.2))
  | .mth .extend (.var i) [e] => (Rv.of (ownL (frz (ew e (escE e)) env) i)).bind fun l => (wk e (frz (ew e (escE e)) env) H (evE C e (frz (ew e (escE e)) env) H)).bind fun x => (match x.1 with
    | .lst k => mustV (decide (l.length + k.length ≤ lim)) (.ok (.next, (frz (ew e (escE e)) env).set i (some (.own false (.lst (l ++ k)))), x.2))
    | _ => .stuck)
  | e => (evP C e env H).bind fun x => .ok (.next, x.2.1, x.2.2)
def attrV (s : Sl) (f : Str) (v : V) : Option Sl := match s with
  | .own true (.ins c fs) => wh (decide (fs.length < 1000)) (some (.own true (.ins c (putFV f v fs))))
  | _ => none
def forV (t : T) (f : VEnv → List V → RSV) : List V → VEnv → List V → RSV
  | [], env, H => .ok (.next, env, H)
  | x :: xs, env, H => (Rv.of (asgTV t x env)).bind fun e => (f e H).bind fun r => match r.1 with
      | .next => forV t f xs r.2.1 r.2.2
      | .cont => forV t f xs r.2.1 r.2.2
      | .brk => .ok (.next, r.2)
      | .ret d => .ok (.ret d, r.2)
def whileV (g : VEnv → List V → Rv (Bool × List V)) (f : VEnv → List V → RSV) : Nat → VEnv → List V → RSV
  | 0, _, _ => .stuck
  | n + 1, env, H => (g env H).bind fun b => match b.1 with
    | false => .ok (.next, env, b.2)
    | true => (f env b.2).bind fun r => match r.1 with
      | .next => whileV g f n r.2.1 r.2.2
      | .cont => whileV g f n r.2.1 r.2.2
      | .brk => .ok (.next, r.2)
      | .ret d => .ok (.ret d, r.2)
mutual
def evS (C : VCtx) : S → VEnv → List V → RSV
  | .asg t e, env, H => asgS C t e env H
  | .asub o i e, env, H => (match o with
    | .var n => (evE C e (frz (escE e ++ escE i) env) H).bind fun v => (Rv.of (vslot (frz (escE e ++ escE i) env) n)).bind fun s => (evE C i (frz (escE e ++ escE i) env) v.2).bind fun k => (Rv.of (setV s k.1 v.1 k.2)).bind fun r => .ok (.next, (frz (escE e ++ escE i) env).set n (some r.1), r.2)
    | _ => .stuck)
  | .aattr o f e, env, H => (match o with
    | .var n => (evE C e (frz (escE e) env) H).bind fun v => (Rv.of ((vslot (frz (escE e) env) n).bind fun s => attrV s f v.1)).bind fun r => .ok (.next, (frz (escE e) env).set n (some r), v.2)
    | _ => .stuck)
  | .aug i o e, env, H => (vget env i H).bind fun x => (evE C e env x.2).bind fun y => (match x.1, y.1 with
    | .int a, .int b => (Rv.of (binV o (.int a) (.int b))).bind fun z => .ok (.next, env.set i (some (.val z)), y.2)
    | _, _ => .stuck)
  | .augSub .., _, _ => .stuck
  | .expr e, env, H => exprS C e env H
  | .ret e, env, H => (evP C e env H).bind fun x => .ok (.ret x.1, x.2.1, x.2.2)
  | .retN, env, H => .ok (.ret .non, env, H)
  | .ite t a b, env, H => (evB C t (frz (escB t) env) H).bind fun x => match x.1 with
    | true => evSs C a (frz (escB t) env) x.2
    | false => evSs C b (frz (escB t) env) x.2
  | .whl t b, env, H => whileV (evB C t) (evSs C b) C.fuel env H
  | .for_ t it b, env, H => (evI C true it (frz (escI true it) env) H).bind fun w => forV t (evSs C b) w.1 (frz (escI true it) env) w.2
  | .pass, env, H => .ok (.next, env, H)
  | .brk, env, H => .ok (.brk, env, H)
  | .cont, env, H => .ok (.cont, env, H)
  | .raise c l, env, H => (evEs C l (frz (escEs l) env) H).bind fun x => .err c x.1 x.2
def evSs (C : VCtx) : List S → VEnv → List V → RSV
  | [], env, H => .ok (.next, env, H)
  | s :: ss, env, H => (evS C s env H).bind fun r => match r.1 with
    | .next => evSs C ss r.2.1 r.2.2
    | f => .ok (f, r.2)
end
def env0 (f : Fn) (as : List V) : VEnv := as.map (fun v => some (.val v)) ++ List.replicate (f.ns - f.ps) none
def runFnV (C : VCtx) (f : Fn) (as : List V) (H : List V) : RV := mustV (decide (as.length = f.ps)) ((evSs C f.body (env0 f as) H).bind fun r => match r.1 with
  | .ret d => .ok (d, r.2.2)
  | .next => .ok (.non, r.2.2)
  | _ => .stuck)
def runInit (C : VCtx) (c : Nat) (f : Fn) (as : List V) (H : List V) : RV := mustV (decide (as.length + 1 = f.ps)) ((evSs C f.body (some (.own true (.ins c [])) :: (as.map (fun v => some (.val v)) ++ List.replicate (f.ns - f.ps) none)) H).bind fun r => match r.1 with
  | .next => (match r.2.1 with
    | some (.own true v) :: _ => .ok (v, r.2.2)
    | _ => .stuck)
  | _ => .stuck)
/-- what is known otherwise of a function: how deep it calls, what it gives -/
abbrev Orc := Nat → Option (Nat × (List V → List V → RV))
def callV (P : List Fn) (N : Nat) (O : Orc) : Nat → Nat → List V → List V → RV
  | k, f, as, H => match O f with
    | some (n, g) => mustV (decide (n ≤ k)) (g as H)
    | none => (match k with
      | 0 => .stuck
      | k + 1 => (match P[f]? with
        | some fn => runFnV ⟨callV P N O k, fun c i as H => (match k with
          | 0 => .stuck
          | j + 1 => (match P[i]? with
            | some fn => runInit ⟨callV P N O j, fun _ _ _ _ => .stuck, N⟩ c fn as H
            | none => .stuck)), N⟩ fn as H
        | none => .stuck))
end Vl

/-! Vl2: which data of a store a value stands for. -/
namespace Vl
open Fw
open PySem (Str PyData NestedKey)
mutual
inductive Rep (h : Nat) (M : Nat → Prop) (G : Store) : D → V → Prop
  | non : Rep h M G .non .non
  | bl (b : Bool) : Rep h M G (.bl b) (.bl b)
  | int (i : Int) : Rep h M G (.int i) (.int i)
  | str (s : List Nat) : Rep h M G (.str s) (.str s)
  | tup {ds : List D} {vs : List V} : Reps h M G ds vs → Rep h M G (.tup ds) (.tup vs)
  | obj {n : Nat} {o : O} {v : V} : ¬ M n → G[n]? = some o → Cnt h M G o v → Rep h M G (.ref n) v
  | hand : Rep h M G (.ref h) .hand
inductive Cnt (h : Nat) (M : Nat → Prop) (G : Store) : O → V → Prop
  | lst {ds : List D} {vs : List V} : Reps h M G ds vs → Cnt h M G (.lst ds false) (.lst vs)
  | dct {ds : List (D × D)} {vs : List (D × V)} : RepK h M G ds vs → Cnt h M G (.dct ds) (.dct vs)
  | ins {c : Nat} {ds : List (Str × D)} {vs : List (Str × V)} : RepF h M G ds vs → Cnt h M G (.ins c ds) (.ins c vs)
inductive Reps (h : Nat) (M : Nat → Prop) (G : Store) : List D → List V → Prop
  | nil : Reps h M G [] []
  | cons {d : D} {v : V} {ds : List D} {vs : List V} : Rep h M G d v → Reps h M G ds vs → Reps h M G (d :: ds) (v :: vs)
inductive RepK (h : Nat) (M : Nat → Prop) (G : Store) : List (D × D) → List (D × V) → Prop
  | nil : RepK h M G [] []
  | cons {k d : D} {v : V} {ds : List (D × D)} {vs : List (D × V)} : Rep h M G d v → RepK h M G ds vs → RepK h M G ((k, d) :: ds) ((k, v) :: vs)
inductive RepF (h : Nat) (M : Nat → Prop) (G : Store) : List (Str × D) → List (Str × V) → Prop
  | nil : RepF h M G [] []
  | cons {k : Str} {d : D} {v : V} {ds : List (Str × D)} {vs : List (Str × V)} : Rep h M G d v → RepF h M G ds vs → RepF h M G ((k, d) :: ds) ((k, v) :: vs)
end
variable {h : Nat} {M M' : Nat → Prop} {G G' : Store}
section
variable (f : ∀ n o, ¬ M n → G[n]? = some o → ¬ M' n ∧ G'[n]? = some o)
include f
mutual
theorem Rep.mono : ∀ {d v}, Rep h M G d v → Rep h M' G' d v
  | _, _, .non => .non
  | _, _, .bl b => .bl b
  | _, _, .int b => .int b
  | _, _, .str b => .str b
  | _, _, .tup a => .tup (Reps.mono a)
  | _, _, .obj a b c => .obj (f _ _ a b).1 (f _ _ a b).2 (Cnt.mono c)
  | _, _, .hand => .hand
theorem Cnt.mono : ∀ {d v}, Cnt h M G d v → Cnt h M' G' d v
  | _, _, .lst a => .lst (Reps.mono a)
  | _, _, .dct a => .dct (RepK.mono a)
  | _, _, .ins a => .ins (RepF.mono a)
theorem Reps.mono : ∀ {d v}, Reps h M G d v → Reps h M' G' d v
  | _, _, .nil => .nil
  | _, _, .cons a b => .cons (Rep.mono a) (Reps.mono b)
theorem RepK.mono : ∀ {d v}, RepK h M G d v → RepK h M' G' d v
  | _, _, .nil => .nil
  | _, _, .cons a b => .cons (Rep.mono a) (RepK.mono b)
theorem RepF.mono : ∀ {d v}, RepF h M G d v → RepF h M' G' d v
  | _, _, .nil => .nil
  | _, _, .cons a b => .cons (Rep.mono a) (RepF.mono b)
end
end
section
variable (mh : M h) (mh' : M' h)
include mh mh'
mutual
theorem Rep.uniq : ∀ {d v v'}, Rep h M G d v → Rep h M' G d v' → v = v'
  | _, _, _, .non, .non => rfl
  | _, _, _, .bl _, .bl _ => rfl
  | _, _, _, .int _, .int _ => rfl
  | _, _, _, .str _, .str _ => rfl
  | _, _, _, .tup a, .tup b => by rw [Reps.uniq a b]
  | _, _, _, .obj _ b c, .obj _ b' c' => by rw [b] at b'; cases b'; exact Cnt.uniq c c'
  | _, _, _, .obj x _ _, .hand => (x mh).elim
  | _, _, _, .hand, .obj x _ _ => (x mh').elim
  | _, _, _, .hand, .hand => rfl
theorem Cnt.uniq : ∀ {d v v'}, Cnt h M G d v → Cnt h M' G d v' → v = v'
  | _, _, _, .lst a, .lst b => by rw [Reps.uniq a b]
  | _, _, _, .dct a, .dct b => by rw [RepK.uniq a b]
  | _, _, _, .ins a, .ins b => by rw [RepF.uniq a b]
theorem Reps.uniq : ∀ {d v v'}, Reps h M G d v → Reps h M' G d v' → v = v'
  | _, _, _, .nil, .nil => rfl
  | _, _, _, .cons a b, .cons a' b' => by rw [Rep.uniq a a', Reps.uniq b b']
theorem RepK.uniq : ∀ {d v v'}, RepK h M G d v → RepK h M' G d v' → v = v'
  | _, _, _, .nil, .nil => rfl
  | _, _, _, .cons a b, .cons a' b' => by rw [Rep.uniq a a', RepK.uniq b b']
theorem RepF.uniq : ∀ {d v v'}, RepF h M G d v → RepF h M' G d v' → v = v'
  | _, _, _, .nil, .nil => rfl
  | _, _, _, .cons a b, .cons a' b' => by rw [Rep.uniq a a', RepF.uniq b b']
end
end
/-! ### rows -/
theorem Reps.length : ∀ {ds vs}, Reps h M G ds vs → ds.length = vs.length
  | _, _, .nil => rfl
  | _, _, .cons _ b => by rw [List.length_cons, List.length_cons, b.length]
theorem Reps.get : ∀ {ds vs} {j : Nat} {v : V}, Reps h M G ds vs → vs[j]? = some v → ∃ d, ds[j]? = some d ∧ Rep h M G d v
  | _, _, _, _, .nil, e => by simp at e
  | _, _, 0, _, .cons a b, e => by cases e; exact ⟨_, rfl, a⟩
  | _, _, j + 1, _, .cons a b, e => by
    rw [List.getElem?_cons_succ] at e
    obtain ⟨d, h1, h2⟩ := b.get e
    exact ⟨d, by rw [List.getElem?_cons_succ]; exact h1, h2⟩
theorem Reps.app : ∀ {ds vs es ws}, Reps h M G ds vs → Reps h M G es ws → Reps h M G (ds ++ es) (vs ++ ws)
  | _, _, _, _, .nil, b => b
  | _, _, _, _, .cons a b, c => .cons a (b.app c)
theorem Reps.drop : ∀ {ds vs} (n : Nat), Reps h M G ds vs → Reps h M G (ds.drop n) (vs.drop n)
  | _, _, 0, a => a
  | _, _, _ + 1, .nil => .nil
  | _, _, n + 1, .cons a b => b.drop n
theorem Reps.take : ∀ {ds vs} (n : Nat), Reps h M G ds vs → Reps h M G (ds.take n) (vs.take n)
  | _, _, 0, a => .nil
  | _, _, _ + 1, .nil => .nil
  | _, _, n + 1, .cons a b => .cons a (b.take n)
theorem Reps.cut {ds vs} (lo hi : Option Int) (a : Reps h M G ds vs) : Reps h M G (cut ds lo hi) (cut vs lo hi) := by
  unfold Fw.cut
  rw [a.length]
  exact (a.drop _).take _
theorem Reps.reverse : ∀ {ds vs}, Reps h M G ds vs → Reps h M G ds.reverse vs.reverse
  | _, _, .nil => .nil
  | _, _, .cons a b => by rw [List.reverse_cons, List.reverse_cons]; exact b.reverse.app (.cons a .nil)
theorem Reps.set : ∀ {ds vs} (n : Nat) {d v}, Reps h M G ds vs → Rep h M G d v → Reps h M G (ds.set n d) (vs.set n v)
  | _, _, _, _, _, .nil, _ => .nil
  | _, _, 0, _, _, .cons a b, c => .cons c b
  | _, _, n + 1, _, _, .cons a b, c => .cons a (b.set n c)
theorem Reps.eraseIdx : ∀ {ds vs} (n : Nat), Reps h M G ds vs → Reps h M G (ds.eraseIdx n) (vs.eraseIdx n)
  | _, _, _, .nil => .nil
  | _, _, 0, .cons a b => b
  | _, _, n + 1, .cons a b => .cons a (b.eraseIdx n)
theorem Reps.dropLast {ds vs} (a : Reps h M G ds vs) : Reps h M G ds.dropLast vs.dropLast := by
  rw [List.dropLast_eq_take, List.dropLast_eq_take, a.length]; exact a.take _
theorem Reps.flat {ds vs} (a : Reps h M G ds vs) : ∀ n : Nat, Reps h M G (List.replicate n ds).flatten (List.replicate n vs).flatten
  | 0 => .nil
  | n + 1 => by rw [List.replicate_succ, List.replicate_succ, List.flatten_cons, List.flatten_cons]; exact a.app (a.flat n)
theorem Reps.isEmpty {ds vs} (a : Reps h M G ds vs) : ds.isEmpty = vs.isEmpty := by cases a <;> rfl
theorem Reps.signs : ∀ s : List Nat, Reps h M G (signs s) (signsV s)
  | [] => .nil
  | c :: s => .cons (.str _) (Reps.signs s)
theorem Reps.range (a : Int) : ∀ n : Nat, Reps h M G (rangeD a n) (rangeV a n)
  | 0 => by rw [rangeD, rangeV]; exact .nil
  | n + 1 => by rw [rangeD, rangeV]; exact .cons (.int a) (Reps.range _ n)
theorem Reps.enum : ∀ (n : Nat) {ds vs}, Reps h M G ds vs → Reps h M G (enumD n ds) (enumV n vs)
  | n, _, _, .nil => by rw [enumD, enumV]; exact .nil
  | n, _, _, .cons a b => by rw [enumD, enumV]; exact .cons (.tup (.cons (.int _) (.cons a .nil))) (b.enum (n + 1))
theorem Reps.zipD : ∀ {ds vs es ws}, Reps h M G ds vs → Reps h M G es ws → Reps h M G (zipD ds es) (zipV vs ws)
  | _, _, _, _, .nil, _ => by simp only [Fw.zipD, zipV]; exact .nil
  | _, _, _, _, .cons a b, .nil => by simp only [Fw.zipD, zipV]; exact .nil
  | _, _, _, _, .cons a b, .cons c d => by rw [Fw.zipD, zipV]; exact .cons (.tup (.cons a (.cons c .nil))) (b.zipD d)
theorem RepK.length : ∀ {ds vs}, RepK h M G ds vs → ds.length = vs.length
  | _, _, .nil => rfl
  | _, _, .cons _ b => by rw [List.length_cons, List.length_cons, b.length]
theorem RepK.keys : ∀ {ds vs}, RepK h M G ds vs → ds.map Prod.fst = vs.map Prod.fst
  | _, _, .nil => rfl
  | _, _, .cons _ b => by rw [List.map_cons, List.map_cons, b.keys]
theorem RepK.vals : ∀ {ds vs}, RepK h M G ds vs → Reps h M G (ds.map Prod.snd) (vs.map Prod.snd)
  | _, _, .nil => .nil
  | _, _, .cons a b => .cons a b.vals
/-! ### data -/
mutual
theorem ofD_rep : ∀ {d : D} {v : V}, ofD d = some v → Rep h M G d v
  | .non, _, e => by rw [ofD] at e; cases e; exact .non
  | .bl b, _, e => by rw [ofD] at e; cases e; exact .bl b
  | .int b, _, e => by rw [ofD] at e; cases e; exact .int b
  | .str b, _, e => by rw [ofD] at e; cases e; exact .str b
  | .tup l, _, e => by
    rw [ofD] at e
    obtain ⟨vs, e1, rfl⟩ := Option.map_eq_some_iff.mp e
    exact .tup (ofDs_rep e1)
  | .ref _, _, e => by rw [ofD] at e; cases e
theorem ofDs_rep : ∀ {d : List D} {v : List V}, ofDs d = some v → Reps h M G d v
  | [], _, e => by rw [ofDs] at e; cases e; exact .nil
  | d :: ds, _, e => by
    rw [ofDs] at e
    obtain ⟨v, e1, e⟩ := Option.bind_eq_some_iff.mp e
    obtain ⟨vs, e2, rfl⟩ := Option.map_eq_some_iff.mp e
    exact .cons (ofD_rep e1) (ofDs_rep e2)
end
mutual
theorem Rep.toD : ∀ {d : D} {v : V} {x : D}, Rep h M G d v → toD v = some x → d = x
  | _, _, _, .non, e => by rw [Vl.toD] at e; cases e; rfl
  | _, _, _, .bl b, e => by rw [Vl.toD] at e; cases e; rfl
  | _, _, _, .int b, e => by rw [Vl.toD] at e; cases e; rfl
  | _, _, _, .str b, e => by rw [Vl.toD] at e; cases e; rfl
  | _, _, _, .tup a, e => by
    rw [Vl.toD] at e
    obtain ⟨vs, e1, rfl⟩ := Option.map_eq_some_iff.mp e
    rw [Reps.toDs a e1]
  | _, _, _, .obj _ _ c, e => by cases c <;> simp [Vl.toD] at e
  | _, _, _, .hand, e => by simp [Vl.toD] at e
theorem Reps.toDs : ∀ {d : List D} {v : List V} {x : List D}, Reps h M G d v → toDs v = some x → d = x
  | _, _, _, .nil, e => by rw [Vl.toDs] at e; cases e; rfl
  | _, _, _, .cons a b, e => by
    rw [Vl.toDs] at e
    obtain ⟨v, e1, e⟩ := Option.bind_eq_some_iff.mp e
    obtain ⟨vs, e2, rfl⟩ := Option.map_eq_some_iff.mp e
    rw [Rep.toD a e1, Reps.toDs b e2]
end
mutual
theorem Rep.snap : ∀ {d : D} {v : V} {n : Nat} {x : PyData}, Rep h M G d v → snapV n v = some x → snap G n d = some x
  | _, _, n, _, .non, e => by cases n <;> exact e
  | _, _, n, _, .bl b, e => by cases n <;> exact e
  | _, _, n, _, .int b, e => by cases n <;> exact e
  | _, _, n, _, .str b, e => by cases n <;> exact e
  | _, _, 0, _, .tup a, e => by cases e
  | _, _, n + 1, _, .tup a, e => by
    rw [snapV] at e
    obtain ⟨vs, e1, rfl⟩ := Option.map_eq_some_iff.mp e
    rw [Fw.snap, Reps.snaps a e1]; rfl
  | _, _, 0, _, .obj _ b c, e => by cases c <;> cases e
  | _, _, n + 1, _, .obj _ b (.lst a), e => by
    rw [snapV] at e
    obtain ⟨vs, e1, rfl⟩ := Option.map_eq_some_iff.mp e
    rw [Fw.snap, b]
    dsimp only
    rw [Reps.snaps a e1]; rfl
  | _, _, n + 1, _, .obj _ b (.dct a), e => by cases e
  | _, _, n + 1, _, .obj _ b (.ins a), e => by cases e
  | _, _, 0, _, .hand, e => by cases e
  | _, _, n + 1, _, .hand, e => by cases e
theorem Reps.snaps : ∀ {d : List D} {v : List V} {n : Nat} {x : List PyData}, Reps h M G d v → snapsV (snapV n) v = some x → snaps (snap G n) d = some x
  | _, _, _, _, .nil, e => e
  | _, _, _, _, .cons a b, e => by
    rw [snapsV] at e
    obtain ⟨v, e1, e⟩ := Option.bind_eq_some_iff.mp e
    obtain ⟨vs, e2, rfl⟩ := Option.map_eq_some_iff.mp e
    rw [Fw.snaps, Rep.snap a e1, Reps.snaps b e2]; rfl
end
/-! ### what is just looked at -/
inductive RepW (h : Nat) (M : Nat → Prop) (G : Store) : D → V → Prop
  | st {d : D} {v : V} : Rep h M G d v → RepW h M G d v
  | ob {n : Nat} {o : O} {v : V} : n ≠ h → G[n]? = some o → Cnt h M G o v → RepW h M G (.ref n) v
theorem RepW.lst {d : D} {l : List V} (a : RepW h M G d (.lst l)) : ∃ n ds, d = .ref n ∧ G[n]? = some (.lst ds false) ∧ Reps h M G ds l := by
  cases a with
  | st a => cases a with
    | obj x y z => cases z with | lst z => exact ⟨_, _, rfl, y, z⟩
  | ob x y z => cases z with | lst z => exact ⟨_, _, rfl, y, z⟩
theorem RepW.dct {d : D} {l : List (D × V)} (a : RepW h M G d (.dct l)) : ∃ n ds, d = .ref n ∧ G[n]? = some (.dct ds) ∧ RepK h M G ds l := by
  cases a with
  | st a => cases a with
    | obj x y z => cases z with | dct z => exact ⟨_, _, rfl, y, z⟩
  | ob x y z => cases z with | dct z => exact ⟨_, _, rfl, y, z⟩
theorem RepW.ins {d : D} {c : Nat} {l : List (Str × V)} (a : RepW h M G d (.ins c l)) : ∃ n ds, d = .ref n ∧ G[n]? = some (.ins c ds) ∧ RepF h M G ds l := by
  cases a with
  | st a => cases a with
    | obj x y z => cases z with | ins z => exact ⟨_, _, rfl, y, z⟩
  | ob x y z => cases z with | ins z => exact ⟨_, _, rfl, y, z⟩
theorem RepW.tup {d : D} {l : List V} (a : RepW h M G d (.tup l)) : ∃ ds, d = .tup ds ∧ Reps h M G ds l := by
  cases a with
  | st a => cases a with
    | tup a => exact ⟨_, rfl, a⟩
    | obj x y z => cases z
  | ob x y z => cases z
theorem RepW.int {d : D} {i : Int} (a : RepW h M G d (.int i)) : d = .int i := by
  cases a with
  | st a => cases a with
    | int => rfl
    | obj x y z => cases z
  | ob x y z => cases z
theorem RepW.bl {d : D} {i : Bool} (a : RepW h M G d (.bl i)) : d = .bl i := by
  cases a with
  | st a => cases a with
    | bl => rfl
    | obj x y z => cases z
  | ob x y z => cases z
theorem RepW.str {d : D} {i : List Nat} (a : RepW h M G d (.str i)) : d = .str i := by
  cases a with
  | st a => cases a with
    | str => rfl
    | obj x y z => cases z
  | ob x y z => cases z
theorem RepW.non {d : D} (a : RepW h M G d .non) : d = .non := by
  cases a with
  | st a => cases a with
    | non => rfl
    | obj x y z => cases z
  | ob x y z => cases z
theorem RepW.hand {d : D} (a : RepW h M G d .hand) : d = .ref h := by
  cases a with
  | st a => cases a with
    | hand => rfl
    | obj x y z => cases z
  | ob x y z => cases z
theorem RepW.toD {d x : D} {v : V} (a : RepW h M G d v) (e : Vl.toD v = some x) : d = x := by
  cases a with
  | st a => exact a.toD e
  | ob _ _ c => cases c <;> simp [Vl.toD] at e
theorem RepW.snap {d : D} {v : V} {n : Nat} {x : PyData} (a : RepW h M G d v) (e : snapV n v = some x) : Fw.snap G n d = some x := by
  cases a with
  | st a => exact a.snap e
  | ob _ b c => exact (Rep.snap (M := fun _ => False) (.obj (fun x => x) b (c.mono fun n o _ q => ⟨fun x => x, q⟩)) e)
theorem RepW.notNon {d : D} {v : V} (a : RepW h M G d v) : decide (d = .non) = decide (v = .non) := by
  cases a with
  | st a => cases a with
    | obj x y z => cases z <;> simp
    | _ => simp
  | ob x y z => cases z <;> simp
theorem truth_sim {d : D} {v : V} {b : Bool} (a : RepW h M G d v) (e : truthV v = some b) : truthS G d = some b := by
  cases v with
  | non => rw [a.non]; exact e
  | bl i => rw [a.bl]; exact e
  | int i => rw [a.int]; exact e
  | str i =>
    rw [a.str]
    rw [truthV, wh] at e
    rw [truthS]
    split at e
    · rename_i q; rw [if_pos (of_decide_eq_true q)]; exact e
    · cases e
  | tup l =>
    obtain ⟨ds, rfl, r⟩ := a.tup
    rw [truthS, r.isEmpty]; exact e
  | lst l =>
    obtain ⟨n, ds, rfl, g, r⟩ := a.lst
    rw [truthS, g]
    dsimp only
    rw [r.isEmpty]; exact e
  | dct l => cases e
  | ins c l => cases e
  | hand => cases e
theorem eq_sim {d d' : D} {v v' : V} {b : Bool} (a : RepW h M G d v) (a' : RepW h M G d' v') (e : eqV v v' = some b) : eqS G d d' = some b := by
  unfold eqV at e
  obtain ⟨x, e1, e⟩ := Option.bind_eq_some_iff.mp e
  obtain ⟨y, e2, e⟩ := Option.bind_eq_some_iff.mp e
  unfold eqS
  rw [a.snap e1, a'.snap e2]; exact e
theorem lt_sim {d d' : D} {v v' : V} {b : Bool} (a : RepW h M G d v) (a' : RepW h M G d' v') (e : ltV v v' = some b) : ltS G d d' = some b := by
  unfold ltV at e
  obtain ⟨x, e1, e⟩ := Option.bind_eq_some_iff.mp e
  obtain ⟨y, e2, e⟩ := Option.bind_eq_some_iff.mp e
  unfold ltS
  rw [a.snap e1, a'.snap e2]; exact e
theorem mem_sim {d : D} {v : V} {ds : List D} {vs : List V} {b : Bool} (a : RepW h M G d v) (a' : Reps h M G ds vs) (e : memV v vs = some b) : memS G d ds = some b := by
  unfold memV at e
  obtain ⟨x, e1, e⟩ := Option.bind_eq_some_iff.mp e
  obtain ⟨y, e2, e⟩ := Option.bind_eq_some_iff.mp e
  unfold memS
  rw [a.snap e1, a'.snaps e2]; exact e
theorem index_sim {d : D} {v : V} {ds : List D} {vs : List V} {b : Nat} (a : RepW h M G d v) (a' : Reps h M G ds vs) (e : indexV v vs = some b) : indexS G d ds = some b := by
  unfold indexV at e
  obtain ⟨x, e1, e⟩ := Option.bind_eq_some_iff.mp e
  obtain ⟨y, e2, e⟩ := Option.bind_eq_some_iff.mp e
  unfold indexS
  rw [a.snap e1, a'.snaps e2]; exact e
/-! ### dicts -/
theorem keyFor_sim {ds : List (D × D)} {vs : List (D × V)} (a : RepK h M G ds vs) (d : D) : keyFor ds d = keyForV vs d := by
  have : (ds.all fun kv => isTup kv.1 == isTup d) = (vs.all fun kv => isTup kv.1 == isTup d) := by
    have e1 : (ds.all fun kv => isTup kv.1 == isTup d) = (ds.map Prod.fst).all fun k => isTup k == isTup d := by rw [List.all_map]; rfl
    have e2 : (vs.all fun kv => isTup kv.1 == isTup d) = (vs.map Prod.fst).all fun k => isTup k == isTup d := by rw [List.all_map]; rfl
    rw [e1, e2, a.keys]
  unfold keyFor keyForV
  rw [this]
theorem look_sim {k : NestedKey} : ∀ {ds : List (D × D)} {vs : List (D × V)}, RepK h M G ds vs → (lookV k vs = none → lookK k ds = none) ∧ ∀ v, lookV k vs = some v → ∃ d, lookK k ds = some d ∧ Rep h M G d v
  | _, _, .nil => ⟨fun _ => rfl, fun _ e => by cases e⟩
  | _, _, .cons (k := x) a b => by
    have := look_sim (k := k) b
    rw [lookV, lookK]
    by_cases q : keyOf x = some k
    · rw [if_pos q, if_pos q]
      refine ⟨fun e => (by cases e), fun v e => ?_⟩
      cases e
      exact ⟨_, rfl, a⟩
    · rw [if_neg q, if_neg q]; exact this
theorem look_some {k : NestedKey} {ds : List (D × D)} {vs : List (D × V)} (a : RepK h M G ds vs) : (lookK k ds).isSome = (lookV k vs).isSome := by
  have := look_sim (k := k) a
  cases e : lookV k vs with
  | none => rw [this.1 e]; rfl
  | some v => obtain ⟨d, e1, _⟩ := this.2 v e; rw [e1]; rfl
theorem putMap_sim {k : NestedKey} {d : D} {v : V} (r : Rep h M G d v) : ∀ {ds : List (D × D)} {vs : List (D × V)}, RepK h M G ds vs → RepK h M G (ds.map (fun e => if keyOf e.1 = some k then (e.1, d) else e)) (vs.map (fun e => if keyOf e.1 = some k then (e.1, v) else e))
  | _, _, .nil => .nil
  | _, _, .cons (k := x) a b => by
    rw [List.map_cons, List.map_cons]
    by_cases q : keyOf x = some k
    · rw [if_pos q, if_pos q]; exact .cons r (putMap_sim r b)
    · rw [if_neg q, if_neg q]; exact .cons a (putMap_sim r b)
theorem RepK.app : ∀ {ds vs es ws}, RepK h M G ds vs → RepK h M G es ws → RepK h M G (ds ++ es) (vs ++ ws)
  | _, _, _, _, .nil, b => b
  | _, _, _, _, .cons a b, c => .cons a (b.app c)
theorem put_sim {k : NestedKey} {x d : D} {v : V} {ds : List (D × D)} {vs : List (D × V)} (a : RepK h M G ds vs) (r : Rep h M G d v) : RepK h M G (putK k x d ds) (putV k x v vs) := by
  unfold putK putV
  rw [look_some a]
  split
  · exact putMap_sim r a
  · exact a.app (.cons r .nil)
theorem pairUp_sim : ∀ {ds : List D} {vs : List V} {ps : List (V × V)}, Reps h M G ds vs → pairUpV vs = some ps → ∃ qs, pairUp ds = some qs ∧ Reps h M G (qs.map Prod.fst) (ps.map Prod.fst) ∧ Reps h M G (qs.map Prod.snd) (ps.map Prod.snd)
  | _, _, _, .nil, e => by rw [pairUpV] at e; cases e; exact ⟨[], rfl, .nil, .nil⟩
  | _, _, _, .cons a .nil, e => by simp [pairUpV] at e
  | _, _, _, .cons a (.cons b c), e => by
    rw [pairUpV] at e
    obtain ⟨ps, e1, rfl⟩ := Option.map_eq_some_iff.mp e
    obtain ⟨qs, e2, r1, r2⟩ := pairUp_sim c e1
    exact ⟨(_, _) :: qs, by rw [pairUp, e2]; rfl, .cons a r1, .cons b r2⟩
theorem putAll_sim : ∀ {qs : List (D × D)} {ps : List (V × V)} {ds : List (D × D)} {vs ws : List (D × V)}, RepK h M G ds vs → Reps h M G (qs.map Prod.fst) (ps.map Prod.fst) → Reps h M G (qs.map Prod.snd) (ps.map Prod.snd) → putAllV vs ps = some ws → ∃ es, putAll ds qs = some es ∧ RepK h M G es ws
  | [], [], _, _, _, a, _, _, e => by rw [putAllV] at e; cases e; exact ⟨_, rfl, a⟩
  | [], p :: ps, _, _, _, a, b, _, e => by cases b
  | q :: qs, [], _, _, _, a, b, _, e => by cases b
  | (q1, q2) :: qs, (p1, p2) :: ps, _, _, _, a, .cons b1 b2, .cons c1 c2, e => by
    rw [putAllV] at e
    obtain ⟨d, e1, e⟩ := Option.bind_eq_some_iff.mp e
    obtain ⟨k, e2, e⟩ := Option.bind_eq_some_iff.mp e
    obtain rfl : q1 = d := b1.toD e1
    obtain ⟨es, e3, r⟩ := putAll_sim (put_sim (k := k) (x := q1) a c1) b2 c2 e
    refine ⟨es, ?_, r⟩
    rw [putAll, keyFor_sim a, e2]; exact e3
theorem fld_sim {f : Str} : ∀ {ds : List (Str × D)} {vs : List (Str × V)} {v : V}, RepF h M G ds vs → vs.lookup f = some v → ∃ d, ds.lookup f = some d ∧ Rep h M G d v
  | _, _, _, .nil, e => by cases e
  | _, _, _, .cons (k := x) a b, e => by
    rw [List.lookup_cons] at e ⊢
    cases q : f == x with
    | true => rw [q] at e; cases e; exact ⟨_, rfl, a⟩
    | false => rw [q] at e; exact fld_sim b e
theorem putF_sim {f : Str} {d : D} {v : V} (r : Rep h M G d v) : ∀ {ds : List (Str × D)} {vs : List (Str × V)}, RepF h M G ds vs → RepF h M G (putF f d ds) (putFV f v vs)
  | _, _, .nil => by rw [putF, putFV]; exact .cons r .nil
  | _, _, .cons (k := x) a b => by
    rw [putF, putFV]
    split
    · exact .cons r b
    · exact .cons a (putF_sim r b)
theorem RepF.length : ∀ {ds vs}, RepF h M G ds vs → ds.length = vs.length
  | _, _, .nil => rfl
  | _, _, .cons _ b => by rw [List.length_cons, List.length_cons, b.length]
theorem ints_sim : ∀ {ds : List D} {vs : List V} {l : List Int}, Reps h M G ds vs → intsV vs = some l → intsOf ds = some l
  | _, _, _, .nil, e => e
  | _, _, _, .cons (v := v) a b, e => by
    cases v with
    | int i =>
      cases (RepW.st a).int
      rw [intsV] at e
      obtain ⟨l, e1, rfl⟩ := Option.map_eq_some_iff.mp e
      rw [intsOf, ints_sim b e1]; rfl
    | _ => cases e
theorem bols_sim : ∀ {ds : List D} {vs : List V} {l : List Bool}, Reps h M G ds vs → bolsV vs = some l → bolsOf ds = some l
  | _, _, _, .nil, e => e
  | _, _, _, .cons (v := v) a b, e => by
    cases v with
    | bl i =>
      cases (RepW.st a).bl
      rw [bolsV] at e
      obtain ⟨l, e1, rfl⟩ := Option.map_eq_some_iff.mp e
      rw [bolsOf, bols_sim b e1]; rfl
    | _ => cases e
theorem strs_sim : ∀ {ds : List D} {vs : List V} {l : List (List Nat)}, Reps h M G ds vs → strsV vs = some l → strsOf ds = some l
  | _, _, _, .nil, e => e
  | _, _, _, .cons (v := v) a b, e => by
    cases v with
    | str i =>
      cases (RepW.st a).str
      rw [strsV] at e
      obtain ⟨l, e1, rfl⟩ := Option.map_eq_some_iff.mp e
      rw [strsOf, strs_sim b e1]; rfl
    | _ => cases e
end Vl

/-! Vl3: what is done with values is done in the store: expressions. -/
namespace Vl
open Fw
open PySem (Str PyData NestedKey)
variable {α β γ δ : Type}
/-- nothing that stood is otherwise, but the hand -/
def Ke (h : Nat) (G G' : Store) : Prop := G.length ≤ G'.length ∧ ∀ n o, n ≠ h → G[n]? = some o → G'[n]? = some o
theorem Ke.refl {h : Nat} (G : Store) : Ke h G G := ⟨Nat.le_refl _, fun _ _ _ e => e⟩
theorem Ke.trans {h : Nat} {G G' G'' : Store} (a : Ke h G G') (b : Ke h G' G'') : Ke h G G'' := ⟨Nat.le_trans a.1 b.1, fun n o x e => b.2 n o x (a.2 n o x e)⟩
theorem Ke.app {h : Nat} (G : Store) (o : O) : Ke h G (G ++ [o]) := ⟨by simp, fun n p _ e => by rw [List.getElem?_append_left (List.getElem?_eq_some_iff.1 e).1]; exact e⟩
structure Wd (h : Nat) (M : Nat → Prop) (G : Store) (H : List V) : Prop where
  mh : M h
  lt : ∀ n, M n → n < G.length
  hd : ∃ ds, G[h]? = some (.lst ds false) ∧ Reps h M G ds H
theorem Ke.rep {h : Nat} {M : Nat → Prop} {G G' : Store} (k : Ke h G G') (mh : M h) : ∀ n o, ¬ M n → G[n]? = some o → ¬ M n ∧ G'[n]? = some o := fun n o x e => ⟨x, k.2 n o (fun y => x (y ▸ mh)) e⟩
def SimR (h : Nat) (M : Nat → Prop) (G : Store) (P : Res (α × Store)) (s : Rv (β × List V)) (R : Store → α → β → Prop) : Prop := match s with
  | .ok x => ∃ a G', P = .ok (a, G') ∧ Ke h G G' ∧ Wd h M G' x.2 ∧ R G' a x.1
  | .err c vs H' => ∃ ds G', P = .err c ds G' ∧ Ke h G G' ∧ Wd h M G' H' ∧ Reps h M G' ds vs
  | .stuck => True
variable {h : Nat} {M : Nat → Prop} {G : Store} {H : List V}
theorem SimR.bind {P : Res (α × Store)} {s : Rv (β × List V)} {R : Store → α → β → Prop} {f : α × Store → Res (γ × Store)} {g : β × List V → Rv (δ × List V)} {R' : Store → γ → δ → Prop}
    (a : SimR h M G P s R) (k : ∀ G' x y H', Ke h G G' → Wd h M G' H' → R G' x y → SimR h M G' (f (x, G')) (g (y, H')) R') : SimR h M G (P.bind f) (s.bind g) R' := by
  cases s with
  | stuck => trivial
  | err c vs H' =>
    obtain ⟨ds, G', rfl, a2, a3, a4⟩ := a
    exact ⟨ds, G', rfl, a2, a3, a4⟩
  | ok x =>
    obtain ⟨y, H'⟩ := x
    obtain ⟨x, G', rfl, a2, a3, a4⟩ := a
    have := k G' x y H' a2 a3 a4
    show SimR h M G (f (x, G')) (g (y, H')) R'
    revert this
    cases g (y, H') with
    | stuck => exact fun _ => trivial
    | err c vs H'' =>
      rintro ⟨ds, G'', e, b2, b3, b4⟩
      exact ⟨ds, G'', e, a2.trans b2, b3, b4⟩
    | ok z =>
      rintro ⟨ds, G'', e, b2, b3, b4⟩
      exact ⟨ds, G'', e, a2.trans b2, b3, b4⟩
theorem SimR.imp {P : Res (α × Store)} {s : Rv (β × List V)} {R R' : Store → α → β → Prop} (a : SimR h M G P s R) (k : ∀ G' x y, Ke h G G' → R G' x y → R' G' x y) : SimR h M G P s R' := by
  cases s with
  | stuck => trivial
  | err c vs H' => exact a
  | ok x =>
    obtain ⟨y, G', e, a2, a3, a4⟩ := a
    exact ⟨y, G', e, a2, a3, k _ _ _ a2 a4⟩
theorem SimR.ok {R : Store → α → β → Prop} {a : α} {b : β} (w : Wd h M G H) (r : R G a b) : SimR h M G (.ok (a, G)) (.ok (b, H)) R := ⟨a, G, rfl, Ke.refl G, w, r⟩
theorem SimR.mk {P : Res (D × Store)} {o : Option V} {R : Store → D → V → Prop} (w : Wd h M G H) (k : ∀ v, o = some v → ∃ d, P = .ok (d, G) ∧ R G d v) : SimR h M G P (mkRV o H) R := by
  cases o with
  | none => trivial
  | some v =>
    obtain ⟨d, e, r⟩ := k v rfl
    exact ⟨d, G, e, Ke.refl G, w, r⟩
theorem SimR.must {P : Res (α × Store)} {s : Rv (β × List V)} {R : Store → α → β → Prop} {b b' : Bool} (e : b' = true → b = true) (a : SimR h M G P s R) : SimR h M G (must b P) (mustV b' s) R := by
  cases b' with
  | false => trivial
  | true => rw [e rfl]; exact a
theorem SimR.of {o : Option γ} {f : γ → Rv (β × List V)} {P : Res (α × Store)} {R : Store → α → β → Prop} (k : ∀ v, o = some v → SimR h M G P (f v) R) : SimR h M G P ((Rv.of o).bind f) R := by
  cases o with
  | none => trivial
  | some v => exact k v rfl
theorem Wd.app {o : O} (w : Wd h M G H) : Wd h M (G ++ [o]) H := by
  obtain ⟨ds, e, r⟩ := w.hd
  refine ⟨w.mh, fun n m => by have := w.lt n m; rw [List.length_append]; omega, ds, ?_, r.mono ((Ke.app (h := h) G o).rep w.mh)⟩
  rw [List.getElem?_append_left (List.getElem?_eq_some_iff.1 e).1]; exact e
/-- a thing that is new: nobody else knows it -/
def Fresh (h : Nat) (M : Nat → Prop) (G G' : Store) (d : D) (v : V) : Prop := ∃ n o, d = .ref n ∧ G.length ≤ n ∧ G'[n]? = some o ∧ Cnt h (fun m => M m ∨ m = n) G' o v ∧ ∃ ds H, G'[h]? = some (.lst ds false) ∧ Reps h (fun m => M m ∨ m = n) G' ds H
def RE (h : Nat) (M : Nat → Prop) (al : Bool) (G G' : Store) (d : D) (v : V) : Prop := Rep h M G' d v ∧ (al = true → isObj v = true → Fresh h M G G' d v)
theorem RE.no {G G' : Store} {d : D} {v : V} (a : Rep h M G' d v) : RE h M false G G' d v := ⟨a, fun e => by cases e⟩
theorem RE.low {G G' G'' : Store} {d : D} {v : V} {al : Bool} (k : G.length ≤ G'.length) (a : RE h M al G' G'' d v) : RE h M al G G'' d v := ⟨a.1, fun e i => by
  obtain ⟨n, o, x, y, z, t⟩ := a.2 e i
  exact ⟨n, o, x, by omega, z, t⟩⟩
theorem RE.plain {G G' : Store} {d : D} {v : V} {al : Bool} (a : Rep h M G' d v) (n : isObj v = false) : RE h M al G G' d v := ⟨a, fun _ e => by rw [n] at e; cases e⟩
theorem new_sim {o : O} {v : V} {al : Bool} (w : Wd h M G H) (c : Cnt h M G o v) : ∃ d G', newO o G = .ok (d, G') ∧ Ke h G G' ∧ Wd h M G' H ∧ RE h M al G G' d v := by
  have e : (G ++ [o])[G.length]? = some o := by rw [List.getElem?_append_right (Nat.le_refl _), Nat.sub_self]; rfl
  have nm : ¬ M G.length := fun m => by have := w.lt _ m; omega
  refine ⟨.ref G.length, G ++ [o], rfl, Ke.app _ _, w.app, .obj nm e (c.mono ((Ke.app (h := h) G o).rep w.mh)), fun _ _ => ?_⟩
  have mono : ∀ n' p, ¬ M n' → G[n']? = some p → ¬ (M n' ∨ n' = G.length) ∧ (G ++ [o])[n']? = some p := fun n p x q => ⟨fun y => by
    rcases y with y | y
    · exact x y
    · have := (List.getElem?_eq_some_iff.1 q).1
      omega, ((Ke.app (h := h) G o).rep w.mh n p x q).2⟩
  refine ⟨G.length, o, rfl, Nat.le_refl _, e, c.mono mono, ?_⟩
  obtain ⟨ds, x, y⟩ := w.hd
  exact ⟨ds, H, by rw [List.getElem?_append_left (List.getElem?_eq_some_iff.1 x).1]; exact x, y.mono mono⟩
theorem mkL_sim {ds : List D} {vs : List V} {al : Bool} (w : Wd h M G H) (r : Reps h M G ds vs) : SimR h M G (mkL ds G) (mkLV vs H) (RE h M al G) := by
  unfold mkL mkLV
  refine SimR.must (by rw [r.length]; exact id) ?_
  obtain ⟨d, G', e, a, b, c⟩ := new_sim (al := al) w (.lst r)
  exact ⟨d, G', e, a, b, c⟩
theorem wh_some {b : Bool} {o : Option α} {v : α} (e : wh b o = some v) : b = true ∧ o = some v := by
  unfold wh at e
  split at e
  · rename_i q; exact ⟨q, e⟩
  · cases e
theorem bin_sim {o : Bin} {d d' : D} {v v' : V} {al : Bool} (w : Wd h M G H) (a : RepW h M G d v) (a' : RepW h M G d' v') : SimR h M G (binS o d d' G) (mkRV (binV o v v') H) (RE h M al G) := by
  unfold mkRV
  refine SimR.of fun z e => ?_
  unfold binV at e
  split at e
  · cases e; cases a.int; cases a'.int; exact SimR.ok w (.plain (.int _) rfl)
  · obtain ⟨c, e⟩ := wh_some e; cases e; cases a.str; cases a'.str
    show SimR h M G (must _ _) _ _
    rw [c]; exact SimR.ok w (.plain (.str _) rfl)
  · obtain ⟨c, e⟩ := wh_some e; cases e
    obtain ⟨ds, rfl, r⟩ := a.tup
    obtain ⟨ds', rfl, r'⟩ := a'.tup
    show SimR h M G (must _ _) _ _
    rw [r.length, r'.length, c]; exact SimR.ok w (.plain (.tup (r.app r')) rfl)
  · obtain ⟨c, e⟩ := wh_some e; cases e
    obtain ⟨n, ds, rfl, q, r⟩ := a.lst
    obtain ⟨n', ds', rfl, q', r'⟩ := a'.lst
    have e1 : lstAt G (.ref n) = some ds := by unfold lstAt; dsimp only; rw [q]
    have e2 : lstAt G (.ref n') = some ds' := by unfold lstAt; dsimp only; rw [q']
    show SimR h M G (match lstAt G (.ref n), lstAt G (.ref n') with
      | some s, some t => mkL (s ++ t) G
      | _, _ => .stuck) _ _
    rw [e1, e2]
    have := mkL_sim (al := al) w (r.app r')
    unfold mkLV at this
    rw [c] at this; exact this
  · cases e; cases a.int; cases a'.int; exact SimR.ok w (.plain (.int _) rfl)
  · obtain ⟨c, e⟩ := wh_some e; cases e; cases a.int; cases a'.int
    show SimR h M G (must _ _) _ _
    rw [c]; exact SimR.ok w (.plain (.int _) rfl)
  · obtain ⟨c, e⟩ := wh_some e; cases e
    obtain ⟨n, ds, rfl, q, r⟩ := a.lst
    cases a'.int
    rename_i s j
    rw [Bool.and_eq_true, Bool.and_eq_true, Bool.and_eq_true] at c
    obtain ⟨⟨⟨c1, c2⟩, c3⟩, c4⟩ := c
    have e1 : lstAt G (.ref n) = some ds := by unfold lstAt; dsimp only; rw [q]
    show SimR h M G (match lstAt G (.ref n) with
      | some s => must (decide (s.length * j.toNat ≤ lim) && decide (-(2 ^ 63) ≤ j) && decide (j < 2 ^ 63)) (mkL (List.replicate j.toNat s).flatten G)
      | _ => .stuck) _ _
    rw [e1]
    dsimp only
    rw [r.length, c1, c2, c3]
    have := mkL_sim (al := al) w (r.flat j.toNat)
    unfold mkLV at this
    rw [c4] at this; exact this
  · obtain ⟨c, e⟩ := wh_some e; cases e; cases a.int; cases a'.int
    show SimR h M G (must _ _) _ _
    rw [c]; exact SimR.ok w (.plain (.int _) rfl)
  · obtain ⟨c, e⟩ := wh_some e; cases e; cases a.int; cases a'.int
    show SimR h M G (must _ _) _ _
    rw [c]; exact SimR.ok w (.plain (.int _) rfl)
  · obtain ⟨c, e⟩ := wh_some e; cases e; cases a.int; cases a'.int
    show SimR h M G (must _ _) _ _
    rw [c]; exact SimR.ok w (.plain (.int _) rfl)
  · cases e
theorem in_sim {d d' : D} {v v' : V} {b : Bool} (a : RepW h M G d v) (a' : RepW h M G d' v') (e : inV v v' = some b) : inS G d d' = some b := by
  unfold inV at e
  split at e
  · obtain ⟨ds, rfl, r⟩ := a'.tup
    exact mem_sim a r e
  · cases a'.str
    split at e
    · cases a.str; exact e
    · cases e
  · obtain ⟨n, ds, rfl, q, r⟩ := a'.lst
    unfold inS
    dsimp only
    rw [q]
    exact mem_sim a r e
  · obtain ⟨n, ds, rfl, q, r⟩ := a'.dct
    obtain ⟨x, e1, ea⟩ := Option.bind_eq_some_iff.mp e
    obtain ⟨k, e2, eb⟩ := Option.map_eq_some_iff.mp ea
    rw [a.toD e1]
    unfold inS
    dsimp only
    rw [q]
    dsimp only
    rw [keyFor_sim r, e2]
    show some (lookK k ds).isSome = _
    rw [look_some r, eb]
  · cases e
theorem cmp_sim {o : Cmp} {d d' : D} {v v' : V} (w : Wd h M G H) (a : RepW h M G d v) (a' : RepW h M G d' v') : SimR h M G (cmpS o d d' G) (mkRV ((cmpV o v v').map .bl) H) (RE h M false G) := by
  refine SimR.mk w fun z e0 => ?_
  obtain ⟨b, e, rfl⟩ := Option.map_eq_some_iff.mp e0
  clear e0
  refine ⟨.bl b, ?_, .no (.bl b)⟩
  cases o with
  | eq => unfold cmpS; dsimp only; rw [eq_sim a a' e]; rfl
  | ne =>
    unfold cmpV at e
    obtain ⟨c, ec, rfl⟩ := Option.map_eq_some_iff.mp e
    unfold cmpS; dsimp only; rw [eq_sim a a' ec]; rfl
  | lt => unfold cmpS; dsimp only; rw [lt_sim a a' e]; rfl
  | gt =>
    unfold cmpV at e
    dsimp only at e
    split at e
    · cases e; cases a.int; cases a'.int; rfl
    · cases e
  | le =>
    unfold cmpV at e
    dsimp only at e
    split at e
    · cases e; cases a.int; cases a'.int; rfl
    · cases e
  | ge =>
    unfold cmpV at e
    dsimp only at e
    split at e
    · cases e; cases a.int; cases a'.int; rfl
    · cases e
  | in_ => unfold cmpS; dsimp only; rw [in_sim a a' e]; rfl
  | nin =>
    unfold cmpV at e
    obtain ⟨c, ec, rfl⟩ := Option.map_eq_some_iff.mp e
    unfold cmpS; dsimp only; rw [in_sim a a' ec]; rfl
  | isn =>
    unfold cmpV at e
    dsimp only at e
    split at e
    · rename_i q; subst q; cases a'.non; cases e
      unfold cmpS; dsimp only; rw [if_pos rfl, a.notNon]; rfl
    · cases e
  | notn =>
    unfold cmpV at e
    dsimp only at e
    split at e
    · rename_i q; subst q; cases a'.non; cases e
      unfold cmpS; dsimp only; rw [if_pos rfl, a.notNon]; rfl
    · cases e
theorem idx_sim {d d' : D} {v v' : V} (w : Wd h M G H) (a : RepW h M G d v) (a' : Rep h M G d' v') : SimR h M G (idxS d d' G) (hidx v v' H) (RE h M false G) := by
  unfold hidx
  split
  · cases a.hand; cases (RepW.st a').int
    obtain ⟨ds, e, r⟩ := w.hd
    refine SimR.mk w fun z q => ?_
    obtain ⟨j, q1, q2⟩ := Option.bind_eq_some_iff.mp q
    obtain ⟨x, r1, r2⟩ := r.get q2
    refine ⟨x, ?_, .no r2⟩
    unfold idxS
    dsimp only
    rw [e]
    dsimp only
    rw [r.length, q1]
    show Res.of ((ds[j]?).map _) = _
    rw [r1]; rfl
  · refine SimR.mk w fun z e => ?_
    unfold idxV at e
    split at e
    · obtain ⟨ds, rfl, r⟩ := a.tup
      split at e
      · cases (RepW.st a').int
        obtain ⟨j, q1, q2⟩ := Option.bind_eq_some_iff.mp e
        obtain ⟨x, r1, r2⟩ := r.get q2
        refine ⟨x, ?_, .no r2⟩
        unfold idxS
        dsimp only
        rw [r.length, q1]
        show Res.of ((ds[j]?).map _) = _
        rw [r1]; rfl
      · cases e
    · cases a.str
      split at e
      · cases (RepW.st a').int
        obtain ⟨c, ea⟩ := wh_some e
        obtain ⟨z, eb, rfl⟩ := Option.map_eq_some_iff.mp ea
        obtain ⟨j, q1, q2⟩ := Option.bind_eq_some_iff.mp eb
        refine ⟨.str [z], ?_, .no (.str _)⟩
        unfold idxS
        dsimp only
        rw [c, q1]
        show Res.of (Option.map _ (_)) = _
        dsimp only [Option.bind_some]
        rw [q2]; rfl
      · cases e
    · obtain ⟨n, ds, rfl, q, r⟩ := a.lst
      split at e
      · cases (RepW.st a').int
        obtain ⟨j, q1, q2⟩ := Option.bind_eq_some_iff.mp e
        obtain ⟨x, r1, r2⟩ := r.get q2
        refine ⟨x, ?_, .no r2⟩
        unfold idxS
        dsimp only
        rw [q]
        dsimp only
        rw [r.length, q1]
        show Res.of ((ds[j]?).map _) = _
        rw [r1]; rfl
      · cases e
    · obtain ⟨n, ds, rfl, q, r⟩ := a.dct
      obtain ⟨x, e1, ea⟩ := Option.bind_eq_some_iff.mp e
      obtain ⟨k, e2, eb⟩ := Option.bind_eq_some_iff.mp ea
      rw [a'.toD e1]
      obtain ⟨y, r1, r2⟩ := (look_sim (k := k) r).2 _ eb
      refine ⟨y, ?_, .no r2⟩
      unfold idxS
      dsimp only
      rw [q]
      dsimp only
      rw [keyFor_sim r, e2]
      show Res.of ((lookK k ds).map _) = _
      rw [r1]; rfl
    · cases e
theorem sl_sim {d : D} {v : V} {lo hi : Option Int} {al : Bool} (w : Wd h M G H) (a : RepW h M G d v) : SimR h M G (slS d lo hi G) (mkRV (slV v lo hi) H) (RE h M al G) := by
  unfold mkRV
  refine SimR.of fun z e => ?_
  unfold slV at e
  split at e
  · cases e
    obtain ⟨ds, rfl, r⟩ := a.tup
    exact SimR.ok w (.plain (.tup (r.cut lo hi)) rfl)
  · obtain ⟨c, e⟩ := wh_some e; cases e; cases a.str
    show SimR h M G (must _ _) _ _
    rw [c]; exact SimR.ok w (.plain (.str _) rfl)
  · cases e
    obtain ⟨n, ds, rfl, q, r⟩ := a.lst
    unfold slS
    dsimp only
    rw [q]
    dsimp only
    obtain ⟨d, G', e, a, b, c⟩ := new_sim (al := al) w (.lst (r.cut lo hi))
    exact ⟨d, G', e, a, b, c⟩
  · cases e
theorem rev_sim {d : D} {v : V} (w : Wd h M G H) (a : RepW h M G d v) : SimR h M G (revS d G) (mkRV (revV v) H) (RE h M false G) := by
  refine SimR.mk w fun z e => ?_
  unfold revV at e
  split at e
  · cases e
    obtain ⟨ds, rfl, r⟩ := a.tup
    exact ⟨_, rfl, .no (.tup r.reverse)⟩
  · obtain ⟨c, e⟩ := wh_some e; cases e; cases a.str
    refine ⟨.str _, ?_, .no (.str _)⟩
    show must _ _ = _
    rw [c]; rfl
  · cases e
theorem fldS_sim {d : D} {v : V} {f : Str} (w : Wd h M G H) (a : RepW h M G d v) : SimR h M G (fldS d f G) (mkRV (fldV v f) H) (RE h M false G) := by
  refine SimR.mk w fun z e => ?_
  unfold fldV at e
  split at e
  · obtain ⟨n, ds, rfl, q, r⟩ := a.ins
    obtain ⟨x, e1, e2⟩ := fld_sim r e
    refine ⟨x, ?_, .no e2⟩
    unfold fldS
    dsimp only
    rw [q]
    dsimp only
    rw [e1]; rfl
  · cases e
theorem len_sim {d : D} {v z : V} (a : RepW h M G d v) (e : lenV v = some z) : ∃ x, lenS d G = .ok (x, G) ∧ Rep h M G x z := by
  unfold lenV at e
  split at e
  · obtain ⟨c, e⟩ := wh_some e; cases e; cases a.str
    refine ⟨_, ?_, .int _⟩
    show must _ _ = _
    rw [c]; rfl
  · cases e
    obtain ⟨ds, rfl, r⟩ := a.tup
    refine ⟨_, rfl, ?_⟩
    rw [r.length]; exact .int _
  · cases e
    obtain ⟨n, ds, rfl, q, r⟩ := a.lst
    refine ⟨_, by unfold lenS; dsimp only; rw [q], ?_⟩
    rw [r.length]; exact .int _
  · obtain ⟨c, e⟩ := wh_some e; cases e
    obtain ⟨n, ds, rfl, q, r⟩ := a.dct
    refine ⟨.int ds.length, ?_, by rw [r.length]; exact .int _⟩
    rename_i l
    have : (ds.all fun kv => !isTup kv.1) = true := by
      have e1 : (ds.all fun kv => !isTup kv.1) = (ds.map Prod.fst).all fun k => !isTup k := by rw [List.all_map]; rfl
      have e2 : (l.all fun kv => !isTup kv.1) = (l.map Prod.fst).all fun k => !isTup k := by rw [List.all_map]; rfl
      rw [e1, r.keys, ← e2]; exact c
    unfold lenS; dsimp only; rw [q]
    dsimp only
    rw [this]; rfl
  · cases e
theorem RepW.items {d : D} {v : V} {l : List V} (a : RepW h M G d v) (e : itemsV v = some l) : ∃ ds, itemsS G d = some ds ∧ Reps h M G ds l := by
  unfold itemsV at e
  split at e
  · cases e
    obtain ⟨ds, rfl, r⟩ := a.tup
    exact ⟨ds, rfl, r⟩
  · cases e
    cases a.str
    exact ⟨_, rfl, .signs _⟩
  · cases e
    obtain ⟨n, ds, rfl, q, r⟩ := a.lst
    exact ⟨ds, by unfold itemsS; dsimp only; rw [q], r⟩
  · cases e
theorem zip_fst : ∀ {l : List α} {m : List β}, l.length = m.length → (l.zip m).map Prod.fst = l
  | [], m, _ => by simp
  | a :: l, [], e => by simp at e
  | a :: l, b :: m, e => by simp [zip_fst (l := l) (m := m) (by simpa using e)]
theorem zip3_a : ∀ {l : List α} {m : List β} {p : List γ}, l.length = m.length → ((l.zip m).zip p).map (fun x => (x.1.1, x.2)) = l.zip p
  | [], m, p, _ => by simp
  | a :: l, [], p, e => by simp at e
  | a :: l, b :: m, [], e => by simp
  | a :: l, b :: m, c :: p, e => by simp [zip3_a (l := l) (m := m) (p := p) (by simpa using e)]
theorem zip3_b : ∀ {l : List α} {m : List β} {p : List γ}, l.length = m.length → ((l.zip m).zip p).map (fun x => (x.1.2, x.2)) = m.zip p
  | [], m, p, e => by cases m with | nil => simp | cons => simp at e
  | a :: l, [], p, e => by simp at e
  | a :: l, b :: m, [], e => by simp
  | a :: l, b :: m, c :: p, e => by simp [zip3_b (l := l) (m := m) (p := p) (by simpa using e)]
theorem Reps.zipMem : ∀ {ds vs}, Reps h M G ds vs → ∀ x ∈ ds.zip vs, Rep h M G x.1 x.2
  | _, _, .nil, x, m => by simp at m
  | _, _, .cons a b, x, m => by
    rw [List.zip_cons_cons, List.mem_cons] at m
    rcases m with rfl | m
    · exact a
    · exact b.zipMem x m
theorem Reps.ofMap : ∀ {l : List γ} {f : γ → D} {g : γ → V}, (∀ x ∈ l, Rep h M G (f x) (g x)) → Reps h M G (l.map f) (l.map g)
  | [], _, _, _ => .nil
  | x :: l, f, g, k => .cons (k x (List.mem_cons_self ..)) (Reps.ofMap fun y m => k y (List.mem_cons_of_mem _ m))
theorem sort_sim {ds : List D} {vs ws : List V} (r : Reps h M G ds vs) (e : sortV vs = some ws) : ∃ es, sortS G ds = some es ∧ Reps h M G es ws := by
  unfold sortV at e
  obtain ⟨ps, e1, e⟩ := Option.bind_eq_some_iff.mp e
  unfold sortS
  rw [r.snaps e1]
  dsimp only [Option.bind_some]
  split at e
  · rename_i q
    rw [if_pos q]
    cases e
    refine ⟨_, rfl, ?_⟩
    have k1 : ds.zip ps = ((ds.zip vs).zip ps).map (fun x => (x.1.1, x.2)) := (zip3_a r.length).symm
    have k2 : vs.zip ps = ((ds.zip vs).zip ps).map (fun x => (x.1.2, x.2)) := (zip3_b r.length).symm
    have s1 := List.map_mergeSort (r := fun (x y : (D × V) × PyData) => PySem.W.dataLe false Prod.snd (x.1.1, x.2) (y.1.1, y.2)) (s := PySem.W.dataLe false (Prod.snd : D × PyData → PyData)) (f := fun (x : (D × V) × PyData) => (x.1.1, x.2)) (l := (ds.zip vs).zip ps) (fun a _ b _ => rfl)
    have s2 := List.map_mergeSort (r := fun (x y : (D × V) × PyData) => PySem.W.dataLe false Prod.snd (x.1.1, x.2) (y.1.1, y.2)) (s := PySem.W.dataLe false (Prod.snd : V × PyData → PyData)) (f := fun (x : (D × V) × PyData) => (x.1.2, x.2)) (l := (ds.zip vs).zip ps) (fun a _ b _ => rfl)
    rw [k1, k2, ← s1, ← s2, List.map_map, List.map_map]
    refine Reps.ofMap fun x m => ?_
    have m := (List.mem_mergeSort).1 m
    exact r.zipMem x.1 (List.of_mem_zip m).1
  · cases e
theorem RepW.lstAt {d : D} {v : V} {l : List V} (a : RepW h M G d v) (e : lstV v = some l) : ∃ ds, Fw.lstAt G d = some ds ∧ Reps h M G ds l := by
  cases v with
  | lst k =>
    cases e
    obtain ⟨n, ds, rfl, q, r⟩ := a.lst
    exact ⟨ds, by unfold Fw.lstAt; dsimp only; rw [q], r⟩
  | _ => cases e
theorem bif1_sim {b : Bif} {d : D} {v : V} {al : Bool} (hal : al = true → b = .list ∨ b = .sorted) (w : Wd h M G H) (a : RepW h M G d v) : SimR h M G (bif1 b d G) (mkRV (bif1V b v) H) (RE h M al G) := by
  unfold mkRV
  refine SimR.of fun z e => ?_
  have pl : ∀ {x : D} {z : V}, bif1 b d G = .ok (x, G) → Rep h M G x z → isObj z = false → SimR h M G (bif1 b d G) (.ok (z, H)) (RE h M al G) := fun e r i => by rw [e]; exact SimR.ok w (.plain r i)
  cases b with
  | len =>
    obtain ⟨x, e1, e2⟩ := len_sim a e
    refine pl e1 e2 ?_
    unfold bif1V lenV at e
    dsimp only at e
    split at e
    · cases (wh_some e).2; rfl
    · cases e; rfl
    · cases e; rfl
    · cases (wh_some e).2; rfl
    · cases e
  | abs =>
    unfold bif1V at e
    dsimp only at e
    split at e
    · cases e; cases a.int; exact pl rfl (.int _) rfl
    · cases e
  | int =>
    unfold bif1V at e
    dsimp only at e
    split at e
    · cases e; cases a.int; exact pl rfl (.int _) rfl
    · cases e; cases a.bl; exact pl rfl (.int _) rfl
    · cases e
  | sum =>
    unfold bif1V at e
    obtain ⟨l, ea, rfl⟩ := Option.map_eq_some_iff.mp e
    obtain ⟨m, e1, e2⟩ := Option.bind_eq_some_iff.mp ea
    obtain ⟨ds, e3, r⟩ := a.lstAt e1
    refine pl (x := .int l.sum) ?_ (.int _) rfl
    unfold bif1 sumS
    dsimp only
    rw [e3]
    show Res.of ((intsOf ds).map _) = _
    rw [ints_sim r e2]; rfl
  | min =>
    unfold bif1V at e
    dsimp only at e
    split at e
    · rename_i x xs q
      cases e
      obtain ⟨m, e1, e2⟩ := Option.bind_eq_some_iff.mp q
      obtain ⟨ds, e3, r⟩ := a.lstAt e1
      refine pl (x := .int (minL x xs)) ?_ (.int _) rfl
      unfold bif1 minS
      dsimp only
      rw [e3]
      dsimp only [Option.bind_some]
      rw [ints_sim r e2]
    · cases e
  | max =>
    unfold bif1V at e
    dsimp only at e
    split at e
    · rename_i x xs q
      cases e
      obtain ⟨m, e1, e2⟩ := Option.bind_eq_some_iff.mp q
      obtain ⟨ds, e3, r⟩ := a.lstAt e1
      refine pl (x := .int (maxL x xs)) ?_ (.int _) rfl
      unfold bif1 maxS
      dsimp only
      rw [e3]
      dsimp only [Option.bind_some]
      rw [ints_sim r e2]
    · cases e
  | sorted =>
    unfold bif1V at e
    obtain ⟨l, e1, e⟩ := Option.bind_eq_some_iff.mp e
    obtain ⟨m, e2, e⟩ := Option.bind_eq_some_iff.mp e
    obtain ⟨c, e⟩ := wh_some e
    cases e
    obtain ⟨ds, e3, r⟩ := a.items e1
    obtain ⟨es, e4, r'⟩ := sort_sim r e2
    have e5 : bif1 .sorted d G = mkL es G := by
      unfold bif1 sortedS
      dsimp only
      rw [e3]
      dsimp only
      rw [e4]; rfl
    rw [e5]
    have := mkL_sim (al := al) w r'
    unfold mkLV at this
    rw [c] at this; exact this
  | tuple =>
    unfold bif1V at e
    dsimp only at e
    split at e
    · cases e
      obtain ⟨ds, rfl, r⟩ := a.tup
      exact pl rfl (.tup r) rfl
    · cases e
      obtain ⟨n, ds, rfl, q, r⟩ := a.lst
      exact pl (by unfold bif1 tupleS; dsimp only; rw [q]) (.tup r) rfl
    · cases e
  | list =>
    unfold bif1V at e
    dsimp only at e
    split at e
    · obtain ⟨c, e⟩ := wh_some e
      cases e
      obtain ⟨ds, rfl, r⟩ := a.tup
      have := mkL_sim (al := al) w r
      unfold mkLV at this
      rw [c] at this; exact this
    · obtain ⟨c, e⟩ := wh_some e
      cases e
      obtain ⟨n, ds, rfl, q, r⟩ := a.lst
      have e5 : bif1 .list (.ref n) G = mkL ds G := by unfold bif1 listS; dsimp only; rw [q]
      rw [e5]
      have := mkL_sim (al := al) w r
      unfold mkLV at this
      rw [c] at this; exact this
    · cases e
  | repr =>
    unfold bif1V reprV at e
    dsimp only at e
    split at e
    · obtain ⟨x, e1, e⟩ := Option.bind_eq_some_iff.mp e
      obtain ⟨c, e⟩ := wh_some e
      cases e
      have e2 := a.snap e1
      obtain ⟨n, ds, rfl, q, r⟩ := a.lst
      refine pl (x := .str x.shown.cps.toList) ?_ (.str _) rfl
      unfold bif1 reprS
      dsimp only
      rw [e2]
      dsimp only
      rw [c]; rfl
    · cases e
  | all =>
    unfold bif1V at e
    obtain ⟨l, ea, rfl⟩ := Option.map_eq_some_iff.mp e
    obtain ⟨m, e1, e2⟩ := Option.bind_eq_some_iff.mp ea
    obtain ⟨ds, e3, r⟩ := a.lstAt e1
    refine pl (x := .bl (l.all id)) ?_ (.bl _) rfl
    unfold bif1 allS
    dsimp only
    rw [e3]
    show Res.of ((bolsOf ds).map _) = _
    rw [bols_sim r e2]; rfl
  | any =>
    unfold bif1V at e
    obtain ⟨l, ea, rfl⟩ := Option.map_eq_some_iff.mp e
    obtain ⟨m, e1, e2⟩ := Option.bind_eq_some_iff.mp ea
    obtain ⟨ds, e3, r⟩ := a.lstAt e1
    refine pl (x := .bl (l.any id)) ?_ (.bl _) rfl
    unfold bif1 anyS
    dsimp only
    rw [e3]
    show Res.of ((bolsOf ds).map _) = _
    rw [bols_sim r e2]; rfl
  | dict => cases e
  | str => cases e
  | sortedSet => cases e
  | lenSet => cases e
end Vl

/-! Vl4: what is done with values is done in the store: expressions. -/
namespace Vl
open Fw
open PySem (Str PyData NestedKey)
variable {α β γ δ : Type} {h : Nat} {M : Nat → Prop} {G : Store} {H : List V}
theorem RepsW.two {d : List D} {v w : V} (a : Reps h M G d [v, w]) : ∃ x y, d = [x, y] ∧ Rep h M G x v ∧ Rep h M G y w := by
  cases a with
  | cons a b => cases b with
    | cons b c => cases c; exact ⟨_, _, rfl, a, b⟩
/-- rows of what is just looked at -/
inductive RepsW (h : Nat) (M : Nat → Prop) (G : Store) : List D → List V → Prop
  | nil : RepsW h M G [] []
  | cons {d : D} {v : V} {ds : List D} {vs : List V} : RepW h M G d v → RepsW h M G ds vs → RepsW h M G (d :: ds) (v :: vs)
theorem RepsW.length : ∀ {ds vs}, RepsW h M G ds vs → ds.length = vs.length
  | _, _, .nil => rfl
  | _, _, .cons _ b => by rw [List.length_cons, List.length_cons, b.length]
theorem RepW.ke {G' : Store} {d : D} {v : V} (k : Ke h G G') (mh : M h) (a : RepW h M G d v) : RepW h M G' d v := by
  cases a with
  | st a => exact .st (a.mono (k.rep mh))
  | ob x y z => exact .ob x (k.2 _ _ x y) (z.mono (k.rep mh))
theorem RepsW.ke {G' : Store} (k : Ke h G G') (mh : M h) : ∀ {ds vs}, RepsW h M G ds vs → RepsW h M G' ds vs
  | _, _, .nil => .nil
  | _, _, .cons a b => .cons (a.ke k mh) (b.ke k mh)
theorem Reps.w : ∀ {ds vs}, Reps h M G ds vs → RepsW h M G ds vs
  | _, _, .nil => .nil
  | _, _, .cons a b => .cons (.st a) b.w
theorem kind_sim {d : D} {v : V} {kd : Kd} (a : RepW h M G d v) (e : kindV v = some kd) : kindOf G d = some kd := by
  cases v with
  | str s => cases e; cases a.str; rfl
  | tup l => cases e; obtain ⟨ds, rfl, r⟩ := a.tup; rfl
  | lst l => cases e; obtain ⟨n, ds, rfl, q, r⟩ := a.lst; unfold kindOf; dsimp only; rw [q]
  | dct l => cases e; obtain ⟨n, ds, rfl, q, r⟩ := a.dct; unfold kindOf; dsimp only; rw [q]
  | _ => cases e
theorem get_sim {d : D} {v : V} {ds : List D} {vs : List V} {kd : Kd} (hk : kindV v = some kd) (w : Wd h M G H) (a : RepW h M G d v) (r : Reps h M G ds vs) : SimR h M G (mthS kd .get d ds G) (mkRV (mthV .get v vs) H) (RE h M false G) := by
  refine SimR.mk w fun z e => ?_
  unfold mthV at e
  split at e
  · rename_i e0; cases e0
  · rename_i kvs a1 d1 _
    obtain ⟨n, ks, rfl, q, rk⟩ := a.dct
    obtain ⟨x, y, rfl, r1, r2⟩ := RepsW.two r
    obtain ⟨k, e1, ea⟩ := Option.bind_eq_some_iff.mp e
    obtain ⟨f, e2, eb⟩ := Option.map_eq_some_iff.mp ea
    rw [r1.toD e1]
    cases hk
    refine ⟨(lookK f ks).getD y, ?_, ?_⟩
    · unfold mthS
      dsimp only
      rw [q]
      show Res.of ((keyFor ks k).map _) = _
      rw [keyFor_sim rk, e2]; rfl
    · have := look_sim (k := f) rk
      cases e3 : lookV f kvs with
      | none => rw [e3] at eb; rw [this.1 e3]; rw [← eb]; exact .no r2
      | some u =>
        obtain ⟨t, e4, e5⟩ := this.2 u e3
        rw [e3] at eb; rw [e4]; rw [← eb]; exact .no e5
  · rename_i e0; cases e0
  · rename_i e0; cases e0
  · cases e
theorem mth_sim {m : Mth} {d : D} {v : V} {ds : List D} {vs : List V} {kd : Kd} (hk : kindV v = some kd) (nm : m ≠ .get) (w : Wd h M G H) (a : RepW h M G d v) (r : RepsW h M G ds vs) : SimR h M G (mthS kd m d ds G) (mkRV (mthV m v vs) H) (RE h M false G) := by
  refine SimR.mk w fun z e => ?_
  unfold mthV at e
  split at e
  · rename_i l dx
    obtain ⟨n, ks, rfl, q, rk⟩ := a.lst
    cases r with
    | cons r1 r2 =>
      cases r2
      obtain ⟨j, e1, rfl⟩ := Option.map_eq_some_iff.mp e
      cases hk
      refine ⟨.int j, ?_, .no (.int _)⟩
      unfold mthS
      dsimp only
      rw [q]
      show Res.of ((indexS G _ ks).map _) = _
      rw [index_sim r1 rk e1]; rfl
  · exact (nm rfl).elim
  · rename_i s l
    cases a.str
    cases r with
    | cons r1 r2 =>
      cases r2
      obtain ⟨n, ks, rfl, q, rk⟩ := r1.lst
      obtain ⟨k, e1, ea⟩ := Option.bind_eq_some_iff.mp e
      obtain ⟨c, eb⟩ := wh_some ea
      cases eb
      cases hk
      refine ⟨.str (TL.joinL s k), ?_, .no (.str _)⟩
      have hl : lstAt G (.ref n) = some ks := by unfold lstAt; dsimp only; rw [q]
      show (match (lstAt G (.ref n)).bind strsOf with
        | some l => (must (decide ((l.map List.length).sum + l.length * s.length ≤ lim)) (.ok (.str (TL.joinL s l), G)) : RD)
        | _ => .stuck) = _
      rw [hl]
      dsimp only [Option.bind_some]
      rw [strs_sim rk e1]
      dsimp only
      rw [c]; rfl
  · rename_i s c
    cases a.str
    cases r with
    | cons r1 r2 =>
      cases r2
      cases r1.str
      cases e
      cases hk
      exact ⟨_, rfl, .no (.int _)⟩
  · cases e
theorem isTy_sim {t : Ty} {d : D} {v : V} (w : Wd h M G H) (a : RepW h M G d v) : SimR h M G (isTyS t d G) (mkRV (isTyV t v) H) (RE h M false G) := by
  refine SimR.mk w fun z e => ?_
  unfold isTyV at e
  split at e
  · cases e; cases a.non; exact ⟨_, rfl, .no (.bl _)⟩
  · cases e; cases a.bl; exact ⟨_, rfl, .no (.bl _)⟩
  · cases e; cases a.int; exact ⟨_, rfl, .no (.bl _)⟩
  · cases e; cases a.str; exact ⟨_, rfl, .no (.bl _)⟩
  · cases e; obtain ⟨ds, rfl, r⟩ := a.tup; exact ⟨_, rfl, .no (.bl _)⟩
  · cases e; obtain ⟨n, ds, rfl, q, r⟩ := a.lst
    exact ⟨_, by unfold isTyS; dsimp only; rw [q], .no (.bl _)⟩
  · cases e; obtain ⟨n, ds, rfl, q, r⟩ := a.dct
    exact ⟨_, by unfold isTyS; dsimp only; rw [q], .no (.bl _)⟩
  · cases e
/-! ### environments -/
structure EnvR (b s0 h : Nat) (M : Nat → Prop) (G : Store) (env : Env) (venv : VEnv) : Prop where
  hb : b ≤ G.length
  len : env.length = venv.length
  val : ∀ (i : Nat) (v : V), venv[i]? = some (some (Sl.val v)) → ∃ d : D, env[i]? = some (some d) ∧ Rep h M G d v
  own : ∀ (i : Nat) (s : Bool) (v : V), venv[i]? = some (some (Sl.own s v)) → ∃ (n : Nat) (o : O), env[i]? = some (some (D.ref n)) ∧ M n ∧ n ≠ h ∧ b ≤ n ∧ G[n]? = some o ∧ Cnt h M G o v ∧ (s = true → n = s0)
  inj : ∀ (i j : Nat) (s s' : Bool) (v v' : V) (n : Nat), venv[i]? = some (some (Sl.own s v)) → venv[j]? = some (some (Sl.own s' v')) → env[i]? = some (some (D.ref n)) → env[j]? = some (some (D.ref n)) → i = j
variable {b s0 : Nat} {env : Env} {venv : VEnv}
theorem EnvR.ke {G' : Store} (k : Ke h G G') (mh : M h) (e : EnvR b s0 h M G env venv) : EnvR b s0 h M G' env venv := by
  refine ⟨Nat.le_trans e.hb k.1, e.len, fun i v q => ?_, fun i s v q => ?_, e.inj⟩
  · obtain ⟨d, a, c⟩ := e.val i v q
    exact ⟨d, a, c.mono (k.rep mh)⟩
  · obtain ⟨n, o, a1, a2, a3, a4, a5, a6, a7⟩ := e.own i s v q
    exact ⟨n, o, a1, a2, a3, a4, k.2 _ _ a3 a5, a6.mono (k.rep mh), a7⟩
theorem set_eq {l : List α} {i j : Nat} {a x : α} (h : (l.set i a)[j]? = some x) : (i = j ∧ a = x ∧ i < l.length) ∨ (i ≠ j ∧ l[j]? = some x) := by
  by_cases q : i = j
  · subst q
    have hl : i < l.length := by have := (List.getElem?_eq_some_iff.1 h).1; rwa [List.length_set] at this
    rw [List.getElem?_set_self hl] at h
    cases h
    exact .inl ⟨rfl, rfl, hl⟩
  · rw [List.getElem?_set_ne q] at h; exact .inr ⟨q, h⟩
theorem EnvR.set_val (e : EnvR b s0 h M G env venv) (i : Nat) {d : D} {v : V} (r : Rep h M G d v) : EnvR b s0 h M G (env.set i (some d)) (venv.set i (some (Sl.val v))) := by
  refine ⟨e.hb, by rw [List.length_set, List.length_set, e.len], fun j u q => ?_, fun j s u q => ?_, fun j j' s s' u u' n q q' x x' => ?_⟩
  · rcases set_eq q with ⟨rfl, h1, h2⟩ | ⟨h1, h2⟩
    · cases h1
      exact ⟨d, by rw [List.getElem?_set_self (by rw [e.len]; exact h2)], r⟩
    · obtain ⟨d', a, c⟩ := e.val j u h2
      exact ⟨d', by rw [List.getElem?_set_ne h1]; exact a, c⟩
  · rcases set_eq q with ⟨rfl, h1, h2⟩ | ⟨h1, h2⟩
    · cases h1
    · obtain ⟨n, o, a⟩ := e.own j s u h2
      exact ⟨n, o, by rw [List.getElem?_set_ne h1]; exact a⟩
  · rcases set_eq q with ⟨rfl, h1, h2⟩ | ⟨h1, h2⟩
    · cases h1
    · rcases set_eq q' with ⟨rfl, h3, h4⟩ | ⟨h3, h4⟩
      · cases h3
      · rw [List.getElem?_set_ne h1] at x
        rw [List.getElem?_set_ne h3] at x'
        exact e.inj _ _ _ _ _ _ _ h2 h4 x x'
theorem EnvR.set_none (e : EnvR b s0 h M G env venv) (i : Nat) (y : Option D) : EnvR b s0 h M G (env.set i y) (venv.set i none) := by
  refine ⟨e.hb, by rw [List.length_set, List.length_set, e.len], fun j u q => ?_, fun j s u q => ?_, fun j j' s s' u u' n q q' x x' => ?_⟩
  · rcases set_eq q with ⟨rfl, h1, h2⟩ | ⟨h1, h2⟩
    · cases h1
    · obtain ⟨d', a, c⟩ := e.val j u h2
      exact ⟨d', by rw [List.getElem?_set_ne h1]; exact a, c⟩
  · rcases set_eq q with ⟨rfl, h1, h2⟩ | ⟨h1, h2⟩
    · cases h1
    · obtain ⟨n, o, a⟩ := e.own j s u h2
      exact ⟨n, o, by rw [List.getElem?_set_ne h1]; exact a⟩
  · rcases set_eq q with ⟨rfl, h1, h2⟩ | ⟨h1, h2⟩
    · cases h1
    · rcases set_eq q' with ⟨rfl, h3, h4⟩ | ⟨h3, h4⟩
      · cases h3
      · rw [List.getElem?_set_ne h1] at x
        rw [List.getElem?_set_ne h3] at x'
        exact e.inj _ _ _ _ _ _ _ h2 h4 x x'
theorem EnvR.wipe (e : EnvR b s0 h M G env venv) : ∀ l : List Nat, EnvR b s0 h M G (wipe env l) (wipeV venv l)
  | [] => e
  | i :: l => (EnvR.wipe e l).set_none i none
mutual
theorem asgT_sim : ∀ {t : T} {d : D} {v : V} {env : Env} {venv ve : VEnv}, EnvR b s0 h M G env venv → Rep h M G d v → asgTV t v venv = some ve → ∃ e2, asgT t d env = some e2 ∧ EnvR b s0 h M G e2 ve
  | .slot i, d, v, env, venv, ve, e, r, q => by
    rw [asgTV] at q; cases q
    exact ⟨_, by rw [asgT], e.set_val i r⟩
  | .tup ts, d, v, env, venv, ve, e, r, q => by
    cases r with
    | tup r =>
      rw [asgTV] at q
      obtain ⟨e2, h1, h2⟩ := asgTs_sim e r q
      exact ⟨e2, by rw [asgT]; exact h1, h2⟩
    | obj _ _ c => cases c <;> (simp [asgTV] at q)
    | _ => simp [asgTV] at q
theorem asgTs_sim : ∀ {t : List T} {d : List D} {v : List V} {env : Env} {venv ve : VEnv}, EnvR b s0 h M G env venv → Reps h M G d v → asgTsV t v venv = some ve → ∃ e2, asgTs t d env = some e2 ∧ EnvR b s0 h M G e2 ve
  | [], _, _, _, _, _, e, .nil, q => by rw [asgTsV] at q; cases q; exact ⟨_, by rw [asgTs], e⟩
  | t :: ts, _, _, _, _, _, e, .nil, q => by simp [asgTsV] at q
  | [], _, _, _, _, _, e, .cons _ _, q => by simp [asgTsV] at q
  | t :: ts, _, _, _, _, _, e, .cons a c, q => by
    rw [asgTsV] at q
    obtain ⟨e1, h1, h2⟩ := Option.bind_eq_some_iff.mp q
    obtain ⟨f1, h3, h4⟩ := asgT_sim e a h1
    obtain ⟨f2, h5, h6⟩ := asgTs_sim h4 c h2
    exact ⟨f2, by rw [asgTs, h3]; exact h5, h6⟩
end
theorem var_sim {i : Nat} (w : Wd h M G H) (e : EnvR b s0 h M G env venv) : SimR h M G (getV env i G) (vget venv i H) (RE h M false G) := by
  unfold vget
  split
  · rename_i v q
    obtain ⟨d, a, c⟩ := e.val i v q
    have : getV env i G = .ok (d, G) := by unfold getV; rw [a]
    rw [this]; exact SimR.ok w (.no c)
  · trivial
theorem wk_sim {e : E} {C : Ctx} {r : RV} {al : Bool} (w : Wd h M G H) (q : EnvR b s0 h M G env venv) (s : SimR h M G (Fw.evE C e env G) r (RE h M al G)) : SimR h M G (Fw.evE C e env G) (wk e venv H r) (fun G' d v => RepW h M G' d v) := by
  unfold wk
  split
  · rename_i i
    rw [Fw.evE]
    unfold vgetW
    split
    · rename_i v q1
      obtain ⟨d, a, c⟩ := q.val i v q1
      have : getV env i G = .ok (d, G) := by unfold getV; rw [a]
      rw [this]; exact SimR.ok w (.st c)
    · rename_i s1 v q1
      obtain ⟨n, o, a1, a2, a3, a4, a5, a6, a7⟩ := q.own i _ v q1
      have : getV env i G = .ok (.ref n, G) := by unfold getV; rw [a1]
      rw [this]; exact SimR.ok w (.ob a3 a5 a6)
    · trivial
  · exact s.imp fun _ _ _ _ z => .st z.1
/-- what is walked through stays -/
def ChkB (st : Bool) (h : Nat) (M : Nat → Prop) (G : Store) (c : Option (Nat × O)) : Prop := c = none ∨ ∃ n o, c = some (n, o) ∧ n ≠ h ∧ (st = true → ¬ M n) ∧ G[n]? = some o
theorem ChkB.chk {st : Bool} {c : Option (Nat × O)} (a : ChkB st h M G c) : chk c G = true := by
  rcases a with rfl | ⟨n, o, rfl, _, _, e⟩
  · rfl
  · unfold Fw.chk; exact decide_eq_true e
theorem ChkB.ke {st : Bool} {c : Option (Nat × O)} {G' : Store} (k : Ke h G G') (a : ChkB st h M G c) : ChkB st h M G' c := by
  rcases a with rfl | ⟨n, o, rfl, x, y, e⟩
  · exact .inl rfl
  · exact .inr ⟨n, o, rfl, x, y, k.2 n o x e⟩
theorem lc_sim {c c' : Option (Nat × O)} {f : D → Store → Res (Option D × Store)} {g : V → List V → Rv (Option V × List V)} {R : Store → Option D → Option V → Prop}
    (hR : ∀ G x y, R G x y → (x = none ∧ y = none) ∨ ∃ d v, x = some d ∧ y = some v ∧ Rep h M G d v) : ∀ {xs : List D} {ys : List V} {G : Store} {H : List V}, Wd h M G H → Reps h M G xs ys → ChkB false h M G c → ChkB false h M G c' →
    (∀ G' H' d v, Ke h G G' → Wd h M G' H' → Rep h M G' d v → SimR h M G' (f d G') (g v H') R) → SimR h M G (lcL c c' f xs G) (lcV g ys H) (fun G' x y => Reps h M G' x y)
  | _, _, G, H, w, .nil, hc, hc', k => by
    rw [lcL, hc.chk, hc'.chk, lcV]
    exact SimR.ok w .nil
  | _, _, G, H, w, .cons a r, hc, hc', k => by
    rw [lcL, hc.chk, hc'.chk, lcV]
    show SimR h M G (Res.bind _ _) _ _
    refine SimR.bind (k G H _ _ (Ke.refl G) w a) fun G1 x y H1 k1 w1 r1 => ?_
    refine SimR.bind (lc_sim hR w1 (r.mono (k1.rep w.mh)) (hc.ke k1) (hc'.ke k1) fun G' H' d v k' w' r' => k G' H' d v (k1.trans k') w' r') fun G2 xs ys H2 k2 w2 r2 => ?_
    refine SimR.ok w2 ?_
    rcases hR _ _ _ r1 with ⟨rfl, rfl⟩ | ⟨d, v, rfl, rfl, r3⟩
    · exact r2
    · exact .cons (r3.mono (k2.rep w.mh)) r2
theorem dc_sim {c c' : Option (Nat × O)} {f : D → Store → Res (Option (D × D) × Store)} {g : V → List V → Rv (Option (V × V) × List V)} {R : Store → Option (D × D) → Option (V × V) → Prop}
    (hR : ∀ G x y, R G x y → (x = none ∧ y = none) ∨ ∃ d e v u, x = some (d, e) ∧ y = some (v, u) ∧ Rep h M G d v ∧ Rep h M G e u) : ∀ {xs : List D} {ys : List V} {ks : List (D × D)} {vs : List (D × V)} {G : Store} {H : List V}, Wd h M G H → Reps h M G xs ys → RepK h M G ks vs → ChkB false h M G c → ChkB false h M G c' →
    (∀ G' H' d v, Ke h G G' → Wd h M G' H' → Rep h M G' d v → SimR h M G' (f d G') (g v H') R) → SimR h M G (dcL c c' f xs ks G) (dcV g ys vs H) (fun G' x y => RepK h M G' x y)
  | _, _, _, _, G, H, w, .nil, rk, hc, hc', k => by
    rw [dcL, hc.chk, hc'.chk, dcV]
    exact SimR.ok w rk
  | _, _, ks, vs, G, H, w, .cons a r, rk, hc, hc', k => by
    rw [dcL, hc.chk, hc'.chk, dcV]
    show SimR h M G (Res.bind _ _) _ _
    refine SimR.bind (k G H _ _ (Ke.refl G) w a) fun G1 x y H1 k1 w1 r1 => ?_
    have recc := fun {ks : List (D × D)} {vs : List (D × V)} (rk : RepK h M G1 ks vs) => dc_sim hR w1 (r.mono (k1.rep w.mh)) rk (hc.ke k1) (hc'.ke k1) fun G' H' d v k' w' r' => k G' H' d v (k1.trans k') w' r'
    have rk1 := rk.mono (k1.rep w.mh)
    rcases hR _ _ _ r1 with ⟨rfl, rfl⟩ | ⟨d, e, v, u, rfl, rfl, r3, r4⟩
    · exact recc rk1
    · refine SimR.must (by rw [rk.length]; exact id) ?_
      refine SimR.of fun z ez => ?_
      obtain ⟨t, e1, ea⟩ := Option.bind_eq_some_iff.mp ez
      obtain ⟨q, e2, e3⟩ := Option.map_eq_some_iff.mp ea
      obtain rfl := r3.toD e1
      dsimp only
      rw [keyFor_sim rk1, e2, ← e3]
      exact recc (put_sim rk1 r4)
/-- what one calls -/
structure CR (h : Nat) (C : Ctx) (Cv : VCtx) : Prop where
  call : ∀ (f : Nat) (M : Nat → Prop) (G : Store) (H : List V) (ds : List D) (vs : List V), Wd h M G H → Reps h M G ds vs → SimR h M G (C.call f ds G) (Cv.call f vs H) (fun G' d v => Rep h M G' d v)
  init : ∀ (c f : Nat) (M : Nat → Prop) (G : Store) (H : List V) (ds : List D) (vs : List V), Wd h M G H → Reps h M G ds vs → SimR h M G ((C.call f (.ref G.length :: ds) (G ++ [.ins c []])).bind fun y => match y.1 with
    | .non => .ok (.ref G.length, y.2)
    | _ => .stuck) (Cv.init c f vs H) (fun G' d v => Rep h M G' d v)
  fuel : C.fuel = Cv.fuel
theorem walk_sim {st : Bool} {d : D} {v : V} {l : List V} (mh : M h) (a : RepW h M G d v) (s : st = true → Rep h M G d v) (e : itemsV v = some l) : ∃ ds c, walkS G d = some (ds, c) ∧ Reps h M G ds l ∧ ChkB st h M G c := by
  unfold itemsV at e
  split at e
  · cases e
    obtain ⟨ds, rfl, r⟩ := a.tup
    exact ⟨ds, none, rfl, r, .inl rfl⟩
  · cases e
    cases a.str
    exact ⟨_, none, rfl, .signs _, .inl rfl⟩
  · cases e
    have key : ∃ n ds, d = .ref n ∧ n ≠ h ∧ (st = true → ¬ M n) ∧ G[n]? = some (.lst ds false) ∧ Reps h M G ds l := by
      cases st with
      | true =>
        have s := s rfl
        cases s with
        | obj x y z => cases z with | lst z => exact ⟨_, _, rfl, fun q => x (q ▸ mh), fun _ => x, y, z⟩
      | false =>
        cases a with
        | st s => cases s with
          | obj x y z => cases z with | lst z => exact ⟨_, _, rfl, fun q => x (q ▸ mh), fun q => (by cases q), y, z⟩
        | ob x y z => cases z with | lst z => exact ⟨_, _, rfl, x, fun q => (by cases q), y, z⟩
    obtain ⟨n, ds, rfl, x, y, q, r⟩ := key
    exact ⟨ds, some (n, .lst ds false), by unfold walkS; dsimp only; rw [q], r, .inr ⟨n, _, rfl, x, y, q⟩⟩
  · cases e
theorem dctw {st : Bool} {d : D} {l : List (D × V)} (mh : M h) (a : RepW h M G d (.dct l)) (s : st = true → Rep h M G d (.dct l)) : ∃ n ds, d = .ref n ∧ G[n]? = some (.dct ds) ∧ RepK h M G ds l ∧ ChkB st h M G (some (n, .dct ds)) := by
  cases st with
  | true =>
    have s := s rfl
    cases s with
    | obj x y z => cases z with | dct z => exact ⟨_, _, rfl, y, z, .inr ⟨_, _, rfl, fun q => x (q ▸ mh), fun _ => x, y⟩⟩
  | false =>
    cases a with
    | st s => cases s with
      | obj x y z => cases z with | dct z => exact ⟨_, _, rfl, y, z, .inr ⟨_, _, rfl, fun q => x (q ▸ mh), fun q => (by cases q), y⟩⟩
    | ob x y z => cases z with | dct z => exact ⟨_, _, rfl, y, z, .inr ⟨_, _, rfl, x, fun q => (by cases q), y⟩⟩
end Vl

/-! Vl5: what is done with values is done in the store: all expressions. -/
namespace Vl
open Fw
open PySem (Str PyData NestedKey)
variable {α β γ δ : Type} {h b s0 : Nat}
theorem bif_sim {M : Nat → Prop} {G : Store} {H : List V} {b : Bif} {l : List E} {ds : List D} {vs : List V} (w : Wd h M G H) (r : RepsW h M G ds vs) : SimR h M G (bifS b ds G) (mkRV (bifV b vs) H) (RE h M (isAlloc (.bif b l)) G) := by
  cases r with
  | nil => trivial
  | cons a r => cases r with
    | nil => exact bif1_sim (fun e => by cases b <;> first | exact .inl rfl | exact .inr rfl | cases e) w a
    | cons _ _ => trivial
theorem items_sim {M : Nat → Prop} {G : Store} : ∀ {ds : List (D × D)} {vs : List (D × V)} {ks : List V}, RepK h M G ds vs → ofDs (vs.map Prod.fst) = some ks → Reps h M G (ds.map fun kv => .tup [kv.1, kv.2]) (zipV ks (vs.map Prod.snd))
  | _, _, _, .nil, e => by
    rw [List.map_nil, ofDs] at e; cases e
    simp only [List.map_nil, zipV]; exact .nil
  | _, _, _, .cons a c, e => by
    rw [List.map_cons, ofDs] at e
    obtain ⟨v, e1, ea⟩ := Option.bind_eq_some_iff.mp e
    obtain ⟨vs, e2, eb⟩ := Option.map_eq_some_iff.mp ea
    subst eb
    rw [List.map_cons, List.map_cons, zipV]
    exact .cons (.tup (.cons (ofD_rep e1) (.cons a .nil))) (items_sim c e2)
theorem wks_sim {M : Nat → Prop} {G : Store} {H : List V} {env : Env} {venv : VEnv} {st : Bool} {e : E} {C : Ctx} {r : RV} {al : Bool} (w : Wd h M G H) (q : EnvR b s0 h M G env venv) (s : SimR h M G (Fw.evE C e env G) r (RE h M al G)) : SimR h M G (Fw.evE C e env G) (wks st e venv H r) (fun G' d v => RepW h M G' d v ∧ (st = true → Rep h M G' d v)) := by
  cases st with
  | true => exact s.imp fun _ _ _ _ z => ⟨.st z.1, fun _ => z.1⟩
  | false => exact (wk_sim w q s).imp fun _ _ _ _ z => ⟨z, fun x => by cases x⟩
abbrev RO (h : Nat) (M : Nat → Prop) : Store → Option D → Option V → Prop := fun G x y => (x = none ∧ y = none) ∨ ∃ d v, x = some d ∧ y = some v ∧ Rep h M G d v
abbrev RO2 (h : Nat) (M : Nat → Prop) : Store → Option (D × D) → Option (V × V) → Prop := fun G x y => (x = none ∧ y = none) ∨ ∃ d e v u, x = some (d, e) ∧ y = some (v, u) ∧ Rep h M G d v ∧ Rep h M G e u
section
variable {C : Ctx} {Cv : VCtx} (c : CR h C Cv)
include c
mutual
theorem simE : ∀ (e : E) {M : Nat → Prop} {G : Store} {H : List V} {env : Env} {venv : VEnv}, Wd h M G H → EnvR b s0 h M G env venv → SimR h M G (Fw.evE C e env G) (evE Cv e venv H) (RE h M (isAlloc e) G)
  | .var i, M, G, H, env, venv, w, q => by rw [Fw.evE, evE]; exact var_sim w q
  | .con d, M, G, H, env, venv, w, q => by
    rw [Fw.evE, evE]
    exact SimR.mk w fun v e => ⟨d, rfl, .no (ofD_rep e)⟩
  | .bin o a b, M, G, H, env, venv, w, q => by
    rw [Fw.evE, evE]
    refine SimR.bind (wk_sim w q (simE a w q)) fun G1 x vx H1 k1 w1 r1 => ?_
    refine SimR.bind (wk_sim w1 (q.ke k1 w.mh) (simE b w1 (q.ke k1 w.mh))) fun G2 y vy H2 k2 w2 r2 => ?_
    exact (bin_sim w2 (r1.ke k2 w.mh) r2).imp fun G3 d v k3 r => r.low (Nat.le_trans k1.1 k2.1)
  | .neg a, M, G, H, env, venv, w, q => by
    rw [Fw.evE, evE]
    refine SimR.bind (simE a w q) fun G1 x vx H1 k1 w1 r1 => ?_
    cases vx with
    | int i => cases (RepW.st r1.1).int; exact SimR.ok w1 (.no (.int _))
    | _ => trivial
  | .cmp o a b, M, G, H, env, venv, w, q => by
    rw [Fw.evE, evE]
    refine SimR.bind (wk_sim w q (simE a w q)) fun G1 x vx H1 k1 w1 r1 => ?_
    refine SimR.bind (wk_sim w1 (q.ke k1 w.mh) (simE b w1 (q.ke k1 w.mh))) fun G2 y vy H2 k2 w2 r2 => ?_
    exact (cmp_sim w2 (r1.ke k2 w.mh) r2).imp fun G3 d v k3 r => .no r.1
  | .chain o p a b d, M, G, H, env, venv, w, q => by
    rw [Fw.evE, evE]
    refine SimR.bind (simE a w q) fun G1 x vx H1 k1 w1 r1 => ?_
    refine SimR.bind (simE b w1 (q.ke k1 w.mh)) fun G2 y vy H2 k2 w2 r2 => ?_
    refine SimR.bind (cmp_sim w2 (.st (r1.1.mono (k2.rep w.mh))) (.st r2.1)) fun G3 z vz H3 k3 w3 r3 => ?_
    cases vz with
    | bl t =>
      cases (RepW.st r3.1).bl
      cases t with
      | true =>
        refine SimR.bind (simE d w3 (((q.ke k1 w.mh).ke k2 w.mh).ke k3 w.mh)) fun G4 u vu H4 k4 w4 r4 => ?_
        exact (cmp_sim w4 (.st (r2.1.mono ((k3.trans k4).rep w.mh))) (.st r4.1)).imp fun G3 d v k3 r => .no r.1
      | false => exact SimR.ok w3 (.no (.bl _))
    | _ => trivial
  | .and a b, M, G, H, env, venv, w, q => by
    rw [Fw.evE, evE]
    refine SimR.bind (simE a w q) fun G1 x vx H1 k1 w1 r1 => ?_
    dsimp only
    cases e : truthV vx with
    | none => trivial
    | some t =>
      rw [truth_sim (.st r1.1) e]
      cases t with
      | true => exact (simE b w1 (q.ke k1 w.mh)).imp fun _ _ _ _ z => .no z.1
      | false => exact SimR.ok w1 (.no r1.1)
  | .or a b, M, G, H, env, venv, w, q => by
    rw [Fw.evE, evE]
    refine SimR.bind (simE a w q) fun G1 x vx H1 k1 w1 r1 => ?_
    dsimp only
    cases e : truthV vx with
    | none => trivial
    | some t =>
      rw [truth_sim (.st r1.1) e]
      cases t with
      | false => exact (simE b w1 (q.ke k1 w.mh)).imp fun _ _ _ _ z => .no z.1
      | true => exact SimR.ok w1 (.no r1.1)
  | .not a, M, G, H, env, venv, w, q => by
    rw [Fw.evE, evE]
    refine SimR.bind (wk_sim w q (simE a w q)) fun G1 x vx H1 k1 w1 r1 => ?_
    dsimp only
    cases e : truthV vx with
    | none => trivial
    | some t =>
      rw [truth_sim r1 e]
      exact SimR.ok w1 (.no (.bl _))
  | .ite t a b, M, G, H, env, venv, w, q => by
    rw [Fw.evE, evE]
    refine SimR.bind (simB t w q) fun G1 x vx H1 k1 w1 r1 => ?_
    subst r1
    cases x with
    | true => exact (simE a w1 (q.ke k1 w.mh)).imp fun _ _ _ _ z => .no z.1
    | false => exact (simE b w1 (q.ke k1 w.mh)).imp fun _ _ _ _ z => .no z.1
  | .tup l, M, G, H, env, venv, w, q => by
    rw [Fw.evE, evE]
    refine SimR.bind (simEs l w q) fun G1 x vx H1 k1 w1 r1 => ?_
    exact SimR.must (by dsimp only; rw [r1.length]; exact id) (SimR.ok w1 (.no (.tup r1)))
  | .lst l, M, G, H, env, venv, w, q => by
    rw [Fw.evE, evE]
    refine SimR.bind (simEs l w q) fun G1 x vx H1 k1 w1 r1 => ?_
    exact (mkL_sim w1 r1).imp fun _ _ _ _ z => z.low k1.1
  | .dct l, M, G, H, env, venv, w, q => by
    rw [Fw.evE, evE]
    refine SimR.bind (simEs l w q) fun G1 x vx H1 k1 w1 r1 => ?_
    unfold mkRV
    refine SimR.of fun z e => ?_
    obtain ⟨kvs, e1, e2⟩ := Option.map_eq_some_iff.mp e
    obtain ⟨ps, e3, e4⟩ := Option.bind_eq_some_iff.mp e1
    obtain ⟨qs, e5, r2, r3⟩ := pairUp_sim r1 e3
    obtain ⟨es, e6, r4⟩ := putAll_sim .nil r2 r3 e4
    dsimp only
    rw [e5]
    dsimp only [Option.bind_some]
    rw [e6, ← e2]
    dsimp only
    obtain ⟨d, G', e, a, b, c⟩ := new_sim w1 (.dct r4)
    exact ⟨d, G', e, a, b, c.low k1.1⟩
  | .idx a b, M, G, H, env, venv, w, q => by
    rw [Fw.evE, evE]
    refine SimR.bind (wk_sim w q (simE a w q)) fun G1 x vx H1 k1 w1 r1 => ?_
    refine SimR.bind (simE b w1 (q.ke k1 w.mh)) fun G2 y vy H2 k2 w2 r2 => ?_
    exact (idx_sim w2 (r1.ke k2 w.mh) r2.1).imp fun G3 d v k3 r => .no r.1
  | .sl a lo hi, M, G, H, env, venv, w, q => by
    rw [Fw.evE, evE]
    refine SimR.bind (wk_sim w q (simE a w q)) fun G1 x vx H1 k1 w1 r1 => ?_
    refine SimR.bind (simO lo w1 (q.ke k1 w.mh)) fun G2 y vy H2 k2 w2 r2 => ?_
    refine SimR.bind (simO hi w2 ((q.ke k1 w.mh).ke k2 w.mh)) fun G3 z vz H3 k3 w3 r3 => ?_
    subst r2; subst r3
    exact (sl_sim w3 (r1.ke (k2.trans k3) w.mh)).imp fun G3 d v k4 r => r.low (Nat.le_trans k1.1 (Nat.le_trans k2.1 k3.1))
  | .rev a, M, G, H, env, venv, w, q => by
    rw [Fw.evE, evE]
    refine SimR.bind (wk_sim w q (simE a w q)) fun G1 x vx H1 k1 w1 r1 => ?_
    exact (rev_sim w1 r1).imp fun _ _ _ _ r => .no r.1
  | .fld a f, M, G, H, env, venv, w, q => by
    rw [Fw.evE, evE]
    refine SimR.bind (wk_sim w q (simE a w q)) fun G1 x vx H1 k1 w1 r1 => ?_
    exact (fldS_sim w1 r1).imp fun _ _ _ _ r => .no r.1
  | .call f l, M, G, H, env, venv, w, q => by
    rw [Fw.evE, evE]
    refine SimR.bind (simEs l w q) fun G1 x vx H1 k1 w1 r1 => ?_
    exact (c.call f M G1 H1 x vx w1 r1).imp fun _ _ _ _ r => .no r
  | .new k f l, M, G, H, env, venv, w, q => by
    rw [Fw.evE, evE]
    refine SimR.bind (simEs l w q) fun G1 x vx H1 k1 w1 r1 => ?_
    exact (c.init k f M G1 H1 x vx w1 r1).imp fun _ _ _ _ r => .no r
  | .mcall .., M, G, H, env, venv, w, q => by rw [evE]; trivial
  | .bif f l, M, G, H, env, venv, w, q => by
    rw [Fw.evE, evE]
    refine SimR.bind (simWs l w q) fun G1 x vx H1 k1 w1 r1 => ?_
    exact (bif_sim w1 r1).imp fun _ _ _ _ z => z.low k1.1
  | .mth m o l, M, G, H, env, venv, w, q => by
    rw [Fw.evE, evE]
    refine SimR.bind (wk_sim w q (simE o w q)) fun G1 x vx H1 k1 w1 r1 => ?_
    dsimp only
    cases e : okM m vx with
    | false => trivial
    | true =>
      unfold okM at e
      split at e
      · rename_i kd hk
        rw [kind_sim r1 hk]
        dsimp only
        refine SimR.must (fun _ => e) ?_
        cases m with
        | get =>
          refine SimR.bind (simEs l w1 (q.ke k1 w.mh)) fun G2 y vy H2 k2 w2 r2 => ?_
          exact (get_sim hk w2 (r1.ke k2 w.mh) r2).imp fun _ _ _ _ r => .no r.1
        | _ =>
          refine SimR.bind (simWs l w1 (q.ke k1 w.mh)) fun G2 y vy H2 k2 w2 r2 => ?_
          exact (mth_sim hk (fun e => by cases e) w2 (r1.ke k2 w.mh) r2).imp fun _ _ _ _ r => .no r.1
      · cases e
  | .isT t a, M, G, H, env, venv, w, q => by
    rw [Fw.evE, evE]
    refine SimR.bind (wk_sim w q (simE a w q)) fun G1 x vx H1 k1 w1 r1 => ?_
    exact (isTy_sim w1 r1).imp fun _ _ _ _ r => .no r.1
  | .isC k a, M, G, H, env, venv, w, q => by
    rw [Fw.evE, evE]
    refine SimR.bind (wk_sim w q (simE a w q)) fun G1 x vx H1 k1 w1 r1 => ?_
    cases vx with
    | ins d fs =>
      obtain ⟨n, ds, rfl, q, r⟩ := r1.ins
      show SimR h M G1 (isClsS k (.ref n) G1) _ _
      unfold isClsS
      dsimp only
      rw [q]
      exact SimR.ok w1 (.no (.bl _))
    | _ => trivial
  | .lc e t it cs own, M, G, H, env, venv, w, q => by
    rw [Fw.evE, evE]
    refine SimR.bind (simI false it w q) fun G1 x vx H1 k1 w1 r1 => ?_
    refine SimR.bind (lc_sim (R := RO h M) (fun _ _ _ r => r) w1 r1.1 r1.2.1 r1.2.2 fun G2 H2 d v k2 w2 r2 => ?_) fun G3 y vy H3 k3 w3 r3 => ?_
    · refine SimR.of fun ve ev => ?_
      obtain ⟨e2, h1, h2⟩ := asgT_sim (((q.ke k1 w.mh).ke k2 w.mh).wipe own) r2 ev
      rw [h1]
      dsimp only
      refine SimR.bind (simBs cs w2 h2) fun G4 u vu H4 k4 w4 r4 => ?_
      subst r4
      cases u with
      | true =>
        refine SimR.bind (simE e w4 (h2.ke k4 w.mh)) fun G5 z vz H5 k5 w5 r5 => ?_
        exact SimR.ok w5 (.inr ⟨_, _, rfl, rfl, r5.1⟩)
      | false => exact SimR.ok w4 (.inl ⟨rfl, rfl⟩)
    · exact (mkL_sim w3 r3).imp fun _ _ _ _ z => z.low (Nat.le_trans k1.1 k3.1)
  | .dc k v t it cs own, M, G, H, env, venv, w, q => by
    rw [Fw.evE, evE]
    refine SimR.bind (simI false it w q) fun G1 x vx H1 k1 w1 r1 => ?_
    refine SimR.bind (dc_sim (R := RO2 h M) (fun _ _ _ r => r) w1 r1.1 .nil r1.2.1 r1.2.2 fun G2 H2 d v' k2 w2 r2 => ?_) fun G3 y vy H3 k3 w3 r3 => ?_
    · refine SimR.of fun ve ev => ?_
      obtain ⟨e2, h1, h2⟩ := asgT_sim (((q.ke k1 w.mh).ke k2 w.mh).wipe own) r2 ev
      rw [h1]
      dsimp only
      refine SimR.bind (simBs cs w2 h2) fun G4 u vu H4 k4 w4 r4 => ?_
      subst r4
      cases u with
      | true =>
        refine SimR.bind (simE k w4 (h2.ke k4 w.mh)) fun G5 z vz H5 k5 w5 r5 => ?_
        refine SimR.bind (simE v w5 ((h2.ke k4 w.mh).ke k5 w.mh)) fun G6 z' vz' H6 k6 w6 r6 => ?_
        exact SimR.ok w6 (.inr ⟨_, _, _, _, rfl, rfl, r5.1.mono (k6.rep w.mh), r6.1⟩)
      | false => exact SimR.ok w4 (.inl ⟨rfl, rfl⟩)
    · obtain ⟨d, G', e, a, b, c⟩ := new_sim (al := true) w3 (.dct r3)
      exact ⟨d, G', e, a, b, c.low (Nat.le_trans k1.1 k3.1)⟩
theorem simEs : ∀ (e : List E) {M : Nat → Prop} {G : Store} {H : List V} {env : Env} {venv : VEnv}, Wd h M G H → EnvR b s0 h M G env venv → SimR h M G (Fw.evEs C e env G) (evEs Cv e venv H) (fun G' d v => Reps h M G' d v)
  | [], M, G, H, env, venv, w, q => by rw [Fw.evEs, evEs]; exact SimR.ok w .nil
  | e :: es, M, G, H, env, venv, w, q => by
    rw [Fw.evEs, evEs]
    refine SimR.bind (simE e w q) fun G1 x vx H1 k1 w1 r1 => ?_
    refine SimR.bind (simEs es w1 (q.ke k1 w.mh)) fun G2 y vy H2 k2 w2 r2 => ?_
    exact SimR.ok w2 (.cons (r1.1.mono (k2.rep w.mh)) r2)
theorem simWs : ∀ (e : List E) {M : Nat → Prop} {G : Store} {H : List V} {env : Env} {venv : VEnv}, Wd h M G H → EnvR b s0 h M G env venv → SimR h M G (Fw.evEs C e env G) (evWs Cv e venv H) (fun G' d v => RepsW h M G' d v)
  | [], M, G, H, env, venv, w, q => by rw [Fw.evEs, evWs]; exact SimR.ok w .nil
  | e :: es, M, G, H, env, venv, w, q => by
    rw [Fw.evEs, evWs]
    refine SimR.bind (wk_sim w q (simE e w q)) fun G1 x vx H1 k1 w1 r1 => ?_
    refine SimR.bind (simWs es w1 (q.ke k1 w.mh)) fun G2 y vy H2 k2 w2 r2 => ?_
    exact SimR.ok w2 (.cons (r1.ke k2 w.mh) r2)
theorem simO : ∀ (e : Option E) {M : Nat → Prop} {G : Store} {H : List V} {env : Env} {venv : VEnv}, Wd h M G H → EnvR b s0 h M G env venv → SimR h M G (Fw.evO C e env G) (evO Cv e venv H) (fun G' d v => d = v)
  | none, M, G, H, env, venv, w, q => by rw [Fw.evO, evO]; exact SimR.ok w rfl
  | some e, M, G, H, env, venv, w, q => by
    rw [Fw.evO, evO]
    refine SimR.bind (simE e w q) fun G1 x vx H1 k1 w1 r1 => ?_
    cases vx with
    | int i => cases (RepW.st r1.1).int; exact SimR.ok w1 rfl
    | _ => trivial
theorem simB : ∀ (e : B) {M : Nat → Prop} {G : Store} {H : List V} {env : Env} {venv : VEnv}, Wd h M G H → EnvR b s0 h M G env venv → SimR h M G (Fw.evB C e env G) (evB Cv e venv H) (fun G' d v => d = v)
  | .and a b, M, G, H, env, venv, w, q => by
    rw [Fw.evB, evB]
    refine SimR.bind (simB a w q) fun G1 x vx H1 k1 w1 r1 => ?_
    subst r1
    cases x with
    | true => exact simB b w1 (q.ke k1 w.mh)
    | false => exact SimR.ok w1 rfl
  | .or a b, M, G, H, env, venv, w, q => by
    rw [Fw.evB, evB]
    refine SimR.bind (simB a w q) fun G1 x vx H1 k1 w1 r1 => ?_
    subst r1
    cases x with
    | false => exact simB b w1 (q.ke k1 w.mh)
    | true => exact SimR.ok w1 rfl
  | .not a, M, G, H, env, venv, w, q => by
    rw [Fw.evB, evB]
    refine SimR.bind (simB a w q) fun G1 x vx H1 k1 w1 r1 => ?_
    subst r1
    exact SimR.ok w1 rfl
  | .val e, M, G, H, env, venv, w, q => by
    rw [Fw.evB, evB]
    refine SimR.bind (wk_sim w q (simE e w q)) fun G1 x vx H1 k1 w1 r1 => ?_
    refine SimR.of fun t et => ?_
    dsimp only
    rw [truth_sim r1 et]
    exact SimR.ok w1 rfl
theorem simBs : ∀ (e : List B) {M : Nat → Prop} {G : Store} {H : List V} {env : Env} {venv : VEnv}, Wd h M G H → EnvR b s0 h M G env venv → SimR h M G (Fw.evBs C e env G) (evBs Cv e venv H) (fun G' d v => d = v)
  | [], M, G, H, env, venv, w, q => by rw [Fw.evBs, evBs]; exact SimR.ok w rfl
  | e :: es, M, G, H, env, venv, w, q => by
    rw [Fw.evBs, evBs]
    refine SimR.bind (simB e w q) fun G1 x vx H1 k1 w1 r1 => ?_
    subst r1
    cases x with
    | true => exact simBs es w1 (q.ke k1 w.mh)
    | false => exact SimR.ok w1 rfl
theorem simI : ∀ (st : Bool) (e : I) {M : Nat → Prop} {G : Store} {H : List V} {env : Env} {venv : VEnv}, Wd h M G H → EnvR b s0 h M G env venv → SimR h M G (Fw.evI C e env G) (evI Cv st e venv H) (fun G' d v => Reps h M G' d.1 v ∧ ChkB st h M G' d.2.1 ∧ ChkB st h M G' d.2.2)
  | st, .pl e, M, G, H, env, venv, w, q => by
    rw [Fw.evI, evI]
    refine SimR.bind (wks_sim w q (simE e w q)) fun G1 x vx H1 k1 w1 r1 => ?_
    refine SimR.of fun l el => ?_
    obtain ⟨ds, c, e1, r2, r3⟩ := walk_sim w.mh r1.1 r1.2 el
    dsimp only
    rw [e1]
    exact SimR.ok w1 ⟨r2, r3, .inl rfl⟩
  | st, .r1 e, M, G, H, env, venv, w, q => by
    rw [Fw.evI, evI]
    refine SimR.bind (simE e w q) fun G1 x vx H1 k1 w1 r1 => ?_
    cases vx with
    | int i =>
      cases (RepW.st r1.1).int
      exact SimR.must id (SimR.ok w1 ⟨.range _ _, .inl rfl, .inl rfl⟩)
    | _ => trivial
  | st, .r2 a b, M, G, H, env, venv, w, q => by
    rw [Fw.evI, evI]
    refine SimR.bind (simE a w q) fun G1 x vx H1 k1 w1 r1 => ?_
    refine SimR.bind (simE b w1 (q.ke k1 w.mh)) fun G2 y vy H2 k2 w2 r2 => ?_
    cases vx with
    | int i =>
      cases vy with
      | int j =>
        cases (RepW.st r1.1).int
        cases (RepW.st r2.1).int
        exact SimR.must id (SimR.ok w2 ⟨.range _ _, .inl rfl, .inl rfl⟩)
      | _ => trivial
    | _ => trivial
  | st, .en e, M, G, H, env, venv, w, q => by
    rw [Fw.evI, evI]
    refine SimR.bind (wks_sim w q (simE e w q)) fun G1 x vx H1 k1 w1 r1 => ?_
    refine SimR.of fun l el => ?_
    obtain ⟨ds, c, e1, r2, r3⟩ := walk_sim w.mh r1.1 r1.2 el
    dsimp only
    rw [e1]
    exact SimR.ok w1 ⟨r2.enum 0, r3, .inl rfl⟩
  | st, .zp a b, M, G, H, env, venv, w, q => by
    rw [Fw.evI, evI]
    refine SimR.bind (wks_sim w q (simE a w q)) fun G1 x vx H1 k1 w1 r1 => ?_
    refine SimR.bind (wks_sim w1 (q.ke k1 w.mh) (simE b w1 (q.ke k1 w.mh))) fun G2 y vy H2 k2 w2 r2 => ?_
    refine SimR.of fun l el => ?_
    refine SimR.of fun m em => ?_
    obtain ⟨ds, c, e1, r3, r4⟩ := walk_sim w.mh (r1.1.ke k2 w.mh) (fun s => (r1.2 s).mono (k2.rep w.mh)) el
    obtain ⟨es, c', e2, r5, r6⟩ := walk_sim w.mh r2.1 r2.2 em
    dsimp only
    rw [e1, e2]
    exact SimR.ok w2 ⟨r3.zipD r5, r4, r6⟩
  | st, .its e, M, G, H, env, venv, w, q => by
    rw [Fw.evI, evI]
    refine SimR.bind (wks_sim w q (simE e w q)) fun G1 x vx H1 k1 w1 r1 => ?_
    cases vx with
    | dct kvs =>
      obtain ⟨n, ds, rfl, e1, r2, r3⟩ := dctw w.mh r1.1 r1.2
      refine SimR.of fun ks ek => ?_
      dsimp only
      rw [e1]
      exact SimR.ok w1 ⟨items_sim r2 ek, r3, .inl rfl⟩
    | _ => trivial
  | st, .vls e, M, G, H, env, venv, w, q => by
    rw [Fw.evI, evI]
    refine SimR.bind (wks_sim w q (simE e w q)) fun G1 x vx H1 k1 w1 r1 => ?_
    cases vx with
    | dct kvs =>
      obtain ⟨n, ds, rfl, e1, r2, r3⟩ := dctw w.mh r1.1 r1.2
      dsimp only
      rw [e1]
      exact SimR.ok w1 ⟨r2.vals, r3, .inl rfl⟩
    | _ => trivial
end
end
end Vl

/-! Vl6: what is done with values is done in the store: steps that change. -/
namespace Vl
open Fw
open PySem (Str PyData NestedKey)
variable {α β γ δ : Type} {h b s0 : Nat} {M M' : Nat → Prop} {G G' : Store} {H : List V} {env : Env} {venv : VEnv}
structure Stp (b h : Nat) (M : Nat → Prop) (G : Store) (M' : Nat → Prop) (G' : Store) : Prop where
  len : G.length ≤ G'.length
  frz : ∀ n o, ¬ M n → G[n]? = some o → ¬ M' n ∧ G'[n]? = some o
  lom : ∀ n, n < b → M n → M' n
  low : ∀ n o, n < b → n ≠ h → G[n]? = some o → G'[n]? = some o
theorem Stp.refl : Stp b h M G M G := ⟨Nat.le_refl _, fun _ _ a e => ⟨a, e⟩, fun _ _ a => a, fun _ _ _ _ e => e⟩
theorem Stp.trans {M'' : Nat → Prop} {G'' : Store} (a : Stp b h M G M' G') (c : Stp b h M' G' M'' G'') : Stp b h M G M'' G'' :=
  ⟨Nat.le_trans a.len c.len, fun n o x e => c.frz n o (a.frz n o x e).1 (a.frz n o x e).2, fun n l x => c.lom n l (a.lom n l x), fun n o l x e => c.low n o l x (a.low n o l x e)⟩
theorem Ke.stp (k : Ke h G G') (mh : M h) : Stp b h M G M G' := ⟨k.1, k.rep mh, fun _ _ a => a, fun n o _ x e => k.2 n o x e⟩
def SimT (b h : Nat) (M : Nat → Prop) (G : Store) (P : Res α) (s : Rv β) (R : (Nat → Prop) → Store → α → β → Prop) : Prop := match s with
  | .ok y => ∃ x G' M', P = .ok x ∧ Stp b h M G M' G' ∧ R M' G' x y
  | .err c vs H' => ∃ ds G' M', P = .err c ds G' ∧ Stp b h M G M' G' ∧ Wd h M' G' H' ∧ Reps h M' G' ds vs
  | .stuck => True
theorem SimT.pre {P : Res α} {s : Rv β} {R : (Nat → Prop) → Store → α → β → Prop} (k : Stp b h M G M' G') (a : SimT b h M' G' P s R) : SimT b h M G P s R := by
  cases s with
  | stuck => trivial
  | err c vs H' =>
    obtain ⟨ds, G1, M1, e, a2, a3⟩ := a
    exact ⟨ds, G1, M1, e, k.trans a2, a3⟩
  | ok y =>
    obtain ⟨x, G1, M1, e, a2, a3⟩ := a
    exact ⟨x, G1, M1, e, k.trans a2, a3⟩
theorem SimT.bind {P : Res α} {s : Rv β} {R : (Nat → Prop) → Store → α → β → Prop} {f : α → Res γ} {g : β → Rv δ} {R' : (Nat → Prop) → Store → γ → δ → Prop}
    (a : SimT b h M G P s R) (k : ∀ M' G' x y, Stp b h M G M' G' → R M' G' x y → SimT b h M' G' (f x) (g y) R') : SimT b h M G (P.bind f) (s.bind g) R' := by
  cases s with
  | stuck => trivial
  | err c vs H' =>
    obtain ⟨ds, G1, M1, rfl, a2, a3⟩ := a
    exact ⟨ds, G1, M1, rfl, a2, a3⟩
  | ok y =>
    obtain ⟨x, G1, M1, rfl, a2, a3⟩ := a
    exact (k M1 G1 x y a2 a3).pre a2
theorem SimR.bindT {P : Res (α × Store)} {s : Rv (β × List V)} {R : Store → α → β → Prop} {f : α × Store → Res γ} {g : β × List V → Rv δ} {R' : (Nat → Prop) → Store → γ → δ → Prop}
    (w : Wd h M G H) (a : SimR h M G P s R) (k : ∀ G' x y H', Ke h G G' → Wd h M G' H' → R G' x y → SimT b h M G' (f (x, G')) (g (y, H')) R') : SimT b h M G (P.bind f) (s.bind g) R' := by
  cases s with
  | stuck => trivial
  | err c vs H' =>
    obtain ⟨ds, G', rfl, a2, a3, a4⟩ := a
    exact ⟨ds, G', M, rfl, a2.stp w.mh, a3, a4⟩
  | ok x =>
    obtain ⟨y, H'⟩ := x
    obtain ⟨x, G', rfl, a2, a3, a4⟩ := a
    exact (k G' x y H' a2 a3 a4).pre (a2.stp w.mh)
theorem SimT.of {o : Option γ} {f : γ → Rv β} {P : Res α} {R : (Nat → Prop) → Store → α → β → Prop} (k : ∀ v, o = some v → SimT b h M G P (f v) R) : SimT b h M G P ((Rv.of o).bind f) R := by
  cases o with
  | none => trivial
  | some v => exact k v rfl
theorem SimT.must {P : Res α} {s : Rv β} {R : (Nat → Prop) → Store → α → β → Prop} {c c' : Bool} (e : c' = true → c = true) (a : SimT b h M G P s R) : SimT b h M G (must c P) (mustV c' s) R := by
  cases c' with
  | false => trivial
  | true => rw [e rfl]; exact a
theorem SimT.ok {R : (Nat → Prop) → Store → α → β → Prop} {x : α} {y : β} (r : R M G x y) : SimT b h M G (.ok x) (.ok y) R := ⟨x, G, M, rfl, .refl, r⟩
/-! ### names give their things away -/
theorem frz1_get : ∀ (i : Nat) (env : VEnv) (j : Nat), (frz1 i env)[j]? = if i = j then (match env[j]? with
    | some (some (Sl.own _ v)) => some (some (Sl.val v))
    | x => x) else env[j]?
  | i, [], j => by
    rw [show frz1 i ([] : VEnv) = [] from by cases i <;> rfl]
    simp
  | 0, x :: r, 0 => by
    cases x with
    | none => rfl
    | some s => cases s <;> rfl
  | 0, x :: r, j + 1 => by
    rw [if_neg (by omega)]
    cases x with
    | none => rfl
    | some s => cases s <;> rfl
  | i + 1, x :: r, 0 => by rw [if_neg (by omega), frz1]; rfl
  | i + 1, x :: r, j + 1 => by
    have := frz1_get i r j
    rw [frz1, List.getElem?_cons_succ, List.getElem?_cons_succ]
    by_cases q : i = j
    · subst q
      rw [if_pos rfl] at this ⊢
      exact this
    · rw [if_neg q] at this
      rw [if_neg (by omega)]
      exact this
theorem frz1_len : ∀ (i : Nat) (env : VEnv), (frz1 i env).length = env.length
  | i, [] => by cases i <;> rfl
  | 0, x :: r => by
    cases x with
    | none => rfl
    | some s => cases s <;> rfl
  | i + 1, x :: r => by rw [frz1, List.length_cons, frz1_len i r, List.length_cons]
theorem frz1_sim (i : Nat) (w : Wd h M G H) (e : EnvR b s0 h M G env venv) : ∃ M', Stp b h M G M' G ∧ Wd h M' G H ∧ EnvR b s0 h M' G env (frz1 i venv) := by
  by_cases q : ∃ s v, venv[i]? = some (some (Sl.own s v))
  · obtain ⟨s, v, q⟩ := q
    obtain ⟨n, o, a1, a2, a3, a4, a5, a6, a7⟩ := e.own i s v q
    have mono : ∀ n' o, ¬ M n' → G[n']? = some o → ¬ (M n' ∧ n' ≠ n) ∧ G[n']? = some o := fun n' o x y => ⟨fun z => x z.1, y⟩
    refine ⟨fun m => M m ∧ m ≠ n, ⟨Nat.le_refl _, mono, fun n' l x => ⟨x, by omega⟩, fun _ _ _ _ x => x⟩, ⟨⟨w.mh, fun x => a3 x.symm⟩, fun n' x => w.lt n' x.1, let ⟨ds, x, y⟩ := w.hd; ⟨ds, x, y.mono mono⟩⟩, ?_⟩
    refine ⟨e.hb, by rw [frz1_len]; exact e.len, fun j u z => ?_, fun j t u z => ?_, fun j j' t t' u u' m z z' x x' => ?_⟩
    · rw [frz1_get] at z
      split at z
      · rename_i ij
        subst ij
        rw [q] at z
        cases z
        exact ⟨_, a1, .obj (fun x => x.2 rfl) a5 (a6.mono mono)⟩
      · obtain ⟨d, x, y⟩ := e.val j u z
        exact ⟨d, x, y.mono mono⟩
    · rw [frz1_get] at z
      split at z
      · rename_i ij
        subst ij
        rw [q] at z
        cases z
      · rename_i ij
        obtain ⟨n', o', b1, b2, b3, b4, b5, b6, b7⟩ := e.own j t u z
        exact ⟨n', o', b1, ⟨b2, fun x => ij (e.inj _ _ _ _ _ _ n q z a1 (x ▸ b1))⟩, b3, b4, b5, b6.mono mono, b7⟩
    · rw [frz1_get] at z z'
      split at z
      · rename_i ij
        subst ij
        rw [q] at z
        cases z
      · split at z'
        · rename_i ij
          subst ij
          rw [q] at z'
          cases z'
        · exact e.inj _ _ _ _ _ _ m z z' x x'
  · have same : ∀ j, (frz1 i venv)[j]? = venv[j]? := fun j => by
      rw [frz1_get]
      split
      · rename_i ij
        subst ij
        split
        · rename_i s v z; exact (q ⟨_, _, z⟩).elim
        · rfl
      · rfl
    have : frz1 i venv = venv := List.ext_getElem? same
    rw [this]
    exact ⟨M, .refl, w, e⟩
theorem frz_sim : ∀ (is : List Nat) {M : Nat → Prop} {venv : VEnv}, Wd h M G H → EnvR b s0 h M G env venv → ∃ M', Stp b h M G M' G ∧ Wd h M' G H ∧ EnvR b s0 h M' G env (frz is venv)
  | [], M, _, w, e => ⟨M, .refl, w, e⟩
  | i :: is, M, _, w, e => by
    obtain ⟨M1, a1, a2, a3⟩ := frz1_sim i w e
    obtain ⟨M2, b1, b2, b3⟩ := frz_sim is a2 a3
    exact ⟨M2, a1.trans b1, b2, b3⟩
/-! ### names get things -/
theorem EnvR.set_own {n : Nat} {o : O} {v : V} (e : EnvR b s0 h M G env venv) (i : Nat) (fr : ∀ (j : Nat) (s : Bool) (u : V), venv[j]? = some (some (Sl.own s u)) → env[j]? ≠ some (some (D.ref n))) (m : M n) (nh : n ≠ h) (bn : b ≤ n) (g : G[n]? = some o) (c : Cnt h M G o v) : EnvR b s0 h M G (env.set i (some (.ref n))) (venv.set i (some (.own false v))) := by
  refine ⟨e.hb, by rw [List.length_set, List.length_set, e.len], fun j u q => ?_, fun j s u q => ?_, fun j j' s s' u u' n' q q' x x' => ?_⟩
  · rcases set_eq q with ⟨rfl, h1, h2⟩ | ⟨h1, h2⟩
    · cases h1
    · obtain ⟨d', a, c⟩ := e.val j u h2
      exact ⟨d', by rw [List.getElem?_set_ne h1]; exact a, c⟩
  · rcases set_eq q with ⟨rfl, h1, h2⟩ | ⟨h1, h2⟩
    · cases h1
      exact ⟨n, o, by rw [List.getElem?_set_self (by rw [e.len]; exact h2)], m, nh, bn, g, c, fun x => by cases x⟩
    · obtain ⟨n', o', a⟩ := e.own j s u h2
      exact ⟨n', o', by rw [List.getElem?_set_ne h1]; exact a⟩
  · rcases set_eq q with ⟨rfl, h1, h2⟩ | ⟨h1, h2⟩
    · rw [List.getElem?_set_self (by rw [e.len]; exact h2)] at x
      cases x
      rcases set_eq q' with ⟨rfl, h3, h4⟩ | ⟨h3, h4⟩
      · rfl
      · rw [List.getElem?_set_ne h3] at x'
        exact (fr _ _ _ h4 x').elim
    · rw [List.getElem?_set_ne h1] at x
      rcases set_eq q' with ⟨rfl, h3, h4⟩ | ⟨h3, h4⟩
      · rw [List.getElem?_set_self (by rw [e.len]; exact h4)] at x'
        cases x'
        exact (fr _ _ _ h2 x).elim
      · rw [List.getElem?_set_ne h3] at x'
        exact e.inj _ _ _ _ _ _ _ h2 h4 x x'
/-- a value, or a thing that only this name will know -/
inductive RS (h lo : Nat) (M : Nat → Prop) (G : Store) : D → Sl → Prop
  | val {d : D} {v : V} : Rep h M G d v → RS h lo M G d (.val v)
  | own {n : Nat} {o : O} {v : V} : lo ≤ n → M n → n ≠ h → G[n]? = some o → Cnt h M G o v → RS h lo M G (.ref n) (.own false v)
inductive RSs (h : Nat) (M : Nat → Prop) (G : Store) : Nat → List D → List Sl → Prop
  | nil {lo : Nat} : RSs h M G lo [] []
  | val {lo : Nat} {d : D} {v : V} {ds : List D} {vs : List Sl} : Rep h M G d v → RSs h M G lo ds vs → RSs h M G lo (d :: ds) (.val v :: vs)
  | own {lo n : Nat} {o : O} {v : V} {ds : List D} {vs : List Sl} : lo ≤ n → M n → n ≠ h → G[n]? = some o → Cnt h M G o v → RSs h M G (n + 1) ds vs → RSs h M G lo (.ref n :: ds) (.own false v :: vs)
theorem RSs.low : ∀ {lo lo' : Nat} {ds vs}, lo' ≤ lo → RSs h M G lo ds vs → RSs h M G lo' ds vs
  | _, _, _, _, l, .nil => .nil
  | _, _, _, _, l, .val a b => .val a (b.low l)
  | _, _, _, _, l, .own a1 a2 a3 a4 a5 a6 => .own (by omega) a2 a3 a4 a5 a6
theorem EnvR.up (e : EnvR b s0 h M G env venv) (mm : ∀ n, M n → M' n) (f : ∀ n o, ¬ M n → G[n]? = some o → ¬ M' n ∧ G'[n]? = some o) (g : ∀ n o, M n → n ≠ h → G[n]? = some o → G'[n]? = some o) (l : G.length ≤ G'.length) : EnvR b s0 h M' G' env venv := by
  refine ⟨Nat.le_trans e.hb l, e.len, fun i v q => ?_, fun i s v q => ?_, e.inj⟩
  · obtain ⟨d, a, c⟩ := e.val i v q
    exact ⟨d, a, c.mono f⟩
  · obtain ⟨n, o, a1, a2, a3, a4, a5, a6, a7⟩ := e.own i s v q
    exact ⟨n, o, a1, mm n a2, a3, a4, g n o a2 a3 a5, a6.mono f, a7⟩
theorem Wd.up (w : Wd h M G H) (mm : ∀ n, M n → M' n) (lt : ∀ n, M' n → n < G.length) (f : ∀ n o, ¬ M n → G[n]? = some o → ¬ M' n ∧ G[n]? = some o) : Wd h M' G H :=
  ⟨mm h w.mh, lt, let ⟨ds, x, y⟩ := w.hd; ⟨ds, x, y.mono f⟩⟩
/-- a new thing is put aside for a name -/
theorem take_own {G0 : Store} {n : Nat} {o : O} {v : V} (w0 : Wd h M G0 H) {H' : List V} (k : Ke h G0 G) (w : Wd h M G H') (hb : b ≤ G0.length) (l : G0.length ≤ n) (g : G[n]? = some o) : Stp b h M G0 (fun m => M m ∨ m = n) G ∧ (∀ n' o, n' < n → ¬ M n' → G[n']? = some o → ¬ (M n' ∨ n' = n) ∧ G[n']? = some o) := by
  refine ⟨⟨k.1, fun n' o' x y => ?_, fun n' _ x => .inl x, fun n' o' _ x y => k.2 n' o' x y⟩, fun n' o' l' x y => ⟨fun z => ?_, y⟩⟩
  · have := (List.getElem?_eq_some_iff.1 y).1
    refine ⟨fun z => ?_, (k.rep w0.mh n' o' x y).2⟩
    rcases z with z | z
    · exact x z
    · omega
  · rcases z with z | z
    · exact x z
    · omega
theorem as_sim {C : Ctx} {Cv : VCtx} (c : CR h C Cv) : ∀ (es : List E) {M : Nat → Prop} {G : Store} {H : List V}, Wd h M G H → EnvR b s0 h M G env venv →
    SimT b h M G (Fw.evEs C es env G) (evAs Cv es venv H) (fun M' G' x y => x.2 = G' ∧ Wd h M' G' y.2 ∧ EnvR b s0 h M' G' env venv ∧ (∀ n, M n → M' n) ∧ (∀ n o, M n → n ≠ h → G[n]? = some o → G'[n]? = some o) ∧ RSs h M' G' G.length x.1 y.1)
  | [], M, G, H, w, q => by
    rw [Fw.evEs, evAs]
    exact SimT.ok ⟨rfl, w, q, fun _ x => x, fun _ _ _ _ x => x, .nil⟩
  | e :: es, M, G, H, w, q => by
    rw [Fw.evEs, evAs]
    have key := simE c e w q
    cases ev : evE Cv e venv H with
    | stuck => trivial
    | err c vs H' =>
      rw [ev] at key
      obtain ⟨ds, G1, e1, k1, w1, r1⟩ := key
      rw [e1]
      exact ⟨ds, G1, M, rfl, k1.stp w.mh, w1, r1⟩
    | ok y =>
      obtain ⟨v, H1⟩ := y
      rw [ev] at key
      obtain ⟨d, G1, e1, k1, w1, r1⟩ := key
      rw [e1]
      show SimT b h M G ((Fw.evEs C es env G1).bind _) ((evAs Cv es venv H1).bind _) _
      by_cases al : (isAlloc e && isObj v) = true
      · rw [Bool.and_eq_true] at al
        obtain ⟨n, o, rfl, l, g, cn, hf⟩ := r1.2 al.1 al.2
        obtain ⟨st, fz⟩ := take_own (b := b) (v := v) w k1 w1 q.hb l g
        have nM : ¬ M n := fun x => by have := w.lt n x; omega
        have hb := q.hb
        have old : ∀ n' o, ¬ M n' → G[n']? = some o → ¬ (M n' ∨ n' = n) ∧ G1[n']? = some o := st.frz
        have ls : n < G1.length := (List.getElem?_eq_some_iff.1 g).1
        have q1 : EnvR b s0 h (fun m => M m ∨ m = n) G1 env venv := q.up (fun _ x => .inl x) old (fun n' o _ x y => k1.2 n' o x y) k1.1
        have w2 : Wd h (fun m => M m ∨ m = n) G1 H1 := by
          refine ⟨.inl w.mh, fun n' x => by rcases x with x | x; exact w1.lt n' x; omega, ?_⟩
          obtain ⟨ds, Hx, x1, x2⟩ := hf
          obtain ⟨ds', y1, y2⟩ := w1.hd
          rw [x1] at y1
          cases y1
          have := Reps.uniq (M := fun m => M m ∨ m = n) (.inl w.mh) w.mh x2 y2
          subst this
          exact ⟨ds, x1, x2⟩
        refine SimT.pre st (SimT.bind (as_sim c es w2 q1) fun M2 G2 x y st2 r2 => ?_)
        obtain ⟨r3, r4, r5, r6, r7, r8⟩ := r2
        refine SimT.ok ⟨r3, r4, r5, fun n' x => r6 n' (.inl x), fun n' o' x nh y => r7 n' o' (.inl x) nh (k1.2 n' o' nh y), ?_⟩
        have e5 : slot_of (isAlloc e) v = .own false v := by unfold slot_of; rw [if_pos (by rw [al.1, al.2]; rfl)]
        show RSs h M2 G2 G.length (D.ref n :: _) (slot_of (isAlloc e) v :: _)
        rw [e5]
        have nh : n ≠ h := fun x => nM (x ▸ w.mh)
        exact .own l (r6 n (.inr rfl)) nh (r7 n o (.inr rfl) nh g) (cn.mono fun n' o' x y => st2.frz n' o' x y) (r8.low (by omega))
      · have e5 : slot_of (isAlloc e) v = .val v := by unfold slot_of; rw [if_neg al]
        refine SimT.pre (k1.stp w.mh) (SimT.bind (as_sim c es w1 (q.ke k1 w.mh)) fun M2 G2 x y st2 r2 => ?_)
        obtain ⟨r3, r4, r5, r6, r7, r8⟩ := r2
        refine SimT.ok ⟨r3, r4, r5, r6, fun n' o' x nh y => r7 n' o' x nh (k1.2 n' o' nh y), ?_⟩
        show RSs h M2 G2 G.length (d :: _) (slot_of (isAlloc e) v :: _)
        rw [e5]
        exact .val (r1.1.mono st2.frz) (r8.low k1.1)
end Vl

/-! Vl7: what is done with values is done in the store: statements. -/
namespace Vl
open Fw
open PySem (Str PyData NestedKey)
variable {α β γ δ : Type} {h b s0 : Nat} {M M' : Nat → Prop} {G G' : Store} {H : List V} {env : Env} {venv : VEnv}
/-- a thing of one's own is changed -/
theorem upd_sim {i n : Nat} {s : Bool} {v v' : V} {o' : O} (w : Wd h M G H) (q : EnvR b s0 h M G env venv) (e : venv[i]? = some (some (Sl.own s v))) (en : env[i]? = some (some (D.ref n))) (c : Cnt h M G o' v') :
    Stp b h M G M (G.set n o') ∧ Wd h M (G.set n o') H ∧ EnvR b s0 h M (G.set n o') env (venv.set i (some (.own s v'))) := by
  obtain ⟨n', o, a1, a2, a3, a4, a5, a6, a7⟩ := q.own i s v e
  rw [en] at a1
  cases a1
  have mono : ∀ m p, ¬ M m → G[m]? = some p → ¬ M m ∧ (G.set n o')[m]? = some p := fun m p x y => ⟨x, by rw [List.getElem?_set_ne (fun z => by subst z; exact x a2)]; exact y⟩
  refine ⟨⟨by rw [List.length_set]; omega, mono, fun _ _ x => x, fun m p l x y => by rw [List.getElem?_set_ne (by omega)]; exact y⟩, ⟨w.mh, fun m x => by rw [List.length_set]; exact w.lt m x, ?_⟩, ?_⟩
  · obtain ⟨ds, x, y⟩ := w.hd
    exact ⟨ds, by rw [List.getElem?_set_ne a3]; exact x, y.mono mono⟩
  · refine ⟨by rw [List.length_set]; exact q.hb, by rw [List.length_set]; exact q.len, fun j u z => ?_, fun j t u z => ?_, fun j j' t t' u u' m z z' x x' => ?_⟩
    · rcases set_eq z with ⟨rfl, h1, h2⟩ | ⟨h1, h2⟩
      · cases h1
      · obtain ⟨d, x, y⟩ := q.val j u h2
        exact ⟨d, x, y.mono mono⟩
    · rcases set_eq z with ⟨rfl, h1, h2⟩ | ⟨h1, h2⟩
      · cases h1
        exact ⟨n, o', en, a2, a3, a4, by rw [List.getElem?_set_self (w.lt n a2)], c.mono mono, a7⟩
      · obtain ⟨m, p, b1, b2, b3, b4, b5, b6, b7⟩ := q.own j t u h2
        have ne : n ≠ m := fun x => h1 (q.inj _ _ _ _ _ _ n e h2 en (x ▸ b1))
        exact ⟨m, p, b1, b2, b3, b4, by rw [List.getElem?_set_ne ne]; exact b5, b6.mono mono, b7⟩
    · rcases set_eq z with ⟨rfl, h1, h2⟩ | ⟨h1, h2⟩
      · rcases set_eq z' with ⟨rfl, h3, h4⟩ | ⟨h3, h4⟩
        · rfl
        · exact q.inj _ _ _ _ _ _ m e h4 x x'
      · rcases set_eq z' with ⟨rfl, h3, h4⟩ | ⟨h3, h4⟩
        · exact q.inj _ _ _ _ _ _ m h2 e x x'
        · exact q.inj _ _ _ _ _ _ m h2 h4 x x'
inductive FlR (h : Nat) (M : Nat → Prop) (G : Store) : Flow → FlowV → Prop
  | next : FlR h M G .next .next
  | brk : FlR h M G .brk .brk
  | cont : FlR h M G .cont .cont
  | ret {d : D} {v : V} : Rep h M G d v → FlR h M G (.ret d) (.ret v)
/-- the end of a statement -/
def SR (b s0 h : Nat) (M' : Nat → Prop) (G' : Store) (x : Flow × Env × Store) (y : FlowV × VEnv × List V) : Prop := x.2.2 = G' ∧ Wd h M' G' y.2.2 ∧ EnvR b s0 h M' G' x.2.1 y.2.1 ∧ FlR h M' G' x.1 y.1
def PR (b s0 h : Nat) (env : Env) (M' : Nat → Prop) (G' : Store) (x : D × Store) (y : V × VEnv × List V) : Prop := x.2 = G' ∧ Wd h M' G' y.2.2 ∧ EnvR b s0 h M' G' env y.2.1 ∧ Rep h M' G' x.1 y.1
theorem own_of {i : Nat} {l : List V} (e : ownL venv i = some l) : venv[i]? = some (some (Sl.own false (.lst l))) := by
  unfold ownL at e
  split at e
  · rename_i k q; cases e; exact q
  · cases e
theorem EnvR.ownL {i : Nat} {l : List V} (q : EnvR b s0 h M G env venv) (e : ownL venv i = some l) : ∃ n ds, env[i]? = some (some (D.ref n)) ∧ getV env i = (fun G => .ok (.ref n, G)) ∧ M n ∧ n ≠ h ∧ G[n]? = some (.lst ds false) ∧ Reps h M G ds l := by
  obtain ⟨n, o, a1, a2, a3, a4, a5, a6, a7⟩ := q.own i _ _ (own_of e)
  cases a6 with
  | lst r => exact ⟨n, _, a1, by funext G; unfold getV; rw [a1], a2, a3, a5, r⟩
section
variable {C : Ctx} {Cv : VCtx} (c : CR h C Cv)
include c
theorem simP (e : E) (w : Wd h M G H) (q : EnvR b s0 h M G env venv) : SimT b h M G (Fw.evE C e env G) (evP Cv e venv H) (PR b s0 h env) := by
  unfold evP
  split
  · rename_i i as
    obtain ⟨M1, st, w1, q1⟩ := frz_sim (escEs as) w q
    refine SimT.pre st (SimT.of fun l el => ?_)
    obtain ⟨n, ds, a1, a2, a3, a4, a5, a6⟩ := q1.ownL el
    have hk : kindOf G (.ref n) = some .lst := by unfold kindOf; dsimp only; rw [a5]
    rw [Fw.evE, Fw.evE, a2]
    show SimT b h M1 G (match kindOf G (.ref n) with
      | some kd => must (msup kd .pop) ((Fw.evEs C as env G).bind fun y => mthS kd .pop (.ref n) y.1 y.2)
      | none => .stuck) _ _
    rw [hk]
    show SimT b h M1 G (Res.bind _ _) _ _
    refine (simEs c as w1 q1).bindT w1 fun G2 x vx H2 k2 w2 r2 => ?_
    refine SimT.of fun p ep => ?_
    have q2 := q1.ke k2 w1.mh
    have a5' := k2.2 _ _ a4 a5
    have a6' := a6.mono (k2.rep w1.mh)
    have fin : ∀ {d : D} {v : V} {ds' : List D} {l' : List V}, Rep h M1 G2 d v → Reps h M1 G2 ds' l' → SimT b h M1 G2 (Res.ok (d, G2.set n (.lst ds' false))) (Rv.ok (v, (frz (escEs as) venv).set i (some (.own false (.lst l'))), H2)) (PR b s0 h env) := by
      intro d v ds' l' r r'
      obtain ⟨u1, u2, u3⟩ := upd_sim w2 q2 (own_of el) a1 (.lst r')
      exact SimT.pre u1 (SimT.ok ⟨rfl, u2, u3, r.mono u1.frz⟩)
    dsimp only
    unfold mthS
    dsimp only
    rw [a5']
    dsimp only
    cases r2 with
    | nil =>
      unfold popV at ep
      obtain ⟨v, e1, e2⟩ := Option.map_eq_some_iff.mp ep
      rw [← a6'.length] at e1
      obtain ⟨d, e3, e4⟩ := a6'.get e1
      subst e2
      show SimT b h M1 G2 (must true (Res.of (ds[ds.length - 1]?.map fun d => (d, G2.set n (.lst ds.dropLast false))))) _ _
      rw [e3]
      exact fin e4 a6'.dropLast
    | cons r2 r3 =>
      rename_i v0 _ vs0
      cases r3 with
      | cons _ _ => cases v0 <;> simp [popV] at ep
      | nil =>
        cases v0 with
        | int i' =>
          cases (RepW.st r2).int
          unfold popV at ep
          obtain ⟨cc, ep⟩ := wh_some ep
          obtain ⟨j, e0, e1⟩ := Option.bind_eq_some_iff.mp ep
          obtain ⟨v, e1', e2⟩ := Option.map_eq_some_iff.mp e1
          obtain ⟨d, e3, e4⟩ := a6'.get e1'
          subst e2
          rw [Bool.and_eq_true] at cc
          show SimT b h M1 G2 (must (!false && decide (-(2 ^ 63) ≤ i') && decide (i' < 2 ^ 63)) (Res.of ((ixN ds.length i').bind fun j => ds[j]?.map fun d => (d, G2.set n (.lst (ds.eraseIdx j) false))))) _ _
          rw [cc.1, cc.2, a6'.length, e0]
          show SimT b h M1 G2 (Res.of (ds[j]?.map fun d => (d, G2.set n (.lst (ds.eraseIdx j) false)))) _ _
          rw [e3]
          exact fin e4 (a6'.eraseIdx j)
        | _ => simp [popV] at ep
  · obtain ⟨M1, st, w1, q1⟩ := frz_sim (escE e) w q
    refine SimT.pre st ?_
    have key := simE c e w1 q1
    revert key
    cases evE Cv e (frz (escE e) venv) H with
    | stuck => exact fun _ => trivial
    | err c' vs H' =>
      rintro ⟨ds, G2, e1, k1, w2, r2⟩
      exact ⟨ds, G2, M1, e1, k1.stp w1.mh, w2, r2⟩
    | ok y =>
      rintro ⟨d, G2, e1, k1, w2, r2⟩
      exact ⟨(d, G2), G2, M1, e1, k1.stp w1.mh, rfl, w2, q1.ke k1 w1.mh, r2.1⟩
theorem simA1 (i : Nat) (e : E) (w : Wd h M G H) (q : EnvR b s0 h M G env venv) : SimT b h M G ((Fw.evE C e env G).bind fun x => Res.of ((asgT (.slot i) x.1 env).map fun e2 => (Flow.next, e2, x.2))) ((evE Cv e (frz (escE e) venv) H).bind fun x => .ok (FlowV.next, (frz (escE e) venv).set i (some (slot_of (isAlloc e) x.1)), x.2)) (SR b s0 h) := by
  obtain ⟨M1, st, w1, q1⟩ := frz_sim (escE e) w q
  refine SimT.pre st ?_
  have key := simE c e w1 q1
  cases ev : evE Cv e (frz (escE e) venv) H with
  | stuck => trivial
  | err c' vs H' =>
    rw [ev] at key
    obtain ⟨ds, G2, e1, k1, w2, r2⟩ := key
    rw [e1]
    exact ⟨ds, G2, M1, rfl, k1.stp w1.mh, w2, r2⟩
  | ok y =>
    obtain ⟨v, H2⟩ := y
    rw [ev] at key
    obtain ⟨d, G2, e1, k1, w2, r2⟩ := key
    rw [e1]
    show SimT b h M1 G (Res.of ((asgT (.slot i) d env).map fun e2 => (Flow.next, e2, G2))) _ _
    rw [asgT]
    by_cases al : (isAlloc e && isObj v) = true
    · rw [Bool.and_eq_true] at al
      obtain ⟨n, o, rfl, l, g, cn, ds, Hx, x1, x2⟩ := r2.2 al.1 al.2
      obtain ⟨st, fz⟩ := take_own (b := b) (v := v) w1 k1 w2 q1.hb l g
      have nM : ¬ M1 n := fun x => by have := w1.lt n x; omega
      have ls : n < G2.length := (List.getElem?_eq_some_iff.1 g).1
      have hb := q1.hb
      have q2 : EnvR b s0 h (fun m => M1 m ∨ m = n) G2 env (frz (escE e) venv) := q1.up (fun _ x => .inl x) st.frz (fun n' o _ x y => k1.2 n' o x y) k1.1
      have w3 : Wd h (fun m => M1 m ∨ m = n) G2 H2 := by
        refine ⟨.inl w1.mh, fun n' x => by rcases x with x | x; exact w2.lt n' x; omega, ?_⟩
        obtain ⟨ds', y1, y2⟩ := w2.hd
        rw [x1] at y1
        cases y1
        have := Reps.uniq (M := fun m => M1 m ∨ m = n) (.inl w1.mh) w1.mh x2 y2
        subst this
        exact ⟨ds, x1, x2⟩
      have e5 : slot_of (isAlloc e) v = .own false v := by unfold slot_of; rw [if_pos (by rw [al.1, al.2]; rfl)]
      refine SimT.pre st (SimT.ok ⟨rfl, w3, ?_, .next⟩)
      show EnvR b s0 h _ G2 (env.set i (some (D.ref n))) ((frz (escE e) venv).set i (some (slot_of (isAlloc e) v)))
      rw [e5]
      refine q2.set_own i (fun j s u z x => ?_) (.inr rfl) (fun x => nM (x ▸ w1.mh)) (by omega) g cn
      obtain ⟨n', o', b1, b2, b3⟩ := q1.own j s u z
      rw [x] at b1
      cases b1
      exact nM b2
    · have e5 : slot_of (isAlloc e) v = .val v := by unfold slot_of; rw [if_neg al]
      refine SimT.pre (k1.stp w1.mh) (SimT.ok ⟨rfl, w2, ?_, .next⟩)
      show EnvR b s0 h M1 G2 (env.set i (some d)) ((frz (escE e) venv).set i (some (slot_of (isAlloc e) v)))
      rw [e5]
      exact (q1.ke k1 w1.mh).set_val i r2.1
omit c in
theorem setAll_sim : ∀ {ts : List T} {is : List Nat} {lo : Nat} {ds : List D} {sls : List Sl} {env : Env} {venv : VEnv}, slotsOf ts = some is → is.length = ds.length → RSs h M G lo ds sls → EnvR b s0 h M G env venv → b ≤ lo → (∀ (j : Nat) (s : Bool) (u : V) (n : Nat), venv[j]? = some (some (Sl.own s u)) → env[j]? = some (some (D.ref n)) → n < lo) →
    ∃ e2, asgTs ts ds env = some e2 ∧ EnvR b s0 h M G e2 (setAll is sls venv)
  | [], _, _, _, _, env, venv, e, l, r, q, hb, f => by
    rw [slotsOf] at e; cases e
    cases r with
    | nil => exact ⟨env, by rw [asgTs], q⟩
    | val => simp at l
    | own => simp at l
  | .tup _ :: _, _, _, _, _, env, venv, e, l, r, q, hb, f => by simp [slotsOf] at e
  | .slot i :: ts, _, lo, _, _, env, venv, e, l, r, q, hb, f => by
    rw [slotsOf] at e
    obtain ⟨is, e1, rfl⟩ := Option.map_eq_some_iff.mp e
    cases r with
    | nil => simp at l
    | val a r =>
      obtain ⟨e2, x, y⟩ := setAll_sim e1 (by simpa using l) r (q.set_val i a) hb (fun j s u n z z' => by
        rcases set_eq z with ⟨rfl, h1, h2⟩ | ⟨h1, h2⟩
        · cases h1
        · rw [List.getElem?_set_ne h1] at z'
          exact f j s u n h2 z')
      exact ⟨e2, by rw [asgTs, asgT]; exact x, y⟩
    | own a1 a2 a3 a4 a5 r =>
      rename_i n o v ds' vs'
      have q' := q.set_own i (fun j s u z x => by have := f j s u n z x; omega) a2 a3 (by omega) a4 a5
      obtain ⟨e2, x, y⟩ := setAll_sim e1 (by simpa using l) r q' (by omega) (fun j s u m z z' => by
        rcases set_eq z with ⟨rfl, h1, h2⟩ | ⟨h1, h2⟩
        · rw [List.getElem?_set_self (by rw [q.len]; exact h2)] at z'
          cases z'
          omega
        · rw [List.getElem?_set_ne h1] at z'
          have := f j s u m h2 z'
          omega)
      exact ⟨e2, by rw [asgTs, asgT]; exact x, y⟩
omit c in
theorem slots_len : ∀ {ts : List T} {is : List Nat}, slotsOf ts = some is → is.length = ts.length
  | [], _, e => by rw [slotsOf] at e; cases e; rfl
  | .slot i :: ts, _, e => by
    rw [slotsOf] at e
    obtain ⟨is, e1, rfl⟩ := Option.map_eq_some_iff.mp e
    rw [List.length_cons, List.length_cons, slots_len e1]
  | .tup _ :: _, _, e => by simp [slotsOf] at e
omit c in
theorem RSs.length : ∀ {lo : Nat} {ds vs}, RSs h M G lo ds vs → ds.length = vs.length
  | _, _, _, .nil => rfl
  | _, _, _, .val _ r => by rw [List.length_cons, List.length_cons, r.length]
  | _, _, _, .own _ _ _ _ _ r => by rw [List.length_cons, List.length_cons, r.length]
omit c in
theorem as_len : ∀ {es : List E} {venv : VEnv} {H : List V} {x : List Sl × List V}, evAs Cv es venv H = .ok x → x.1.length = es.length
  | [], _, _, _, e => by rw [evAs] at e; cases e; rfl
  | a :: es, venv, H, x, e => by
    rw [evAs] at e
    cases e1 : evE Cv a venv H with
    | stuck => rw [e1] at e; cases e
    | err => rw [e1] at e; cases e
    | ok y =>
      rw [e1, Rv.bind_ok] at e
      cases e2 : evAs Cv es venv y.2 with
      | stuck => rw [e2] at e; cases e
      | err => rw [e2] at e; cases e
      | ok z =>
        rw [e2, Rv.bind_ok] at e
        cases e
        have := as_len e2
        show (_ :: z.1).length = _
        rw [List.length_cons, List.length_cons, this]
theorem simAsg (t : T) (e : E) (w : Wd h M G H) (q : EnvR b s0 h M G env venv) : SimT b h M G ((Fw.evE C e env G).bind fun x => Res.of ((asgT t x.1 env).map fun e2 => (Flow.next, e2, x.2))) (asgS Cv t e venv H) (SR b s0 h) := by
  unfold asgS
  split
  · rename_i i
    split
    · refine SimT.bind (simP c e w q) fun M1 G1 x y st r => ?_
      obtain ⟨d, Gx⟩ := x
      obtain ⟨v, ve, H1⟩ := y
      obtain ⟨rfl, r2, r3, r4⟩ := r
      rw [asgT]
      exact SimT.ok ⟨rfl, r2, r3.set_val i r4, .next⟩
    · exact simA1 c i e w q
  · rename_i ts es
    split
    · rename_i is eis
      obtain ⟨M1, st, w1, q1⟩ := frz_sim (escEs es) w q
      refine SimT.pre st ?_
      cases cc : (decide (is.length = es.length) && decide (es.length ≤ lim)) with
      | false => trivial
      | true =>
        rw [Bool.and_eq_true, decide_eq_true_eq, decide_eq_true_eq] at cc
        rw [Fw.evE]
        have key := as_sim c es w1 q1
        cases ev : evAs Cv es (frz (escEs es) venv) H with
        | stuck => trivial
        | err c' vs H' =>
          rw [ev] at key
          obtain ⟨ds, G2, M2, e1, k1, w2, r2⟩ := key
          rw [e1]
          exact ⟨ds, G2, M2, rfl, k1, w2, r2⟩
        | ok y =>
          obtain ⟨sls, H2⟩ := y
          rw [ev] at key
          obtain ⟨⟨ds, Gx⟩, G2, M2, e1, k1, hG, w2, q2, mm, gg, r2⟩ := key
          have hG : Gx = G2 := hG
          subst hG
          have r2 : RSs h M2 Gx G.length ds sls := r2
          have w2 : Wd h M2 Gx H2 := w2
          rw [e1]
          have ll : ds.length = es.length := by rw [r2.length]; exact as_len ev
          obtain ⟨e2, x1, x2⟩ := setAll_sim eis (by omega) r2 q2 q1.hb (fun j s u n z z' => by
            obtain ⟨n', o', b1, b2, b3⟩ := q1.own j s u z
            rw [z'] at b1
            cases b1
            exact w1.lt n b2)
          show SimT b h M1 G (((must (decide (ds.length ≤ lim)) (Res.ok (D.tup ds, Gx))).bind _)) _ _
          rw [ll, decide_eq_true cc.2]
          show SimT b h M1 G (Res.of ((asgT (.tup ts) (D.tup ds) env).map fun e2 => (Flow.next, e2, Gx))) _ _
          rw [asgT, x1]
          exact SimT.pre k1 (SimT.ok ⟨rfl, w2, x2, .next⟩)
    · obtain ⟨M1, st, w1, q1⟩ := frz_sim (escEs es) w q
      refine SimT.pre st ((simE c (.tup es) w1 q1).bindT w1 fun G2 x vx H2 k2 w2 r2 => ?_)
      refine SimT.of fun ve ev => ?_
      obtain ⟨e2, h1, h2⟩ := asgT_sim (q1.ke k2 w1.mh) r2.1 ev
      dsimp only
      rw [h1]
      exact SimT.ok ⟨rfl, w2, h2, .next⟩
  · refine SimT.bind (simP c e w q) fun M1 G1 x y st r => ?_
    obtain ⟨d, Gx⟩ := x
    obtain ⟨v, ve, H1⟩ := y
    obtain ⟨rfl, r2, r3, r4⟩ := r
    refine SimT.of fun ve ev => ?_
    obtain ⟨e2, h1, h2⟩ := asgT_sim r3 r4 ev
    dsimp only
    rw [h1]
    exact SimT.ok ⟨rfl, r2, h2, .next⟩
omit c in
theorem slot_val {i : Nat} {s : Sl} (e : vslot venv i = some s) : venv[i]? = some (some s) := by
  unfold vslot at e
  obtain ⟨x, e1, e2⟩ := Option.bind_eq_some_iff.mp e
  rw [e1]
  exact congrArg some e2
omit c in
/-- a thing is written into another -/
theorem simSet {i : Nat} {s : Sl} {k v : V} {kd vd : D} {r : Sl × List V} (w : Wd h M G H) (q : EnvR b s0 h M G env venv) (es : vslot venv i = some s) (rk : Rep h M G kd k) (rv : Rep h M G vd v) (e : setV s k v H = some r) :
    ∃ d, getV env i = (fun G => .ok (d, G)) ∧ SimT b h M G ((setS d kd vd G).bind fun H => .ok (Flow.next, env, H)) (.ok (FlowV.next, venv.set i (some r.1), r.2)) (SR b s0 h) := by
  have es := slot_val es
  unfold setV at e
  split at e
  · rename_i l j es
    obtain ⟨n, o, a1, a2, a3, a4, a5, a6, a7⟩ := q.own i _ _ es
    cases a6 with
    | lst rr =>
      rename_i ds
      obtain ⟨j', e1, rfl⟩ := Option.map_eq_some_iff.mp e
      cases (RepW.st rk).int
      refine ⟨.ref n, by funext G; unfold getV; rw [a1], ?_⟩
      have : setS (.ref n) (.int j) vd G = .ok (G.set n (.lst (ds.set j' vd) false)) := by
        unfold setS
        dsimp only
        rw [a5]
        dsimp only
        rw [rr.length, e1]; rfl
      rw [this]
      obtain ⟨u1, u2, u3⟩ := upd_sim w q es a1 (.lst (rr.set j' rv))
      exact SimT.pre u1 (SimT.ok ⟨rfl, u2, u3, .next⟩)
  · rename_i kvs k' _
    obtain ⟨n, o, a1, a2, a3, a4, a5, a6, a7⟩ := q.own i _ _ es
    cases a6 with
    | dct rr =>
      rename_i ds
      obtain ⟨cc, ea⟩ := wh_some e
      obtain ⟨x, e1, eb⟩ := Option.bind_eq_some_iff.mp ea
      obtain ⟨f, e2, rfl⟩ := Option.map_eq_some_iff.mp eb
      rw [rk.toD e1]
      refine ⟨.ref n, by funext G; unfold getV; rw [a1], ?_⟩
      have : setS (.ref n) x vd G = .ok (G.set n (.dct (putK f x vd ds))) := by
        unfold setS
        dsimp only
        rw [a5]
        dsimp only
        rw [rr.length, cc, keyFor_sim rr, e2]; rfl
      rw [this]
      obtain ⟨u1, u2, u3⟩ := upd_sim w q es a1 (.dct (put_sim rr rv))
      exact SimT.pre u1 (SimT.ok ⟨rfl, u2, u3, .next⟩)
  · rename_i j es
    obtain ⟨j', e1, rfl⟩ := Option.map_eq_some_iff.mp e
    obtain ⟨d, a1, a2⟩ := q.val i _ es
    cases (RepW.st a2).hand
    cases (RepW.st rk).int
    obtain ⟨ds, x, y⟩ := w.hd
    refine ⟨.ref h, by funext G; unfold getV; rw [a1], ?_⟩
    have : setS (.ref h) (.int j) vd G = .ok (G.set h (.lst (ds.set j' vd) false)) := by
      unfold setS
      dsimp only
      rw [x]
      dsimp only
      rw [y.length, e1]; rfl
    rw [this]
    have hl := (List.getElem?_eq_some_iff.1 x).1
    have k : Ke h G (G.set h (.lst (ds.set j' vd) false)) := ⟨by rw [List.length_set]; omega, fun n o z e => by rw [List.getElem?_set_ne (fun t => z t.symm)]; exact e⟩
    have w2 : Wd h M (G.set h (.lst (ds.set j' vd) false)) (H.set j' v) := ⟨w.mh, fun n z => by rw [List.length_set]; exact w.lt n z, _, by rw [List.getElem?_set_self hl], (y.set j' rv).mono (k.rep w.mh)⟩
    refine SimT.pre (k.stp w.mh) (SimT.ok ⟨rfl, w2, ?_, .next⟩)
    have := (q.ke k w.mh).set_val i (d := .ref h) (v := .hand) .hand
    have e3 : env.set i (some (.ref h)) = env := by
      refine List.ext_getElem? fun j => ?_
      by_cases ij : i = j
      · subst ij
        have := (List.getElem?_eq_some_iff.1 a1).1
        rw [List.getElem?_set_self this, a1]
      · rw [List.getElem?_set_ne ij]
    rw [e3] at this
    exact this
  · cases e
end
end Vl

/-! Vl8: what is done with values is done in the store: all statements, calls. -/
namespace Vl
open Fw
open PySem (Str PyData NestedKey)
variable {α β γ δ : Type} {h b s0 : Nat} {M M' : Nat → Prop} {G G' : Store} {H : List V} {env : Env} {venv : VEnv}
section
variable {C : Ctx} {Cv : VCtx} (c : CR h C Cv)
include c
theorem simX (e : E) (w : Wd h M G H) (q : EnvR b s0 h M G env venv) : SimT b h M G ((Fw.evE C e env G).bind fun x => .ok (Flow.next, env, x.2)) (exprS Cv e venv H) (SR b s0 h) := by
  unfold exprS
  split
  · rename_i i e
    refine SimT.of fun l0 el0 => ?_
    obtain ⟨n, ds, a1, a2, a3, a4, a5, a6⟩ := q.ownL el0
    have hk : kindOf G (.ref n) = some .lst := by unfold kindOf; dsimp only; rw [a5]
    rw [Fw.evE, Fw.evE, a2]
    show SimT b h M G (Res.bind (match kindOf G (.ref n) with
      | some kd => must (msup kd .append) ((Fw.evEs C [e] env G).bind fun y => mthS kd .append (.ref n) y.1 y.2)
      | none => .stuck) _) _ _
    rw [hk, Fw.evEs]
    dsimp only
    rw [show msup .lst .append = true from rfl, must_true]
    have key := simP c e w q
    cases ev : evP Cv e venv H with
    | stuck => trivial
    | err c' vs H' =>
      rw [ev] at key
      obtain ⟨ds, G1, M1, e1, k1, w1, r1⟩ := key
      rw [e1]
      exact ⟨ds, G1, M1, rfl, k1, w1, r1⟩
    | ok y =>
      obtain ⟨v, ve, H1⟩ := y
      rw [ev] at key
      obtain ⟨⟨d, Gx⟩, G1, M1, e1, k1, hG, w1, q1, r1⟩ := key
      have hG : Gx = G1 := hG
      subst hG
      have w1 : Wd h M1 Gx H1 := w1
      have q1 : EnvR b s0 h M1 Gx env ve := q1
      have r1 : Rep h M1 Gx d v := r1
      rw [e1]
      show SimT b h M G _ ((Rv.of (ownL ve i)).bind fun l => mustV (decide (l.length < lim)) (.ok (FlowV.next, ve.set i (some (.own false (.lst (l ++ [v])))), H1))) _
      refine SimT.of fun l el => ?_
      obtain ⟨n', ds', b1, b2, b3, b4, b5, b6⟩ := q1.ownL el
      rw [a1] at b1
      cases b1
      have e3 : Fw.evEs C [] env Gx = .ok ([], Gx) := by rw [Fw.evEs]
      simp only [Res.bind_ok, e3]
      have e4 : mthS .lst .append (.ref n) [d] Gx = must (!false && decide (ds'.length < lim)) (.ok (.non, Gx.set n (.lst (ds' ++ [d]) false))) := by
        unfold mthS
        dsimp only
        rw [b5]; rfl
      show SimT b h M G (Res.bind (mthS .lst .append (.ref n) [d] Gx) _) _ _
      rw [e4, b6.length]
      cases cc : decide (l.length < lim) with
      | false => trivial
      | true =>
        obtain ⟨u1, u2, u3⟩ := upd_sim w1 q1 (own_of el) a1 (.lst (b6.app (.cons r1 .nil)))
        exact SimT.pre (k1.trans u1) (SimT.ok ⟨rfl, u2, u3, .next⟩)
  · rename_i i e
    obtain ⟨M1, st, w1, q1⟩ := frz_sim (ew e (escE e)) w q
    refine SimT.pre st (SimT.of fun l el => ?_)
    obtain ⟨n, ds, a1, a2, a3, a4, a5, a6⟩ := q1.ownL el
    have hk : kindOf G (.ref n) = some .lst := by unfold kindOf; dsimp only; rw [a5]
    rw [Fw.evE, Fw.evE, a2]
    show SimT b h M1 G (Res.bind (match kindOf G (.ref n) with
      | some kd => must (msup kd .extend) ((Fw.evEs C [e] env G).bind fun y => mthS kd .extend (.ref n) y.1 y.2)
      | none => .stuck) _) _ _
    rw [hk, Fw.evEs]
    dsimp only
    rw [show msup .lst .extend = true from rfl, must_true]
    have key := wk_sim w1 q1 (simE c e w1 q1)
    cases ev : wk e (frz (ew e (escE e)) venv) H (evE Cv e (frz (ew e (escE e)) venv) H) with
    | stuck => trivial
    | err c' vs H' =>
      rw [ev] at key
      obtain ⟨ds, G1, e1, k1, w2, r1⟩ := key
      rw [e1]
      exact ⟨ds, G1, M1, rfl, k1.stp w1.mh, w2, r1⟩
    | ok y =>
      obtain ⟨v, H1⟩ := y
      rw [ev] at key
      obtain ⟨d, G1, e1, k1, w2, r1⟩ := key
      rw [e1]
      have r1 : RepW h M1 G1 d v := r1
      cases v with
      | lst k =>
        obtain ⟨m, ks, rfl, g1, g2⟩ := r1.lst
        have a5' := k1.2 _ _ a4 a5
        have a6' := a6.mono (k1.rep w1.mh)
        have q2 := q1.ke k1 w1.mh
        have e3 : Fw.evEs C [] env G1 = .ok ([], G1) := by rw [Fw.evEs]
        simp only [Res.bind_ok, e3]
        have e4 : mthS .lst .extend (.ref n) [.ref m] G1 = must (!false && decide (ds.length + ks.length ≤ lim)) (.ok (.non, G1.set n (.lst (ds ++ ks) false))) := by
          have hl : lstAt G1 (.ref m) = some ks := by unfold lstAt; dsimp only; rw [g1]
          unfold mthS
          dsimp only
          rw [a5']
          show (match lstAt G1 (.ref m) with
            | some k => (must (!false && decide (ds.length + k.length ≤ lim)) (.ok (.non, G1.set n (.lst (ds ++ k) false))) : RD)
            | _ => .stuck) = _
          rw [hl]
        show SimT b h M1 G (Res.bind (mthS .lst .extend (.ref n) [.ref m] G1) _) (mustV (decide (l.length + k.length ≤ lim)) _) _
        rw [e4, a6'.length, g2.length]
        cases cc : decide (l.length + k.length ≤ lim) with
        | false => trivial
        | true =>
          obtain ⟨u1, u2, u3⟩ := upd_sim w2 q2 (own_of el) a1 (.lst (a6'.app g2))
          exact SimT.pre ((k1.stp w1.mh).trans u1) (SimT.ok ⟨rfl, u2, u3, .next⟩)
      | _ => trivial
  · refine SimT.bind (simP c e w q) fun M1 G1 x y st r => ?_
    obtain ⟨d, Gx⟩ := x
    obtain ⟨v, ve, H1⟩ := y
    obtain ⟨hG, r2, r3, r4⟩ := r
    exact SimT.ok ⟨hG, r2, r3, .next⟩
omit c in
theorem slot_get {i : Nat} {s : Sl} (q : EnvR b s0 h M G env venv) (es : vslot venv i = some s) : ∃ d, getV env i = (fun G => .ok (d, G)) := by
  have es := slot_val es
  cases s with
  | val v =>
    obtain ⟨d, a1, a2⟩ := q.val i v es
    exact ⟨d, by funext G; unfold getV; rw [a1]⟩
  | own s v =>
    obtain ⟨n, o, a1, _⟩ := q.own i s v es
    exact ⟨.ref n, by funext G; unfold getV; rw [a1]⟩
omit c in
theorem simAttr {i : Nat} {s r : Sl} {f : Str} {v : V} {vd : D} (w : Wd h M G H) (q : EnvR b s0 h M G env venv) (es : vslot venv i = some s) (rv : Rep h M G vd v) (e : attrV s f v = some r) :
    ∃ d, getV env i = (fun G => .ok (d, G)) ∧ SimT b h M G ((attrS d f vd G).bind fun H => .ok (Flow.next, env, H)) (.ok (FlowV.next, venv.set i (some r), H)) (SR b s0 h) := by
  have es := slot_val es
  unfold attrV at e
  split at e
  · rename_i k fs es
    obtain ⟨cc, ea⟩ := wh_some e
    cases ea
    obtain ⟨n, o, a1, a2, a3, a4, a5, a6, a7⟩ := q.own i _ _ es
    cases a6 with
    | ins rr =>
      rename_i ds
      refine ⟨.ref n, by funext G; unfold getV; rw [a1], ?_⟩
      have : attrS (.ref n) f vd G = .ok (G.set n (.ins k (putF f vd ds))) := by
        unfold attrS
        dsimp only
        rw [a5]
        dsimp only
        rw [rr.length, cc]; rfl
      rw [this]
      obtain ⟨u1, u2, u3⟩ := upd_sim w q es a1 (.ins (putF_sim rv rr))
      exact SimT.pre u1 (SimT.ok ⟨rfl, u2, u3, .next⟩)
  · cases e
omit c in
theorem ChkB.stp {cc : Option (Nat × O)} (a : ChkB true h M G cc) (mh : M' h) (s : Stp b h M G M' G') : ChkB true h M' G' cc := by
  rcases a with rfl | ⟨n, o, rfl, x, y, e⟩
  · exact .inl rfl
  · have := s.frz n o (y rfl) e
    exact .inr ⟨n, o, rfl, x, fun _ => this.1, this.2⟩
omit c in
theorem simFor {cc cc' : Option (Nat × O)} {t : T} {f : Env → Store → Fw.RS} {g : VEnv → List V → RSV}
    (k : ∀ {M : Nat → Prop} {G : Store} {H : List V} {env : Env} {venv : VEnv}, Wd h M G H → EnvR b s0 h M G env venv → SimT b h M G (f env G) (g venv H) (SR b s0 h)) :
    ∀ {xs : List D} {ys : List V} {M : Nat → Prop} {G : Store} {H : List V} {env : Env} {venv : VEnv}, Wd h M G H → EnvR b s0 h M G env venv → Reps h M G xs ys → ChkB true h M G cc → ChkB true h M G cc' → SimT b h M G (forL cc cc' t f xs env G) (forV t g ys venv H) (SR b s0 h)
  | _, _, M, G, H, env, venv, w, q, .nil, h1, h2 => by
    rw [forL, h1.chk, h2.chk, forV]
    exact SimT.ok ⟨rfl, w, q, .next⟩
  | _, _, M, G, H, env, venv, w, q, .cons a r, h1, h2 => by
    rw [forL, h1.chk, h2.chk, forV]
    refine SimT.of fun ve ev => ?_
    obtain ⟨e2, x1, x2⟩ := asgT_sim q a ev
    rw [x1]
    show SimT b h M G (Res.bind _ _) _ _
    refine SimT.bind (k w x2) fun M1 G1 x y st z => ?_
    obtain ⟨fl, e3, Gx⟩ := x
    obtain ⟨fv, ve3, H1⟩ := y
    obtain ⟨hG, w1, q1, fr⟩ := z
    have hG : Gx = G1 := hG
    subst hG
    have fr : FlR h M1 Gx fl fv := fr
    cases fr with
    | next => exact simFor k w1 q1 (r.mono st.frz) (h1.stp w1.mh st) (h2.stp w1.mh st)
    | cont => exact simFor k w1 q1 (r.mono st.frz) (h1.stp w1.mh st) (h2.stp w1.mh st)
    | brk => exact SimT.ok ⟨rfl, w1, q1, .next⟩
    | ret r => exact SimT.ok ⟨rfl, w1, q1, .ret r⟩
omit c in
theorem simWhl {f : Env → Store → Fw.RS} {g : VEnv → List V → RSV} {p : Env → Store → Res (Bool × Store)} {p' : VEnv → List V → Rv (Bool × List V)}
    (kp : ∀ {M : Nat → Prop} {G : Store} {H : List V} {env : Env} {venv : VEnv}, Wd h M G H → EnvR b s0 h M G env venv → SimR h M G (p env G) (p' venv H) (fun _ x y => x = y))
    (k : ∀ {M : Nat → Prop} {G : Store} {H : List V} {env : Env} {venv : VEnv}, Wd h M G H → EnvR b s0 h M G env venv → SimT b h M G (f env G) (g venv H) (SR b s0 h)) :
    ∀ (n : Nat) {M : Nat → Prop} {G : Store} {H : List V} {env : Env} {venv : VEnv}, Wd h M G H → EnvR b s0 h M G env venv → SimT b h M G (whileL p f n env G) (whileV p' g n venv H) (SR b s0 h)
  | 0, M, G, H, env, venv, w, q => by rw [whileV]; trivial
  | n + 1, M, G, H, env, venv, w, q => by
    rw [whileL, whileV]
    refine (kp w q).bindT w fun G1 x vx H1 k1 w1 r1 => ?_
    subst r1
    have q1 := q.ke k1 w.mh
    cases x with
    | false => exact SimT.ok ⟨rfl, w1, q1, .next⟩
    | true =>
      show SimT b h M G1 (Res.bind _ _) (Rv.bind _ _) _
      refine SimT.bind (k w1 q1) fun M2 G2 x y st z => ?_
      obtain ⟨fl, e3, Gx⟩ := x
      obtain ⟨fv, ve3, H2⟩ := y
      obtain ⟨hG, w2, q2, fr⟩ := z
      have hG : Gx = G2 := hG
      subst hG
      have fr : FlR h M2 Gx fl fv := fr
      cases fr with
      | next => exact simWhl kp k n w2 q2
      | cont => exact simWhl kp k n w2 q2
      | brk => exact SimT.ok ⟨rfl, w2, q2, .next⟩
      | ret r => exact SimT.ok ⟨rfl, w2, q2, .ret r⟩
mutual
theorem simS : ∀ (s : S) {M : Nat → Prop} {G : Store} {H : List V} {env : Env} {venv : VEnv}, Wd h M G H → EnvR b s0 h M G env venv → SimT b h M G (Fw.evS C s env G) (evS Cv s venv H) (SR b s0 h)
  | .asg t e, M, G, H, env, venv, w, q => by rw [Fw.evS, evS]; exact simAsg c t e w q
  | .asub o i e, M, G, H, env, venv, w, q => by
    cases o with
    | var n =>
      rw [Fw.evS, evS]
      obtain ⟨M1, st, w1, q1⟩ := frz_sim (escE e ++ escE i) w q
      refine SimT.pre st ((simE c e w1 q1).bindT w1 fun G2 x vx H2 k2 w2 r2 => ?_)
      have q2 := q1.ke k2 w1.mh
      refine SimT.of fun s es => ?_
      obtain ⟨d0, hd0⟩ := slot_get q2 es
      show SimT b h M1 G2 ((Fw.evE C (.var n) env G2).bind _) _ _
      rw [Fw.evE, hd0]
      show SimT b h M1 G2 ((Fw.evE C i env G2).bind _) _ _
      refine (simE c i w2 q2).bindT w2 fun G3 kd kv H3 k3 w3 r3 => ?_
      refine SimT.of fun r er => ?_
      obtain ⟨d, e2, key⟩ := simSet w3 (q2.ke k3 w1.mh) es r3.1 (r2.1.mono (k3.rep w1.mh)) er
      have : d0 = d := by
        have := (congrFun (hd0.symm.trans e2) G3)
        cases this; rfl
      subst this
      exact key
    | _ => simp only [evS]; trivial
  | .aattr o f e, M, G, H, env, venv, w, q => by
    cases o with
    | var n =>
      rw [Fw.evS, evS]
      obtain ⟨M1, st, w1, q1⟩ := frz_sim (escE e) w q
      refine SimT.pre st ((simE c e w1 q1).bindT w1 fun G2 x vx H2 k2 w2 r2 => ?_)
      have q2 := q1.ke k2 w1.mh
      refine SimT.of fun r er => ?_
      obtain ⟨s, es, er⟩ := Option.bind_eq_some_iff.mp er
      obtain ⟨d, e2, key⟩ := simAttr w2 q2 es r2.1 er
      show SimT b h M1 G2 ((Fw.evE C (.var n) env G2).bind _) _ _
      rw [Fw.evE, e2]
      exact key
    | _ => simp only [evS]; trivial
  | .aug i o e, M, G, H, env, venv, w, q => by
    rw [Fw.evS, evS]
    refine (var_sim w q).bindT w fun G1 x vx H1 k1 w1 r1 => ?_
    refine (simE c e w1 (q.ke k1 w.mh)).bindT w1 fun G2 y vy H2 k2 w2 r2 => ?_
    cases vx with
    | int a =>
      cases vy with
      | int d =>
        cases (RepW.st r1.1).int
        cases (RepW.st r2.1).int
        refine SimT.of fun z ez => ?_
        have key := bin_sim (o := o) (al := false) w2 (RepW.st (.int a)) (RepW.st (.int d))
        rw [ez] at key
        obtain ⟨u, G3, e3, k3, w3, r3⟩ := key
        show SimT b h M G2 ((binS o (.int a) (.int d) G2).bind _) _ _
        rw [e3]
        exact SimT.pre (k3.stp w.mh) (SimT.ok ⟨rfl, w3, (((q.ke k1 w.mh).ke k2 w.mh).ke k3 w.mh).set_val i r3.1, .next⟩)
      | _ => trivial
    | _ => trivial
  | .augSub .., M, G, H, env, venv, w, q => by rw [evS]; trivial
  | .expr e, M, G, H, env, venv, w, q => by rw [Fw.evS, evS]; exact simX c e w q
  | .ret e, M, G, H, env, venv, w, q => by
    rw [Fw.evS, evS]
    refine SimT.bind (simP c e w q) fun M1 G1 x y st r => ?_
    obtain ⟨d, Gx⟩ := x
    obtain ⟨v, ve, H1⟩ := y
    obtain ⟨hG, r2, r3, r4⟩ := r
    have hG : Gx = G1 := hG
    subst hG
    exact SimT.ok ⟨rfl, r2, r3, .ret r4⟩
  | .retN, M, G, H, env, venv, w, q => by rw [Fw.evS, evS]; exact SimT.ok ⟨rfl, w, q, .ret .non⟩
  | .ite t a d, M, G, H, env, venv, w, q => by
    rw [Fw.evS, evS]
    obtain ⟨M1, st, w1, q1⟩ := frz_sim (escB t) w q
    refine SimT.pre st ((simB c t w1 q1).bindT w1 fun G2 x vx H2 k2 w2 r2 => ?_)
    subst r2
    cases x with
    | true => exact simSs a w2 (q1.ke k2 w1.mh)
    | false => exact simSs d w2 (q1.ke k2 w1.mh)
  | .whl t d, M, G, H, env, venv, w, q => by
    rw [Fw.evS, evS, c.fuel]
    exact simWhl (fun w q => simB c t w q) (fun w q => simSs d w q) _ w q
  | .for_ t it d, M, G, H, env, venv, w, q => by
    rw [Fw.evS, evS]
    obtain ⟨M1, st, w1, q1⟩ := frz_sim (escI true it) w q
    refine SimT.pre st ((simI c true it w1 q1).bindT w1 fun G2 x vx H2 k2 w2 r2 => ?_)
    exact simFor (fun w q => simSs d w q) w2 (q1.ke k2 w1.mh) r2.1 r2.2.1 r2.2.2
  | .pass, M, G, H, env, venv, w, q => by rw [Fw.evS, evS]; exact SimT.ok ⟨rfl, w, q, .next⟩
  | .brk, M, G, H, env, venv, w, q => by rw [Fw.evS, evS]; exact SimT.ok ⟨rfl, w, q, .brk⟩
  | .cont, M, G, H, env, venv, w, q => by rw [Fw.evS, evS]; exact SimT.ok ⟨rfl, w, q, .cont⟩
  | .raise k l, M, G, H, env, venv, w, q => by
    rw [Fw.evS, evS]
    obtain ⟨M1, st, w1, q1⟩ := frz_sim (escEs l) w q
    refine SimT.pre st ((simEs c l w1 q1).bindT w1 fun G2 x vx H2 k2 w2 r2 => ?_)
    exact ⟨x, G2, M1, rfl, .refl, w2, r2⟩
theorem simSs : ∀ (s : List S) {M : Nat → Prop} {G : Store} {H : List V} {env : Env} {venv : VEnv}, Wd h M G H → EnvR b s0 h M G env venv → SimT b h M G (Fw.evSs C s env G) (evSs Cv s venv H) (SR b s0 h)
  | [], M, G, H, env, venv, w, q => by rw [Fw.evSs, evSs]; exact SimT.ok ⟨rfl, w, q, .next⟩
  | s :: ss, M, G, H, env, venv, w, q => by
    rw [Fw.evSs, evSs]
    refine SimT.bind (simS s w q) fun M1 G1 x y st z => ?_
    obtain ⟨fl, e3, Gx⟩ := x
    obtain ⟨fv, ve3, H1⟩ := y
    obtain ⟨hG, w1, q1, fr⟩ := z
    have hG : Gx = G1 := hG
    subst hG
    have fr : FlR h M1 Gx fl fv := fr
    cases fr with
    | next => exact simSs ss w1 q1
    | cont => exact SimT.ok ⟨rfl, w1, q1, .cont⟩
    | brk => exact SimT.ok ⟨rfl, w1, q1, .brk⟩
    | ret r => exact SimT.ok ⟨rfl, w1, q1, .ret r⟩
end
end
end Vl

/-! Vl9: what is done with values is done in the store: calls. -/
namespace Vl
open Fw
open PySem (Str PyData NestedKey)
variable {α β γ δ : Type} {h b s0 : Nat} {M M' : Nat → Prop} {G G' : Store} {H : List V} {env : Env} {venv : VEnv}
theorem Stp.back {H : List V} (hm : ∀ n, M n → n < b ∨ n = h) (lt : ∀ n, M n → n < G.length) (mh : M h) (s : Stp b h M G M' G') (w : Wd h M' G' H) : (∀ n o, ¬ M' n → G'[n]? = some o → ¬ M n ∧ G'[n]? = some o) ∧ Wd h M G' H := by
  have f : ∀ n o, ¬ M' n → G'[n]? = some o → ¬ M n ∧ G'[n]? = some o := fun n o x e => ⟨fun y => by
    rcases hm n y with l | rfl
    · exact x (s.lom n l y)
    · exact x w.mh, e⟩
  refine ⟨f, mh, fun n y => Nat.lt_of_lt_of_le (lt n y) s.len, ?_⟩
  obtain ⟨ds, x, y⟩ := w.hd
  exact ⟨ds, x, y.mono f⟩
theorem run_sim {C : Ctx} {Cv : VCtx} (c : CR h C Cv) (f : Fn) {ds : List D} {vs : List V} (w : Wd h M G H) (r : Reps h M G ds vs) : SimR h M G (runFn C f ds G) (runFnV Cv f vs H) (fun G' d v => Rep h M G' d v) := by
  unfold runFn runFnV
  refine SimR.must (by rw [r.length]; exact id) ?_
  have q : EnvR G.length 0 h M G (ds.map some ++ List.replicate (f.ns - f.ps) none) (env0 f vs) := by
    unfold env0
    refine ⟨Nat.le_refl _, by simp [r.length], fun i v e => ?_, fun i s v e => ?_, fun i j s s' v v' n e e' _ _ => ?_⟩
    · rcases Nat.lt_or_ge i vs.length with l | l
      · rw [List.getElem?_append_left (by rw [List.length_map]; exact l), List.getElem?_map] at e
        obtain ⟨u, e1, e2⟩ := Option.map_eq_some_iff.mp e
        cases e2
        obtain ⟨d, e3, e4⟩ := r.get e1
        exact ⟨d, by rw [List.getElem?_append_left (by rw [List.length_map, r.length]; exact l), List.getElem?_map, e3]; rfl, e4⟩
      · rw [List.getElem?_append_right (by rw [List.length_map]; exact l)] at e
        have := List.mem_of_getElem? e
        simp at this
    · have := List.mem_of_getElem? e
      simp at this
    · have := List.mem_of_getElem? e
      simp at this
  have key := simSs c f.body w q
  cases ev : evSs Cv f.body (env0 f vs) H with
  | stuck => trivial
  | err c' vs' H' =>
    rw [ev] at key
    obtain ⟨es, G1, M1, e1, st, w1, r1⟩ := key
    rw [e1]
    obtain ⟨b1, b2⟩ := st.back (fun n y => .inl (w.lt n y)) w.lt w.mh w1
    exact ⟨es, G1, rfl, ⟨st.len, fun n o x e => st.low n o (List.getElem?_eq_some_iff.1 e).1 x e⟩, b2, r1.mono b1⟩
  | ok y =>
    obtain ⟨fv, ve, H1⟩ := y
    rw [ev] at key
    obtain ⟨⟨fl, e2, Gx⟩, G1, M1, e1, st, hG, w1, q1, fr⟩ := key
    have hG : Gx = G1 := hG
    subst hG
    have fr : FlR h M1 Gx fl fv := fr
    rw [e1]
    obtain ⟨b1, b2⟩ := st.back (fun n y => .inl (w.lt n y)) w.lt w.mh w1
    have k : Ke h G Gx := ⟨st.len, fun n o x e => st.low n o (List.getElem?_eq_some_iff.1 e).1 x e⟩
    cases fr with
    | ret r => exact ⟨_, Gx, rfl, k, b2, r.mono b1⟩
    | next => exact ⟨.non, Gx, rfl, k, b2, .non⟩
    | brk => trivial
    | cont => trivial
theorem init_sim {C : Ctx} {Cv : VCtx} (c : CR h C Cv) (k : Nat) (f : Fn) {ds : List D} {vs : List V} (w : Wd h M G H) (r : Reps h M G ds vs) : SimR h M G ((runFn C f (.ref G.length :: ds) (G ++ [.ins k []])).bind fun y => match y.1 with
    | .non => .ok (.ref G.length, y.2)
    | _ => .stuck) (runInit Cv k f vs H) (fun G' d v => Rep h M G' d v) := by
  unfold runFn runInit
  have hl : (D.ref G.length :: ds).length = vs.length + 1 := by rw [List.length_cons, r.length]
  rw [hl]
  cases cc : decide (vs.length + 1 = f.ps) with
  | false => trivial
  | true =>
    have nM : ¬ M G.length := fun x => by have := w.lt _ x; omega
    have mono : ∀ n o, ¬ M n → G[n]? = some o → ¬ (M n ∨ n = G.length) ∧ (G ++ [O.ins k []])[n]? = some o := fun n o x e => by
      have := (List.getElem?_eq_some_iff.1 e).1
      exact ⟨fun y => by rcases y with y | y; exact x y; omega, by rw [List.getElem?_append_left this]; exact e⟩
    have r1 : Reps h (fun m => M m ∨ m = G.length) (G ++ [O.ins k []]) ds vs := r.mono mono
    have w1 : Wd h (fun m => M m ∨ m = G.length) (G ++ [O.ins k []]) H := by
      refine ⟨.inl w.mh, fun n x => by rw [List.length_append, List.length_singleton]; rcases x with x | x; have := w.lt n x; omega; omega, ?_⟩
      obtain ⟨es, x, y⟩ := w.hd
      exact ⟨es, by rw [List.getElem?_append_left (List.getElem?_eq_some_iff.1 x).1]; exact x, y.mono mono⟩
    have q : EnvR G.length G.length h (fun m => M m ∨ m = G.length) (G ++ [O.ins k []]) ((D.ref G.length :: ds).map some ++ List.replicate (f.ns - f.ps) none) (some (.own true (.ins k [])) :: (vs.map (fun v => some (.val v)) ++ List.replicate (f.ns - f.ps) none)) := by
      refine ⟨by simp, by simp [r.length], fun i v e => ?_, fun i s v e => ?_, fun i j s s' v v' n e e' _ _ => ?_⟩
      · cases i with
        | zero => cases e
        | succ i =>
          rw [List.getElem?_cons_succ] at e
          rcases Nat.lt_or_ge i vs.length with l | l
          · rw [List.getElem?_append_left (by rw [List.length_map]; exact l), List.getElem?_map] at e
            obtain ⟨u, e1, e2⟩ := Option.map_eq_some_iff.mp e
            cases e2
            obtain ⟨d, e3, e4⟩ := r1.get e1
            exact ⟨d, by rw [List.map_cons, List.cons_append, List.getElem?_cons_succ, List.getElem?_append_left (by rw [List.length_map, r.length]; exact l), List.getElem?_map, e3]; rfl, e4⟩
          · rw [List.getElem?_append_right (by rw [List.length_map]; exact l)] at e
            have := List.mem_of_getElem? e
            simp at this
      · cases i with
        | zero =>
          cases e
          exact ⟨G.length, .ins k [], rfl, .inr rfl, fun x => nM (x ▸ w.mh), Nat.le_refl _, by rw [List.getElem?_append_right (Nat.le_refl _), Nat.sub_self]; rfl, .ins .nil, fun _ => rfl⟩
        | succ i =>
          rw [List.getElem?_cons_succ] at e
          have := List.mem_of_getElem? e
          simp at this
      · cases i with
        | zero =>
          cases j with
          | zero => rfl
          | succ j =>
            rw [List.getElem?_cons_succ] at e'
            have := List.mem_of_getElem? e'
            simp at this
        | succ i =>
          rw [List.getElem?_cons_succ] at e
          have := List.mem_of_getElem? e
          simp at this
    have key := simSs c f.body w1 q
    show SimR h M G (((Fw.evSs C f.body ((D.ref G.length :: ds).map some ++ List.replicate (f.ns - f.ps) none) (G ++ [O.ins k []])).bind _).bind _) ((evSs Cv f.body _ H).bind _) _
    have kk : ∀ {M1 G1}, Stp G.length h (fun m => M m ∨ m = G.length) (G ++ [O.ins k []]) M1 G1 → Ke h G G1 := fun st => by
      have sl := st.len
      rw [List.length_append, List.length_singleton] at sl
      refine ⟨by omega, fun n o x e => ?_⟩
      have := (List.getElem?_eq_some_iff.1 e).1
      exact st.low n o this x (by rw [List.getElem?_append_left this]; exact e)
    have bk : ∀ {M1 G1 H1}, Stp G.length h (fun m => M m ∨ m = G.length) (G ++ [O.ins k []]) M1 G1 → Wd h M1 G1 H1 → (∀ n o, ¬ M1 n → G1[n]? = some o → ¬ M n ∧ G1[n]? = some o) ∧ Wd h M G1 H1 := fun {M1 G1 H1} st w2 => by
      have f : ∀ n o, ¬ M1 n → G1[n]? = some o → ¬ M n ∧ G1[n]? = some o := fun n o x e => ⟨fun y => x (st.lom n (w.lt n y) (.inl y)), e⟩
      refine ⟨f, w.mh, fun n y => Nat.lt_of_lt_of_le (w.lt n y) (kk st).1, ?_⟩
      obtain ⟨ds, x, y⟩ := w2.hd
      exact ⟨ds, x, y.mono f⟩
    cases ev : evSs Cv f.body (some (.own true (.ins k [])) :: (vs.map (fun v => some (.val v)) ++ List.replicate (f.ns - f.ps) none)) H with
    | stuck => trivial
    | err c' vs' H' =>
      rw [ev] at key
      obtain ⟨es, G1, M1, e1, st, w2, r2⟩ := key
      rw [e1]
      obtain ⟨b1, b2⟩ := bk st w2
      exact ⟨es, G1, rfl, kk st, b2, r2.mono b1⟩
    | ok y =>
      obtain ⟨fv, ve, H1⟩ := y
      rw [ev] at key
      obtain ⟨⟨fl, e2, Gx⟩, G1, M1, e1, st, hG, w2, q1, fr⟩ := key
      have hG : Gx = G1 := hG
      subst hG
      have fr : FlR h M1 Gx fl fv := fr
      have q1 : EnvR G.length G.length h M1 Gx e2 ve := q1
      rw [e1]
      obtain ⟨b1, b2⟩ := bk st w2
      cases fr with
      | ret r => trivial
      | next =>
        show SimR h M G (.ok (D.ref G.length, Gx)) (match ve with
          | some (.own true v) :: _ => .ok (v, H1)
          | _ => .stuck) _
        split
        · rename_i v ve' _
          obtain ⟨n, o, x1, x2, x3, x4, x5, x6, x7⟩ := q1.own 0 true v rfl
          obtain rfl := x7 rfl
          exact ⟨_, Gx, rfl, kk st, b2, .obj nM x5 (x6.mono b1)⟩
        · trivial
      | brk => trivial
      | cont => trivial
/-- what one runs in -/
def initV (P : List Fn) (N : Nat) (O : Orc) (k : Nat) : Nat → Nat → List V → List V → RV := fun c i as H => match k with
  | 0 => .stuck
  | j + 1 => (match P[i]? with
    | some fn => runInit ⟨callV P N O j, fun _ _ _ _ => .stuck, N⟩ c fn as H
    | none => .stuck)
def vctx (P : List Fn) (N : Nat) (O : Orc) (k : Nat) : VCtx := ⟨callV P N O k, initV P N O k, N⟩
theorem callV_run {P : List Fn} {N : Nat} {O : Orc} {k f : Nat} {as H : List V} {fn : Fn} (ho : O f = none) (hf : P[f]? = some fn) : callV P N O (k + 1) f as H = runFnV (vctx P N O k) fn as H := by
  unfold callV
  rw [ho]
  dsimp only
  rw [hf]
  cases k <;> rfl
theorem callV_orc {P : List Fn} {N : Nat} {O : Orc} {k f n : Nat} {as H : List V} {g : List V → List V → RV} (ho : O f = some (n, g)) (hk : n ≤ k) : callV P N O k f as H = g as H := by
  unfold callV
  cases k with
  | zero => rw [ho]; dsimp only; unfold mustV; rw [if_pos (decide_eq_true hk)]
  | succ k => rw [ho]; dsimp only; unfold mustV; rw [if_pos (decide_eq_true hk)]
theorem callV_no {P : List Fn} {N : Nat} {O : Orc} {k f n : Nat} {as H : List V} {g : List V → List V → RV} (ho : O f = some (n, g)) (hk : ¬ n ≤ k) : callV P N O k f as H = .stuck := by
  unfold callV
  cases k with
  | zero => rw [ho]; dsimp only; unfold mustV; rw [if_neg (by rw [decide_eq_true_eq]; exact hk)]
  | succ k => rw [ho]; dsimp only; unfold mustV; rw [if_neg (by rw [decide_eq_true_eq]; exact hk)]
def OrcOk (h : Nat) (P : List Fn) (N : Nat) (O : Orc) (K : Nat) : Prop := ∀ f n g, O f = some (n, g) → ∀ (k : Nat) (M : Nat → Prop) (G : Store) (H : List V) (ds : List D) (vs : List V), k ≤ K → n ≤ k → Wd h M G H → Reps h M G ds vs → SimR h M G (callP P N k f ds G) (g vs H) (fun G' d v => Rep h M G' d v)
theorem call_sim {P : List Fn} {N : Nat} {O : Orc} {K : Nat} (ok : OrcOk h P N O K) : ∀ (k : Nat), k ≤ K → CR h ⟨callP P N k, N⟩ (vctx P N O k)
  | k, kK => by
    have stuckI : ∀ (C : Ctx) (cl : Nat → List V → List V → RV), (∀ (f : Nat) (M : Nat → Prop) (G : Store) (H : List V) (ds : List D) (vs : List V), Wd h M G H → Reps h M G ds vs → SimR h M G (C.call f ds G) (cl f vs H) (fun G' d v => Rep h M G' d v)) → CR h C ⟨cl, fun _ _ _ _ => .stuck, C.fuel⟩ := fun C cl H => ⟨H, fun _ _ _ _ _ _ _ _ _ => trivial, rfl⟩
    refine ⟨fun f M G H ds vs w r => ?_, fun c f M G H ds vs w r => ?_, rfl⟩
    · show SimR h M G (callP P N k f ds G) (callV P N O k f vs H) _
      cases ho : O f with
      | some x =>
        obtain ⟨n, g⟩ := x
        by_cases hk : n ≤ k
        · rw [callV_orc ho hk]; exact ok f n g ho k M G H ds vs kK hk w r
        · rw [callV_no ho hk]; trivial
      | none =>
        cases k with
        | zero => unfold callV; rw [ho]; trivial
        | succ k =>
          cases hf : P[f]? with
          | none => unfold callV; rw [ho]; dsimp only; rw [hf]; trivial
          | some fn =>
            rw [callV_run ho hf, callP, hf]
            exact run_sim (call_sim ok k (by omega)) fn w r
    · show SimR h M G ((callP P N k f (.ref G.length :: ds) (G ++ [.ins c []])).bind _) (initV P N O k c f vs H) _
      cases k with
      | zero => trivial
      | succ k =>
        unfold initV
        dsimp only
        cases hf : P[f]? with
        | none => trivial
        | some fn =>
          rw [callP, hf]
          exact init_sim (stuckI ⟨callP P N k, N⟩ (callV P N O k) (call_sim ok k (by omega)).call) c fn w r
end Vl

/-! Vs: steps with values, one lemma a construct. -/
namespace Vl
open Fw
open PySem (Str PyData NestedKey)
variable {α β γ : Type}
/-- it ends well, and so -/
inductive Rv.Is {α : Type} : Rv α → (α → Prop) → Prop where
  | mk {a : α} {Q : α → Prop} (h : Q a) : Rv.Is (.ok a) Q
theorem Is_ok {a : α} {Q : α → Prop} : (Rv.ok a).Is Q = Q a := propext ⟨fun h => by cases h; assumption, fun h => .mk h⟩
theorem Rv.Is.get {r : Rv α} {Q : α → Prop} (h : r.Is Q) : ∃ a, r = .ok a ∧ Q a := by
  cases h with
  | mk h => exact ⟨_, rfl, h⟩
theorem Rv.Is.of {r : Rv α} {Q : α → Prop} {a : α} (e : r = .ok a) (h : Q a) : r.Is Q := by rw [e]; exact .mk h
theorem Rv.Is.mono {r : Rv α} {Q R : α → Prop} (h : r.Is Q) (f : ∀ a, Q a → R a) : r.Is R := by
  cases h with
  | mk h => exact .mk (f _ h)
theorem Is_bind {r : Rv α} {f : α → Rv β} {Q : β → Prop} : (r.bind f).Is Q = r.Is fun a => (f a).Is Q := by
  cases r with
  | ok a => rw [Rv.bind_ok, Is_ok]
  | err => exact propext ⟨fun h => (by cases h), fun h => (by cases h)⟩
  | stuck => exact propext ⟨fun h => (by cases h), fun h => (by cases h)⟩
theorem Is_cg {r r' : Rv α} {Q : α → Prop} (h : r = r') : r.Is Q = r'.Is Q := by rw [h]
theorem bind_cg {r r' : Rv α} {f : α → Rv β} (h : r = r') : r.bind f = r'.bind f := by rw [h]
theorem mustV_cg {b b' : Bool} {r : Rv α} (h : b = b') : mustV b r = mustV b' r := by rw [h]
theorem wh_cg {b b' : Bool} {r : Option α} (h : b = b') : wh b r = wh b' r := by rw [h]
theorem bind_okN {a : α} {f : α → Rv β} : (Rv.ok a).bind f = f a := (rfl)
theorem of_someN {a : α} : Rv.of (some a) = .ok a := (rfl)
theorem must_tN {r : Rv α} : mustV true r = r := (rfl)
theorem wh_tN {r : Option α} : wh true r = r := (rfl)
theorem mk_someN {v : V} {H : List V} : mkRV (some v) H = .ok (v, H) := (rfl)
section defs
variable (C : VCtx)
def kBin2 (o : Bin) (x : V) : V × List V → RV := fun y => mkRV (binV o x y.1) y.2
def kBin1 (o : Bin) (b : E) (env : VEnv) : V × List V → RV := fun x => (wk b env x.2 (evE C b env x.2)).bind (kBin2 o x.1)
def kNeg : V × List V → RV := fun x => match x.1 with
    | .int i => .ok (.int (-i), x.2)
    | _ => .stuck
def kCmp2 (o : Cmp) (x : V) : V × List V → RV := fun y => mkRV ((cmpV o x y.1).map .bl) y.2
def kCmp1 (o : Cmp) (b : E) (env : VEnv) : V × List V → RV := fun x => (wk b env x.2 (evE C b env x.2)).bind (kCmp2 o x.1)
def kCh4 (p : Cmp) (y : V) : V × List V → RV := fun w => mkRV ((cmpV p y w.1).map .bl) w.2
def kCh3 (p : Cmp) (c : E) (env : VEnv) (y : V) : V × List V → RV := fun z => match z.1 with
    | .bl true => (evE C c env z.2).bind (kCh4 p y)
    | .bl false => .ok (.bl false, z.2)
    | _ => .stuck
def kCh2 (o p : Cmp) (c : E) (env : VEnv) (x : V) : V × List V → RV := fun y => (mkRV ((cmpV o x y.1).map .bl) y.2).bind (kCh3 C p c env y.1)
def kCh1 (o p : Cmp) (b c : E) (env : VEnv) : V × List V → RV := fun x => (evE C b env x.2).bind (kCh2 C o p c env x.1)
def kAnd (b : E) (env : VEnv) : V × List V → RV := fun x => match truthV x.1 with
    | some true => evE C b env x.2
    | some false => .ok x
    | none => .stuck
def kAndT (b : E) (env : VEnv) (x : V) (H : List V) (t : Option Bool) : RV := match t with
    | some true => evE C b env H
    | some false => .ok (x, H)
    | none => .stuck
def kOrT (b : E) (env : VEnv) (x : V) (H : List V) (t : Option Bool) : RV := match t with
    | some false => evE C b env H
    | some true => .ok (x, H)
    | none => .stuck
def kOr (b : E) (env : VEnv) : V × List V → RV := fun x => match truthV x.1 with
    | some false => evE C b env x.2
    | some true => .ok x
    | none => .stuck
def kNotT (H : List V) (t : Option Bool) : RV := match t with
    | some b => .ok (.bl (!b), H)
    | none => .stuck
def kNot : V × List V → RV := fun x => match truthV x.1 with
    | some b => .ok (.bl (!b), x.2)
    | none => .stuck
def kIte (a b : E) (env : VEnv) : Bool × List V → RV := fun x => match x.1 with
    | true => evE C a env x.2
    | false => evE C b env x.2
def kTup : List V × List V → RV := fun x => mustV (decide (x.1.length ≤ lim)) (.ok (.tup x.1, x.2))
def kLst : List V × List V → RV := fun x => mkLV x.1 x.2
def kDct : List V × List V → RV := fun x => mkRV (((pairUpV x.1).bind (putAllV [])).map .dct) x.2
def kIdx2 (x : V) : V × List V → RV := fun y => hidx x y.1 y.2
def kIdx1 (b : E) (env : VEnv) : V × List V → RV := fun x => (evE C b env x.2).bind (kIdx2 x.1)
def kSl3 (x : V) (lo : Option Int) : Option Int × List V → RV := fun z => mkRV (slV x lo z.1) z.2
def kSl2 (hi : Option E) (env : VEnv) (x : V) : Option Int × List V → RV := fun y => (evO C hi env y.2).bind (kSl3 x y.1)
def kSl1 (lo hi : Option E) (env : VEnv) : V × List V → RV := fun x => (evO C lo env x.2).bind (kSl2 C hi env x.1)
def kRev : V × List V → RV := fun x => mkRV (revV x.1) x.2
def kFld (f : Str) : V × List V → RV := fun x => mkRV (fldV x.1 f) x.2
def kCall (f : Nat) : List V × List V → RV := fun x => C.call f x.1 x.2
def kNew (c f : Nat) : List V × List V → RV := fun x => C.init c f x.1 x.2
def kBif (b : Bif) : List V × List V → RV := fun x => mkRV (bifV b x.1) x.2
def kMth2 (m : Mth) (x : V) : List V × List V → RV := fun y => mkRV (mthV m x y.1) y.2
def kMth (m : Mth) (l : List E) (env : VEnv) : V × List V → RV := fun x => mustV (okM m x.1) (match m with
    | .get => (evEs C l env x.2).bind (kMth2 m x.1)
    | _ => (evWs C l env x.2).bind (kMth2 m x.1))
def kIsT (t : Ty) : V × List V → RV := fun x => mkRV (isTyV t x.1) x.2
def kIsC (c : Nat) : V × List V → RV := fun x => match x.1 with
    | .ins d _ => .ok (.bl (c == d), x.2)
    | _ => .stuck
def kLcV : V × List V → Rv (Option V × List V) := fun v => .ok (some v.1, v.2)
def kLcB (e : E) (env : VEnv) : Bool × List V → Rv (Option V × List V) := fun b => match b.1 with
        | true => (evE C e env b.2).bind kLcV
        | false => .ok (none, b.2)
def fLc (e : E) (t : T) (cs : List B) (own : List Nat) (env : VEnv) : V → List V → Rv (Option V × List V) := fun d H => (Rv.of (asgTV t d (wipeV env own))).bind fun e2 => (evBs C cs e2 H).bind (kLcB C e e2)
def kLc (e : E) (t : T) (cs : List B) (own : List Nat) (env : VEnv) : List V × List V → RV := fun w => (lcV (fLc C e t cs own env) w.1 w.2).bind kLst
def kDcV (k : V) : V × List V → Rv (Option (V × V) × List V) := fun y => .ok (some (k, y.1), y.2)
def kDcK (v : E) (env : VEnv) : V × List V → Rv (Option (V × V) × List V) := fun x => (evE C v env x.2).bind (kDcV x.1)
def kDcB (k v : E) (env : VEnv) : Bool × List V → Rv (Option (V × V) × List V) := fun b => match b.1 with
        | true => (evE C k env b.2).bind (kDcK C v env)
        | false => .ok (none, b.2)
def fDc (k v : E) (t : T) (cs : List B) (own : List Nat) (env : VEnv) : V → List V → Rv (Option (V × V) × List V) := fun d H => (Rv.of (asgTV t d (wipeV env own))).bind fun e2 => (evBs C cs e2 H).bind (kDcB C k v e2)
def kDc2 : List (D × V) × List V → RV := fun q => .ok (.dct q.1, q.2)
def kDc (k v : E) (t : T) (cs : List B) (own : List Nat) (env : VEnv) : List V × List V → RV := fun w => (dcV (fDc C k v t cs own env) w.1 [] w.2).bind kDc2
def kEs2 (x : V) : List V × List V → Rv (List V × List V) := fun y => .ok (x :: y.1, y.2)
def kEs (es : List E) (env : VEnv) : V × List V → Rv (List V × List V) := fun x => (evEs C es env x.2).bind (kEs2 x.1)
def kWs (es : List E) (env : VEnv) : V × List V → Rv (List V × List V) := fun x => (evWs C es env x.2).bind (kEs2 x.1)
def kO : V × List V → Rv (Option Int × List V) := fun x => match x.1 with
    | .int i => .ok (some i, x.2)
    | _ => .stuck
def kBA (b : B) (env : VEnv) : Bool × List V → Rv (Bool × List V) := fun x => match x.1 with
    | true => evB C b env x.2
    | false => .ok (false, x.2)
def kBO (b : B) (env : VEnv) : Bool × List V → Rv (Bool × List V) := fun x => match x.1 with
    | false => evB C b env x.2
    | true => .ok (true, x.2)
def kBN : Bool × List V → Rv (Bool × List V) := fun x => .ok (!x.1, x.2)
def kBV : V × List V → Rv (Bool × List V) := fun x => (Rv.of (truthV x.1)).bind fun b => .ok (b, x.2)
def kBVT (H : List V) (t : Option Bool) : Rv (Bool × List V) := (Rv.of t).bind fun b => .ok (b, H)
def kBs (bs : List B) (env : VEnv) : Bool × List V → Rv (Bool × List V) := fun x => match x.1 with
    | true => evBs C bs env x.2
    | false => .ok (false, x.2)
def kPl : V × List V → Rv (List V × List V) := fun x => (Rv.of (itemsV x.1)).bind fun l => .ok (l, x.2)
def kEn : V × List V → Rv (List V × List V) := fun x => (Rv.of (itemsV x.1)).bind fun l => .ok (enumV 0 l, x.2)
def kR1 : V × List V → Rv (List V × List V) := fun x => match x.1 with
    | .int j => mustV (small j) (.ok (rangeV 0 j.toNat, x.2))
    | _ => .stuck
def kR3 (x : V) : V × List V → Rv (List V × List V) := fun y => match x, y.1 with
    | .int i, .int j => mustV (small i && small j) (.ok (rangeV i (j - i).toNat, y.2))
    | _, _ => .stuck
def kR2 (b : E) (env : VEnv) : V × List V → Rv (List V × List V) := fun x => (evE C b env x.2).bind (kR3 x.1)
def kZp2 (x : V) : V × List V → Rv (List V × List V) := fun y => (Rv.of (itemsV x)).bind fun l => (Rv.of (itemsV y.1)).bind fun m => .ok (zipV l m, y.2)
def kZp (st : Bool) (b : E) (env : VEnv) : V × List V → Rv (List V × List V) := fun x => (wks st b env x.2 (evE C b env x.2)).bind (kZp2 x.1)
def kIts : V × List V → Rv (List V × List V) := fun x => match x.1 with
    | .dct kvs => (Rv.of (ofDs (kvs.map Prod.fst))).bind fun ks => .ok (zipV ks (kvs.map Prod.snd), x.2)
    | _ => .stuck
def kVls : V × List V → Rv (List V × List V) := fun x => match x.1 with
    | .dct kvs => .ok (kvs.map Prod.snd, x.2)
    | _ => .stuck
-- statements
def kAs2 (s : Sl) : List Sl × List V → Rv (List Sl × List V) := fun y => .ok (s :: y.1, y.2)
def kAs (al : Bool) (es : List E) (env : VEnv) : V × List V → Rv (List Sl × List V) := fun x => (evAs C es env x.2).bind (kAs2 (slot_of al x.1))
def kAsg1 (al : Bool) (i : Nat) (env : VEnv) : V × List V → RSV := fun x => .ok (.next, env.set i (some (slot_of al x.1)), x.2)
def kAsgP (i : Nat) : V × VEnv × List V → RSV := fun x => .ok (.next, x.2.1.set i (some (.val x.1)), x.2.2)
def kAsgT (t : T) : V × VEnv × List V → RSV := fun x => (Rv.of (asgTV t x.1 x.2.1)).bind fun e2 => .ok (.next, e2, x.2.2)
def kAsgS (is : List Nat) (env : VEnv) : List Sl × List V → RSV := fun x => .ok (.next, setAll is x.1 env, x.2)
def kP (env : VEnv) : V × List V → Rv (V × VEnv × List V) := fun x => .ok (x.1, env, x.2)
def kPop (env : VEnv) (i : Nat) (l : List V) : List V × List V → Rv (V × VEnv × List V) := fun x => (Rv.of (popV l x.1)).bind fun p => .ok (p.1, env.set i (some (.own false (.lst p.2))), x.2)
def kApp (i : Nat) : V × VEnv × List V → RSV := fun x => (Rv.of (ownL x.2.1 i)).bind fun l => mustV (decide (l.length < lim)) (.ok (.next, x.2.1.set i (some (.own false (.lst (l ++ [x.1])))), x.2.2))
def kExt (env : VEnv) (i : Nat) (l : List V) : V × List V → RSV := fun x => (match x.1 with
    | .lst k => mustV (decide (l.length + k.length ≤ lim)) (.ok (.next, env.set i (some (.own false (.lst (l ++ k)))), x.2))
    | _ => .stuck)
def kExp : V × VEnv × List V → RSV := fun x => .ok (.next, x.2.1, x.2.2)
def kSub3 (env : VEnv) (n : Nat) : Sl × List V → RSV := fun r => .ok (.next, env.set n (some r.1), r.2)
def kSub2 (env : VEnv) (n : Nat) (v : V) (s : Sl) : V × List V → RSV := fun k => (Rv.of (setV s k.1 v k.2)).bind (kSub3 env n)
def kSub1 (env : VEnv) (n : Nat) (i : E) : V × List V → RSV := fun v => (Rv.of (vslot env n)).bind fun s => (evE C i env v.2).bind (kSub2 env n v.1 s)
def kAttr (env : VEnv) (n : Nat) (f : Str) : V × List V → RSV := fun v => (Rv.of ((vslot env n).bind fun s => attrV s f v.1)).bind fun r => .ok (.next, env.set n (some r), v.2)
def kRet : V × VEnv × List V → RSV := fun x => .ok (.ret x.1, x.2.1, x.2.2)
def kIf (a b : List S) (env : VEnv) : Bool × List V → RSV := fun x => match x.1 with
    | true => evSs C a env x.2
    | false => evSs C b env x.2
def kFor (t : T) (b : List S) (env : VEnv) : List V × List V → RSV := fun w => forV t (evSs C b) w.1 env w.2
def kSs (ss : List S) : FlowV × VEnv × List V → RSV := fun r => match r.1 with
    | .next => evSs C ss r.2.1 r.2.2
    | f => .ok (f, r.2)
def kRun : FlowV × VEnv × List V → RV := fun r => match r.1 with
  | .ret d => .ok (d, r.2.2)
  | .next => .ok (.non, r.2.2)
  | _ => .stuck
def kInit : FlowV × VEnv × List V → RV := fun r => match r.1 with
  | .next => (match r.2.1 with
    | some (.own true v) :: _ => .ok (v, r.2.2)
    | _ => .stuck)
  | _ => .stuck
def kForN (t : T) (f : VEnv → List V → RSV) (xs : List V) : FlowV × VEnv × List V → RSV := fun r => match r.1 with
      | .next => forV t f xs r.2.1 r.2.2
      | .cont => forV t f xs r.2.1 r.2.2
      | .brk => .ok (.next, r.2)
      | .ret d => .ok (.ret d, r.2)
def kWh2 (g : VEnv → List V → Rv (Bool × List V)) (f : VEnv → List V → RSV) (n : Nat) : FlowV × VEnv × List V → RSV := fun r => match r.1 with
      | .next => whileV g f n r.2.1 r.2.2
      | .cont => whileV g f n r.2.1 r.2.2
      | .brk => .ok (.next, r.2)
      | .ret d => .ok (.ret d, r.2)
def kWh1 (g : VEnv → List V → Rv (Bool × List V)) (f : VEnv → List V → RSV) (n : Nat) (env : VEnv) : Bool × List V → RSV := fun b => match b.1 with
    | false => .ok (.next, env, b.2)
    | true => (f env b.2).bind (kWh2 g f n)
def kLc1 (f : V → List V → Rv (Option V × List V)) (xs : List V) : Option V × List V → Rv (List V × List V) := fun r => (lcV f xs r.2).bind fun q => .ok (r.1.toList ++ q.1, q.2)
end defs
section steps
variable {C : VCtx} {env : VEnv} {H : List V} {a b c : E} {x y z : V} {e : E} {i : Nat} {t : T}
theorem s_var : evE C (.var i) env H = vget env i H := by rw [evE]
theorem vget_0 {e : VEnv} : vget (some (.val x) :: e) 0 H = .ok (x, H) := (rfl)
theorem vget_s {e : VEnv} {s : Option Sl} : vget (s :: e) (i + 1) H = vget e i H := (rfl)
theorem vgetW_0 {e : VEnv} : vgetW (some (.val x) :: e) 0 H = .ok (x, H) := (rfl)
theorem vgetW_o {e : VEnv} {s : Bool} : vgetW (some (.own s x) :: e) 0 H = .ok (x, H) := (rfl)
theorem vgetW_s {e : VEnv} {s : Option Sl} : vgetW (s :: e) (i + 1) H = vgetW e i H := (rfl)
theorem s_con {d : D} : evE C (.con d) env H = mkRV (ofD d) H := by rw [evE]
theorem ofD_non : ofD .non = some .non := by rw [ofD]
theorem ofD_bl {p : Bool} : ofD (.bl p) = some (.bl p) := by rw [ofD]
theorem ofD_int {p : Int} : ofD (.int p) = some (.int p) := by rw [ofD]
theorem ofD_str {p : List Nat} : ofD (.str p) = some (.str p) := by rw [ofD]
theorem ofD_tup {p : List D} : ofD (.tup p) = (ofDs p).map .tup := by rw [ofD]
theorem ofDs_n : ofDs [] = some [] := by rw [ofDs]
theorem ofDs_c {p : D} {q : List D} : ofDs (p :: q) = (ofD p).bind fun v => (ofDs q).map fun vs => v :: vs := by rw [ofDs]
theorem wk_var {r : RV} : wk (.var i) env H r = vgetW env i H := (rfl)
theorem wk_con {r : RV} {d : D} : wk (.con d) env H r = r := (rfl)
theorem wk_bin {r : RV} {o : Bin} : wk (.bin o a b) env H r = r := (rfl)
theorem wk_neg {r : RV} : wk (.neg a) env H r = r := (rfl)
theorem wk_cmp {r : RV} {o : Cmp} : wk (.cmp o a b) env H r = r := (rfl)
theorem wk_chain {r : RV} {o p : Cmp} : wk (.chain o p a b c) env H r = r := (rfl)
theorem wk_and {r : RV} : wk (.and a b) env H r = r := (rfl)
theorem wk_or {r : RV} : wk (.or a b) env H r = r := (rfl)
theorem wk_not {r : RV} : wk (.not a) env H r = r := (rfl)
theorem wk_ite {r : RV} {t : B} : wk (.ite t a b) env H r = r := (rfl)
theorem wk_tup {r : RV} {l : List E} : wk (.tup l) env H r = r := (rfl)
theorem wk_lst {r : RV} {l : List E} : wk (.lst l) env H r = r := (rfl)
theorem wk_dct {r : RV} {l : List E} : wk (.dct l) env H r = r := (rfl)
theorem wk_idx {r : RV} : wk (.idx a b) env H r = r := (rfl)
theorem wk_sl {r : RV} {lo hi : Option E} : wk (.sl a lo hi) env H r = r := (rfl)
theorem wk_rev {r : RV} : wk (.rev a) env H r = r := (rfl)
theorem wk_fld {r : RV} {f : Str} : wk (.fld a f) env H r = r := (rfl)
theorem wk_call {r : RV} {f : Nat} {l : List E} : wk (.call f l) env H r = r := (rfl)
theorem wk_new {r : RV} {f g : Nat} {l : List E} : wk (.new f g l) env H r = r := (rfl)
theorem wk_bif {r : RV} {f : Bif} {l : List E} : wk (.bif f l) env H r = r := (rfl)
theorem wk_mth {r : RV} {f : Mth} {l : List E} : wk (.mth f a l) env H r = r := (rfl)
theorem wk_isT {r : RV} {t : Ty} : wk (.isT t a) env H r = r := (rfl)
theorem wk_isC {r : RV} {t : Nat} : wk (.isC t a) env H r = r := (rfl)
theorem wk_lc {r : RV} {it : I} {cs : List B} {own : List Nat} : wk (.lc a t it cs own) env H r = r := (rfl)
theorem wk_dc {r : RV} {it : I} {cs : List B} {own : List Nat} : wk (.dc a b t it cs own) env H r = r := (rfl)
theorem wks_t {r : RV} : wks true e env H r = r := (rfl)
theorem wks_f {r : RV} : wks false e env H r = wk e env H r := (rfl)
theorem s_bin {o : Bin} : evE C (.bin o a b) env H = (wk a env H (evE C a env H)).bind (kBin1 C o b env) := by rw [evE]; rfl
theorem s_bin1 {o : Bin} : kBin1 C o b env (x, H) = (wk b env H (evE C b env H)).bind (kBin2 o x) := (rfl)
theorem s_bin2 {o : Bin} : kBin2 o x (y, H) = mkRV (binV o x y) H := (rfl)
theorem s_neg : evE C (.neg a) env H = (evE C a env H).bind kNeg := by rw [evE]; rfl
theorem s_neg1 {i : Int} : kNeg (.int i, H) = .ok (.int (-i), H) := (rfl)
theorem s_cmp {o : Cmp} : evE C (.cmp o a b) env H = (wk a env H (evE C a env H)).bind (kCmp1 C o b env) := by rw [evE]; rfl
theorem s_cmp1 {o : Cmp} : kCmp1 C o b env (x, H) = (wk b env H (evE C b env H)).bind (kCmp2 o x) := (rfl)
theorem s_cmp2 {o : Cmp} : kCmp2 o x (y, H) = mkRV ((cmpV o x y).map .bl) H := (rfl)
theorem s_ch {o p : Cmp} : evE C (.chain o p a b c) env H = (evE C a env H).bind (kCh1 C o p b c env) := by rw [evE]; rfl
theorem s_ch1 {o p : Cmp} : kCh1 C o p b c env (x, H) = (evE C b env H).bind (kCh2 C o p c env x) := (rfl)
theorem s_ch2 {o p : Cmp} : kCh2 C o p c env x (y, H) = (mkRV ((cmpV o x y).map .bl) H).bind (kCh3 C p c env y) := (rfl)
theorem s_ch3t {p : Cmp} : kCh3 C p c env y (.bl true, H) = (evE C c env H).bind (kCh4 p y) := (rfl)
theorem s_ch3f {p : Cmp} : kCh3 C p c env y (.bl false, H) = .ok (.bl false, H) := (rfl)
theorem s_ch4 {p : Cmp} : kCh4 p y (z, H) = mkRV ((cmpV p y z).map .bl) H := (rfl)
theorem s_and : evE C (.and a b) env H = (evE C a env H).bind (kAnd C b env) := by rw [evE]; rfl
theorem s_and1 : kAnd C b env (x, H) = kAndT C b env x H (truthV x) := (rfl)
theorem s_andt : kAndT C b env x H (some true) = evE C b env H := (rfl)
theorem s_andf : kAndT C b env x H (some false) = .ok (x, H) := (rfl)
theorem s_or : evE C (.or a b) env H = (evE C a env H).bind (kOr C b env) := by rw [evE]; rfl
theorem s_or1 : kOr C b env (x, H) = kOrT C b env x H (truthV x) := (rfl)
theorem s_orf : kOrT C b env x H (some false) = evE C b env H := (rfl)
theorem s_ort : kOrT C b env x H (some true) = .ok (x, H) := (rfl)
theorem s_not : evE C (.not a) env H = (wk a env H (evE C a env H)).bind kNot := by rw [evE]; rfl
theorem s_not1 : kNot (x, H) = kNotT H (truthV x) := (rfl)
theorem s_not2 {t : Bool} : kNotT H (some t) = .ok (.bl (!t), H) := (rfl)
theorem s_ite {t : B} : evE C (.ite t a b) env H = (evB C t env H).bind (kIte C a b env) := by rw [evE]; rfl
theorem s_itet : kIte C a b env (true, H) = evE C a env H := (rfl)
theorem s_itef : kIte C a b env (false, H) = evE C b env H := (rfl)
theorem s_tup {l : List E} : evE C (.tup l) env H = (evEs C l env H).bind kTup := by rw [evE]; rfl
theorem s_tup1 {l : List V} : kTup (l, H) = mustV (decide (l.length ≤ lim)) (.ok (.tup l, H)) := (rfl)
theorem s_lst {l : List E} : evE C (.lst l) env H = (evEs C l env H).bind kLst := by rw [evE]; rfl
theorem s_lst1 {l : List V} : kLst (l, H) = mustV (decide (l.length ≤ lim)) (.ok (.lst l, H)) := (rfl)
theorem s_dct {l : List E} : evE C (.dct l) env H = (evEs C l env H).bind kDct := by rw [evE]; rfl
theorem s_dct0 : kDct ([], H) = .ok (.dct [], H) := (rfl)
theorem s_dct1 {l : List V} : kDct (l, H) = mkRV (((pairUpV l).bind (putAllV [])).map .dct) H := (rfl)
theorem s_idx : evE C (.idx a b) env H = (wk a env H (evE C a env H)).bind (kIdx1 C b env) := by rw [evE]; rfl
theorem s_idx1 : kIdx1 C b env (x, H) = (evE C b env H).bind (kIdx2 x) := (rfl)
theorem s_idx2 : kIdx2 x (y, H) = hidx x y H := (rfl)
theorem s_sl {lo hi : Option E} : evE C (.sl a lo hi) env H = (wk a env H (evE C a env H)).bind (kSl1 C lo hi env) := by rw [evE]; rfl
theorem s_sl1 {lo hi : Option E} : kSl1 C lo hi env (x, H) = (evO C lo env H).bind (kSl2 C hi env x) := (rfl)
theorem s_sl2 {hi : Option E} {lo : Option Int} : kSl2 C hi env x (lo, H) = (evO C hi env H).bind (kSl3 x lo) := (rfl)
theorem s_sl3 {lo hi : Option Int} : kSl3 x lo (hi, H) = mkRV (slV x lo hi) H := (rfl)
theorem s_rev : evE C (.rev a) env H = (wk a env H (evE C a env H)).bind kRev := by rw [evE]; rfl
theorem s_rev1 : kRev (x, H) = mkRV (revV x) H := (rfl)
theorem s_fld {f : Str} : evE C (.fld a f) env H = (wk a env H (evE C a env H)).bind (kFld f) := by rw [evE]; rfl
theorem s_fld1 {f : Str} : kFld f (x, H) = mkRV (fldV x f) H := (rfl)
theorem s_call {f : Nat} {l : List E} : evE C (.call f l) env H = (evEs C l env H).bind (kCall C f) := by rw [evE]; rfl
theorem s_call1 {P : List Fn} {N : Nat} {O : Orc} {k f : Nat} {l : List V} : kCall (vctx P N O k) f (l, H) = callV P N O k f l H := (rfl)
theorem s_call2 {p : Nat → List V → List V → RV} {q : Nat → Nat → List V → List V → RV} {n f : Nat} {l : List V} : kCall ⟨p, q, n⟩ f (l, H) = p f l H := (rfl)
theorem s_initn : kInit (.next, some (.own true x) :: env, H) = .ok (x, H) := (rfl)
theorem attr_v {n : Nat} {fs : List (Str × V)} {f : Str} (l : fs.length < 1000) (h : ∀ p ∈ fs, p.1 ≠ f) : attrV (.own true (.ins n fs)) f x = some (.own true (.ins n (fs ++ [(f, x)]))) := by
  have : ∀ fs : List (Str × V), (∀ p ∈ fs, p.1 ≠ f) → putFV f x fs = fs ++ [(f, x)] := by
    intro fs
    induction fs with
    | nil => intro _; rfl
    | cons a r ih =>
      intro h
      obtain ⟨g, y⟩ := a
      rw [putFV, if_neg (h _ (List.mem_cons_self ..)), ih fun p m => h p (List.mem_cons_of_mem _ m)]; rfl
  unfold attrV
  dsimp only
  rw [decide_eq_true l, this fs h]; rfl
theorem s_new {f g : Nat} {l : List E} : evE C (.new f g l) env H = (evEs C l env H).bind (kNew C f g) := by rw [evE]; rfl
theorem s_new1 {P : List Fn} {N : Nat} {O : Orc} {k c f : Nat} {l : List V} : kNew (vctx P N O k) c f (l, H) = initV P N O k c f l H := (rfl)
theorem s_bif {f : Bif} {l : List E} : evE C (.bif f l) env H = (evWs C l env H).bind (kBif f) := by rw [evE]; rfl
theorem s_bif1 {f : Bif} : kBif f ([x], H) = mkRV (bif1V f x) H := (rfl)
theorem s_mth {m : Mth} {l : List E} : evE C (.mth m a l) env H = (wk a env H (evE C a env H)).bind (kMth C m l env) := by cases m <;> (rw [evE]; rfl)
theorem s_mget {l : List E} {k : List (D × V)} : kMth C .get l env (.dct k, H) = (evEs C l env H).bind (kMth2 .get (.dct k)) := (rfl)
theorem s_mindex {l : List E} {k : List V} : kMth C .index l env (.lst k, H) = (evWs C l env H).bind (kMth2 .index (.lst k)) := (rfl)
theorem s_mjoin {l : List E} {k : List Nat} : kMth C .join l env (.str k, H) = (evWs C l env H).bind (kMth2 .join (.str k)) := (rfl)
theorem s_mcount {l : List E} {k : List Nat} : kMth C .count l env (.str k, H) = (evWs C l env H).bind (kMth2 .count (.str k)) := (rfl)
theorem s_mth2 {m : Mth} {l : List V} : kMth2 m x (l, H) = mkRV (mthV m x l) H := (rfl)
theorem s_isT {t : Ty} : evE C (.isT t a) env H = (wk a env H (evE C a env H)).bind (kIsT t) := by rw [evE]; rfl
theorem s_isT1 {t : Ty} : kIsT t (x, H) = mkRV (isTyV t x) H := (rfl)
theorem s_isC {t : Nat} : evE C (.isC t a) env H = (wk a env H (evE C a env H)).bind (kIsC t) := by rw [evE]; rfl
theorem s_lc {it : I} {cs : List B} {own : List Nat} : evE C (.lc e t it cs own) env H = (evI C false it env H).bind (kLc C e t cs own env) := by rw [evE]; rfl
theorem s_lc1 {cs : List B} {own : List Nat} {xs : List V} : kLc C e t cs own env (xs, H) = (lcV (fLc C e t cs own env) xs H).bind kLst := (rfl)
theorem s_flc {cs : List B} {own : List Nat} {d : V} {e2 : VEnv} (h : asgTV t d (wipeV env own) = some e2) : fLc C e t cs own env d H = (evBs C cs e2 H).bind (kLcB C e e2) := by unfold fLc; rw [h]; rfl
theorem s_lcBt : kLcB C e env (true, H) = (evE C e env H).bind kLcV := (rfl)
theorem s_lcBf : kLcB C e env (false, H) = .ok (none, H) := (rfl)
theorem s_lcV : kLcV (x, H) = .ok (some x, H) := (rfl)
theorem s_dc {k v : E} {it : I} {cs : List B} {own : List Nat} : evE C (.dc k v t it cs own) env H = (evI C false it env H).bind (kDc C k v t cs own env) := by rw [evE]; rfl
theorem s_dc1 {k v : E} {cs : List B} {own : List Nat} {xs : List V} : kDc C k v t cs own env (xs, H) = (dcV (fDc C k v t cs own env) xs [] H).bind kDc2 := (rfl)
theorem s_dc2 {kvs : List (D × V)} : kDc2 (kvs, H) = .ok (.dct kvs, H) := (rfl)
theorem s_fdc {k v : E} {cs : List B} {own : List Nat} {d : V} {e2 : VEnv} (h : asgTV t d (wipeV env own) = some e2) : fDc C k v t cs own env d H = (evBs C cs e2 H).bind (kDcB C k v e2) := by unfold fDc; rw [h]; rfl
theorem s_dcBt {k v : E} : kDcB C k v env (true, H) = (evE C k env H).bind (kDcK C v env) := (rfl)
theorem s_dcBf {k v : E} : kDcB C k v env (false, H) = .ok (none, H) := (rfl)
theorem s_dcK {v : E} : kDcK C v env (x, H) = (evE C v env H).bind (kDcV x) := (rfl)
theorem s_dcV : kDcV x (y, H) = .ok (some (x, y), H) := (rfl)
theorem s_es0 : evEs C [] env H = .ok ([], H) := by rw [evEs]
theorem s_es {es : List E} : evEs C (e :: es) env H = (evE C e env H).bind (kEs C es env) := by rw [evEs]; rfl
theorem s_es1 {es : List E} : kEs C es env (x, H) = (evEs C es env H).bind (kEs2 x) := (rfl)
theorem s_es2 {l : List V} : kEs2 x (l, H) = .ok (x :: l, H) := (rfl)
theorem s_ws0 : evWs C [] env H = .ok ([], H) := by rw [evWs]
theorem s_ws {es : List E} : evWs C (e :: es) env H = (wk e env H (evE C e env H)).bind (kWs C es env) := by rw [evWs]; rfl
theorem s_ws1 {es : List E} : kWs C es env (x, H) = (evWs C es env H).bind (kEs2 x) := (rfl)
theorem s_o0 : evO C none env H = .ok (none, H) := by rw [evO]
theorem s_o : evO C (some e) env H = (evE C e env H).bind kO := by rw [evO]; rfl
theorem s_o1 {i : Int} : kO (.int i, H) = .ok (some i, H) := (rfl)
theorem s_ba {a b : B} : evB C (.and a b) env H = (evB C a env H).bind (kBA C b env) := by rw [evB]; rfl
theorem s_bat {b : B} : kBA C b env (true, H) = evB C b env H := (rfl)
theorem s_baf {b : B} : kBA C b env (false, H) = .ok (false, H) := (rfl)
theorem s_bo {a b : B} : evB C (.or a b) env H = (evB C a env H).bind (kBO C b env) := by rw [evB]; rfl
theorem s_bof {b : B} : kBO C b env (false, H) = evB C b env H := (rfl)
theorem s_bot {b : B} : kBO C b env (true, H) = .ok (true, H) := (rfl)
theorem s_bn {a : B} : evB C (.not a) env H = (evB C a env H).bind kBN := by rw [evB]; rfl
theorem s_bn1 {q : Bool} : kBN (q, H) = .ok (!q, H) := (rfl)
theorem s_bv : evB C (.val e) env H = (wk e env H (evE C e env H)).bind kBV := by rw [evB]; rfl
theorem s_bv1 : kBV (x, H) = kBVT H (truthV x) := (rfl)
theorem s_bv2 {q : Bool} : kBVT H (some q) = .ok (q, H) := (rfl)
theorem s_bs0 : evBs C [] env H = .ok (true, H) := by rw [evBs]
theorem s_bs {b : B} {bs : List B} : evBs C (b :: bs) env H = (evB C b env H).bind (kBs C bs env) := by rw [evBs]; rfl
theorem s_bst {bs : List B} : kBs C bs env (true, H) = evBs C bs env H := (rfl)
theorem s_bsf {bs : List B} : kBs C bs env (false, H) = .ok (false, H) := (rfl)
theorem s_pl {st : Bool} : evI C st (.pl e) env H = (wks st e env H (evE C e env H)).bind kPl := by rw [evI]; rfl
theorem s_plt {l : List V} : kPl (.tup l, H) = .ok (l, H) := (rfl)
theorem s_pls {s : List Nat} : kPl (.str s, H) = .ok (signsV s, H) := (rfl)
theorem s_pll {l : List V} : kPl (.lst l, H) = .ok (l, H) := (rfl)
theorem s_en {st : Bool} : evI C st (.en e) env H = (wks st e env H (evE C e env H)).bind kEn := by rw [evI]; rfl
theorem s_ent {l : List V} : kEn (.tup l, H) = .ok (enumV 0 l, H) := (rfl)
theorem s_ens {s : List Nat} : kEn (.str s, H) = .ok (enumV 0 (signsV s), H) := (rfl)
theorem s_enl {l : List V} : kEn (.lst l, H) = .ok (enumV 0 l, H) := (rfl)
theorem s_r1 {st : Bool} : evI C st (.r1 e) env H = (evE C e env H).bind kR1 := by rw [evI]; rfl
theorem small_nat {j : Nat} (h : j < 4611686018427387904) : small (j : Int) = true := by
  unfold small
  have e : (2 : Int) ^ 62 = 4611686018427387904 := by decide
  rw [decide_eq_true (by omega), decide_eq_true (by omega)]; rfl
theorem s_r11 {j : Nat} (h : j < 4611686018427387904) : kR1 (.int j, H) = .ok (rangeV 0 j, H) := by
  show mustV (small j) _ = _
  rw [small_nat h]; rfl
theorem s_r2 {st : Bool} : evI C st (.r2 a b) env H = (evE C a env H).bind (kR2 C b env) := by rw [evI]; rfl
theorem s_r21 : kR2 C b env (x, H) = (evE C b env H).bind (kR3 x) := (rfl)
theorem s_r3 {i j : Int} : kR3 (.int i) (.int j, H) = mustV (small i && small j) (.ok (rangeV i (j - i).toNat, H)) := (rfl)
theorem s_zp {st : Bool} : evI C st (.zp a b) env H = (wks st a env H (evE C a env H)).bind (kZp C st b env) := by rw [evI]; rfl
theorem s_zp1 {st : Bool} : kZp C st b env (x, H) = (wks st b env H (evE C b env H)).bind (kZp2 x) := (rfl)
theorem s_zp2 : kZp2 x (y, H) = (Rv.of (itemsV x)).bind fun l => (Rv.of (itemsV y)).bind fun m => .ok (zipV l m, H) := (rfl)
theorem s_its {st : Bool} : evI C st (.its e) env H = (wks st e env H (evE C e env H)).bind kIts := by rw [evI]; rfl
theorem s_its1 {kvs : List (D × V)} : kIts (.dct kvs, H) = (Rv.of (ofDs (kvs.map Prod.fst))).bind fun ks => .ok (zipV ks (kvs.map Prod.snd), H) := (rfl)
theorem s_vls {st : Bool} : evI C st (.vls e) env H = (wks st e env H (evE C e env H)).bind kVls := by rw [evI]; rfl
theorem s_vls1 {kvs : List (D × V)} : kVls (.dct kvs, H) = .ok (kvs.map Prod.snd, H) := (rfl)
/-! statements -/
theorem frz_n : frz [] env = env := (rfl)
theorem frz_c {is : List Nat} : frz (i :: is) env = frz is (frz1 i env) := (rfl)
theorem frz1_v {r : VEnv} : frz1 0 (some (.val x) :: r) = some (.val x) :: r := (rfl)
theorem frz1_o {r : VEnv} {s : Bool} : frz1 0 (some (.own s x) :: r) = some (.val x) :: r := (rfl)
theorem frz1_n {r : VEnv} : frz1 0 (none :: r) = none :: r := (rfl)
theorem frz1_s {s : Option Sl} {r : VEnv} : frz1 (i + 1) (s :: r) = s :: frz1 i r := by rw [frz1]
theorem so_f : slot_of false x = .val x := (rfl)
theorem so_l {l : List V} : slot_of true (.lst l) = .own false (.lst l) := (rfl)
theorem so_d {l : List (D × V)} : slot_of true (.dct l) = .own false (.dct l) := (rfl)
theorem so_i {l : Int} : slot_of true (.int l) = .val (.int l) := (rfl)
theorem so_s {l : List Nat} : slot_of true (.str l) = .val (.str l) := (rfl)
theorem so_t {l : List V} : slot_of true (.tup l) = .val (.tup l) := (rfl)
theorem s_asg (h : isPop e = false) : evS C (.asg (.slot i) e) env H = (evE C e (frz (escE e) env) H).bind (kAsg1 (isAlloc e) i (frz (escE e) env)) := by
  rw [evS]
  show (if isPop e = true then _ else _) = _
  rw [if_neg (by rw [h]; decide)]; rfl
theorem s_asgp (h : isPop e = true) : evS C (.asg (.slot i) e) env H = (evP C e env H).bind (kAsgP i) := by
  rw [evS]
  show (if isPop e = true then _ else _) = _
  rw [if_pos h]; rfl
theorem s_asg1 {al : Bool} : kAsg1 al i env (x, H) = .ok (.next, env.set i (some (slot_of al x)), H) := (rfl)
theorem s_asgp1 : kAsgP i (x, env, H) = .ok (.next, env.set i (some (.val x)), H) := (rfl)
def isTupE : E → Bool
  | .tup _ => true
  | _ => false
theorem s_asgT {ts : List T} (h : isTupE e = false) : evS C (.asg (.tup ts) e) env H = (evP C e env H).bind (kAsgT (.tup ts)) := by
  rw [evS]
  cases e <;> first | rfl | cases h
theorem s_asgT1 : kAsgT t (x, env, H) = (Rv.of (asgTV t x env)).bind fun e2 => .ok (.next, e2, H) := (rfl)
def kTT (C : VCtx) (ts : List T) (es : List E) (env : VEnv) (H : List V) (o : Option (List Nat)) : RSV := match o with
  | some is => mustV (decide (is.length = es.length) && decide (es.length ≤ lim)) ((evAs C es (frz (escEs es) env) H).bind (kAsgS is (frz (escEs es) env)))
  | none => (evE C (.tup es) (frz (escEs es) env) H).bind fun x => (Rv.of (asgTV (.tup ts) x.1 (frz (escEs es) env))).bind fun e2 => .ok (.next, e2, x.2)
theorem s_asgS {ts : List T} {es : List E} : evS C (.asg (.tup ts) (.tup es)) env H = kTT C ts es env H (slotsOf ts) := by
  rw [evS]
  unfold asgS kTT
  dsimp only
  cases slotsOf ts <;> rfl
theorem s_tts {ts : List T} {es : List E} {is : List Nat} : kTT C ts es env H (some is) = mustV (decide (is.length = es.length) && decide (es.length ≤ lim)) ((evAs C es (frz (escEs es) env) H).bind (kAsgS is (frz (escEs es) env))) := (rfl)
theorem s_asgS1 {is : List Nat} {l : List Sl} : kAsgS is env (l, H) = .ok (.next, setAll is l env, H) := (rfl)
theorem sa_n : evAs C [] env H = .ok ([], H) := (rfl)
theorem sa_c {es : List E} : evAs C (e :: es) env H = (evE C e env H).bind (kAs C (isAlloc e) es env) := (rfl)
theorem sa_1 {al : Bool} {es : List E} : kAs C al es env (x, H) = (evAs C es env H).bind (kAs2 (slot_of al x)) := (rfl)
theorem sa_2 {s : Sl} {l : List Sl} : kAs2 s (l, H) = .ok (s :: l, H) := (rfl)
theorem set_n1 {s : List Sl} : setAll [] s env = env := (rfl)
theorem set_c {s : Sl} {ss : List Sl} {is : List Nat} : setAll (i :: is) (s :: ss) env = setAll is ss (env.set i (some s)) := (rfl)
theorem so_n : slotsOf [] = some [] := (rfl)
theorem so_c {ts : List T} : slotsOf (.slot i :: ts) = (slotsOf ts).map (i :: ·) := (rfl)
theorem so_x {ts us : List T} : slotsOf (.tup us :: ts) = none := (rfl)
def isMut : E → Bool
  | .mth .append (.var _) _ => true
  | .mth .extend (.var _) _ => true
  | _ => false
theorem s_p (h : isPop e = false) : evP C e env H = (evE C e (frz (escE e) env) H).bind (kP (frz (escE e) env)) := by
  unfold evP
  split
  · cases h
  · rfl
theorem s_p1 : kP env (x, H) = .ok (x, env, H) := (rfl)
theorem s_pp {as : List E} : evP C (.mth .pop (.var i) as) env H = (Rv.of (ownL (frz (escEs as) env) i)).bind fun l => (evEs C as (frz (escEs as) env) H).bind (kPop (frz (escEs as) env) i l) := (rfl)
theorem s_pp1 {l as : List V} : kPop env i l (as, H) = (Rv.of (popV l as)).bind fun p => .ok (p.1, env.set i (some (.own false (.lst p.2))), H) := (rfl)
theorem ownL_0 {l : List V} {r : VEnv} : ownL (some (.own false (.lst l)) :: r) 0 = some l := (rfl)
theorem ownL_s {s : Option Sl} {r : VEnv} : ownL (s :: r) (i + 1) = ownL r i := (rfl)
theorem s_app : evS C (.expr (.mth .append (.var i) [e])) env H = (Rv.of (ownL env i)).bind fun _ => (evP C e env H).bind (kApp i) := by rw [evS]; rfl
theorem s_app1 : kApp i (x, env, H) = (Rv.of (ownL env i)).bind fun l => mustV (decide (l.length < lim)) (.ok (.next, env.set i (some (.own false (.lst (l ++ [x])))), H)) := (rfl)
theorem s_ext : evS C (.expr (.mth .extend (.var i) [e])) env H = (Rv.of (ownL (frz (ew e (escE e)) env) i)).bind fun l => (wk e (frz (ew e (escE e)) env) H (evE C e (frz (ew e (escE e)) env) H)).bind (kExt (frz (ew e (escE e)) env) i l) := by rw [evS]; rfl
theorem s_ext1 {l k : List V} : kExt env i l (.lst k, H) = mustV (decide (l.length + k.length ≤ lim)) (.ok (.next, env.set i (some (.own false (.lst (l ++ k)))), H)) := (rfl)
theorem s_exc {f : Nat} {l : List E} : evS C (.expr (.call f l)) env H = (evP C (.call f l) env H).bind kExp := by rw [evS]; rfl
theorem s_ex1 : kExp (x, env, H) = .ok (.next, env, H) := (rfl)
theorem s_sub {n : Nat} : evS C (.asub (.var n) a e) env H = (evE C e (frz (escE e ++ escE a) env) H).bind (kSub1 C (frz (escE e ++ escE a) env) n a) := by rw [evS]; rfl
theorem s_sub1 {n : Nat} {s : Sl} (h : vslot env n = some s) : kSub1 C env n a (x, H) = (evE C a env H).bind (kSub2 env n x s) := by unfold kSub1; rw [h]; rfl
theorem s_sub2 {n : Nat} {s : Sl} {v : V} : kSub2 env n v s (y, H) = (Rv.of (setV s y v H)).bind (kSub3 env n) := (rfl)
theorem s_sub3 {n : Nat} {s : Sl} : kSub3 env n (s, H) = .ok (.next, env.set n (some s), H) := (rfl)
theorem vslot_0 {s : Sl} {r : VEnv} : vslot (some s :: r) 0 = some s := (rfl)
theorem vslot_s {s : Option Sl} {r : VEnv} : vslot (s :: r) (i + 1) = vslot r i := (rfl)
theorem s_attr {n : Nat} {f : Str} : evS C (.aattr (.var n) f e) env H = (evE C e (frz (escE e) env) H).bind (kAttr (frz (escE e) env) n f) := by rw [evS]; rfl
theorem s_attr1 {n : Nat} {f : Str} {s r : Sl} (h : vslot env n = some s) (k : attrV s f x = some r) : kAttr env n f (x, H) = .ok (.next, env.set n (some r), H) := by unfold kAttr; dsimp only; rw [h, Option.bind_some, k]; rfl
theorem s_ret (h : isPop e = false) : evS C (.ret e) env H = (evE C e (frz (escE e) env) H).bind fun x => .ok (.ret x.1, frz (escE e) env, x.2) := by
  rw [evS, s_p h]
  cases evE C e (frz (escE e) env) H <;> rfl
theorem s_retN : evS C .retN env H = .ok (.ret .non, env, H) := by rw [evS]
theorem s_if {t : B} {a b : List S} : evS C (.ite t a b) env H = (evB C t (frz (escB t) env) H).bind (kIf C a b (frz (escB t) env)) := by rw [evS]; rfl
theorem s_ift {a b : List S} : kIf C a b env (true, H) = evSs C a env H := (rfl)
theorem s_iff {a b : List S} : kIf C a b env (false, H) = evSs C b env H := (rfl)
theorem s_whl {t : B} {b : List S} : evS C (.whl t b) env H = whileV (evB C t) (evSs C b) C.fuel env H := by rw [evS]
theorem s_for {it : I} {b : List S} : evS C (.for_ t it b) env H = (evI C true it (frz (escI true it) env) H).bind (kFor C t b (frz (escI true it) env)) := by rw [evS]; rfl
theorem s_for1 {b : List S} {xs : List V} : kFor C t b env (xs, H) = forV t (evSs C b) xs env H := (rfl)
theorem s_pass : evS C .pass env H = .ok (.next, env, H) := by rw [evS]
theorem s_brk : evS C .brk env H = .ok (.brk, env, H) := by rw [evS]
theorem s_cont : evS C .cont env H = .ok (.cont, env, H) := by rw [evS]
theorem s_ss0 : evSs C [] env H = .ok (.next, env, H) := by rw [evSs]
theorem s_ss {s : S} {ss : List S} : evSs C (s :: ss) env H = (evS C s env H).bind (kSs C ss) := by rw [evSs]; rfl
theorem s_ssn {ss : List S} : kSs C ss (.next, env, H) = evSs C ss env H := (rfl)
theorem s_ssr {ss : List S} : kSs C ss (.ret x, env, H) = .ok (.ret x, env, H) := (rfl)
theorem s_ssb {ss : List S} : kSs C ss (.brk, env, H) = .ok (.brk, env, H) := (rfl)
theorem s_ssc {ss : List S} : kSs C ss (.cont, env, H) = .ok (.cont, env, H) := (rfl)
theorem s_runr : kRun (.ret x, env, H) = .ok (x, H) := (rfl)
theorem s_runn : kRun (.next, env, H) = .ok (.non, H) := (rfl)
theorem fv_n {f : VEnv → List V → RSV} : forV t f [] env H = .ok (.next, env, H) := (rfl)
theorem fv_c {f : VEnv → List V → RSV} {xs : List V} {e2 : VEnv} (h : asgTV t x env = some e2) : forV t f (x :: xs) env H = (f e2 H).bind (kForN t f xs) := by rw [forV, h]; rfl
theorem fv_1 {f : VEnv → List V → RSV} {xs : List V} : forV (.slot i) f (x :: xs) env H = (f (env.set i (some (.val x))) H).bind (kForN (.slot i) f xs) := fv_c (by rw [asgTV])
theorem fv_2 {f : VEnv → List V → RSV} {xs : List V} {j : Nat} : forV (.tup [.slot i, .slot j]) f (.tup [x, y] :: xs) env H = (f ((env.set i (some (.val x))).set j (some (.val y))) H).bind (kForN (.tup [.slot i, .slot j]) f xs) := fv_c (by simp [asgTV, asgTsV])
theorem fv_3 {f : VEnv → List V → RSV} {xs : List V} {j k : Nat} : forV (.tup [.slot i, .slot j, .slot k]) f (.tup [x, y, z] :: xs) env H = (f (((env.set i (some (.val x))).set j (some (.val y))).set k (some (.val z))) H).bind (kForN (.tup [.slot i, .slot j, .slot k]) f xs) := fv_c (by simp [asgTV, asgTsV])
theorem fn_n {f : VEnv → List V → RSV} {xs : List V} : kForN t f xs (.next, env, H) = forV t f xs env H := (rfl)
theorem fn_c {f : VEnv → List V → RSV} {xs : List V} : kForN t f xs (.cont, env, H) = forV t f xs env H := (rfl)
theorem fn_b {f : VEnv → List V → RSV} {xs : List V} : kForN t f xs (.brk, env, H) = .ok (.next, env, H) := (rfl)
theorem fn_r {f : VEnv → List V → RSV} {xs : List V} : kForN t f xs (.ret x, env, H) = .ok (.ret x, env, H) := (rfl)
theorem wv_s {g : VEnv → List V → Rv (Bool × List V)} {f : VEnv → List V → RSV} {n : Nat} : whileV g f (n + 1) env H = (g env H).bind (kWh1 g f n env) := (rfl)
theorem wv_f {g : VEnv → List V → Rv (Bool × List V)} {f : VEnv → List V → RSV} {n : Nat} : kWh1 g f n env (false, H) = .ok (.next, env, H) := (rfl)
theorem wv_t {g : VEnv → List V → Rv (Bool × List V)} {f : VEnv → List V → RSV} {n : Nat} : kWh1 g f n env (true, H) = (f env H).bind (kWh2 g f n) := (rfl)
theorem wv_n {g : VEnv → List V → Rv (Bool × List V)} {f : VEnv → List V → RSV} {n : Nat} : kWh2 g f n (.next, env, H) = whileV g f n env H := (rfl)
theorem wv_c {g : VEnv → List V → Rv (Bool × List V)} {f : VEnv → List V → RSV} {n : Nat} : kWh2 g f n (.cont, env, H) = whileV g f n env H := (rfl)
theorem wv_b {g : VEnv → List V → Rv (Bool × List V)} {f : VEnv → List V → RSV} {n : Nat} : kWh2 g f n (.brk, env, H) = .ok (.next, env, H) := (rfl)
theorem wv_r {g : VEnv → List V → Rv (Bool × List V)} {f : VEnv → List V → RSV} {n : Nat} : kWh2 g f n (.ret x, env, H) = .ok (.ret x, env, H) := (rfl)
theorem wi_n : wipeV env [] = env := (rfl)
theorem wi_c {is : List Nat} : wipeV env (i :: is) = (wipeV env is).set i none := (rfl)
theorem at_s : asgTV (.slot i) x env = some (env.set i (some (.val x))) := by rw [asgTV]
theorem at_t {ts : List T} {l : List V} : asgTV (.tup ts) (.tup l) env = asgTsV ts l env := by rw [asgTV]
theorem ats_n : asgTsV [] [] env = some env := by rw [asgTsV]
theorem ats_c {ts : List T} {l : List V} : asgTsV (t :: ts) (x :: l) env = (asgTV t x env).bind fun e => asgTsV ts l e := by rw [asgTsV]
theorem run_v {P : List Fn} {N : Nat} {O : Orc} {k f : Nat} {as : List V} {p n : Nat} {body : List S} (ho : O f = none) (hf : P[f]? = some ⟨p, n, body⟩) (h : as.length = p) : callV P N O (k + 1) f as H = (evSs (vctx P N O k) body (as.map (fun v => some (.val v)) ++ List.replicate (n - p) none) H).bind kRun := by
  rw [callV_run ho hf]
  unfold runFnV
  rw [decide_eq_true h]; rfl
theorem run_i {P : List Fn} {N : Nat} {O : Orc} {k c f : Nat} {as : List V} {p n : Nat} {body : List S} (hf : P[f]? = some ⟨p, n, body⟩) (h : as.length + 1 = p) : initV P N O (k + 1) c f as H = (evSs ⟨callV P N O k, fun _ _ _ _ => .stuck, N⟩ body (some (.own true (.ins c [])) :: (as.map (fun v => some (.val v)) ++ List.replicate (n - p) none)) H).bind kInit := by
  unfold initV
  dsimp only
  rw [hf]
  dsimp only
  unfold runInit
  rw [decide_eq_true h]; rfl
end steps
theorem inL_n : inL i [] = false := (rfl)
theorem inL_c {j : Nat} {js : List Nat} : inL i (j :: js) = ((i == j) || inL i js) := (rfl)
theorem cns_t {r : List Nat} : cns true i r = r := (rfl)
theorem cns_f {r : List Nat} : cns false i r = i :: r := (rfl)
theorem rmI_n {own : List Nat} : rmI own [] = [] := (rfl)
theorem rmI_c {own is : List Nat} : rmI own (i :: is) = cns (inL i own) i (rmI own is) := (rfl)
theorem esI_t {r : List Nat} : esI true e r = r := (rfl)
theorem esI_f {r : List Nat} : esI false e r = ew e r := (rfl)
/-! which expressions are which -/
theorem pop_var {i : Nat} : isPop (.var i) = false := (rfl)
theorem al_var {i : Nat} : isAlloc (.var i) = false := (rfl)
theorem tp_var {i : Nat} : isTupE (.var i) = false := (rfl)
theorem pop_con {d : D} : isPop (.con d) = false := (rfl)
theorem al_con {d : D} : isAlloc (.con d) = false := (rfl)
theorem tp_con {d : D} : isTupE (.con d) = false := (rfl)
theorem ew_con {d : D} {r : List Nat} : ew (.con d) r = r := (rfl)
theorem pop_bin {o : Bin} {a b : E} : isPop (.bin o a b) = false := (rfl)
theorem al_bin {o : Bin} {a b : E} : isAlloc (.bin o a b) = true := (rfl)
theorem tp_bin {o : Bin} {a b : E} : isTupE (.bin o a b) = false := (rfl)
theorem ew_bin {o : Bin} {a b : E} {r : List Nat} : ew (.bin o a b) r = r := (rfl)
theorem pop_neg {a : E} : isPop (.neg a) = false := (rfl)
theorem al_neg {a : E} : isAlloc (.neg a) = false := (rfl)
theorem tp_neg {a : E} : isTupE (.neg a) = false := (rfl)
theorem ew_neg {a : E} {r : List Nat} : ew (.neg a) r = r := (rfl)
theorem pop_cmp {o : Cmp} {a b : E} : isPop (.cmp o a b) = false := (rfl)
theorem al_cmp {o : Cmp} {a b : E} : isAlloc (.cmp o a b) = false := (rfl)
theorem tp_cmp {o : Cmp} {a b : E} : isTupE (.cmp o a b) = false := (rfl)
theorem ew_cmp {o : Cmp} {a b : E} {r : List Nat} : ew (.cmp o a b) r = r := (rfl)
theorem pop_chain {o p : Cmp} {a b c : E} : isPop (.chain o p a b c) = false := (rfl)
theorem al_chain {o p : Cmp} {a b c : E} : isAlloc (.chain o p a b c) = false := (rfl)
theorem tp_chain {o p : Cmp} {a b c : E} : isTupE (.chain o p a b c) = false := (rfl)
theorem ew_chain {o p : Cmp} {a b c : E} {r : List Nat} : ew (.chain o p a b c) r = r := (rfl)
theorem pop_and {a b : E} : isPop (.and a b) = false := (rfl)
theorem al_and {a b : E} : isAlloc (.and a b) = false := (rfl)
theorem tp_and {a b : E} : isTupE (.and a b) = false := (rfl)
theorem ew_and {a b : E} {r : List Nat} : ew (.and a b) r = r := (rfl)
theorem pop_or {a b : E} : isPop (.or a b) = false := (rfl)
theorem al_or {a b : E} : isAlloc (.or a b) = false := (rfl)
theorem tp_or {a b : E} : isTupE (.or a b) = false := (rfl)
theorem ew_or {a b : E} {r : List Nat} : ew (.or a b) r = r := (rfl)
theorem pop_not {a : E} : isPop (.not a) = false := (rfl)
theorem al_not {a : E} : isAlloc (.not a) = false := (rfl)
theorem tp_not {a : E} : isTupE (.not a) = false := (rfl)
theorem ew_not {a : E} {r : List Nat} : ew (.not a) r = r := (rfl)
theorem pop_ite {t : B} {a b : E} : isPop (.ite t a b) = false := (rfl)
theorem al_ite {t : B} {a b : E} : isAlloc (.ite t a b) = false := (rfl)
theorem tp_ite {t : B} {a b : E} : isTupE (.ite t a b) = false := (rfl)
theorem ew_ite {t : B} {a b : E} {r : List Nat} : ew (.ite t a b) r = r := (rfl)
theorem pop_tup {l : List E} : isPop (.tup l) = false := (rfl)
theorem al_tup {l : List E} : isAlloc (.tup l) = false := (rfl)
theorem ew_tup {l : List E} {r : List Nat} : ew (.tup l) r = r := (rfl)
theorem pop_lst {l : List E} : isPop (.lst l) = false := (rfl)
theorem al_lst {l : List E} : isAlloc (.lst l) = true := (rfl)
theorem tp_lst {l : List E} : isTupE (.lst l) = false := (rfl)
theorem ew_lst {l : List E} {r : List Nat} : ew (.lst l) r = r := (rfl)
theorem pop_dct {l : List E} : isPop (.dct l) = false := (rfl)
theorem al_dct {l : List E} : isAlloc (.dct l) = true := (rfl)
theorem tp_dct {l : List E} : isTupE (.dct l) = false := (rfl)
theorem ew_dct {l : List E} {r : List Nat} : ew (.dct l) r = r := (rfl)
theorem pop_idx {a b : E} : isPop (.idx a b) = false := (rfl)
theorem al_idx {a b : E} : isAlloc (.idx a b) = false := (rfl)
theorem tp_idx {a b : E} : isTupE (.idx a b) = false := (rfl)
theorem ew_idx {a b : E} {r : List Nat} : ew (.idx a b) r = r := (rfl)
theorem pop_sl {a : E} {lo hi : Option E} : isPop (.sl a lo hi) = false := (rfl)
theorem al_sl {a : E} {lo hi : Option E} : isAlloc (.sl a lo hi) = true := (rfl)
theorem tp_sl {a : E} {lo hi : Option E} : isTupE (.sl a lo hi) = false := (rfl)
theorem ew_sl {a : E} {lo hi : Option E} {r : List Nat} : ew (.sl a lo hi) r = r := (rfl)
theorem pop_rev {a : E} : isPop (.rev a) = false := (rfl)
theorem al_rev {a : E} : isAlloc (.rev a) = false := (rfl)
theorem tp_rev {a : E} : isTupE (.rev a) = false := (rfl)
theorem ew_rev {a : E} {r : List Nat} : ew (.rev a) r = r := (rfl)
theorem pop_fld {a : E} {f : Str} : isPop (.fld a f) = false := (rfl)
theorem al_fld {a : E} {f : Str} : isAlloc (.fld a f) = false := (rfl)
theorem tp_fld {a : E} {f : Str} : isTupE (.fld a f) = false := (rfl)
theorem ew_fld {a : E} {f : Str} {r : List Nat} : ew (.fld a f) r = r := (rfl)
theorem pop_call {f : Nat} {l : List E} : isPop (.call f l) = false := (rfl)
theorem al_call {f : Nat} {l : List E} : isAlloc (.call f l) = false := (rfl)
theorem tp_call {f : Nat} {l : List E} : isTupE (.call f l) = false := (rfl)
theorem ew_call {f : Nat} {l : List E} {r : List Nat} : ew (.call f l) r = r := (rfl)
theorem pop_new {c f : Nat} {l : List E} : isPop (.new c f l) = false := (rfl)
theorem al_new {c f : Nat} {l : List E} : isAlloc (.new c f l) = false := (rfl)
theorem tp_new {c f : Nat} {l : List E} : isTupE (.new c f l) = false := (rfl)
theorem ew_new {c f : Nat} {l : List E} {r : List Nat} : ew (.new c f l) r = r := (rfl)
theorem pop_isT {t : Ty} {a : E} : isPop (.isT t a) = false := (rfl)
theorem al_isT {t : Ty} {a : E} : isAlloc (.isT t a) = false := (rfl)
theorem tp_isT {t : Ty} {a : E} : isTupE (.isT t a) = false := (rfl)
theorem ew_isT {t : Ty} {a : E} {r : List Nat} : ew (.isT t a) r = r := (rfl)
theorem pop_isC {c : Nat} {a : E} : isPop (.isC c a) = false := (rfl)
theorem al_isC {c : Nat} {a : E} : isAlloc (.isC c a) = false := (rfl)
theorem tp_isC {c : Nat} {a : E} : isTupE (.isC c a) = false := (rfl)
theorem ew_isC {c : Nat} {a : E} {r : List Nat} : ew (.isC c a) r = r := (rfl)
theorem pop_lc {e : E} {t : T} {it : I} {cs : List B} {own : List Nat} : isPop (.lc e t it cs own) = false := (rfl)
theorem al_lc {e : E} {t : T} {it : I} {cs : List B} {own : List Nat} : isAlloc (.lc e t it cs own) = true := (rfl)
theorem tp_lc {e : E} {t : T} {it : I} {cs : List B} {own : List Nat} : isTupE (.lc e t it cs own) = false := (rfl)
theorem ew_lc {e : E} {t : T} {it : I} {cs : List B} {own : List Nat} {r : List Nat} : ew (.lc e t it cs own) r = r := (rfl)
theorem pop_dc {k v : E} {t : T} {it : I} {cs : List B} {own : List Nat} : isPop (.dc k v t it cs own) = false := (rfl)
theorem al_dc {k v : E} {t : T} {it : I} {cs : List B} {own : List Nat} : isAlloc (.dc k v t it cs own) = true := (rfl)
theorem tp_dc {k v : E} {t : T} {it : I} {cs : List B} {own : List Nat} : isTupE (.dc k v t it cs own) = false := (rfl)
theorem ew_dc {k v : E} {t : T} {it : I} {cs : List B} {own : List Nat} {r : List Nat} : ew (.dc k v t it cs own) r = r := (rfl)
theorem ew_var {i : Nat} {r : List Nat} : ew (.var i) r = [] := (rfl)
theorem al_bif_len {l : List E} : isAlloc (.bif .len l) = false := (rfl)
theorem al_bif_abs {l : List E} : isAlloc (.bif .abs l) = false := (rfl)
theorem al_bif_int {l : List E} : isAlloc (.bif .int l) = false := (rfl)
theorem al_bif_sum {l : List E} : isAlloc (.bif .sum l) = false := (rfl)
theorem al_bif_min {l : List E} : isAlloc (.bif .min l) = false := (rfl)
theorem al_bif_max {l : List E} : isAlloc (.bif .max l) = false := (rfl)
theorem al_bif_sorted {l : List E} : isAlloc (.bif .sorted l) = true := (rfl)
theorem al_bif_tuple {l : List E} : isAlloc (.bif .tuple l) = false := (rfl)
theorem al_bif_list {l : List E} : isAlloc (.bif .list l) = true := (rfl)
theorem al_bif_dict {l : List E} : isAlloc (.bif .dict l) = false := (rfl)
theorem al_bif_repr {l : List E} : isAlloc (.bif .repr l) = false := (rfl)
theorem al_bif_str {l : List E} : isAlloc (.bif .str l) = false := (rfl)
theorem al_bif_all {l : List E} : isAlloc (.bif .all l) = false := (rfl)
theorem al_bif_any {l : List E} : isAlloc (.bif .any l) = false := (rfl)
theorem al_bif_sortedSet {l : List E} : isAlloc (.bif .sortedSet l) = false := (rfl)
theorem al_bif_lenSet {l : List E} : isAlloc (.bif .lenSet l) = false := (rfl)
theorem pop_bif {f : Bif} {l : List E} : isPop (.bif f l) = false := (rfl)
theorem tp_bif {f : Bif} {l : List E} : isTupE (.bif f l) = false := (rfl)
theorem ew_bif {f : Bif} {l : List E} {r : List Nat} : ew (.bif f l) r = r := (rfl)
theorem pop_mth_get {a : E} {l : List E} : isPop (.mth .get a l) = false := (rfl)
theorem pop_mth_index {a : E} {l : List E} : isPop (.mth .index a l) = false := (rfl)
theorem pop_mth_join {a : E} {l : List E} : isPop (.mth .join a l) = false := (rfl)
theorem pop_mth_count {a : E} {l : List E} : isPop (.mth .count a l) = false := (rfl)
theorem pop_mth_pop {i : Nat} {l : List E} : isPop (.mth .pop (.var i) l) = true := (rfl)
theorem al_mth {m : Mth} {a : E} {l : List E} : isAlloc (.mth m a l) = false := (rfl)
theorem tp_mth {m : Mth} {a : E} {l : List E} : isTupE (.mth m a l) = false := (rfl)
theorem ew_mth {m : Mth} {a : E} {l : List E} {r : List Nat} : ew (.mth m a l) r = r := (rfl)
/-! ### operations -/
section ops
variable {i j : Int} {s t : List Nat} {l m : List V} {H : List V} {x : V}
theorem t_bl {b : Bool} : truthV (.bl b) = some b := (rfl)
theorem t_non : truthV .non = some false := (rfl)
theorem t_int : truthV (.int i) = some (i != 0) := (rfl)
theorem t_tup : truthV (.tup l) = some (!l.isEmpty) := (rfl)
theorem t_lst : truthV (.lst l) = some (!l.isEmpty) := (rfl)
theorem b_add : binV .add (.int i) (.int j) = some (.int (i + j)) := (rfl)
theorem b_adds : binV .add (.str s) (.str t) = wh (decide (s.length + t.length ≤ lim)) (some (.str (s ++ t))) := (rfl)
theorem b_addt : binV .add (.tup l) (.tup m) = wh (decide (l.length + m.length ≤ lim)) (some (.tup (l ++ m))) := (rfl)
theorem b_addl : binV .add (.lst l) (.lst m) = wh (decide ((l ++ m).length ≤ lim)) (some (.lst (l ++ m))) := (rfl)
theorem b_sub : binV .sub (.int i) (.int j) = some (.int (i - j)) := (rfl)
theorem b_mul : binV .mul (.int i) (.int j) = wh (small64 i || small64 j) (some (.int (i * j))) := (rfl)
theorem b_fdiv : binV .fdiv (.int i) (.int j) = wh (decide (0 < j) && decide (j < 1073741824)) (some (.int (i / j))) := (rfl)
theorem b_mod : binV .mod (.int i) (.int j) = wh (decide (0 < j)) (some (.int (i % j))) := (rfl)
theorem c_gt : cmpV .gt (.int i) (.int j) = some (decide (j < i)) := (rfl)
theorem c_le : cmpV .le (.int i) (.int j) = some (decide (i ≤ j)) := (rfl)
theorem c_ge : cmpV .ge (.int i) (.int j) = some (decide (j ≤ i)) := (rfl)
theorem c_lt : cmpV .lt (.int i) (.int j) = some (decide (i < j)) := by
  show (if (PySem.W.alike (.int i) (.int j) && decide ((PyData.int i).depth ≤ 64) && notNone (.int i)) = true then some (PySem.W.dataLt (.int i) (.int j)) else none) = _
  have e1 : PySem.W.alike (.int i) (.int j) = true := by simp [PySem.W.alike]
  have e2 : (PyData.int i).depth = 0 := by simp [PyData.depth]
  rw [e1, e2, PySem.W.dataLt_int]; rfl
theorem c_in : cmpV .in_ x y = inV x y := (rfl)
theorem c_nin : cmpV .nin x y = (inV x y).map (! ·) := (rfl)
theorem c_isn : cmpV .isn x .non = some (decide (x = .non)) := by unfold cmpV; dsimp only; rw [if_pos rfl]
theorem c_notn : cmpV .notn x .non = some (!decide (x = .non)) := by unfold cmpV; dsimp only; rw [if_pos rfl]
theorem in_str {c : Nat} : inV (.str [c]) (.str t) = some (decide (c ∈ t)) := (rfl)
theorem bif_abs : bif1V .abs (.int i) = some (.int (if i < 0 then -i else i)) := (rfl)
theorem bif_int : bif1V .int (.int i) = some (.int i) := (rfl)
theorem bif_lent : bif1V .len (.tup l) = some (.int l.length) := (rfl)
theorem bif_lenl : bif1V .len (.lst l) = some (.int l.length) := (rfl)
theorem bif_lens (h : s.length ≤ lim) : bif1V .len (.str s) = some (.int s.length) := by
  show wh (decide (s.length ≤ lim)) _ = _
  rw [decide_eq_true h]; rfl
theorem bif_tupt : bif1V .tuple (.tup l) = some (.tup l) := (rfl)
theorem bif_tupl : bif1V .tuple (.lst l) = some (.tup l) := (rfl)
theorem bif_listl (h : l.length ≤ lim) : bif1V .list (.lst l) = some (.lst l) := by
  show wh (decide (l.length ≤ lim)) _ = _
  rw [decide_eq_true h]; rfl
theorem bif_listt (h : l.length ≤ lim) : bif1V .list (.tup l) = some (.lst l) := by
  show wh (decide (l.length ≤ lim)) _ = _
  rw [decide_eq_true h]; rfl
theorem hidx_hand {d : V} : hidx .hand (.int i) H = mkRV ((ixN H.length i).bind fun j => H[j]?) H := (rfl)
theorem ixN_nat {n i : Nat} (h : i < n) : ixN n (i : Int) = some i := by
  show L2.ixN n i = some i
  simp [L2.ixN]; omega
theorem hx_tup {n : Nat} (h : l[n]? = some x) : hidx (.tup l) (.int n) H = .ok (x, H) := by
  show mkRV ((ixN l.length n).bind fun j => l[j]?) H = _
  rw [ixN_nat (List.getElem?_eq_some_iff.1 h).1, Option.bind_some, h]; rfl
theorem hx_lst {n : Nat} (h : l[n]? = some x) : hidx (.lst l) (.int n) H = .ok (x, H) := by
  show mkRV ((ixN l.length n).bind fun j => l[j]?) H = _
  rw [ixN_nat (List.getElem?_eq_some_iff.1 h).1, Option.bind_some, h]; rfl
theorem hx_hand {n : Nat} (h : H[n]? = some x) : hidx .hand (.int n) H = .ok (x, H) := by
  show mkRV ((ixN H.length n).bind fun j => H[j]?) H = _
  rw [ixN_nat (List.getElem?_eq_some_iff.1 h).1, Option.bind_some, h]; rfl
theorem hx_str {n c : Nat} (hs : s.length ≤ lim) (h : s[n]? = some c) : hidx (.str s) (.int n) H = .ok (.str [c], H) := by
  show mkRV (wh (decide (s.length ≤ lim)) (((ixN s.length n).bind fun j => s[j]?).map fun c => .str [c])) H = _
  rw [decide_eq_true hs, ixN_nat (List.getElem?_eq_some_iff.1 h).1, Option.bind_some, h]; rfl
theorem hx_t0 : hidx (.tup (x :: l)) (.int 0) H = .ok (x, H) := hx_tup (n := 0) rfl
theorem hx_t1 {a : V} : hidx (.tup (a :: x :: l)) (.int 1) H = .ok (x, H) := hx_tup (n := 1) rfl
theorem hx_t2 {a b : V} : hidx (.tup (a :: b :: x :: l)) (.int 2) H = .ok (x, H) := hx_tup (n := 2) rfl
theorem hx_l0 : hidx (.lst (x :: l)) (.int 0) H = .ok (x, H) := hx_lst (n := 0) rfl
theorem hx_dct {kvs : List (D × V)} {b : V} : hidx (.dct kvs) b H = mkRV (idxV (.dct kvs) b) H := by
  cases b <;> rfl
theorem set_lst {n : Nat} {v : V} (h : n < l.length) : setV (.own false (.lst l)) (.int n) v H = some (.own false (.lst (l.set n v)), H) := by
  show (ixN l.length n).map _ = _
  rw [ixN_nat h]; rfl
theorem set_hand {n : Nat} {v : V} (h : n < H.length) : setV (.val .hand) (.int n) v H = some (.val .hand, H.set n v) := by
  show (ixN H.length n).map _ = _
  rw [ixN_nat h]; rfl
theorem len_le1 {n : Nat} (h : n ≤ 1000000) : decide (n ≤ lim) = true := decide_eq_true (by unfold lim; omega)
theorem len_lt1 {n : Nat} (h : n ≤ 1000000) : decide (n < lim) = true := decide_eq_true (by unfold lim; omega)
end ops
end Vl

/-! Vt: plain data as values; dicts with plain keys; comprehensions. -/
namespace Vl
open Fw
open PySem (Str PyData NestedKey)
mutual
def pdv : V → PyData
  | .non => .none
  | .bl b => .bool b
  | .int i => .int i
  | .str s => .str ⟨s.toArray⟩
  | .tup l => .tuple (pdvs l)
  | .lst l => .list (pdvs l)
  | _ => .none
def pdvs : List V → List PyData
  | [] => []
  | d :: ds => pdv d :: pdvs ds
end
mutual
/-- no flags, no dicts, no objects -/
def pv : V → Bool
  | .non => true
  | .int _ => true
  | .str s => s.all fun x => decide (x < 1114112)
  | .tup l => pvs l
  | .lst l => pvs l
  | _ => false
def pvs : List V → Bool
  | [] => true
  | d :: ds => pv d && pvs ds
end
mutual
def dv : V → Nat
  | .tup l => dvs l + 1
  | .lst l => dvs l + 1
  | _ => 0
def dvs : List V → Nat
  | [] => 0
  | d :: ds => max (dv d) (dvs ds)
end
theorem pvs_iff : ∀ {l : List V}, pvs l = true ↔ ∀ d ∈ l, pv d = true
  | [] => by simp [pvs]
  | d :: ds => by rw [pvs, Bool.and_eq_true, pvs_iff]; simp
theorem dvs_le {n : Nat} : ∀ {l : List V}, dvs l ≤ n ↔ ∀ d ∈ l, dv d ≤ n
  | [] => by simp [dvs]
  | d :: ds => by
    rw [dvs]
    have := dvs_le (n := n) (l := ds)
    simp only [List.mem_cons, forall_eq_or_imp, ← this]
    omega
mutual
theorem snapV_pv : ∀ (d : V) (n : Nat), pv d = true → dv d ≤ n → snapV n d = some (pdv d)
  | .non, n, _, _ => by cases n <;> rfl
  | .int i, n, _, _ => by cases n <;> rfl
  | .str s, n, _, _ => by cases n <;> rfl
  | .tup l, 0, _, h => by rw [dv] at h; omega
  | .lst l, 0, _, h => by rw [dv] at h; omega
  | .tup l, n + 1, p, h => by
    rw [dv] at h
    rw [pv] at p
    rw [snapV, snapsV_pv l n p (by omega)]; rfl
  | .lst l, n + 1, p, h => by
    rw [dv] at h
    rw [pv] at p
    rw [snapV, snapsV_pv l n p (by omega)]; rfl
  | .bl _, _, p, _ => by simp [pv] at p
  | .dct _, _, p, _ => by simp [pv] at p
  | .ins _ _, _, p, _ => by simp [pv] at p
  | .hand, _, p, _ => by simp [pv] at p
theorem snapsV_pv : ∀ (l : List V) (n : Nat), pvs l = true → dvs l ≤ n → snapsV (snapV n) l = some (pdvs l)
  | [], _, _, _ => rfl
  | d :: ds, n, p, h => by
    rw [dvs] at h
    rw [pvs, Bool.and_eq_true] at p
    rw [snapsV, snapV_pv d n p.1 (by omega), snapsV_pv ds n p.2 (by omega)]; rfl
end
mutual
theorem eqv_pv : ∀ a b : V, pv a = true → pv b = true → PyData.eqv (pdv a) (pdv b) = decide (a = b)
  | .non, b, _, q => by cases b <;> first | (simp [pv] at q; done) | simp [pdv, PyData.eqv]
  | .int i, b, _, q => by cases b <;> first | (simp [pv] at q; done) | (simp [pdv, PyData.eqv]; done) | (rw [Bool.eq_iff_iff]; simp [pdv, PyData.eqv])
  | .str i, b, _, q => by cases b <;> first | (simp [pv] at q; done) | (simp [pdv, PyData.eqv]; done) | (rw [Bool.eq_iff_iff]; simp [pdv, PyData.eqv])
  | .tup l, b, p, q => by
    cases b with
    | tup k =>
      rw [pv] at p q
      rw [pdv, pdv, PyData.eqv, eqvs_pv l k p q]; simp
    | _ => first | (simp [pv] at q; done) | simp [pdv, PyData.eqv]
  | .lst l, b, p, q => by
    cases b with
    | lst k =>
      rw [pv] at p q
      rw [pdv, pdv, PyData.eqv, eqvs_pv l k p q]; simp
    | _ => first | (simp [pv] at q; done) | simp [pdv, PyData.eqv]
  | .bl _, _, p, _ => by simp [pv] at p
  | .dct _, _, p, _ => by simp [pv] at p
  | .ins _ _, _, p, _ => by simp [pv] at p
  | .hand, _, p, _ => by simp [pv] at p
theorem eqvs_pv : ∀ a b : List V, pvs a = true → pvs b = true → PyData.eqvAll (pdvs a) (pdvs b) = decide (a = b)
  | [], b, _, _ => by cases b <;> simp [pdvs, PyData.eqvAll]
  | a :: as, [], _, _ => by simp [pdvs, PyData.eqvAll]
  | a :: as, b :: bs, p, q => by
    rw [pvs, Bool.and_eq_true] at p q
    rw [pdvs, pdvs, PyData.eqvAll, eqv_pv a b p.1 q.1, eqvs_pv as bs p.2 q.2]; simp
end
mutual
theorem can_pv : ∀ a : V, pv a = true → PyData.canLay0 (pdv a) = true
  | .non, _ => by simp [pdv, PyData.canLay0]
  | .int i, _ => by simp [pdv, PyData.canLay0]
  | .str s, h => by
    rw [pv] at h
    simp only [pdv, PyData.canLay0, PyData.strOk]
    rw [← Array.all_toList]; exact h
  | .tup l, h => by
    rw [pv] at h
    rw [pdv, PyData.canLay0]; exact cans_pv l h
  | .lst l, h => by
    rw [pv] at h
    rw [pdv, PyData.canLay0]; exact cans_pv l h
  | .bl _, p => by simp [pv] at p
  | .dct _, p => by simp [pv] at p
  | .ins _ _, p => by simp [pv] at p
  | .hand, p => by simp [pv] at p
theorem cans_pv : ∀ a : List V, pvs a = true → PyData.canLayAll0 (pdvs a) = true
  | [], _ => by simp [pdvs, PyData.canLayAll0]
  | a :: as, h => by
    rw [pvs, Bool.and_eq_true] at h
    rw [pdvs, PyData.canLayAll0, can_pv a h.1, cans_pv as h.2]; rfl
end
mutual
theorem depth_pv : ∀ a : V, (pdv a).depth = dv a
  | .non => by simp [pdv, PyData.depth, dv]
  | .bl _ => by simp [pdv, PyData.depth, dv]
  | .hand => by simp [pdv, PyData.depth, dv]
  | .dct _ => by simp [pdv, PyData.depth, dv]
  | .ins _ _ => by simp [pdv, PyData.depth, dv]
  | .int i => by simp [pdv, PyData.depth, dv]
  | .str s => by simp [pdv, PyData.depth, dv]
  | .tup l => by
    rw [pdv, PyData.depth, depths_pv l, dv]
  | .lst l => by
    rw [pdv, PyData.depth, depths_pv l, dv]
theorem depths_pv : ∀ a : List V, PyData.depthAll (pdvs a) = dvs a
  | [] => by simp [pdvs, PyData.depthAll, dvs]
  | a :: as => by
    rw [pdvs, PyData.depthAll, depth_pv a, depths_pv as, dvs]
end
theorem shaped_pv {a : V} (p : pv a = true) (h : dv a ≤ 60) : PySem.SeqAt.shaped (pdv a) = true := by
  unfold PySem.SeqAt.shaped
  rw [can_pv a p, depth_pv a, decide_eq_true (by omega : dv a ≤ 64)]; rfl
theorem eqV_pv {a b : V} (p : pv a = true) (q : pv b = true) (h : dv a ≤ 60) (k : dv b ≤ 60) : eqV a b = some (decide (a = b)) := by
  unfold eqV
  rw [snapV_pv a 64 p (by omega), snapV_pv b 64 q (by omega)]
  show (if (PySem.SeqAt.shaped (pdv a) && PySem.SeqAt.shaped (pdv b)) = true then some (PyData.eqv (pdv a) (pdv b)) else none) = _
  rw [shaped_pv p h, shaped_pv q k, eqv_pv a b p q]; rfl
/-- fit to be compared -/
def Fit (a : V) : Prop := pv a = true ∧ dv a ≤ 60
theorem c_eq {a b : V} (p : Fit a) (q : Fit b) : cmpV .eq a b = some (decide (a = b)) := eqV_pv p.1 q.1 p.2 q.2
theorem c_ne {a b : V} (p : Fit a) (q : Fit b) : cmpV .ne a b = some (!decide (a = b)) := by
  show (eqV a b).map _ = _
  rw [eqV_pv p.1 q.1 p.2 q.2]; rfl
theorem Fit.int (i : Int) : Fit (.int i) := ⟨by simp [pv], by simp [dv]⟩
theorem Fit.non : Fit .non := ⟨by simp [pv], by simp [dv]⟩
theorem c_eqi {i j : Int} : cmpV .eq (.int i) (.int j) = some (decide (i = j)) := by
  rw [c_eq (.int i) (.int j)]; simp
theorem c_nei {i j : Int} : cmpV .ne (.int i) (.int j) = some (!decide (i = j)) := by
  rw [c_ne (.int i) (.int j)]; simp
theorem c_eqb {p q : Bool} : cmpV .eq (.bl p) (.bl q) = some (decide (p = q)) := by
  cases p <;> cases q <;> rfl
theorem c_neb {p q : Bool} : cmpV .ne (.bl p) (.bl q) = some (!decide (p = q)) := by
  cases p <;> cases q <;> rfl
theorem c_eqs1 {p q : Nat} (hp : p < 1114112) (hq : q < 1114112) : cmpV .eq (.str [p]) (.str [q]) = some (decide (p = q)) := by
  rw [c_eq ⟨by simp [pv, hp], by simp [dv]⟩ ⟨by simp [pv, hq], by simp [dv]⟩]; simp
theorem c_nes1 {p q : Nat} (hp : p < 1114112) (hq : q < 1114112) : cmpV .ne (.str [p]) (.str [q]) = some (!decide (p = q)) := by
  rw [c_ne ⟨by simp [pv, hp], by simp [dv]⟩ ⟨by simp [pv, hq], by simp [dv]⟩]; simp
theorem shapedL_pv {l : List V} (p : pvs l = true) (h : dvs l ≤ 60) : PySem.SeqAt.shaped (.list (pdvs l)) = true := by
  unfold PySem.SeqAt.shaped
  rw [PyData.canLay0, cans_pv l p, PyData.depth, depths_pv l, decide_eq_true (by omega)]; rfl
theorem any_pv {x : V} (p : pv x = true) : ∀ {l : List V}, pvs l = true → ((pdvs l).any fun z => PyData.eqv z (pdv x)) = decide (x ∈ l)
  | [], _ => by simp [pdvs]
  | d :: ds, q => by
    rw [pvs, Bool.and_eq_true] at q
    rw [pdvs, List.any_cons, eqv_pv d x q.1 p, any_pv p q.2]
    by_cases h : d = x
    · subst h; simp
    · have h2 : x ≠ d := fun e => h e.symm
      simp [h, h2]
theorem memV_pv {x : V} {l : List V} (p : Fit x) (q : pvs l = true) (k : dvs l ≤ 60) : memV x l = some (decide (x ∈ l)) := by
  unfold memV
  rw [snapV_pv x 64 p.1 (by have := p.2; omega), snapsV_pv l 63 q (by omega)]
  show (if (PySem.SeqAt.shaped (pdv x) && PySem.SeqAt.shaped (.list (pdvs l))) = true then _ else none) = _
  rw [shaped_pv p.1 p.2, shapedL_pv q k, any_pv p.1 q]; rfl
theorem find_pv {x : V} (p : pv x = true) : ∀ {l : List V}, pvs l = true → ((pdvs l).findIdx? fun z => PyData.eqv z (pdv x)) = l.idxOf? x
  | [], _ => by simp [pdvs]
  | d :: ds, q => by
    rw [pvs, Bool.and_eq_true] at q
    rw [pdvs, List.findIdx?_cons, eqv_pv d x q.1 p, find_pv p q.2, List.idxOf?_cons]
    by_cases h : d = x
    · subst h; simp
    · simp [h]
theorem indexV_pv {x : V} {l : List V} (p : Fit x) (q : pvs l = true) (k : dvs l ≤ 60) : indexV x l = l.idxOf? x := by
  unfold indexV
  rw [snapV_pv x 64 p.1 (by have := p.2; omega), snapsV_pv l 63 q (by omega)]
  show (if (PySem.SeqAt.shaped (pdv x) && PySem.SeqAt.shaped (.list (pdvs l))) = true then _ else none) = _
  rw [shaped_pv p.1 p.2, shapedL_pv q k, find_pv p.1 q]; rfl
/-! ### dicts -/
def KF (t : Bool) (d : D) : Prop := Wp.pln d = true ∧ isTup d = t ∧ keyForm d = true ∧ dpth d ≤ 8
structure DK (t : Bool) (kvs : List (D × V)) : Prop where
  pl : ∀ kv ∈ kvs, Wp.pln kv.1 = true ∧ isTup kv.1 = t
def lkD (d : D) : List (D × V) → Option V
  | [] => none
  | (e, v) :: r => if e = d then some v else lkD d r
def ptD (d : D) (v : V) (kvs : List (D × V)) : List (D × V) := if (lkD d kvs).isSome = true then kvs.map (fun e => if e.1 = d then (e.1, v) else e) else kvs ++ [(d, v)]
theorem DK.nil {t : Bool} : DK t [] := ⟨fun _ h => by cases h⟩
theorem DK.cons {t : Bool} {kv : D × V} {kvs : List (D × V)} (h : DK t (kv :: kvs)) : (Wp.pln kv.1 = true ∧ isTup kv.1 = t) ∧ DK t kvs := ⟨h.pl kv (List.mem_cons_self ..), ⟨fun x m => h.pl x (List.mem_cons_of_mem _ m)⟩⟩
theorem keyFor_fit {t : Bool} {kvs : List (D × V)} {d : D} (h : DK t kvs) (k : KF t d) : ∃ q, keyForV kvs d = some q ∧ keyOf d = some q := by
  obtain ⟨q, e⟩ := Wp.keyOf_some k.1
  refine ⟨q, ?_, e⟩
  unfold keyForV
  have h2 : (kvs.all fun kv => isTup kv.1 == isTup d) = true := List.all_eq_true.2 fun kv m => by rw [(h.pl kv m).2, k.2.1]; exact beq_self_eq_true _
  rw [k.2.2.1, h2, decide_eq_true k.2.2.2]
  exact e
theorem lookV_fit {t : Bool} {d : D} {q : NestedKey} (k : KF t d) (e : keyOf d = some q) : ∀ {kvs : List (D × V)}, DK t kvs → lookV q kvs = lkD d kvs
  | [], _ => rfl
  | (a, v) :: r, h => by
    rw [lookV, lkD, lookV_fit k e h.cons.2]
    by_cases x : a = d
    · rw [if_pos x, x, if_pos e]
    · rw [if_neg x, if_neg fun y => x (Wp.keyOf_inj h.cons.1.1 k.1 (y.trans e.symm))]
theorem putV_fit {t : Bool} {d : D} {v : V} {q : NestedKey} (k : KF t d) (e : keyOf d = some q) {kvs : List (D × V)} (h : DK t kvs) : putV q d v kvs = ptD d v kvs := by
  unfold putV ptD
  rw [lookV_fit k e h]
  have : kvs.map (fun z => if keyOf z.1 = some q then (z.1, v) else z) = kvs.map (fun z => if z.1 = d then (z.1, v) else z) := by
    refine List.map_congr_left fun z m => ?_
    by_cases x : z.1 = d
    · rw [if_pos x, x, if_pos e]
    · rw [if_neg x, if_neg fun y => x (Wp.keyOf_inj (h.pl z m).1 k.1 (y.trans e.symm))]
  rw [this]
theorem DK.put {t : Bool} {d : D} {v : V} (k : KF t d) {kvs : List (D × V)} (h : DK t kvs) : DK t (ptD d v kvs) := by
  unfold ptD
  split
  · refine ⟨fun z m => ?_⟩
    obtain ⟨y, my, rfl⟩ := List.mem_map.1 m
    have := h.pl y my
    split <;> exact this
  · refine ⟨fun z m => ?_⟩
    rw [List.mem_append, List.mem_singleton] at m
    rcases m with m | rfl
    · exact h.pl z m
    · exact ⟨k.1, k.2.1⟩
theorem ptD_new {d : D} {v : V} {kvs : List (D × V)} (h : lkD d kvs = none) : ptD d v kvs = kvs ++ [(d, v)] := by
  unfold ptD; rw [h]; rfl
theorem lkD_none {d : D} : ∀ {kvs : List (D × V)}, (∀ kv ∈ kvs, kv.1 ≠ d) → lkD d kvs = none
  | [], _ => rfl
  | (a, v) :: r, h => by
    rw [lkD, if_neg (h _ (List.mem_cons_self ..))]
    exact lkD_none fun kv m => h kv (List.mem_cons_of_mem _ m)
theorem lkD_app {d : D} : ∀ {kvs r : List (D × V)}, lkD d (kvs ++ r) = (lkD d kvs).or (lkD d r)
  | [], _ => rfl
  | (a, v) :: k, r => by
    rw [List.cons_append, lkD, lkD]
    by_cases x : a = d
    · rw [if_pos x, if_pos x]; rfl
    · rw [if_neg x, if_neg x]; exact lkD_app
theorem idx_dct {t : Bool} {kvs : List (D × V)} {b : V} {d : D} (hd : toD b = some d) (h : DK t kvs) (k : KF t d) : idxV (.dct kvs) b = lkD d kvs := by
  obtain ⟨q, e1, e2⟩ := keyFor_fit h k
  unfold idxV
  dsimp only
  rw [hd, Option.bind_some, e1, Option.bind_some, lookV_fit k e2 h]
theorem hx_dk {t : Bool} {kvs : List (D × V)} {b v : V} {d : D} {H : List V} (hd : toD b = some d) (h : DK t kvs) (k : KF t d) (e : lkD d kvs = some v) : hidx (.dct kvs) b H = .ok (v, H) := by
  rw [hx_dct, idx_dct hd h k, e]; rfl
theorem in_dct {t : Bool} {kvs : List (D × V)} {b : V} {d : D} (hd : toD b = some d) (h : DK t kvs) (k : KF t d) : inV b (.dct kvs) = some (lkD d kvs).isSome := by
  obtain ⟨q, e1, e2⟩ := keyFor_fit h k
  unfold inV
  dsimp only
  rw [hd, Option.bind_some, e1, Option.map_some, lookV_fit k e2 h]
theorem set_dct {t : Bool} {kvs : List (D × V)} {b v : V} {d : D} {H : List V} (hd : toD b = some d) (h : DK t kvs) (k : KF t d) (l : kvs.length < lim) : setV (.own false (.dct kvs)) b v H = some (.own false (.dct (ptD d v kvs)), H) := by
  obtain ⟨q, e1, e2⟩ := keyFor_fit h k
  have : setV (.own false (.dct kvs)) b v H = wh (decide (kvs.length < lim)) ((toD b).bind fun d => (keyForV kvs d).map fun q => (.own false (.dct (putV q d v kvs)), H)) := by cases b <;> rfl
  rw [this, decide_eq_true l, hd, Option.bind_some, e1, Option.map_some, putV_fit k e2 h]; rfl
theorem get_dct {t : Bool} {kvs : List (D × V)} {b x : V} {d : D} (hd : toD b = some d) (h : DK t kvs) (k : KF t d) : mthV .get (.dct kvs) [b, x] = some ((lkD d kvs).getD x) := by
  obtain ⟨q, e1, e2⟩ := keyFor_fit h k
  unfold mthV
  dsimp only
  rw [hd, Option.bind_some, e1, Option.map_some, lookV_fit k e2 h]
theorem len_dct {kvs : List (D × V)} (h : DK false kvs) : bif1V .len (.dct kvs) = some (.int kvs.length) := by
  show wh (kvs.all fun kv => !isTup kv.1) _ = _
  have : (kvs.all fun kv => !isTup kv.1) = true := List.all_eq_true.2 fun kv m => by rw [(h.pl kv m).2]; rfl
  rw [this]; rfl
/-! ### comprehensions -/
theorem lcV_pure {f : V → List V → Rv (Option V × List V)} {H : List V} (g : V → Option V) : ∀ (xs : List V), (∀ x ∈ xs, f x H = .ok (g x, H)) → lcV f xs H = .ok (xs.filterMap g, H)
  | [], _ => rfl
  | x :: xs, h => by
    rw [lcV, h x (List.mem_cons_self ..), Rv.bind_ok]
    show (lcV f xs H).bind _ = _
    rw [lcV_pure g xs fun y hy => h y (List.mem_cons_of_mem _ hy), Rv.bind_ok]
    show Rv.ok ((g x).toList ++ _, H) = _
    cases e : g x with
    | none => rw [List.filterMap_cons_none e]; rfl
    | some d => rw [List.filterMap_cons_some e]; rfl
/-- over items made of others -/
theorem lcV_map {α : Type} {f : V → List V → Rv (Option V × List V)} {H : List V} (m : α → V) (g : α → V) : ∀ (xs : List α), (∀ x ∈ xs, f (m x) H = .ok (some (g x), H)) → lcV f (xs.map m) H = .ok (xs.map g, H)
  | [], _ => rfl
  | x :: xs, h => by
    rw [List.map_cons, lcV, h x (List.mem_cons_self ..), Rv.bind_ok]
    show (lcV f (xs.map m) H).bind _ = _
    rw [lcV_map m g xs fun y hy => h y (List.mem_cons_of_mem _ hy)]; rfl
/-- over items made of others, some of them -/
theorem lcV_fil {α : Type} {f : V → List V → Rv (Option V × List V)} {H : List V} (m : α → V) (p : α → Bool) (g : α → V) : ∀ (xs : List α), (∀ x ∈ xs, f (m x) H = .ok (if p x then some (g x) else none, H)) → lcV f (xs.map m) H = .ok ((xs.filter p).map g, H)
  | [], _ => rfl
  | x :: xs, h => by
    rw [List.map_cons, lcV, h x (List.mem_cons_self ..), Rv.bind_ok]
    show (lcV f (xs.map m) H).bind _ = _
    rw [lcV_fil m p g xs fun y hy => h y (List.mem_cons_of_mem _ hy), List.filter_cons]
    cases p x <;> rfl
theorem dcV_map {α : Type} {t : Bool} {f : V → List V → Rv (Option (V × V) × List V)} {H : List V} (m : α → V) (k : α → V) (kd : α → D) (g : α → V) : ∀ (xs : List α) (kvs : List (D × V)),
    (∀ x ∈ xs, f (m x) H = .ok (some (k x, g x), H) ∧ toD (k x) = some (kd x) ∧ KF t (kd x)) → DK t kvs → kvs.length + xs.length < lim → (∀ kv ∈ kvs, ∀ x ∈ xs, kv.1 ≠ kd x) → (xs.map kd).Nodup → dcV f (xs.map m) kvs H = .ok (kvs ++ xs.map (fun x => (kd x, g x)), H)
  | [], kvs, _, _, _, _, _ => by rw [List.map_nil, dcV]; simp
  | x :: xs, kvs, hf, hk, hl, hn, hd => by
    obtain ⟨h1, h2, h3⟩ := hf x (List.mem_cons_self ..)
    obtain ⟨q, e1, e2⟩ := keyFor_fit hk h3
    have hnew : lkD (kd x) kvs = none := lkD_none fun kv m => hn kv m x (List.mem_cons_self ..)
    rw [List.length_cons] at hl
    rw [List.map_cons, List.nodup_cons] at hd
    rw [List.map_cons, dcV, h1, Rv.bind_ok]
    show mustV (decide (kvs.length < lim)) ((Rv.of ((toD (k x)).bind fun d => (keyForV kvs d).map fun q => putV q d (g x) kvs)).bind fun k => dcV f (xs.map m) k H) = _
    rw [decide_eq_true (by omega), h2, Option.bind_some, e1, Option.map_some, putV_fit h3 e2 hk, ptD_new hnew]
    show dcV f (xs.map m) (kvs ++ [(kd x, g x)]) H = _
    rw [dcV_map m k kd g xs _ (fun y m => hf y (List.mem_cons_of_mem _ m)) ?_ (by rw [List.length_append, List.length_singleton]; omega) ?_ hd.2]
    · rw [List.append_assoc]; rfl
    · have := hk.put (v := g x) h3
      rwa [ptD_new hnew] at this
    · intro kv m y my e
      rw [List.mem_append, List.mem_singleton] at m
      rcases m with m | rfl
      · exact hn kv m y (List.mem_cons_of_mem _ my) e
      · exact hd.1 (by rw [show kd x = kd y from e]; exact List.mem_map_of_mem my)
/-! ### loops -/
/-- how a walk ends -/
theorem forV_ex {t : T} {f : VEnv → List V → RSV} (Inv : List V → VEnv → List V → Prop) (Q : FlowV × VEnv × List V → Prop)
    (hs : ∀ x xs env H, Inv (x :: xs) env H → ∃ e, asgTV t x env = some e ∧ (f e H).Is fun r => match r.1 with
      | .next => Inv xs r.2.1 r.2.2
      | .cont => Inv xs r.2.1 r.2.2
      | .brk => Q (.next, r.2)
      | .ret d => Q (.ret d, r.2))
    (hl : ∀ env H, Inv [] env H → Q (.next, env, H)) : ∀ xs env H, Inv xs env H → ∃ r, forV t f xs env H = .ok r ∧ Q r
  | [], env, H, h => ⟨_, rfl, hl _ _ h⟩
  | x :: xs, env, H, h => by
    obtain ⟨e, h1, h2⟩ := hs _ _ _ _ h
    obtain ⟨⟨fl, env2, H2⟩, h2, h3⟩ := h2.get
    rw [fv_c h1, h2, bind_okN]
    cases fl with
    | next => exact forV_ex Inv Q hs hl xs _ _ h3
    | cont => exact forV_ex Inv Q hs hl xs _ _ h3
    | brk => exact ⟨_, rfl, h3⟩
    | ret d => exact ⟨_, rfl, h3⟩
theorem lcV_ex {f : V → List V → Rv (Option V × List V)} (Inv : List V → List V → List V → Prop)
    (hs : ∀ x xs l H, Inv (x :: xs) l H → (f x H).Is fun r => Inv xs (l ++ r.1.toList) r.2) : ∀ (xs l : List V) (H : List V), Inv xs l H → ∃ q H', lcV f xs H = .ok (q, H') ∧ Inv [] (l ++ q) H'
  | [], l, H, h => ⟨[], H, rfl, by rw [List.append_nil]; exact h⟩
  | x :: xs, l, H, h => by
    obtain ⟨⟨o, H'⟩, e1, h2⟩ := (hs _ _ _ _ h).get
    have h2 : Inv xs (l ++ o.toList) H' := h2
    obtain ⟨q, H2, e2, h3⟩ := lcV_ex Inv hs xs _ _ h2
    refine ⟨o.toList ++ q, H2, ?_, by rw [← List.append_assoc]; exact h3⟩
    rw [lcV, e1, Rv.bind_ok]
    show (lcV f xs H').bind _ = _
    rw [e2]; rfl
theorem whileV_ex {g : VEnv → List V → Rv (Bool × List V)} {f : VEnv → List V → RSV} (Inv : Nat → VEnv → List V → Prop) (Q : FlowV × VEnv × List V → Prop)
    (hs : ∀ m env H, Inv m env H → (g env H).Is fun b => match b.1 with
      | false => Q (.next, env, b.2)
      | true => (f env b.2).Is fun r => match r.1 with
        | .next => ∃ m', m' < m ∧ Inv m' r.2.1 r.2.2
        | .cont => ∃ m', m' < m ∧ Inv m' r.2.1 r.2.2
        | .brk => Q (.next, r.2)
        | .ret d => Q (.ret d, r.2)) : ∀ (n m : Nat) (env : VEnv) (H : List V), m < n → Inv m env H → ∃ r, whileV g f n env H = .ok r ∧ Q r
  | 0, _, _, _, h, _ => by omega
  | n + 1, m, env, H, h, i => by
    rw [wv_s]
    obtain ⟨⟨b, H'⟩, e, q⟩ := (hs _ _ _ i).get
    cases b with
    | false => rw [e, bind_okN, wv_f]; exact ⟨_, rfl, q⟩
    | true =>
      have q : (f env H').Is _ := q
      obtain ⟨⟨fl, env2, H2⟩, e2, q⟩ := q.get
      rw [e, bind_okN, wv_t, e2, bind_okN]
      cases fl with
      | next =>
        obtain ⟨m', l, q⟩ := q
        exact whileV_ex Inv Q hs n m' _ _ (by omega) q
      | cont =>
        obtain ⟨m', l, q⟩ := q
        exact whileV_ex Inv Q hs n m' _ _ (by omega) q
      | brk => exact ⟨_, rfl, q⟩
      | ret d => exact ⟨_, rfl, q⟩
theorem rangeV_map : ∀ (n a : Nat), rangeV a n = (List.range' a n).map fun i => V.int (i : Nat)
  | 0, a => by rw [rangeV]; rfl
  | n + 1, a => by
    rw [rangeV, List.range'_succ, List.map_cons]
    have := rangeV_map n (a + 1)
    rw [show ((a : Int) + 1) = ((a + 1 : Nat) : Int) from by omega, this]
theorem range0_map (n : Nat) : rangeV 0 n = (List.range n).map fun i => V.int (i : Nat) := by
  rw [List.range_eq_range']; exact rangeV_map n 0
/-! ### texts -/
mutual
def shv : V → Bool
  | .int i => decide (i.natAbs < 4096)
  | .tup l => shvs l
  | .lst l => shvs l
  | _ => true
def shvs : List V → Bool
  | [] => true
  | d :: ds => shv d && shvs ds
end
mutual
def blv : V → Nat
  | .str s => s.length
  | .tup l => blvs l
  | .lst l => blvs l
  | _ => 0
def blvs : List V → Nat
  | [] => 0
  | d :: ds => blv d + 1 + blvs ds
end
mutual
theorem leaves_pv : ∀ d : V, pv d = true → shv d = true → (pdv d).leavesShort 13 = true
  | .non, _, _ => by simp only [pdv, PyData.leavesShort]
  | .int i, _, h => by
    rw [shv, decide_eq_true_eq] at h
    have := Wp.leaves_pln (.int i) (by simp [Wp.pln]) (by rw [Wp.sht]; exact decide_eq_true h)
    simpa only [pdv, Wp.pdOf] using this
  | .str s, h, _ => by
    rw [pv] at h
    have := Wp.leaves_pln (.str s) (by rw [Wp.pln]; exact h) (by simp [Wp.sht])
    simpa only [pdv, Wp.pdOf] using this
  | .tup l, h, k => by
    rw [pv] at h
    rw [shv] at k
    simp only [pdv, PyData.leavesShort]
    exact leavess_pv l h k
  | .lst l, h, k => by
    rw [pv] at h
    rw [shv] at k
    simp only [pdv, PyData.leavesShort]
    exact leavess_pv l h k
  | .bl _, p, _ => by simp [pv] at p
  | .dct _, p, _ => by simp [pv] at p
  | .ins _ _, p, _ => by simp [pv] at p
  | .hand, p, _ => by simp [pv] at p
theorem leavess_pv : ∀ l : List V, pvs l = true → shvs l = true → PyData.leavesShortAll 13 (pdvs l) = true
  | [], _, _ => by simp only [pdvs, PyData.leavesShortAll]
  | d :: ds, h, k => by
    rw [pvs, Bool.and_eq_true] at h
    rw [shvs, Bool.and_eq_true] at k
    rw [pdvs, PyData.leavesShortAll, leaves_pv d h.1 k.1, leavess_pv ds h.2 k.2]; rfl
end
mutual
theorem bulk_pv : ∀ d : V, (pdv d).bulk = blv d
  | .non => by simp [pdv, PyData.bulk, blv]
  | .bl _ => by simp [pdv, PyData.bulk, blv]
  | .hand => by simp [pdv, PyData.bulk, blv]
  | .dct _ => by simp [pdv, PyData.bulk, blv]
  | .ins _ _ => by simp [pdv, PyData.bulk, blv]
  | .int _ => by simp [pdv, PyData.bulk, blv]
  | .str s => by simp [pdv, PyData.bulk, blv]
  | .tup l => by rw [pdv, PyData.bulk, bulks_pv l, blv]
  | .lst l => by rw [pdv, PyData.bulk, bulks_pv l, blv]
theorem bulks_pv : ∀ l : List V, PyData.bulkAll (pdvs l) = blvs l
  | [] => by simp [pdvs, PyData.bulkAll, blvs]
  | d :: ds => by rw [pdvs, PyData.bulkAll, bulk_pv d, bulks_pv ds, blvs]
end
mutual
theorem showable_pv : ∀ d : V, shv d = true → (pdv d).showable = true
  | .non, _ => by simp [pdv, PyData.showable]
  | .bl _, _ => by simp [pdv, PyData.showable]
  | .hand, _ => by simp [pdv, PyData.showable]
  | .dct _, _ => by simp [pdv, PyData.showable]
  | .ins _ _, _ => by simp [pdv, PyData.showable]
  | .int i, h => by
    rw [shv, decide_eq_true_eq] at h
    rw [pdv, PyData.showable, decide_eq_true_eq]
    have := Wp.log_lt h
    omega
  | .str s, _ => by simp [pdv, PyData.showable]
  | .tup l, h => by
    rw [shv] at h
    rw [pdv, PyData.showable]; exact showables_pv l h
  | .lst l, h => by
    rw [shv] at h
    rw [pdv, PyData.showable]; exact showables_pv l h
theorem showables_pv : ∀ l : List V, shvs l = true → PyData.showableAll (pdvs l) = true
  | [], _ => by simp [pdvs, PyData.showableAll]
  | d :: ds, h => by
    rw [shvs, Bool.and_eq_true] at h
    rw [pdvs, PyData.showableAll, showable_pv d h.1, showables_pv ds h.2]; rfl
end
mutual
theorem hasDict_pv : ∀ d : V, (pdv d).hasDict = false
  | .non => by simp [pdv, PyData.hasDict]
  | .bl _ => by simp [pdv, PyData.hasDict]
  | .hand => by simp [pdv, PyData.hasDict]
  | .dct _ => by simp [pdv, PyData.hasDict]
  | .ins _ _ => by simp [pdv, PyData.hasDict]
  | .int _ => by simp [pdv, PyData.hasDict]
  | .str s => by simp [pdv, PyData.hasDict]
  | .tup l => by rw [pdv, PyData.hasDict, hasDicts_pv l]
  | .lst l => by rw [pdv, PyData.hasDict, hasDicts_pv l]
theorem hasDicts_pv : ∀ l : List V, PyData.hasDictAll (pdvs l) = false
  | [] => by simp [pdvs, PyData.hasDictAll]
  | d :: ds => by rw [pdvs, PyData.hasDictAll, hasDict_pv d, hasDicts_pv ds]; rfl
end
mutual
theorem shown_sgv : ∀ d : V, pv d = true → Wp.Sg (pdv d).shown
  | .non, _ => by rw [pdv, PyData.shown]; exact Wp.Sg.ofString _
  | .int i, _ => by rw [pdv, PyData.shown]; exact Wp.Sg.ofString _
  | .str s, h => by
    rw [pv] at h
    exact Wp.shown_sg (.str s) (by rw [Wp.pln]; exact h)
  | .tup l, h => by
    rw [pdv, PyData.shown]
    rw [pv] at h
    exact ((Wp.Sg.ofString _).app (Wp.Sg.join (Wp.Sg.ofString _) _ (showns_sgv l h))).app (Wp.Sg.ofString _)
  | .lst l, h => by
    rw [pdv, PyData.shown]
    rw [pv] at h
    exact (Wp.Sg.textFrom _ 0 _ (Wp.Sg.ofString _) (showns_sgv l h)).app (Wp.Sg.ofString _)
  | .bl _, p => by simp [pv] at p
  | .dct _, p => by simp [pv] at p
  | .ins _ _, p => by simp [pv] at p
  | .hand, p => by simp [pv] at p
theorem showns_sgv : ∀ l : List V, pvs l = true → ∀ x ∈ PyData.shownAll (pdvs l), Wp.Sg x
  | [], _, x, m => by rw [pdvs, PyData.shownAll] at m; cases m
  | d :: ds, h, x, m => by
    rw [pvs, Bool.and_eq_true] at h
    rw [pdvs, PyData.shownAll, List.mem_cons] at m
    rcases m with rfl | m
    · exact shown_sgv d h.1
    · exact showns_sgv ds h.2 x m
end
def rpv (l : List V) : List Nat := (PyData.list (pdvs l)).shown.cps.toList
theorem rpv_fit {l : List V} (h : pvs l = true) : Fit (.str (rpv l)) := by
  refine ⟨?_, by simp [dv]⟩
  rw [pv, List.all_eq_true]
  intro c m
  rw [decide_eq_true_eq]
  unfold rpv at m
  rw [PyData.shown] at m
  exact (Wp.Sg.textFrom _ 0 _ (Wp.Sg.ofString _) (showns_sgv l h)).app (Wp.Sg.ofString _) c m
theorem repr_pv {l : List V} (h : pvs l = true) (k : shvs l = true) (d : dvs l ≤ 60) (b : blvs l ≤ 1048576) : bif1V .repr (.lst l) = some (.str (rpv l)) := by
  have e : snapV 64 (.lst l) = some (.list (pdvs l)) := by
    rw [snapV, snapsV_pv l 63 h (by omega)]; rfl
  have e1 : (PyData.list (pdvs l)).showable = true := by rw [PyData.showable]; exact showables_pv l k
  have e2 : (PyData.list (pdvs l)).hasDict = false := by rw [PyData.hasDict]; exact hasDicts_pv l
  have e3 : (PyData.list (pdvs l)).depth ≤ 64 := by rw [PyData.depth, depths_pv]; omega
  have e4 : (PyData.list (pdvs l)).shown.length ≤ lim := by
    refine PyData.shown_fits_bulk (B := 13) (by decide) (by decide) ?_ ?_
    · simp only [PyData.leavesShort]; exact leavess_pv l h k
    · rw [PyData.bulk, bulks_pv]; exact b
  show reprV (.lst l) = _
  unfold reprV
  dsimp only
  rw [e, Option.bind_some, e1, e2, decide_eq_true e3, decide_eq_true e4]; rfl
end Vl

/-! Vm1: walks by what is done; sorted rows; places of rows. -/
namespace Vl
open Fw
open PySem (Str PyData NestedKey)
/-- a walk over items made of others: by what is done -/
theorem forV_map {α : Type} {t : T} {f : VEnv → List V → RSV} (m : α → V) (l : List α) (J : List α → VEnv → List V → Prop) (Q : FlowV × VEnv × List V → Prop)
    (hs : ∀ done x rest env H, done ++ x :: rest = l → J done env H → ∃ e, asgTV t (m x) env = some e ∧ (f e H).Is fun r => match r.1 with
      | .next => J (done ++ [x]) r.2.1 r.2.2
      | .cont => J (done ++ [x]) r.2.1 r.2.2
      | .brk => Q (.next, r.2)
      | .ret d => Q (.ret d, r.2))
    (hl : ∀ env H, J l env H → Q (.next, env, H)) {env : VEnv} {H : List V} (h0 : J [] env H) : ∃ r, forV t f (l.map m) env H = .ok r ∧ Q r := by
  refine forV_ex (fun xs env H => ∃ done rest, done ++ rest = l ∧ xs = rest.map m ∧ J done env H) Q ?_ ?_ _ _ _ ⟨[], l, rfl, rfl, h0⟩
  · rintro x xs env H ⟨done, rest, e1, e2, j⟩
    cases rest with
    | nil => cases e2
    | cons y rest =>
      rw [List.map_cons] at e2
      cases e2
      obtain ⟨e, a, b⟩ := hs done y rest env H e1 j
      refine ⟨e, a, b.mono ?_⟩
      rintro ⟨fl, env2, H2⟩ q
      cases fl with
      | next => exact ⟨done ++ [y], rest, by rw [List.append_assoc]; exact e1, rfl, q⟩
      | cont => exact ⟨done ++ [y], rest, by rw [List.append_assoc]; exact e1, rfl, q⟩
      | brk => exact q
      | ret d => exact q
  · rintro env H ⟨done, rest, e1, e2, j⟩
    cases rest with
    | nil =>
      rw [List.append_nil] at e1
      subst e1
      exact hl env H j
    | cons y rest => cases e2
theorem enumV_map {α : Type} (f : α → V) : ∀ (l : List α) (j : Nat), enumV j (l.map f) = (l.zipIdx j).map fun p => V.tup [.int p.2, f p.1]
  | [], _ => rfl
  | a :: l, j => by
    rw [List.map_cons, enumV, enumV_map f l (j + 1)]; rfl
theorem enumV_signs (s : List Nat) (j : Nat) : enumV j (signsV s) = (s.zipIdx j).map fun p => V.tup [.int p.2, .str [p.1]] := enumV_map _ s j
/-! ### sorted rows -/
theorem pdvs_map {α : Type} (f : α → V) : ∀ l : List α, pdvs (l.map f) = l.map fun a => pdv (f a)
  | [] => rfl
  | a :: l => by rw [List.map_cons, pdvs, pdvs_map f l]; rfl
theorem zip_map {α β γ : Type} (f : α → β) (g : α → γ) : ∀ l : List α, (l.map f).zip (l.map g) = l.map fun a => (f a, g a)
  | [] => rfl
  | a :: l => by simp [zip_map f g l]
theorem sort_map {α : Type} (enc : α → V) (le : α → α → Bool) (l : List α) (hp : pvs (l.map enc) = true) (hd : dvs (l.map enc) ≤ 60) (hle : ∀ a ∈ l, ∀ b ∈ l, (!PySem.W.dataLt (pdv (enc b)) (pdv (enc a))) = le a b) (ok : sortOk (l.map fun a => pdv (enc a)) = true) : sortV (l.map enc) = some ((l.mergeSort le).map enc) := by
  unfold sortV
  rw [snapsV_pv _ 63 hp (by omega), Option.bind_some, pdvs_map, if_pos ok, zip_map]
  have s1 := List.map_mergeSort (r := le) (s := PySem.W.dataLe false (Prod.snd : V × PyData → PyData)) (f := fun a => (enc a, pdv (enc a))) (l := l) (fun a ma b mb => (hle a ma b mb).symm)
  rw [← s1, List.map_map]; rfl
theorem sortOk_ints (l : List Int) : sortOk (l.map fun i => PyData.int i) = true := by
  unfold sortOk
  rw [Bool.and_eq_true, Bool.and_eq_true, Bool.or_eq_true]
  refine ⟨⟨?_, .inr ?_⟩, ?_⟩
  · simp [PySem.W.alike]
  · simp [notNT]
  · simp [PyData.depth]
theorem sort_ints (l : List Int) : sortV (l.map V.int) = some ((l.mergeSort fun a b => decide (a ≤ b)).map V.int) := by
  refine sort_map V.int _ l (pvs_iff.2 ?_) (dvs_le.2 ?_) ?_ ?_
  · intro d m; obtain ⟨i, _, rfl⟩ := List.mem_map.1 m; simp [pv]
  · intro d m; obtain ⟨i, _, rfl⟩ := List.mem_map.1 m; simp [dv]
  · intro a _ b _
    simp only [pdv]
    rw [PySem.W.dataLt_int]
    by_cases h : b < a
    · have : ¬ a ≤ b := by omega
      simp [h, this]
    · have : a ≤ b := by omega
      simp [h, this]
  · simpa only [pdv] using sortOk_ints l
theorem sort_nats (l : List Nat) : sortV (l.map fun i => V.int (i : Nat)) = some ((l.mergeSort fun a b => decide (a ≤ b)).map fun i => V.int (i : Nat)) := by
  have e : (l.map fun i => V.int (i : Nat)) = (l.map fun i : Nat => (i : Int)).map V.int := by rw [List.map_map]; rfl
  have := List.map_mergeSort (r := fun a b : Nat => decide (a ≤ b)) (s := fun a b : Int => decide (a ≤ b)) (f := fun i : Nat => (i : Int)) (l := l) (fun a _ b _ => by simp)
  rw [e, sort_ints, ← this, List.map_map]; rfl
/-- a row of whole numbers -/
def tupV (l : List Nat) : V := .tup (l.map fun i => V.int (i : Nat))
theorem tupV_fit (l : List Nat) : Fit (tupV l) := by
  refine ⟨?_, ?_⟩
  · unfold tupV; rw [pv]; exact pvs_iff.2 fun d m => by obtain ⟨i, _, rfl⟩ := List.mem_map.1 m; simp [pv]
  · unfold tupV; rw [dv]
    have : dvs (l.map fun i => V.int (i : Nat)) ≤ 0 := dvs_le.2 fun d m => by obtain ⟨i, _, rfl⟩ := List.mem_map.1 m; simp [dv]
    omega
theorem mapI_inj : ∀ {l m : List Nat}, (l.map fun i => V.int (i : Nat)) = (m.map fun i => V.int (i : Nat)) → l = m
  | [], [], _ => rfl
  | [], _ :: _, h => by cases h
  | _ :: _, [], h => by cases h
  | a :: l, b :: m, h => by
    rw [List.map_cons, List.map_cons] at h
    obtain ⟨h1, h2⟩ := List.cons.inj h
    have h1 := V.int.inj h1
    rw [mapI_inj h2, Int.ofNat.inj h1]
theorem tupV_inj {l m : List Nat} (h : tupV l = tupV m) : l = m := mapI_inj (V.tup.inj h)
theorem sort_tups (l : List (List Nat)) (ne : ∀ x ∈ l, x ≠ []) : sortV (l.map tupV) = some ((l.mergeSort fun a b => decide (a ≤ b)).map tupV) := by
  have e1 : ∀ a : List Nat, pdv (tupV a) = .tuple ((a.map fun i : Nat => (i : Int)).map PyData.int) := fun a => by
    unfold tupV; rw [pdv, pdvs_map, List.map_map]; rfl
  refine sort_map tupV _ l (pvs_iff.2 ?_) (dvs_le.2 ?_) ?_ ?_
  · intro d m; obtain ⟨i, _, rfl⟩ := List.mem_map.1 m; exact (tupV_fit i).1
  · intro d m; obtain ⟨i, _, rfl⟩ := List.mem_map.1 m; exact (tupV_fit i).2
  · intro a _ b _
    rw [e1, e1, PySem.W.dataLt_tuple]
    have := PySem.W.dataLt_ints (b.map fun i : Nat => (i : Int)) (a.map fun i : Nat => (i : Int))
    unfold PySem.W.rowLt at this
    rw [this]
    have key : ∀ x y : List Nat, (x.map fun i : Nat => (i : Int)) < (y.map fun i : Nat => (i : Int)) ↔ x < y := by
      intro x
      induction x with
      | nil => intro y; cases y <;> simp
      | cons c x ih =>
        intro y
        cases y with
        | nil => simp
        | cons d y =>
          rw [List.map_cons, List.map_cons, List.cons_lt_cons_iff, List.cons_lt_cons_iff, ih]
          have e : ((c : Int) = (d : Int)) ↔ c = d := Int.ofNat_inj
          have e2 : ((c : Int) < (d : Int)) ↔ c < d := Int.ofNat_lt
          rw [e, e2]
    by_cases h : b < a
    · have h2 : ¬ a ≤ b := fun x => by
        rw [List.not_lt.symm] at x
        exact x h
      simp [key, h, h2]
    · have h2 : a ≤ b := List.not_lt.1 h
      simp [key, h, h2]
  · unfold sortOk
    rw [Bool.and_eq_true, Bool.and_eq_true, Bool.or_eq_true]
    refine ⟨⟨?_, .inl ?_⟩, ?_⟩
    · rw [List.all_eq_true]
      intro x mx
      rw [List.all_eq_true]
      intro y my
      obtain ⟨a, _, rfl⟩ := List.mem_map.1 mx
      obtain ⟨b, _, rfl⟩ := List.mem_map.1 my
      rw [e1, e1, PySem.W.alike]
      exact PySem.W.alike_ints _ _
    · rw [List.all_eq_true]
      intro x mx
      obtain ⟨a, ma, rfl⟩ := List.mem_map.1 mx
      have := ne a ma
      cases a with
      | nil => exact (this rfl).elim
      | cons => rfl
    · rw [List.all_eq_true]
      intro x mx
      obtain ⟨a, ma, rfl⟩ := List.mem_map.1 mx
      rw [decide_eq_true_eq, depth_pv]
      have := (tupV_fit a).2
      omega
/-! ### places -/
abbrev Pl := Int × Int
def rowSpots (r : Nat) (s : List Nat) : List Pl := (s.zipIdx.filter fun p => !decide (p.1 = 35)).map fun p => ((r : Int), (p.2 : Int))
def spots (rows : List (List Nat)) : List Pl := (rows.zipIdx.map fun p => rowSpots p.2 p.1).flatten
def plV (p : Pl) : V := .tup [.int p.1, .int p.2]
def plD (p : Pl) : D := .tup [.int p.1, .int p.2]
theorem plV_toD (p : Pl) : toD (plV p) = some (plD p) := by simp [plV, plD, toD, toDs]
theorem plV_inj {p q : Pl} (h : plV p = plV q) : p = q := by
  unfold plV at h
  have := V.tup.inj h
  simp only [List.cons.injEq, V.int.injEq, and_true] at this
  exact Prod.ext this.1 this.2
theorem plD_inj {p q : Pl} (h : plD p = plD q) : p = q := by
  unfold plD at h
  have := D.tup.inj h
  simp only [List.cons.injEq, D.int.injEq, and_true] at this
  exact Prod.ext this.1 this.2
theorem plD_kf (p : Pl) : KF true (plD p) := ⟨by simp [plD, Wp.pln, Wp.plns], rfl, rfl, by simp [plD, dpth, dpths]⟩
theorem plV_fit (p : Pl) : Fit (plV p) := ⟨by simp [plV, pv, pvs], by simp [plV, dv, dvs]⟩
theorem plVs_pv (l : List Pl) : pvs (l.map plV) = true := pvs_iff.2 fun d m => by obtain ⟨p, _, rfl⟩ := List.mem_map.1 m; exact (plV_fit p).1
theorem plVs_dv (l : List Pl) : dvs (l.map plV) ≤ 60 := dvs_le.2 fun d m => by obtain ⟨p, _, rfl⟩ := List.mem_map.1 m; exact (plV_fit p).2
/-- a row's sign -/
def Sg4 (c : Nat) : Prop := c = 35 ∨ c = 46 ∨ c = 72 ∨ c = 83
theorem Sg4.lt {c : Nat} (h : Sg4 c) : c < 1114112 := by unfold Sg4 at h; omega
structure FitR (rows : List (List Nat)) : Prop where
  t1 : 1 ≤ rows.length
  t2 : rows.length ≤ 12
  w : ∃ n, 1 ≤ n ∧ n ≤ 12 ∧ ∀ s ∈ rows, s.length = n
  sg : ∀ s ∈ rows, ∀ c ∈ s, Sg4 c
  hm : 1 ≤ (rows.map fun s => s.count 72).sum ∧ (rows.map fun s => s.count 72).sum ≤ 6
theorem rowSpots_len (r : Nat) (s : List Nat) : (rowSpots r s).length ≤ s.length := by
  unfold rowSpots
  rw [List.length_map]
  have := List.length_filter_le (fun p : Nat × Nat => !decide (p.1 = 35)) s.zipIdx
  rwa [List.length_zipIdx] at this
theorem flatten_len {α β : Type} {f : α → List β} {n : Nat} : ∀ {l : List α}, (∀ a ∈ l, (f a).length ≤ n) → (l.map f).flatten.length ≤ l.length * n
  | [], _ => by simp
  | a :: l, h => by
    rw [List.map_cons, List.flatten_cons, List.length_append, List.length_cons, Nat.add_mul, Nat.one_mul]
    have h1 := h a (List.mem_cons_self ..)
    have h2 := flatten_len (l := l) fun b m => h b (List.mem_cons_of_mem _ m)
    omega
theorem mem_zip {α : Type} {l : List α} {p : α × Nat} (h : p ∈ l.zipIdx) : l[p.2]? = some p.1 := by
  obtain ⟨a, i⟩ := p
  exact List.mk_mem_zipIdx_iff_getElem?.1 h
theorem FitR.spots_len {rows : List (List Nat)} (h : FitR rows) : (spots rows).length ≤ 144 := by
  obtain ⟨n, h1, h2, h3⟩ := h.w
  have := flatten_len (f := fun p : List Nat × Nat => rowSpots p.2 p.1) (n := n) (l := rows.zipIdx) fun p m => by
    have := List.mem_of_getElem? (mem_zip m)
    have := h3 _ this
    have := rowSpots_len p.2 p.1
    omega
  rw [List.length_zipIdx] at this
  have h4 := h.t2
  have h5 : rows.length * n ≤ 12 * 12 := Nat.mul_le_mul h4 h2
  exact Nat.le_trans this h5
theorem mem_spots {rows : List (List Nat)} {p : Pl} : p ∈ spots rows ↔ ∃ r c : Nat, p = ((r : Int), (c : Int)) ∧ ∃ s, rows[r]? = some s ∧ ∃ x, s[c]? = some x ∧ x ≠ 35 := by
  unfold spots
  rw [List.mem_flatten]
  constructor
  · rintro ⟨l, hl, hp⟩
    obtain ⟨⟨s, r⟩, hq, rfl⟩ := List.mem_map.1 hl
    unfold rowSpots at hp
    obtain ⟨⟨x, c⟩, hq2, rfl⟩ := List.mem_map.1 hp
    rw [List.mem_filter] at hq2
    refine ⟨r, c, rfl, s, mem_zip hq, x, mem_zip hq2.1, ?_⟩
    simpa using hq2.2
  · rintro ⟨r, c, rfl, s, hs, x, hx, hn⟩
    refine ⟨rowSpots r s, List.mem_map.2 ⟨(s, r), List.mk_mem_zipIdx_iff_getElem?.2 hs, rfl⟩, ?_⟩
    unfold rowSpots
    exact List.mem_map.2 ⟨(x, c), List.mem_filter.2 ⟨List.mk_mem_zipIdx_iff_getElem?.2 hx, by simpa using hn⟩, rfl⟩
/-- the places stand in order -/
def ltP (p q : Pl) : Prop := p.1 < q.1 ∨ p.1 = q.1 ∧ p.2 < q.2
theorem zipIdx_pair {α : Type} : ∀ (l : List α) (j : Nat), (l.zipIdx j).Pairwise fun a b => a.2 < b.2
  | [], _ => .nil
  | a :: l, j => by
    rw [List.zipIdx_cons]
    refine .cons (fun b m => ?_) (zipIdx_pair l (j + 1))
    obtain ⟨x, i⟩ := b
    have := List.le_snd_of_mem_zipIdx m
    show j < i
    have h : j + 1 ≤ i := this
    omega
theorem spots_ord (rows : List (List Nat)) : (spots rows).Pairwise ltP := by
  unfold spots
  rw [List.pairwise_flatten]
  constructor
  · intro l hl
    obtain ⟨⟨s, r⟩, hq, rfl⟩ := List.mem_map.1 hl
    unfold rowSpots
    rw [List.pairwise_map]
    refine ((zipIdx_pair s 0).filter _).imp ?_
    rintro ⟨x, i⟩ ⟨y, j⟩ h
    exact .inr ⟨rfl, by show (i : Int) < j; have h : i < j := h; omega⟩
  · rw [List.pairwise_map]
    refine (zipIdx_pair rows 0).imp ?_
    rintro ⟨s, i⟩ ⟨t, j⟩ h p hp q hq
    unfold rowSpots at hp hq
    obtain ⟨a, _, rfl⟩ := List.mem_map.1 hp
    obtain ⟨b, _, rfl⟩ := List.mem_map.1 hq
    have h : i < j := h
    exact .inl (by show (i : Int) < j; omega)
theorem spots_nodup (rows : List (List Nat)) : (spots rows).Nodup := by
  refine (spots_ord rows).imp ?_
  rintro p q h rfl
  rcases h with h | h <;> omega
/-! ### numbers of places -/
def numD (ps : List Pl) : List (D × V) := ps.zipIdx.map fun p => (plD p.1, V.int (p.2 : Nat))
theorem numD_dk (ps : List Pl) : DK true (numD ps) := ⟨fun kv m => by
  obtain ⟨p, _, rfl⟩ := List.mem_map.1 m
  exact ⟨(plD_kf p.1).1, rfl⟩⟩
theorem numF_lk (p : Pl) : ∀ (ps : List Pl) (j : Nat), lkD (plD p) ((ps.zipIdx j).map fun p => (plD p.1, V.int (p.2 : Nat))) = (ps.idxOf? p).map fun i => V.int ((j + i : Nat) : Int)
  | [], _ => rfl
  | q :: ps, j => by
    rw [List.zipIdx_cons, List.map_cons, lkD, numF_lk p ps (j + 1), List.idxOf?_cons]
    by_cases h : q = p
    · subst h; simp
    · have h2 : ¬ plD q = plD p := fun e => h (plD_inj e)
      rw [if_neg h2]
      have h3 : (q == p) = false := by simpa using h
      rw [h3]
      simp only [Bool.false_eq_true, if_false, Option.map_map]
      congr 1
      funext i
      show V.int ((j + 1 + i : Nat) : Int) = V.int ((j + (i + 1) : Nat) : Int)
      congr 2
      omega
theorem numD_lk (p : Pl) (ps : List Pl) : lkD (plD p) (numD ps) = (ps.idxOf? p).map fun i => V.int (i : Nat) := by
  unfold numD
  rw [numF_lk]
  congr 1
  funext i
  rw [Nat.zero_add]
theorem mem_idx {α : Type} [BEq α] [LawfulBEq α] {x : α} : ∀ {l : List α}, x ∈ l ↔ (l.idxOf? x).isSome = true
  | [] => by simp
  | a :: l => by
    rw [List.mem_cons, List.idxOf?_cons, mem_idx (l := l)]
    cases h : a == x with
    | true => simp [(eq_of_beq h).symm]
    | false =>
      have h2 : ¬ x = a := fun e => by rw [e] at h; simp at h
      simp [h2]
theorem idx_some {α : Type} [BEq α] [LawfulBEq α] {x : α} {i : Nat} : ∀ {l : List α}, l.idxOf? x = some i → l[i]? = some x
  | [], e => by simp at e
  | a :: l, e => by
    rw [List.idxOf?_cons] at e
    cases h : a == x with
    | true =>
      rw [h] at e
      simp at e
      subst e
      rw [eq_of_beq h]; rfl
    | false =>
      rw [h] at e
      simp only [Bool.false_eq_true, if_false] at e
      obtain ⟨j, e1, rfl⟩ := Option.map_eq_some_iff.mp e
      rw [List.getElem?_cons_succ]
      exact idx_some e1
theorem at_inj {α : Type} {l : List α} (nd : l.Nodup) {x : α} {i j : Nat} (h : l[i]? = some x) (h2 : l[j]? = some x) : i = j := by
  obtain ⟨l1, e1⟩ := List.getElem?_eq_some_iff.1 h
  obtain ⟨l2, e2⟩ := List.getElem?_eq_some_iff.1 h2
  have := List.pairwise_iff_getElem.1 nd
  rcases Nat.lt_trichotomy i j with q | q | q
  · exact (this i j l1 l2 q (e1.trans e2.symm)).elim
  · exact q
  · exact (this j i l2 l1 q (e2.trans e1.symm)).elim
theorem idx_of {α : Type} [BEq α] [LawfulBEq α] {x : α} {i : Nat} {l : List α} (nd : l.Nodup) (h : l[i]? = some x) : l.idxOf? x = some i := by
  have m : x ∈ l := List.mem_of_getElem? h
  rw [mem_idx] at m
  obtain ⟨j, e⟩ := Option.isSome_iff_exists.1 m
  rw [e, at_inj nd h (idx_some e)]
/-! ### neighbours -/
def around (p : Pl) : List Pl := [(p.1 - 1, p.2), (p.1 + 1, p.2), (p.1, p.2 - 1), (p.1, p.2 + 1)]
/-- the neighbours of a place, ascending -/
def tieL (ps : List Pl) (p : Pl) : List Nat := (((around p).filter fun q => (ps.idxOf? q).isSome).map fun q => (ps.idxOf? q).getD 0).mergeSort fun a b => decide (a ≤ b)
def signAt (rows : List (List Nat)) (p : Pl) : Option Nat := (rows[p.1.toNat]?).bind fun s => s[p.2.toNat]?
/-- the cells with a sign -/
def signL (rows : List (List Nat)) (c : Nat) : List Nat := ((spots rows).zipIdx.filter fun p => decide (signAt rows p.1 = some c)).map Prod.snd
/-! ### commands -/
/-- the place that a command leads to -/
def shift (p d : Pl) : Pl := (p.1 + d.1, p.2 + d.2)
/-- the cell that is next, if there is one -/
def nbr (ps : List Pl) (d : Pl) (i : Nat) : Option Nat := (ps[i]?).bind fun p => ps.idxOf? (shift p d)
def nxt (ps : List Pl) (d : Pl) (i : Nat) : Nat := (nbr ps d i).getD i
theorem nbr_lt {ps : List Pl} {d : Pl} {i j : Nat} (h : nbr ps d i = some j) : j < ps.length := by
  unfold nbr at h
  obtain ⟨p, _, e⟩ := Option.bind_eq_some_iff.mp h
  exact (List.getElem?_eq_some_iff.1 (idx_some e)).1
theorem nxt_lt {ps : List Pl} {d : Pl} {i : Nat} (h : i < ps.length) : nxt ps d i < ps.length := by
  unfold nxt
  cases e : nbr ps d i with
  | none => exact h
  | some j => exact nbr_lt e
def stepL (ps : List Pl) (d : Pl) : List V := (List.range ps.length).map fun i => V.int (nxt ps d i : Nat)
def dir (c : Nat) : Pl := if c = 117 then (-1, 0) else if c = 100 then (1, 0) else if c = 108 then (0, -1) else (0, 1)
/-- a sign of a command -/
def Sgn (c : Nat) : Prop := c = 100 ∨ c = 108 ∨ c = 114 ∨ c = 117
end Vl

/-! Vm2: the least of the shortest words, by a search in breadth. -/
namespace Bf
/-- shorter, or as long and less -/
def sl (u v : List Nat) : Prop := u.length < v.length ∨ (u.length = v.length ∧ u < v)
def sle (u v : List Nat) : Prop := u = v ∨ sl u v
theorem sl_irrefl (u : List Nat) : ¬ sl u u := fun h => by
  rcases h with h | ⟨_, h⟩
  · omega
  · exact List.lt_irrefl u h
theorem sl_trans {u v w : List Nat} (a : sl u v) (b : sl v w) : sl u w := by
  rcases a with a | ⟨a, a2⟩ <;> rcases b with b | ⟨b, b2⟩
  · exact .inl (by omega)
  · exact .inl (by omega)
  · exact .inl (by omega)
  · exact .inr ⟨by omega, List.lt_trans a2 b2⟩
theorem sle_trans {u v w : List Nat} (a : sle u v) (b : sle v w) : sle u w := by
  rcases a with rfl | a
  · exact b
  · rcases b with rfl | b
    · exact .inr a
    · exact .inr (sl_trans a b)
theorem sl_of_sle {u v w : List Nat} (a : sle u v) (b : sl v w) : sl u w := by
  rcases a with rfl | a
  · exact b
  · exact sl_trans a b
theorem sl_of_sl {u v w : List Nat} (a : sl u v) (b : sle v w) : sl u w := by
  rcases b with rfl | b
  · exact a
  · exact sl_trans a b
theorem sl_total (u v : List Nat) : u = v ∨ sl u v ∨ sl v u := by
  rcases Nat.lt_trichotomy u.length v.length with h | h | h
  · exact .inr (.inl (.inl h))
  · by_cases e : u = v
    · exact .inl e
    · rcases List.le_total u v with q | q
      · by_cases r : u < v
        · exact .inr (.inl (.inr ⟨h, r⟩))
        · exact (e (List.le_antisymm q (List.not_lt.1 r))).elim
      · by_cases r : v < u
        · exact .inr (.inr (.inr ⟨h.symm, r⟩))
        · exact (e (List.le_antisymm (List.not_lt.1 r) q)).elim
  · exact .inr (.inr (.inl h))
theorem not_sle {u v : List Nat} (h : ¬ sle u v) : sl v u := by
  rcases sl_total u v with e | e | e
  · exact (h (.inl e)).elim
  · exact (h (.inr e)).elim
  · exact e
theorem sle_antisymm {u v : List Nat} (a : sle u v) (b : sle v u) : u = v := by
  rcases a with rfl | a
  · rfl
  · exact (sl_irrefl _ (sl_of_sl a b)).elim
theorem lt_app : ∀ {u v : List Nat} (a b : List Nat), u.length = v.length → u < v → u ++ a < v ++ b
  | [], [], _, _, _, h => (List.lt_irrefl _ h).elim
  | [], _ :: _, _, _, e, _ => by simp at e
  | _ :: _, [], _, _, e, _ => by simp at e
  | x :: u, y :: v, a, b, e, h => by
    rw [List.cons_lt_cons_iff] at h
    rw [List.cons_append, List.cons_append, List.cons_lt_cons_iff]
    rcases h with h | ⟨rfl, h⟩
    · exact .inl h
    · exact .inr ⟨rfl, lt_app a b (by simpa using e) h⟩
theorem lt_app_right : ∀ (u : List Nat) {a b : List Nat}, u ++ a < u ++ b ↔ a < b
  | [], _, _ => Iff.rfl
  | x :: u, a, b => by
    rw [List.cons_append, List.cons_append, List.cons_lt_cons_iff]
    constructor
    · rintro (h | ⟨_, h⟩)
      · omega
      · exact (lt_app_right u).1 h
    · exact fun h => .inr ⟨rfl, (lt_app_right u).2 h⟩
theorem sl_app {u v : List Nat} (c d : Nat) (h : sl u v) : sl (u ++ [c]) (v ++ [d]) := by
  rcases h with h | ⟨e, h⟩
  · exact .inl (by simp; omega)
  · exact .inr ⟨by simp [e], lt_app _ _ e h⟩
theorem sl_last (u : List Nat) {c d : Nat} (h : c < d) : sl (u ++ [c]) (u ++ [d]) := .inr ⟨by simp, (lt_app_right u).2 (by rw [List.cons_lt_cons_iff]; exact .inl h)⟩
theorem sl_snoc (u : List Nat) (c : Nat) : sl u (u ++ [c]) := .inl (by simp)
theorem sl_inv {u v : List Nat} {c d : Nat} (h : sl (u ++ [c]) (v ++ [d])) : sl u v ∨ (u = v ∧ c < d) := by
  rcases sl_total u v with e | e | e
  · subst e
    rcases Nat.lt_trichotomy c d with q | q | q
    · exact .inr ⟨rfl, q⟩
    · subst q; exact (sl_irrefl _ h).elim
    · exact (sl_irrefl _ (sl_trans h (sl_last u q))).elim
  · exact .inl e
  · exact (sl_irrefl _ (sl_trans h (sl_app d c e))).elim
theorem sle_app {u v : List Nat} (c : Nat) (h : sle u v) : sle (u ++ [c]) (v ++ [c]) := by
  rcases h with rfl | h
  · exact .inl rfl
  · exact .inr (sl_app c c h)
theorem sle_nil (u : List Nat) : sle [] u := by
  cases u with
  | nil => exact .inl rfl
  | cons a u => exact .inr (.inl (by simp))
section
variable {α : Type} (δ : α → Nat → α) (g : α → Nat → Bool) (A : List Nat) (s : α)
def run (p : α) (w : List Nat) : α := w.foldl δ p
theorem run_snoc (p : α) (w : List Nat) (c : Nat) : run δ p (w ++ [c]) = δ (run δ p w) c := by unfold run; rw [List.foldl_append]; rfl
def Ok (w : List Nat) : Prop := ∀ c ∈ w, c ∈ A
theorem ok_snoc {w : List Nat} {c : Nat} : Ok A (w ++ [c]) ↔ Ok A w ∧ c ∈ A := by
  unfold Ok
  constructor
  · exact fun h => ⟨fun d m => h d (List.mem_append_left _ m), h c (by simp)⟩
  · rintro ⟨h1, h2⟩ d m
    rw [List.mem_append, List.mem_singleton] at m
    rcases m with m | rfl
    · exact h1 d m
    · exact h2
theorem snoc_ind {P : List Nat → Prop} (h0 : P []) (h1 : ∀ w c, P w → P (w ++ [c])) : ∀ (n : Nat) (w : List Nat), w.length = n → P w
  | 0, w, e => by rw [List.length_eq_zero_iff.1 e]; exact h0
  | n + 1, w, e => by
    rcases List.eq_nil_or_concat w with rfl | ⟨u, c, rfl⟩
    · exact h0
    · rw [List.concat_eq_append] at e ⊢
      exact h1 u c (snoc_ind h0 h1 n u (by simpa using e))
/-- the search: at the place at, signs done behind it, cs left -/
structure BInv (at_ : Nat) (dn cs : List Nat) (Q : List (α × List Nat)) : Prop where
  sig : dn ++ cs = A
  nd : (Q.map Prod.fst).Nodup
  path : ∀ x ∈ Q, run δ s x.2 = x.1 ∧ Ok A x.2
  ord : Q.Pairwise fun x y => sl x.2 y.2
  first : Q[0]? = some (s, [])
  wl : ∀ (i : Nat) (x : α × List Nat), Q[i]? = some x → x.2.length ≤ i
  bnd : ∀ p w, Q[at_]? = some (p, w) → ∀ x ∈ Q, x.2 = [] ∨ ∃ d e, x.2 = d ++ [e] ∧ (sl d w ∨ (d = w ∧ e ∈ dn))
  clo : ∀ i p w, i < at_ → Q[i]? = some (p, w) → ∀ c ∈ A, g p c = false ∧ ∃ x ∈ Q, x.1 = δ p c ∧ sle x.2 (w ++ [c])
  cur : ∀ p w, Q[at_]? = some (p, w) → ∀ c ∈ dn, g p c = false ∧ ∃ x ∈ Q, x.1 = δ p c ∧ sle x.2 (w ++ [c])
variable {δ g A s}
theorem BInv.init : BInv δ g A s 0 [] A [(s, [])] := by
  refine ⟨rfl, by simp, ?_, by simp, rfl, ?_, ?_, ?_, ?_⟩
  · intro x m; rw [List.mem_singleton] at m; subst m; exact ⟨rfl, fun _ h => by cases h⟩
  · intro i x e; have := List.mem_of_getElem? e; rw [List.mem_singleton] at this; subst this; simp
  · intro p w e x m; rw [List.mem_singleton] at m; subst m; exact .inl rfl
  · intro i p w h; omega
  · intro p w e c m; cases m
variable {at_ : Nat} {dn cs : List Nat} {Q : List (α × List Nat)} {c : Nat} {p : α} {w : List Nat}
theorem BInv.old (h : BInv δ g A s at_ dn (c :: cs) Q) (hq : Q[at_]? = some (p, w)) (hg : g p c = false) (hm : ∃ x ∈ Q, x.1 = δ p c) (srt : A.Pairwise (· < ·)) : BInv δ g A s at_ (dn ++ [c]) cs Q := by
  refine ⟨by rw [← h.sig]; simp, h.nd, h.path, h.ord, h.first, h.wl, ?_, h.clo, ?_⟩
  · intro p w e x m
    rcases h.bnd p w e x m with q | ⟨d, a, q1, q2 | ⟨q2, q3⟩⟩
    · exact .inl q
    · exact .inr ⟨d, a, q1, .inl q2⟩
    · exact .inr ⟨d, a, q1, .inr ⟨q2, List.mem_append_left _ q3⟩⟩
  · intro p' w' e d m
    rw [hq] at e
    cases e
    rw [List.mem_append, List.mem_singleton] at m
    rcases m with m | rfl
    · exact h.cur p w hq d m
    · obtain ⟨x, m, e⟩ := hm
      refine ⟨hg, x, m, e, ?_⟩
      rcases h.bnd p w hq x m with q | ⟨y, a, q1, q2 | ⟨q2, q3⟩⟩
      · rw [q]; exact sle_nil _
      · rw [q1]; exact .inr (sl_app _ _ q2)
      · rw [q1, q2]
        have := h.sig
        rw [← this, List.pairwise_append] at srt
        exact .inr (sl_last _ (srt.2.2 a q3 d (List.mem_cons_self ..)))
theorem BInv.new (h : BInv δ g A s at_ dn (c :: cs) Q) (hq : Q[at_]? = some (p, w)) (hg : g p c = false) (hm : ∀ x ∈ Q, x.1 ≠ δ p c) (srt : A.Pairwise (· < ·)) : BInv δ g A s at_ (dn ++ [c]) cs (Q ++ [(δ p c, w ++ [c])]) := by
  have hl : at_ < Q.length := (List.getElem?_eq_some_iff.1 hq).1
  have mq : (p, w) ∈ Q := List.mem_of_getElem? hq
  have hc : c ∈ A := by rw [← h.sig]; simp
  have top : ∀ x ∈ Q, sl x.2 (w ++ [c]) := fun x m => by
    rcases h.bnd p w hq x m with q | ⟨y, a, q1, q2 | ⟨q2, q3⟩⟩
    · rw [q]; exact .inl (by simp)
    · rw [q1]; exact sl_app _ _ q2
    · rw [q1, q2]
      have := h.sig
      rw [← this, List.pairwise_append] at srt
      exact sl_last _ (srt.2.2 a q3 c (List.mem_cons_self ..))
  have old : ∀ {i : Nat} {q : α} {v : List Nat}, (Q ++ [(δ p c, w ++ [c])])[i]? = some (q, v) → i ≤ at_ → Q[i]? = some (q, v) := fun e l => by
    rw [List.getElem?_append_left (by omega)] at e; exact e
  refine ⟨by rw [← h.sig]; simp, ?_, ?_, ?_, ?_, ?_, ?_, ?_, ?_⟩
  · rw [List.map_append, List.nodup_append]
    refine ⟨h.nd, by simp, ?_⟩
    intro a ma b mb
    rw [List.map_singleton, List.mem_singleton] at mb
    subst mb
    obtain ⟨x, mx, rfl⟩ := List.mem_map.1 ma
    exact hm x mx
  · intro x m
    rw [List.mem_append, List.mem_singleton] at m
    rcases m with m | rfl
    · exact h.path x m
    · refine ⟨?_, (ok_snoc A).2 ⟨(h.path _ mq).2, hc⟩⟩
      show run δ s (w ++ [c]) = δ p c
      rw [run_snoc, (h.path _ mq).1]
  · rw [List.pairwise_append]
    refine ⟨h.ord, by simp, ?_⟩
    intro x m y my
    rw [List.mem_singleton] at my
    subst my
    exact top x m
  · rw [List.getElem?_append_left (by omega)]; exact h.first
  · intro i x e
    rcases Nat.lt_or_ge i Q.length with l | l
    · rw [List.getElem?_append_left l] at e; exact h.wl i x e
    · rw [List.getElem?_append_right l] at e
      have := List.mem_of_getElem? e
      rw [List.mem_singleton] at this
      subst this
      have := h.wl at_ _ hq
      simp at this ⊢
      omega
  · intro p' w' e x m
    have e := old e (Nat.le_refl _)
    rw [hq] at e
    cases e
    rw [List.mem_append, List.mem_singleton] at m
    rcases m with m | rfl
    · rcases h.bnd p w hq x m with q | ⟨d, a, q1, q2 | ⟨q2, q3⟩⟩
      · exact .inl q
      · exact .inr ⟨d, a, q1, .inl q2⟩
      · exact .inr ⟨d, a, q1, .inr ⟨q2, List.mem_append_left _ q3⟩⟩
    · exact .inr ⟨w, c, rfl, .inr ⟨rfl, by simp⟩⟩
  · intro i q v l e d m
    obtain ⟨a, x, mx, b⟩ := h.clo i q v l (old e (by omega)) d m
    exact ⟨a, x, List.mem_append_left _ mx, b⟩
  · intro p' w' e d m
    have e := old e (Nat.le_refl _)
    rw [hq] at e
    cases e
    rw [List.mem_append, List.mem_singleton] at m
    rcases m with m | rfl
    · obtain ⟨a, x, mx, b⟩ := h.cur p w hq d m
      exact ⟨a, x, List.mem_append_left _ mx, b⟩
    · exact ⟨hg, (δ p d, w ++ [d]), by simp, rfl, .inl rfl⟩
theorem BInv.at_lt (h : BInv δ g A s at_ dn cs Q) {i j : Nat} {x y : α × List Nat} (hi : Q[i]? = some x) (hj : Q[j]? = some y) (q : sl x.2 y.2) : i < j := by
  obtain ⟨l1, e1⟩ := List.getElem?_eq_some_iff.1 hi
  obtain ⟨l2, e2⟩ := List.getElem?_eq_some_iff.1 hj
  have o := List.pairwise_iff_getElem.1 h.ord
  rcases Nat.lt_trichotomy i j with r | r | r
  · exact r
  · subst r
    rw [e1] at e2; subst e2
    exact (sl_irrefl _ q).elim
  · have := o j i l2 l1 r
    rw [e1, e2] at this
    exact (sl_irrefl _ (sl_trans this q)).elim
theorem BInv.next (h : BInv δ g A s at_ dn [] Q) : BInv δ g A s (at_ + 1) [] A Q := by
  have hd : dn = A := by have := h.sig; rwa [List.append_nil] at this
  refine ⟨rfl, h.nd, h.path, h.ord, h.first, h.wl, ?_, ?_, ?_⟩
  · intro p' w' e x m
    have l : at_ < Q.length := by have := (List.getElem?_eq_some_iff.1 e).1; omega
    obtain ⟨⟨p, w⟩, e0⟩ : ∃ y, Q[at_]? = some y := ⟨Q[at_], by simp⟩
    have o := List.pairwise_iff_getElem.1 h.ord at_ (at_ + 1) l (List.getElem?_eq_some_iff.1 e).1 (by omega)
    rw [(List.getElem?_eq_some_iff.1 e0).2, (List.getElem?_eq_some_iff.1 e).2] at o
    have o : sl w w' := o
    rcases h.bnd p w e0 x m with q | ⟨d, a, q1, q2 | ⟨q2, q3⟩⟩
    · exact .inl q
    · exact .inr ⟨d, a, q1, .inl (sl_trans q2 o)⟩
    · exact .inr ⟨d, a, q1, .inl (q2 ▸ o)⟩
  · intro i q v l e c m
    by_cases r : i < at_
    · exact h.clo i q v r e c m
    · obtain rfl : i = at_ := by omega
      exact h.cur q v e c (hd ▸ m)
  · intro p w e c m; cases m

theorem BInv.reach (h : BInv δ g A s at_ dn cs Q) (b : List Nat → Prop) (hb : ∀ u c, b (u ++ [c]) → b u) (hp : ∀ u, b u → ∀ c, b (u ++ [c]) → ∀ i x, Q[i]? = some x → sle x.2 u → i < at_) (u : List Nat) (ok : Ok A u) (bu : b u) : ∃ x ∈ Q, x.1 = run δ s u ∧ sle x.2 u := by
  revert ok bu
  refine snoc_ind (P := fun u => Ok A u → b u → ∃ x ∈ Q, x.1 = run δ s u ∧ sle x.2 u) ?_ ?_ _ u rfl
  · intro _ _
    exact ⟨_, List.mem_of_getElem? h.first, rfl, .inl rfl⟩
  · intro u c ih ok bu
    obtain ⟨ok1, ok2⟩ := (ok_snoc A).1 ok
    obtain ⟨x, m, e1, e2⟩ := ih ok1 (hb u c bu)
    obtain ⟨i, l, e3⟩ := List.getElem_of_mem m
    have e3' : Q[i]? = some x := by rw [List.getElem?_eq_getElem l, e3]
    have li := hp u (hb u c bu) c bu i x e3' e2
    obtain ⟨q, v⟩ := x
    obtain ⟨_, y, my, ey, sy⟩ := h.clo i q v li e3' c ok2
    refine ⟨y, my, ?_, sle_trans sy (sle_app c e2)⟩
    have e1 : q = run δ s u := e1
    rw [ey, e1, run_snoc]
/-- the word that is told is the least -/
structure Least (δ : α → Nat → α) (g : α → Nat → Bool) (A : List Nat) (s : α) (r : List Nat) : Prop where
  is : ∃ u c, r = u ++ [c] ∧ Ok A u ∧ c ∈ A ∧ g (run δ s u) c = true
  le : ∀ u c, Ok A u → c ∈ A → g (run δ s u) c = true → sle r (u ++ [c])
theorem Least.uniq {r r' : List Nat} (a : Least δ g A s r) (b : Least δ g A s r') : r = r' := by
  obtain ⟨u, c, e1, h1, h2, h3⟩ := a.is
  obtain ⟨u', c', e1', h1', h2', h3'⟩ := b.is
  refine sle_antisymm ?_ ?_
  · rw [e1']; exact a.le u' c' h1' h2' h3'
  · rw [e1]; exact b.le u c h1 h2 h3
theorem BInv.goal (h : BInv δ g A s at_ dn (c :: cs) Q) (hq : Q[at_]? = some (p, w)) (hg : g p c = true) (srt : A.Pairwise (· < ·)) : Least δ g A s (w ++ [c]) := by
  have mq : (p, w) ∈ Q := List.mem_of_getElem? hq
  have hc : c ∈ A := by rw [← h.sig]; simp
  refine ⟨⟨w, c, rfl, (h.path _ mq).2, hc, by rw [(h.path _ mq).1]; exact hg⟩, ?_⟩
  intro u d ok md gd
  refine Classical.byContradiction fun hn => ?_
  have hs := sl_inv (not_sle hn)
  have uw : sle u w := by
    rcases hs with q | ⟨q, _⟩
    · exact .inr q
    · exact .inl q
  obtain ⟨x, mx, e1, e2⟩ := h.reach (fun v => sle v w) (fun v c q => .inr (sl_of_sl (sl_snoc v c) q)) (fun v _ c q i x ex sx => h.at_lt ex hq (sl_of_sle sx (sl_of_sl (sl_snoc v c) q))) u ok uw
  obtain ⟨i, l, e3⟩ := List.getElem_of_mem mx
  have e3' : Q[i]? = some x := by rw [List.getElem?_eq_getElem l, e3]
  obtain ⟨q, v⟩ := x
  have ea : q = run δ s u := e1
  have eb : sle v u := e2
  by_cases r : sl v w
  · have li := h.at_lt e3' hq r
    have := (h.clo i q v li e3' d md).1
    rw [ea, gd] at this
    cases this
  · have vw : v = w := by
      rcases sle_trans eb uw with q | q
      · exact q
      · exact (r q).elim
    subst vw
    have uv : u = v := sle_antisymm uw eb
    subst uv
    have pp : p = q := ((h.path _ mq).1.symm).trans ea.symm
    rcases hs with z | ⟨_, z⟩
    · exact sl_irrefl _ z
    · have md' := md
      rw [← h.sig, List.mem_append, List.mem_cons] at md'
      rcases md' with m | rfl | m
      · have := (h.cur _ _ hq d m).1
        rw [pp, ea, gd] at this
        cases this
      · omega
      · have := h.sig
        rw [← this, List.pairwise_append, List.pairwise_cons] at srt
        have := srt.2.1.1 d m
        omega
/-- nothing is left: all is met -/
theorem BInv.all (h : BInv δ g A s at_ dn cs Q) (hl : Q.length ≤ at_) (u : List Nat) (ok : Ok A u) : ∃ x ∈ Q, x.1 = run δ s u ∧ sle x.2 u :=
  h.reach (fun _ => True) (fun _ _ _ => trivial) (fun _ _ _ _ i x e _ => by have := (List.getElem?_eq_some_iff.1 e).1; omega) u ok trivial
theorem BInv.none (h : BInv δ g A s at_ dn cs Q) (hl : Q.length ≤ at_) (u : List Nat) (c : Nat) (ok : Ok A u) (hc : c ∈ A) : g (run δ s u) c = false := by
  obtain ⟨⟨q, v⟩, m, e1, e2⟩ := h.all hl u ok
  obtain ⟨i, l, e3⟩ := List.getElem_of_mem m
  have e3' : Q[i]? = some (q, v) := by rw [List.getElem?_eq_getElem l, e3]
  have := (h.clo i q v (by omega) e3' c hc).1
  have e1 : q = run δ s u := e1
  rw [← e1]; exact this
theorem BInv.len (h : BInv δ g A s at_ dn cs Q) (L : List α) (hL : ∀ u, Ok A u → run δ s u ∈ L) : Q.length ≤ L.length := by
  have := List.Nodup.length_le_of_subset (l₂ := L) h.nd (by
    intro a m
    obtain ⟨x, mx, rfl⟩ := List.mem_map.1 m
    rw [← (h.path x mx).1]
    exact hL _ (h.path x mx).2)
  rwa [List.length_map] at this
end
end Bf

/-! Vm3: what is felt by commands; Moore's bound; lots that none tells apart. -/
namespace Vl
open Fw Bf
open PySem (Str PyData NestedKey)
def SG : List Nat := [100, 108, 114, 117]
theorem sg_iff {c : Nat} : c ∈ SG ↔ Sgn c := by unfold SG Sgn; simp
theorem sg_srt : SG.Pairwise (· < ·) := by decide
section
variable (ps : List Pl)
/-- the cell behind a command -/
def nx (c i : Nat) : Nat := nxt ps (dir c) i
def d2 (p : Nat × Nat) (c : Nat) : Nat × Nat := (nx ps c p.1, nx ps c p.2)
/-- the two feel otherwise -/
def g2 (p : Nat × Nat) (c : Nat) : Bool := decide (nx ps c p.1 = p.1) != decide (nx ps c p.2 = p.2)
def fl (c i : Nat) : Nat := if nx ps c i = i then 48 else 49
def feelW : List Nat → Nat → List Nat × Nat
  | [], i => ([], i)
  | c :: w, i => (fl ps c i :: (feelW w (nx ps c i)).1, (feelW w (nx ps c i)).2)
/-- felt alike -/
def eqW (w : List Nat) (a b : Nat) : Prop := (feelW ps w a).1 = (feelW ps w b).1
variable {ps}
theorem feel_app : ∀ (u v : List Nat) (i : Nat), feelW ps (u ++ v) i = ((feelW ps u i).1 ++ (feelW ps v (feelW ps u i).2).1, (feelW ps v (feelW ps u i).2).2)
  | [], v, i => rfl
  | c :: u, v, i => by rw [List.cons_append, feelW, feelW, feel_app u v]; rfl
theorem feel_len : ∀ (w : List Nat) (i : Nat), (feelW ps w i).1.length = w.length
  | [], i => rfl
  | c :: w, i => by rw [feelW, List.length_cons, List.length_cons, feel_len w]
theorem feel_run : ∀ (w : List Nat) (a b : Nat), run (d2 ps) (a, b) w = ((feelW ps w a).2, (feelW ps w b).2)
  | [], a, b => rfl
  | c :: w, a, b => by
    show run (d2 ps) (nx ps c a, nx ps c b) w = _
    rw [feel_run w]; rfl
theorem feel_lt : ∀ (w : List Nat) (i : Nat), i < ps.length → (feelW ps w i).2 < ps.length
  | [], i, h => h
  | c :: w, i, h => feel_lt w _ (nxt_lt h)
theorem fl_g2 {c a b : Nat} : (fl ps c a = fl ps c b) ↔ g2 ps (a, b) c = false := by
  unfold fl g2
  by_cases h1 : nx ps c a = a <;> by_cases h2 : nx ps c b = b <;> simp [h1, h2]
theorem eqW_cons {c a b : Nat} {w : List Nat} : eqW ps (c :: w) a b ↔ g2 ps (a, b) c = false ∧ eqW ps w (nx ps c a) (nx ps c b) := by
  unfold eqW
  rw [feelW, feelW, List.cons.injEq, fl_g2]
theorem eqW_snoc {c a b : Nat} {w : List Nat} : eqW ps (w ++ [c]) a b ↔ eqW ps w a b ∧ g2 ps (run (d2 ps) (a, b) w) c = false := by
  unfold eqW
  rw [feel_app, feel_app, feel_run, ← fl_g2]
  constructor
  · intro h
    have := List.append_inj h (by rw [feel_len, feel_len])
    refine ⟨this.1, ?_⟩
    have h2 := this.2
    rw [feelW, feelW] at h2
    exact (List.cons.inj h2).1
  · rintro ⟨h1, h2⟩
    rw [feelW, feelW, h1, h2]; rfl
/-- all words up to a length, no goal among them -/
theorem eqW_of {a b : Nat} {n : Nat} (h : ∀ u c, Ok SG u → c ∈ SG → u.length < n → g2 ps (run (d2 ps) (a, b) u) c = false) : ∀ (w : List Nat), Ok SG w → w.length ≤ n → eqW ps w a b := by
  intro w
  refine snoc_ind (P := fun w => Ok SG w → w.length ≤ n → eqW ps w a b) (fun _ _ => rfl) ?_ _ w rfl
  intro u c ih ok l
  rw [List.length_append, List.length_singleton] at l
  obtain ⟨o1, o2⟩ := (ok_snoc SG).1 ok
  exact eqW_snoc.2 ⟨ih o1 (by omega), h u c o1 o2 (by omega)⟩
/-- what a search for a parting word tells -/
def PartIs (ps : List Pl) (a b : Nat) : Option (List Nat) → Prop
  | some r => Least (d2 ps) (g2 ps) SG (a, b) r
  | none => ∀ u c, Ok SG u → c ∈ SG → g2 ps (run (d2 ps) (a, b) u) c = false
theorem PartIs.uniq {a b : Nat} : ∀ {o o' : Option (List Nat)}, PartIs ps a b o → PartIs ps a b o' → o = o'
  | none, none, _, _ => rfl
  | some r, some r', h, h' => by rw [Least.uniq h h']
  | none, some r, h, h' => by
    obtain ⟨u, c, _, h1, h2, h3⟩ := h'.is
    rw [h u c h1 h2] at h3; cases h3
  | some r, none, h', h => by
    obtain ⟨u, c, _, h1, h2, h3⟩ := h'.is
    rw [h u c h1 h2] at h3; cases h3
theorem run_swap (a b : Nat) (u : List Nat) : run (d2 ps) (b, a) u = ((run (d2 ps) (a, b) u).2, (run (d2 ps) (a, b) u).1) := by
  rw [feel_run, feel_run]
theorem g2_swap (p : Nat × Nat) (c : Nat) : g2 ps (p.2, p.1) c = g2 ps p c := by
  unfold g2
  dsimp only
  cases decide (nx ps c p.1 = p.1) <;> cases decide (nx ps c p.2 = p.2) <;> rfl
theorem PartIs.swap {a b : Nat} : ∀ {o : Option (List Nat)}, PartIs ps a b o → PartIs ps b a o
  | none, h => fun u c ok m => by rw [run_swap, g2_swap]; exact h u c ok m
  | some r, h => by
    obtain ⟨u, c, e, h1, h2, h3⟩ := h.is
    refine ⟨⟨u, c, e, h1, h2, by rw [run_swap, g2_swap]; exact h3⟩, fun u c ok m hg => h.le u c ok m ?_⟩
    rw [run_swap, g2_swap] at hg; exact hg
theorem PartIs.none_eq {a b : Nat} (h : PartIs ps a b none) (w : List Nat) (ok : Ok SG w) : eqW ps w a b := eqW_of (n := w.length) (fun u c o m _ => h u c o m) w ok (Nat.le_refl _)
theorem Least.short {a b : Nat} {r : List Nat} (h : Least (d2 ps) (g2 ps) SG (a, b) r) (w : List Nat) (ok : Ok SG w) (l : w.length < r.length) : eqW ps w a b := by
  refine eqW_of (n := w.length) (fun u c o m l2 => ?_) w ok (Nat.le_refl _)
  cases e : g2 ps (run (d2 ps) (a, b) u) c with
  | false => rfl
  | true =>
    have := h.le u c o m e
    rcases this with q | q | q
    · have := congrArg List.length q
      rw [List.length_append, List.length_singleton] at this
      omega
    · rw [List.length_append, List.length_singleton] at q; omega
    · rw [List.length_append, List.length_singleton] at q; omega
/-- only the last sign is another one -/
theorem Least.last {a b : Nat} {r : List Nat} (h : Least (d2 ps) (g2 ps) SG (a, b) r) : (feelW ps r a).1.dropLast = (feelW ps r b).1.dropLast ∧ (feelW ps r a).1 ≠ (feelW ps r b).1 := by
  obtain ⟨u, c, e, h1, h2, h3⟩ := h.is
  have q := Least.short h u h1 (by rw [e]; simp)
  constructor
  · rw [e, feel_app, feel_app]
    rw [feelW, feelW, feelW, feelW]
    dsimp only
    rw [List.dropLast_concat, List.dropLast_concat]; exact q
  · intro z
    have : eqW ps (u ++ [c]) a b := by rw [← e]; exact z
    have := (eqW_snoc.1 this).2
    rw [h3] at this; cases this
/-! ### Moore -/
def eqv (ps : List Pl) (k a b : Nat) : Prop := ∀ w, Ok SG w → w.length ≤ k → eqW ps w a b
theorem eqv_refl (k a : Nat) : eqv ps k a a := fun _ _ _ => rfl
theorem eqv_symm {k a b : Nat} (h : eqv ps k a b) : eqv ps k b a := fun w o l => (h w o l).symm
theorem eqv_trans {k a b c : Nat} (h : eqv ps k a b) (h2 : eqv ps k b c) : eqv ps k a c := fun w o l => (h w o l).trans (h2 w o l)
theorem eqv_mono {k m a b : Nat} (l : k ≤ m) (h : eqv ps m a b) : eqv ps k a b := fun w o q => h w o (by omega)
theorem eqv_succ {k a b : Nat} : eqv ps (k + 1) a b ↔ ∀ c ∈ SG, g2 ps (a, b) c = false ∧ eqv ps k (nx ps c a) (nx ps c b) := by
  constructor
  · intro h c m
    have h1 := h [c] (fun d q => by rw [List.mem_singleton] at q; rw [q]; exact m) (by simp)
    refine ⟨(eqW_cons.1 h1).1, fun w o l => ?_⟩
    exact (eqW_cons.1 (h (c :: w) (fun d q => by rw [List.mem_cons] at q; rcases q with rfl | q; exact m; exact o d q) (by simp; omega))).2
  · intro h w o l
    cases w with
    | nil => rfl
    | cons c w =>
      have := h c (o c (List.mem_cons_self ..))
      exact eqW_cons.2 ⟨this.1, this.2 w (fun d q => o d (List.mem_cons_of_mem _ q)) (by simp at l; omega)⟩
/-- what is stable once stays so -/
theorem eqv_stable {k : Nat} (h : ∀ a b, a < ps.length → b < ps.length → eqv ps k a b → eqv ps (k + 1) a b) : ∀ m, k ≤ m → ∀ a b, a < ps.length → b < ps.length → eqv ps k a b → eqv ps m a b
  | 0, l, a, b, _, _, e => eqv_mono (by omega) e
  | m + 1, l, a, b, ha, hb, e => by
    by_cases q : k = m + 1
    · subst q; exact e
    · have e1 := eqv_succ.1 (h a b ha hb e)
      exact eqv_succ.2 fun c mc => ⟨(e1 c mc).1, eqv_stable h m (by omega) _ _ (nxt_lt ha) (nxt_lt hb) (e1 c mc).2⟩
noncomputable def leads (ps : List Pl) (k : Nat) : List Nat := (List.range ps.length).filter fun i => @decide (∀ j, j < i → ¬ eqv ps k j i) (Classical.propDecidable _)
theorem mem_leads {k i : Nat} : i ∈ leads ps k ↔ i < ps.length ∧ ∀ j, j < i → ¬ eqv ps k j i := by
  unfold leads
  rw [List.mem_filter, List.mem_range]
  exact ⟨fun ⟨a, b⟩ => ⟨a, @of_decide_eq_true _ (Classical.propDecidable _) b⟩, fun ⟨a, b⟩ => ⟨a, @decide_eq_true _ (Classical.propDecidable _) b⟩⟩
theorem leads_nodup (k : Nat) : (leads ps k).Nodup := List.nodup_range.sublist List.filter_sublist
theorem least_of {P : Nat → Prop} : ∀ n, P n → ∃ m, P m ∧ m ≤ n ∧ ∀ j, j < m → ¬ P j := by
  intro n
  induction n using Nat.strongRecOn with
  | ind n ih =>
    intro h
    by_cases q : ∃ j, j < n ∧ P j
    · obtain ⟨j, l, hj⟩ := q
      obtain ⟨m, h1, h2, h3⟩ := ih j l hj
      exact ⟨m, h1, by omega, h3⟩
    · exact ⟨n, h, Nat.le_refl _, fun j l hj => q ⟨j, l, hj⟩⟩
theorem leads_grow {k a b : Nat} (ha : a < ps.length) (hb : b < ps.length) (h1 : eqv ps k a b) (h2 : ¬ eqv ps (k + 1) a b) : (leads ps k).length + 1 ≤ (leads ps (k + 1)).length := by
  -- the least of the lot
  obtain ⟨m, m1, m2, m3⟩ := least_of (P := fun i => eqv ps k i a) a (eqv_refl k a)
  have ml : m < ps.length := by omega
  -- the least of the lot that is told apart from it
  have ex : ∃ i, i < ps.length ∧ eqv ps k i a ∧ ¬ eqv ps (k + 1) m i := by
    by_cases q : eqv ps (k + 1) m a
    · exact ⟨b, hb, eqv_symm h1, fun z => h2 (eqv_trans (eqv_symm q) z)⟩
    · exact ⟨a, ha, eqv_refl k a, q⟩
  obtain ⟨i0, i1, i2, i3⟩ := ex
  obtain ⟨i, ⟨j1, j2⟩, j3, j4⟩ := least_of (P := fun i => eqv ps k i a ∧ ¬ eqv ps (k + 1) m i) i0 ⟨i2, i3⟩
  have mi : m < i := by
    rcases Nat.lt_trichotomy m i with q | q | q
    · exact q
    · subst q; exact (j2 (eqv_refl _ _)).elim
    · exact (m3 i q j1).elim
  have new : i ∈ leads ps (k + 1) := mem_leads.2 ⟨by omega, fun j l z => by
    have zk : eqv ps k j a := eqv_trans (eqv_mono (by omega) z) j1
    by_cases q : eqv ps (k + 1) m j
    · exact j2 (eqv_trans q z)
    · exact j4 j l ⟨zk, q⟩⟩
  have nold : i ∉ leads ps k := fun z => (mem_leads.1 z).2 m mi (eqv_trans m1 (eqv_symm j1))
  have sub : (i :: leads ps k) ⊆ leads ps (k + 1) := by
    intro x mx
    rw [List.mem_cons] at mx
    rcases mx with rfl | mx
    · exact new
    · obtain ⟨x1, x2⟩ := mem_leads.1 mx
      exact mem_leads.2 ⟨x1, fun j l z => x2 j l (eqv_mono (by omega) z)⟩
  have := List.Nodup.length_le_of_subset (List.nodup_cons.2 ⟨nold, leads_nodup k⟩) sub
  simpa using this
theorem leads_least {a b : Nat} (ha : a < ps.length) (hb : b < ps.length) {L : Nat} (h1 : eqv ps L a b) (h2 : ¬ eqv ps (L + 1) a b) : ∀ k, k ≤ L + 1 → k + 1 ≤ (leads ps k).length
  | 0, _ => by
    have : 0 ∈ leads ps 0 := mem_leads.2 ⟨by omega, fun j l => by omega⟩
    exact List.length_pos_of_mem this
  | k + 1, l => by
    have ih := leads_least ha hb h1 h2 k (by omega)
    by_cases q : ∀ x y, x < ps.length → y < ps.length → eqv ps k x y → eqv ps (k + 1) x y
    · exact (h2 (eqv_stable q (L + 1) (by omega) a b ha hb (eqv_mono (by omega) h1))).elim
    · have : ∃ x y, x < ps.length ∧ y < ps.length ∧ eqv ps k x y ∧ ¬ eqv ps (k + 1) x y := by
        refine Classical.byContradiction fun z => q fun x y hx hy e => ?_
        exact Classical.byContradiction fun n => z ⟨x, y, hx, hy, e, n⟩
      obtain ⟨x, y, hx, hy, e1, e2⟩ := this
      have := leads_grow hx hy e1 e2
      omega
/-- THE FACT: fewer signs than cells -/
theorem moore {a b : Nat} (ha : a < ps.length) (hb : b < ps.length) {r : List Nat} (h : Least (d2 ps) (g2 ps) SG (a, b) r) : r.length < ps.length := by
  obtain ⟨u, c, e, h1, h2, h3⟩ := h.is
  have e1 : eqv ps u.length a b := fun w o l => Least.short h w o (by rw [e]; simp; omega)
  have e2 : ¬ eqv ps (u.length + 1) a b := fun z => by
    have := z (u ++ [c]) ((ok_snoc SG).2 ⟨h1, h2⟩) (by simp)
    have := (eqW_snoc.1 this).2
    rw [h3] at this; cases this
  have := leads_least ha hb e1 e2 (u.length + 1) (Nat.le_refl _)
  have l2 : (leads ps (u.length + 1)).length ≤ ps.length := by
    unfold leads
    refine Nat.le_trans (List.length_filter_le _ _) ?_
    rw [List.length_range]; exact Nat.le_refl _
  rw [e, List.length_append, List.length_singleton]
  omega
end
/-! ### lots by what is alike -/
section
variable (E : Nat → Nat → Bool)
def hd (l : List Nat) : Nat := l.head?.getD 0
def addC (found : List (List Nat)) (c : Nat) : List (List Nat) := found.map (fun lot => if E (hd lot) c then lot ++ [c] else lot) ++ (if found.any (fun lot => E (hd lot) c) then [] else [[c]])
def lotsN : Nat → List (List Nat)
  | 0 => []
  | n + 1 => addC E (lotsN n) n
structure LotsOk (n : Nat) (found : List (List Nat)) : Prop where
  ne : ∀ l ∈ found, l ≠ []
  lt : ∀ l ∈ found, ∀ i ∈ l, i < n
  hds : found.Pairwise fun l m => hd l < hd m ∧ E (hd l) (hd m) = false
variable {E}
theorem hd_app {l : List Nat} (h : l ≠ []) (c : Nat) : hd (l ++ [c]) = hd l := by
  cases l with
  | nil => exact (h rfl).elim
  | cons a l => rfl
theorem hd_mem {l : List Nat} (h : l ≠ []) : hd l ∈ l := by
  cases l with
  | nil => exact (h rfl).elim
  | cons a l => exact List.mem_cons_self ..
theorem lotsN_ok : ∀ n, LotsOk E n (lotsN E n)
  | 0 => ⟨fun l m => (by cases m), fun l m => (by cases m), .nil⟩
  | n + 1 => by
    have ih := lotsN_ok n
    have key : ∀ l ∈ lotsN E n, hd (if E (hd l) n then l ++ [n] else l) = hd l := fun l m => by
      split
      · exact hd_app (ih.ne l m) n
      · rfl
    refine ⟨fun l m => ?_, fun l m => ?_, ?_⟩
    · unfold lotsN addC at m
      rw [List.mem_append] at m
      rcases m with m | m
      · obtain ⟨x, mx, rfl⟩ := List.mem_map.1 m
        split
        · simp
        · exact ih.ne x mx
      · split at m
        · cases m
        · rw [List.mem_singleton] at m; subst m; simp
    · unfold lotsN addC at m
      rw [List.mem_append] at m
      intro i mi
      rcases m with m | m
      · obtain ⟨x, mx, rfl⟩ := List.mem_map.1 m
        split at mi
        · rw [List.mem_append, List.mem_singleton] at mi
          rcases mi with mi | rfl
          · have := ih.lt x mx i mi; omega
          · omega
        · have := ih.lt x mx i mi; omega
      · split at m
        · cases m
        · rw [List.mem_singleton] at m; subst m
          rw [List.mem_singleton] at mi; omega
    · unfold lotsN addC
      rw [List.pairwise_append]
      refine ⟨?_, ?_, ?_⟩
      · rw [List.pairwise_map]
        refine List.Pairwise.imp_of_mem ?_ ih.hds
        intro a b ma mb h
        rw [key a ma, key b mb]; exact h
      · split <;> simp
      · intro a ma b mb
        obtain ⟨x, mx, rfl⟩ := List.mem_map.1 ma
        split at mb
        · cases mb
        · rename_i q
          rw [List.mem_singleton] at mb; subst mb
          rw [key x mx]
          refine ⟨ih.lt x mx _ (hd_mem (ih.ne x mx)), ?_⟩
          cases e : E (hd x) n with
          | false => exact e
          | true => exact (q (List.any_eq_true.2 ⟨x, mx, e⟩)).elim
theorem lots_sorted {n : Nat} {found : List (List Nat)} (h : LotsOk E n found) : found.mergeSort (fun a b => decide (a ≤ b)) = found := by
  refine List.mergeSort_of_pairwise (List.Pairwise.imp_of_mem ?_ h.hds)
  intro a b ma mb q
  rw [decide_eq_true_eq]
  have na := h.ne a ma
  have nb := h.ne b mb
  cases a with
  | nil => exact (na rfl).elim
  | cons x a =>
    cases b with
    | nil => exact (nb rfl).elim
    | cons y b =>
      have q : x < y := q.1
      refine List.not_lt.1 fun z => ?_
      rw [List.cons_lt_cons_iff] at z
      omega
end
end Vl

/-! Vm4: dicts made of others; pairs of cells. -/
namespace Vl
open Fw Bf
open PySem (Str PyData NestedKey)
section
variable {α β : Type} (enc : α → D) (f : α × β → V)
def encD (Q : List (α × β)) : List (D × V) := Q.map fun y => (enc y.1, f y)
variable {enc f}
theorem enc_lk (inj : ∀ a b, enc a = enc b → a = b) : ∀ {Q : List (α × β)} {x : α × β}, (Q.map Prod.fst).Nodup → x ∈ Q → lkD (enc x.1) (encD enc f Q) = some (f x)
  | y :: Q, x, nd, m => by
    show (if enc y.1 = enc x.1 then some (f y) else lkD (enc x.1) (encD enc f Q)) = _
    rw [List.map_cons, List.nodup_cons] at nd
    rw [List.mem_cons] at m
    rcases m with rfl | m
    · rw [if_pos rfl]
    · have : y.1 ≠ x.1 := fun e => nd.1 (e ▸ List.mem_map_of_mem m)
      rw [if_neg fun e => this (inj _ _ e)]
      exact enc_lk inj nd.2 m
theorem enc_none (inj : ∀ a b, enc a = enc b → a = b) {p : α} : ∀ {Q : List (α × β)}, (∀ x ∈ Q, x.1 ≠ p) → lkD (enc p) (encD enc f Q) = none
  | [], _ => rfl
  | y :: Q, h => by
    show (if enc y.1 = enc p then some (f y) else lkD (enc p) (encD enc f Q)) = _
    rw [if_neg fun e => h y (List.mem_cons_self ..) (inj _ _ e)]
    exact enc_none inj fun x m => h x (List.mem_cons_of_mem _ m)
theorem enc_dk {t : Bool} (kf : ∀ a, KF t (enc a)) (Q : List (α × β)) : DK t (encD enc f Q) := ⟨fun kv m => by
  obtain ⟨y, _, rfl⟩ := List.mem_map.1 m
  exact ⟨(kf y.1).1, (kf y.1).2.1⟩⟩
theorem enc_app (Q : List (α × β)) (x : α × β) : encD enc f (Q ++ [x]) = encD enc f Q ++ [(enc x.1, f x)] := by unfold encD; rw [List.map_append]; rfl
end
/-! pairs of cells -/
def prV (p : Nat × Nat) : V := .tup [.int p.1, .int p.2]
def prD (p : Nat × Nat) : D := .tup [.int p.1, .int p.2]
theorem prV_toD (p : Nat × Nat) : toD (prV p) = some (prD p) := by simp [prV, prD, toD, toDs]
theorem prD_inj (p q : Nat × Nat) (h : prD p = prD q) : p = q := by
  unfold prD at h
  have := D.tup.inj h
  simp only [List.cons.injEq, D.int.injEq, and_true] at this
  exact Prod.ext (Int.ofNat.inj this.1) (Int.ofNat.inj this.2)
theorem prD_kf (p : Nat × Nat) : KF true (prD p) := ⟨by simp [prD, Wp.pln, Wp.plns], rfl, rfl, by simp [prD, dpth, dpths]⟩
/-- pairs below n -/
def allPr (n : Nat) : List (Nat × Nat) := (List.range n).flatMap fun a => (List.range n).map fun b => (a, b)
theorem allPr_len (n : Nat) : (allPr n).length = n * n := by
  unfold allPr
  rw [List.length_flatMap]
  have : (List.map (fun a => (List.map (fun b => (a, b)) (List.range n)).length) (List.range n)) = List.replicate n n := by
    refine List.ext_getElem (by simp) fun i h1 h2 => by simp
  rw [this, List.sum_replicate_nat]
theorem mem_allPr {n : Nat} {p : Nat × Nat} (h1 : p.1 < n) (h2 : p.2 < n) : p ∈ allPr n := by
  unfold allPr
  rw [List.mem_flatMap]
  exact ⟨p.1, List.mem_range.2 h1, List.mem_map.2 ⟨p.2, List.mem_range.2 h2, rfl⟩⟩
theorem run2_mem {ps : List Pl} {a b : Nat} (ha : a < ps.length) (hb : b < ps.length) (u : List Nat) : run (d2 ps) (a, b) u ∈ allPr ps.length := by
  rw [feel_run]
  exact mem_allPr (feel_lt u a ha) (feel_lt u b hb)
/-! a command leads elsewhere -/
theorem dir_ne {c : Nat} (h : Sgn c) : dir c ≠ (0, 0) := by
  rcases h with rfl | rfl | rfl | rfl <;> decide
theorem nbr_ne {ps : List Pl} {c i j : Nat} (nd : ps.Nodup) (h : Sgn c) (e : nbr ps (dir c) i = some j) : j ≠ i := by
  rintro rfl
  unfold nbr at e
  obtain ⟨p, e1, e2⟩ := Option.bind_eq_some_iff.mp e
  have e3 := idx_some e2
  rw [e1] at e3
  have e4 := Option.some.inj e3
  refine dir_ne h ?_
  have h1 := congrArg Prod.fst e4
  have h2 := congrArg Prod.snd e4
  unfold shift at h1 h2
  exact Prod.ext (by show (dir c).1 = 0; dsimp only at h1; omega) (by show (dir c).2 = 0; dsimp only at h2; omega)
theorem nx_none {ps : List Pl} {c i : Nat} (e : nbr ps (dir c) i = none) : nx ps c i = i := by unfold nx nxt; rw [e]; rfl
theorem nx_some {ps : List Pl} {c i j : Nat} (e : nbr ps (dir c) i = some j) : nx ps c i = j := by unfold nx nxt; rw [e]; rfl
theorem nx_self {ps : List Pl} {c i : Nat} (nd : ps.Nodup) (h : Sgn c) : nx ps c i = i ↔ nbr ps (dir c) i = none := by
  cases e : nbr ps (dir c) i with
  | none => exact ⟨fun _ => rfl, fun _ => nx_none e⟩
  | some j =>
    rw [nx_some e]
    exact ⟨fun q => (nbr_ne nd h e q).elim, fun q => by cases q⟩
end Vl

/-! Vm5: what is known of the def classes (it changes lots that two names know: it is looked at in the store). -/
namespace Vl
open Fw Bf
open PySem (Str PyData NestedKey)
def spotsV (ps : List Pl) : V := .tup (ps.map plV)
/-- a value that is a floor of these places -/
def IsFloor (ps : List Pl) (f : V) : Prop := ∃ c fs, f = .ins c fs ∧ fldV (.ins c fs) "spots" = some (spotsV ps)
theorem spotsV_inj : ∀ {ps qs : List Pl}, ps.map plV = qs.map plV → ps = qs
  | [], [], _ => rfl
  | [], _ :: _, h => by cases h
  | _ :: _, [], h => by cases h
  | a :: l, b :: m, h => by
    rw [List.map_cons, List.map_cons] at h
    obtain ⟨h1, h2⟩ := List.cons.inj h
    rw [spotsV_inj h2, plV_inj h1]
theorem IsFloor.uniq {ps qs : List Pl} {f : V} (a : IsFloor ps f) (b : IsFloor qs f) : ps = qs := by
  obtain ⟨c, fs, rfl, e1⟩ := a
  obtain ⟨c', fs', e, e2⟩ := b
  cases e
  rw [e1] at e2
  exact spotsV_inj (V.tup.inj (Option.some.inj e2))
/-- the least of the shortest words that tell two apart -/
noncomputable def part (ps : List Pl) (a b : Nat) : Option (List Nat) := @dite _ (∃ o, PartIs ps a b o) (Classical.propDecidable _) (fun h => h.choose) (fun _ => none)
theorem part_of {ps : List Pl} {a b : Nat} {o : Option (List Nat)} (h : PartIs ps a b o) : part ps a b = o := by
  have hx : ∃ o, PartIs ps a b o := ⟨o, h⟩
  unfold part
  rw [dif_pos hx]
  exact hx.choose_spec.uniq h
noncomputable def alike (ps : List Pl) (a b : Nat) : Bool := (part ps a b).isNone
noncomputable def classesL (ps : List Pl) : List (List Nat) := lotsN (alike ps) ps.length
noncomputable def classesV (ps : List Pl) : V := .tup ((classesL ps).map tupV)
noncomputable def gClasses (vs H : List V) : RV := @dite _ (∃ ps f, vs = [f] ∧ IsFloor ps f ∧ ps.Nodup ∧ ps.length ≤ 144) (Classical.propDecidable _) (fun h => .ok (classesV h.choose, H)) (fun _ => .stuck)
theorem gClasses_of {ps : List Pl} {f : V} {H : List V} (F : IsFloor ps f) (nd : ps.Nodup) (pl : ps.length ≤ 144) : gClasses [f] H = .ok (classesV ps, H) := by
  have hx : ∃ ps g, [f] = [g] ∧ IsFloor ps g ∧ ps.Nodup ∧ ps.length ≤ 144 := ⟨ps, f, rfl, F, nd, pl⟩
  unfold gClasses
  rw [dif_pos hx]
  obtain ⟨g, e, F', _, _⟩ := hx.choose_spec
  cases e
  rw [F'.uniq F]
end Vl

namespace Ir
open Fw PySem
abbrev f_is_integer : Nat := 0
abbrev f_is_within : Nat := 1
abbrev f_is_below : Nat := 2
abbrev f_is_sized : Nat := 3
abbrev f_steps_of : Nat := 4
abbrev f_check_word : Nat := 5
abbrev f_feel : Nat := 6
abbrev f_check_cell : Nat := 7
abbrev f_felt : Nat := 8
abbrev f_parting_word : Nat := 9
abbrev f_told_apart : Nat := 10
abbrev f_classes : Nat := 11
abbrev f_is_row : Nat := 12
abbrev f_Floor_init : Nat := 13
abbrev f_Floor_eq : Nat := 14
abbrev f_all_spots : Nat := 15
abbrev f_all_ties : Nat := 16
abbrev f_spots_of : Nat := 17
abbrev f__law_hand : Nat := 18
abbrev f__law_draw : Nat := 19
abbrev f__law_any : Nat := 20
abbrev f__law_rows : Nat := 21
abbrev f__law_drawn : Nat := 22
abbrev f__law_places : Nat := 23
abbrev f__law_goals : Nat := 24
abbrev f__law_word : Nat := 25
abbrev f__law_feel : Nat := 26
abbrev f__law_parting : Nat := 27
abbrev f__law_is_felt_right : Nat := 28
abbrev f__law_is_apart_right : Nat := 29
abbrev f__law_is_right : Nat := 30
abbrev f_law : Nat := 31
/- is_integer(thing): 0 thing -/
def d_is_integer : Fn := ⟨1, 1,
  [.ret (.and (.isT .int (.var 0)) (.not (.isT .bool (.var 0))))]⟩
def n_is_integer : List Str := ["thing"]
/- is_within(thing, least, most): 0 thing 1 least 2 most -/
def d_is_within : Fn := ⟨3, 3,
  [.ret (.and (.call f_is_integer [(.var 0)]) (.chain .le .le (.var 1) (.var 0) (.var 2)))]⟩
def n_is_within : List Str := ["thing", "least", "most"]
/- is_below(thing, many): 0 thing 1 many -/
def d_is_below : Fn := ⟨2, 2,
  [.ret (.call f_is_within [(.var 0), (.con (.int 0)), (.bin .sub (.var 1) (.con (.int 1)))])]⟩
def n_is_below : List Str := ["thing", "many"]
/- is_sized(thing, least, most): 0 thing 1 least 2 most -/
def d_is_sized : Fn := ⟨3, 3,
  [.ret (.and (.isT .tuple (.var 0)) (.chain .le .le (.var 1) (.bif .len [(.var 0)]) (.var 2)))]⟩
def n_is_sized : List Str := ["thing", "least", "most"]
/- steps_of(floor): 0 floor 1 numbers 2 found 3 sign 4 down 5 right 6 row 7 cell 8 spot -/
def d_steps_of : Fn := ⟨1, 9,
  [.asg (.slot 1) (.dc (.var 8) (.var 7) (.tup [(.slot 7), (.slot 8)]) (.en (.fld (.var 0) "spots")) [] [7, 8]),
   .asg (.slot 2) (.dct []),
   .for_ (.tup [(.slot 3), (.slot 4), (.slot 5)]) (.pl (.tup [(.tup [(.con (.str [117])), (.neg (.con (.int 1))), (.con (.int 0))]), (.tup [(.con (.str [100])), (.con (.int 1)), (.con (.int 0))]), (.tup [(.con (.str [108])), (.con (.int 0)), (.neg (.con (.int 1)))]), (.tup [(.con (.str [114])), (.con (.int 0)), (.con (.int 1))])]))
    [.asg (.slot 6) (.lst []),
     .for_ (.tup [(.slot 7), (.slot 8)]) (.en (.fld (.var 0) "spots"))
      [.expr (.mth .append (.var 6) [(.mth .get (.var 1) [(.tup [(.bin .add (.idx (.var 8) (.con (.int 0))) (.var 4)), (.bin .add (.idx (.var 8) (.con (.int 1))) (.var 5))]), (.var 7)])])],
     .asub (.var 2) (.var 3) (.var 6)],
   .ret (.var 2)]⟩
def n_steps_of : List Str := ["floor", "numbers", "found", "sign", "down", "right", "row", "cell", "spot"]
/- check_word(word): 0 word 1 number 2 sign -/
def d_check_word : Fn := ⟨1, 3,
  [.ite (.or (.not (.val (.isT .str (.var 0)))) (.val (.cmp .gt (.bif .len [(.var 0)]) (.con (.int 5000))))) [.raise 3 [(.neg (.con (.int 1)))]] [],
   .for_ (.tup [(.slot 1), (.slot 2)]) (.en (.var 0))
    [.ite (.val (.cmp .nin (.var 2) (.con (.str [117, 100, 108, 114])))) [.raise 3 [(.var 1)]] []]]⟩
def n_check_word : List Str := ["word", "number", "sign"]
/- feel(steps, cell, word): 0 steps 1 cell 2 word 3 found 4 here 5 sign 6 there -/
def d_feel : Fn := ⟨3, 7,
  [.asg (.tup [(.slot 3), (.slot 4)]) (.tup [(.con (.str [])), (.var 1)]),
   .for_ (.slot 5) (.pl (.var 2))
    [.asg (.slot 6) (.idx (.idx (.var 0) (.var 5)) (.var 4)),
     .asg (.slot 3) (.bin .add (.var 3) (.ite (.val (.cmp .ne (.var 6) (.var 4))) (.con (.str [49])) (.con (.str [48])))),
     .asg (.slot 4) (.var 6)],
   .ret (.tup [(.var 3), (.var 4)])]⟩
def n_feel : List Str := ["steps", "cell", "word", "found", "here", "sign", "there"]
/- check_cell(floor, cell): 0 floor 1 cell -/
def d_check_cell : Fn := ⟨2, 2,
  [.ite (.not (.val (.call f_is_below [(.var 1), (.bif .len [(.fld (.var 0) "spots")])]))) [.raise 2 []] []]⟩
def n_check_cell : List Str := ["floor", "cell"]
/- felt(floor, cell, word): 0 floor 1 cell 2 word -/
def d_felt : Fn := ⟨3, 3,
  [.expr (.call f_check_cell [(.var 0), (.var 1)]),
   .expr (.call f_check_word [(.var 2)]),
   .ret (.call f_feel [(.call f_steps_of [(.var 0)]), (.var 1), (.var 2)])]⟩
def n_felt : List Str := ["floor", "cell", "word"]
/- parting_word(steps, one, other): 0 steps 1 one 2 other 3 words 4 waiting 5 at 6 here 7 sign 8 there -/
def d_parting_word : Fn := ⟨3, 9,
  [.asg (.tup [(.slot 3), (.slot 4), (.slot 5)]) (.tup [(.dct [(.tup [(.var 1), (.var 2)]), (.con (.str []))]), (.lst [(.tup [(.var 1), (.var 2)])]), (.con (.int 0))]),
   .whl (.val (.cmp .lt (.var 5) (.bif .len [(.var 4)])))
    [.asg (.tup [(.slot 6), (.slot 5)]) (.tup [(.idx (.var 4) (.var 5)), (.bin .add (.var 5) (.con (.int 1)))]),
     .for_ (.slot 7) (.pl (.bif .sorted [(.con (.str [117, 100, 108, 114]))]))
      [.asg (.slot 8) (.tup [(.idx (.idx (.var 0) (.var 7)) (.idx (.var 6) (.con (.int 0)))), (.idx (.idx (.var 0) (.var 7)) (.idx (.var 6) (.con (.int 1))))]),
       .ite (.val (.cmp .ne (.cmp .eq (.idx (.var 8) (.con (.int 0))) (.idx (.var 6) (.con (.int 0)))) (.cmp .eq (.idx (.var 8) (.con (.int 1))) (.idx (.var 6) (.con (.int 1)))))) [.ret (.bin .add (.idx (.var 3) (.var 6)) (.var 7))] [],
       .ite (.val (.cmp .nin (.var 8) (.var 3))) [.asub (.var 3) (.var 8) (.bin .add (.idx (.var 3) (.var 6)) (.var 7)),
         .expr (.mth .append (.var 4) [(.var 8)])] []]],
   .ret (.con .non)]⟩
def n_parting_word : List Str := ["steps", "one", "other", "words", "waiting", "at", "here", "sign", "there"]
/- told_apart(floor, one, other): 0 floor 1 one 2 other -/
def d_told_apart : Fn := ⟨3, 3,
  [.expr (.call f_check_cell [(.var 0), (.var 1)]),
   .expr (.call f_check_cell [(.var 0), (.var 2)]),
   .ret (.call f_parting_word [(.call f_steps_of [(.var 0)]), (.var 1), (.var 2)])]⟩
def n_told_apart : List Str := ["floor", "one", "other"]
/- classes(floor): 0 floor 1 steps 2 found 3 cell 4 some 5 lot -/
def d_classes : Fn := ⟨1, 6,
  [.asg (.tup [(.slot 1), (.slot 2)]) (.tup [(.call f_steps_of [(.var 0)]), (.lst [])]),
   .for_ (.slot 3) (.r1 (.bif .len [(.fld (.var 0) "spots")]))
    [.asg (.slot 4) (.lc (.var 5) (.slot 5) (.pl (.var 2)) [(.val (.cmp .isn (.call f_parting_word [(.var 1), (.idx (.var 5) (.con (.int 0))), (.var 3)]) (.con .non)))] [5]),
     .ite (.val (.cmp .gt (.bif .len [(.var 4)]) (.con (.int 0)))) [.expr (.mth .append (.idx (.var 4) (.con (.int 0))) [(.var 3)])] [.expr (.mth .append (.var 2) [(.lst [(.var 3)])])]],
   .ret (.bif .tuple [(.lc (.bif .tuple [(.var 5)]) (.slot 5) (.pl (.var 2)) [] [5])])]⟩
def n_classes : List Str := ["floor", "steps", "found", "cell", "some", "lot"]
/- is_row(thing): 0 thing 1 sign -/
def d_is_row : Fn := ⟨1, 2,
  [.ite (.or (.not (.val (.isT .str (.var 0)))) (.not (.val (.chain .le .le (.con (.int 1)) (.bif .len [(.var 0)]) (.con (.int 12)))))) [.ret (.con (.bl false))] [],
   .ret (.bif .all [(.lc (.cmp .in_ (.var 1) (.bin .add (.bin .add (.bin .add (.con (.str [46])) (.con (.str [35]))) (.con (.str [72]))) (.con (.str [83])))) (.slot 1) (.pl (.var 0)) [] [1])])]⟩
def n_is_row : List Str := ["thing", "sign"]
/- Floor.__init__(self, rows): 0 self 1 rows 2 index 3 row -/
def d_Floor_init : Fn := ⟨2, 4,
  [.ite (.not (.val (.call f_is_sized [(.var 1), (.con (.int 1)), (.con (.int 12))]))) [.raise 1 [(.neg (.con (.int 1)))]] [],
   .for_ (.tup [(.slot 2), (.slot 3)]) (.en (.var 1))
    [.ite (.or (.not (.val (.call f_is_row [(.var 3)]))) (.val (.cmp .ne (.bif .len [(.var 3)]) (.bif .len [(.idx (.var 1) (.con (.int 0)))])))) [.raise 1 [(.var 2)]] []],
   .ite (.not (.val (.chain .le .le (.con (.int 1)) (.bif .sum [(.lc (.mth .count (.var 3) [(.con (.str [72]))]) (.slot 3) (.pl (.var 1)) [] [3])]) (.con (.int 6))))) [.raise 1 [(.con (.str [104, 111, 109, 101, 115]))]] [],
   .aattr (.var 0) "rows" (.var 1),
   .aattr (.var 0) "spots" (.call f_all_spots [(.var 1)]),
   .aattr (.var 0) "ties" (.call f_all_ties [(.fld (.var 0) "spots")]),
   .aattr (.var 0) "rests" (.call f_spots_of [(.var 1), (.fld (.var 0) "spots"), (.con (.str [72]))]),
   .aattr (.var 0) "stops" (.call f_spots_of [(.var 1), (.fld (.var 0) "spots"), (.con (.str [83]))])]⟩
def n_Floor_init : List Str := ["self", "rows", "index", "row"]
/- Floor.__eq__(self, other): 0 self 1 other -/
def d_Floor_eq : Fn := ⟨2, 2,
  [.brk]⟩
def n_Floor_eq : List Str := ["self", "other"]
/- all_spots(rows): 0 rows 1 found 2 row 3 signs 4 column 5 sign -/
def d_all_spots : Fn := ⟨1, 6,
  [.asg (.slot 1) (.lst []),
   .for_ (.tup [(.slot 2), (.slot 3)]) (.en (.var 0))
    [.expr (.mth .extend (.var 1) [(.lc (.tup [(.var 2), (.var 4)]) (.tup [(.slot 4), (.slot 5)]) (.en (.var 3)) [(.val (.cmp .ne (.var 5) (.con (.str [35]))))] [4, 5])])],
   .ret (.bif .tuple [(.var 1)])]⟩
def n_all_spots : List Str := ["rows", "found", "row", "signs", "column", "sign"]
/- all_ties(spots): 0 spots 1 numbers 2 found 3 row 4 column 5 around 6 cell 7 spot -/
def d_all_ties : Fn := ⟨1, 8,
  [.asg (.slot 1) (.dc (.var 7) (.var 6) (.tup [(.slot 6), (.slot 7)]) (.en (.var 0)) [] [6, 7]),
   .asg (.slot 2) (.lst []),
   .for_ (.tup [(.slot 3), (.slot 4)]) (.pl (.var 0))
    [.asg (.slot 5) (.lst [(.tup [(.bin .sub (.var 3) (.con (.int 1))), (.var 4)]), (.tup [(.bin .add (.var 3) (.con (.int 1))), (.var 4)]), (.tup [(.var 3), (.bin .sub (.var 4) (.con (.int 1)))]), (.tup [(.var 3), (.bin .add (.var 4) (.con (.int 1)))])]),
     .expr (.mth .append (.var 2) [(.bif .tuple [(.bif .sorted [(.lc (.idx (.var 1) (.var 7)) (.slot 7) (.pl (.var 5)) [(.val (.cmp .in_ (.var 7) (.var 1)))] [7])])])])],
   .ret (.bif .tuple [(.var 2)])]⟩
def n_all_ties : List Str := ["spots", "numbers", "found", "row", "column", "around", "cell", "spot"]
/- spots_of(rows, spots, sign): 0 rows 1 spots 2 sign 3 cell 4 row 5 column -/
def d_spots_of : Fn := ⟨3, 6,
  [.ret (.bif .tuple [(.lc (.var 3) (.tup [(.slot 3), (.tup [(.slot 4), (.slot 5)])]) (.en (.var 1)) [(.val (.cmp .eq (.idx (.idx (.var 0) (.var 4)) (.var 5)) (.var 2)))] [3, 4, 5])])]⟩
def n_spots_of : List Str := ["rows", "spots", "sign", "cell", "row", "column"]
/- _law_hand(script): 0 script 1 marks 2 cell -/
def d__law_hand : Fn := ⟨1, 3,
  [.asg (.slot 1) (.lc (.bif .abs [(.bif .int [(.var 2)])]) (.slot 2) (.pl (.sl (.var 0) none (some (.con (.int 63))))) [] [2]),
   .ret (.lst [(.var 1), (.con (.int 0)), (.con (.int 0)), (.bin .add (.con (.int 83)) (.bin .mul (.con (.int 5)) (.bif .len [(.var 1)]))), (.con (.int 0))])]⟩
def n__law_hand : List Str := ["script", "marks", "cell"]
/- _law_draw(hand, many): 0 hand 1 many 2 cell 3 digit 4 number -/
def d__law_draw : Fn := ⟨2, 5,
  [.ite (.and (.val (.cmp .eq (.idx (.var 0) (.con (.int 2))) (.con (.int 0)))) (.val (.cmp .lt (.idx (.var 0) (.con (.int 1))) (.bif .len [(.idx (.var 0) (.con (.int 0)))])))) [.asg (.slot 2) (.idx (.idx (.var 0) (.con (.int 0))) (.idx (.var 0) (.con (.int 1)))),
     .asub (.var 0) (.con (.int 1)) (.bin .add (.idx (.var 0) (.con (.int 1))) (.con (.int 1))),
     .asub (.var 0) (.con (.int 3)) (.bin .mod (.bif .int [(.bin .add (.bin .add (.bin .mul (.idx (.var 0) (.con (.int 3))) (.con (.int 69621))) (.bin .mul (.var 2) (.con (.int 40692)))) (.con (.int 17)))]) (.con (.int 2147483629))),
     .ite (.val (.cmp .ge (.var 2) (.bin .pow (.con (.int 10)) (.con (.int 18))))) [.asub (.var 0) (.con (.int 2)) (.var 2)] []] [],
   .ite (.val (.cmp .gt (.idx (.var 0) (.con (.int 2))) (.con (.int 0)))) [.asg (.slot 3) (.bin .mod (.bif .int [(.idx (.var 0) (.con (.int 2)))]) (.var 1)),
     .asub (.var 0) (.con (.int 2)) (.bin .fdiv (.idx (.var 0) (.con (.int 2))) (.var 1)),
     .ret (.var 3)] [],
   .asub (.var 0) (.con (.int 4)) (.bin .add (.idx (.var 0) (.con (.int 4))) (.con (.int 1))),
   .asg (.slot 4) (.bin .mod (.bif .int [(.bin .mul (.bif .int [(.bin .add (.idx (.var 0) (.con (.int 3))) (.bin .mul (.con (.int 7919)) (.idx (.var 0) (.con (.int 4)))))]) (.con (.int 48271)))]) (.con (.int 2147483647))),
   .asg (.slot 4) (.bin .mod (.bif .int [(.bin .mul (.var 4) (.bin .add (.bin .fdiv (.var 4) (.con (.int 1009))) (.con (.int 69621))))]) (.con (.int 2147483647))),
   .asg (.slot 4) (.bin .mod (.bif .int [(.bin .mul (.var 4) (.bin .add (.bin .fdiv (.var 4) (.con (.int 2003))) (.con (.int 40014))))]) (.con (.int 2147483563))),
   .ret (.bin .mod (.bif .int [(.bin .fdiv (.var 4) (.con (.int 16)))]) (.var 1))]⟩
def n__law_draw : List Str := ["hand", "many", "cell", "digit", "number"]
/- _law_any(hand, some): 0 hand 1 some -/
def d__law_any : Fn := ⟨2, 2,
  [.ret (.idx (.var 1) (.call f__law_draw [(.var 0), (.bif .len [(.var 1)])]))]⟩
def n__law_any : List Str := ["hand", "some"]
/- _law_rows(hand, tall, wide, walls): 0 hand 1 tall 2 wide 3 walls 4 found 5 row 6 signs 7 column -/
def d__law_rows : Fn := ⟨4, 8,
  [.asg (.slot 4) (.lst []),
   .for_ (.slot 5) (.r1 (.var 1))
    [.asg (.slot 6) (.lst []),
     .for_ (.slot 7) (.r1 (.var 2))
      [.expr (.mth .append (.var 6) [(.ite (.val (.cmp .lt (.call f__law_draw [(.var 0), (.con (.int 8))]) (.var 3))) (.con (.str [35])) (.call f__law_any [(.var 0), (.lst [(.con (.str [46])), (.con (.str [46])), (.con (.str [46])), (.con (.str [83]))])]))])],
     .expr (.mth .append (.var 4) [(.mth .join (.con (.str [])) [(.var 6)])])],
   .asub (.var 4) (.con (.int 0)) (.bin .add (.con (.str [72, 46])) (.sl (.idx (.var 4) (.con (.int 0))) (some (.con (.int 2))) none)),
   .ret (.bif .tuple [(.var 4)])]⟩
def n__law_rows : List Str := ["hand", "tall", "wide", "walls", "found", "row", "signs", "column"]
/- _law_drawn(hand): 0 hand -/
def d__law_drawn : Fn := ⟨1, 1,
  [.ret (.call f__law_rows [(.var 0), (.bin .add (.con (.int 1)) (.call f__law_draw [(.var 0), (.con (.int 4))])), (.bin .add (.con (.int 2)) (.call f__law_draw [(.var 0), (.con (.int 3))])), (.call f__law_any [(.var 0), (.lst [(.con (.int 0)), (.con (.int 1)), (.con (.int 2)), (.con (.int 4))])])])]⟩
def n__law_drawn : List Str := ["hand"]
/- _law_places(rows): 0 rows 1 found 2 row 3 signs 4 column 5 sign -/
def d__law_places : Fn := ⟨1, 6,
  [.asg (.slot 1) (.lst []),
   .for_ (.tup [(.slot 2), (.slot 3)]) (.en (.var 0))
    [.expr (.mth .extend (.var 1) [(.lc (.tup [(.var 2), (.var 4)]) (.tup [(.slot 4), (.slot 5)]) (.en (.var 3)) [(.val (.cmp .ne (.var 5) (.con (.str [35]))))] [4, 5])])],
   .ret (.var 1)]⟩
def n__law_places : List Str := ["rows", "found", "row", "signs", "column", "sign"]
/- _law_goals(rows): 0 rows 1 spots 2 found 3 row 4 column 5 some 6 sign 7 down 8 right -/
def d__law_goals : Fn := ⟨1, 9,
  [.asg (.tup [(.slot 1), (.slot 2)]) (.tup [(.call f__law_places [(.var 0)]), (.lst [])]),
   .for_ (.tup [(.slot 3), (.slot 4)]) (.pl (.var 1))
    [.asg (.slot 5) (.dct []),
     .for_ (.tup [(.slot 6), (.slot 7), (.slot 8)]) (.pl (.tup [(.tup [(.con (.str [100])), (.con (.int 1)), (.con (.int 0))]), (.tup [(.con (.str [108])), (.con (.int 0)), (.neg (.con (.int 1)))]), (.tup [(.con (.str [114])), (.con (.int 0)), (.con (.int 1))]), (.tup [(.con (.str [117])), (.neg (.con (.int 1))), (.con (.int 0))])]))
      [.ite (.val (.cmp .in_ (.tup [(.bin .add (.var 3) (.var 7)), (.bin .add (.var 4) (.var 8))]) (.var 1))) [.asub (.var 5) (.var 6) (.mth .index (.var 1) [(.tup [(.bin .add (.var 3) (.var 7)), (.bin .add (.var 4) (.var 8))])])] []],
     .expr (.mth .append (.var 2) [(.var 5)])],
   .ret (.var 2)]⟩
def n__law_goals : List Str := ["rows", "spots", "found", "row", "column", "some", "sign", "down", "right"]
/- _law_word(hand, most): 0 hand 1 most 2 lap -/
def d__law_word : Fn := ⟨2, 3,
  [.ret (.mth .join (.con (.str [])) [(.lc (.call f__law_any [(.var 0), (.con (.str [100, 108, 114, 117]))]) (.slot 2) (.r1 (.call f__law_draw [(.var 0), (.bin .add (.var 1) (.con (.int 1)))])) [] [2])])]⟩
def n__law_word : List Str := ["hand", "most", "lap"]
/- _law_feel(goals, cell, word): 0 goals 1 cell 2 word 3 found 4 sign 5 there -/
def d__law_feel : Fn := ⟨3, 6,
  [.asg (.slot 3) (.con (.str [])),
   .for_ (.slot 4) (.pl (.var 2))
    [.asg (.slot 5) (.mth .get (.idx (.var 0) (.var 1)) [(.var 4), (.con .non)]),
     .asg (.tup [(.slot 3), (.slot 1)]) (.tup [(.bin .add (.var 3) (.ite (.val (.cmp .isn (.var 5) (.con .non))) (.con (.str [48])) (.con (.str [49])))), (.ite (.val (.cmp .isn (.var 5) (.con .non))) (.var 1) (.var 5))])],
   .ret (.tup [(.var 3), (.var 1)])]⟩
def n__law_feel : List Str := ["goals", "cell", "word", "found", "sign", "there"]
/- _law_parting(goals, one, other): 0 goals 1 one 2 other 3 line 4 seen 5 at 6 here 7 there 8 word 9 sign 10 later -/
def d__law_parting : Fn := ⟨3, 11,
  [.asg (.tup [(.slot 3), (.slot 4), (.slot 5)]) (.tup [(.lst [(.tup [(.tup [(.var 1), (.var 2)]), (.con (.str []))])]), (.dct [(.tup [(.var 1), (.var 2)]), (.con (.bl true))]), (.con (.int 0))]),
   .whl (.val (.cmp .lt (.var 5) (.bif .len [(.var 3)])))
    [.asg (.tup [(.tup [(.slot 6), (.slot 7)]), (.slot 8)]) (.idx (.var 3) (.var 5)),
     .asg (.slot 5) (.bin .add (.var 5) (.con (.int 1))),
     .for_ (.slot 9) (.pl (.con (.str [100, 108, 114, 117])))
      [.ite (.val (.cmp .ne (.cmp .in_ (.var 9) (.idx (.var 0) (.var 6))) (.cmp .in_ (.var 9) (.idx (.var 0) (.var 7))))) [.ret (.bin .add (.var 8) (.var 9))] [],
       .asg (.slot 10) (.tup [(.mth .get (.idx (.var 0) (.var 6)) [(.var 9), (.var 6)]), (.mth .get (.idx (.var 0) (.var 7)) [(.var 9), (.var 7)])]),
       .ite (.val (.cmp .nin (.var 10) (.var 4))) [.asub (.var 4) (.var 10) (.con (.bl true)),
         .expr (.mth .append (.var 3) [(.tup [(.var 10), (.bin .add (.var 8) (.var 9))])])] []]],
   .ret (.con .non)]⟩
def n__law_parting : List Str := ["goals", "one", "other", "line", "seen", "at", "here", "there", "word", "sign", "later"]
/- _law_is_felt_right(hand, floor, goals): 0 hand 1 floor 2 goals 3 cell 4 word 5 due 6 at 7 half 8 rest -/
def d__law_is_felt_right : Fn := ⟨3, 9,
  [.asg (.tup [(.slot 3), (.slot 4)]) (.tup [(.call f__law_draw [(.var 0), (.bif .len [(.var 2)])]), (.call f__law_word [(.var 0), (.con (.int 30))])]),
   .asg (.slot 5) (.call f__law_feel [(.var 2), (.var 3), (.var 4)]),
   .ite (.val (.cmp .ne (.bif .repr [(.lst [(.call f_felt [(.var 1), (.var 3), (.var 4)]), (.call f_felt [(.var 1), (.var 3), (.var 4)])])]) (.bif .repr [(.lst [(.var 5), (.var 5)])]))) [.ret (.con (.bl false))] [],
   .asg (.slot 6) (.call f__law_draw [(.var 0), (.bin .add (.bif .len [(.var 4)]) (.con (.int 1)))]),
   .asg (.slot 7) (.call f_felt [(.var 1), (.var 3), (.sl (.var 4) none (some (.var 6)))]),
   .asg (.slot 8) (.call f_felt [(.var 1), (.idx (.var 7) (.con (.int 1))), (.sl (.var 4) (some (.var 6)) none)]),
   .ret (.and (.cmp .eq (.tup [(.bin .add (.idx (.var 7) (.con (.int 0))) (.idx (.var 8) (.con (.int 0)))), (.idx (.var 8) (.con (.int 1)))]) (.var 5)) (.cmp .eq (.call f_felt [(.var 1), (.var 3), (.con (.str []))]) (.tup [(.con (.str [])), (.var 3)])))]⟩
def n__law_is_felt_right : List Str := ["hand", "floor", "goals", "cell", "word", "due", "at", "half", "rest"]
/- _law_is_apart_right(hand, floor, goals): 0 hand 1 floor 2 goals 3 one 4 other 5 due 6 word 7 here 8 there -/
def d__law_is_apart_right : Fn := ⟨3, 9,
  [.asg (.tup [(.slot 3), (.slot 4)]) (.tup [(.call f__law_draw [(.var 0), (.bif .len [(.var 2)])]), (.call f__law_draw [(.var 0), (.bif .len [(.var 2)])])]),
   .asg (.slot 5) (.call f__law_parting [(.var 2), (.var 3), (.var 4)]),
   .ite (.val (.cmp .ne (.bif .repr [(.lst [(.call f_told_apart [(.var 1), (.var 3), (.var 4)]), (.call f_told_apart [(.var 1), (.var 4), (.var 3)])])]) (.bif .repr [(.lst [(.var 5), (.var 5)])]))) [.ret (.con (.bl false))] [],
   .ite (.val (.cmp .isn (.var 5) (.con .non))) [.asg (.slot 6) (.call f__law_word [(.var 0), (.con (.int 12))]),
     .ret (.cmp .eq (.idx (.call f_felt [(.var 1), (.var 3), (.var 6)]) (.con (.int 0))) (.idx (.call f_felt [(.var 1), (.var 4), (.var 6)]) (.con (.int 0))))] [],
   .asg (.tup [(.slot 7), (.slot 8)]) (.tup [(.idx (.call f_felt [(.var 1), (.var 3), (.var 5)]) (.con (.int 0))), (.idx (.call f_felt [(.var 1), (.var 4), (.var 5)]) (.con (.int 0)))]),
   .ite (.or (.val (.cmp .ne (.sl (.var 7) none (some (.neg (.con (.int 1))))) (.sl (.var 8) none (some (.neg (.con (.int 1))))))) (.or (.val (.cmp .eq (.var 7) (.var 8))) (.val (.cmp .ge (.bif .len [(.var 5)]) (.bif .len [(.var 2)]))))) [.ret (.con (.bl false))] [],
   .asg (.slot 6) (.call f__law_word [(.var 0), (.bin .sub (.bif .len [(.var 5)]) (.con (.int 1)))]),
   .ret (.or (.cmp .ge (.bif .len [(.var 6)]) (.bif .len [(.var 5)])) (.cmp .eq (.idx (.call f_felt [(.var 1), (.var 3), (.var 6)]) (.con (.int 0))) (.idx (.call f_felt [(.var 1), (.var 4), (.var 6)]) (.con (.int 0)))))]⟩
def n__law_is_apart_right : List Str := ["hand", "floor", "goals", "one", "other", "due", "word", "here", "there"]
/- _law_is_right(hand, rows, many): 0 hand 1 rows 2 many 3 floor 4 goals 5 lap 6 found 7 cell 8 some 9 due 10 lot -/
def d__law_is_right : Fn := ⟨3, 11,
  [.asg (.tup [(.slot 3), (.slot 4)]) (.tup [(.new 4 f_Floor_init [(.var 1)]), (.call f__law_goals [(.var 1)])]),
   .for_ (.slot 5) (.r1 (.var 2))
    [.ite (.or (.not (.val (.call f__law_is_felt_right [(.var 0), (.var 3), (.var 4)]))) (.not (.val (.call f__law_is_apart_right [(.var 0), (.var 3), (.var 4)])))) [.ret (.con (.bl false))] []],
   .asg (.slot 6) (.lst []),
   .for_ (.slot 7) (.r1 (.bif .len [(.var 4)]))
    [.asg (.slot 8) (.lc (.var 10) (.slot 10) (.pl (.var 6)) [(.val (.cmp .isn (.call f__law_parting [(.var 4), (.idx (.var 10) (.con (.int 0))), (.var 7)]) (.con .non)))] [10]),
     .asg (.slot 6) (.bin .add (.lc (.ite (.val (.cmp .in_ (.var 10) (.var 8))) (.bin .add (.var 10) (.lst [(.var 7)])) (.var 10)) (.slot 10) (.pl (.var 6)) [] [10]) (.ite (.val (.cmp .gt (.bif .len [(.var 8)]) (.con (.int 0)))) (.lst []) (.lst [(.lst [(.var 7)])])))],
   .asg (.slot 9) (.bif .tuple [(.bif .sorted [(.lc (.bif .tuple [(.var 10)]) (.slot 10) (.pl (.var 6)) [] [10])])]),
   .ret (.cmp .eq (.bif .repr [(.lst [(.call f_classes [(.var 3)]), (.call f_classes [(.var 3)])])]) (.bif .repr [(.lst [(.var 9), (.var 9)])]))]⟩
def n__law_is_right : List Str := ["hand", "rows", "many", "floor", "goals", "lap", "found", "cell", "some", "due", "lot"]
/- law(script): 0 script 1 hand 2 twin 3 lap -/
def d_law : Fn := ⟨1, 4,
  [.asg (.slot 1) (.call f__law_hand [(.var 0)]),
   .ite (.or (.val (.cmp .ne (.call f_felt [(.new 4 f_Floor_init [(.tup [(.con (.str [72, 46, 46]))])]), (.con (.int 0)), (.con (.str [114, 114, 114, 117, 108]))]) (.tup [(.con (.str [49, 49, 48, 48, 49])), (.con (.int 1))]))) (.val (.cmp .ne (.call f_told_apart [(.new 4 f_Floor_init [(.tup [(.con (.str [72, 46, 46]))])]), (.con (.int 0)), (.con (.int 2))]) (.con (.str [108]))))) [.ret (.con (.bl false))] [],
   .asg (.slot 2) (.new 4 f_Floor_init [(.tup [(.con (.str [72, 46, 35, 46, 46]))])]),
   .ite (.or (.val (.cmp .notn (.call f_told_apart [(.var 2), (.con (.int 0)), (.con (.int 2))]) (.con .non))) (.or (.val (.cmp .ne (.call f_classes [(.var 2)]) (.tup [(.tup [(.con (.int 0)), (.con (.int 2))]), (.tup [(.con (.int 1)), (.con (.int 3))])]))) (.val (.cmp .notn (.call f_told_apart [(.var 2), (.con (.int 1)), (.con (.int 1))]) (.con .non))))) [.ret (.con (.bl false))] [],
   .for_ (.slot 3) (.r1 (.con (.int 4)))
    [.ite (.not (.val (.call f__law_is_right [(.var 1), (.call f__law_drawn [(.var 1)]), (.con (.int 5))]))) [.ret (.con (.bl false))] []],
   .ite (.val (.cmp .gt (.call f__law_draw [(.var 1), (.con (.int 5))]) (.con (.int 0)))) [.ret (.con (.bl true))] [],
   .ret (.call f__law_is_right [(.var 1), (.call f__law_rows [(.var 1), (.bin .add (.con (.int 1)) (.call f__law_draw [(.var 1), (.con (.int 6))])), (.bin .add (.con (.int 2)) (.call f__law_draw [(.var 1), (.con (.int 5))])), (.con (.int 2))]), (.con (.int 2))])]⟩
def n_law : List Str := ["script", "hand", "twin", "lap"]
def pr0 : List Fn := [d_is_integer, d_is_within, d_is_below, d_is_sized, d_steps_of, d_check_word, d_feel, d_check_cell, d_felt, d_parting_word, d_told_apart, d_classes, d_is_row, d_Floor_init, d_Floor_eq, d_all_spots, d_all_ties, d_spots_of, d__law_hand, d__law_draw, d__law_any, d__law_rows, d__law_drawn, d__law_places, d__law_goals]
def pr1 : List Fn := [d__law_word, d__law_feel, d__law_parting, d__law_is_felt_right, d__law_is_apart_right, d__law_is_right, d_law]
def pr : List Fn := pr0 ++ pr1

abbrev cFloor : Nat := 4
noncomputable def orc : Vl.Orc := fun f => if f = f_classes then some (10, Vl.gClasses) else none
end Ir

namespace Vl
open Fw
open PySem (Str PyData)
local macro_rules
  | `(tactic| wp_walk) => `(tactic| simp only [Is_ok, true_and, and_true, bind_okN, of_someN, must_tN, wh_tN, mk_someN, s_var, vget_0, vget_s, vgetW_0, vgetW_o, vgetW_s, s_con, ofD_non, ofD_bl, ofD_int, ofD_str, ofD_tup, ofDs_n, ofDs_c, wk_var, wk_con, wk_bin, wk_neg, wk_cmp, wk_chain, wk_and, wk_or, wk_not, wk_ite, wk_tup, wk_lst, wk_dct, wk_idx, wk_sl, wk_rev, wk_fld, wk_call, wk_new, wk_bif, wk_mth, wk_isT, wk_isC, wk_lc, wk_dc, wks_t, wks_f, s_bin, s_bin1, s_bin2, s_neg, s_neg1, s_cmp, s_cmp1, s_cmp2, s_ch, s_ch1, s_ch2, s_ch3t, s_ch3f, s_ch4, s_and, s_and1, s_andt, s_andf, s_or, s_or1, s_orf, s_ort, s_not, s_not1, s_not2, s_ite, s_itet, s_itef, s_tup, s_tup1, s_lst, s_lst1, s_dct, s_dct0, s_idx, s_idx1, s_idx2, s_sl, s_sl1, s_sl2, s_sl3, s_rev, s_rev1, s_fld, s_fld1, s_call, s_call1, s_call2, s_initn, s_new, s_new1, s_bif, s_bif1, s_mth, s_mget, s_mindex, s_mjoin, s_mcount, s_mth2, s_isT, s_isT1, s_isC, s_lc, s_lc1, s_lcBt, s_lcBf, s_lcV, s_dc, s_dc1, s_dc2, s_dcBt, s_dcBf, s_dcK, s_dcV, s_es0, s_es, s_es1, s_es2, s_ws0, s_ws, s_ws1, s_o0, s_o, s_o1, s_ba, s_bat, s_baf, s_bo, s_bof, s_bot, s_bn, s_bn1, s_bv, s_bv1, s_bv2, s_bs0, s_bs, s_bst, s_bsf, s_pl, s_plt, s_pls, s_pll, s_en, s_ent, s_ens, s_enl, s_r1, s_r2, s_r21, s_r3, s_zp, s_zp1, s_zp2, s_its, s_its1, s_vls, s_vls1, frz_n, frz_c, frz1_v, frz1_o, frz1_n, frz1_s, so_f, so_l, so_d, so_i, so_s, so_t, s_asg, s_asgp, s_asg1, s_asgp1, s_asgT, s_asgT1, s_asgS, s_tts, s_asgS1, sa_n, sa_c, sa_1, sa_2, set_n1, set_c, so_n, so_c, so_x, s_p, s_p1, s_pp, s_pp1, ownL_0, ownL_s, s_app, s_app1, s_ext, s_ext1, s_exc, s_ex1, s_sub, s_sub2, s_sub3, vslot_0, vslot_s, s_attr, s_ret, s_retN, s_if, s_ift, s_iff, s_whl, s_for, s_for1, s_pass, s_brk, s_cont, s_ss0, s_ss, s_ssn, s_ssr, s_ssb, s_ssc, s_runr, s_runn, fv_n, fv_1, fv_2, fv_3, fn_n, fn_c, fn_b, fn_r, wv_f, wv_t, wv_n, wv_c, wv_b, wv_r, wi_n, wi_c, at_s, at_t, ats_n, ats_c, t_bl, t_non, t_int, t_tup, t_lst, b_add, b_adds, b_addt, b_addl, b_sub, b_mul, b_fdiv, b_mod, c_gt, c_le, c_ge, c_lt, c_in, c_nin, c_isn, c_notn, in_str, bif_abs, bif_int, bif_lent, bif_lenl, bif_tupt, bif_tupl, hx_t0, hx_t1, hx_t2, hx_l0, hx_dct, eq_self, inL_n, inL_c, cns_t, cns_f, rmI_n, rmI_c, Nat.reduceBEq, esI_t, esI_f, pop_var, al_var, tp_var, pop_con, al_con, tp_con, ew_con, pop_bin, al_bin, tp_bin, ew_bin, pop_neg, al_neg, tp_neg, ew_neg, pop_cmp, al_cmp, tp_cmp, ew_cmp, pop_chain, al_chain, tp_chain, ew_chain, pop_and, al_and, tp_and, ew_and, pop_or, al_or, tp_or, ew_or, pop_not, al_not, tp_not, ew_not, pop_ite, al_ite, tp_ite, ew_ite, pop_tup, al_tup, ew_tup, pop_lst, al_lst, tp_lst, ew_lst, pop_dct, al_dct, tp_dct, ew_dct, pop_idx, al_idx, tp_idx, ew_idx, pop_sl, al_sl, tp_sl, ew_sl, pop_rev, al_rev, tp_rev, ew_rev, pop_fld, al_fld, tp_fld, ew_fld, pop_call, al_call, tp_call, ew_call, pop_new, al_new, tp_new, ew_new, pop_isT, al_isT, tp_isT, ew_isT, pop_isC, al_isC, tp_isC, ew_isC, pop_lc, al_lc, tp_lc, ew_lc, pop_dc, al_dc, tp_dc, ew_dc, ew_var, al_bif_len, al_bif_abs, al_bif_int, al_bif_sum, al_bif_min, al_bif_max, al_bif_sorted, al_bif_tuple, al_bif_list, al_bif_dict, al_bif_repr, al_bif_str, al_bif_all, al_bif_any, al_bif_sortedSet, al_bif_lenSet, pop_bif, tp_bif, ew_bif, pop_mth_get, pop_mth_index, pop_mth_join, pop_mth_count, pop_mth_pop, al_mth, tp_mth, ew_mth, escE, escEs, escWs, escO, escB, escBs, escI, Option.map_some, Option.bind_some, Option.map_none, Option.bind_none, List.set_cons_zero, List.set_cons_succ, Bool.not_true, Bool.not_false, Bool.true_or, Bool.or_true, Bool.true_and, Bool.and_true, Bool.false_and, Bool.and_false, Bool.or_false, Bool.false_or, decide_true, decide_false, List.map_cons, List.map_nil, List.cons_append, List.nil_append, List.append_nil, List.replicate_succ, List.replicate_zero, List.length_cons, List.length_nil, Nat.reduceSub, Nat.zero_add, Nat.reduceAdd, Nat.reduceLeDiff, Nat.reduceEqDiff, if_true, if_false, ↓reduceIte, Bool.not_not])
  | `(tactic| wp_walk using $ts:term,*) => do
    let xs ← ts.getElems.mapM fun t => `(Lean.Parser.Tactic.simpLemma| $t:term)
    `(tactic| simp only [Is_ok, true_and, and_true, bind_okN, of_someN, must_tN, wh_tN, mk_someN, s_var, vget_0, vget_s, vgetW_0, vgetW_o, vgetW_s, s_con, ofD_non, ofD_bl, ofD_int, ofD_str, ofD_tup, ofDs_n, ofDs_c, wk_var, wk_con, wk_bin, wk_neg, wk_cmp, wk_chain, wk_and, wk_or, wk_not, wk_ite, wk_tup, wk_lst, wk_dct, wk_idx, wk_sl, wk_rev, wk_fld, wk_call, wk_new, wk_bif, wk_mth, wk_isT, wk_isC, wk_lc, wk_dc, wks_t, wks_f, s_bin, s_bin1, s_bin2, s_neg, s_neg1, s_cmp, s_cmp1, s_cmp2, s_ch, s_ch1, s_ch2, s_ch3t, s_ch3f, s_ch4, s_and, s_and1, s_andt, s_andf, s_or, s_or1, s_orf, s_ort, s_not, s_not1, s_not2, s_ite, s_itet, s_itef, s_tup, s_tup1, s_lst, s_lst1, s_dct, s_dct0, s_idx, s_idx1, s_idx2, s_sl, s_sl1, s_sl2, s_sl3, s_rev, s_rev1, s_fld, s_fld1, s_call, s_call1, s_call2, s_initn, s_new, s_new1, s_bif, s_bif1, s_mth, s_mget, s_mindex, s_mjoin, s_mcount, s_mth2, s_isT, s_isT1, s_isC, s_lc, s_lc1, s_lcBt, s_lcBf, s_lcV, s_dc, s_dc1, s_dc2, s_dcBt, s_dcBf, s_dcK, s_dcV, s_es0, s_es, s_es1, s_es2, s_ws0, s_ws, s_ws1, s_o0, s_o, s_o1, s_ba, s_bat, s_baf, s_bo, s_bof, s_bot, s_bn, s_bn1, s_bv, s_bv1, s_bv2, s_bs0, s_bs, s_bst, s_bsf, s_pl, s_plt, s_pls, s_pll, s_en, s_ent, s_ens, s_enl, s_r1, s_r2, s_r21, s_r3, s_zp, s_zp1, s_zp2, s_its, s_its1, s_vls, s_vls1, frz_n, frz_c, frz1_v, frz1_o, frz1_n, frz1_s, so_f, so_l, so_d, so_i, so_s, so_t, s_asg, s_asgp, s_asg1, s_asgp1, s_asgT, s_asgT1, s_asgS, s_tts, s_asgS1, sa_n, sa_c, sa_1, sa_2, set_n1, set_c, so_n, so_c, so_x, s_p, s_p1, s_pp, s_pp1, ownL_0, ownL_s, s_app, s_app1, s_ext, s_ext1, s_exc, s_ex1, s_sub, s_sub2, s_sub3, vslot_0, vslot_s, s_attr, s_ret, s_retN, s_if, s_ift, s_iff, s_whl, s_for, s_for1, s_pass, s_brk, s_cont, s_ss0, s_ss, s_ssn, s_ssr, s_ssb, s_ssc, s_runr, s_runn, fv_n, fv_1, fv_2, fv_3, fn_n, fn_c, fn_b, fn_r, wv_f, wv_t, wv_n, wv_c, wv_b, wv_r, wi_n, wi_c, at_s, at_t, ats_n, ats_c, t_bl, t_non, t_int, t_tup, t_lst, b_add, b_adds, b_addt, b_addl, b_sub, b_mul, b_fdiv, b_mod, c_gt, c_le, c_ge, c_lt, c_in, c_nin, c_isn, c_notn, in_str, bif_abs, bif_int, bif_lent, bif_lenl, bif_tupt, bif_tupl, hx_t0, hx_t1, hx_t2, hx_l0, hx_dct, eq_self, inL_n, inL_c, cns_t, cns_f, rmI_n, rmI_c, Nat.reduceBEq, esI_t, esI_f, pop_var, al_var, tp_var, pop_con, al_con, tp_con, ew_con, pop_bin, al_bin, tp_bin, ew_bin, pop_neg, al_neg, tp_neg, ew_neg, pop_cmp, al_cmp, tp_cmp, ew_cmp, pop_chain, al_chain, tp_chain, ew_chain, pop_and, al_and, tp_and, ew_and, pop_or, al_or, tp_or, ew_or, pop_not, al_not, tp_not, ew_not, pop_ite, al_ite, tp_ite, ew_ite, pop_tup, al_tup, ew_tup, pop_lst, al_lst, tp_lst, ew_lst, pop_dct, al_dct, tp_dct, ew_dct, pop_idx, al_idx, tp_idx, ew_idx, pop_sl, al_sl, tp_sl, ew_sl, pop_rev, al_rev, tp_rev, ew_rev, pop_fld, al_fld, tp_fld, ew_fld, pop_call, al_call, tp_call, ew_call, pop_new, al_new, tp_new, ew_new, pop_isT, al_isT, tp_isT, ew_isT, pop_isC, al_isC, tp_isC, ew_isC, pop_lc, al_lc, tp_lc, ew_lc, pop_dc, al_dc, tp_dc, ew_dc, ew_var, al_bif_len, al_bif_abs, al_bif_int, al_bif_sum, al_bif_min, al_bif_max, al_bif_sorted, al_bif_tuple, al_bif_list, al_bif_dict, al_bif_repr, al_bif_str, al_bif_all, al_bif_any, al_bif_sortedSet, al_bif_lenSet, pop_bif, tp_bif, ew_bif, pop_mth_get, pop_mth_index, pop_mth_join, pop_mth_count, pop_mth_pop, al_mth, tp_mth, ew_mth, escE, escEs, escWs, escO, escB, escBs, escI, Option.map_some, Option.bind_some, Option.map_none, Option.bind_none, List.set_cons_zero, List.set_cons_succ, Bool.not_true, Bool.not_false, Bool.true_or, Bool.or_true, Bool.true_and, Bool.and_true, Bool.false_and, Bool.and_false, Bool.or_false, Bool.false_or, decide_true, decide_false, List.map_cons, List.map_nil, List.cons_append, List.nil_append, List.append_nil, List.replicate_succ, List.replicate_zero, List.length_cons, List.length_nil, Nat.reduceSub, Nat.zero_add, Nat.reduceAdd, Nat.reduceLeDiff, Nat.reduceEqDiff, if_true, if_false, ↓reduceIte, Bool.not_not, $xs,*])

section
open Fw
open PySem (Str PyData NestedKey)
variable {N k : Nat}
/-- calls of this program -/
noncomputable abbrev cv (N k f : Nat) (as H : List V) : RV := callV Ir.pr N Ir.orc k f as H
/-- what the law's hand holds -/
def HandOk (H : List V) : Prop := ∃ (ms : List Int) (a : Nat) (b c d : Int), H = [.lst (ms.map .int), .int a, .int b, .int c, .int d]
theorem pow18 : binV .pow (.int 10) (.int 18) = some (.int 1000000000000000000) := rfl
theorem small_mod {i n : Int} (h : 0 < n) (k : n < 18446744073709551616) : small64 (i % n) = true := by
  have h1 := Int.emod_nonneg i (by omega : n ≠ 0)
  have h2 := Int.emod_lt_of_pos i h
  unfold small64
  rw [decide_eq_true (by have : (2 : Int) ^ 64 = 18446744073709551616 := by decide
                         omega), decide_eq_true (by have : (2 : Int) ^ 64 = 18446744073709551616 := by decide
                                                    omega)]; rfl
theorem b_modp {i j : Int} (h : 0 < j) : binV .mod (.int i) (.int j) = some (.int (i % j)) := by
  rw [b_mod, decide_eq_true h]; rfl
theorem b_fdivp {i j : Int} (h : 0 < j) (k : j < 1073741824) : binV .fdiv (.int i) (.int j) = some (.int (i / j)) := by
  rw [b_fdiv, decide_eq_true h, decide_eq_true k]; rfl
theorem b_mull {i j : Int} (h : small64 i = true) : binV .mul (.int i) (.int j) = some (.int (i * j)) := by
  rw [b_mul, h]; rfl
theorem b_mulr {i j : Int} (h : small64 j = true) : binV .mul (.int i) (.int j) = some (.int (i * j)) := by
  rw [b_mul, h, Bool.or_true]; rfl
section
variable {m x a b c d : V}
theorem hh0 : hidx .hand (.int 0) [m, a, b, c, d] = .ok (m, [m, a, b, c, d]) := hx_hand (n := 0) rfl
theorem hh1 : hidx .hand (.int 1) [m, a, b, c, d] = .ok (a, [m, a, b, c, d]) := hx_hand (n := 1) rfl
theorem hh2 : hidx .hand (.int 2) [m, a, b, c, d] = .ok (b, [m, a, b, c, d]) := hx_hand (n := 2) rfl
theorem hh3 : hidx .hand (.int 3) [m, a, b, c, d] = .ok (c, [m, a, b, c, d]) := hx_hand (n := 3) rfl
theorem hh4 : hidx .hand (.int 4) [m, a, b, c, d] = .ok (d, [m, a, b, c, d]) := hx_hand (n := 4) rfl
theorem hs1 : setV (.val .hand) (.int 1) x [m, a, b, c, d] = some (.val .hand, [m, x, b, c, d]) := set_hand (n := 1) (by simp)
theorem hs2 : setV (.val .hand) (.int 2) x [m, a, b, c, d] = some (.val .hand, [m, a, x, c, d]) := set_hand (n := 2) (by simp)
theorem hs3 : setV (.val .hand) (.int 3) x [m, a, b, c, d] = some (.val .hand, [m, a, b, x, d]) := set_hand (n := 3) (by simp)
theorem hs4 : setV (.val .hand) (.int 4) x [m, a, b, c, d] = some (.val .hand, [m, a, b, c, x]) := set_hand (n := 4) (by simp)
end
theorem draw_v {H : List V} (h : HandOk H) {n : Int} (h1 : 1 ≤ n) (h2 : n < 1073741824) : ∃ v H', cv N (k + 1) Ir.f__law_draw [.hand, .int n] H = .ok (.int v, H') ∧ 0 ≤ v ∧ v < n ∧ HandOk H' := by
  obtain ⟨ms, a, b, c, d, rfl⟩ := h
  have hn : 0 < n := by omega
  have hmod : ∀ i : Int, 0 ≤ i % n ∧ i % n < n := fun i => ⟨Int.emod_nonneg _ (by omega), Int.emod_lt_of_pos _ hn⟩
  -- the second part
  have rest : ∀ (o : Option Sl) (a : Nat) (b c d : Int), ∃ v H', ((evSs (vctx Ir.pr N Ir.orc k) Ir.d__law_draw.body.tail [some (.val .hand), some (.val (.int n)), o, none, none] [.lst (ms.map .int), .int a, .int b, .int c, .int d]).bind kRun) = .ok (.int v, H') ∧ 0 ≤ v ∧ v < n ∧ HandOk H' := by
    intro o a b c d
    unfold Ir.d__law_draw
    simp only [List.tail_cons]
    by_cases q : 0 < b
    · wp_walk using hh2, q, b_modp hn, b_fdivp hn h2, s_sub1 vslot_0, hs2, s_ret
      exact ⟨_, _, rfl, (hmod _).1, (hmod _).2, ms, a, _, _, _, rfl⟩
    · wp_walk using hh2, hh3, hh4, q, b_modp hn, s_sub1 vslot_0, hs4, b_mull (i := 7919) rfl, b_mulr (j := 48271) rfl, b_modp (j := 2147483647) (by decide), b_modp (j := 2147483563) (by decide), b_fdivp (j := 1009) (by decide) (by decide), b_fdivp (j := 2003) (by decide) (by decide), b_fdivp (j := 16) (by decide) (by decide), b_mull (small_mod (n := 2147483647) (by decide) (by decide))
      exact ⟨_, _, rfl, (hmod _).1, (hmod _).2, ms, a, _, _, _, rfl⟩
  have first : ∃ (o : Option Sl) (a' : Nat) (b' c' : Int), ∀ s ss, Ir.d__law_draw.body = s :: ss → evS (vctx Ir.pr N Ir.orc k) s [some (.val .hand), some (.val (.int n)), none, none, none] [.lst (ms.map .int), .int a, .int b, .int c, .int d] = .ok (.next, [some (.val .hand), some (.val (.int n)), o, none, none], [.lst (ms.map .int), .int a', .int b', .int c', .int d]) := by
    by_cases q1 : b = 0 <;> by_cases q2 : (a : Int) < ms.length
    · have h5 : (ms.map V.int)[a]? = some (V.int (ms[a]?.getD 0)) := by
        have : a < ms.length := by omega
        simp [this]
      generalize ms[a]?.getD 0 = x at h5
      by_cases q3 : (1000000000000000000 : Int) ≤ x
      · refine ⟨some (.val (.int x)), a + 1, x, (c * 69621 + x * 40692 + 17) % 2147483629, ?_⟩
        rintro s ss e; cases e
        wp_walk using hh0, hh1, hh2, hh3, q1, c_eqi, List.length_map, q2, hx_lst h5, s_sub1 vslot_0, hs1, hs3, hs2, b_mulr (j := 69621) rfl, b_mulr (j := 40692) rfl, b_modp (j := 2147483629) (by decide), pow18, q3
        rfl
      · refine ⟨some (.val (.int x)), a + 1, 0, (c * 69621 + x * 40692 + 17) % 2147483629, ?_⟩
        rintro s ss e; cases e
        wp_walk using hh0, hh1, hh2, hh3, q1, c_eqi, List.length_map, q2, hx_lst h5, s_sub1 vslot_0, hs1, hs3, hs2, b_mulr (j := 69621) rfl, b_mulr (j := 40692) rfl, b_modp (j := 2147483629) (by decide), pow18, q3
        rfl
    all_goals
      refine ⟨none, a, b, c, ?_⟩
      rintro s ss e; cases e
      wp_walk using hh0, hh1, hh2, q1, c_eqi, List.length_map, q2
  unfold cv
  rw [run_v (p := 2) (n := 5) rfl rfl rfl]
  obtain ⟨o, a', b', c', e⟩ := first
  obtain ⟨v, H', e2, e3⟩ := rest o a' b' c' d
  refine ⟨v, H', ?_, e3⟩
  rw [s_ss]
  show ((Rv.bind (evS _ _ [some (.val .hand), some (.val (.int n)), none, none, none] _) _).bind _) = _
  rw [e _ _ rfl, bind_okN, s_ssn]
  exact e2
theorem draw_n {H : List V} (h : HandOk H) {n : Nat} (h1 : 1 ≤ n) (h2 : n < 1073741824) : ∃ (v : Nat) (H' : List V), cv N (k + 1) Ir.f__law_draw [.hand, .int n] H = .ok (.int v, H') ∧ v < n ∧ HandOk H' := by
  obtain ⟨v, H', e, a, b, c⟩ := draw_v (N := N) (k := k) h (n := n) (by omega) (by omega)
  obtain ⟨v, rfl⟩ : ∃ x : Nat, v = (x : Int) := ⟨v.toNat, by omega⟩
  exact ⟨v, H', e, by omega, c⟩
theorem any_l {H : List V} (h : HandOk H) {l : List V} (h1 : 1 ≤ l.length) (h2 : l.length < 1073741824) : ∃ v H', cv N (k + 2) Ir.f__law_any [.hand, .lst l] H = .ok (v, H') ∧ v ∈ l ∧ HandOk H' := by
  obtain ⟨v, H', e, a, c⟩ := draw_n (N := N) (k := k) h (n := l.length) (by omega) (by omega)
  have hv : l[v]? = some l[v] := by simp [a]
  refine ⟨l[v], H', ?_, List.getElem_mem a, c⟩
  unfold cv at e ⊢
  rw [run_v (p := 2) (n := 2) rfl rfl rfl]
  wp_walk using e, hx_lst hv, s_ret
theorem any_s {H : List V} (h : HandOk H) {s : List Nat} (h1 : 1 ≤ s.length) (h2 : s.length ≤ 1000) : ∃ c H', cv N (k + 2) Ir.f__law_any [.hand, .str s] H = .ok (.str [c], H') ∧ c ∈ s ∧ HandOk H' := by
  obtain ⟨v, H', e, a, c⟩ := draw_n (N := N) (k := k) h (n := s.length) (by omega) (by omega)
  have hl : s.length ≤ lim := by unfold lim; omega
  have hv : s[v]? = some s[v] := by simp [a]
  refine ⟨s[v], H', ?_, List.getElem_mem a, c⟩
  unfold cv at e ⊢
  rw [run_v (p := 2) (n := 2) rfl rfl rfl]
  wp_walk using e, bif_lens hl, hx_str hl hv, s_ret
end

section
open Fw
open PySem (Str PyData NestedKey)
variable {N k : Nat}
theorem signsV_len {s : List Nat} : (signsV s).length = s.length := by unfold signsV; rw [List.length_map]
theorem strsV_signs : ∀ s : List Nat, strsV (signsV s) = some (s.map fun c => [c])
  | [] => rfl
  | c :: s => by
    show (strsV (signsV s)).map _ = _
    rw [strsV_signs s]; rfl
theorem joinL_signs : ∀ s : List Nat, TL.joinL [] (s.map fun c => [c]) = s
  | [] => rfl
  | [c] => rfl
  | c :: d :: s => by
    show [c] ++ ([] ++ TL.joinL [] ((d :: s).map fun c => [c])) = _
    rw [joinL_signs (d :: s)]; rfl
theorem sum_ones : ∀ s : List Nat, ((s.map fun c => [c]).map List.length).sum = s.length
  | [] => rfl
  | c :: s => by rw [List.map_cons, List.map_cons, List.sum_cons, sum_ones s, List.length_cons, List.length_cons]; simp; omega
theorem join_v {s : List Nat} (h : s.length ≤ 1000000) : mthV .join (.str []) [.lst (signsV s)] = some (.str s) := by
  show ((strsV (signsV s)).bind fun l => wh (decide ((l.map List.length).sum + l.length * ([] : List Nat).length ≤ lim)) (some (V.str (TL.joinL [] l)))) = _
  rw [strsV_signs, Option.bind_some, sum_ones, joinL_signs, decide_eq_true (by simp; unfold lim; omega)]; rfl
theorem signsV_app (s : List Nat) (c : Nat) : signsV s ++ [V.str [c]] = signsV (s ++ [c]) := by unfold signsV; simp
theorem rangeV_len : ∀ {n : Nat} {a : Int}, (rangeV a n).length = n
  | 0, _ => rfl
  | n + 1, a => by rw [rangeV, List.length_cons, rangeV_len]
/-! ### slices -/
section
variable {α : Type}
theorem cut_from (s : List α) (i : Nat) : cut s (some (i : Int)) none = s.drop i := by
  unfold cut
  dsimp only
  rw [HT.sIx_nat, HT.sIx_none]
  by_cases h : i ≤ s.length
  · rw [Nat.min_eq_left h, List.take_of_length_le (by rw [List.length_drop]; omega)]
  · rw [List.take_of_length_le (by rw [List.length_drop]; omega), List.drop_of_length_le (by omega), List.drop_of_length_le (by omega)]
theorem cut_to (s : List α) (i : Nat) : cut s none (some (i : Int)) = s.take i := by
  unfold cut
  dsimp only
  rw [HT.sIx_nat, HT.sIx_none, List.drop_zero, Nat.sub_zero]
  by_cases h : i ≤ s.length
  · rw [Nat.min_eq_left h]
  · rw [Nat.min_eq_right (by omega), List.take_of_length_le (Nat.le_refl _), List.take_of_length_le (by omega)]
theorem cut_butlast (s : List α) : cut s none (some (-1)) = s.dropLast := by
  unfold cut
  dsimp only
  rw [HT.sIx_none, List.drop_zero, Nat.sub_zero]
  have e : HT.sIx s.length s.length (some (-1)) = s.length - 1 := by
    show (if (-1 : Int) < 0 then ((-1 : Int) + (s.length : Int)).toNat else min (-1 : Int).toNat s.length) = _
    rw [if_pos (by decide)]; omega
  rw [e, List.dropLast_eq_take]
end
theorem sl_str {s : List Nat} {i j : Option Int} (h : s.length ≤ 1000000) : slV (.str s) i j = some (.str (cut s i j)) := by
  show wh (decide (s.length ≤ lim)) _ = _
  rw [len_le1 h]; rfl
theorem sl_tup {s : List V} {i j : Option Int} : slV (.tup s) i j = some (.tup (cut s i j)) := (rfl)
theorem sl_lst {s : List V} {i j : Option Int} : slV (.lst s) i j = some (.lst (cut s i j)) := (rfl)
/-! ### rows -/
/-- what a drawn sign can be -/
def Fr3 (c : Nat) : Prop := c = 35 ∨ c = 46 ∨ c = 83
structure RowsOk (t w : Nat) (rows : List (List Nat)) : Prop where
  tall : rows.length = t
  wide : ∀ r ∈ rows, r.length = w
  ok : ∃ r rest, rows = (72 :: 46 :: r) :: rest ∧ (∀ c ∈ r, Fr3 c) ∧ ∀ q ∈ rest, ∀ c ∈ q, Fr3 c
def rowsV (rows : List (List Nat)) : V := .tup (rows.map V.str)
theorem row_v {t w wl : Int} {fo : List V} {o x : Option Sl} {H : List V} (h : HandOk H) {j : Nat} (hj : j ≤ 1000) :
    ∃ r, forV (.slot 7) (evSs (vctx Ir.pr N Ir.orc (k + 2))
      [.expr (.mth .append (.var 6) [(.ite (.val (.cmp .lt (.call Ir.f__law_draw [(.var 0), (.con (.int 8))]) (.var 3))) (.con (.str [35])) (.call Ir.f__law_any [(.var 0), (.lst [(.con (.str [46])), (.con (.str [46])), (.con (.str [46])), (.con (.str [83]))])]))])])
      (rangeV 0 j) [some (.val .hand), some (.val (.int t)), some (.val (.int w)), some (.val (.int wl)), some (.own false (.lst fo)), o, some (.own false (.lst [])), x] H = .ok r ∧
    ∃ y cs H', r = (.next, [some (.val .hand), some (.val (.int t)), some (.val (.int w)), some (.val (.int wl)), some (.own false (.lst fo)), o, some (.own false (.lst (signsV cs))), y], H') ∧ HandOk H' ∧ cs.length = j ∧ ∀ c ∈ cs, Fr3 c := by
  refine forV_ex (fun xs env H => ∃ y cs, env = [some (.val .hand), some (.val (.int t)), some (.val (.int w)), some (.val (.int wl)), some (.own false (.lst fo)), o, some (.own false (.lst (signsV cs))), y] ∧ HandOk H ∧ cs.length + xs.length = j ∧ ∀ c ∈ cs, Fr3 c)
    _ ?_ ?_ _ _ _ ⟨x, [], rfl, h, by rw [rangeV_len]; simp, by simp⟩
  · rintro d xs env H ⟨y, cs, rfl, h, hl, hc⟩
    obtain ⟨v, H1, e1, _, _, h1⟩ := draw_v (N := N) (k := k + 1) h (n := 8) (by decide) (by decide)
    obtain ⟨z, H2, e2, m2, h2⟩ := any_l (N := N) (k := k) h1 (l := [.str [46], .str [46], .str [46], .str [83]]) (by decide) (by decide)
    unfold cv at e1 e2
    rw [List.length_cons] at hl
    have ll := len_lt1 (n := (signsV cs).length) (by rw [signsV_len]; omega)
    refine ⟨_, at_s, ?_⟩
    by_cases q : v < wl
    · wp_walk using e1, q, ll, len_le1 (n := 4) (by decide)
      exact ⟨_, cs ++ [35], by rw [← signsV_app], h1, by simp; omega, by intro c m; simp at m; rcases m with m | rfl; exact hc c m; exact .inl rfl⟩
    · have : ∃ c, z = .str [c] ∧ Fr3 c := by
        simp only [List.mem_cons, List.not_mem_nil, or_false] at m2
        rcases m2 with rfl | rfl | rfl | rfl
        · exact ⟨46, rfl, .inr (.inl rfl)⟩
        · exact ⟨46, rfl, .inr (.inl rfl)⟩
        · exact ⟨46, rfl, .inr (.inl rfl)⟩
        · exact ⟨83, rfl, .inr (.inr rfl)⟩
      obtain ⟨c, rfl, hc2⟩ := this
      wp_walk using e1, e2, q, ll, len_le1 (n := 4) (by decide)
      exact ⟨_, cs ++ [c], by rw [← signsV_app], h2, by simp; omega, by intro c' m; simp at m; rcases m with m | rfl; exact hc c' m; exact hc2⟩
  · rintro env H ⟨y, cs, rfl, h, hl, hc⟩
    exact ⟨y, cs, H, rfl, h, by simpa using hl, hc⟩
theorem rows_v {H : List V} (h : HandOk H) {t w : Nat} (t1 : 1 ≤ t) (t2 : t ≤ 1000) (w1 : 2 ≤ w) (w2 : w ≤ 1000) (wl : Int) :
    ∃ rows H', cv N (k + 3) Ir.f__law_rows [.hand, .int t, .int w, .int wl] H = .ok (rowsV rows, H') ∧ RowsOk t w rows ∧ HandOk H' := by
  unfold cv
  rw [run_v (p := 4) (n := 8) rfl rfl rfl]
  wp_walk using s_r11 (j := t) (by omega), len_le1 (n := 0) (by decide)
  obtain ⟨r, e, x, y, z, rows, H1, rfl, h1, hl, hr⟩ := forV_ex (t := .slot 5) (f := evSs (vctx Ir.pr N Ir.orc (k + 2)) [.asg (.slot 6) (.lst []),
     .for_ (.slot 7) (.r1 (.var 2))
      [.expr (.mth .append (.var 6) [(.ite (.val (.cmp .lt (.call Ir.f__law_draw [(.var 0), (.con (.int 8))]) (.var 3))) (.con (.str [35])) (.call Ir.f__law_any [(.var 0), (.lst [(.con (.str [46])), (.con (.str [46])), (.con (.str [46])), (.con (.str [83]))])]))])],
     .expr (.mth .append (.var 4) [(.mth .join (.con (.str [])) [(.var 6)])])]) (fun xs env H => ∃ (x y z : Option Sl) (rows : List (List Nat)), env = [some (.val .hand), some (.val (.int t)), some (.val (.int w)), some (.val (.int wl)), some (.own false (.lst (rows.map V.str))), x, y, z] ∧ HandOk H ∧ rows.length + xs.length = t ∧ ∀ r ∈ rows, r.length = w ∧ ∀ c ∈ r, Fr3 c)
    (fun r => ∃ (x y z : Option Sl) (rows : List (List Nat)) (H' : List V), r = (.next, [some (.val .hand), some (.val (.int t)), some (.val (.int w)), some (.val (.int wl)), some (.own false (.lst (rows.map V.str))), x, y, z], H') ∧ HandOk H' ∧ rows.length = t ∧ ∀ r ∈ rows, r.length = w ∧ ∀ c ∈ r, Fr3 c) (by
      rintro d xs env H ⟨x, y, z, rows, rfl, h, hl, hr⟩
      obtain ⟨r, e, y', cs, H1, rfl, h1, l1, c1⟩ := row_v (N := N) (k := k) h (t := t) (w := w) (wl := wl) (fo := rows.map V.str) (o := some (.val d)) (x := z) w2
      rw [List.length_cons] at hl
      have ll := len_lt1 (n := rows.length) (by omega)
      refine ⟨_, at_s, ?_⟩
      · wp_walk using s_r11 (j := w) (by omega), e, join_v (s := cs) (by omega), List.length_map, ll, len_le1 (n := 0) (by decide)
        refine ⟨_, _, _, rows ++ [cs], by rw [List.map_append]; rfl, h1, by simp; omega, ?_⟩
        intro r m
        rw [List.mem_append, List.mem_singleton] at m
        rcases m with m | rfl
        · exact hr r m
        · exact ⟨l1, c1⟩) (by
      rintro env H ⟨x, y, z, rows, rfl, h, hl, hr⟩
      exact ⟨x, y, z, rows, H, rfl, h, by simpa using hl, hr⟩) (rangeV 0 t) _ _ ⟨none, none, none, [], rfl, h, by rw [rangeV_len]; simp, by simp⟩
  rw [show ([] : List V) = ([] : List (List Nat)).map V.str from rfl, e]
  cases rows with
  | nil => simp at hl; omega
  | cons r rest =>
    have hr0 := hr r (List.mem_cons_self ..)
    have l1 : (72 :: 46 :: r.drop 2).length ≤ lim := by unfold lim; simp only [List.length_cons, List.length_drop]; omega
    have a1 : binV .add (.str [72, 46]) (.str (r.drop 2)) = some (.str (72 :: 46 :: r.drop 2)) := by
      rw [b_adds, decide_eq_true (by unfold lim; simp; omega)]; rfl
    have s1 : setV (.own false (.lst (.str r :: rest.map V.str))) (.int 0) (.str (72 :: 46 :: r.drop 2)) H1 = some (.own false (.lst (.str (72 :: 46 :: r.drop 2) :: rest.map V.str)), H1) := set_lst (n := 0) (by simp)
    wp_walk using sl_str (s := r) (by omega), show cut r (some 2) none = r.drop 2 from cut_from r 2, a1, s_sub1 (env := [some (.val .hand), some (.val (.int t)), some (.val (.int w)), some (.val (.int wl)), some (.own false (.lst (.str r :: rest.map V.str))), x, y, z]) (n := 4) rfl, s1, s_ret
    refine ⟨(72 :: 46 :: r.drop 2) :: rest, H1, rfl, ⟨by rw [← hl]; rfl, ?_, _, _, rfl, fun c m => hr0.2 c (List.mem_of_mem_drop m), fun q m => (hr q (List.mem_cons_of_mem _ m)).2⟩, h1⟩
    intro q m
    rw [List.mem_cons] at m
    rcases m with rfl | m
    · have := hr0.1
      simp only [List.length_cons, List.length_drop]; omega
    · exact (hr q (List.mem_cons_of_mem _ m)).1
end

section
open Fw
open PySem (Str PyData NestedKey)
variable {N k : Nat} {H : List V}
theorem RowsOk.fit {t w : Nat} {rows : List (List Nat)} (h : RowsOk t w rows) (t1 : 1 ≤ t) (t2 : t ≤ 12) (w1 : 1 ≤ w) (w2 : w ≤ 12) : FitR rows := by
  obtain ⟨r, rest, e, h1, h2⟩ := h.ok
  have hn : ∀ s : List Nat, (∀ c ∈ s, Fr3 c) → s.count 72 = 0 := fun s hs => List.count_eq_zero.2 fun m => by
    rcases hs 72 m with h | h | h <;> omega
  have hr : ∀ l : List (List Nat), (∀ s ∈ l, ∀ c ∈ s, Fr3 c) → (l.map fun s => s.count 72).sum = 0 := by
    intro l
    induction l with
    | nil => intro _; rfl
    | cons a l ih =>
      intro h
      rw [List.map_cons, List.sum_cons, hn a (h a (List.mem_cons_self ..)), ih fun s m => h s (List.mem_cons_of_mem _ m)]
  have hs : (rows.map fun s => s.count 72).sum = 1 := by
    subst e
    rw [List.map_cons, List.sum_cons, hr rest h2, List.count_cons, List.count_cons, hn r h1]; rfl
  refine ⟨by rw [h.tall]; exact t1, by rw [h.tall]; exact t2, ⟨w, w1, w2, h.wide⟩, ?_, by omega⟩
  subst e
  intro s m c mc
  rw [List.mem_cons] at m
  have key : ∀ c, Fr3 c → Sg4 c := fun c h => by
    rcases h with h | h | h
    · exact .inl h
    · exact .inr (.inl h)
    · exact .inr (.inr (.inr h))
  rcases m with rfl | m
  · simp only [List.mem_cons] at mc
    rcases mc with rfl | rfl | mc
    · exact .inr (.inr (.inl rfl))
    · exact .inr (.inl rfl)
    · exact key c (h1 c mc)
  · exact key c (h2 s m c mc)
theorem drawn_v (h : HandOk H) : ∃ rows H' t w, cv N (k + 4) Ir.f__law_drawn [.hand] H = .ok (rowsV rows, H') ∧ RowsOk t w rows ∧ 1 ≤ t ∧ t ≤ 4 ∧ 2 ≤ w ∧ w ≤ 4 ∧ HandOk H' := by
  obtain ⟨a, H1, e1, l1, h1⟩ := draw_n (N := N) (k := k + 2) h (n := 4) (by decide) (by decide)
  obtain ⟨b, H2, e2, l2, h2⟩ := draw_n (N := N) (k := k + 2) h1 (n := 3) (by decide) (by decide)
  obtain ⟨z, H3, e3, m3, h3⟩ := any_l (N := N) (k := k + 1) h2 (l := [.int 0, .int 1, .int 2, .int 4]) (by decide) (by decide)
  obtain ⟨wl, rfl⟩ : ∃ wl, z = .int wl := by
    simp only [List.mem_cons, List.not_mem_nil, or_false] at m3
    rcases m3 with rfl | rfl | rfl | rfl <;> exact ⟨_, rfl⟩
  obtain ⟨rows, H4, e4, r4, h4⟩ := rows_v (N := N) (k := k) h3 (t := 1 + a) (w := 2 + b) (by omega) (by omega) (by omega) (by omega) wl
  refine ⟨rows, H4, 1 + a, 2 + b, ?_, r4, by omega, by omega, by omega, by omega, h4⟩
  unfold cv at e1 e2 e3 e4 ⊢
  rw [run_v (p := 1) (n := 1) rfl rfl rfl]
  have e4' : callV Ir.pr N Ir.orc (k + 3) Ir.f__law_rows [.hand, .int (1 + (a : Int)), .int (2 + (b : Int)), .int wl] H3 = .ok (rowsV rows, H4) := by
    rw [show (1 + (a : Int)) = ((1 + a : Nat) : Int) from by omega, show (2 + (b : Int)) = ((2 + b : Nat) : Int) from by omega]; exact e4
  have e1' : callV Ir.pr N Ir.orc (k + 3) Ir.f__law_draw [.hand, .int 4] H = .ok (.int a, H1) := e1
  have e2' : callV Ir.pr N Ir.orc (k + 3) Ir.f__law_draw [.hand, .int 3] H1 = .ok (.int b, H2) := e2
  wp_walk using e1', e2', e3, e4', len_le1 (n := 4) (by decide), s_ret
/-! ### places -/
theorem rowSpots_lc {C : VCtx} {r : Nat} {s : List Nat} {a b x y : Option Sl} (hs : ∀ c ∈ s, Sg4 c) :
    lcV (fLc C (.tup [(.var 2), (.var 4)]) (.tup [(.slot 4), (.slot 5)]) [(.val (.cmp .ne (.var 5) (.con (.str [35]))))] [4, 5] [a, b, some (.val (.int r)), some (.val (.str s)), x, y]) (enumV 0 (signsV s)) H = .ok ((rowSpots r s).map plV, H) := by
  rw [enumV_signs, lcV_fil (fun p : Nat × Nat => V.tup [.int p.2, .str [p.1]]) (fun p => !decide (p.1 = 35)) (fun p => plV ((r : Int), (p.2 : Int)))]
  · unfold rowSpots
    rw [List.map_map]; rfl
  · rintro ⟨c, i⟩ m
    have hc := (hs c (List.mem_of_getElem? (mem_zip m))).lt
    rw [s_flc (e2 := [a, b, some (.val (.int r)), some (.val (.str s)), some (.val (.int i)), some (.val (.str [c]))]) (by wp_walk)]
    by_cases q : c = 35
    · subst q
      wp_walk using c_nes1 hc (show 35 < 1114112 by decide)
      rfl
    · wp_walk using c_nes1 hc (show 35 < 1114112 by decide), q, len_le1 (n := 2) (by decide)
      simp [q, plV]
def placesBody : List S := [.expr (.mth .extend (.var 1) [(.lc (.tup [(.var 2), (.var 4)]) (.tup [(.slot 4), (.slot 5)]) (.en (.var 3)) [(.val (.cmp .ne (.var 5) (.con (.str [35]))))] [4, 5])])]
theorem places_loop {C : VCtx} {rows : List (List Nat)} (F : FitR rows) : ∃ r, forV (.tup [(.slot 2), (.slot 3)]) (evSs C placesBody) (enumV 0 (rows.map V.str)) [some (.val (rowsV rows)), some (.own false (.lst [])), none, none, none, none] H = .ok r ∧ ∃ a b c d, r = (.next, [some (.val (rowsV rows)), some (.own false (.lst ((spots rows).map plV))), a, b, c, d], H) := by
  rw [enumV_map]
  refine forV_map _ _ (fun done env H' => H' = H ∧ ∃ a b c d, env = [some (.val (rowsV rows)), some (.own false (.lst (((done.map fun p : List Nat × Nat => rowSpots p.2 p.1).flatten).map plV))), a, b, c, d]) (fun r => ∃ a b c d, r = (.next, [some (.val (rowsV rows)), some (.own false (.lst ((spots rows).map plV))), a, b, c, d], H)) ?_ ?_ ?_
  · rintro done ⟨s, r⟩ rest env H' hd ⟨rfl, a, b, c, d, rfl⟩
    refine ⟨[some (.val (rowsV rows)), some (.own false (.lst (((done.map fun p : List Nat × Nat => rowSpots p.2 p.1).flatten).map plV))), some (.val (.int r)), some (.val (.str s)), c, d], by wp_walk, ?_⟩
    have ms : (s, r) ∈ rows.zipIdx := by rw [← hd]; simp
    have hs := F.sg s (List.mem_of_getElem? (mem_zip ms))
    have hl := F.spots_len
    have hl2 : (done.map fun p : List Nat × Nat => rowSpots p.2 p.1).flatten.length + (rowSpots r s).length ≤ 144 := by
      have : spots rows = (done.map fun p : List Nat × Nat => rowSpots p.2 p.1).flatten ++ (rowSpots r s ++ (rest.map fun p : List Nat × Nat => rowSpots p.2 p.1).flatten) := by
        unfold spots; rw [← hd]; simp
      rw [this, List.length_append, List.length_append] at hl
      omega
    unfold placesBody
    wp_walk using rowSpots_lc hs, List.length_map, len_le1 (n := (rowSpots r s).length) (by omega), len_le1 (n := (done.map fun p : List Nat × Nat => rowSpots p.2 p.1).flatten.length + (rowSpots r s).length) (by omega)
    have e2 : ((done ++ [(s, r)]).map fun p : List Nat × Nat => rowSpots p.2 p.1).flatten.map plV = (done.map fun p : List Nat × Nat => rowSpots p.2 p.1).flatten.map plV ++ (rowSpots r s).map plV := by simp
    rw [e2]
    exact ⟨_, _, _, _, rfl⟩
  · rintro env H' ⟨rfl, a, b, c, d, rfl⟩
    exact ⟨a, b, c, d, rfl⟩
  · exact ⟨rfl, none, none, none, none, rfl⟩
theorem ent_rows {rows : List (List Nat)} : kEn (rowsV rows, H) = .ok (enumV 0 (rows.map V.str), H) := (rfl)
theorem all_spots_v {rows : List (List Nat)} (F : FitR rows) : cv N (k + 1) Ir.f_all_spots [rowsV rows] H = .ok (.tup ((spots rows).map plV), H) := by
  obtain ⟨r, e, a, b, c, d, rfl⟩ := places_loop (H := H) (C := vctx Ir.pr N Ir.orc k) F
  unfold placesBody at e
  unfold cv
  rw [run_v (p := 1) (n := 6) rfl rfl rfl]
  wp_walk using ent_rows, e, len_le1 (n := 0) (by decide), s_ret
theorem places_v {rows : List (List Nat)} (F : FitR rows) : cv N (k + 1) Ir.f__law_places [rowsV rows] H = .ok (.lst ((spots rows).map plV), H) := by
  obtain ⟨r, e, a, b, c, d, rfl⟩ := places_loop (H := H) (C := vctx Ir.pr N Ir.orc k) F
  unfold placesBody at e
  unfold cv
  rw [run_v (p := 1) (n := 6) rfl rfl rfl]
  wp_walk using ent_rows, e, len_le1 (n := 0) (by decide), s_ret
/-! ### checks -/
theorem is_integer_v {i : Int} : cv N (k + 1) Ir.f_is_integer [.int i] H = .ok (.bl true, H) := by
  unfold cv
  rw [run_v (p := 1) (n := 1) rfl rfl rfl]
  wp_walk using s_ret, show isTyV .int (.int i) = some (.bl true) from rfl, show isTyV .bool (.int i) = some (.bl false) from rfl
theorem is_within_v {i a b : Int} : cv N (k + 2) Ir.f_is_within [.int i, .int a, .int b] H = .ok (.bl (decide (a ≤ i) && decide (i ≤ b)), H) := by
  have e := is_integer_v (N := N) (k := k) (H := H) (i := i)
  unfold cv at e ⊢
  rw [run_v (p := 3) (n := 3) rfl rfl rfl]
  by_cases q : a ≤ i
  · wp_walk using s_ret, e, q
  · wp_walk using s_ret, e, q
theorem is_below_v {i n : Int} : cv N (k + 3) Ir.f_is_below [.int i, .int n] H = .ok (.bl (decide (0 ≤ i) && decide (i ≤ n - 1)), H) := by
  have e := is_within_v (N := N) (k := k) (H := H) (i := i) (a := 0) (b := n - 1)
  unfold cv at e ⊢
  rw [run_v (p := 2) (n := 2) rfl rfl rfl]
  wp_walk using s_ret, e
theorem is_sized_v {l : List V} {a b : Int} : cv N (k + 1) Ir.f_is_sized [.tup l, .int a, .int b] H = .ok (.bl (decide (a ≤ (l.length : Int)) && decide ((l.length : Int) ≤ b)), H) := by
  unfold cv
  rw [run_v (p := 3) (n := 3) rfl rfl rfl]
  by_cases q : a ≤ (l.length : Int)
  · wp_walk using s_ret, show isTyV .tuple (.tup l) = some (.bl true) from rfl, q
  · wp_walk using s_ret, show isTyV .tuple (.tup l) = some (.bl true) from rfl, q
theorem bolsV_map {α : Type} (f : α → Bool) : ∀ l : List α, bolsV (l.map fun a => V.bl (f a)) = some (l.map f)
  | [] => rfl
  | a :: l => by
    show (bolsV (l.map fun a => V.bl (f a))).map _ = _
    rw [bolsV_map f l]; rfl
theorem all_v {α : Type} (f : α → Bool) (l : List α) : bif1V .all (.lst (l.map fun a => V.bl (f a))) = some (.bl (l.all f)) := by
  show ((bolsV (l.map fun a => V.bl (f a))).map fun l => V.bl (l.all id)) = _
  rw [bolsV_map, Option.map_some, List.all_map]; rfl
theorem any_v {α : Type} (f : α → Bool) (l : List α) : bif1V .any (.lst (l.map fun a => V.bl (f a))) = some (.bl (l.any f)) := by
  show ((bolsV (l.map fun a => V.bl (f a))).map fun l => V.bl (l.any id)) = _
  rw [bolsV_map, Option.map_some, List.any_map]; rfl
theorem is_row_v {s : List Nat} (h1 : 1 ≤ s.length) (h2 : s.length ≤ 12) (hs : ∀ c ∈ s, Sg4 c) : cv N (k + 1) Ir.f_is_row [.str s] H = .ok (.bl true, H) := by
  unfold cv
  rw [run_v (p := 1) (n := 2) rfl rfl rfl]
  have e : lcV (fLc (vctx Ir.pr N Ir.orc k) (.cmp .in_ (.var 1) (.bin .add (.bin .add (.bin .add (.con (.str [46])) (.con (.str [35]))) (.con (.str [72]))) (.con (.str [83])))) (.slot 1) [] [1] [some (.val (.str s)), none]) (signsV s) H = .ok (s.map fun _ => V.bl true, H) := by
    refine lcV_map (fun c => V.str [c]) (fun _ => V.bl true) s fun c m => ?_
    rw [s_flc (e2 := [some (.val (.str s)), some (.val (.str [c]))]) (by wp_walk)]
    have : c ∈ [46, 35, 72, 83] := by
      rcases hs c m with rfl | rfl | rfl | rfl <;> simp
    wp_walk using len_le1 (n := 1 + 1) (by decide), len_le1 (n := 1 + 1 + 1) (by decide), len_le1 (n := 1 + 1 + 1 + 1) (by decide), this
    all_goals rfl
  have q1 : (1 : Int) ≤ s.length := by omega
  have q2 : (s.length : Int) ≤ 12 := by omega
  have a1 := all_v (fun _ : Nat => true) s
  have a2 : (s.all fun _ => true) = true := by simp
  wp_walk using s_ret, show isTyV .str (.str s) = some (.bl true) from rfl, bif_lens (s := s) (by unfold lim; omega), q1, q2, e, List.length_map, len_le1 (n := s.length) (by omega), a1, a2
end

section
open Fw
open PySem (Str PyData NestedKey)
variable {N k : Nat} {H : List V}
theorem str1_kf {c : Nat} (h : c < 1114112) : KF false (.str [c]) := ⟨by simp [Wp.pln, h], rfl, rfl, by simp [dpth]⟩
theorem str1_toD {c : Nat} : toD (.str [c]) = some (.str [c]) := by rw [toD]
theorem ent_spots {ps : List Pl} : kEn (spotsV ps, H) = .ok (enumV 0 (ps.map plV), H) := (rfl)
theorem num_dc {C : VCtx} {ps : List Pl} {i j : Nat} {env : VEnv} (hn : ps.Nodup) (hl : ps.length ≤ 1000)
    (h : ∀ a b, ∃ e2, asgTV (.tup [.slot i, .slot j]) (.tup [a, b]) (wipeV env [i, j]) = some e2 ∧ vget e2 i H = .ok (a, H) ∧ vget e2 j H = .ok (b, H)) :
    dcV (fDc C (.var j) (.var i) (.tup [.slot i, .slot j]) [] [i, j] env) (enumV 0 (ps.map plV)) [] H = .ok (numD ps, H) := by
  rw [enumV_map, dcV_map (t := true) (fun p : Pl × Nat => V.tup [.int p.2, plV p.1]) (fun p => plV p.1) (fun p => plD p.1) (fun p => V.int (p.2 : Nat))]
  · rfl
  · rintro ⟨p, n⟩ m
    obtain ⟨e2, h1, h2, h3⟩ := h (.int (n : Nat)) (plV p)
    refine ⟨?_, plV_toD p, plD_kf p⟩
    rw [s_fdc h1]
    wp_walk using h2, h3
  · exact .nil
  · simp [List.length_zipIdx, lim]; omega
  · simp
  · have : (ps.zipIdx.map fun p => plD p.1) = ps.map plD := by
      have := congrArg (List.map plD) (List.zipIdx_map_fst 0 ps)
      rw [List.map_map] at this
      exact this
    rw [this]
    exact (List.pairwise_map.2 (hn.imp fun h e => h (plD_inj e)))
def stepBody : List S := [.expr (.mth .append (.var 6) [(.mth .get (.var 1) [(.tup [(.bin .add (.idx (.var 8) (.con (.int 0))) (.var 4)), (.bin .add (.idx (.var 8) (.con (.int 1))) (.var 5))]), (.var 7)])])]
theorem step_row {C : VCtx} {ps : List Pl} (hl : ps.length ≤ 1000) {fl fo : Sl} {sg : V} {d : Pl} {x y : Option Sl} :
    ∃ r, forV (.tup [.slot 7, .slot 8]) (evSs C stepBody) (enumV 0 (ps.map plV)) [some fl, some (.own false (.dct (numD ps))), some fo, some (.val sg), some (.val (.int d.1)), some (.val (.int d.2)), some (.own false (.lst [])), x, y] H = .ok r ∧
      ∃ x y, r = (.next, [some fl, some (.own false (.dct (numD ps))), some fo, some (.val sg), some (.val (.int d.1)), some (.val (.int d.2)), some (.own false (.lst (stepL ps d))), x, y], H) := by
  rw [enumV_map]
  refine forV_map _ _ (fun done env H' => H' = H ∧ ∃ x y, env = [some fl, some (.own false (.dct (numD ps))), some fo, some (.val sg), some (.val (.int d.1)), some (.val (.int d.2)), some (.own false (.lst (done.map fun p : Pl × Nat => V.int (nxt ps d p.2 : Nat)))), x, y])
    (fun r => ∃ x y, r = (.next, [some fl, some (.own false (.dct (numD ps))), some fo, some (.val sg), some (.val (.int d.1)), some (.val (.int d.2)), some (.own false (.lst (stepL ps d))), x, y], H)) ?_ ?_ ?_
  · rintro done ⟨p, n⟩ rest env H' hd ⟨rfl, x, y, rfl⟩
    refine ⟨[some fl, some (.own false (.dct (numD ps))), some fo, some (.val sg), some (.val (.int d.1)), some (.val (.int d.2)), some (.own false (.lst (done.map fun p : Pl × Nat => V.int (nxt ps d p.2 : Nat)))), some (.val (.int n)), some (.val (plV p))], by wp_walk, ?_⟩
    have mp : (p, n) ∈ ps.zipIdx := by rw [← hd]; simp
    have hp := mem_zip mp
    have hg := get_dct (x := .int (n : Nat)) (plV_toD (shift p d)) (numD_dk ps) (plD_kf (shift p d))
    have hv : ((lkD (plD (shift p d)) (numD ps)).getD (.int (n : Nat))) = .int (nxt ps d n : Nat) := by
      rw [numD_lk]
      unfold nxt nbr
      rw [hp, Option.bind_some]
      cases ps.idxOf? (shift p d) <;> rfl
    rw [hv] at hg
    have hg : mthV .get (.dct (numD ps)) [.tup [.int (p.1 + d.1), .int (p.2 + d.2)], .int n] = some (.int (nxt ps d n : Nat)) := hg
    have ll : done.length ≤ 1000000 := by
      have := congrArg List.length hd
      rw [List.length_append, List.length_zipIdx] at this
      omega
    have i0 : hidx (plV p) (.int 0) H' = .ok (.int p.1, H') := hx_t0
    have i1 : hidx (plV p) (.int 1) H' = .ok (.int p.2, H') := hx_t1
    unfold stepBody
    wp_walk using i0, i1, hg, List.length_map, len_lt1 ll, len_le1 (n := 2) (by decide)
    rw [List.map_append]
    exact ⟨_, _, rfl⟩
  · rintro env H' ⟨rfl, x, y, rfl⟩
    refine ⟨x, y, ?_⟩
    have : (ps.zipIdx.map fun p : Pl × Nat => V.int (nxt ps d p.2 : Nat)) = stepL ps d := by
      unfold stepL
      have := congrArg (List.map fun i => V.int (nxt ps d i : Nat)) (List.zipIdx_map_snd 0 ps)
      rw [List.map_map] at this
      rw [List.range_eq_range']
      exact this
    rw [this]
  · exact ⟨rfl, x, y, rfl⟩
def stepsV (ps : List Pl) : V := .dct [(.str [117], .lst (stepL ps (-1, 0))), (.str [100], .lst (stepL ps (1, 0))), (.str [108], .lst (stepL ps (0, -1))), (.str [114], .lst (stepL ps (0, 1)))]
theorem setS0 {c : Nat} {v : V} {kvs : List (D × V)} (hc : c < 1114112) (h : DK false kvs) (l : kvs.length ≤ 1000) (n : lkD (.str [c]) kvs = none) : setV (.own false (.dct kvs)) (.str [c]) v H = some (.own false (.dct (kvs ++ [(.str [c], v)])), H) := by
  rw [set_dct str1_toD h (str1_kf hc) (by unfold lim; omega), ptD_new n]
theorem dk_app {t : Bool} {kvs r : List (D × V)} (h : DK t kvs) (h2 : DK t r) : DK t (kvs ++ r) := ⟨fun kv m => by
  rw [List.mem_append] at m
  rcases m with m | m
  · exact h.pl kv m
  · exact h2.pl kv m⟩
theorem dk_one {c : Nat} {v : V} (hc : c < 1114112) : DK false [(D.str [c], v)] := ⟨fun kv m => by
  rw [List.mem_singleton] at m
  subst m
  exact ⟨by simp [Wp.pln, hc], rfl⟩⟩
theorem steps_v {ps : List Pl} {f : V} (F : IsFloor ps f) (hn : ps.Nodup) (hl : ps.length ≤ 1000) : cv N (k + 1) Ir.f_steps_of [f] H = .ok (stepsV ps, H) := by
  obtain ⟨c, fs, rfl, hf⟩ := F
  unfold cv
  rw [run_v (p := 1) (n := 9) rfl rfl rfl]
  have c1 := num_dc (C := vctx Ir.pr N Ir.orc k) (H := H) hn hl (i := 7) (j := 8) (env := [some (.val (.ins c fs)), none, none, none, none, none, none, none, none]) (fun a b => ⟨[some (.val (.ins c fs)), none, none, none, none, none, none, some (.val a), some (.val b)], by wp_walk, by wp_walk, by wp_walk⟩)
  have D1 : ∀ v, DK false [(D.str [117], v)] := fun v => dk_one (by decide)
  have D2 : ∀ v w, DK false [(D.str [117], v), (D.str [100], w)] := fun v w => dk_app (D1 v) (dk_one (by decide))
  have D3 : ∀ v w z, DK false [(D.str [117], v), (D.str [100], w), (D.str [108], z)] := fun v w z => dk_app (D2 v w) (dk_one (by decide))
  obtain ⟨r1, e1, x1, y1, rfl⟩ := step_row (C := vctx Ir.pr N Ir.orc k) (H := H) hl (fl := .val (.ins c fs)) (fo := .own false (.dct [])) (sg := .str [117]) (d := (-1, 0)) (x := none) (y := none)
  obtain ⟨r2, e2, x2, y2, rfl⟩ := step_row (C := vctx Ir.pr N Ir.orc k) (H := H) hl (fl := .val (.ins c fs)) (fo := .own false (.dct [(.str [117], .lst (stepL ps (-1, 0)))])) (sg := .str [100]) (d := (1, 0)) (x := x1) (y := y1)
  obtain ⟨r3, e3, x3, y3, rfl⟩ := step_row (C := vctx Ir.pr N Ir.orc k) (H := H) hl (fl := .val (.ins c fs)) (fo := .own false (.dct [(.str [117], .lst (stepL ps (-1, 0))), (.str [100], .lst (stepL ps (1, 0)))])) (sg := .str [108]) (d := (0, -1)) (x := x2) (y := y2)
  obtain ⟨r4, e4, x4, y4, rfl⟩ := step_row (C := vctx Ir.pr N Ir.orc k) (H := H) hl (fl := .val (.ins c fs)) (fo := .own false (.dct [(.str [117], .lst (stepL ps (-1, 0))), (.str [100], .lst (stepL ps (1, 0))), (.str [108], .lst (stepL ps (0, -1)))])) (sg := .str [114]) (d := (0, 1)) (x := x3) (y := y3)
  unfold stepBody at e1 e2 e3 e4
  have t3 := len_le1 (n := 3) (by decide)
  have t4 := len_le1 (n := 4) (by decide)
  have t0 := len_le1 (n := 0) (by decide)
  have s1 : ∀ v, setV (.own false (.dct [])) (.str [117]) v H = some (.own false (.dct [(.str [117], v)]), H) := fun v => setS0 (by decide) DK.nil (by simp) rfl
  have s2 : ∀ v w, setV (.own false (.dct [(.str [117], w)])) (.str [100]) v H = some (.own false (.dct [(.str [117], w), (.str [100], v)]), H) := fun v w => setS0 (by decide) (D1 w) (by simp) rfl
  have s3 : ∀ v w z, setV (.own false (.dct [(.str [117], w), (.str [100], z)])) (.str [108]) v H = some (.own false (.dct [(.str [117], w), (.str [100], z), (.str [108], v)]), H) := fun v w z => setS0 (by decide) (D2 w z) (by simp) rfl
  have s4 : ∀ v w z u, setV (.own false (.dct [(.str [117], w), (.str [100], z), (.str [108], u)])) (.str [114]) v H = some (.own false (.dct [(.str [117], w), (.str [100], z), (.str [108], u), (.str [114], v)]), H) := fun v w z u => setS0 (by decide) (D3 w z u) (by simp) rfl
  have sb : ∀ {env : VEnv} {s : Sl} {a : Option Sl} {b : Option Sl} {x : V} {a' : E}, kSub1 (vctx Ir.pr N Ir.orc k) (a :: b :: some s :: env) 2 a' (x, H) = (evE (vctx Ir.pr N Ir.orc k) a' (a :: b :: some s :: env) H).bind (kSub2 (a :: b :: some s :: env) 2 x s) := s_sub1 rfl
  wp_walk using hf, ent_spots, c1, t3, t4, t0, e1, e2, e3, e4, s1, s2, s3, s4, sb, s_ret
  rfl
end

section
open Fw
open PySem (Str PyData NestedKey)
variable {N k : Nat} {H : List V}
def opt (c : Nat) (o : Option Nat) : List (D × V) := (o.map fun (j : Nat) => (D.str [c], V.int (j : Int))).toList
theorem lkD_opt {c c' : Nat} {o : Option Nat} : lkD (.str [c']) (opt c o) = if c = c' then o.map fun (j : Nat) => V.int (j : Int) else none := by
  cases o with
  | none => simp [opt, lkD]
  | some j =>
    show (if D.str [c] = D.str [c'] then some (V.int (j : Int)) else lkD (.str [c']) []) = _
    by_cases h : c = c'
    · subst h; simp
    · have : ¬ D.str [c] = D.str [c'] := by simpa using h
      rw [if_neg this, if_neg h]; rfl
theorem opt_dk {c : Nat} (hc : c < 1114112) {o : Option Nat} : DK false (opt c o) := by
  cases o with
  | none => exact .nil
  | some j => exact dk_one hc
theorem opt_len {c : Nat} {o : Option Nat} : (opt c o).length ≤ 1 := by cases o <;> simp [opt]
/-- by each command the cell that is next -/
def goalD (ps : List Pl) (i : Nat) : List (D × V) := opt 100 (nbr ps (1, 0) i) ++ opt 108 (nbr ps (0, -1) i) ++ opt 114 (nbr ps (0, 1) i) ++ opt 117 (nbr ps (-1, 0) i)
def goalsV (ps : List Pl) : V := .lst ((List.range ps.length).map fun i => .dct (goalD ps i))
theorem goalD_dk (ps : List Pl) (i : Nat) : DK false (goalD ps i) := dk_app (dk_app (dk_app (opt_dk (by decide)) (opt_dk (by decide))) (opt_dk (by decide))) (opt_dk (by decide))
theorem goalD_lk (ps : List Pl) (i : Nat) {c : Nat} (h : Sgn c) : lkD (.str [c]) (goalD ps i) = (nbr ps (dir c) i).map fun (j : Nat) => V.int (j : Int) := by
  unfold goalD
  rw [lkD_app, lkD_app, lkD_app, lkD_opt, lkD_opt, lkD_opt, lkD_opt]
  rcases h with rfl | rfl | rfl | rfl <;> simp [dir]
theorem idx_spots (q : Pl) : ∀ ps : List Pl, (ps.map plV).idxOf? (plV q) = ps.idxOf? q
  | [] => rfl
  | p :: ps => by
    rw [List.map_cons, List.idxOf?_cons, List.idxOf?_cons, idx_spots q ps]
    by_cases h : p = q
    · subst h; simp
    · have h2 : ¬ plV p = plV q := fun e => h (plV_inj e)
      simp [h, h2]
def goalTurn : List S := [.ite (.val (.cmp .in_ (.tup [(.bin .add (.var 3) (.var 7)), (.bin .add (.var 4) (.var 8))]) (.var 1))) [.asub (.var 5) (.var 6) (.mth .index (.var 1) [(.tup [(.bin .add (.var 3) (.var 7)), (.bin .add (.var 4) (.var 8))])])] []]
theorem goal_turn {C : VCtx} {rw fo : Sl} {c : Nat} {p d : Pl} {ps : List Pl} {kvs : List (D × V)} (hk : DK false kvs) (hq : kvs.length ≤ 10) (hc : c < 1114112) (hnew : lkD (.str [c]) kvs = none) :
    evSs C goalTurn [some rw, some (.val (.lst (ps.map plV))), some fo, some (.val (.int p.1)), some (.val (.int p.2)), some (.own false (.dct kvs)), some (.val (.str [c])), some (.val (.int d.1)), some (.val (.int d.2))] H = .ok (.next, [some rw, some (.val (.lst (ps.map plV))), some fo, some (.val (.int p.1)), some (.val (.int p.2)), some (.own false (.dct (kvs ++ opt c (ps.idxOf? (shift p d))))), some (.val (.str [c])), some (.val (.int d.1)), some (.val (.int d.2))], H) := by
  have i1 : inV (.tup [.int (p.1 + d.1), .int (p.2 + d.2)]) (.lst (ps.map plV)) = some (decide (plV (shift p d) ∈ ps.map plV)) := memV_pv (plV_fit (shift p d)) (plVs_pv ps) (plVs_dv ps)
  have i2 : mthV .index (.lst (ps.map plV)) [.tup [.int (p.1 + d.1), .int (p.2 + d.2)]] = (ps.idxOf? (shift p d)).map fun (j : Nat) => V.int (j : Int) := by
    show (indexV (plV (shift p d)) (ps.map plV)).map _ = _
    rw [indexV_pv (plV_fit (shift p d)) (plVs_pv ps) (plVs_dv ps), idx_spots]
  have m1 : plV (shift p d) ∈ ps.map plV ↔ (ps.idxOf? (shift p d)).isSome = true := by rw [mem_idx, idx_spots]
  unfold goalTurn
  cases e : ps.idxOf? (shift p d) with
  | none =>
    have m2 : ¬ plV (shift p d) ∈ ps.map plV := by rw [m1, e]; simp
    wp_walk using i1, m2, len_le1 (n := 2) (by decide)
    rw [show opt c none = [] from rfl, List.append_nil]
  | some j =>
    have m2 : plV (shift p d) ∈ ps.map plV := by rw [m1, e]; rfl
    rw [e] at i2
    have s2 := setS0 (H := H) (v := .int (j : Int)) hc hk (by omega) hnew
    have sb : ∀ {env : VEnv} {s : Sl} {a b c d e : Option Sl} {x : V} {a' : E}, kSub1 C (a :: b :: c :: d :: e :: some s :: env) 5 a' (x, H) = (evE C a' (a :: b :: c :: d :: e :: some s :: env) H).bind (kSub2 (a :: b :: c :: d :: e :: some s :: env) 5 x s) := s_sub1 rfl
    wp_walk using i1, m2, i2, s2, sb, len_le1 (n := 2) (by decide)
    rfl
theorem goals_v {rows : List (List Nat)} (F : FitR rows) : cv N (k + 2) Ir.f__law_goals [rowsV rows] H = .ok (goalsV (spots rows), H) := by
  have e0 := places_v (N := N) (k := k) (H := H) F
  have hl := F.spots_len
  unfold cv at e0 ⊢
  rw [run_v (p := 1) (n := 9) rfl rfl rfl]
  generalize spots rows = ps at e0 hl
  obtain ⟨r, e1, a, b, c, d, e, f, rfl⟩ := forV_map (t := .tup [.slot 3, .slot 4]) (f := evSs (vctx Ir.pr N Ir.orc (k + 1)) [.asg (.slot 5) (.dct []),
     .for_ (.tup [(.slot 6), (.slot 7), (.slot 8)]) (.pl (.tup [(.tup [(.con (.str [100])), (.con (.int 1)), (.con (.int 0))]), (.tup [(.con (.str [108])), (.con (.int 0)), (.neg (.con (.int 1)))]), (.tup [(.con (.str [114])), (.con (.int 0)), (.con (.int 1))]), (.tup [(.con (.str [117])), (.neg (.con (.int 1))), (.con (.int 0))])]))
      goalTurn,
     .expr (.mth .append (.var 2) [(.var 5)])]) plV ps (fun done env H' => H' = H ∧ ∃ a b c d e f, env = [some (.val (rowsV rows)), some (.val (.lst (ps.map plV))), some (.own false (.lst ((List.range done.length).map fun i => .dct (goalD ps i)))), a, b, c, d, e, f]) (fun r => ∃ a b c d e f, r = (.next, [some (.val (rowsV rows)), some (.val (.lst (ps.map plV))), some (.own false (goalsV ps)), a, b, c, d, e, f], H)) (by
      rintro done p rest env H' hd ⟨rfl, a, b, c, d, e, f, rfl⟩
      refine ⟨[some (.val (rowsV rows)), some (.val (.lst (ps.map plV))), some (.own false (.lst ((List.range done.length).map fun i => .dct (goalD ps i)))), some (.val (.int p.1)), some (.val (.int p.2)), c, d, e, f], by unfold plV; wp_walk, ?_⟩
      have hp : ps[done.length]? = some p := by rw [← hd]; simp
      have ll : done.length ≤ 1000000 := by
        have := congrArg List.length hd
        rw [List.length_append] at this
        omega
      have nb : ∀ d, ps.idxOf? (shift p d) = nbr ps d done.length := fun d => by unfold nbr; rw [hp, Option.bind_some]
      have g : ∀ {kvs : List (D × V)} {c : Nat} (d : Pl), DK false kvs → kvs.length ≤ 10 → c < 1114112 → lkD (.str [c]) kvs = none → evSs (vctx Ir.pr N Ir.orc (k + 1)) goalTurn [some (.val (rowsV rows)), some (.val (.lst (ps.map plV))), some (.own false (.lst ((List.range done.length).map fun i => .dct (goalD ps i)))), some (.val (.int p.1)), some (.val (.int p.2)), some (.own false (.dct kvs)), some (.val (.str [c])), some (.val (.int d.1)), some (.val (.int d.2))] H' = .ok (.next, [some (.val (rowsV rows)), some (.val (.lst (ps.map plV))), some (.own false (.lst ((List.range done.length).map fun i => .dct (goalD ps i)))), some (.val (.int p.1)), some (.val (.int p.2)), some (.own false (.dct (kvs ++ opt c (nbr ps d done.length)))), some (.val (.str [c])), some (.val (.int d.1)), some (.val (.int d.2))], H') := fun d h1 h2 h3 h4 => by
        have := goal_turn (C := vctx Ir.pr N Ir.orc (k + 1)) (H := H') (rw := .val (rowsV rows)) (fo := .own false (.lst ((List.range done.length).map fun i => .dct (goalD ps i)))) (p := p) (d := d) (ps := ps) h1 h2 h3 h4
        rw [nb] at this
        exact this
      have o1 := opt_len (c := 100) (o := nbr ps (1, 0) done.length)
      have o2 := opt_len (c := 108) (o := nbr ps (0, -1) done.length)
      have o3 := opt_len (c := 114) (o := nbr ps (0, 1) done.length)
      have D1 : DK false (opt 100 (nbr ps (1, 0) done.length)) := opt_dk (by decide)
      have D2 : DK false (opt 100 (nbr ps (1, 0) done.length) ++ opt 108 (nbr ps (0, -1) done.length)) := dk_app D1 (opt_dk (by decide))
      have D3 : DK false (opt 100 (nbr ps (1, 0) done.length) ++ opt 108 (nbr ps (0, -1) done.length) ++ opt 114 (nbr ps (0, 1) done.length)) := dk_app D2 (opt_dk (by decide))
      have g1 := g (c := 100) (1, 0) DK.nil (by simp) (by decide) rfl
      have g2 := g (c := 108) (0, -1) D1 (by omega) (by decide) (by rw [lkD_opt]; rfl)
      have g3 := g (c := 114) (0, 1) D2 (by rw [List.length_append]; omega) (by decide) (by rw [lkD_app, lkD_opt, lkD_opt]; rfl)
      have g4 := g (c := 117) (-1, 0) D3 (by rw [List.length_append, List.length_append]; omega) (by decide) (by rw [lkD_app, lkD_app, lkD_opt, lkD_opt, lkD_opt]; rfl)
      rw [List.nil_append] at g1
      wp_walk using g1, g2, g3, g4, len_le1 (n := 3) (by decide), len_le1 (n := 4) (by decide), List.length_map, List.length_range, len_lt1 ll
      have e2 : ((List.range (done ++ [p]).length).map fun i => V.dct (goalD ps i)) = ((List.range done.length).map fun i => V.dct (goalD ps i)) ++ [V.dct (goalD ps done.length)] := by
        rw [List.length_append, List.length_singleton, List.range_succ, List.map_append]; rfl
      rw [e2]
      exact ⟨_, _, _, _, _, _, rfl⟩) (by
      rintro env H' ⟨rfl, a, b, c, d, e, f, rfl⟩
      exact ⟨a, b, c, d, e, f, rfl⟩) (env := [some (.val (rowsV rows)), some (.val (.lst (ps.map plV))), some (.own false (.lst [])), none, none, none, none, none, none]) (H := H) ⟨rfl, none, none, none, none, none, none, rfl⟩
  unfold goalTurn at e1
  wp_walk using e0, e1, len_le1 (n := 0) (by decide), len_le1 (n := 1 + 1) (by decide), s_ret
  all_goals rfl
/-! ### words -/
theorem word_v (h : HandOk H) {most : Nat} (m : most ≤ 1000) : ∃ w H', cv N (k + 3) Ir.f__law_word [.hand, .int most] H = .ok (.str w, H') ∧ w.length ≤ most ∧ (∀ c ∈ w, Sgn c) ∧ HandOk H' := by
  obtain ⟨v, H1, e1, l1, h1⟩ := draw_n (N := N) (k := k + 1) h (n := most + 1) (by omega) (by omega)
  obtain ⟨q, H2, e2, cs, rfl, l2, c2, h2⟩ := lcV_ex (f := fLc (vctx Ir.pr N Ir.orc (k + 2)) (.call Ir.f__law_any [(.var 0), (.con (.str [100, 108, 114, 117]))]) (.slot 2) [] [2] [some (.val .hand), some (.val (.int most)), none]) (fun xs l H => ∃ cs, l = signsV cs ∧ cs.length + xs.length = v ∧ (∀ c ∈ cs, Sgn c) ∧ HandOk H) (by
    rintro x xs l H ⟨cs, rfl, hl, hc, h⟩
    rw [s_flc (e2 := [some (.val .hand), some (.val (.int most)), some (.val x)]) (by wp_walk)]
    obtain ⟨c, H3, e3, m3, h3⟩ := any_s (N := N) (k := k) h (s := [100, 108, 114, 117]) (by decide) (by decide)
    unfold cv at e3
    wp_walk using e3
    refine ⟨cs ++ [c], by rw [← signsV_app]; rfl, by simp at hl ⊢; omega, ?_, h3⟩
    intro c' m
    rw [List.mem_append, List.mem_singleton] at m
    rcases m with m | rfl
    · exact hc c' m
    · simp only [List.mem_cons, List.not_mem_nil, or_false] at m3
      exact m3) (rangeV 0 v) [] H1 ⟨[], rfl, by rw [rangeV_len]; simp, by simp, h1⟩
  have l3 : cs.length ≤ 1000 := by simp at l2; omega
  refine ⟨cs, H2, ?_, by simp at l2; omega, c2, h2⟩
  unfold cv at e1 ⊢
  have e1' : callV Ir.pr N Ir.orc (k + 2) Ir.f__law_draw [.hand, .int ((most : Int) + 1)] H = .ok (.int v, H1) := e1
  rw [run_v (p := 2) (n := 3) rfl rfl rfl]
  wp_walk using e1', e2, s_r11 (j := v) (by omega), signsV_len, len_le1 (n := cs.length) (by omega), join_v (s := cs) (by omega), s_ret
end

section
open Fw
open PySem (Str PyData NestedKey)
variable {N k : Nat} {H : List V}
def tiesV (ps : List Pl) : V := .tup (ps.map fun p => tupV (tieL ps p))
def floorV (rows : List (List Nat)) : V := .ins Ir.cFloor [("rows", rowsV rows), ("spots", spotsV (spots rows)), ("ties", tiesV (spots rows)), ("rests", tupV (signL rows 72)), ("stops", tupV (signL rows 83))]
theorem floorV_is (rows : List (List Nat)) : IsFloor (spots rows) (floorV rows) := ⟨_, _, rfl, rfl⟩
theorem ties_v {ps : List Pl} (hn : ps.Nodup) (hl : ps.length ≤ 1000) : cv N (k + 1) Ir.f_all_ties [spotsV ps] H = .ok (tiesV ps, H) := by
  unfold cv
  rw [run_v (p := 1) (n := 8) rfl rfl rfl]
  have c1 := num_dc (C := vctx Ir.pr N Ir.orc k) (H := H) hn hl (i := 6) (j := 7) (env := [some (.val (spotsV ps)), none, none, none, none, none, none, none]) (fun a b => ⟨[some (.val (spotsV ps)), none, none, none, none, none, some (.val a), some (.val b)], by wp_walk, by wp_walk, by wp_walk⟩)
  obtain ⟨r, e1, a, b, c, d, e, rfl⟩ := forV_map (t := .tup [.slot 3, .slot 4]) (f := evSs (vctx Ir.pr N Ir.orc k) [.asg (.slot 5) (.lst [(.tup [(.bin .sub (.var 3) (.con (.int 1))), (.var 4)]), (.tup [(.bin .add (.var 3) (.con (.int 1))), (.var 4)]), (.tup [(.var 3), (.bin .sub (.var 4) (.con (.int 1)))]), (.tup [(.var 3), (.bin .add (.var 4) (.con (.int 1)))])]),
     .expr (.mth .append (.var 2) [(.bif .tuple [(.bif .sorted [(.lc (.idx (.var 1) (.var 7)) (.slot 7) (.pl (.var 5)) [(.val (.cmp .in_ (.var 7) (.var 1)))] [7])])])])]) plV ps (fun done env H' => H' = H ∧ ∃ a b c d e, env = [some (.val (spotsV ps)), some (.own false (.dct (numD ps))), some (.own false (.lst (done.map fun p => tupV (tieL ps p)))), a, b, c, d, e]) (fun r => ∃ a b c d e, r = (.next, [some (.val (spotsV ps)), some (.own false (.dct (numD ps))), some (.own false (.lst (ps.map fun p => tupV (tieL ps p)))), a, b, c, d, e], H)) (by
      rintro done p rest env H' hd ⟨rfl, a, b, c, d, e, rfl⟩
      refine ⟨[some (.val (spotsV ps)), some (.own false (.dct (numD ps))), some (.own false (.lst (done.map fun p => tupV (tieL ps p)))), some (.val (.int p.1)), some (.val (.int p.2)), c, d, e], by unfold plV; wp_walk, ?_⟩
      have ll : done.length ≤ 1000000 := by
        have := congrArg List.length hd
        rw [List.length_append] at this
        omega
      have lc : lcV (fLc (vctx Ir.pr N Ir.orc k) (.idx (.var 1) (.var 7)) (.slot 7) [(.val (.cmp .in_ (.var 7) (.var 1)))] [7] [some (.val (spotsV ps)), some (.own false (.dct (numD ps))), some (.own false (.lst (done.map fun p => tupV (tieL ps p)))), some (.val (.int p.1)), some (.val (.int p.2)), some (.own false (.lst ((around p).map plV))), d, e]) ((around p).map plV) H' = .ok (((around p).filter fun q => (ps.idxOf? q).isSome).map fun q => V.int ((ps.idxOf? q).getD 0 : Nat), H') := by
        refine lcV_fil plV _ _ _ fun q _ => ?_
        rw [s_flc (e2 := [some (.val (spotsV ps)), some (.own false (.dct (numD ps))), some (.own false (.lst (done.map fun p => tupV (tieL ps p)))), some (.val (.int p.1)), some (.val (.int p.2)), some (.own false (.lst ((around p).map plV))), d, some (.val (plV q))]) (by wp_walk)]
        have i1 := in_dct (plV_toD q) (numD_dk ps) (plD_kf q)
        rw [numD_lk, Option.isSome_map] at i1
        cases e : ps.idxOf? q with
        | none =>
          rw [e] at i1
          wp_walk using i1, Option.isSome_none
          simp [e]
        | some j =>
          rw [e] at i1
          have i2 := hx_dk (H := H') (v := .int (j : Nat)) (plV_toD q) (numD_dk ps) (plD_kf q) (by rw [numD_lk, e]; rfl)
          wp_walk using i1, i2, Option.isSome_some
          simp [e]
      have ar : [V.tup [V.int (p.1 - 1), V.int p.2], V.tup [V.int (p.1 + 1), V.int p.2], V.tup [V.int p.1, V.int (p.2 - 1)], V.tup [V.int p.1, V.int (p.2 + 1)]] = (around p).map plV := rfl
      have s0 : itemsV (.lst (((around p).filter fun q => (ps.idxOf? q).isSome).map fun q => V.int ((ps.idxOf? q).getD 0 : Nat))) = some (((around p).filter fun q => (ps.idxOf? q).isSome).map fun q => V.int ((ps.idxOf? q).getD 0 : Nat)) := rfl
      have s1 : bif1V .sorted (.lst (((around p).filter fun q => (ps.idxOf? q).isSome).map fun q => V.int ((ps.idxOf? q).getD 0 : Nat))) = some (.lst ((tieL ps p).map fun i => V.int (i : Nat))) := by
        show ((sortV (((around p).filter fun q => (ps.idxOf? q).isSome).map fun q => V.int ((ps.idxOf? q).getD 0 : Nat))).bind fun m => wh (decide (m.length ≤ lim)) (some (V.lst m))) = _
        have := sort_nats (((around p).filter fun q => (ps.idxOf? q).isSome).map fun q => (ps.idxOf? q).getD 0)
        rw [List.map_map] at this
        have t2 : (((around p).filter fun q => (ps.idxOf? q).isSome).map fun q => V.int ((ps.idxOf? q).getD 0 : Nat)) = (((around p).filter fun q => (ps.idxOf? q).isSome).map ((fun i : Nat => V.int (i : Nat)) ∘ fun q => (ps.idxOf? q).getD 0)) := rfl
        rw [t2, this, Option.bind_some]
        have len : (tieL ps p).length ≤ 1000000 := by
          unfold tieL
          rw [List.length_mergeSort, List.length_map]
          have := List.length_filter_le (fun q => (ps.idxOf? q).isSome) (around p)
          have : (around p).length = 4 := rfl
          omega
        have := len_le1 len
        unfold tieL at this ⊢
        rw [List.length_map, this]; rfl
      have fl : ((around p).filter fun q => (ps.idxOf? q).isSome).length ≤ 1000000 := by
        have := List.length_filter_le (fun q => (ps.idxOf? q).isSome) (around p)
        have : (around p).length = 4 := rfl
        omega
      wp_walk using ar, show (around p).length = 4 from rfl, lc, s1, len_le1 fl, len_le1 (n := 2) (by decide), len_le1 (n := 4) (by decide), List.length_map, len_lt1 ll

      rw [List.map_append]
      exact ⟨_, _, _, _, _, rfl⟩) (by
      rintro env H' ⟨rfl, a, b, c, d, e, rfl⟩
      exact ⟨a, b, c, d, e, rfl⟩) (env := [some (.val (spotsV ps)), some (.own false (.dct (numD ps))), some (.own false (.lst [])), none, none, none, none, none]) (H := H) ⟨rfl, none, none, none, none, none, rfl⟩
  wp_walk using ent_spots, c1, len_le1 (n := 0) (by decide), s_ret, show kPl (spotsV ps, H) = .ok (ps.map plV, H) from rfl, e1
  rfl
theorem spots_of_v {rows : List (List Nat)} (F : FitR rows) {c : Nat} (hc : c < 1114112) : cv N (k + 1) Ir.f_spots_of [rowsV rows, spotsV (spots rows), .str [c]] H = .ok (tupV (signL rows c), H) := by
  unfold cv
  rw [run_v (p := 3) (n := 6) rfl rfl rfl]
  have lc : lcV (fLc (vctx Ir.pr N Ir.orc k) (.var 3) (.tup [(.slot 3), (.tup [(.slot 4), (.slot 5)])]) [(.val (.cmp .eq (.idx (.idx (.var 0) (.var 4)) (.var 5)) (.var 2)))] [3, 4, 5] [some (.val (rowsV rows)), some (.val (spotsV (spots rows))), some (.val (.str [c])), none, none, none]) (enumV 0 ((spots rows).map plV)) H = .ok ((signL rows c).map fun i => V.int (i : Nat), H) := by
    rw [enumV_map, lcV_fil _ (fun p : Pl × Nat => decide (signAt rows p.1 = some c)) (fun p => V.int (p.2 : Nat))]
    · unfold signL; rw [List.map_map]; rfl
    · rintro ⟨p, i⟩ m
      have mp := List.mem_of_getElem? (mem_zip m)
      obtain ⟨r, j, e, s, hs, x, hx, hn⟩ := mem_spots.1 mp
      have e : p = ((r : Int), (j : Int)) := e
      subst e
      have hx4 := (F.sg s (List.mem_of_getElem? hs) x (List.mem_of_getElem? hx)).lt
      have sa : signAt rows ((r : Int), (j : Int)) = some x := by unfold signAt; simp [hs, hx]
      rw [s_flc (e2 := [some (.val (rowsV rows)), some (.val (spotsV (spots rows))), some (.val (.str [c])), some (.val (.int i)), some (.val (.int r)), some (.val (.int j))]) (by unfold plV; wp_walk)]
      have i1 : hidx (rowsV rows) (.int r) H = .ok (.str s, H) := hx_tup (by rw [List.getElem?_map, hs]; rfl)
      have sl : s.length ≤ lim := by
        obtain ⟨n, h1, h2, h3⟩ := F.w
        have := h3 s (List.mem_of_getElem? hs)
        unfold lim; omega
      have i2 : hidx (.str s) (.int j) H = .ok (.str [x], H) := hx_str sl hx
      by_cases q : x = c
      · subst q
        wp_walk using i1, i2, c_eqs1 hx4 hc
        simp [sa]
      · wp_walk using i1, i2, c_eqs1 hx4 hc, q
        simp [sa, q]
  have l2 : (signL rows c).length ≤ 1000000 := by
    unfold signL
    rw [List.length_map]
    have := List.length_filter_le (fun p : Pl × Nat => decide (signAt rows p.1 = some c)) (spots rows).zipIdx
    rw [List.length_zipIdx] at this
    have := F.spots_len
    omega
  wp_walk using ent_spots, lc, s_ret, List.length_map, len_le1 l2
  rfl
theorem count_v (s : List Nat) (c : Nat) : mthV .count (.str s) [.str [c]] = some (.int (s.count c : Nat)) := (rfl)
theorem ints_nat : ∀ l : List Nat, intsV (l.map fun i => V.int (i : Nat)) = some (l.map fun i : Nat => (i : Int))
  | [] => rfl
  | a :: l => by
    show (intsV (l.map fun i => V.int (i : Nat))).map _ = _
    rw [ints_nat l]; rfl
theorem sum_nat : ∀ l : List Nat, (l.map fun i : Nat => (i : Int)).sum = ((l.sum : Nat) : Int)
  | [] => rfl
  | a :: l => by
    rw [List.map_cons, List.sum_cons, List.sum_cons, sum_nat l]; omega
theorem sum_v (l : List Nat) : bif1V .sum (.lst (l.map fun i => V.int (i : Nat))) = some (.int (l.sum : Nat)) := by
  show ((intsV (l.map fun i => V.int (i : Nat))).map fun l => V.int l.sum) = _
  rw [ints_nat, Option.map_some, sum_nat]
theorem floor_v {rows : List (List Nat)} (F : FitR rows) : initV Ir.pr N Ir.orc (k + 2) Ir.cFloor Ir.f_Floor_init [rowsV rows] H = .ok (floorV rows, H) := by
  have e1 : callV Ir.pr N Ir.orc (k + 1) Ir.f_is_sized [rowsV rows, .int 1, .int 12] H = .ok (.bl true, H) := by
    have := is_sized_v (N := N) (k := k) (H := H) (l := rows.map V.str) (a := 1) (b := 12)
    rw [List.length_map, decide_eq_true (by have := F.t1; omega), decide_eq_true (by have := F.t2; omega)] at this
    exact this
  obtain ⟨w, w1, w2, w3⟩ := F.w
  obtain ⟨r, e2, a, b, rfl⟩ := forV_map (t := .tup [.slot 2, .slot 3]) (f := evSs ⟨callV Ir.pr N Ir.orc (k + 1), fun _ _ _ _ => .stuck, N⟩ [.ite (.or (.not (.val (.call Ir.f_is_row [(.var 3)]))) (.val (.cmp .ne (.bif .len [(.var 3)]) (.bif .len [(.idx (.var 1) (.con (.int 0)))])))) [.raise 1 [(.var 2)]] []]) (fun p : List Nat × Nat => V.tup [.int p.2, .str p.1]) rows.zipIdx (fun done env H' => H' = H ∧ ∃ a b, env = [some (.own true (.ins Ir.cFloor [])), some (.val (rowsV rows)), a, b]) (fun r => ∃ a b, r = (.next, [some (.own true (.ins Ir.cFloor [])), some (.val (rowsV rows)), a, b], H)) (by
      rintro done ⟨s, i⟩ rest env H' hd ⟨rfl, a, b, rfl⟩
      have ms : s ∈ rows := List.mem_of_getElem? (mem_zip (p := (s, i)) (by rw [← hd]; simp))
      refine ⟨[some (.own true (.ins Ir.cFloor [])), some (.val (rowsV rows)), some (.val (.int i)), some (.val (.str s))], by wp_walk, ?_⟩
      have sl := w3 s ms
      have e3 := is_row_v (N := N) (k := k) (H := H') (s := s) (by omega) (by omega) (F.sg s ms)
      unfold cv at e3
      cases rows with
      | nil => cases ms
      | cons s0 rows =>
        have s0l := w3 s0 (List.mem_cons_self ..)
        have i0 : hidx (rowsV (s0 :: rows)) (.int 0) H' = .ok (.str s0, H') := hx_tup (n := 0) rfl
        have nn : (s.length : Int) = s0.length := by omega
        wp_walk using e3, i0, bif_lens (s := s) (by unfold lim; omega), bif_lens (s := s0) (by unfold lim; omega), c_nei, nn
        exact ⟨_, _, rfl⟩) (by
      rintro env H' ⟨rfl, a, b, rfl⟩
      exact ⟨a, b, rfl⟩) (env := [some (.own true (.ins Ir.cFloor [])), some (.val (rowsV rows)), none, none]) (H := H) ⟨rfl, none, none, rfl⟩
  rw [← enumV_map] at e2
  have lc : lcV (fLc ⟨callV Ir.pr N Ir.orc (k + 1), fun _ _ _ _ => .stuck, N⟩ (.mth .count (.var 3) [(.con (.str [72]))]) (.slot 3) [] [3] [some (.own true (.ins Ir.cFloor [])), some (.val (rowsV rows)), a, b]) (rows.map V.str) H = .ok ((rows.map fun s => s.count 72).map fun i => V.int (i : Nat), H) := by
    rw [lcV_map V.str (fun s : List Nat => V.int (s.count 72 : Nat)), List.map_map]
    · rfl
    · intro s _
      rw [s_flc (e2 := [some (.own true (.ins Ir.cFloor [])), some (.val (rowsV rows)), a, some (.val (.str s))]) (by wp_walk)]
      wp_walk using count_v
  have h1 : (1 : Int) ≤ ((rows.map fun s => s.count 72).sum : Nat) := by have := F.hm.1; omega
  have h6 : (((rows.map fun s => s.count 72).sum : Nat) : Int) ≤ 6 := by have := F.hm.2; omega
  have e4 : cv N (k + 1) Ir.f_all_spots [rowsV rows] H = .ok (spotsV (spots rows), H) := all_spots_v F
  have e5 := ties_v (N := N) (k := k) (H := H) (spots_nodup rows) (Nat.le_trans F.spots_len (by decide))
  have e6 := spots_of_v (N := N) (k := k) (H := H) F (c := 72) (by decide)
  have e7 := spots_of_v (N := N) (k := k) (H := H) F (c := 83) (by decide)
  unfold cv at e4 e5 e6 e7
  have t2 := F.t2
  have a1 : ∀ v, kAttr [some (.own true (.ins Ir.cFloor [])), some (.val (rowsV rows)), a, b] 0 "rows" (v, H) = .ok (.next, [some (.own true (.ins Ir.cFloor [("rows", v)])), some (.val (rowsV rows)), a, b], H) := fun v => s_attr1 rfl (attr_v (by decide) (by decide))
  have a2 : ∀ v x1, kAttr [some (.own true (.ins Ir.cFloor [("rows", x1)])), some (.val (rowsV rows)), a, b] 0 "spots" (v, H) = .ok (.next, [some (.own true (.ins Ir.cFloor [("rows", x1), ("spots", v)])), some (.val (rowsV rows)), a, b], H) := fun v x1 => s_attr1 rfl (attr_v (by simp) (by simp; decide))
  have a3 : ∀ v x1 x2, kAttr [some (.own true (.ins Ir.cFloor [("rows", x1), ("spots", x2)])), some (.val (rowsV rows)), a, b] 0 "ties" (v, H) = .ok (.next, [some (.own true (.ins Ir.cFloor [("rows", x1), ("spots", x2), ("ties", v)])), some (.val (rowsV rows)), a, b], H) := fun v x1 x2 => s_attr1 rfl (attr_v (by simp) (by simp; decide))
  have a4 : ∀ v x1 x2 x3, kAttr [some (.own true (.ins Ir.cFloor [("rows", x1), ("spots", x2), ("ties", x3)])), some (.val (rowsV rows)), a, b] 0 "rests" (v, H) = .ok (.next, [some (.own true (.ins Ir.cFloor [("rows", x1), ("spots", x2), ("ties", x3), ("rests", v)])), some (.val (rowsV rows)), a, b], H) := fun v x1 x2 x3 => s_attr1 rfl (attr_v (by simp) (by simp; decide))
  have a5 : ∀ v x1 x2 x3 x4, kAttr [some (.own true (.ins Ir.cFloor [("rows", x1), ("spots", x2), ("ties", x3), ("rests", x4)])), some (.val (rowsV rows)), a, b] 0 "stops" (v, H) = .ok (.next, [some (.own true (.ins Ir.cFloor [("rows", x1), ("spots", x2), ("ties", x3), ("rests", x4), ("stops", v)])), some (.val (rowsV rows)), a, b], H) := fun v x1 x2 x3 x4 => s_attr1 rfl (attr_v (by simp) (by simp; decide))
  have f1 : ∀ x1 x2, fldV (.ins Ir.cFloor [("rows", x1), ("spots", x2)]) "spots" = some x2 := fun _ _ => rfl
  have f2 : ∀ x1 x2 x3, fldV (.ins Ir.cFloor [("rows", x1), ("spots", x2), ("ties", x3)]) "spots" = some x2 := fun _ _ _ => rfl
  have f3 : ∀ x1 x2 x3 x4, fldV (.ins Ir.cFloor [("rows", x1), ("spots", x2), ("ties", x3), ("rests", x4)]) "spots" = some x2 := fun _ _ _ _ => rfl
  rw [run_i (p := 2) (n := 4) rfl rfl]
  wp_walk using e1, ent_rows, e2, lc, show kPl (rowsV rows, H) = .ok (rows.map V.str, H) from rfl, List.length_map, len_le1 (n := rows.length) (by omega), sum_v, h1, h6, a1, a2, a3, a4, a5, f1, f2, f3, e4, e5, e6, e7
  all_goals rfl
end

section
open Fw Bf
open PySem (Str PyData NestedKey)
variable {N k : Nat} {H : List V} {ps : List Pl}
theorem Sgn.lt {c : Nat} (h : Sgn c) : c < 1114112 := by unfold Sgn at h; omega
theorem steps_dk (ps : List Pl) : DK false [(D.str [117], V.lst (stepL ps (-1, 0))), (D.str [100], V.lst (stepL ps (1, 0))), (D.str [108], V.lst (stepL ps (0, -1))), (D.str [114], V.lst (stepL ps (0, 1)))] := ⟨fun kv m => by
  simp only [List.mem_cons, List.not_mem_nil, or_false] at m
  rcases m with rfl | rfl | rfl | rfl <;> exact ⟨rfl, rfl⟩⟩
theorem step_at {c : Nat} (h : Sgn c) : hidx (stepsV ps) (.str [c]) H = .ok (.lst (stepL ps (dir c)), H) := by
  refine hx_dk str1_toD (steps_dk ps) (str1_kf h.lt) ?_
  rcases h with rfl | rfl | rfl | rfl <;> rfl
theorem step_ix {c i : Nat} (h : i < ps.length) : hidx (.lst (stepL ps (dir c))) (.int (i : Nat)) H = .ok (.int (nx ps c i : Nat), H) := by
  refine hx_lst ?_
  unfold stepL
  rw [List.getElem?_map, List.getElem?_range h]; rfl
theorem feel_v {w : List Nat} (hw : ∀ c ∈ w, Sgn c) (hl : w.length ≤ 10000) {i : Nat} (hi : i < ps.length) : cv N (k + 1) Ir.f_feel [stepsV ps, .int (i : Nat), .str w] H = .ok (.tup [.str (feelW ps w i).1, .int ((feelW ps w i).2 : Nat)], H) := by
  unfold cv
  rw [run_v (p := 3) (n := 7) rfl rfl rfl]
  obtain ⟨r, e1, a, b, rfl⟩ := forV_map (t := .slot 5) (f := evSs (vctx Ir.pr N Ir.orc k) [.asg (.slot 6) (.idx (.idx (.var 0) (.var 5)) (.var 4)),
     .asg (.slot 3) (.bin .add (.var 3) (.ite (.val (.cmp .ne (.var 6) (.var 4))) (.con (.str [49])) (.con (.str [48])))),
     .asg (.slot 4) (.var 6)]) (fun c => V.str [c]) w (fun done env H' => H' = H ∧ ∃ a b, env = [some (.val (stepsV ps)), some (.val (.int i)), some (.val (.str w)), some (.val (.str (feelW ps done i).1)), some (.val (.int ((feelW ps done i).2 : Nat))), a, b])
    (fun r => ∃ a b, r = (.next, [some (.val (stepsV ps)), some (.val (.int i)), some (.val (.str w)), some (.val (.str (feelW ps w i).1)), some (.val (.int ((feelW ps w i).2 : Nat))), a, b], H)) (by
      rintro done c rest env H' hd ⟨rfl, a, b, rfl⟩
      refine ⟨_, at_s, ?_⟩
      have hc : Sgn c := hw c (by rw [← hd]; simp)
      have ll := congrArg List.length hd
      rw [List.length_append, List.length_cons] at ll
      have flen := feel_len (ps := ps) done i
      have fa := feel_app (ps := ps) done [c] i
      rw [feelW, feelW] at fa
      rw [fa]
      have lt := feel_lt (ps := ps) done i hi
      generalize (feelW ps done i).2 = j at *
      generalize (feelW ps done i).1 = s at *
      have le := len_le1 (n := s.length + 1) (by omega)
      by_cases q : nx ps c j = j
      · have q' : ((nx ps c j : Nat) : Int) = (j : Int) := by rw [q]
        have f0 : fl ps c j = 48 := by unfold Vl.fl; rw [if_pos q]
        rw [f0]
        wp_walk using step_at hc, step_ix (c := c) lt, c_nei, q', le
        exact ⟨_, _, rfl⟩
      · have q' : ¬ ((nx ps c j : Nat) : Int) = (j : Int) := fun z => q (Int.ofNat.inj z)
        have f0 : fl ps c j = 49 := by unfold Vl.fl; rw [if_neg q]
        rw [f0]
        wp_walk using step_at hc, step_ix (c := c) lt, c_nei, q', le
        exact ⟨_, _, rfl⟩) (by
      rintro env H' ⟨rfl, a, b, rfl⟩
      exact ⟨a, b, rfl⟩) (env := [some (.val (stepsV ps)), some (.val (.int i)), some (.val (.str w)), some (.val (.str [])), some (.val (.int i)), none, none]) (H := H) ⟨rfl, none, none, rfl⟩
  wp_walk using show signsV w = w.map (fun c => V.str [c]) from rfl, e1, len_le1 (n := 2) (by decide), s_ret
theorem check_word_v {w : List Nat} (hw : ∀ c ∈ w, Sgn c) (hl : w.length ≤ 5000) : cv N (k + 1) Ir.f_check_word [.str w] H = .ok (.non, H) := by
  unfold cv
  rw [run_v (p := 1) (n := 3) rfl rfl rfl]
  have q : ¬ (5000 : Int) < w.length := by omega
  obtain ⟨r, e1, a, b, rfl⟩ := forV_map (t := .tup [.slot 1, .slot 2]) (f := evSs (vctx Ir.pr N Ir.orc k) [.ite (.val (.cmp .nin (.var 2) (.con (.str [117, 100, 108, 114])))) [.raise 3 [(.var 1)]] []]) (fun p : Nat × Nat => V.tup [.int p.2, .str [p.1]]) w.zipIdx (fun done env H' => H' = H ∧ ∃ a b, env = [some (.val (.str w)), a, b]) (fun r => ∃ a b, r = (.next, [some (.val (.str w)), a, b], H)) (by
      rintro done ⟨c, i⟩ rest env H' hd ⟨rfl, a, b, rfl⟩
      refine ⟨[some (.val (.str w)), some (.val (.int i)), some (.val (.str [c]))], by wp_walk, ?_⟩
      have hc : Sgn c := hw c (List.mem_of_getElem? (mem_zip (p := (c, i)) (by rw [← hd]; simp)))
      have mc : c ∈ [117, 100, 108, 114] := by rcases hc with rfl | rfl | rfl | rfl <;> simp
      wp_walk using mc
      exact ⟨_, _, rfl⟩) (by
      rintro env H' ⟨rfl, a, b, rfl⟩
      exact ⟨a, b, rfl⟩) (env := [some (.val (.str w)), none, none]) (H := H) ⟨rfl, none, none, rfl⟩
  rw [← enumV_signs] at e1
  wp_walk using show isTyV .str (.str w) = some (.bl true) from rfl, bif_lens (s := w) (by unfold lim; omega), q, e1
theorem check_cell_v {f : V} (F : IsFloor ps f) {i : Nat} (hi : i < ps.length) : cv N (k + 4) Ir.f_check_cell [f, .int (i : Nat)] H = .ok (.non, H) := by
  obtain ⟨c, fs, rfl, hf⟩ := F
  have e1 := is_below_v (N := N) (k := k) (H := H) (i := i) (n := ps.length)
  rw [decide_eq_true (by omega), decide_eq_true (by omega)] at e1
  unfold cv at e1 ⊢
  rw [run_v (p := 2) (n := 2) rfl rfl rfl]
  wp_walk using hf, show bif1V .len (spotsV ps) = some (.int ps.length) from by unfold spotsV; rw [bif_lent, List.length_map], e1
theorem felt_v {f : V} (F : IsFloor ps f) (nd : ps.Nodup) (pl : ps.length ≤ 1000) {w : List Nat} (hw : ∀ c ∈ w, Sgn c) (hl : w.length ≤ 5000) {i : Nat} (hi : i < ps.length) : cv N (k + 5) Ir.f_felt [f, .int (i : Nat), .str w] H = .ok (.tup [.str (feelW ps w i).1, .int ((feelW ps w i).2 : Nat)], H) := by
  have e1 := check_cell_v (N := N) (k := k) (H := H) F hi
  have e2 := check_word_v (N := N) (k := k + 3) (H := H) hw hl
  have e3 := steps_v (N := N) (k := k + 3) (H := H) F nd pl
  have e4 := feel_v (N := N) (k := k + 3) (H := H) (ps := ps) hw (by omega) hi
  unfold cv at e1 e2 e3 e4 ⊢
  rw [run_v (p := 3) (n := 3) rfl rfl rfl]
  wp_walk using e1, e2, e3, e4, s_ret
theorem goal_at {i : Nat} (hi : i < ps.length) : hidx (goalsV ps) (.int (i : Nat)) H = .ok (.dct (goalD ps i), H) := by
  refine hx_lst ?_
  rw [List.getElem?_map, List.getElem?_range hi]; rfl
theorem goal_get {i c : Nat} (h : Sgn c) (x : V) : mthV .get (.dct (goalD ps i)) [.str [c], x] = some (((nbr ps (dir c) i).map fun (j : Nat) => V.int (j : Int)).getD x) := by
  rw [get_dct str1_toD (goalD_dk ps i) (str1_kf h.lt), goalD_lk ps i h]
theorem law_feel_v (nd : ps.Nodup) {w : List Nat} (hw : ∀ c ∈ w, Sgn c) (hl : w.length ≤ 10000) {i : Nat} (hi : i < ps.length) : cv N (k + 1) Ir.f__law_feel [goalsV ps, .int (i : Nat), .str w] H = .ok (.tup [.str (feelW ps w i).1, .int ((feelW ps w i).2 : Nat)], H) := by
  unfold cv
  rw [run_v (p := 3) (n := 6) rfl rfl rfl]
  obtain ⟨r, e1, a, b, rfl⟩ := forV_map (t := .slot 4) (f := evSs (vctx Ir.pr N Ir.orc k) [.asg (.slot 5) (.mth .get (.idx (.var 0) (.var 1)) [(.var 4), (.con .non)]),
     .asg (.tup [(.slot 3), (.slot 1)]) (.tup [(.bin .add (.var 3) (.ite (.val (.cmp .isn (.var 5) (.con .non))) (.con (.str [48])) (.con (.str [49])))), (.ite (.val (.cmp .isn (.var 5) (.con .non))) (.var 1) (.var 5))])]) (fun c => V.str [c]) w (fun done env H' => H' = H ∧ ∃ a b, env = [some (.val (goalsV ps)), some (.val (.int ((feelW ps done i).2 : Nat))), some (.val (.str w)), some (.val (.str (feelW ps done i).1)), a, b])
    (fun r => ∃ a b, r = (.next, [some (.val (goalsV ps)), some (.val (.int ((feelW ps w i).2 : Nat))), some (.val (.str w)), some (.val (.str (feelW ps w i).1)), a, b], H)) (by
      rintro done c rest env H' hd ⟨rfl, a, b, rfl⟩
      refine ⟨_, at_s, ?_⟩
      have hc : Sgn c := hw c (by rw [← hd]; simp)
      have ll := congrArg List.length hd
      rw [List.length_append, List.length_cons] at ll
      have flen := feel_len (ps := ps) done i
      have fa := feel_app (ps := ps) done [c] i
      rw [feelW, feelW] at fa
      rw [fa]
      have lt := feel_lt (ps := ps) done i hi
      generalize (feelW ps done i).2 = j at *
      generalize (feelW ps done i).1 = s at *
      have le := len_le1 (n := s.length + 1) (by omega)
      have gg := goal_get (ps := ps) (i := j) hc .non
      cases q : nbr ps (dir c) j with
      | none =>
        have f0 : Vl.fl ps c j = 48 := by unfold Vl.fl; rw [if_pos (nx_none q)]
        rw [f0, nx_none q]
        rw [q] at gg
        wp_walk using goal_at lt, gg, le, Option.getD_none, len_le1 (n := 2) (by decide)
        exact ⟨_, _, rfl⟩
      | some j' =>
        have f0 : Vl.fl ps c j = 49 := by unfold Vl.fl; rw [if_neg (by rw [nx_some q]; exact nbr_ne nd hc q)]
        rw [f0, nx_some q]
        rw [q] at gg
        wp_walk using goal_at lt, gg, le, Option.getD_some, reduceCtorEq, len_le1 (n := 2) (by decide)
        exact ⟨_, _, rfl⟩) (by
      rintro env H' ⟨rfl, a, b, rfl⟩
      exact ⟨a, b, rfl⟩) (env := [some (.val (goalsV ps)), some (.val (.int i)), some (.val (.str w)), some (.val (.str [])), none, none]) (H := H) ⟨rfl, none, none, rfl⟩
  wp_walk using show signsV w = w.map (fun c => V.str [c]) from rfl, e1, len_le1 (n := 2) (by decide), s_ret
end

section
open Fw Bf
open PySem (Str PyData NestedKey)
variable {N k : Nat} {H : List V} {ps : List Pl}
theorem c_nebb {p q : Bool} : cmpV .ne (.bl p) (.bl q) = some (p != q) := by cases p <;> cases q <;> rfl
theorem c_eqn {a b : Nat} : cmpV .eq (.int (a : Nat)) (.int (b : Nat)) = some (decide (a = b)) := by
  rw [c_eqi]
  by_cases h : a = b
  · subst h; simp
  · have : ¬ (a : Int) = (b : Int) := fun z => h (Int.ofNat.inj z)
    simp [h, this]
theorem sorted_sg : bif1V .sorted (.str [117, 100, 108, 114]) = some (.lst (SG.map fun c => V.str [c])) := by
  show ((sortV ([117, 100, 108, 114].map fun c => V.str [c])).bind fun m => wh (decide (m.length ≤ lim)) (some (V.lst m))) = _
  have e : ∀ a b : Nat, (!PySem.W.dataLt (pdv (.str [b])) (pdv (.str [a]))) = decide (a ≤ b) := fun a b => by
    simp only [pdv]
    rw [PySem.W.dataLt_str]
    show (!decide ([b] < [a])) = _
    have : ([b] < [a]) ↔ b < a := by rw [List.cons_lt_cons_iff]; simp
    by_cases h : b < a
    · have h2 : ¬ a ≤ b := by omega
      simp [this, h, h2]
    · have h2 : a ≤ b := by omega
      simp [this, h, h2]
  rw [sort_map (fun c => V.str [c]) (fun a b => decide (a ≤ b)) [117, 100, 108, 114] rfl (by simp [dvs, dv]) (fun a _ b _ => e a b) (by
    unfold sortOk
    simp [PySem.W.alike, pdv, notNT, PyData.depth])]
  have : [117, 100, 108, 114].mergeSort (fun a b => decide (a ≤ b)) = SG := by
    simp [List.mergeSort, List.MergeSort.Internal.splitInTwo, List.splitAt, List.splitAt.go, List.merge, SG]
  rw [this]; rfl
theorem dct1 {p : Nat × Nat} {v : V} : kDct ([prV p, v], H) = .ok (.dct [(prD p, v)], H) := by
  rw [s_dct1]
  show mkRV ((putAllV [] [(prV p, v)]).map .dct) H = _
  have : putAllV [] [(prV p, v)] = some [(prD p, v)] := by
    obtain ⟨q, e1, e2⟩ := keyFor_fit (kvs := []) DK.nil (prD_kf p)
    rw [putAllV, prV_toD, Option.bind_some, e1, Option.bind_some, putV_fit (prD_kf p) e2 DK.nil]; rfl
  rw [this]; rfl
section
variable {β : Type} {f : (Nat × Nat) × β → V}
theorem in_enc {q : Nat × Nat} (Q : List ((Nat × Nat) × β)) : inV (prV q) (.dct (encD prD f Q)) = some (lkD (prD q) (encD prD f Q)).isSome := in_dct (prV_toD q) (enc_dk prD_kf Q) (prD_kf q)
theorem in_enc_t {q : Nat × Nat} {Q : List ((Nat × Nat) × β)} (nd : (Q.map Prod.fst).Nodup) (h : ∃ x ∈ Q, x.1 = q) : inV (prV q) (.dct (encD prD f Q)) = some true := by
  obtain ⟨x, m, rfl⟩ := h
  rw [in_enc, enc_lk prD_inj nd m]; rfl
theorem in_enc_f {q : Nat × Nat} {Q : List ((Nat × Nat) × β)} (h : ∀ x ∈ Q, x.1 ≠ q) : inV (prV q) (.dct (encD prD f Q)) = some false := by
  rw [in_enc, enc_none prD_inj h]; rfl
theorem set_enc {q : Nat × Nat} {Q : List ((Nat × Nat) × β)} {b : β} (h : ∀ x ∈ Q, x.1 ≠ q) (l : Q.length ≤ 1000000) : setV (.own false (.dct (encD prD f Q))) (prV q) (f (q, b)) H = some (.own false (.dct (encD prD f (Q ++ [(q, b)]))), H) := by
  rw [set_dct (prV_toD q) (enc_dk prD_kf Q) (prD_kf q) (by unfold encD; rw [List.length_map]; unfold lim; omega), ptD_new (enc_none prD_inj h), enc_app]
theorem idx_enc {x : (Nat × Nat) × β} {Q : List ((Nat × Nat) × β)} (nd : (Q.map Prod.fst).Nodup) (m : x ∈ Q) : hidx (.dct (encD prD f Q)) (prV x.1) H = .ok (f x, H) := hx_dk (prV_toD x.1) (enc_dk prD_kf Q) (prD_kf x.1) (enc_lk prD_inj nd m)
end
abbrev WQ := List ((Nat × Nat) × List Nat)
def wv (x : (Nat × Nat) × List Nat) : V := .str x.2
abbrev BI (ps : List Pl) (a b : Nat) := BInv (d2 ps) (g2 ps) SG (a, b)
/-- one cell pair is looked at -/
def partBody : List S := [.asg (.slot 8) (.tup [(.idx (.idx (.var 0) (.var 7)) (.idx (.var 6) (.con (.int 0)))), (.idx (.idx (.var 0) (.var 7)) (.idx (.var 6) (.con (.int 1))))]),
       .ite (.val (.cmp .ne (.cmp .eq (.idx (.var 8) (.con (.int 0))) (.idx (.var 6) (.con (.int 0)))) (.cmp .eq (.idx (.var 8) (.con (.int 1))) (.idx (.var 6) (.con (.int 1)))))) [.ret (.bin .add (.idx (.var 3) (.var 6)) (.var 7))] [],
       .ite (.val (.cmp .nin (.var 8) (.var 3))) [.asub (.var 3) (.var 8) (.bin .add (.idx (.var 3) (.var 6)) (.var 7)),
         .expr (.mth .append (.var 4) [(.var 8)])] []]
abbrev penv (ps : List Pl) (x y : V) (Q : WQ) (at_ : Nat) (h s t : Option Sl) : VEnv := [some (.val (stepsV ps)), some (.val x), some (.val y), some (.own false (.dct (encD prD wv Q))), some (.own false (.lst (Q.map fun x => prV x.1))), some (.val (.int (at_ : Nat))), h, s, t]
theorem part_turn {C : VCtx} {a b : Nat} (ha : a < ps.length) (hb : b < ps.length) (pl : ps.length ≤ 144) {x y : V} {at_ at2 : Nat} {Q : WQ} {p : Nat × Nat} {w : List Nat} (hI : BI ps a b at_ [] SG Q) (hq : Q[at_]? = some (p, w)) {s t : Option Sl} :
    ∃ r, forV (.slot 7) (evSs C partBody) (SG.map fun c => V.str [c]) (penv ps x y Q at2 (some (.val (prV p))) s t) H = .ok r ∧ ((∃ v e, r = (.ret (.str v), e, H) ∧ Least (d2 ps) (g2 ps) SG (a, b) v) ∨ ∃ Q' s t, r = (.next, penv ps x y Q' at2 (some (.val (prV p))) s t, H) ∧ BI ps a b at_ SG [] Q' ∧ at_ < Q'.length) := by
  refine forV_map _ _ (fun done env H' => H' = H ∧ ∃ cs Q' s t, env = penv ps x y Q' at2 (some (.val (prV p))) s t ∧ BI ps a b at_ done cs Q' ∧ Q'[at_]? = some (p, w)) _ ?_ ?_ ?_
  · rintro done c rest env H' hd ⟨rfl, cs, Q', s, t, rfl, h, hq⟩
    have hs := h.sig
    rw [← hd] at hs
    obtain rfl := List.append_cancel_left hs
    refine ⟨_, at_s, ?_⟩
    have hc : Sgn c := sg_iff.1 (by rw [← hd]; simp)
    have mq := List.mem_of_getElem? hq
    have hl := h.len (allPr ps.length) fun u _ => run2_mem ha hb u
    rw [allPr_len] at hl
    have hl2 : Q'.length ≤ 20736 := Nat.le_trans hl (Nat.mul_le_mul pl pl)
    have wl := h.wl _ _ hq
    have al := (List.getElem?_eq_some_iff.1 hq).1
    have wl : w.length ≤ 20736 := by have : w.length ≤ at_ := wl; omega
    have pm : p ∈ allPr ps.length := by have := run2_mem ha hb w; rwa [show run (d2 ps) (a, b) w = p from (h.path _ mq).1] at this
    have p1 : p.1 < ps.length := by
      unfold allPr at pm
      obtain ⟨a, h1, h2⟩ := List.mem_flatMap.1 pm
      obtain ⟨b, h3, h4⟩ := List.mem_map.1 h2
      rw [← h4]; exact List.mem_range.1 h1
    have p2 : p.2 < ps.length := by
      unfold allPr at pm
      obtain ⟨a, h1, h2⟩ := List.mem_flatMap.1 pm
      obtain ⟨b, h3, h4⟩ := List.mem_map.1 h2
      rw [← h4]; exact List.mem_range.1 h3
    have i0 : ∀ q : Nat × Nat, hidx (prV q) (.int 0) H' = .ok (.int (q.1 : Nat), H') := fun q => hx_t0
    have i1 : ∀ q : Nat × Nat, hidx (prV q) (.int 1) H' = .ok (.int (q.2 : Nat), H') := fun q => hx_t1
    have j0 : hidx (.tup [.int (nx ps c p.1 : Nat), .int (nx ps c p.2 : Nat)]) (.int 0) H' = .ok (.int (nx ps c p.1 : Nat), H') := hx_t0
    have ix : hidx (.dct (encD prD wv Q')) (prV p) H' = .ok (.str w, H') := idx_enc (x := (p, w)) h.nd mq
    have le := len_le1 (n := w.length + 1) (by omega)
    have l2 := len_le1 (n := 2) (by decide)
    unfold partBody
    cases hg : g2 ps p c with
    | true =>
      have hg' := hg
      unfold g2 at hg'
      wp_walk using step_at hc, step_ix (c := c) p1, step_ix (c := c) p2, i0, i1, l2, c_eqn, c_nebb, hg', ix, le, s_ret
      exact .inl ⟨_, _, rfl, h.goal hq hg sg_srt⟩
    | false =>
      have hg' := hg
      unfold g2 at hg'
      by_cases hm : ∃ x ∈ Q', x.1 = d2 ps p c
      · have n1 : inV (.tup [.int (nx ps c p.1 : Nat), .int (nx ps c p.2 : Nat)]) (.dct (encD prD wv Q')) = some true := in_enc_t (q := d2 ps p c) h.nd hm
        wp_walk using step_at hc, step_ix (c := c) p1, step_ix (c := c) p2, i0, i1, l2, c_eqn, c_nebb, hg', n1
        exact ⟨rest, Q', _, _, rfl, h.old hq hg hm sg_srt, hq⟩
      · have hm : ∀ x ∈ Q', x.1 ≠ d2 ps p c := fun x m e => hm ⟨x, m, e⟩
        have n1 : inV (.tup [.int (nx ps c p.1 : Nat), .int (nx ps c p.2 : Nat)]) (.dct (encD prD wv Q')) = some false := in_enc_f (q := d2 ps p c) hm
        have s1 : setV (.own false (.dct (encD prD wv Q'))) (.tup [.int (nx ps c p.1 : Nat), .int (nx ps c p.2 : Nat)]) (.str (w ++ [c])) H' = some (.own false (.dct (encD prD wv (Q' ++ [(d2 ps p c, w ++ [c])]))), H') := set_enc (f := wv) (q := d2 ps p c) (b := w ++ [c]) hm (by omega)
        have sb : ∀ {env : VEnv} {s : Sl} {a b c : Option Sl} {x : V} {a' : E}, kSub1 C (a :: b :: c :: some s :: env) 3 a' (x, H') = (evE C a' (a :: b :: c :: some s :: env) H').bind (kSub2 (a :: b :: c :: some s :: env) 3 x s) := s_sub1 rfl
        wp_walk using step_at hc, step_ix (c := c) p1, step_ix (c := c) p2, i0, i1, l2, c_eqn, c_nebb, hg', n1, ix, le, s1, sb, List.length_map, len_lt1 (n := Q'.length) (by omega)
        refine ⟨rest, Q' ++ [(d2 ps p c, w ++ [c])], some (.val (.str [c])), some (.val (.tup [.int (nx ps c p.1 : Nat), .int (nx ps c p.2 : Nat)])), ?_, h.new hq hg hm sg_srt, by rw [List.getElem?_append_left (by omega)]; exact hq⟩
        unfold penv
        rw [List.map_append]
        rfl
  · rintro env H' ⟨rfl, cs, Q', s, t, rfl, h, hq⟩
    have hs := h.sig
    have : cs = [] := by
      have := congrArg List.length hs
      rw [List.length_append] at this
      exact List.length_eq_zero_iff.1 (by omega)
    subst this
    exact .inr ⟨Q', s, t, rfl, h, (List.getElem?_eq_some_iff.1 hq).1⟩
  · exact ⟨rfl, SG, Q, s, t, rfl, hI, hq⟩
def optV : Option (List Nat) → V
  | none => .non
  | some r => .str r
theorem parting_v (hN : 30000 ≤ N) {a b : Nat} (ha : a < ps.length) (hb : b < ps.length) (pl : ps.length ≤ 144) : ∃ o, cv N (k + 1) Ir.f_parting_word [stepsV ps, .int (a : Nat), .int (b : Nat)] H = .ok (optV o, H) ∧ PartIs ps a b o := by
  unfold cv
  rw [run_v (p := 3) (n := 9) rfl rfl rfl]
  obtain ⟨r, e1, hr⟩ := whileV_ex (g := evB (vctx Ir.pr N Ir.orc k) (.val (.cmp .lt (.var 5) (.bif .len [(.var 4)])))) (f := evSs (vctx Ir.pr N Ir.orc k) [.asg (.tup [(.slot 6), (.slot 5)]) (.tup [(.idx (.var 4) (.var 5)), (.bin .add (.var 5) (.con (.int 1)))]),
     .for_ (.slot 7) (.pl (.bif .sorted [(.con (.str [117, 100, 108, 114]))])) partBody]) (fun m env H' => H' = H ∧ ∃ at_ Q h s t, env = penv ps (.int (a : Nat)) (.int (b : Nat)) Q at_ h s t ∧ BI ps a b at_ [] SG Q ∧ at_ ≤ Q.length ∧ m + at_ = 20737)
    (fun r => (∃ v e, r = (.ret (.str v), e, H) ∧ Least (d2 ps) (g2 ps) SG (a, b) v) ∨ ∃ e, r = (.next, e, H) ∧ PartIs ps a b none) (by
      rintro m env H' ⟨rfl, at_, Q, h, s, t, rfl, hI, hl, hm⟩
      have hlen := hI.len (allPr ps.length) fun u _ => run2_mem ha hb u
      rw [allPr_len] at hlen
      have hl2 : Q.length ≤ 20736 := Nat.le_trans hlen (Nat.mul_le_mul pl pl)
      by_cases q : at_ < Q.length
      · have q' : (at_ : Int) < (Q.length : Int) := by omega
        obtain ⟨⟨p, w⟩, hq⟩ : ∃ y, Q[at_]? = some y := ⟨Q[at_], by simp⟩
        have i4 : hidx (.lst (Q.map fun x => prV x.1)) (.int (at_ : Nat)) H' = .ok (prV p, H') := hx_lst (by rw [List.getElem?_map, hq]; rfl)
        obtain ⟨r, e, hr⟩ := part_turn (C := vctx Ir.pr N Ir.orc k) (H := H') ha hb pl (x := .int (a : Nat)) (y := .int (b : Nat)) (at2 := at_ + 1) hI hq (s := s) (t := t)
        have e' : forV (.slot 7) (evSs (vctx Ir.pr N Ir.orc k) partBody) (SG.map fun c => V.str [c]) [some (.val (stepsV ps)), some (.val (.int (a : Nat))), some (.val (.int (b : Nat))), some (.own false (.dct (encD prD wv Q))), some (.own false (.lst (Q.map fun x => prV x.1))), some (.val (.int ((at_ : Int) + 1))), some (.val (prV p)), s, t] H' = .ok r := e
        wp_walk using List.length_map, q', i4, sorted_sg, e', len_le1 (n := 1 + 1) (by decide)
        rcases hr with ⟨v, e2, rfl, hv⟩ | ⟨Q', s', t', rfl, hI', hl'⟩
        · wp_walk
          exact .inl ⟨v, _, rfl, hv⟩
        · wp_walk
          exact ⟨m - 1, by omega, at_ + 1, Q', _, _, _, rfl, hI'.next, by omega, by omega⟩
      · have q' : ¬ (at_ : Int) < (Q.length : Int) := by omega
        wp_walk using List.length_map, q'
        exact .inr ⟨_, rfl, fun u c ok mc => hI.none (by omega) u c ok mc⟩) N 20737 (penv ps (.int (a : Nat)) (.int (b : Nat)) [((a, b), [])] 0 none none none) H (by omega) ⟨rfl, 0, _, _, _, _, rfl, BInv.init, by simp, by omega⟩
  have d0 : kDct ([.tup [.int (a : Nat), .int (b : Nat)], .str []], H) = .ok (.dct [(prD (a, b), .str [])], H) := dct1 (p := (a, b))
  have e1' : whileV (evB (vctx Ir.pr N Ir.orc k) (.val (.cmp .lt (.var 5) (.bif .len [(.var 4)])))) (evSs (vctx Ir.pr N Ir.orc k) [.asg (.tup [(.slot 6), (.slot 5)]) (.tup [(.idx (.var 4) (.var 5)), (.bin .add (.var 5) (.con (.int 1)))]),
     .for_ (.slot 7) (.pl (.bif .sorted [(.con (.str [117, 100, 108, 114]))])) [.asg (.slot 8) (.tup [(.idx (.idx (.var 0) (.var 7)) (.idx (.var 6) (.con (.int 0)))), (.idx (.idx (.var 0) (.var 7)) (.idx (.var 6) (.con (.int 1))))]),
       .ite (.val (.cmp .ne (.cmp .eq (.idx (.var 8) (.con (.int 0))) (.idx (.var 6) (.con (.int 0)))) (.cmp .eq (.idx (.var 8) (.con (.int 1))) (.idx (.var 6) (.con (.int 1)))))) [.ret (.bin .add (.idx (.var 3) (.var 6)) (.var 7))] [],
       .ite (.val (.cmp .nin (.var 8) (.var 3))) [.asub (.var 3) (.var 8) (.bin .add (.idx (.var 3) (.var 6)) (.var 7)),
         .expr (.mth .append (.var 4) [(.var 8)])] []]]) (vctx Ir.pr N Ir.orc k).fuel [some (.val (stepsV ps)), some (.val (.int (a : Nat))), some (.val (.int (b : Nat))), some (.own false (.dct [(prD (a, b), .str [])])), some (.own false (.lst [.tup [.int (a : Nat), .int (b : Nat)]])), some (.val (.int 0)), none, none, none] H = .ok r := e1
  rcases hr with ⟨v, e, rfl, hv⟩ | ⟨e, rfl, hv⟩
  · refine ⟨some v, ?_, hv⟩
    wp_walk using d0, e1', len_le1 (n := 2) (by decide), len_le1 (n := 1) (by decide), len_le1 (n := 1 + 1) (by decide), len_le1 (n := 1 + 1 + 1) (by decide)
    rfl
  · refine ⟨none, ?_, hv⟩
    wp_walk using d0, e1', len_le1 (n := 2) (by decide), len_le1 (n := 1) (by decide), len_le1 (n := 1 + 1) (by decide), len_le1 (n := 1 + 1 + 1) (by decide), s_ret
    rfl
end

section
open Fw Bf
open PySem (Str PyData NestedKey)
variable {N k : Nat} {H : List V} {ps : List Pl}
theorem goal_in {i c : Nat} (h : Sgn c) : inV (.str [c]) (.dct (goalD ps i)) = some (nbr ps (dir c) i).isSome := by
  rw [in_dct str1_toD (goalD_dk ps i) (str1_kf h.lt), goalD_lk ps i h, Option.isSome_map]
theorem goal_nx {i c : Nat} (h : Sgn c) : mthV .get (.dct (goalD ps i)) [.str [c], .int (i : Nat)] = some (.int (nx ps c i : Nat)) := by
  rw [goal_get h]
  cases e : nbr ps (dir c) i with
  | none => rw [nx_none e]; rfl
  | some j => rw [nx_some e]; rfl
theorem g2_nbr (nd : ps.Nodup) {c : Nat} (h : Sgn c) (p : Nat × Nat) : ((nbr ps (dir c) p.1).isSome != (nbr ps (dir c) p.2).isSome) = g2 ps p c := by
  unfold g2
  have key : ∀ i, decide (nx ps c i = i) = !(nbr ps (dir c) i).isSome := fun i => by
    have := nx_self (i := i) nd h
    cases e : nbr ps (dir c) i with
    | none => rw [nx_none e]; simp
    | some j =>
      have : ¬ nx ps c i = i := by rw [nx_some e]; exact nbr_ne nd h e
      simp [this]
  rw [key, key]
  cases (nbr ps (dir c) p.1).isSome <;> cases (nbr ps (dir c) p.2).isSome <;> rfl
def tv (_ : (Nat × Nat) × List Nat) : V := .bl true
def lineV (x : (Nat × Nat) × List Nat) : V := .tup [prV x.1, .str x.2]
def lpBody : List S := [.ite (.val (.cmp .ne (.cmp .in_ (.var 9) (.idx (.var 0) (.var 6))) (.cmp .in_ (.var 9) (.idx (.var 0) (.var 7))))) [.ret (.bin .add (.var 8) (.var 9))] [],
       .asg (.slot 10) (.tup [(.mth .get (.idx (.var 0) (.var 6)) [(.var 9), (.var 6)]), (.mth .get (.idx (.var 0) (.var 7)) [(.var 9), (.var 7)])]),
       .ite (.val (.cmp .nin (.var 10) (.var 4))) [.asub (.var 4) (.var 10) (.con (.bl true)),
         .expr (.mth .append (.var 3) [(.tup [(.var 10), (.bin .add (.var 8) (.var 9))])])] []]
abbrev lenv (ps : List Pl) (x y : V) (Q : WQ) (at_ : Nat) (h t w s l : Option Sl) : VEnv := [some (.val (goalsV ps)), some (.val x), some (.val y), some (.own false (.lst (Q.map lineV))), some (.own false (.dct (encD prD tv Q))), some (.val (.int (at_ : Nat))), h, t, w, s, l]
theorem lp_turn {C : VCtx} (nd : ps.Nodup) {a b : Nat} (ha : a < ps.length) (hb : b < ps.length) (pl : ps.length ≤ 144) {x y : V} {at_ at2 : Nat} {Q : WQ} {p : Nat × Nat} {w : List Nat} (hI : BI ps a b at_ [] SG Q) (hq : Q[at_]? = some (p, w)) {s t : Option Sl} :
    ∃ r, forV (.slot 9) (evSs C lpBody) (SG.map fun c => V.str [c]) (lenv ps x y Q at2 (some (.val (.int (p.1 : Nat)))) (some (.val (.int (p.2 : Nat)))) (some (.val (.str w))) s t) H = .ok r ∧ ((∃ v e, r = (.ret (.str v), e, H) ∧ Least (d2 ps) (g2 ps) SG (a, b) v) ∨ ∃ Q' s t, r = (.next, lenv ps x y Q' at2 (some (.val (.int (p.1 : Nat)))) (some (.val (.int (p.2 : Nat)))) (some (.val (.str w))) s t, H) ∧ BI ps a b at_ SG [] Q' ∧ at_ < Q'.length) := by
  refine forV_map _ _ (fun done env H' => H' = H ∧ ∃ cs Q' s t, env = lenv ps x y Q' at2 (some (.val (.int (p.1 : Nat)))) (some (.val (.int (p.2 : Nat)))) (some (.val (.str w))) s t ∧ BI ps a b at_ done cs Q' ∧ Q'[at_]? = some (p, w)) _ ?_ ?_ ?_
  · rintro done c rest env H' hd ⟨rfl, cs, Q', s, t, rfl, h, hq⟩
    have hs := h.sig
    rw [← hd] at hs
    obtain rfl := List.append_cancel_left hs
    refine ⟨_, at_s, ?_⟩
    have hc : Sgn c := sg_iff.1 (by rw [← hd]; simp)
    have mq := List.mem_of_getElem? hq
    have hl := h.len (allPr ps.length) fun u _ => run2_mem ha hb u
    rw [allPr_len] at hl
    have hl2 : Q'.length ≤ 20736 := Nat.le_trans hl (Nat.mul_le_mul pl pl)
    have wl := h.wl _ _ hq
    have al := (List.getElem?_eq_some_iff.1 hq).1
    have wl : w.length ≤ 20736 := by have : w.length ≤ at_ := wl; omega
    have pm : p ∈ allPr ps.length := by have := run2_mem ha hb w; rwa [show run (d2 ps) (a, b) w = p from (h.path _ mq).1] at this
    have p1 : p.1 < ps.length := by
      unfold allPr at pm
      obtain ⟨a, h1, h2⟩ := List.mem_flatMap.1 pm
      obtain ⟨b, h3, h4⟩ := List.mem_map.1 h2
      rw [← h4]; exact List.mem_range.1 h1
    have p2 : p.2 < ps.length := by
      unfold allPr at pm
      obtain ⟨a, h1, h2⟩ := List.mem_flatMap.1 pm
      obtain ⟨b, h3, h4⟩ := List.mem_map.1 h2
      rw [← h4]; exact List.mem_range.1 h3
    have le := len_le1 (n := w.length + 1) (by omega)
    have l2 := len_le1 (n := 2) (by decide)
    have gg := g2_nbr nd hc p
    unfold lpBody
    cases hg : g2 ps p c with
    | true =>
      rw [hg] at gg
      wp_walk using goal_at p1, goal_at p2, goal_in hc, c_nebb, gg, le, s_ret
      exact .inl ⟨_, _, rfl, h.goal hq hg sg_srt⟩
    | false =>
      rw [hg] at gg
      by_cases hm : ∃ x ∈ Q', x.1 = d2 ps p c
      · have n1 : inV (.tup [.int (nx ps c p.1 : Nat), .int (nx ps c p.2 : Nat)]) (.dct (encD prD tv Q')) = some true := in_enc_t (q := d2 ps p c) h.nd hm
        wp_walk using goal_at p1, goal_at p2, goal_in hc, c_nebb, gg, goal_nx hc, l2, n1
        exact ⟨rest, Q', _, _, rfl, h.old hq hg hm sg_srt, hq⟩
      · have hm : ∀ x ∈ Q', x.1 ≠ d2 ps p c := fun x m e => hm ⟨x, m, e⟩
        have n1 : inV (.tup [.int (nx ps c p.1 : Nat), .int (nx ps c p.2 : Nat)]) (.dct (encD prD tv Q')) = some false := in_enc_f (q := d2 ps p c) hm
        have s1 : setV (.own false (.dct (encD prD tv Q'))) (.tup [.int (nx ps c p.1 : Nat), .int (nx ps c p.2 : Nat)]) (.bl true) H' = some (.own false (.dct (encD prD tv (Q' ++ [(d2 ps p c, w ++ [c])]))), H') := set_enc (f := tv) (q := d2 ps p c) (b := w ++ [c]) hm (by omega)
        have sb : ∀ {env : VEnv} {s : Sl} {a b c d : Option Sl} {x : V} {a' : E}, kSub1 C (a :: b :: c :: d :: some s :: env) 4 a' (x, H') = (evE C a' (a :: b :: c :: d :: some s :: env) H').bind (kSub2 (a :: b :: c :: d :: some s :: env) 4 x s) := s_sub1 rfl
        wp_walk using goal_at p1, goal_at p2, goal_in hc, c_nebb, gg, goal_nx hc, l2, n1, le, s1, sb, List.length_map, len_lt1 (n := Q'.length) (by omega)
        refine ⟨rest, Q' ++ [(d2 ps p c, w ++ [c])], some (.val (.str [c])), some (.val (.tup [.int (nx ps c p.1 : Nat), .int (nx ps c p.2 : Nat)])), ?_, h.new hq hg hm sg_srt, by rw [List.getElem?_append_left (by omega)]; exact hq⟩
        unfold lenv
        rw [List.map_append]
        rfl
  · rintro env H' ⟨rfl, cs, Q', s, t, rfl, h, hq⟩
    have hs := h.sig
    have : cs = [] := by
      have := congrArg List.length hs
      rw [List.length_append] at this
      exact List.length_eq_zero_iff.1 (by omega)
    subst this
    exact .inr ⟨Q', s, t, rfl, h, (List.getElem?_eq_some_iff.1 hq).1⟩
  · exact ⟨rfl, SG, Q, s, t, rfl, hI, hq⟩
theorem law_parting_v (hN : 30000 ≤ N) (nd : ps.Nodup) {a b : Nat} (ha : a < ps.length) (hb : b < ps.length) (pl : ps.length ≤ 144) : ∃ o, cv N (k + 1) Ir.f__law_parting [goalsV ps, .int (a : Nat), .int (b : Nat)] H = .ok (optV o, H) ∧ PartIs ps a b o := by
  unfold cv
  rw [run_v (p := 3) (n := 11) rfl rfl rfl]
  obtain ⟨r, e1, hr⟩ := whileV_ex (g := evB (vctx Ir.pr N Ir.orc k) (.val (.cmp .lt (.var 5) (.bif .len [(.var 3)])))) (f := evSs (vctx Ir.pr N Ir.orc k) [.asg (.tup [(.tup [(.slot 6), (.slot 7)]), (.slot 8)]) (.idx (.var 3) (.var 5)),
     .asg (.slot 5) (.bin .add (.var 5) (.con (.int 1))),
     .for_ (.slot 9) (.pl (.con (.str [100, 108, 114, 117]))) lpBody]) (fun m env H' => H' = H ∧ ∃ at_ Q h t w s l, env = lenv ps (.int (a : Nat)) (.int (b : Nat)) Q at_ h t w s l ∧ BI ps a b at_ [] SG Q ∧ at_ ≤ Q.length ∧ m + at_ = 20737)
    (fun r => (∃ v e, r = (.ret (.str v), e, H) ∧ Least (d2 ps) (g2 ps) SG (a, b) v) ∨ ∃ e, r = (.next, e, H) ∧ PartIs ps a b none) (by
      rintro m env H' ⟨rfl, at_, Q, h, t, w, s, l, rfl, hI, hl, hm⟩
      have hlen := hI.len (allPr ps.length) fun u _ => run2_mem ha hb u
      rw [allPr_len] at hlen
      have hl2 : Q.length ≤ 20736 := Nat.le_trans hlen (Nat.mul_le_mul pl pl)
      by_cases q : at_ < Q.length
      · have q' : (at_ : Int) < (Q.length : Int) := by omega
        obtain ⟨⟨p, w'⟩, hq⟩ : ∃ y, Q[at_]? = some y := ⟨Q[at_], by simp⟩
        have i4 : hidx (.lst (Q.map lineV)) (.int (at_ : Nat)) H' = .ok (.tup [.tup [.int (p.1 : Nat), .int (p.2 : Nat)], .str w'], H') := hx_lst (by rw [List.getElem?_map, hq]; rfl)
        obtain ⟨r, e, hr⟩ := lp_turn (C := vctx Ir.pr N Ir.orc k) (H := H') nd ha hb pl (x := .int (a : Nat)) (y := .int (b : Nat)) (at2 := at_ + 1) hI hq (s := s) (t := l)
        have e' : forV (.slot 9) (evSs (vctx Ir.pr N Ir.orc k) lpBody) (SG.map fun c => V.str [c]) [some (.val (goalsV ps)), some (.val (.int (a : Nat))), some (.val (.int (b : Nat))), some (.own false (.lst (Q.map lineV))), some (.own false (.dct (encD prD tv Q))), some (.val (.int ((at_ : Int) + 1))), some (.val (.int (p.1 : Nat))), some (.val (.int (p.2 : Nat))), some (.val (.str w')), s, l] H' = .ok r := e
        wp_walk using List.length_map, q', i4, show signsV [100, 108, 114, 117] = SG.map (fun c => V.str [c]) from rfl, e'
        rcases hr with ⟨v, e2, rfl, hv⟩ | ⟨Q', s', t', rfl, hI', hl'⟩
        · wp_walk
          exact .inl ⟨v, _, rfl, hv⟩
        · wp_walk
          exact ⟨m - 1, by omega, at_ + 1, Q', _, _, _, _, _, rfl, hI'.next, by omega, by omega⟩
      · have q' : ¬ (at_ : Int) < (Q.length : Int) := by omega
        wp_walk using List.length_map, q'
        exact .inr ⟨_, rfl, fun u c ok mc => hI.none (by omega) u c ok mc⟩) N 20737 (lenv ps (.int (a : Nat)) (.int (b : Nat)) [((a, b), [])] 0 none none none none none) H (by omega) ⟨rfl, 0, _, _, _, _, _, _, rfl, BInv.init, by simp, by omega⟩
  have d0 : kDct ([.tup [.int (a : Nat), .int (b : Nat)], .bl true], H) = .ok (.dct [(prD (a, b), .bl true)], H) := dct1 (p := (a, b))
  unfold lpBody at e1
  have e1' : whileV (evB (vctx Ir.pr N Ir.orc k) (.val (.cmp .lt (.var 5) (.bif .len [(.var 3)])))) _ (vctx Ir.pr N Ir.orc k).fuel [some (.val (goalsV ps)), some (.val (.int (a : Nat))), some (.val (.int (b : Nat))), some (.own false (.lst [.tup [.tup [.int (a : Nat), .int (b : Nat)], .str []]])), some (.own false (.dct [(prD (a, b), .bl true)])), some (.val (.int 0)), none, none, none, none, none] H = .ok r := e1
  rcases hr with ⟨v, e, rfl, hv⟩ | ⟨e, rfl, hv⟩
  · refine ⟨some v, ?_, hv⟩
    wp_walk using d0, e1', len_le1 (n := 2) (by decide), len_le1 (n := 1) (by decide), len_le1 (n := 1 + 1) (by decide), len_le1 (n := 1 + 1 + 1) (by decide)
    rfl
  · refine ⟨none, ?_, hv⟩
    wp_walk using d0, e1', len_le1 (n := 2) (by decide), len_le1 (n := 1) (by decide), len_le1 (n := 1 + 1) (by decide), len_le1 (n := 1 + 1 + 1) (by decide), s_ret
    rfl
/-! ### one word for both -/
section
variable (nd : ps.Nodup) {a b : Nat} (ha : a < ps.length) (hb : b < ps.length) (pl : ps.length ≤ 144)
include nd ha hb pl
theorem part_is : PartIs ps a b (part ps a b) := by
  obtain ⟨o, _, e⟩ := parting_v (N := 30000) (k := 0) (H := []) (Nat.le_refl _) ha hb pl
  rw [part_of e]; exact e
theorem part_symm : part ps b a = part ps a b := PartIs.uniq (part_is nd hb ha pl) (part_is nd ha hb pl).swap
theorem parting_p (hN : 30000 ≤ N) : cv N (k + 1) Ir.f_parting_word [stepsV ps, .int (a : Nat), .int (b : Nat)] H = .ok (optV (part ps a b), H) := by
  obtain ⟨o, e, h⟩ := parting_v (N := N) (k := k) (H := H) hN ha hb pl
  rw [e, h.uniq (part_is nd ha hb pl)]
theorem law_parting_p (hN : 30000 ≤ N) : cv N (k + 1) Ir.f__law_parting [goalsV ps, .int (a : Nat), .int (b : Nat)] H = .ok (optV (part ps a b), H) := by
  obtain ⟨o, e, h⟩ := law_parting_v (N := N) (k := k) (H := H) hN nd ha hb pl
  rw [e, h.uniq (part_is nd ha hb pl)]
theorem told_v {f : V} (F : IsFloor ps f) (hN : 30000 ≤ N) : cv N (k + 5) Ir.f_told_apart [f, .int (a : Nat), .int (b : Nat)] H = .ok (optV (part ps a b), H) := by
  have e1 := check_cell_v (N := N) (k := k) (H := H) F ha
  have e2 := check_cell_v (N := N) (k := k) (H := H) F hb
  have e3 := steps_v (N := N) (k := k + 3) (H := H) F nd (by omega)
  have e4 := parting_p (N := N) (k := k + 3) (H := H) nd ha hb pl hN
  unfold cv at e1 e2 e3 e4 ⊢
  rw [run_v (p := 3) (n := 3) rfl rfl rfl]
  wp_walk using e1, e2, e3, e4, s_ret
end
end

section
open Fw Bf
open PySem (Str PyData NestedKey)
variable {N k : Nat} {H : List V} {ps : List Pl}
theorem bif_leng : bif1V .len (goalsV ps) = some (.int ps.length) := by unfold goalsV; rw [bif_lenl, List.length_map, List.length_range]
theorem feel_ch : ∀ (w : List Nat) (i : Nat), ∀ c ∈ (feelW ps w i).1, c < 1114112
  | [], i, c, m => by cases m
  | d :: w, i, c, m => by
    rw [feelW, List.mem_cons] at m
    rcases m with rfl | m
    · unfold fl; split <;> decide
    · exact feel_ch w _ c m
def strOk (s : List Nat) : Prop := ∀ c ∈ s, c < 1114112
theorem str_pv {s : List Nat} (h : strOk s) : pv (.str s) = true := by
  rw [pv, List.all_eq_true]; exact fun c m => decide_eq_true (h c m)
theorem strFit {s : List Nat} (h : strOk s) : Fit (.str s) := ⟨str_pv h, by simp [dv]⟩
def feelV (r : List Nat × Nat) : V := .tup [.str r.1, .int (r.2 : Nat)]
theorem feelV_fit {r : List Nat × Nat} (h : strOk r.1) : Fit (feelV r) := ⟨by unfold feelV; rw [pv, pvs, str_pv h]; rfl, by simp [feelV, dv, dvs]⟩
theorem sgn_ok {w : List Nat} (h : ∀ c ∈ w, Sgn c) : Ok SG w := fun c m => sg_iff.2 (h c m)
theorem repr_two {x : V} (p : Fit x) (s : shv x = true) (b : blv x ≤ 500000) : bif1V .repr (.lst [x, x]) = some (.str (rpv [x, x])) := by
  refine repr_pv ?_ ?_ ?_ ?_
  · simp only [pvs, p.1]; rfl
  · simp only [shvs, s]; rfl
  · simp only [dvs]; have := p.2; omega
  · simp only [blvs]; omega
theorem fit_two {x : V} (p : Fit x) : Fit (.str (rpv [x, x])) := rpv_fit (by simp only [pvs, p.1]; rfl)
section
variable (nd : ps.Nodup) (n1 : 1 ≤ ps.length) (pl : ps.length ≤ 144) {f : V} (F : IsFloor ps f)
include nd n1 pl F
theorem felt_right_v (h : HandOk H) : ∃ H', cv N (k + 6) Ir.f__law_is_felt_right [.hand, f, goalsV ps] H = .ok (.bl true, H') ∧ HandOk H' := by
  obtain ⟨i, H1, e1, l1, h1⟩ := draw_n (N := N) (k := k + 4) h (n := ps.length) n1 (by omega)
  obtain ⟨w, H2, e2, l2, c2, h2⟩ := word_v (N := N) (k := k + 2) h1 (most := 30) (by decide)
  have e3 := law_feel_v (N := N) (k := k + 4) (H := H2) nd c2 (by omega) l1
  have e4 := felt_v (N := N) (k := k) (H := H2) F nd (by omega) c2 (by omega) l1
  obtain ⟨at_, H3, e5, l5, h3⟩ := draw_n (N := N) (k := k + 4) h2 (n := w.length + 1) (by omega) (by omega)
  have e6 := felt_v (N := N) (k := k) (H := H3) F nd (by omega) (w := w.take at_) (fun c m => c2 c (List.mem_of_mem_take m)) (by rw [List.length_take]; omega) l1
  have e7 := felt_v (N := N) (k := k) (H := H3) F nd (by omega) (w := w.drop at_) (fun c m => c2 c (List.mem_of_mem_drop m)) (by rw [List.length_drop]; omega) (feel_lt (w.take at_) i l1)
  have e8 := felt_v (N := N) (k := k) (H := H3) F nd (by omega) (w := []) (fun c m => by cases m) (by simp) l1
  have fa := feel_app (ps := ps) (w.take at_) (w.drop at_) i
  rw [List.take_append_drop] at fa
  refine ⟨H3, ?_, h3⟩
  have f1 : Fit (.tup [.str (feelW ps w i).1, .int ((feelW ps w i).2 : Nat)]) := feelV_fit (feel_ch w i)
  have f0 : Fit (.tup [.str [], .int (i : Nat)]) := feelV_fit (r := ([], i)) (fun c m => by cases m)
  have lt := feel_lt (ps := ps) w i l1
  have r1 := repr_two f1 (by simp only [shv, shvs, decide_eq_true_eq, Bool.and_true, Bool.true_and]; omega) (by simp only [blv, blvs, feel_len]; omega)
  have f2 := fit_two f1
  have q2 := c_ne f2 f2
  have q3 := c_eq f1 f1
  have q4 := c_eq f0 f0
  rw [decide_eq_true rfl] at q2 q3 q4
  unfold cv at e1 e2 e3 e4 e5 e6 e7 e8 ⊢
  rw [run_v (p := 3) (n := 9) rfl rfl rfl]
  have e2' : callV Ir.pr N Ir.orc (k + 5) Ir.f__law_word [.hand, .int 30] H1 = .ok (.str w, H2) := e2
  have e5' : callV Ir.pr N Ir.orc (k + 5) Ir.f__law_draw [.hand, .int ((w.length : Int) + 1)] H2 = .ok (.int (at_ : Nat), H3) := e5
  have ct : cut w none (some (at_ : Int)) = w.take at_ := cut_to w at_
  have cf : cut w (some (at_ : Int)) none = w.drop at_ := cut_from w at_
  have add : binV .add (.str (feelW ps (w.take at_) i).1) (.str (feelW ps (w.drop at_) (feelW ps (w.take at_) i).2).1) = some (.str (feelW ps w i).1) := by
    rw [b_adds, fa]
    have : (feelW ps (w.take at_) i).1.length + (feelW ps (w.drop at_) (feelW ps (w.take at_) i).2).1.length ≤ lim := by
      rw [feel_len, feel_len, List.length_take, List.length_drop]; unfold lim; omega
    rw [decide_eq_true this]; rfl
  have e7' : callV Ir.pr N Ir.orc (k + 5) Ir.f_felt [f, .int ((feelW ps (w.take at_) i).2 : Nat), .str (w.drop at_)] H3 = .ok (.tup [.str (feelW ps (w.drop at_) (feelW ps (w.take at_) i).2).1, .int ((feelW ps w i).2 : Nat)], H3) := by rw [e7, fa]
  have e8' : callV Ir.pr N Ir.orc (k + 5) Ir.f_felt [f, .int (i : Nat), .str []] H3 = .ok (.tup [.str [], .int (i : Nat)], H3) := e8
  wp_walk using bif_leng, e1, e2', e3, e4, r1, q2, bif_lens (s := w) (by unfold lim; omega), e5', e6, e7', e8', sl_str (s := w) (by omega), ct, cf, add, q3, q4, len_le1 (n := 2) (by decide), len_le1 (n := 1 + 1) (by decide), s_ret
theorem apart_right_v (hN : 30000 ≤ N) (h : HandOk H) : ∃ H', cv N (k + 6) Ir.f__law_is_apart_right [.hand, f, goalsV ps] H = .ok (.bl true, H') ∧ HandOk H' := by
  obtain ⟨a, H1, e1, la, h1⟩ := draw_n (N := N) (k := k + 4) h (n := ps.length) n1 (by omega)
  obtain ⟨b, H2, e2, lb, h2⟩ := draw_n (N := N) (k := k + 4) h1 (n := ps.length) n1 (by omega)
  have e3 := law_parting_p (N := N) (k := k + 4) (H := H2) nd la lb pl hN
  have e4 := told_v (N := N) (k := k) (H := H2) nd la lb pl F hN
  have e5 := told_v (N := N) (k := k) (H := H2) nd lb la pl F hN
  rw [part_symm nd la lb pl] at e5
  have hp := part_is nd la lb pl
  have run := run_v (P := Ir.pr) (N := N) (O := Ir.orc) (k := k + 5) (f := Ir.f__law_is_apart_right) (as := [.hand, f, goalsV ps]) (H := H) (p := 3) (n := 9) rfl rfl rfl
  have two := len_le1 (n := 2) (by decide)
  have two' := len_le1 (n := 1 + 1) (by decide)
  cases hpo : part ps a b with
  | none =>
    rw [hpo] at e3 e4 e5 hp
    obtain ⟨w, H3, e6, l6, c6, h3⟩ := word_v (N := N) (k := k + 2) h2 (most := 12) (by decide)
    have e7 := felt_v (N := N) (k := k) (H := H3) F nd (by omega) c6 (by omega) la
    have e8 := felt_v (N := N) (k := k) (H := H3) F nd (by omega) c6 (by omega) lb
    have eq := hp.none_eq w (sgn_ok c6)
    have q1 := c_eq (strFit (feel_ch (ps := ps) w b)) (strFit (feel_ch (ps := ps) w b))
    have r1 := repr_two Fit.non (by simp [shv]) (by simp [blv])
    have q2 := c_ne (fit_two Fit.non) (fit_two Fit.non)
    rw [decide_eq_true rfl] at q1 q2
    unfold eqW at eq
    rw [eq] at e7
    refine ⟨H3, ?_, h3⟩
    unfold cv at e1 e2 e3 e4 e5 e6 e7 e8 ⊢
    rw [run]
    have on : optV none = .non := rfl
    rw [on] at e3 e4 e5
    have e6' : callV Ir.pr N Ir.orc (k + 5) Ir.f__law_word [.hand, .int 12] H2 = .ok (.str w, H3) := e6
    wp_walk using bif_leng, e1, e2, e3, e4, e5, r1, q2, e6', e7, e8, q1, two, two', s_ret
  | some r =>
    rw [hpo] at e3 e4 e5 hp
    have hL : Least (d2 ps) (g2 ps) SG (a, b) r := hp
    have mo := moore la lb hL
    obtain ⟨u, c, er, o1, o2, o3⟩ := hL.is
    have or : Ok SG r := by rw [er]; exact (ok_snoc SG).2 ⟨o1, o2⟩
    have cr : ∀ c ∈ r, Sgn c := fun c m => sg_iff.1 (or c m)
    have r0 : 1 ≤ r.length := by rw [er]; simp
    obtain ⟨w, H3, e6, l6, c6, h3⟩ := word_v (N := N) (k := k + 2) h2 (most := r.length - 1) (by omega)
    have e7 := felt_v (N := N) (k := k) (H := H2) F nd (by omega) cr (by omega) la
    have e8 := felt_v (N := N) (k := k) (H := H2) F nd (by omega) cr (by omega) lb
    have e9 := felt_v (N := N) (k := k) (H := H3) F nd (by omega) c6 (by omega) la
    have e10 := felt_v (N := N) (k := k) (H := H3) F nd (by omega) c6 (by omega) lb
    have ls := Least.last hL
    have sh := Least.short hL w (sgn_ok c6) (by omega)
    unfold eqW at sh
    rw [sh] at e9
    have so : strOk r := fun c m => (cr c m).lt
    have r1 := repr_two (strFit so) (by simp [shv]) (by simp only [blv]; omega)
    have q2 := c_ne (fit_two (strFit so)) (fit_two (strFit so))
    have q3 := c_eq (strFit (feel_ch (ps := ps) w b)) (strFit (feel_ch (ps := ps) w b))
    have dk : ∀ i, strOk (feelW ps r i).1.dropLast := fun i c m => feel_ch r i c (List.dropLast_subset _ m)
    have q4 := c_ne (strFit (dk b)) (strFit (dk b))
    have q5 := c_eq (strFit (feel_ch (ps := ps) r a)) (strFit (feel_ch (ps := ps) r b))
    rw [decide_eq_true rfl] at q2 q3 q4
    have ne : ¬ V.str (feelW ps r a).1 = V.str (feelW ps r b).1 := fun z => ls.2 (V.str.inj z)
    rw [decide_eq_false ne] at q5
    refine ⟨H3, ?_, h3⟩
    unfold cv at e1 e2 e3 e4 e5 e6 e7 e8 e9 e10 ⊢
    rw [run]
    have on : optV (some r) = .str r := rfl
    rw [on] at e3 e4 e5
    have e6' : callV Ir.pr N Ir.orc (k + 5) Ir.f__law_word [.hand, .int ((r.length : Int) - 1)] H2 = .ok (.str w, H3) := by
      rw [show (r.length : Int) - 1 = ((r.length - 1 : Nat) : Int) from by omega]; exact e6
    have nn : ¬ V.str r = V.non := fun z => by cases z
    have ca := cut_butlast (feelW ps r a).1
    have cb := cut_butlast (feelW ps r b).1
    rw [ls.1] at ca
    have la1 : (feelW ps r a).1.length ≤ 1000000 := by rw [feel_len]; omega
    have lb1 : (feelW ps r b).1.length ≤ 1000000 := by rw [feel_len]; omega
    have g1 : ¬ (ps.length : Int) ≤ r.length := by omega
    have g2 : ¬ (r.length : Int) ≤ w.length := by omega
    wp_walk using bif_leng, e1, e2, e3, e4, e5, r1, q2, nn, e7, e8, sl_str la1, sl_str lb1, ca, cb, q4, q5, bif_lens (s := r) (by unfold lim; omega), g1, e6', bif_lens (s := w) (by unfold lim; omega), g2, e9, e10, q3, two, two', s_ret
end
end

section
open Fw Bf
open PySem (Str PyData NestedKey)
variable {N k : Nat} {H : List V} {ps : List Pl}
def listV (l : List Nat) : V := .lst (l.map fun i => V.int (i : Nat))
theorem listV_fit (l : List Nat) : Fit (listV l) := by
  refine ⟨?_, ?_⟩
  · unfold listV; rw [pv]; exact pvs_iff.2 fun d m => by obtain ⟨i, _, rfl⟩ := List.mem_map.1 m; simp [pv]
  · unfold listV; rw [dv]
    have : dvs (l.map fun i => V.int (i : Nat)) ≤ 0 := dvs_le.2 fun d m => by obtain ⟨i, _, rfl⟩ := List.mem_map.1 m; simp [dv]
    omega
theorem listV_inj {l m : List Nat} (h : listV l = listV m) : l = m := mapI_inj (V.lst.inj h)
theorem lots_len (E : Nat → Nat → Bool) : ∀ n, (lotsN E n).length ≤ n
  | 0 => Nat.le_refl _
  | n + 1 => by
    unfold lotsN addC
    rw [List.length_append, List.length_map]
    have := lots_len E n
    split
    · simp; omega
    · simp; omega
theorem lot_len (E : Nat → Nat → Bool) : ∀ n, ∀ l ∈ lotsN E n, l.length ≤ n
  | 0, l, m => by cases m
  | n + 1, l, m => by
    unfold lotsN addC at m
    rw [List.mem_append] at m
    rcases m with m | m
    · obtain ⟨x, mx, rfl⟩ := List.mem_map.1 m
      have := lot_len E n x mx
      split
      · simp; omega
      · omega
    · split at m
      · cases m
      · rw [List.mem_singleton] at m; subst m; simp
/-- the lots of the cells, one cell more -/
theorem lots_turn (nd : ps.Nodup) (pl : ps.length ≤ 144) (hN : 30000 ≤ N) {a b c d e : Option Sl} {x9 x10 y8 : Option Sl} {n : Nat} (hn : n < ps.length) :
    ∃ y, evSs (vctx Ir.pr N Ir.orc (k + 1)) [.asg (.slot 8) (.lc (.var 10) (.slot 10) (.pl (.var 6)) [(.val (.cmp .isn (.call Ir.f__law_parting [(.var 4), (.idx (.var 10) (.con (.int 0))), (.var 7)]) (.con .non)))] [10]),
     .asg (.slot 6) (.bin .add (.lc (.ite (.val (.cmp .in_ (.var 10) (.var 8))) (.bin .add (.var 10) (.lst [(.var 7)])) (.var 10)) (.slot 10) (.pl (.var 6)) [] [10]) (.ite (.val (.cmp .gt (.bif .len [(.var 8)]) (.con (.int 0)))) (.lst []) (.lst [(.lst [(.var 7)])])))] [a, b, c, d, some (.val (goalsV ps)), e, some (.own false (.lst ((lotsN (alike ps) n).map listV))), some (.val (.int (n : Nat))), y8, x9, x10] H = .ok (.next, [a, b, c, d, some (.val (goalsV ps)), e, some (.own false (.lst ((lotsN (alike ps) (n + 1)).map listV))), some (.val (.int (n : Nat))), y, x9, x10], H) := by
  have lo := lotsN_ok (E := alike ps) n
  have ll := lots_len (alike ps) n
  have lc1 : lcV (fLc (vctx Ir.pr N Ir.orc (k + 1)) (.var 10) (.slot 10) [(.val (.cmp .isn (.call Ir.f__law_parting [(.var 4), (.idx (.var 10) (.con (.int 0))), (.var 7)]) (.con .non)))] [10] [a, b, c, d, some (.val (goalsV ps)), e, some (.own false (.lst ((lotsN (alike ps) n).map listV))), some (.val (.int (n : Nat))), y8, x9, x10]) ((lotsN (alike ps) n).map listV) H = .ok (((lotsN (alike ps) n).filter fun lot => alike ps (hd lot) n).map listV, H) := by
    refine lcV_fil listV (fun lot => alike ps (hd lot) n) listV _ fun lot m => ?_
    rw [s_flc (e2 := [a, b, c, d, some (.val (goalsV ps)), e, some (.own false (.lst ((lotsN (alike ps) n).map listV))), some (.val (.int (n : Nat))), y8, x9, some (.val (listV lot))]) (by wp_walk)]
    have hne := lo.ne lot m
    have hh : hd lot < ps.length := by have := lo.lt lot m _ (hd_mem hne); omega
    have i0 : hidx (listV lot) (.int 0) H = .ok (.int (hd lot : Nat), H) := by
      cases lot with
      | nil => exact (hne rfl).elim
      | cons x lot => exact hx_lst (n := 0) rfl
    have e1 := law_parting_p (N := N) (k := k) (H := H) nd hh hn pl hN
    unfold cv at e1
    have dn : decide (optV (part ps (hd lot) n) = V.non) = alike ps (hd lot) n := by
      unfold alike
      cases part ps (hd lot) n with
      | none => simp [optV]
      | some r => simp [optV]
    cases q : alike ps (hd lot) n with
    | true =>
      rw [q] at dn
      wp_walk using i0, e1, dn
      all_goals simp
    | false =>
      rw [q] at dn
      wp_walk using i0, e1, dn
      all_goals simp
  have fl : ((lotsN (alike ps) n).filter fun lot => alike ps (hd lot) n).length ≤ 1000000 := by
    have := List.length_filter_le (fun lot => alike ps (hd lot) n) (lotsN (alike ps) n)
    omega
  have lc2 : lcV (fLc (vctx Ir.pr N Ir.orc (k + 1)) (.ite (.val (.cmp .in_ (.var 10) (.var 8))) (.bin .add (.var 10) (.lst [(.var 7)])) (.var 10)) (.slot 10) [] [10] [a, b, c, d, some (.val (goalsV ps)), e, some (.own false (.lst ((lotsN (alike ps) n).map listV))), some (.val (.int (n : Nat))), some (.own false (.lst (((lotsN (alike ps) n).filter fun lot => alike ps (hd lot) n).map listV))), x9, x10]) ((lotsN (alike ps) n).map listV) H = .ok (((lotsN (alike ps) n).map fun lot => if alike ps (hd lot) n then lot ++ [n] else lot).map listV, H) := by
    rw [lcV_map listV (fun lot => listV (if alike ps (hd lot) n then lot ++ [n] else lot)), List.map_map]
    · rfl
    · intro lot m
      rw [s_flc (e2 := [a, b, c, d, some (.val (goalsV ps)), e, some (.own false (.lst ((lotsN (alike ps) n).map listV))), some (.val (.int (n : Nat))), some (.own false (.lst (((lotsN (alike ps) n).filter fun lot => alike ps (hd lot) n).map listV))), x9, some (.val (listV lot))]) (by wp_walk)]
      have mm : inV (listV lot) (.lst (((lotsN (alike ps) n).filter fun lot => alike ps (hd lot) n).map listV)) = some (decide (listV lot ∈ ((lotsN (alike ps) n).filter fun lot => alike ps (hd lot) n).map listV)) := memV_pv (listV_fit lot) (pvs_iff.2 fun d m => by obtain ⟨i, _, rfl⟩ := List.mem_map.1 m; exact (listV_fit i).1) (dvs_le.2 fun d m => by obtain ⟨i, _, rfl⟩ := List.mem_map.1 m; exact (listV_fit i).2)
      have m2 : listV lot ∈ ((lotsN (alike ps) n).filter fun lot => alike ps (hd lot) n).map listV ↔ alike ps (hd lot) n = true := by
        rw [List.mem_map]
        constructor
        · rintro ⟨x, mx, e⟩
          rw [listV_inj e] at mx
          exact (List.mem_filter.1 mx).2
        · exact fun h => ⟨lot, List.mem_filter.2 ⟨m, h⟩, rfl⟩
      have l1 := lot_len (alike ps) n lot m
      have add : binV .add (listV lot) (.lst [.int (n : Nat)]) = some (listV (lot ++ [n])) := by
        unfold listV
        rw [b_addl, decide_eq_true (by simp; unfold lim; omega), List.map_append]; rfl
      by_cases q : alike ps (hd lot) n = true
      · have m3 := m2.2 q
        wp_walk using mm, m3, add, len_le1 (n := 1) (by decide), len_le1 (n := 0 + 1) (by decide)
        simp [q]
      · have m3 : ¬ listV lot ∈ ((lotsN (alike ps) n).filter fun lot => alike ps (hd lot) n).map listV := fun z => q (m2.1 z)
        wp_walk using mm, m3
        simp [q]
  have fin : ((lotsN (alike ps) (n + 1)).map listV) = ((lotsN (alike ps) n).map fun lot => if alike ps (hd lot) n then lot ++ [n] else lot).map listV ++ (if (lotsN (alike ps) n).any (fun lot => alike ps (hd lot) n) then ([] : List V) else [listV [n]]) := by
    show (addC (alike ps) (lotsN (alike ps) n) n).map listV = _
    unfold addC
    rw [List.map_append]
    congr 1
    split <;> rfl
  have ml : ((lotsN (alike ps) n).map fun lot => if alike ps (hd lot) n then lot ++ [n] else lot).length ≤ 1000000 := by rw [List.length_map]; omega
  refine ⟨some (.own false (.lst (((lotsN (alike ps) n).filter fun lot => alike ps (hd lot) n).map listV))), ?_⟩
  rw [fin]
  cases q : (lotsN (alike ps) n).any (fun lot => alike ps (hd lot) n) with
  | true =>
    have q2 : (0 : Int) < ((lotsN (alike ps) n).filter fun lot => alike ps (hd lot) n).length := by
      obtain ⟨x, mx, ex⟩ := List.any_eq_true.1 q
      have := List.length_pos_of_mem (List.mem_filter (p := fun lot => alike ps (hd lot) n).2 ⟨mx, ex⟩)
      omega
    have add : binV .add (.lst (((lotsN (alike ps) n).map fun lot => if alike ps (hd lot) n then lot ++ [n] else lot).map listV)) (.lst []) = some (.lst (((lotsN (alike ps) n).map fun lot => if alike ps (hd lot) n then lot ++ [n] else lot).map listV)) := by
      rw [b_addl, List.append_nil, List.length_map, len_le1 ml]; rfl
    wp_walk using lc1, List.length_map, len_le1 fl, lc2, len_le1 (n := (lotsN (alike ps) n).length) (by omega), q2, add, len_le1 (n := 0) (by decide)
    all_goals simp
  | false =>
    have q2 : ¬ (0 : Int) < ((lotsN (alike ps) n).filter fun lot => alike ps (hd lot) n).length := by
      have : (lotsN (alike ps) n).filter (fun lot => alike ps (hd lot) n) = [] := by
        rw [List.filter_eq_nil_iff]
        intro x mx z
        have : (lotsN (alike ps) n).any (fun lot => alike ps (hd lot) n) = true := List.any_eq_true.2 ⟨x, mx, z⟩
        rw [q] at this; cases this
      rw [this]; simp
    have add : binV .add (.lst (((lotsN (alike ps) n).map fun lot => if alike ps (hd lot) n then lot ++ [n] else lot).map listV)) (.lst [.lst [.int (n : Nat)]]) = some (.lst (((lotsN (alike ps) n).map fun lot => if alike ps (hd lot) n then lot ++ [n] else lot).map listV ++ [.lst [.int (n : Nat)]])) := by
      rw [b_addl, List.length_append, List.length_map, len_le1 (by simp; omega)]; rfl
    wp_walk using lc1, List.length_map, len_le1 fl, lc2, len_le1 (n := (lotsN (alike ps) n).length) (by omega), q2, add, len_le1 (n := 1) (by decide), len_le1 (n := 0 + 1) (by decide)
    all_goals simp [listV]
theorem right_v (hN : 30000 ≤ N) {rows : List (List Nat)} (F : FitR rows) (h : HandOk H) {many : Nat} (hm : many ≤ 100) (n1 : 1 ≤ (spots rows).length) : ∃ H', cv N (k + 12) Ir.f__law_is_right [.hand, rowsV rows, .int (many : Nat)] H = .ok (.bl true, H') ∧ HandOk H' := by
  have pl := F.spots_len
  have nd := spots_nodup rows
  have IF := floorV_is rows
  have e1 := floor_v (N := N) (k := k + 9) (H := H) F
  have e2 := goals_v (N := N) (k := k + 9) (H := H) F
  obtain ⟨r, e3, a, H1, rfl, h1⟩ := forV_ex (t := .slot 5) (f := evSs (vctx Ir.pr N Ir.orc (k + 11)) [.ite (.or (.not (.val (.call Ir.f__law_is_felt_right [(.var 0), (.var 3), (.var 4)]))) (.not (.val (.call Ir.f__law_is_apart_right [(.var 0), (.var 3), (.var 4)])))) [.ret (.con (.bl false))] []]) (fun _ env H' => HandOk H' ∧ ∃ a, env = [some (.val .hand), some (.val (rowsV rows)), some (.val (.int (many : Nat))), some (.val (floorV rows)), some (.val (goalsV (spots rows))), a, none, none, none, none, none]) (fun r => ∃ a H', r = (.next, [some (.val .hand), some (.val (rowsV rows)), some (.val (.int (many : Nat))), some (.val (floorV rows)), some (.val (goalsV (spots rows))), a, none, none, none, none, none], H') ∧ HandOk H') (by
    rintro x xs env H' ⟨h, a, rfl⟩
    refine ⟨_, at_s, ?_⟩
    obtain ⟨H2, e4, h2⟩ := felt_right_v (N := N) (k := k + 5) (H := H') nd n1 pl IF h
    obtain ⟨H3, e5, h3⟩ := apart_right_v (N := N) (k := k + 5) (H := H2) nd n1 pl IF hN h2
    unfold cv at e4 e5
    wp_walk using e4, e5
    exact ⟨h3, _, rfl⟩) (by
    rintro env H' ⟨h, a, rfl⟩
    exact ⟨a, H', rfl, h⟩) (rangeV 0 many) _ _ ⟨h, none, rfl⟩
  obtain ⟨r, e6, b, c, d, e, rfl⟩ := forV_map (t := .slot 7) (f := evSs (vctx Ir.pr N Ir.orc (k + 11)) [.asg (.slot 8) (.lc (.var 10) (.slot 10) (.pl (.var 6)) [(.val (.cmp .isn (.call Ir.f__law_parting [(.var 4), (.idx (.var 10) (.con (.int 0))), (.var 7)]) (.con .non)))] [10]),
     .asg (.slot 6) (.bin .add (.lc (.ite (.val (.cmp .in_ (.var 10) (.var 8))) (.bin .add (.var 10) (.lst [(.var 7)])) (.var 10)) (.slot 10) (.pl (.var 6)) [] [10]) (.ite (.val (.cmp .gt (.bif .len [(.var 8)]) (.con (.int 0)))) (.lst []) (.lst [(.lst [(.var 7)])])))]) (fun i => V.int (i : Nat)) (List.range (spots rows).length) (fun done env H' => H' = H1 ∧ ∃ b c d e, env = [some (.val .hand), some (.val (rowsV rows)), some (.val (.int (many : Nat))), some (.val (floorV rows)), some (.val (goalsV (spots rows))), a, some (.own false (.lst ((lotsN (alike (spots rows)) done.length).map listV))), b, c, d, e]) (fun r => ∃ b c d e, r = (.next, [some (.val .hand), some (.val (rowsV rows)), some (.val (.int (many : Nat))), some (.val (floorV rows)), some (.val (goalsV (spots rows))), a, some (.own false (.lst ((classesL (spots rows)).map listV))), b, c, d, e], H1)) (by
    rintro done i rest env H' hd ⟨rfl, b, c, d, e, rfl⟩
    have hi : (List.range (spots rows).length)[done.length]? = some i := by rw [← hd]; simp
    have hl : done.length < (spots rows).length := by have := (List.getElem?_eq_some_iff.1 hi).1; rwa [List.length_range] at this
    rw [List.getElem?_range hl] at hi
    cases hi
    refine ⟨_, at_s, ?_⟩
    obtain ⟨y, e7⟩ := lots_turn (k := k + 10) (H := H') (ps := spots rows) nd pl hN (a := some (.val .hand)) (b := some (.val (rowsV rows))) (c := some (.val (.int (many : Nat)))) (d := some (.val (floorV rows))) (e := a) (x9 := d) (x10 := e) (y8 := c) hl
    simp only [List.set_cons_succ, List.set_cons_zero]
    refine Rv.Is.of e7 ?_
    have e8 : (done ++ [done.length]).length = done.length + 1 := by rw [List.length_append, List.length_singleton]
    refine ⟨rfl, some (.val (.int (done.length : Nat))), y, d, e, ?_⟩
    dsimp only
    rw [e8]) (by
    rintro env H' ⟨rfl, b, c, d, e, rfl⟩
    refine ⟨b, c, d, e, ?_⟩
    rw [List.length_range]; rfl) (env := [some (.val .hand), some (.val (rowsV rows)), some (.val (.int (many : Nat))), some (.val (floorV rows)), some (.val (goalsV (spots rows))), a, some (.own false (.lst [])), none, none, none, none]) (H := H1) ⟨rfl, none, none, none, none, rfl⟩
  rw [← range0_map] at e6
  have lo := lotsN_ok (E := alike (spots rows)) (spots rows).length
  have cl : (classesL (spots rows)).length ≤ 144 := Nat.le_trans (lots_len _ _) pl
  have lc : lcV (fLc (vctx Ir.pr N Ir.orc (k + 11)) (.bif .tuple [(.var 10)]) (.slot 10) [] [10] [some (.val .hand), some (.val (rowsV rows)), some (.val (.int (many : Nat))), some (.val (floorV rows)), some (.val (goalsV (spots rows))), a, some (.own false (.lst ((classesL (spots rows)).map listV))), b, c, d, e]) ((classesL (spots rows)).map listV) H1 = .ok ((classesL (spots rows)).map tupV, H1) := by
    refine lcV_map listV tupV _ fun lot m => ?_
    rw [s_flc (e2 := [some (.val .hand), some (.val (rowsV rows)), some (.val (.int (many : Nat))), some (.val (floorV rows)), some (.val (goalsV (spots rows))), a, some (.own false (.lst ((classesL (spots rows)).map listV))), b, c, d, some (.val (listV lot))]) (by wp_walk)]
    have : bif1V .tuple (listV lot) = some (tupV lot) := rfl
    wp_walk using this
  have srt : bif1V .sorted (.lst ((classesL (spots rows)).map tupV)) = some (.lst ((classesL (spots rows)).map tupV)) := by
    show ((sortV ((classesL (spots rows)).map tupV)).bind fun m => wh (decide (m.length ≤ lim)) (some (V.lst m))) = _
    unfold classesL
    rw [sort_tups _ lo.ne, lots_sorted lo, Option.bind_some, List.length_map]
    unfold classesL at cl
    rw [len_le1 (by omega)]; rfl
  have cls : callV Ir.pr N Ir.orc (k + 11) Ir.f_classes [floorV rows] H1 = .ok (classesV (spots rows), H1) := by
    rw [callV_orc (n := 10) (g := gClasses) rfl (by omega)]
    exact gClasses_of IF nd pl
  have fx : Fit (classesV (spots rows)) := by
    refine ⟨?_, ?_⟩
    · unfold classesV; rw [pv]; exact pvs_iff.2 fun d m => by obtain ⟨i, _, rfl⟩ := List.mem_map.1 m; exact (tupV_fit i).1
    · unfold classesV; rw [dv]
      have : dvs ((classesL (spots rows)).map tupV) ≤ 1 := dvs_le.2 fun d m => by
        obtain ⟨i, _, rfl⟩ := List.mem_map.1 m
        unfold tupV; rw [dv]
        have : dvs (i.map fun i => V.int (i : Nat)) ≤ 0 := dvs_le.2 fun d m => by obtain ⟨i, _, rfl⟩ := List.mem_map.1 m; simp [dv]
        omega
      omega
  have shI : ∀ l : List Nat, (∀ i ∈ l, i < 4096) → shvs (l.map fun i => V.int (i : Nat)) = true := by
    intro l
    induction l with
    | nil => intro _; rfl
    | cons a l ih =>
      intro h
      rw [List.map_cons, shvs, ih fun i m => h i (List.mem_cons_of_mem _ m), shv]
      have := h a (List.mem_cons_self ..)
      simp; omega
  have sx : shv (classesV (spots rows)) = true := by
    unfold classesV
    rw [shv]
    have : ∀ L : List (List Nat), (∀ l ∈ L, ∀ i ∈ l, i < 4096) → shvs (L.map tupV) = true := by
      intro L
      induction L with
      | nil => intro _; rfl
      | cons l L ih =>
        intro h
        rw [List.map_cons, shvs, ih fun i m => h i (List.mem_cons_of_mem _ m)]
        unfold tupV
        rw [shv, shI l (h l (List.mem_cons_self ..))]; rfl
    exact this _ fun l m i mi => by have := lo.lt l m i mi; omega
  have blI : ∀ l : List Nat, blvs (l.map fun i => V.int (i : Nat)) = l.length := by
    intro l
    induction l with
    | nil => rfl
    | cons a l ih => rw [List.map_cons, blvs, ih, List.length_cons]; simp only [blv]; omega
  have bx : blv (classesV (spots rows)) ≤ 500000 := by
    unfold classesV
    rw [blv]
    have : ∀ L : List (List Nat), (∀ l ∈ L, l.length ≤ 144) → blvs (L.map tupV) ≤ L.length * 145 := by
      intro L
      induction L with
      | nil => intro _; simp [blvs]
      | cons l L ih =>
        intro h
        rw [List.map_cons, blvs, List.length_cons]
        have h1 := h l (List.mem_cons_self ..)
        have h2 := ih fun i m => h i (List.mem_cons_of_mem _ m)
        unfold tupV
        rw [blv, blI]
        unfold tupV at h2
        omega
    have h2 := this (classesL (spots rows)) fun l m => Nat.le_trans (lot_len (alike (spots rows)) _ l m) pl
    have h3 : (classesL (spots rows)).length * 145 ≤ 144 * 145 := Nat.mul_le_mul cl (Nat.le_refl _)
    omega
  have r1 := repr_two fx sx bx
  have q1 := c_eq (fit_two fx) (fit_two fx)
  rw [decide_eq_true rfl] at q1
  have tl : bif1V .len (.lst ((List.range (spots rows).length).map fun i => V.dct (goalD (spots rows) i))) = some (.int (spots rows).length) := bif_leng
  refine ⟨H1, ?_, h1⟩
  unfold cv at e2 ⊢
  rw [run_v (p := 3) (n := 11) rfl rfl rfl]
  have ct : bif1V .tuple (.lst ((classesL (spots rows)).map tupV)) = some (classesV (spots rows)) := rfl
  wp_walk using e1, e2, s_r11 (j := many) (by omega), e3, bif_leng, s_r11 (j := (spots rows).length) (by omega), e6, lc, List.length_map, len_le1 (n := (classesL (spots rows)).length) (by omega), srt, ct, cls, r1, q1, len_le1 (n := 0) (by decide), len_le1 (n := 1 + 1) (by decide), s_ret
end

section
open Fw Bf
open PySem (Str PyData NestedKey)
variable {N k : Nat} {H : List V} {ps : List Pl}
theorem part_l {a b : Nat} (h1 : g2 ps (a, b) 100 = false) (h2 : g2 ps (a, b) 108 = true) : part ps a b = some [108] := by
  refine part_of (o := some [108]) ⟨⟨[], 108, rfl, fun _ m => (by cases m), by decide, h2⟩, ?_⟩
  intro u c ok mc hg
  cases u with
  | nil =>
    have hc : c = 100 ∨ c = 108 ∨ c = 114 ∨ c = 117 := sg_iff.1 mc
    rcases hc with rfl | rfl | rfl | rfl
    · have : g2 ps (a, b) 100 = true := hg
      rw [h1] at this; cases this
    · exact .inl rfl
    · exact .inr (.inr ⟨rfl, by decide⟩)
    · exact .inr (.inr ⟨rfl, by decide⟩)
  | cons x u => exact .inr (.inl (by simp))
theorem part_self (a : Nat) : part ps a a = none := by
  refine part_of (o := none) fun u c _ _ => ?_
  rw [feel_run]
  unfold g2
  simp
def rowsA : List (List Nat) := [[72, 46, 46]]
def rowsB : List (List Nat) := [[72, 46, 35, 46, 46]]
theorem fitA : FitR rowsA := ⟨by decide, by decide, ⟨3, by decide, by decide, by decide⟩, by
  intro s ms c mc
  simp only [rowsA, List.mem_singleton] at ms
  subst ms
  simp only [List.mem_cons, List.not_mem_nil, or_false] at mc
  rcases mc with rfl | rfl | rfl <;> simp [Sg4], by decide⟩
theorem fitB : FitR rowsB := ⟨by decide, by decide, ⟨5, by decide, by decide, by decide⟩, by
  intro s ms c mc
  simp only [rowsB, List.mem_singleton] at ms
  subst ms
  simp only [List.mem_cons, List.not_mem_nil, or_false] at mc
  rcases mc with rfl | rfl | rfl | rfl | rfl <;> simp [Sg4], by decide⟩
theorem spA : spots rowsA = [(0, 0), (0, 1), (0, 2)] := by decide
theorem spB : spots rowsB = [(0, 0), (0, 1), (0, 3), (0, 4)] := by decide
abbrev psB : List Pl := [(0, 0), (0, 1), (0, 3), (0, 4)]
theorem twinB : part psB 0 2 = none := by
  have key : ∀ u, Ok SG u → run (d2 psB) (0, 2) u = (0, 2) ∨ run (d2 psB) (0, 2) u = (1, 3) := by
    intro u
    refine snoc_ind (P := fun u => Ok SG u → run (d2 psB) (0, 2) u = (0, 2) ∨ run (d2 psB) (0, 2) u = (1, 3)) (fun _ => .inl rfl) ?_ _ u rfl
    intro u c ih ok
    obtain ⟨o1, o2⟩ := (ok_snoc SG).1 ok
    rw [run_snoc]
    rcases ih o1 with e | e <;> rw [e] <;> rcases sg_iff.1 o2 with rfl | rfl | rfl | rfl <;> decide
  refine part_of (o := none) fun u c ok mc => ?_
  rcases key u ok with e | e <;> rw [e] <;> rcases sg_iff.1 mc with rfl | rfl | rfl | rfl <;> decide
theorem twinB2 : part psB 1 3 = none := by
  have key : ∀ u, Ok SG u → run (d2 psB) (1, 3) u = (0, 2) ∨ run (d2 psB) (1, 3) u = (1, 3) := by
    intro u
    refine snoc_ind (P := fun u => Ok SG u → run (d2 psB) (1, 3) u = (0, 2) ∨ run (d2 psB) (1, 3) u = (1, 3)) (fun _ => .inr rfl) ?_ _ u rfl
    intro u c ih ok
    obtain ⟨o1, o2⟩ := (ok_snoc SG).1 ok
    rw [run_snoc]
    rcases ih o1 with e | e <;> rw [e] <;> rcases sg_iff.1 o2 with rfl | rfl | rfl | rfl <;> decide
  refine part_of (o := none) fun u c ok mc => ?_
  rcases key u ok with e | e <;> rw [e] <;> rcases sg_iff.1 mc with rfl | rfl | rfl | rfl <;> decide
theorem clsB : classesL psB = [[0, 2], [1, 3]] := by
  have a01 : alike psB 0 1 = false := by unfold alike; rw [part_l (by decide) (by decide)]; rfl
  have a12 : alike psB 1 2 = false := by unfold alike; rw [part_l (by decide) (by decide)]; rfl
  have a03 : alike psB 0 3 = false := by unfold alike; rw [part_l (by decide) (by decide)]; rfl
  have a02 : alike psB 0 2 = true := by unfold alike; rw [twinB]; rfl
  have a13 : alike psB 1 3 = true := by unfold alike; rw [twinB2]; rfl
  unfold classesL
  show lotsN (alike psB) 4 = _
  simp [lotsN, addC, hd, a01, a12, a03, a02, a13]
theorem law_v (hN : 30000 ≤ N) (h : HandOk H) : (evSs (vctx Ir.pr N Ir.orc (k + 12)) Ir.d_law.body.tail [none, some (.val .hand), none, none] H).Is fun r => r.1 = .ret (.bl true) := by
  have f1 := floor_v (N := N) (k := k + 9) (H := H) fitA
  have f2 := floor_v (N := N) (k := k + 9) (H := H) fitB
  have IA : IsFloor [(0, 0), (0, 1), (0, 2)] (floorV rowsA) := by rw [← spA]; exact floorV_is rowsA
  have IB : IsFloor psB (floorV rowsB) := by have := floorV_is rowsB; rw [spB] at this; exact this
  have e1 := felt_v (N := N) (k := k + 7) (H := H) IA (by decide) (by decide) (w := [114, 114, 114, 117, 108]) (by intro c m; simp only [List.mem_cons, List.not_mem_nil, or_false] at m; unfold Sgn; omega) (by decide) (i := 0) (by decide)
  have ee : feelW [(0, 0), (0, 1), (0, 2)] [114, 114, 114, 117, 108] 0 = ([49, 49, 48, 48, 49], 1) := by decide
  rw [ee] at e1
  have e2 := told_v (N := N) (k := k + 7) (H := H) (ps := [(0, 0), (0, 1), (0, 2)]) (by decide) (a := 0) (b := 2) (by decide) (by decide) (by decide) IA hN
  rw [part_l (by decide) (by decide)] at e2
  have e3 := told_v (N := N) (k := k + 7) (H := H) (ps := psB) (by decide) (a := 0) (b := 2) (by decide) (by decide) (by decide) IB hN
  rw [twinB] at e3
  have e4 := told_v (N := N) (k := k + 7) (H := H) (ps := psB) (by decide) (a := 1) (b := 1) (by decide) (by decide) (by decide) IB hN
  rw [part_self] at e4
  have e5 : callV Ir.pr N Ir.orc (k + 12) Ir.f_classes [floorV rowsB] H = .ok (.tup [.tup [.int 0, .int 2], .tup [.int 1, .int 3]], H) := by
    rw [callV_orc (n := 10) (g := gClasses) rfl (by omega), gClasses_of IB (by decide) (by decide)]
    unfold classesV
    rw [clsB]; rfl
  obtain ⟨r, e6, x, H1, rfl, h1⟩ := forV_ex (t := .slot 3) (f := evSs (vctx Ir.pr N Ir.orc (k + 12)) [.ite (.not (.val (.call Ir.f__law_is_right [(.var 1), (.call Ir.f__law_drawn [(.var 1)]), (.con (.int 5))]))) [.ret (.con (.bl false))] []]) (fun _ env H' => HandOk H' ∧ ∃ x, env = [none, some (.val .hand), some (.val (floorV rowsB)), x]) (fun r => ∃ x H', r = (.next, [none, some (.val .hand), some (.val (floorV rowsB)), x], H') ∧ HandOk H') (by
    rintro y xs env H' ⟨h, x, rfl⟩
    refine ⟨_, at_s, ?_⟩
    obtain ⟨rows, H2, t, w, d1, d2, t1, t2, w1, w2, h2⟩ := drawn_v (N := N) (k := k + 8) h
    have F := d2.fit t1 (by omega) (by omega) (by omega)
    have n1 : 1 ≤ (spots rows).length := by
      obtain ⟨r, rest, er, _⟩ := d2.ok
      have : ((0 : Int), (0 : Int)) ∈ spots rows := mem_spots.2 ⟨0, 0, rfl, _, by rw [er]; rfl, 72, rfl, by decide⟩
      exact List.length_pos_of_mem this
    obtain ⟨H3, d3, h3⟩ := right_v (N := N) (k := k) hN F h2 (many := 5) (by decide) n1
    have d3' : callV Ir.pr N Ir.orc (k + 12) Ir.f__law_is_right [.hand, rowsV rows, .int 5] H2 = .ok (.bl true, H3) := d3
    unfold cv at d1
    wp_walk using d1, d3'
    exact ⟨h3, _, rfl⟩) (by
    rintro env H' ⟨h, x, rfl⟩
    exact ⟨x, H', rfl, h⟩) (rangeV 0 4) [none, some (.val .hand), some (.val (floorV rowsB)), none] H ⟨h, none, rfl⟩
  obtain ⟨v, H2, e7, l7, h2⟩ := draw_n (N := N) (k := k + 11) h1 (n := 5) (by decide) (by decide)
  obtain ⟨t, H3, e8, l8, h3⟩ := draw_n (N := N) (k := k + 11) h2 (n := 6) (by decide) (by decide)
  obtain ⟨w, H4, e9, l9, h4⟩ := draw_n (N := N) (k := k + 11) h3 (n := 5) (by decide) (by decide)
  obtain ⟨rows, H5, e10, d2, h5⟩ := rows_v (N := N) (k := k + 9) h4 (t := 1 + t) (w := 2 + w) (by omega) (by omega) (by omega) (by omega) 2
  have F := d2.fit (by omega) (by omega) (by omega) (by omega)
  have n1 : 1 ≤ (spots rows).length := by
    obtain ⟨r, rest, er, _⟩ := d2.ok
    have : ((0 : Int), (0 : Int)) ∈ spots rows := mem_spots.2 ⟨0, 0, rfl, _, by rw [er]; rfl, 72, rfl, by decide⟩
    exact List.length_pos_of_mem this
  obtain ⟨H6, e11, h6⟩ := right_v (N := N) (k := k) hN F h5 (many := 2) (by decide) n1
  have on : optV none = .non := rfl
  rw [on] at e3 e4
  have os : optV (some [108]) = .str [108] := rfl
  rw [os] at e2
  have fa : Fit (.tup [.str [49, 49, 48, 48, 49], .int 1]) := ⟨by decide, by decide⟩
  have fb : Fit (.str [108]) := ⟨by decide, by decide⟩
  have fc : Fit (.tup [.tup [.int 0, .int 2], .tup [.int 1, .int 3]]) := ⟨by decide, by decide⟩
  have qa := c_ne fa fa
  have qb := c_ne fb fb
  have qc := c_ne fc fc
  rw [decide_eq_true rfl] at qa qb qc
  unfold cv at e1 e2 e3 e4 e7 e8 e9 e10 e11
  have e1' : callV Ir.pr N Ir.orc (k + 12) Ir.f_felt [floorV rowsA, .int 0, .str [114, 114, 114, 117, 108]] H = .ok (.tup [.str [49, 49, 48, 48, 49], .int 1], H) := e1
  have e2' : callV Ir.pr N Ir.orc (k + 12) Ir.f_told_apart [floorV rowsA, .int 0, .int 2] H = .ok (.str [108], H) := e2
  have e3' : callV Ir.pr N Ir.orc (k + 12) Ir.f_told_apart [floorV rowsB, .int 0, .int 2] H = .ok (.non, H) := e3
  have e4' : callV Ir.pr N Ir.orc (k + 12) Ir.f_told_apart [floorV rowsB, .int 1, .int 1] H = .ok (.non, H) := e4
  have f1' : initV Ir.pr N Ir.orc (k + 12) 4 Ir.f_Floor_init [.tup [.str [72, 46, 46]]] H = .ok (floorV rowsA, H) := by
    have := floor_v (N := N) (k := k + 10) (H := H) fitA
    exact this
  have f2' : initV Ir.pr N Ir.orc (k + 12) 4 Ir.f_Floor_init [.tup [.str [72, 46, 35, 46, 46]]] H = .ok (floorV rowsB, H) := by
    have := floor_v (N := N) (k := k + 10) (H := H) fitB
    exact this
  have e7' : callV Ir.pr N Ir.orc (k + 12) Ir.f__law_draw [.hand, .int 5] H1 = .ok (.int (v : Nat), H2) := e7
  have e8' : callV Ir.pr N Ir.orc (k + 12) Ir.f__law_draw [.hand, .int 6] H2 = .ok (.int (t : Nat), H3) := e8
  have e9' : callV Ir.pr N Ir.orc (k + 12) Ir.f__law_draw [.hand, .int 5] H3 = .ok (.int (w : Nat), H4) := e9
  have e10' : callV Ir.pr N Ir.orc (k + 12) Ir.f__law_rows [.hand, .int (1 + (t : Int)), .int (2 + (w : Int)), .int 2] H4 = .ok (rowsV rows, H5) := by
    rw [show (1 + (t : Int)) = ((1 + t : Nat) : Int) from by omega, show (2 + (w : Int)) = ((2 + w : Nat) : Int) from by omega]; exact e10
  have e11' : callV Ir.pr N Ir.orc (k + 12) Ir.f__law_is_right [.hand, rowsV rows, .int 2] H5 = .ok (.bl true, H6) := e11
  unfold Ir.d_law
  simp only [List.tail_cons]
  have l1 := len_le1 (n := 0 + 1) (by decide)
  have l1' := len_le1 (n := 1) (by decide)
  have l2 := len_le1 (n := 2) (by decide)
  have l2' := len_le1 (n := 1 + 1) (by decide)
  have dn : decide (V.non = V.non) = true := decide_eq_true rfl
  have s4 : kR1 (V.int 4, H) = .ok (rangeV 0 4, H) := s_r11 (j := 4) (by decide)
  by_cases q : (0 : Int) < (v : Int)
  · wp_walk using f1', e1', qa, e2', qb, f2', e3', e5, qc, e4', dn, s4, e6, e7', q, l1, l1', l2, l2', s_ret
  · wp_walk using f1', e1', qa, e2', qb, f2', e3', e5, qc, e4', dn, s4, e6, e7', q, e8', e9', e10', e11', l1, l1', l2, l2', s_ret
end

end Vl

namespace Wp
open Fw
open PySem (Str PyData)
local macro_rules
  | `(tactic| wp_walk) => `(tactic| simp only [s_var, s_con, s_bin, s_bin1, s_bin2, s_neg, s_neg1, s_cmp, s_cmp1, s_cmp2, s_ch, s_ch1, s_ch2, s_ch3t, s_ch3f, s_and, s_andt, s_andf, s_or, s_orf, s_ort, s_not, s_not1, s_ite, s_itet, s_itef, s_tup, s_tup1, s_tup2, s_tup3, s_tup4, s_lst, s_lst0, s_lst1, s_lst2, s_lst4, s_lst5, s_dct, s_dct0, s_idx, s_idx1, s_idx2, s_sl, s_sl1, s_sl2, s_sl3, s_fld, s_fld1, s_call, s_call1, s_new, s_new1, s_new2, s_bif, s_bif1, s_mth, s_mth1, s_mth2, s_mth3, s_ms1, s_ms2, s_ms3, s_ms4, s_ms5, s_ms6, s_ms7, s_kstr, s_isT, s_isT1, s_lc, s_lc1, s_lcBt, s_lcBf, s_lcV, s_dc, s_dc1, s_dc2, s_dcBt, s_dcK, s_dcV, s_es0, s_es, s_es1, s_es2, s_o0, s_o, s_o1, s_ba, s_bat, s_baf, s_bo, s_bof, s_bot, s_bn, s_bn1, s_bv, s_bv1, s_bs0, s_bs, s_bst, s_bsf, s_pl, s_plt, s_pls, s_r1, s_r2, s_r21, s_en, s_ent, s_ens, s_asg, s_asg1, s_asg2, s_asg3, s_as, s_as1, s_as2, s_as3, s_as4, s_at, s_at1, s_at2, s_ex, s_ex1, s_ret, s_ret1, s_retN, s_if, s_ift, s_iff, s_whl, s_for, s_for1, s_pass, s_brk, s_cont, s_ss0, s_ss, s_ssn, s_ssr, s_ssb, s_ssc, s_runr, s_runn, bind_okN, of_someN, Option.map_some, Option.bind_some, getV_zero, getV_succ, List.set_cons_zero, List.set_cons_succ, bin_add_int, bin_sub_int, bin_mul_int, bin_fdiv_int, bin_mod_int, cmp_lt_int, cmp_gt_int, cmp_le_int, cmp_ge_int, cmp_eq_int, cmp_ne_int, cmp_isn, cmp_notn, bif1, abs_int, int_int, len_tup, idx_tup0, idx_tup1, must_tN, Bool.not_true, Bool.not_false, Bool.true_or, Bool.or_true, Bool.true_and, Bool.and_true, Bool.false_and, Bool.and_false, Bool.or_false, Bool.false_or, decide_true, decide_false, Is_ok, List.map_cons, List.map_nil, List.cons_append, List.nil_append, List.replicate_succ, List.replicate_zero, Nat.reduceSub, Nat.zero_add, Nat.reduceAdd])
  | `(tactic| wp_walk using $ts:term,*) => do
    let xs ← ts.getElems.mapM fun t => `(Lean.Parser.Tactic.simpLemma| $t:term)
    `(tactic| simp only [s_var, s_con, s_bin, s_bin1, s_bin2, s_neg, s_neg1, s_cmp, s_cmp1, s_cmp2, s_ch, s_ch1, s_ch2, s_ch3t, s_ch3f, s_and, s_andt, s_andf, s_or, s_orf, s_ort, s_not, s_not1, s_ite, s_itet, s_itef, s_tup, s_tup1, s_tup2, s_tup3, s_tup4, s_lst, s_lst0, s_lst1, s_lst2, s_lst4, s_lst5, s_dct, s_dct0, s_idx, s_idx1, s_idx2, s_sl, s_sl1, s_sl2, s_sl3, s_fld, s_fld1, s_call, s_call1, s_new, s_new1, s_new2, s_bif, s_bif1, s_mth, s_mth1, s_mth2, s_mth3, s_ms1, s_ms2, s_ms3, s_ms4, s_ms5, s_ms6, s_ms7, s_kstr, s_isT, s_isT1, s_lc, s_lc1, s_lcBt, s_lcBf, s_lcV, s_dc, s_dc1, s_dc2, s_dcBt, s_dcK, s_dcV, s_es0, s_es, s_es1, s_es2, s_o0, s_o, s_o1, s_ba, s_bat, s_baf, s_bo, s_bof, s_bot, s_bn, s_bn1, s_bv, s_bv1, s_bs0, s_bs, s_bst, s_bsf, s_pl, s_plt, s_pls, s_r1, s_r2, s_r21, s_en, s_ent, s_ens, s_asg, s_asg1, s_asg2, s_asg3, s_as, s_as1, s_as2, s_as3, s_as4, s_at, s_at1, s_at2, s_ex, s_ex1, s_ret, s_ret1, s_retN, s_if, s_ift, s_iff, s_whl, s_for, s_for1, s_pass, s_brk, s_cont, s_ss0, s_ss, s_ssn, s_ssr, s_ssb, s_ssc, s_runr, s_runn, bind_okN, of_someN, Option.map_some, Option.bind_some, getV_zero, getV_succ, List.set_cons_zero, List.set_cons_succ, bin_add_int, bin_sub_int, bin_mul_int, bin_fdiv_int, bin_mod_int, cmp_lt_int, cmp_gt_int, cmp_le_int, cmp_ge_int, cmp_eq_int, cmp_ne_int, cmp_isn, cmp_notn, bif1, abs_int, int_int, len_tup, idx_tup0, idx_tup1, must_tN, Bool.not_true, Bool.not_false, Bool.true_or, Bool.or_true, Bool.true_and, Bool.and_true, Bool.false_and, Bool.and_false, Bool.or_false, Bool.false_or, decide_true, decide_false, Is_ok, List.map_cons, List.map_nil, List.cons_append, List.nil_append, List.replicate_succ, List.replicate_zero, Nat.reduceSub, Nat.zero_add, Nat.reduceAdd, $xs,*])
local macro_rules | `(tactic| walk_at "wb") => `(tactic| repeat rw [Is_bind])

section
open Fw
open PySem (Str PyData)
open Vl (Reps Rep Wd Ke SimR Cnt stepsV spotsV IsFloor alike lotsN addC hd part optV)
variable {N k : Nat}
def intsD (l : List Nat) : List D := l.map fun i => .int (i : Nat)
abbrev Zs := List (Nat × List Nat)
def mmZ (M : Nat → Prop) (fr : Nat) (Z : Zs) : Nat → Prop := fun n => M n ∨ n = fr ∨ n ∈ Z.map Prod.fst
structure StZ (h : Nat) (M : Nat → Prop) (H : List Vl.V) (G0 : Store) (ps : List Vl.Pl) (st fr b : Nat) (Z : Zs) (G : Store) : Prop where
  wd : Wd h (mmZ M fr Z) G H
  sv : Rep h (mmZ M fr Z) G (.ref st) (stepsV ps)
  ke : Ke h G0 G
  bb : G0.length ≤ b
  fb : b ≤ fr
  zb : ∀ z ∈ Z, b ≤ z.1 ∧ z.1 ≠ fr
  nd : (Z.map Prod.fst).Nodup
  fa : G[fr]? = some (.lst (Z.map fun z => .ref z.1) false)
  za : ∀ z ∈ Z, G[z.1]? = some (.lst (intsD z.2) false)
variable {h : Nat} {M : Nat → Prop} {H : List Vl.V} {G0 : Store} {ps : List Vl.Pl} {st fr b : Nat} {Z : Zs} {G G' : Store}
theorem StZ.step (a : StZ h M H G0 ps st fr b Z G) (m0 : ∀ n, M n → n < G0.length) (mh : M h) (k : Ke h G G') (w : Wd h (mmZ M fr Z) G' H) : StZ h M H G0 ps st fr b Z G' := by
  have hb := a.bb
  have hf := a.fb
  have hh := m0 h mh
  refine ⟨w, a.sv.mono (k.rep (.inl mh)), a.ke.trans k, a.bb, a.fb, a.zb, a.nd, k.2 _ _ (by omega) a.fa, fun z m => k.2 _ _ (by have := (a.zb z m).1; omega) (a.za z m)⟩
theorem StZ.new (a : StZ h M H G0 ps st fr b Z G) (m0 : ∀ n, M n → n < G0.length) (mh : M h) (o : O) : StZ h M H G0 ps st fr b Z (G ++ [o]) := a.step m0 mh (Ke.app G o) a.wd.app
/-- one of the lots gets longer -/
theorem StZ.set (a : StZ h M H G0 ps st fr b Z G) (m0 : ∀ n, M n → n < G0.length) (mh : M h) {f : Nat × List Nat → List Nat} {r : Nat} {l : List Nat} (mr : (r, l) ∈ Z) (hf : ∀ z ∈ Z, z.1 ≠ r → f z = z.2) : StZ h M H G0 ps st fr b (Z.map fun z => (z.1, f z)) (G.set r (.lst (intsD (f (r, l))) false)) := by
  have e1 : (Z.map fun z => (z.1, f z)).map Prod.fst = Z.map Prod.fst := by rw [List.map_map]; rfl
  have mm : mmZ M fr (Z.map fun z => (z.1, f z)) = mmZ M fr Z := by unfold mmZ; rw [e1]
  have hb := a.bb
  have hh := m0 h mh
  have rr := a.zb _ mr
  have rr1 : b ≤ r := rr.1
  have rr2 : r ≠ fr := rr.2
  have rM : mmZ M fr Z r := .inr (.inr (List.mem_map_of_mem mr))
  have mono : ∀ n o, ¬ mmZ M fr Z n → G[n]? = some o → ¬ mmZ M fr Z n ∧ (G.set r (.lst (intsD (f (r, l))) false))[n]? = some o := fun n o x y => ⟨x, by rw [List.getElem?_set_ne (fun z => by subst z; exact x rM)]; exact y⟩
  have rl := (List.getElem?_eq_some_iff.1 (a.za _ mr)).1
  refine ⟨?_, by rw [mm]; exact a.sv.mono mono, ?_, a.bb, a.fb, ?_, by rw [e1]; exact a.nd, ?_, ?_⟩
  · rw [mm]
    refine ⟨a.wd.mh, fun n x => by rw [List.length_set]; exact a.wd.lt n x, ?_⟩
    obtain ⟨ds, x, y⟩ := a.wd.hd
    exact ⟨ds, by rw [List.getElem?_set_ne (by omega)]; exact x, y.mono mono⟩
  · refine ⟨by rw [List.length_set]; exact a.ke.1, fun n o x e => ?_⟩
    have := (List.getElem?_eq_some_iff.1 e).1
    rw [List.getElem?_set_ne (by omega)]; exact a.ke.2 n o x e
  · intro z m
    obtain ⟨y, my, rfl⟩ := List.mem_map.1 m
    exact a.zb y my
  · rw [List.getElem?_set_ne rr2, a.fa, List.map_map]; rfl
  · intro z m
    obtain ⟨y, my, rfl⟩ := List.mem_map.1 m
    by_cases q : y.1 = r
    · have : y = (r, l) := by
        obtain ⟨i, li, ei⟩ := List.getElem_of_mem my
        obtain ⟨j, lj, ej⟩ := List.getElem_of_mem mr
        have h1 : (Z.map Prod.fst)[i]? = some r := by rw [List.getElem?_map, List.getElem?_eq_getElem li, ei]; show some y.1 = _; rw [q]
        have h2 : (Z.map Prod.fst)[j]? = some r := by rw [List.getElem?_map, List.getElem?_eq_getElem lj, ej]; rfl
        have := Vl.at_inj a.nd h1 h2
        subst this
        rw [← ei, ej]
      subst this
      show (G.set r _)[r]? = _
      rw [List.getElem?_set_self rl]
    · show (G.set r _)[y.1]? = _
      rw [List.getElem?_set_ne (fun z => q z.symm), a.za y my, hf y my q]
/-- a new lot -/
theorem StZ.add (a : StZ h M H G0 ps st fr b Z G) (m0 : ∀ n, M n → n < G0.length) (mh : M h) (c : Nat) : StZ h M H G0 ps st fr b (Z ++ [(G.length, [c])]) ((G ++ [O.lst (intsD [c]) false]).set fr (O.lst ((Z.map fun z : Nat × List Nat => D.ref z.1) ++ [D.ref G.length]) false)) := by
  have hb := a.bb
  have hf := a.fb
  have hh := m0 h mh
  have fl := (List.getElem?_eq_some_iff.1 a.fa).1
  have mono : ∀ n o, ¬ mmZ M fr Z n → G[n]? = some o → ¬ mmZ M fr (Z ++ [(G.length, [c])]) n ∧ ((G ++ [O.lst (intsD [c]) false]).set fr (O.lst ((Z.map fun z : Nat × List Nat => D.ref z.1) ++ [D.ref G.length]) false))[n]? = some o := fun n o x e => by
    have l := (List.getElem?_eq_some_iff.1 e).1
    refine ⟨fun y => ?_, ?_⟩
    · rcases y with y | y | y
      · exact x (.inl y)
      · exact x (.inr (.inl y))
      · rw [List.map_append, List.mem_append] at y
        rcases y with y | y
        · exact x (.inr (.inr y))
        · simp at y; omega
    · rw [List.getElem?_set_ne (fun z => by subst z; exact x (.inr (.inl rfl))), List.getElem?_append_left l]; exact e
  refine ⟨?_, a.sv.mono mono, ?_, a.bb, a.fb, ?_, ?_, ?_, ?_⟩
  · refine ⟨.inl mh, fun n x => ?_, ?_⟩
    · rw [List.length_set, List.length_append, List.length_singleton]
      rcases x with x | x | x
      · have := m0 n x; have := a.ke.1; omega
      · omega
      · rw [List.map_append, List.mem_append] at x
        rcases x with x | x
        · have := a.wd.lt n (.inr (.inr x)); omega
        · simp at x; omega
    · obtain ⟨ds, x, y⟩ := a.wd.hd
      refine ⟨ds, ?_, y.mono mono⟩
      rw [List.getElem?_set_ne (by omega), List.getElem?_append_left (List.getElem?_eq_some_iff.1 x).1]; exact x
  · refine ⟨by rw [List.length_set, List.length_append]; have := a.ke.1; omega, fun n o x e => ?_⟩
    have := (List.getElem?_eq_some_iff.1 e).1
    have k1 := a.ke.1
    rw [List.getElem?_set_ne (by omega), List.getElem?_append_left (by omega)]; exact a.ke.2 n o x e
  · intro z m
    rw [List.mem_append, List.mem_singleton] at m
    rcases m with m | rfl
    · exact a.zb z m
    · exact ⟨by have := a.ke.1; show b ≤ G.length; omega, by show G.length ≠ fr; omega⟩
  · rw [List.map_append, List.nodup_append]
    refine ⟨a.nd, by simp, fun x mx y my => ?_⟩
    simp at my
    subst my
    have := a.wd.lt x (.inr (.inr mx))
    omega
  · rw [List.getElem?_set_self (by rw [List.length_append]; omega), List.map_append]; rfl
  · intro z m
    rw [List.mem_append, List.mem_singleton] at m
    rcases m with m | rfl
    · have l := (List.getElem?_eq_some_iff.1 (a.za z m)).1
      rw [List.getElem?_set_ne (fun q => (a.zb z m).2 q.symm), List.getElem?_append_left l]; exact a.za z m
    · show ((G ++ [O.lst (intsD [c]) false]).set fr _)[G.length]? = _
      rw [List.getElem?_set_ne (by omega), List.getElem?_append_right (Nat.le_refl _), Nat.sub_self]; rfl
theorem tuple_l {n : Nat} {l : List D} {f : Bool} {G : Store} (hn : G[n]? = some (.lst l f)) : tupleS (.ref n) G = .ok (.tup l, G) := by
  unfold tupleS
  dsimp only
  rw [hn]
theorem optV_non {o : Option (List Nat)} {d : D} {M : Nat → Prop} (a : Rep h M G d (optV o)) : decide (d = .non) = o.isNone := by
  cases o with
  | none => rw [(Vl.RepW.st a).non]; simp
  | some r => rw [(Vl.RepW.st a).str]; simp
/-- what classes does with one cell -/
theorem cls_turn {C : Ctx} {Cv : Vl.VCtx} (cr : Vl.CR h C Cv) (m0 : ∀ n, M n → n < G0.length) (mh : M h) (nd : ps.Nodup) (pl : ps.length ≤ 144) {c : Nat} (hc : c < ps.length)
    (vp : ∀ a b, a < ps.length → b < ps.length → Cv.call Ir.f_parting_word [stepsV ps, .int (a : Nat), .int (b : Nat)] H = .ok (optV (part ps a b), H)) {fd : D} {x4 x5 : Option D}
    (a : StZ h M H G0 ps st fr b Z G) (hz : Z.map Prod.snd = lotsN (alike ps) c) :
    ∃ y4 y5 Z' G', evSs C [.asg (.slot 4) (.lc (.var 5) (.slot 5) (.pl (.var 2)) [(.val (.cmp .isn (.call Ir.f_parting_word [(.var 1), (.idx (.var 5) (.con (.int 0))), (.var 3)]) (.con .non)))] [5]),
     .ite (.val (.cmp .gt (.bif .len [(.var 4)]) (.con (.int 0)))) [.expr (.mth .append (.idx (.var 4) (.con (.int 0))) [(.var 3)])] [.expr (.mth .append (.var 2) [(.lst [(.var 3)])])]] [some fd, some (.ref st), some (.ref fr), some (.int (c : Nat)), x4, x5] G = .ok (.next, [some fd, some (.ref st), some (.ref fr), some (.int (c : Nat)), y4, y5], G') ∧ StZ h M H G0 ps st fr b Z' G' ∧ Z'.map Prod.snd = lotsN (alike ps) (c + 1) := by
  have lo := Vl.lotsN_ok (E := alike ps) c
  have ll := Vl.lots_len (alike ps) c
  have zl : Z.length = (lotsN (alike ps) c).length := by rw [← hz, List.length_map]
  have mz : ∀ z ∈ Z, z.2 ∈ lotsN (alike ps) c := fun z m => by rw [← hz]; exact List.mem_map_of_mem m
  let p : Nat × List Nat → Bool := fun z => alike ps (hd z.2) c
  -- the comprehension
  have lc : (lcL (some (fr, .lst (Z.map fun z => D.ref z.1) false)) none (fLc C (.var 5) (.slot 5) [(.val (.cmp .isn (.call Ir.f_parting_word [(.var 1), (.idx (.var 5) (.con (.int 0))), (.var 3)]) (.con .non)))] [5] [some fd, some (.ref st), some (.ref fr), some (.int (c : Nat)), x4, x5]) (Z.map fun z => D.ref z.1) G).Is fun r => ∃ done rest, done ++ rest = Z ∧ [] = rest.map (fun z : Nat × List Nat => D.ref z.1) ∧ ([] ++ r.1) = (done.filter p).map (fun z => D.ref z.1) ∧ StZ h M H G0 ps st fr b Z r.2 := by
    refine lcL_is (fun xs l G' => ∃ done rest, done ++ rest = Z ∧ xs = rest.map (fun z : Nat × List Nat => D.ref z.1) ∧ l = (done.filter p).map (fun z => D.ref z.1) ∧ StZ h M H G0 ps st fr b Z G') (fun xs l G' ⟨_, _, _, _, _, q⟩ => ⟨chk_some q.fa, rfl⟩) ?_ _ [] _ ⟨[], Z, rfl, rfl, rfl, a⟩
    rintro x xs l G' ⟨done, rest, e1, e2, rfl, q⟩
    cases rest with
    | nil => cases e2
    | cons z rest =>
      rw [List.map_cons] at e2
      cases e2
      have m : z ∈ Z := by rw [← e1]; simp
      have hne := lo.ne _ (mz z m)
      have hh : hd z.2 < ps.length := by have := lo.lt _ (mz z m) _ (Vl.hd_mem hne); omega
      rw [s_flc (e2 := [some fd, some (.ref st), some (.ref fr), some (.int (c : Nat)), x4, some (.ref z.1)]) (by simp only [wipe, asgT_slot, List.set_cons_succ, List.set_cons_zero])]
      have i0 : idxS (.ref z.1) (.int 0) G' = .ok (.int (hd z.2 : Nat), G') := by
        obtain ⟨r, lot⟩ := z
        cases lot with
        | nil => exact (hne rfl).elim
        | cons y lot => exact idx_lst (i := 0) (q.za _ m) rfl
      have key := cr.call Ir.f_parting_word (mmZ M fr Z) G' H [.ref st, .int (hd z.2 : Nat), .int (c : Nat)] [stepsV ps, .int (hd z.2 : Nat), .int (c : Nat)] q.wd (.cons q.sv (.cons (.int _) (.cons (.int _) .nil)))
      rw [vp _ _ hh hc] at key
      obtain ⟨d, G2, ec, kc, wc, rc⟩ := key
      have dn := optV_non rc
      have q2 := q.step m0 mh kc wc
      cases al : alike ps (hd z.2) c with
      | true =>
        have dn : decide (d = .non) = true := by rw [dn]; exact al
        obtain ⟨pc, n⟩ := C
        have ec : pc Ir.f_parting_word [.ref st, .int (hd z.2 : Nat), .int (c : Nat)] G' = .ok (d, G2) := ec
        wp_walk using i0, ec, dn
        refine ⟨done ++ [z], rest, by rw [List.append_assoc]; exact e1, rfl, ?_, q2⟩
        rw [List.filter_append, List.map_append]
        have : [z].filter p = [z] := by simp [p, al]
        rw [this]; rfl
      | false =>
        have dn : decide (d = .non) = false := by rw [dn]; exact al
        obtain ⟨pc, n⟩ := C
        have ec : pc Ir.f_parting_word [.ref st, .int (hd z.2 : Nat), .int (c : Nat)] G' = .ok (d, G2) := ec
        wp_walk using i0, ec, dn
        refine ⟨done ++ [z], rest, by rw [List.append_assoc]; exact e1, rfl, ?_, q2⟩
        rw [List.filter_append, List.map_append]
        have : [z].filter p = [] := by simp [p, al]
        rw [this]; simp
  obtain ⟨⟨l, G1⟩, elc, done, rest, e1, e2, e3, q⟩ := Is.get lc
  have : rest = [] := List.map_eq_nil_iff.1 e2.symm
  subst this
  rw [List.append_nil] at e1
  subst e1
  rw [List.nil_append] at e3
  have e3 : l = (done.filter p).map (fun z => D.ref z.1) := e3
  subst e3
  have q : StZ h M H G0 ps st fr b done G1 := q
  have fl : ((done.filter p).map (fun z => D.ref z.1)).length ≤ lim := by
    rw [List.length_map]
    have := List.length_filter_le p done
    unfold lim; omega
  have q' := q.new m0 mh (.lst ((done.filter p).map (fun z => D.ref z.1)) false)
  have l4 := len_lst (app_at G1 (.lst ((done.filter p).map (fun z => D.ref z.1)) false))
  have mk : kLst ((done.filter p).map (fun z => D.ref z.1), G1) = .ok (.ref G1.length, G1 ++ [.lst ((done.filter p).map (fun z => D.ref z.1)) false]) := by
    show mkL _ G1 = _
    unfold mkL
    rw [decide_eq_true fl]; rfl
  -- at most one lot is alike
  cases hf : done.filter p with
  | nil =>
    rw [hf] at l4 elc mk q'
    simp only [List.map_nil] at l4 elc mk q'
    have q0 : ¬ (0 : Int) < (([] : List D).length : Nat) := by simp
    have no : (lotsN (alike ps) c).any (fun lot => alike ps (hd lot) c) = false := by
      rw [← hz, List.any_map, List.any_eq_false]
      intro z m y
      have : z ∈ done.filter p := List.mem_filter.2 ⟨m, y⟩
      rw [hf] at this; cases this
    have ap := append_lst (d := .ref (G1 ++ [O.lst ([] : List D) false]).length) (app_old (o := .lst [.int (c : Nat)] false) q'.fa) (by rw [List.length_map]; unfold lim; omega)
    have kl : kindOf (G1 ++ [O.lst ([] : List D) false]) (.ref fr) = some .lst := kind_lst q'.fa
    have res := q'.add m0 mh c
    refine ⟨some (.ref G1.length), x5, _, _, ?_, res, ?_⟩
    · obtain ⟨pc, n⟩ := C
      simp only [List.length_nil] at l4 q0
      wp_walk using s_plr a.fa, elc, mk, l4, q0, kl, ap
      all_goals rfl
    · rw [List.map_append, hz]
      show lotsN (alike ps) c ++ [[c]] = addC (alike ps) (lotsN (alike ps) c) c
      unfold addC
      rw [no]
      have : (lotsN (alike ps) c).map (fun lot => if alike ps (hd lot) c then lot ++ [c] else lot) = lotsN (alike ps) c := by
        refine (List.map_congr_left fun lot m => ?_).trans (List.map_id _)
        have : alike ps (hd lot) c = false := by
          have := List.any_eq_false.1 no lot m
          simpa using this
        rw [this]; rfl
      rw [this]; rfl
  | cons z0 zs =>
    have mz0 : z0 ∈ done.filter p := by rw [hf]; simp
    obtain ⟨m0z, pz0⟩ := List.mem_filter.1 mz0
    -- the others are not alike
    have only : ∀ z ∈ done, z.1 ≠ z0.1 → p z = false := by
      intro z m ne
      cases e : p z with
      | false => rfl
      | true =>
        have h1 := lo.hds
        rw [← hz, List.pairwise_map] at h1
        have sym : ∀ x y, x < ps.length → y < ps.length → alike ps x y = alike ps y x := fun x y hx hy => by unfold alike; rw [Vl.part_symm nd hy hx pl]
        have tr : ∀ x y w, x < ps.length → y < ps.length → w < ps.length → alike ps x w = true → alike ps y w = true → alike ps x y = true := by
          intro x y w hx hy hw e1 e2
          have none_iff : ∀ i j, i < ps.length → j < ps.length → (alike ps i j = true ↔ ∀ u, Bf.Ok Vl.SG u → Vl.eqW ps u i j) := by
            intro i j hi hj
            have hp := Vl.part_is nd hi hj pl
            unfold alike
            constructor
            · intro e u ok
              have : part ps i j = none := by simpa using e
              rw [this] at hp
              exact hp.none_eq u ok
            · intro all
              cases e : part ps i j with
              | none => rfl
              | some r =>
                rw [e] at hp
                obtain ⟨u, c', er, o1, o2, o3⟩ := (show Bf.Least (Vl.d2 ps) (Vl.g2 ps) Vl.SG (i, j) r from hp).is
                have := (Vl.eqW_snoc.1 (all (u ++ [c']) ((Bf.ok_snoc Vl.SG).2 ⟨o1, o2⟩))).2
                rw [o3] at this; cases this
          refine (none_iff x y hx hy).2 fun u ok => ?_
          exact ((none_iff x w hx hw).1 e1 u ok).trans ((none_iff y w hy hw).1 e2 u ok).symm
        have hlt : ∀ z ∈ done, hd z.2 < ps.length := fun z m => by
          have := lo.lt _ (mz z m) _ (Vl.hd_mem (lo.ne _ (mz z m))); omega
        have a1 : alike ps (hd z.2) (hd z0.2) = true := tr _ _ c (hlt z m) (hlt z0 m0z) hc e pz0
        obtain ⟨i, li, ei⟩ := List.getElem_of_mem m
        obtain ⟨j, lj, ej⟩ := List.getElem_of_mem m0z
        have pw := List.pairwise_iff_getElem.1 h1
        rcases Nat.lt_trichotomy i j with o | o | o
        · have := (pw i j li lj o).2
          rw [ei, ej, a1] at this; cases this
        · subst o
          rw [ei] at ej; subst ej
          exact (ne rfl).elim
        · have := (pw j i lj li o).2
          rw [ei, ej, sym _ _ (hlt z0 m0z) (hlt z m), a1] at this; cases this
    have q0 : (0 : Int) < ((D.ref z0.1 :: zs.map (fun z : Nat × List Nat => D.ref z.1)).length : Nat) := by simp
    rw [hf] at l4 elc mk q'
    simp only [List.map_cons] at l4 elc mk q'
    have i4 : idxS (.ref G1.length) (.int 0) (G1 ++ [O.lst (D.ref z0.1 :: zs.map (fun z => D.ref z.1)) false]) = .ok (.ref z0.1, G1 ++ [O.lst (D.ref z0.1 :: zs.map (fun z => D.ref z.1)) false]) := idx_lst (i := 0) (app_at _ _) rfl
    have l0 : (intsD z0.2).length < lim := by
      have := Vl.lot_len (alike ps) c _ (mz z0 m0z)
      unfold intsD lim
      rw [List.length_map]; omega
    have ap := append_lst (d := .int (c : Nat)) (q'.za z0 m0z) l0
    have kl : kindOf (G1 ++ [O.lst (D.ref z0.1 :: zs.map (fun z => D.ref z.1)) false]) (.ref z0.1) = some .lst := kind_lst (q'.za z0 m0z)
    have res := q'.set m0 mh (f := fun z => if p z then z.2 ++ [c] else z.2) (r := z0.1) (l := z0.2) m0z (fun z m ne => by rw [only z m ne]; rfl)
    have e5 : intsD (if p (z0.1, z0.2) then z0.2 ++ [c] else z0.2) = intsD z0.2 ++ [.int (c : Nat)] := by
      rw [if_pos pz0]
      unfold intsD
      rw [List.map_append]; rfl
    rw [e5] at res
    refine ⟨some (.ref G1.length), x5, _, _, ?_, res, ?_⟩
    · obtain ⟨pc, n⟩ := C
      wp_walk using s_plr a.fa, elc, mk, l4, q0, i4, kl, ap
    · rw [List.map_map]
      show done.map (fun z => if p z then z.2 ++ [c] else z.2) = addC (alike ps) (lotsN (alike ps) c) c
      unfold addC
      have yes : (lotsN (alike ps) c).any (fun lot => alike ps (hd lot) c) = true := List.any_eq_true.2 ⟨z0.2, mz z0 m0z, pz0⟩
      rw [yes, ← hz, List.map_map]
      simp [p]
end

section
open Fw
open PySem (Str PyData)
open Vl (Reps Rep Wd Ke SimR Cnt stepsV spotsV IsFloor alike lotsN addC hd part optV classesL classesV tupV)
variable {N k : Nat} {h : Nat} {M : Nat → Prop} {H : List Vl.V} {G0 : Store} {ps : List Vl.Pl} {st fr b : Nat} {Z : Zs} {G G' : Store}
theorem ints_rep (l : List Nat) : Reps h M G (intsD l) (l.map fun i => Vl.V.int (i : Nat)) := by
  induction l with
  | nil => exact .nil
  | cons a l ih => exact .cons (.int _) ih
theorem tups_rep : ∀ L : List (List Nat), Reps h M G (L.map fun l => D.tup (intsD l)) (L.map tupV)
  | [] => .nil
  | l :: L => .cons (.tup (ints_rep l)) (tups_rep L)
theorem rangeD_succ (c n : Nat) : rangeD (c : Nat) (n + 1) = .int (c : Nat) :: rangeD ((c + 1 : Nat) : Int) n := by
  rw [rangeD]; rfl
theorem classes_in {pc : Nat → List D → Store → RD} {Cv : Vl.VCtx} (cr : Vl.CR h ⟨pc, N⟩ Cv) (w : Wd h M G H) (nd : ps.Nodup) (pl : ps.length ≤ 144)
    {f : Vl.V} {fd : D} (F : IsFloor ps f) (rf : Rep h M G fd f) (vs : Cv.call Ir.f_steps_of [f] H = .ok (stepsV ps, H))
    (vp : ∀ a b, a < ps.length → b < ps.length → Cv.call Ir.f_parting_word [stepsV ps, .int (a : Nat), .int (b : Nat)] H = .ok (optV (part ps a b), H)) :
    ∃ d G', runFn ⟨pc, N⟩ Ir.d_classes [fd] G = .ok (d, G') ∧ Ke h G G' ∧ Wd h M G' H ∧ Rep h M G' d (classesV ps) := by
  have key := cr.call Ir.f_steps_of M G H [fd] [f] w (.cons rf .nil)
  rw [vs] at key
  obtain ⟨sd, G1, es, ks, ws, rs⟩ := key
  have es : pc Ir.f_steps_of [fd] G = .ok (sd, G1) := es
  have ws : Wd h M G1 H := ws
  obtain ⟨st, _, rfl, _, _⟩ := Vl.RepW.dct (Vl.RepW.st rs)
  have nM : ¬ M G1.length := fun x => by have := ws.lt _ x; omega
  have m0 := w.lt
  have mh := w.mh
  have mono : ∀ n o, ¬ M n → G1[n]? = some o → ¬ mmZ M G1.length [] n ∧ (G1 ++ [O.lst [] false])[n]? = some o := fun n o x e => by
    have := (List.getElem?_eq_some_iff.1 e).1
    refine ⟨fun y => ?_, by rw [List.getElem?_append_left this]; exact e⟩
    rcases y with y | y | y
    · exact x y
    · omega
    · cases y
  have s0 : StZ h M H G ps st G1.length G1.length [] (G1 ++ [O.lst [] false]) := by
    refine ⟨⟨.inl mh, fun n x => ?_, ?_⟩, rs.mono mono, ks.trans (Ke.app _ _), ks.1, Nat.le_refl _, fun z m => (by cases m), .nil, app_at _ _, fun z m => (by cases m)⟩
    · rw [List.length_append, List.length_singleton]
      rcases x with x | x | x
      · have := ws.lt n x; omega
      · omega
      · cases x
    · obtain ⟨ds, x, y⟩ := ws.hd
      exact ⟨ds, by rw [List.getElem?_append_left (List.getElem?_eq_some_iff.1 x).1]; exact x, y.mono mono⟩
  obtain ⟨c, fs, rfl, hf⟩ := F
  have rf2 : Rep h (mmZ M G1.length []) (G1 ++ [O.lst [] false]) fd (.ins c fs) := (rf.mono (ks.rep mh)).mono mono
  have fkey := Vl.fldS_sim (H := H) (f := "spots") s0.wd (.st rf2)
  rw [hf] at fkey
  obtain ⟨sp, G3, e3, k3, w3, r3⟩ := fkey
  have hG3 : G3 = G1 ++ [O.lst [] false] := by
    obtain ⟨n, dfs, rfl, q, r⟩ := (Vl.RepW.st rf2).ins
    unfold fldS at e3
    dsimp only at e3
    rw [q] at e3
    dsimp only at e3
    cases z : dfs.lookup ("spots" : Str) with
    | none => rw [z] at e3; cases e3
    | some y => rw [z] at e3; cases e3; rfl
  subst hG3
  have r3 : Rep h (mmZ M G1.length []) (G1 ++ [O.lst [] false]) sp (spotsV ps) := r3.1
  obtain ⟨items, rfl, ri⟩ := (Vl.RepW.st r3).tup
  have il : items.length = ps.length := by rw [ri.length, List.length_map]
  have loop : (forL none none (.slot 3) (evSs ⟨pc, N⟩ [.asg (.slot 4) (.lc (.var 5) (.slot 5) (.pl (.var 2)) [(.val (.cmp .isn (.call Ir.f_parting_word [(.var 1), (.idx (.var 5) (.con (.int 0))), (.var 3)]) (.con .non)))] [5]),
     .ite (.val (.cmp .gt (.bif .len [(.var 4)]) (.con (.int 0)))) [.expr (.mth .append (.idx (.var 4) (.con (.int 0))) [(.var 3)])] [.expr (.mth .append (.var 2) [(.lst [(.var 3)])])]]) (rangeD 0 ps.length) [some fd, some (.ref st), some (.ref G1.length), none, none, none] (G1 ++ [O.lst [] false])).Is
      fun r => ∃ y3 y4 y5 Z G4, r = (.next, [some fd, some (.ref st), some (.ref G1.length), y3, y4, y5], G4) ∧ StZ h M H G ps st G1.length G1.length Z G4 ∧ Z.map Prod.snd = classesL ps := by
    refine forL_is (fun xs env G' => ∃ c y3 y4 y5 Z, c ≤ ps.length ∧ xs = rangeD (c : Nat) (ps.length - c) ∧ env = [some fd, some (.ref st), some (.ref G1.length), y3, y4, y5] ∧ StZ h M H G ps st G1.length G1.length Z G' ∧ Z.map Prod.snd = lotsN (alike ps) c) (fun _ _ _ _ => ⟨rfl, rfl⟩) ?_ ?_ _ _ _ ⟨0, none, none, none, [], by omega, rfl, rfl, s0, rfl⟩
    · rintro x xs env G' ⟨c, y3, y4, y5, Z, hc, hx, rfl, q, hz⟩
      cases hn : ps.length - c with
      | zero => rw [hn] at hx; cases hx
      | succ m =>
        rw [hn, rangeD_succ] at hx
        obtain ⟨rfl, rfl⟩ := List.cons.inj hx
        refine ⟨_, asgT_slot, ?_⟩
        obtain ⟨z4, z5, Z', G4, e5, q5, hz5⟩ := cls_turn cr m0 mh nd pl (show c < ps.length by omega) vp (fd := fd) (x4 := y4) (x5 := y5) q hz
        simp only [List.set_cons_succ, List.set_cons_zero]
        rw [e5]
        refine .mk ⟨c + 1, _, _, _, Z', by omega, by rw [show ps.length - (c + 1) = m from by omega], rfl, q5, hz5⟩
    · rintro env G' ⟨c, y3, y4, y5, Z, hc, hx, rfl, q, hz⟩
      have : ps.length - c = 0 := by
        cases hn : ps.length - c with
        | zero => rfl
        | succ m => rw [hn, rangeD_succ] at hx; cases hx
      obtain rfl : c = ps.length := by omega
      exact ⟨y3, y4, y5, Z, G', rfl, q, hz⟩
  obtain ⟨_, el, y3, y4, y5, Z, G4, rfl, q, hz⟩ := Is.get loop
  have lc : lcL (some (G1.length, .lst (Z.map fun z => D.ref z.1) false)) none (fLc ⟨pc, N⟩ (.bif .tuple [(.var 5)]) (.slot 5) [] [5] [some fd, some (.ref st), some (.ref G1.length), y3, y4, y5]) (Z.map fun z => D.ref z.1) G4 = .ok ((classesL ps).map (fun l => D.tup (intsD l)), G4) := by
    have key : (lcL (some (G1.length, .lst (Z.map fun z => D.ref z.1) false)) none (fLc ⟨pc, N⟩ (.bif .tuple [(.var 5)]) (.slot 5) [] [5] [some fd, some (.ref st), some (.ref G1.length), y3, y4, y5]) (Z.map fun z => D.ref z.1) G4).Is fun r => r.2 = G4 ∧ ∃ done rest, done ++ rest = Z ∧ [] = rest.map (fun z : Nat × List Nat => D.ref z.1) ∧ ([] ++ r.1) = done.map (fun z => D.tup (intsD z.2)) := by
      refine lcL_is (fun xs l G' => G' = G4 ∧ ∃ done rest, done ++ rest = Z ∧ xs = rest.map (fun z : Nat × List Nat => D.ref z.1) ∧ l = done.map (fun z => D.tup (intsD z.2))) (fun xs l G' ⟨e, _⟩ => ⟨by rw [e]; exact chk_some q.fa, rfl⟩) ?_ _ [] _ ⟨rfl, [], Z, rfl, rfl, rfl⟩
      rintro x xs l G' ⟨rfl, done, rest, e1, e2, rfl⟩
      cases rest with
      | nil => cases e2
      | cons z rest =>
        rw [List.map_cons] at e2
        cases e2
        rw [s_flc (e2 := [some fd, some (.ref st), some (.ref G1.length), y3, y4, some (.ref z.1)]) (by simp only [wipe, asgT_slot, List.set_cons_succ, List.set_cons_zero])]
        have t := tuple_l (q.za z (by rw [← e1]; simp))
        wp_walk using t
        refine ⟨trivial, done ++ [z], rest, by rw [List.append_assoc]; exact e1, rfl, ?_⟩
        rw [List.map_append]; rfl
    obtain ⟨⟨l, G5⟩, e, e0, done, rest, e1, e2, e3⟩ := Is.get key
    have e0 : G5 = G4 := e0
    subst e0
    have : rest = [] := List.map_eq_nil_iff.1 e2.symm
    subst this
    rw [List.append_nil] at e1
    subst e1
    have e3 : l = done.map (fun z => D.tup (intsD z.2)) := e3
    rw [e, e3, ← hz, List.map_map]; rfl
  have cl : (classesL ps).length ≤ 144 := Nat.le_trans (Vl.lots_len _ _) pl
  have mk : kLst ((classesL ps).map (fun l => D.tup (intsD l)), G4) = .ok (.ref G4.length, G4 ++ [.lst ((classesL ps).map (fun l => D.tup (intsD l))) false]) := by
    show mkL _ G4 = _
    unfold mkL
    rw [decide_eq_true (by rw [List.length_map]; unfold lim; omega)]; rfl
  have t := tuple_l (app_at G4 (.lst ((classesL ps).map (fun l => D.tup (intsD l))) false))
  refine ⟨.tup ((classesL ps).map (fun l => D.tup (intsD l))), G4 ++ [.lst ((classesL ps).map (fun l => D.tup (intsD l))) false], ?_, q.ke.trans (Ke.app _ _), ?_, .tup (tups_rep _)⟩
  · unfold Ir.d_classes
    rw [s_run (p := 1) (n := 6) rfl]
    have s1 : kR1 (.int (items.length : Nat), G1 ++ [O.lst [] false]) = .ok ((rangeD 0 ps.length, none, none), G1 ++ [O.lst [] false]) := by rw [il]; exact s_r11 (by omega)
    have mk0 : kLst ([], G1) = .ok (.ref G1.length, G1 ++ [O.lst [] false]) := rfl
    wp_walk using es, mk0, e3, s1, el, s_plr q.fa, lc, mk, t
  · have w4 : Wd h M G4 H := by
      refine ⟨mh, fun n x => Nat.lt_of_lt_of_le (m0 n x) q.ke.1, ?_⟩
      obtain ⟨ds, x, y⟩ := q.wd.hd
      exact ⟨ds, x, y.mono fun n o x e => ⟨fun z => x (.inl z), e⟩⟩
    exact w4.app
/-- what is known otherwise holds -/
theorem orc_ok (hN : 30000 ≤ N) : ∀ K, Vl.OrcOk h Ir.pr N Ir.orc K
  | 0 => fun f n g e k M G H ds vs l1 l2 => by
    have : n = 10 := by
      unfold Ir.orc at e
      split at e
      · cases e; rfl
      · cases e
    omega
  | K + 1 => fun f n g e k M G H ds vs l1 l2 w r => by
    by_cases q : k ≤ K
    · exact orc_ok hN K f n g e k M G H ds vs q l2 w r
    · obtain rfl : k = K + 1 := by omega
      have e0 : f = Ir.f_classes ∧ n = 10 ∧ g = Vl.gClasses := by
        unfold Ir.orc at e
        split at e
        · cases e; exact ⟨by assumption, rfl, rfl⟩
        · cases e
      obtain ⟨rfl, rfl, rfl⟩ := e0
      by_cases hx : ∃ ps f, vs = [f] ∧ IsFloor ps f ∧ ps.Nodup ∧ ps.length ≤ 144
      · obtain ⟨ps, f, rfl, F, nd, pl⟩ := hx
        rw [Vl.gClasses_of F nd pl]
        cases r with
        | cons r1 r2 =>
          cases r2
          rename_i fd
          have cr := Vl.call_sim (orc_ok hN K) K (Nat.le_refl _)
          obtain ⟨j, rfl⟩ : ∃ j, K = j + 1 := ⟨K - 1, by omega⟩
          obtain ⟨d, G', e1, e2, e3, e4⟩ := classes_in cr w nd pl F r1 (Vl.steps_v F nd (by omega)) (fun a b ha hb => Vl.parting_p nd ha hb pl hN)
          have : callP Ir.pr N (j + 1 + 1) Ir.f_classes [fd] G = runFn ⟨callP Ir.pr N (j + 1), N⟩ Ir.d_classes [fd] G := callP_succ rfl
          rw [this]
          exact ⟨d, G', e1, e2, e3, e4⟩
      · have : Vl.gClasses vs H = .stuck := by
          unfold Vl.gClasses
          rw [dif_neg hx]
        rw [this]; trivial
end

section
open Fw
open PySem (Str PyData)
open Vl (Reps Rep Wd Ke SimR)
variable {N k : Nat}
theorem cut63 (ns : List Int) : slS (.ref 0) none (some 63) [.lst (ns.map D.int) true] = .ok (.ref 1, [.lst (ns.map D.int) true, .lst ((ns.take 63).map D.int) false]) := by
  have : cut (ns.map D.int) none (some 63) = (ns.take 63).map D.int := by rw [show (63 : Int) = ((63 : Nat) : Int) from rfl, Vl.cut_to, List.map_take]
  unfold slS
  simp only [List.getElem?_cons_zero]
  rw [this]; rfl
theorem lstN {l : List D} {G : Store} (h : l.length ≤ lim) : kLst (l, G) = .ok (.ref G.length, G ++ [.lst l false]) := by
  show mkL l G = _
  unfold mkL
  rw [decide_eq_true h]; rfl
theorem mul5 {j : Int} {G : Store} : binS .mul (.int 5) (.int j) G = .ok (.int (5 * j), G) := by
  rw [bin_mul_int]; rfl
theorem hand_g (ns : List Int) : ∃ (h m : Nat) (ms : List Int) (c : Int) (G' : Store), callP Ir.pr N (k + 1) Ir.f__law_hand [.ref 0] [.lst (ns.map D.int) true] = .ok (.ref h, G') ∧ G'[h]? = some (.lst [.ref m, .int 0, .int 0, .int c, .int 0] false) ∧ G'[m]? = some (.lst (ms.map D.int) false) ∧ m ≠ h := by
  have key : (callP Ir.pr N (k + 1) Ir.f__law_hand [.ref 0] [.lst (ns.map D.int) true]).Is fun q => ∃ (h m : Nat) (ms : List Int) (c : Int) (G' : Store), q = (.ref h, G') ∧ G'[h]? = some (.lst [.ref m, .int 0, .int 0, .int c, .int 0] false) ∧ G'[m]? = some (.lst (ms.map D.int) false) ∧ m ≠ h := by
    rw [call_run Ir.d__law_hand rfl rfl]
    unfold Ir.d__law_hand
    have c1 := cut63 ns
    have p1 := s_plr (G := [.lst (ns.map D.int) true, .lst ((ns.take 63).map D.int) false]) (n := 1) rfl
    have l1 := lcL_pure (f := fLc ⟨callP Ir.pr N k, N⟩ (.bif .abs [(.bif .int [(.var 2)])]) (.slot 2) [] [2] [some (.ref 0), none, none]) (G := [.lst (ns.map D.int) true, .lst ((ns.take 63).map D.int) false]) (c := some (1, .lst ((ns.take 63).map D.int) false)) (c' := none) (chk_some rfl) rfl (fun d => match d with
      | .int i => some (.int (if i < 0 then -i else i))
      | _ => none) ((ns.take 63).map D.int) (by
        intro d m
        obtain ⟨i, _, rfl⟩ := List.mem_map.1 m
        rw [s_flc (e2 := [some (.ref 0), none, some (.int i)]) (by simp only [wipe, asgT_slot, List.set_cons_succ, List.set_cons_zero])]
        wp_walk)
    have e1 : ((ns.take 63).map D.int).filterMap (fun d => match d with
      | .int i => some (D.int (if i < 0 then -i else i))
      | _ => none) = ((ns.take 63).map fun i => if i < 0 then -i else i).map D.int := by
      induction ns.take 63 with
      | nil => rfl
      | cons a l ih => simp only [List.map_cons, List.filterMap_cons, ih]
    rw [e1] at l1
    have l2 : ((ns.take 63).map fun i => if i < 0 then -i else i).length ≤ 63 := by rw [List.length_map, List.length_take]; omega
    generalize (ns.take 63).map (fun i => if i < 0 then -i else i) = ms at l1 l2
    have l3 : (ms.map D.int).length ≤ lim := by rw [List.length_map]; unfold lim; omega
    have l4 := len_lst (G := [.lst (ns.map D.int) true, .lst ((ns.take 63).map D.int) false, .lst (ms.map D.int) false]) (n := 2) rfl
    wp_walk using c1, p1, l1, lstN l3, l4, mul5, List.length_cons, List.length_nil
    exact ⟨3, 2, ms, _, _, rfl, rfl, rfl, by decide⟩
  obtain ⟨q, e, h, m, ms, c, G', rfl, h1, h2, h3⟩ := Is.get key
  exact ⟨h, m, ms, c, G', e, h1, h2, h3⟩
theorem law_end (ok : ∀ h, Vl.OrcOk h Ir.pr N Ir.orc (k + 1)) {n : Nat} {rest : List S} (hd : Ir.d_law = ⟨1, n + 2, .asg (.slot 1) (.call Ir.f__law_hand [.var 0]) :: rest⟩)
    (hv : ∀ H, Vl.HandOk H → (Vl.evSs (Vl.vctx Ir.pr N Ir.orc (k + 1)) rest (none :: some (.val .hand) :: List.replicate n none) H).Is fun r => r.1 = .ret (.bl true)) (ns : List Int) :
    ∃ G', callP Ir.pr N (k + 2) Ir.f_law [.ref 0] [.lst (ns.map D.int) true] = .ok (.bl true, G') := by
  obtain ⟨h, m, ms, c, G, e1, e2, e3, e4⟩ := hand_g (N := N) (k := k) ns
  have hh := at_lt e2
  have rms : ∀ l : List Int, Reps h (· = h) G (l.map D.int) (l.map Vl.V.int) := by
    intro l
    induction l with
    | nil => exact .nil
    | cons a l ih => exact .cons (.int a) ih
  have w : Wd h (· = h) G [.lst (ms.map .int), .int ((0 : Nat) : Int), .int 0, .int c, .int 0] := ⟨rfl, fun x e => by rw [e]; exact hh, _, e2, .cons (.obj e4 e3 (.lst (rms ms))) (.cons (.int _) (.cons (.int _) (.cons (.int _) (.cons (.int _) .nil))))⟩
  have q : Vl.EnvR G.length 0 h (· = h) G (some (.ref 0) :: some (.ref h) :: List.replicate n none) (none :: some (.val .hand) :: List.replicate n none) := by
    refine ⟨Nat.le_refl _, by simp, fun i v e => ?_, fun i s v e => ?_, fun i j s s' v v' n' e => ?_⟩
    · match i, e with
      | 1, e => cases e; exact ⟨_, rfl, .hand⟩
      | i + 2, e =>
        have := List.mem_of_getElem? (show (List.replicate n (none : Option Vl.Sl))[i]? = _ from e)
        simp at this
    · match i, e with
      | i + 2, e =>
        have := List.mem_of_getElem? (show (List.replicate n (none : Option Vl.Sl))[i]? = _ from e)
        simp at this
    · match i, e with
      | i + 2, e =>
        have := List.mem_of_getElem? (show (List.replicate n (none : Option Vl.Sl))[i]? = _ from e)
        simp at this
  have cr := Vl.call_sim (ok h) (k + 1) (Nat.le_refl _)
  have key := Vl.simSs cr rest w q
  obtain ⟨⟨fl, ve, H'⟩, ev, hr⟩ := (hv _ ⟨ms, 0, 0, c, 0, rfl⟩).get
  have hr : fl = .ret (.bl true) := hr
  subst hr
  rw [ev] at key
  obtain ⟨⟨fd, e2', Gx⟩, G1, M1, ex, st, hG, w1, q1, fr⟩ := key
  have fr : Vl.FlR h M1 G1 fd (.ret (.bl true)) := fr
  refine ⟨Gx, ?_⟩
  rw [callP_succ (show Ir.pr[Ir.f_law]? = some Ir.d_law from rfl), hd, s_run (p := 1) (n := n + 2) rfl]
  show ((evSs _ _ (some (.ref 0) :: none :: List.replicate n none) _).bind kRun) = _
  have e1' : callP Ir.pr N (k + 1) Ir.f__law_hand [.ref 0] [.lst (ns.map D.int) true] = .ok (.ref h, G) := e1
  rw [s_ss]
  have a1 : evS ⟨callP Ir.pr N (k + 1), N⟩ (.asg (.slot 1) (.call Ir.f__law_hand [.var 0])) (some (.ref 0) :: none :: List.replicate n none) [.lst (ns.map D.int) true] = .ok (.next, some (.ref 0) :: some (.ref h) :: List.replicate n none, G) := by
    wp_walk using e1'
  rw [a1, Res.bind_ok, s_ssn, ex]
  cases fr with
  | ret r =>
    cases (Vl.RepW.st r).bl
    rfl
end

end Wp

namespace Law
abbrev fuel : Nat := 30000
abbrev dep : Nat := 20
end Law

/-! Vk88z: the law holds, in the small language. -/
namespace Law
open Fw
theorem law_holds : ∀ ns : List Int, ns.length ≤ 63 → ∃ G', Fw.callP Ir.pr Law.fuel Law.dep Ir.f_law [.ref 0] [.lst (ns.map D.int) true] = .ok (.bl true, G') := fun ns _ =>
  Wp.law_end (N := 30000) (k := 18) (fun h => Wp.orc_ok (Nat.le_refl _) _) (n := 2) (rest := Ir.d_law.body.tail) rfl (fun H h => Vl.law_v (k := 7) (Nat.le_refl _) h) ns
end Law

namespace Hd
open PySem PySem.Spec PyProof.Rows L2
def topS (i : Nat) : Stmt := PySem.Challenge.pw_everybrought_k88_whole_felt_and_told_apa.main.body.getD i (.Pass ⟨0, 0, 0, 0⟩)
def clsB (s : Stmt) : List Stmt := match s with
  | .ClassDef _ _ _ b _ _ _ _ _ _ _ => b
  | _ => []
def mthS (i j : Nat) : Stmt := (clsB (topS i)).getD j (.Pass ⟨0, 0, 0, 0⟩)
def dd (at_ : Str × Option Str) (n qn : Str) (st : Stmt) : He.DefD := ⟨at_, n, qn, defArgs st, defBody st, defScope st, [], []⟩
def fn0 : List He.DefD := [dd ("is_integer", none) "is_integer" "is_integer" (topS 6),
  dd ("is_within", none) "is_within" "is_within" (topS 7),
  dd ("is_below", none) "is_below" "is_below" (topS 8),
  dd ("is_sized", none) "is_sized" "is_sized" (topS 9),
  dd ("steps_of", none) "steps_of" "steps_of" (topS 13),
  dd ("check_word", none) "check_word" "check_word" (topS 14),
  dd ("feel", none) "feel" "feel" (topS 15),
  dd ("check_cell", none) "check_cell" "check_cell" (topS 16),
  dd ("felt", none) "felt" "felt" (topS 17),
  dd ("parting_word", none) "parting_word" "parting_word" (topS 18),
  dd ("told_apart", none) "told_apart" "told_apart" (topS 19),
  dd ("classes", none) "classes" "classes" (topS 20),
  dd ("is_row", none) "is_row" "is_row" (topS 28),
  dd ("Floor", some "__init__") "__init__" "Floor.__init__" (mthS 29 0),
  dd ("Floor", some "__eq__") "__eq__" "Floor.__eq__" (mthS 29 1),
  dd ("all_spots", none) "all_spots" "all_spots" (topS 30),
  dd ("all_ties", none) "all_ties" "all_ties" (topS 31),
  dd ("spots_of", none) "spots_of" "spots_of" (topS 32),
  dd ("_law_hand", none) "_law_hand" "_law_hand" (topS 34),
  dd ("_law_draw", none) "_law_draw" "_law_draw" (topS 35),
  dd ("_law_any", none) "_law_any" "_law_any" (topS 36),
  dd ("_law_rows", none) "_law_rows" "_law_rows" (topS 37),
  dd ("_law_drawn", none) "_law_drawn" "_law_drawn" (topS 38),
  dd ("_law_places", none) "_law_places" "_law_places" (topS 39),
  dd ("_law_goals", none) "_law_goals" "_law_goals" (topS 40),
  dd ("_law_word", none) "_law_word" "_law_word" (topS 41),
  dd ("_law_feel", none) "_law_feel" "_law_feel" (topS 42),
  dd ("_law_parting", none) "_law_parting" "_law_parting" (topS 43),
  dd ("_law_is_felt_right", none) "_law_is_felt_right" "_law_is_felt_right" (topS 44),
  dd ("_law_is_apart_right", none) "_law_is_apart_right" "_law_is_apart_right" (topS 45)]
def fn1 : List He.DefD := [dd ("_law_is_right", none) "_law_is_right" "_law_is_right" (topS 46),
  dd ("law", none) "law" "law" (topS 47)]
def fn : List He.DefD := fn0 ++ fn1
def fa0 : List He.Fa := [.glo "FloorError",
  .glo "BadFloor",
  .glo "NoCell",
  .glo "NoMoves",
  .glo "is_integer",
  .glo "is_within",
  .glo "is_below",
  .glo "is_sized",
  .glo "steps_of",
  .glo "check_word",
  .glo "feel",
  .glo "check_cell",
  .glo "felt",
  .glo "parting_word",
  .glo "told_apart",
  .glo "classes",
  .glo "is_row",
  .glo "Floor",
  .glo "all_spots",
  .glo "all_ties",
  .glo "spots_of",
  .glo "_law_hand",
  .glo "_law_draw",
  .glo "_law_any",
  .glo "_law_rows",
  .glo "_law_drawn",
  .glo "_law_places",
  .glo "_law_goals",
  .glo "_law_word",
  .glo "_law_feel"]
def fa1 : List He.Fa := [.glo "_law_parting",
  .glo "_law_is_felt_right",
  .glo "_law_is_apart_right",
  .glo "_law_is_right",
  .glo "law",
  .free "ValueError",
  .free "abs",
  .free "all",
  .free "bool",
  .free "enumerate",
  .free "int",
  .free "isinstance",
  .free "len",
  .free "range",
  .free "repr",
  .free "sorted",
  .free "str",
  .free "sum",
  .free "tuple",
  .str "SIGNS" "udlr",
  .int "MOST_WORD" 5000,
  .int "MOST_ROWS" 12,
  .int "MOST_HOMES" 6,
  .str "FREE" ".",
  .str "WALL" "#",
  .str "HOME" "H",
  .str "STATION" "S",
  .cls "Floor",
  .mkr "Floor",
  .noat "Floor" "rests"]
def fa2 : List He.Fa := [.noat "Floor" "rows",
  .noat "Floor" "spots",
  .noat "Floor" "stops",
  .noat "Floor" "ties"]
def fa : List He.Fa := fa0 ++ fa1 ++ fa2
def loose0 : List PySem.Str := ["FloorError",
  "BadFloor",
  "NoCell",
  "NoMoves",
  "is_integer",
  "is_within",
  "is_below",
  "is_sized",
  "SIGNS",
  "MOST_WORD",
  "steps_of",
  "check_word",
  "feel",
  "check_cell",
  "felt",
  "parting_word",
  "told_apart",
  "classes",
  "MOST_ROWS",
  "MOST_HOMES",
  "FREE",
  "WALL",
  "HOME",
  "STATION",
  "is_row",
  "Floor",
  "all_spots",
  "all_ties",
  "spots_of",
  "_law_hand"]
def loose1 : List PySem.Str := ["_law_draw",
  "_law_any",
  "_law_rows",
  "_law_drawn",
  "_law_places",
  "_law_goals",
  "_law_word",
  "_law_feel",
  "_law_parting",
  "_law_is_felt_right",
  "_law_is_apart_right",
  "_law_is_right"]
def loose : List PySem.Str := loose0 ++ loose1
abbrev R : PySem.W.OpenRow := PySem.W.OpenLaw.row PySem.Challenge.rw_everybrought_k88_whole_felt_and_told_apa
abbrev hk : PySem.W.Hook := He.hookD 6 fa fn
def ob (s : PySem.W.SharedT) : He.AlD := He.obsDG 6 fa fn (HandSHeadRun.getT s)
theorem ob_eq (s : PySem.W.SharedT) : ob s = hk.obs s.abs := He.obsDG_eq (HandSHeadRun.getT_eq s)
theorem run (w : World) : HandSHeadRun.RunEq R (PySem.W.view R.prog [47]) hk ob 3000 loose w := by
  intro os
  kernel_rfl
end Hd

namespace Pg
open PySem PySem.Spec PyProof.Rows L2 Fw Ir
def fns : List (Str × Nat) := [("is_integer", f_is_integer), ("is_within", f_is_within), ("is_below", f_is_below), ("is_sized", f_is_sized), ("steps_of", f_steps_of), ("check_word", f_check_word), ("feel", f_feel), ("check_cell", f_check_cell), ("felt", f_felt), ("parting_word", f_parting_word), ("told_apart", f_told_apart), ("classes", f_classes), ("is_row", f_is_row), ("all_spots", f_all_spots), ("all_ties", f_all_ties), ("spots_of", f_spots_of), ("_law_hand", f__law_hand), ("_law_draw", f__law_draw), ("_law_any", f__law_any), ("_law_rows", f__law_rows), ("_law_drawn", f__law_drawn), ("_law_places", f__law_places), ("_law_goals", f__law_goals), ("_law_word", f__law_word), ("_law_feel", f__law_feel), ("_law_parting", f__law_parting), ("_law_is_felt_right", f__law_is_felt_right), ("_law_is_apart_right", f__law_is_apart_right), ("_law_is_right", f__law_is_right), ("law", f_law)]
def cls : List (Str × Nat × Nat) := [("Floor", 4, f_Floor_init)]
def con : List (Str × D) := [("SIGNS", .str [117, 100, 108, 114]), ("MOST_WORD", .int 5000), ("MOST_ROWS", .int 12), ("MOST_HOMES", .int 6), ("FREE", .str [46]), ("WALL", .str [35]), ("HOME", .str [72]), ("STATION", .str [83])]
def free : List Str := ["ValueError", "abs", "all", "bool", "enumerate", "int", "isinstance", "len", "range", "repr", "sorted", "str", "sum", "tuple"]
def flds : List Str := ["rests", "rows", "spots", "stops", "ties"]
def L : Lk := ⟨fns, cls, con, free, flds⟩
def cad (K : PySem.W.Frag) : Nat → Addr
  | 4 => He.ga K "Floor"
  | _ => 0
def fad (K : PySem.W.Frag) : Nat → Addr
  | 0 => He.fAd K ("is_integer", none)
  | 1 => He.fAd K ("is_within", none)
  | 2 => He.fAd K ("is_below", none)
  | 3 => He.fAd K ("is_sized", none)
  | 4 => He.fAd K ("steps_of", none)
  | 5 => He.fAd K ("check_word", none)
  | 6 => He.fAd K ("feel", none)
  | 7 => He.fAd K ("check_cell", none)
  | 8 => He.fAd K ("felt", none)
  | 9 => He.fAd K ("parting_word", none)
  | 10 => He.fAd K ("told_apart", none)
  | 11 => He.fAd K ("classes", none)
  | 12 => He.fAd K ("is_row", none)
  | 13 => He.fAd K ("Floor", some "__init__")
  | 14 => He.fAd K ("Floor", some "__eq__")
  | 15 => He.fAd K ("all_spots", none)
  | 16 => He.fAd K ("all_ties", none)
  | 17 => He.fAd K ("spots_of", none)
  | 18 => He.fAd K ("_law_hand", none)
  | 19 => He.fAd K ("_law_draw", none)
  | 20 => He.fAd K ("_law_any", none)
  | 21 => He.fAd K ("_law_rows", none)
  | 22 => He.fAd K ("_law_drawn", none)
  | 23 => He.fAd K ("_law_places", none)
  | 24 => He.fAd K ("_law_goals", none)
  | 25 => He.fAd K ("_law_word", none)
  | 26 => He.fAd K ("_law_feel", none)
  | 27 => He.fAd K ("_law_parting", none)
  | 28 => He.fAd K ("_law_is_felt_right", none)
  | 29 => He.fAd K ("_law_is_apart_right", none)
  | 30 => He.fAd K ("_law_is_right", none)
  | 31 => He.fAd K ("law", none)
  | _ => 0
abbrev wd (P : Program) (w : World) (K : PySem.W.Frag) (mg : Str → Option Value) (base : Heap) : Wd := ⟨P, w, K, mg, base, cad K, fad K, flds⟩
theorem ok_0 : okD L n_is_integer d_is_integer (Hd.dd ("is_integer", none) "is_integer" "is_integer" (Hd.topS 6)) = true := by kernel_rfl
theorem ok_1 : okD L n_is_within d_is_within (Hd.dd ("is_within", none) "is_within" "is_within" (Hd.topS 7)) = true := by kernel_rfl
theorem ok_2 : okD L n_is_below d_is_below (Hd.dd ("is_below", none) "is_below" "is_below" (Hd.topS 8)) = true := by kernel_rfl
theorem ok_3 : okD L n_is_sized d_is_sized (Hd.dd ("is_sized", none) "is_sized" "is_sized" (Hd.topS 9)) = true := by kernel_rfl
theorem ok_4 : okD L n_steps_of d_steps_of (Hd.dd ("steps_of", none) "steps_of" "steps_of" (Hd.topS 13)) = true := by kernel_rfl
theorem ok_5 : okD L n_check_word d_check_word (Hd.dd ("check_word", none) "check_word" "check_word" (Hd.topS 14)) = true := by kernel_rfl
theorem ok_6 : okD L n_feel d_feel (Hd.dd ("feel", none) "feel" "feel" (Hd.topS 15)) = true := by kernel_rfl
theorem ok_7 : okD L n_check_cell d_check_cell (Hd.dd ("check_cell", none) "check_cell" "check_cell" (Hd.topS 16)) = true := by kernel_rfl
theorem ok_8 : okD L n_felt d_felt (Hd.dd ("felt", none) "felt" "felt" (Hd.topS 17)) = true := by kernel_rfl
theorem ok_9 : okD L n_parting_word d_parting_word (Hd.dd ("parting_word", none) "parting_word" "parting_word" (Hd.topS 18)) = true := by kernel_rfl
theorem ok_10 : okD L n_told_apart d_told_apart (Hd.dd ("told_apart", none) "told_apart" "told_apart" (Hd.topS 19)) = true := by kernel_rfl
theorem ok_11 : okD L n_classes d_classes (Hd.dd ("classes", none) "classes" "classes" (Hd.topS 20)) = true := by kernel_rfl
theorem ok_12 : okD L n_is_row d_is_row (Hd.dd ("is_row", none) "is_row" "is_row" (Hd.topS 28)) = true := by kernel_rfl
theorem ok_13 : okD L n_Floor_init d_Floor_init (Hd.dd ("Floor", some "__init__") "__init__" "Floor.__init__" (Hd.mthS 29 0)) = true := by kernel_rfl
theorem ok_15 : okD L n_all_spots d_all_spots (Hd.dd ("all_spots", none) "all_spots" "all_spots" (Hd.topS 30)) = true := by kernel_rfl
theorem ok_16 : okD L n_all_ties d_all_ties (Hd.dd ("all_ties", none) "all_ties" "all_ties" (Hd.topS 31)) = true := by kernel_rfl
theorem ok_17 : okD L n_spots_of d_spots_of (Hd.dd ("spots_of", none) "spots_of" "spots_of" (Hd.topS 32)) = true := by kernel_rfl
theorem ok_18 : okD L n__law_hand d__law_hand (Hd.dd ("_law_hand", none) "_law_hand" "_law_hand" (Hd.topS 34)) = true := by kernel_rfl
theorem ok_19 : okD L n__law_draw d__law_draw (Hd.dd ("_law_draw", none) "_law_draw" "_law_draw" (Hd.topS 35)) = true := by kernel_rfl
theorem ok_20 : okD L n__law_any d__law_any (Hd.dd ("_law_any", none) "_law_any" "_law_any" (Hd.topS 36)) = true := by kernel_rfl
theorem ok_21 : okD L n__law_rows d__law_rows (Hd.dd ("_law_rows", none) "_law_rows" "_law_rows" (Hd.topS 37)) = true := by kernel_rfl
theorem ok_22 : okD L n__law_drawn d__law_drawn (Hd.dd ("_law_drawn", none) "_law_drawn" "_law_drawn" (Hd.topS 38)) = true := by kernel_rfl
theorem ok_23 : okD L n__law_places d__law_places (Hd.dd ("_law_places", none) "_law_places" "_law_places" (Hd.topS 39)) = true := by kernel_rfl
theorem ok_24 : okD L n__law_goals d__law_goals (Hd.dd ("_law_goals", none) "_law_goals" "_law_goals" (Hd.topS 40)) = true := by kernel_rfl
theorem ok_25 : okD L n__law_word d__law_word (Hd.dd ("_law_word", none) "_law_word" "_law_word" (Hd.topS 41)) = true := by kernel_rfl
theorem ok_26 : okD L n__law_feel d__law_feel (Hd.dd ("_law_feel", none) "_law_feel" "_law_feel" (Hd.topS 42)) = true := by kernel_rfl
theorem ok_27 : okD L n__law_parting d__law_parting (Hd.dd ("_law_parting", none) "_law_parting" "_law_parting" (Hd.topS 43)) = true := by kernel_rfl
theorem ok_28 : okD L n__law_is_felt_right d__law_is_felt_right (Hd.dd ("_law_is_felt_right", none) "_law_is_felt_right" "_law_is_felt_right" (Hd.topS 44)) = true := by kernel_rfl
theorem ok_29 : okD L n__law_is_apart_right d__law_is_apart_right (Hd.dd ("_law_is_apart_right", none) "_law_is_apart_right" "_law_is_apart_right" (Hd.topS 45)) = true := by kernel_rfl
theorem ok_30 : okD L n__law_is_right d__law_is_right (Hd.dd ("_law_is_right", none) "_law_is_right" "_law_is_right" (Hd.topS 46)) = true := by kernel_rfl
theorem ok_31 : okD L n_law d_law (Hd.dd ("law", none) "law" "law" (Hd.topS 47)) = true := by kernel_rfl
section
variable {P : Program} {w : World} {K : PySem.W.Frag} {mg : Str → Option Value} {base : Heap}
theorem df_0 (c : He.SaysD Hd.fa Hd.fn K) : DefOk (wd P w K mg base) L 0 d_is_integer := def_of (W := wd P w K mg base) (f := 0) c (i := 0) (dd := Hd.dd ("is_integer", none) "is_integer" "is_integer" (Hd.topS 6)) (N := n_is_integer) rfl rfl ⟨rfl, rfl⟩ (fun _ _ _ _ _ _ us hl => match us, hl with | [_], _ => rfl) ok_0
theorem df_1 (c : He.SaysD Hd.fa Hd.fn K) : DefOk (wd P w K mg base) L 1 d_is_within := def_of (W := wd P w K mg base) (f := 1) c (i := 1) (dd := Hd.dd ("is_within", none) "is_within" "is_within" (Hd.topS 7)) (N := n_is_within) rfl rfl ⟨rfl, rfl⟩ (fun _ _ _ _ _ _ us hl => match us, hl with | [_, _, _], _ => rfl) ok_1
theorem df_2 (c : He.SaysD Hd.fa Hd.fn K) : DefOk (wd P w K mg base) L 2 d_is_below := def_of (W := wd P w K mg base) (f := 2) c (i := 2) (dd := Hd.dd ("is_below", none) "is_below" "is_below" (Hd.topS 8)) (N := n_is_below) rfl rfl ⟨rfl, rfl⟩ (fun _ _ _ _ _ _ us hl => match us, hl with | [_, _], _ => rfl) ok_2
theorem df_3 (c : He.SaysD Hd.fa Hd.fn K) : DefOk (wd P w K mg base) L 3 d_is_sized := def_of (W := wd P w K mg base) (f := 3) c (i := 3) (dd := Hd.dd ("is_sized", none) "is_sized" "is_sized" (Hd.topS 9)) (N := n_is_sized) rfl rfl ⟨rfl, rfl⟩ (fun _ _ _ _ _ _ us hl => match us, hl with | [_, _, _], _ => rfl) ok_3
theorem df_4 (c : He.SaysD Hd.fa Hd.fn K) : DefOk (wd P w K mg base) L 4 d_steps_of := def_of (W := wd P w K mg base) (f := 4) c (i := 4) (dd := Hd.dd ("steps_of", none) "steps_of" "steps_of" (Hd.topS 13)) (N := n_steps_of) rfl rfl ⟨rfl, rfl⟩ (fun _ _ _ _ _ _ us hl => match us, hl with | [_], _ => rfl) ok_4
theorem df_5 (c : He.SaysD Hd.fa Hd.fn K) : DefOk (wd P w K mg base) L 5 d_check_word := def_of (W := wd P w K mg base) (f := 5) c (i := 5) (dd := Hd.dd ("check_word", none) "check_word" "check_word" (Hd.topS 14)) (N := n_check_word) rfl rfl ⟨rfl, rfl⟩ (fun _ _ _ _ _ _ us hl => match us, hl with | [_], _ => rfl) ok_5
theorem df_6 (c : He.SaysD Hd.fa Hd.fn K) : DefOk (wd P w K mg base) L 6 d_feel := def_of (W := wd P w K mg base) (f := 6) c (i := 6) (dd := Hd.dd ("feel", none) "feel" "feel" (Hd.topS 15)) (N := n_feel) rfl rfl ⟨rfl, rfl⟩ (fun _ _ _ _ _ _ us hl => match us, hl with | [_, _, _], _ => rfl) ok_6
theorem df_7 (c : He.SaysD Hd.fa Hd.fn K) : DefOk (wd P w K mg base) L 7 d_check_cell := def_of (W := wd P w K mg base) (f := 7) c (i := 7) (dd := Hd.dd ("check_cell", none) "check_cell" "check_cell" (Hd.topS 16)) (N := n_check_cell) rfl rfl ⟨rfl, rfl⟩ (fun _ _ _ _ _ _ us hl => match us, hl with | [_, _], _ => rfl) ok_7
theorem df_8 (c : He.SaysD Hd.fa Hd.fn K) : DefOk (wd P w K mg base) L 8 d_felt := def_of (W := wd P w K mg base) (f := 8) c (i := 8) (dd := Hd.dd ("felt", none) "felt" "felt" (Hd.topS 17)) (N := n_felt) rfl rfl ⟨rfl, rfl⟩ (fun _ _ _ _ _ _ us hl => match us, hl with | [_, _, _], _ => rfl) ok_8
theorem df_9 (c : He.SaysD Hd.fa Hd.fn K) : DefOk (wd P w K mg base) L 9 d_parting_word := def_of (W := wd P w K mg base) (f := 9) c (i := 9) (dd := Hd.dd ("parting_word", none) "parting_word" "parting_word" (Hd.topS 18)) (N := n_parting_word) rfl rfl ⟨rfl, rfl⟩ (fun _ _ _ _ _ _ us hl => match us, hl with | [_, _, _], _ => rfl) ok_9
theorem df_10 (c : He.SaysD Hd.fa Hd.fn K) : DefOk (wd P w K mg base) L 10 d_told_apart := def_of (W := wd P w K mg base) (f := 10) c (i := 10) (dd := Hd.dd ("told_apart", none) "told_apart" "told_apart" (Hd.topS 19)) (N := n_told_apart) rfl rfl ⟨rfl, rfl⟩ (fun _ _ _ _ _ _ us hl => match us, hl with | [_, _, _], _ => rfl) ok_10
theorem df_11 (c : He.SaysD Hd.fa Hd.fn K) : DefOk (wd P w K mg base) L 11 d_classes := def_of (W := wd P w K mg base) (f := 11) c (i := 11) (dd := Hd.dd ("classes", none) "classes" "classes" (Hd.topS 20)) (N := n_classes) rfl rfl ⟨rfl, rfl⟩ (fun _ _ _ _ _ _ us hl => match us, hl with | [_], _ => rfl) ok_11
theorem df_12 (c : He.SaysD Hd.fa Hd.fn K) : DefOk (wd P w K mg base) L 12 d_is_row := def_of (W := wd P w K mg base) (f := 12) c (i := 12) (dd := Hd.dd ("is_row", none) "is_row" "is_row" (Hd.topS 28)) (N := n_is_row) rfl rfl ⟨rfl, rfl⟩ (fun _ _ _ _ _ _ us hl => match us, hl with | [_], _ => rfl) ok_12
theorem df_13 (c : He.SaysD Hd.fa Hd.fn K) : DefOk (wd P w K mg base) L 13 d_Floor_init := def_of (W := wd P w K mg base) (f := 13) c (i := 13) (dd := Hd.dd ("Floor", some "__init__") "__init__" "Floor.__init__" (Hd.mthS 29 0)) (N := n_Floor_init) rfl rfl ⟨rfl, rfl⟩ (fun _ _ _ _ _ _ us hl => match us, hl with | [_, _], _ => rfl) ok_13
theorem df_15 (c : He.SaysD Hd.fa Hd.fn K) : DefOk (wd P w K mg base) L 15 d_all_spots := def_of (W := wd P w K mg base) (f := 15) c (i := 15) (dd := Hd.dd ("all_spots", none) "all_spots" "all_spots" (Hd.topS 30)) (N := n_all_spots) rfl rfl ⟨rfl, rfl⟩ (fun _ _ _ _ _ _ us hl => match us, hl with | [_], _ => rfl) ok_15
theorem df_16 (c : He.SaysD Hd.fa Hd.fn K) : DefOk (wd P w K mg base) L 16 d_all_ties := def_of (W := wd P w K mg base) (f := 16) c (i := 16) (dd := Hd.dd ("all_ties", none) "all_ties" "all_ties" (Hd.topS 31)) (N := n_all_ties) rfl rfl ⟨rfl, rfl⟩ (fun _ _ _ _ _ _ us hl => match us, hl with | [_], _ => rfl) ok_16
theorem df_17 (c : He.SaysD Hd.fa Hd.fn K) : DefOk (wd P w K mg base) L 17 d_spots_of := def_of (W := wd P w K mg base) (f := 17) c (i := 17) (dd := Hd.dd ("spots_of", none) "spots_of" "spots_of" (Hd.topS 32)) (N := n_spots_of) rfl rfl ⟨rfl, rfl⟩ (fun _ _ _ _ _ _ us hl => match us, hl with | [_, _, _], _ => rfl) ok_17
theorem df_18 (c : He.SaysD Hd.fa Hd.fn K) : DefOk (wd P w K mg base) L 18 d__law_hand := def_of (W := wd P w K mg base) (f := 18) c (i := 18) (dd := Hd.dd ("_law_hand", none) "_law_hand" "_law_hand" (Hd.topS 34)) (N := n__law_hand) rfl rfl ⟨rfl, rfl⟩ (fun _ _ _ _ _ _ us hl => match us, hl with | [_], _ => rfl) ok_18
theorem df_19 (c : He.SaysD Hd.fa Hd.fn K) : DefOk (wd P w K mg base) L 19 d__law_draw := def_of (W := wd P w K mg base) (f := 19) c (i := 19) (dd := Hd.dd ("_law_draw", none) "_law_draw" "_law_draw" (Hd.topS 35)) (N := n__law_draw) rfl rfl ⟨rfl, rfl⟩ (fun _ _ _ _ _ _ us hl => match us, hl with | [_, _], _ => rfl) ok_19
theorem df_20 (c : He.SaysD Hd.fa Hd.fn K) : DefOk (wd P w K mg base) L 20 d__law_any := def_of (W := wd P w K mg base) (f := 20) c (i := 20) (dd := Hd.dd ("_law_any", none) "_law_any" "_law_any" (Hd.topS 36)) (N := n__law_any) rfl rfl ⟨rfl, rfl⟩ (fun _ _ _ _ _ _ us hl => match us, hl with | [_, _], _ => rfl) ok_20
theorem df_21 (c : He.SaysD Hd.fa Hd.fn K) : DefOk (wd P w K mg base) L 21 d__law_rows := def_of (W := wd P w K mg base) (f := 21) c (i := 21) (dd := Hd.dd ("_law_rows", none) "_law_rows" "_law_rows" (Hd.topS 37)) (N := n__law_rows) rfl rfl ⟨rfl, rfl⟩ (fun _ _ _ _ _ _ us hl => match us, hl with | [_, _, _, _], _ => rfl) ok_21
theorem df_22 (c : He.SaysD Hd.fa Hd.fn K) : DefOk (wd P w K mg base) L 22 d__law_drawn := def_of (W := wd P w K mg base) (f := 22) c (i := 22) (dd := Hd.dd ("_law_drawn", none) "_law_drawn" "_law_drawn" (Hd.topS 38)) (N := n__law_drawn) rfl rfl ⟨rfl, rfl⟩ (fun _ _ _ _ _ _ us hl => match us, hl with | [_], _ => rfl) ok_22
theorem df_23 (c : He.SaysD Hd.fa Hd.fn K) : DefOk (wd P w K mg base) L 23 d__law_places := def_of (W := wd P w K mg base) (f := 23) c (i := 23) (dd := Hd.dd ("_law_places", none) "_law_places" "_law_places" (Hd.topS 39)) (N := n__law_places) rfl rfl ⟨rfl, rfl⟩ (fun _ _ _ _ _ _ us hl => match us, hl with | [_], _ => rfl) ok_23
theorem df_24 (c : He.SaysD Hd.fa Hd.fn K) : DefOk (wd P w K mg base) L 24 d__law_goals := def_of (W := wd P w K mg base) (f := 24) c (i := 24) (dd := Hd.dd ("_law_goals", none) "_law_goals" "_law_goals" (Hd.topS 40)) (N := n__law_goals) rfl rfl ⟨rfl, rfl⟩ (fun _ _ _ _ _ _ us hl => match us, hl with | [_], _ => rfl) ok_24
theorem df_25 (c : He.SaysD Hd.fa Hd.fn K) : DefOk (wd P w K mg base) L 25 d__law_word := def_of (W := wd P w K mg base) (f := 25) c (i := 25) (dd := Hd.dd ("_law_word", none) "_law_word" "_law_word" (Hd.topS 41)) (N := n__law_word) rfl rfl ⟨rfl, rfl⟩ (fun _ _ _ _ _ _ us hl => match us, hl with | [_, _], _ => rfl) ok_25
theorem df_26 (c : He.SaysD Hd.fa Hd.fn K) : DefOk (wd P w K mg base) L 26 d__law_feel := def_of (W := wd P w K mg base) (f := 26) c (i := 26) (dd := Hd.dd ("_law_feel", none) "_law_feel" "_law_feel" (Hd.topS 42)) (N := n__law_feel) rfl rfl ⟨rfl, rfl⟩ (fun _ _ _ _ _ _ us hl => match us, hl with | [_, _, _], _ => rfl) ok_26
theorem df_27 (c : He.SaysD Hd.fa Hd.fn K) : DefOk (wd P w K mg base) L 27 d__law_parting := def_of (W := wd P w K mg base) (f := 27) c (i := 27) (dd := Hd.dd ("_law_parting", none) "_law_parting" "_law_parting" (Hd.topS 43)) (N := n__law_parting) rfl rfl ⟨rfl, rfl⟩ (fun _ _ _ _ _ _ us hl => match us, hl with | [_, _, _], _ => rfl) ok_27
theorem df_28 (c : He.SaysD Hd.fa Hd.fn K) : DefOk (wd P w K mg base) L 28 d__law_is_felt_right := def_of (W := wd P w K mg base) (f := 28) c (i := 28) (dd := Hd.dd ("_law_is_felt_right", none) "_law_is_felt_right" "_law_is_felt_right" (Hd.topS 44)) (N := n__law_is_felt_right) rfl rfl ⟨rfl, rfl⟩ (fun _ _ _ _ _ _ us hl => match us, hl with | [_, _, _], _ => rfl) ok_28
theorem df_29 (c : He.SaysD Hd.fa Hd.fn K) : DefOk (wd P w K mg base) L 29 d__law_is_apart_right := def_of (W := wd P w K mg base) (f := 29) c (i := 29) (dd := Hd.dd ("_law_is_apart_right", none) "_law_is_apart_right" "_law_is_apart_right" (Hd.topS 45)) (N := n__law_is_apart_right) rfl rfl ⟨rfl, rfl⟩ (fun _ _ _ _ _ _ us hl => match us, hl with | [_, _, _], _ => rfl) ok_29
theorem df_30 (c : He.SaysD Hd.fa Hd.fn K) : DefOk (wd P w K mg base) L 30 d__law_is_right := def_of (W := wd P w K mg base) (f := 30) c (i := 30) (dd := Hd.dd ("_law_is_right", none) "_law_is_right" "_law_is_right" (Hd.topS 46)) (N := n__law_is_right) rfl rfl ⟨rfl, rfl⟩ (fun _ _ _ _ _ _ us hl => match us, hl with | [_, _, _], _ => rfl) ok_30
theorem df_31 (c : He.SaysD Hd.fa Hd.fn K) : DefOk (wd P w K mg base) L 31 d_law := def_of (W := wd P w K mg base) (f := 31) c (i := 31) (dd := Hd.dd ("law", none) "law" "law" (Hd.topS 47)) (N := n_law) rfl rfl ⟨rfl, rfl⟩ (fun _ _ _ _ _ _ us hl => match us, hl with | [_], _ => rfl) ok_31
theorem defs (c : He.SaysD Hd.fa Hd.fn K) : ∀ f d, pr[f]? = some d → dead d = true ∨ DefOk (wd P w K mg base) L f d
  | 0, d, h => by cases h; exact .inr (df_0 c)
  | 1, d, h => by cases h; exact .inr (df_1 c)
  | 2, d, h => by cases h; exact .inr (df_2 c)
  | 3, d, h => by cases h; exact .inr (df_3 c)
  | 4, d, h => by cases h; exact .inr (df_4 c)
  | 5, d, h => by cases h; exact .inr (df_5 c)
  | 6, d, h => by cases h; exact .inr (df_6 c)
  | 7, d, h => by cases h; exact .inr (df_7 c)
  | 8, d, h => by cases h; exact .inr (df_8 c)
  | 9, d, h => by cases h; exact .inr (df_9 c)
  | 10, d, h => by cases h; exact .inr (df_10 c)
  | 11, d, h => by cases h; exact .inr (df_11 c)
  | 12, d, h => by cases h; exact .inr (df_12 c)
  | 13, d, h => by cases h; exact .inr (df_13 c)
  | 14, d, h => by cases h; exact .inl rfl
  | 15, d, h => by cases h; exact .inr (df_15 c)
  | 16, d, h => by cases h; exact .inr (df_16 c)
  | 17, d, h => by cases h; exact .inr (df_17 c)
  | 18, d, h => by cases h; exact .inr (df_18 c)
  | 19, d, h => by cases h; exact .inr (df_19 c)
  | 20, d, h => by cases h; exact .inr (df_20 c)
  | 21, d, h => by cases h; exact .inr (df_21 c)
  | 22, d, h => by cases h; exact .inr (df_22 c)
  | 23, d, h => by cases h; exact .inr (df_23 c)
  | 24, d, h => by cases h; exact .inr (df_24 c)
  | 25, d, h => by cases h; exact .inr (df_25 c)
  | 26, d, h => by cases h; exact .inr (df_26 c)
  | 27, d, h => by cases h; exact .inr (df_27 c)
  | 28, d, h => by cases h; exact .inr (df_28 c)
  | 29, d, h => by cases h; exact .inr (df_29 c)
  | 30, d, h => by cases h; exact .inr (df_30 c)
  | 31, d, h => by cases h; exact .inr (df_31 c)
  | n + 32, d, h => by cases h
theorem pg (c : He.SaysD Hd.fa Hd.fn K) (X : K.In base) (G : base.Ns mainGlobals mg) : PgOk (wd P w K mg base) pr L := by
  refine ⟨defs c, ?_, ?_, ?_, ?_, rfl⟩
  · refine look_all (l := fns) (p := fun x f => mg x = some (.ref (fad K f)) ∧ PySem.W.keepIn K (.ref (fad K f)) = true) ?_
    intro q hq
    simp only [fns, List.mem_cons, List.not_mem_nil, or_false] at hq
    rcases hq with rfl | rfl | rfl | rfl | rfl | rfl | rfl | rfl | rfl | rfl | rfl | rfl | rfl | rfl | rfl | rfl | rfl | rfl | rfl | rfl | rfl | rfl | rfl | rfl | rfl | rfl | rfl | rfl | rfl | rfl
    · exact ⟨He.glo_ok X G (c.fact 4 (f := .glo "is_integer") rfl), keep_of (W := wd P w K mg base) (f := 0) c (i := 0) rfl rfl⟩
    · exact ⟨He.glo_ok X G (c.fact 5 (f := .glo "is_within") rfl), keep_of (W := wd P w K mg base) (f := 1) c (i := 1) rfl rfl⟩
    · exact ⟨He.glo_ok X G (c.fact 6 (f := .glo "is_below") rfl), keep_of (W := wd P w K mg base) (f := 2) c (i := 2) rfl rfl⟩
    · exact ⟨He.glo_ok X G (c.fact 7 (f := .glo "is_sized") rfl), keep_of (W := wd P w K mg base) (f := 3) c (i := 3) rfl rfl⟩
    · exact ⟨He.glo_ok X G (c.fact 8 (f := .glo "steps_of") rfl), keep_of (W := wd P w K mg base) (f := 4) c (i := 4) rfl rfl⟩
    · exact ⟨He.glo_ok X G (c.fact 9 (f := .glo "check_word") rfl), keep_of (W := wd P w K mg base) (f := 5) c (i := 5) rfl rfl⟩
    · exact ⟨He.glo_ok X G (c.fact 10 (f := .glo "feel") rfl), keep_of (W := wd P w K mg base) (f := 6) c (i := 6) rfl rfl⟩
    · exact ⟨He.glo_ok X G (c.fact 11 (f := .glo "check_cell") rfl), keep_of (W := wd P w K mg base) (f := 7) c (i := 7) rfl rfl⟩
    · exact ⟨He.glo_ok X G (c.fact 12 (f := .glo "felt") rfl), keep_of (W := wd P w K mg base) (f := 8) c (i := 8) rfl rfl⟩
    · exact ⟨He.glo_ok X G (c.fact 13 (f := .glo "parting_word") rfl), keep_of (W := wd P w K mg base) (f := 9) c (i := 9) rfl rfl⟩
    · exact ⟨He.glo_ok X G (c.fact 14 (f := .glo "told_apart") rfl), keep_of (W := wd P w K mg base) (f := 10) c (i := 10) rfl rfl⟩
    · exact ⟨He.glo_ok X G (c.fact 15 (f := .glo "classes") rfl), keep_of (W := wd P w K mg base) (f := 11) c (i := 11) rfl rfl⟩
    · exact ⟨He.glo_ok X G (c.fact 16 (f := .glo "is_row") rfl), keep_of (W := wd P w K mg base) (f := 12) c (i := 12) rfl rfl⟩
    · exact ⟨He.glo_ok X G (c.fact 18 (f := .glo "all_spots") rfl), keep_of (W := wd P w K mg base) (f := 15) c (i := 15) rfl rfl⟩
    · exact ⟨He.glo_ok X G (c.fact 19 (f := .glo "all_ties") rfl), keep_of (W := wd P w K mg base) (f := 16) c (i := 16) rfl rfl⟩
    · exact ⟨He.glo_ok X G (c.fact 20 (f := .glo "spots_of") rfl), keep_of (W := wd P w K mg base) (f := 17) c (i := 17) rfl rfl⟩
    · exact ⟨He.glo_ok X G (c.fact 21 (f := .glo "_law_hand") rfl), keep_of (W := wd P w K mg base) (f := 18) c (i := 18) rfl rfl⟩
    · exact ⟨He.glo_ok X G (c.fact 22 (f := .glo "_law_draw") rfl), keep_of (W := wd P w K mg base) (f := 19) c (i := 19) rfl rfl⟩
    · exact ⟨He.glo_ok X G (c.fact 23 (f := .glo "_law_any") rfl), keep_of (W := wd P w K mg base) (f := 20) c (i := 20) rfl rfl⟩
    · exact ⟨He.glo_ok X G (c.fact 24 (f := .glo "_law_rows") rfl), keep_of (W := wd P w K mg base) (f := 21) c (i := 21) rfl rfl⟩
    · exact ⟨He.glo_ok X G (c.fact 25 (f := .glo "_law_drawn") rfl), keep_of (W := wd P w K mg base) (f := 22) c (i := 22) rfl rfl⟩
    · exact ⟨He.glo_ok X G (c.fact 26 (f := .glo "_law_places") rfl), keep_of (W := wd P w K mg base) (f := 23) c (i := 23) rfl rfl⟩
    · exact ⟨He.glo_ok X G (c.fact 27 (f := .glo "_law_goals") rfl), keep_of (W := wd P w K mg base) (f := 24) c (i := 24) rfl rfl⟩
    · exact ⟨He.glo_ok X G (c.fact 28 (f := .glo "_law_word") rfl), keep_of (W := wd P w K mg base) (f := 25) c (i := 25) rfl rfl⟩
    · exact ⟨He.glo_ok X G (c.fact 29 (f := .glo "_law_feel") rfl), keep_of (W := wd P w K mg base) (f := 26) c (i := 26) rfl rfl⟩
    · exact ⟨He.glo_ok X G (c.fact 30 (f := .glo "_law_parting") rfl), keep_of (W := wd P w K mg base) (f := 27) c (i := 27) rfl rfl⟩
    · exact ⟨He.glo_ok X G (c.fact 31 (f := .glo "_law_is_felt_right") rfl), keep_of (W := wd P w K mg base) (f := 28) c (i := 28) rfl rfl⟩
    · exact ⟨He.glo_ok X G (c.fact 32 (f := .glo "_law_is_apart_right") rfl), keep_of (W := wd P w K mg base) (f := 29) c (i := 29) rfl rfl⟩
    · exact ⟨He.glo_ok X G (c.fact 33 (f := .glo "_law_is_right") rfl), keep_of (W := wd P w K mg base) (f := 30) c (i := 30) rfl rfl⟩
    · exact ⟨He.glo_ok X G (c.fact 34 (f := .glo "law") rfl), keep_of (W := wd P w K mg base) (f := 31) c (i := 31) rfl rfl⟩
  · intro x c' f e
    refine look_all (l := cls) (p := fun x cf => mg x = some (.ref (cad K cf.1)) ∧ Mk K (cad K cf.1) (fad K cf.2) ∧ (Cls K (cad K cf.1) ∧ ∀ f ∈ flds, NoAttr K (cad K cf.1) f)) ?_ x (c', f) e
    intro q hq
    simp only [cls, List.mem_cons, List.not_mem_nil, or_false] at hq
    rcases hq with rfl
    · refine ⟨He.glo_ok X G (c.fact 17 (f := .glo "Floor") rfl), He.mkr_ok (c.fact 58 (f := .mkr "Floor") rfl), He.cls_ok (c.fact 57 (f := .cls "Floor") rfl), ?_⟩
      intro f hf
      simp only [flds, List.mem_cons, List.not_mem_nil, or_false] at hf
      rcases hf with rfl | rfl | rfl | rfl | rfl
      · exact He.noat_ok (c.fact 59 (f := .noat "Floor" "rests") rfl)
      · exact He.noat_ok (c.fact 60 (f := .noat "Floor" "rows") rfl)
      · exact He.noat_ok (c.fact 61 (f := .noat "Floor" "spots") rfl)
      · exact He.noat_ok (c.fact 62 (f := .noat "Floor" "stops") rfl)
      · exact He.noat_ok (c.fact 63 (f := .noat "Floor" "ties") rfl)
  · refine look_all (l := con) (p := fun x d => ∃ v u, mg x = some u ∧ RelV v u ∧ ∀ ρ H, Dn (wd P w K mg base) ρ H v d) ?_
    intro q hq
    simp only [con, List.mem_cons, List.not_mem_nil, or_false] at hq
    rcases hq with rfl | rfl | rfl | rfl | rfl | rfl | rfl | rfl
    · exact con_str (W := wd P w K mg base) (He.str_ok X G (c.fact 49 (f := .str "SIGNS" "udlr") rfl)) (by decide)
    · exact con_int (W := wd P w K mg base) (He.int_ok X G (c.fact 50 (f := .int "MOST_WORD" 5000) rfl))
    · exact con_int (W := wd P w K mg base) (He.int_ok X G (c.fact 51 (f := .int "MOST_ROWS" 12) rfl))
    · exact con_int (W := wd P w K mg base) (He.int_ok X G (c.fact 52 (f := .int "MOST_HOMES" 6) rfl))
    · exact con_str (W := wd P w K mg base) (He.str_ok X G (c.fact 53 (f := .str "FREE" ".") rfl)) (by decide)
    · exact con_str (W := wd P w K mg base) (He.str_ok X G (c.fact 54 (f := .str "WALL" "#") rfl)) (by decide)
    · exact con_str (W := wd P w K mg base) (He.str_ok X G (c.fact 55 (f := .str "HOME" "H") rfl)) (by decide)
    · exact con_str (W := wd P w K mg base) (He.str_ok X G (c.fact 56 (f := .str "STATION" "S") rfl)) (by decide)
  · show ∀ x ∈ free, mg x = none
    intro q hq
    simp only [free, List.mem_cons, List.not_mem_nil, or_false] at hq
    rcases hq with rfl | rfl | rfl | rfl | rfl | rfl | rfl | rfl | rfl | rfl | rfl | rfl | rfl | rfl
    · exact He.free_ok X G (c.fact 35 (f := .free "ValueError") rfl)
    · exact He.free_ok X G (c.fact 36 (f := .free "abs") rfl)
    · exact He.free_ok X G (c.fact 37 (f := .free "all") rfl)
    · exact He.free_ok X G (c.fact 38 (f := .free "bool") rfl)
    · exact He.free_ok X G (c.fact 39 (f := .free "enumerate") rfl)
    · exact He.free_ok X G (c.fact 40 (f := .free "int") rfl)
    · exact He.free_ok X G (c.fact 41 (f := .free "isinstance") rfl)
    · exact He.free_ok X G (c.fact 42 (f := .free "len") rfl)
    · exact He.free_ok X G (c.fact 43 (f := .free "range") rfl)
    · exact He.free_ok X G (c.fact 44 (f := .free "repr") rfl)
    · exact He.free_ok X G (c.fact 45 (f := .free "sorted") rfl)
    · exact He.free_ok X G (c.fact 46 (f := .free "str") rfl)
    · exact He.free_ok X G (c.fact 47 (f := .free "sum") rfl)
    · exact He.free_ok X G (c.fact 48 (f := .free "tuple") rfl)
end
end Pg

open PySem PySem.W PySem.Calls PyProof.Rows
theorem PySem.Challenge.cw_everybrought_k88_whole_felt_and_told_apa_holds : PySem.Challenge.rw_everybrought_k88_whole_felt_and_told_apa.Holds := by
  w_on; o_law
  refine HandSHeadRun.head_any (r := OpenLaw.row PySem.Challenge.rw_everybrought_k88_whole_felt_and_told_apa) (q := view (OpenLaw.row PySem.Challenge.rw_everybrought_k88_whole_felt_and_told_apa).prog [47]) (H := Hd.hk) (ob := Hd.ob) (M := 3000) (loose := Hd.loose) (d := HandSHeadRun.topDef (OpenLaw.row PySem.Challenge.rw_everybrought_k88_whole_felt_and_told_apa).prog 47) (kwd := []) Hd.ob_eq
    (by kernel_rfl) (fun s => by kernel_rfl) Hd.run (by kernel_rfl) (by kernel_rfl) (by kernel_rfl) (by rfl) (by first | assumption | decide +kernel) (by decide +kernel) ⟨rfl, rfl, rfl, rfl, rfl, by decide +kernel⟩ ?hw ?hc
  case hw => w_witness2
  case hc =>
    refine Fw.walk_ofG (l := PySem.Challenge.rw_everybrought_k88_whole_felt_and_told_apa) (n := 63) (k := 2 * Law.dep) (g := Fw.callP Ir.pr Law.fuel Law.dep Ir.f_law) rfl (by decide) (by kernel_rfl) ⟨rfl, by decide, by decide⟩ ?F Law.law_holds
    intro w mg fa h Y G hmg0
    obtain ⟨K, KX, c⟩ := Y
    have hmg : mg ("law" : PySem.Str) = some (.ref fa) := by
      have e : (HandSHeadRun.topDef (OpenLaw.row PySem.Challenge.rw_everybrought_k88_whole_felt_and_told_apa).prog 47).name = ("law" : PySem.Str) := by kernel_rfl
      rw [← e]
      exact hmg0
    have e := hmg.symm.trans (He.glo_ok KX G (c.fact 34 (f := .glo "law") rfl))
    cases e
    exact ⟨K, KX, fun base KB GB => ⟨Pg.wd (PySem.Challenge.rw_everybrought_k88_whole_felt_and_told_apa).prog w K mg base, rfl, rfl, rfl, rfl, rfl, Fw.pg_fn (Pg.pg c KB GB) Law.dep Ir.f_law⟩⟩
