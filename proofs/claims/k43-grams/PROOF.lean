import PyProof.Rows.All
import Wide.All
import OpenK.AllK
import Wide.FinOn
import HandS.ForMost
import HandS.ForExc
import KE.KeyNested
import KE.KDictKeyed
import HandS.Deep
import HandS.TupAny
import HandS.Style
import HandS.Wide
import HandS.TupMul
import KE.DataEq
import PyProof.Rows.TupTab
import PyProof.DictMoreH
import PyProof.MeetsDict
import KE.DataMinMax
import HandS.Conv
import HandS.SetKeys
import HandS.IsInst
import PyProof.ReprLen
import PyProof.FitsInt
import HandS.EndBits
import PySem.Challenge.RW_tacet_k43_grams_and_plain_automata
set_option Elab.async false
set_option linter.all false
set_option autoImplicit false
set_option maxRecDepth 100000
set_option maxHeartbeats 2000000
/-! DL, part a: data, abstract heaps, a core syntax and its evaluator (no model of Python in sight). -/
namespace DL
open PySem

/-- data: tuples by content; wl, wd: lists and dicts that nobody writes; ref: an abstract place -/
inductive D where
  | non | bl (b : Bool) | int (i : Int) | str (x : Str) | tup (l : List D) | wl (l : List D) | wd (l : List (Str × D)) | ref (l : Nat) | fn (x : Str) | exn (c : Str)
instance : Inhabited D := ⟨.non⟩

inductive O where
  | lst (l : List D) | dct (k : List (D × D)) | rod (k : List (D × D)) | ins (c : Str) (f : List (Str × D))
abbrev AH := List O
abbrev AE := List (Option D)

inductive R (α : Type) where
  | ok (a : α) (h : AH) | exc (c : Str) (h : AH) | bad
def R.bind {α β : Type} (x : R α) (f : α → AH → R β) : R β :=
  match x with
  | .ok a h => f a h
  | .exc c h => .exc c h
  | .bad => .bad
theorem R.bind_ok {α β : Type} (a : α) (h : AH) (f : α → AH → R β) : (R.ok a h).bind f = f a h := rfl
theorem R.bind_exc {α β : Type} (c : Str) (h : AH) (f : α → AH → R β) : (R.exc c h : R α).bind f = .exc c h := rfl
theorem R.bind_bad {α β : Type} (f : α → AH → R β) : (R.bad : R α).bind f = .bad := rfl

inductive S where
  | nx (e : AE) (h : AH) | rt (d : D) (h : AH) | bk (e : AE) (h : AH) | ct (e : AE) (h : AH) | exc (c : Str) (e : AE) (h : AH) | bad
def R.st {α : Type} (x : R α) (e : AE) (f : α → AH → S) : S :=
  match x with
  | .ok a h => f a h
  | .exc c h => .exc c e h
  | .bad => .bad
theorem R.st_ok {α : Type} (a : α) (h : AH) (e : AE) (f : α → AH → S) : (R.ok a h).st e f = f a h := rfl
theorem R.st_exc {α : Type} (c : Str) (h : AH) (e : AE) (f : α → AH → S) : (R.exc c h : R α).st e f = .exc c e h := rfl
theorem R.st_bad {α : Type} (e : AE) (f : α → AH → S) : (R.bad : R α).st e f = .bad := rfl
/-- what may not raise -/
def R.sb {α : Type} (x : R α) (f : α → AH → S) : S :=
  match x with
  | .ok a h => f a h
  | _ => .bad
theorem R.sb_ok {α : Type} (a : α) (h : AH) (f : α → AH → S) : (R.ok a h).sb f = f a h := rfl
def R.nb {α : Type} (x : R α) : R α :=
  match x with
  | .exc _ _ => .bad
  | r => r
def S.nb (x : S) : S :=
  match x with
  | .exc _ _ _ => .bad
  | r => r
def S.seq (x : S) (f : AE → AH → S) : S :=
  match x with
  | .nx e h => f e h
  | r => r
theorem S.seq_nx (e : AE) (h : AH) (f : AE → AH → S) : (S.nx e h).seq f = f e h := rfl
theorem S.seq_rt (d : D) (h : AH) (f : AE → AH → S) : (S.rt d h).seq f = .rt d h := rfl
theorem S.seq_bk (e : AE) (h : AH) (f : AE → AH → S) : (S.bk e h).seq f = .bk e h := rfl
theorem S.seq_ct (e : AE) (h : AH) (f : AE → AH → S) : (S.ct e h).seq f = .ct e h := rfl
theorem S.seq_exc (c : Str) (e : AE) (h : AH) (f : AE → AH → S) : (S.exc c e h).seq f = .exc c e h := rfl
theorem S.seq_bad (f : AE → AH → S) : S.bad.seq f = .bad := rfl

/-! keys of dicts -/
mutual
def nk : D → NestedKey
  | .int i => .num i
  | .bl b => .num (if b then 1 else 0)
  | .str x => .text x
  | .tup l => .tup (nkL l)
  | .non => .none
  | .wl _ => .none
  | .wd _ => .none
  | .ref _ => .none
  | .fn _ => .none
  | .exn _ => .none
def nkL : List D → List NestedKey
  | [] => []
  | d :: r => nk d :: nkL r
end
mutual
def kOk : D → Nat → Bool
  | .int _, _ => true
  | .bl _, _ => true
  | .str _, _ => true
  | .non, _ => true
  | .tup l, n => match n with | 0 => false | m + 1 => kOkL l m
  | .wl _, _ => false
  | .wd _, _ => false
  | .ref _, _ => false
  | .fn _, _ => false
  | .exn _, _ => false
def kOkL : List D → Nat → Bool
  | [], _ => true
  | d :: r, n => kOk d n && kOkL r n
end
def isTup : D → Bool
  | .tup _ => true
  | _ => false
def top (k : D) : Bool := match k with | .int _ => true | .str _ => true | .tup _ => kOk k 8 | _ => false
def keyOk (kvs : List (D × D)) (k : D) : Bool := top k && kvs.all fun p => isTup p.1 == isTup k
def keyOkR (kvs : List (D × D)) (k : D) : Bool := !kvs.isEmpty && keyOk kvs k
def dget (kvs : List (D × D)) (k : D) : Option D := (kvs.find? fun p => decide (nk p.1 = nk k)).map (·.2)
def dput (kvs : List (D × D)) (k v : D) : List (D × D) :=
  if (kvs.any fun p => decide (nk p.1 = nk k)) then kvs.map fun p => if nk p.1 = nk k then (p.1, v) else p else kvs ++ [(k, v)]

/-! data as the library's PyData, for ==, in, repr, sorted -/
def mapO {α β : Type} (f : α → Option β) : List α → Option (List β)
  | [] => some []
  | x :: r => match f x, mapO f r with | some y, some t => some (y :: t) | _, _ => none
def pdN (h : AH) : Nat → D → Option PyData
  | n, d =>
    match d with
    | .non => some .none
    | .bl b => some (.bool b)
    | .int i => some (.int i)
    | .str x => some (.str x)
    | .tup l => match n with | 0 => none | m + 1 => (mapO (pdN h m) l).map .tuple
    | .wl l => match n with | 0 => none | m + 1 => (mapO (pdN h m) l).map .list
    | .ref a => match n with | 0 => none | m + 1 => match h[a]? with | some (.lst l) => (mapO (pdN h m) l).map .list | _ => none
    | _ => none
def pd (h : AH) (d : D) : Option PyData := pdN h 8 d

def SZ : Nat := 16777216
def at_ {α : Type} (l : List α) (i : Int) : Option α := if 0 ≤ i then l[i.toNat]? else if -(l.length : Int) ≤ i then l[(i + l.length).toNat]? else none
def ix0 (n d : Nat) (o : Option Int) : Nat := match o with | none => d | some v => if v < 0 then (v + (n : Int)).toNat else min v.toNat n
def cut {α : Type} (l : List α) (lo hi : Option Int) : List α := (l.drop (ix0 l.length 0 lo)).take (ix0 l.length l.length hi - ix0 l.length 0 lo)

inductive B where
  | add | sub | mul | fdiv | mod | eq | ne | lt | le | gt | ge | inn | nin | is | isnt | item
def small (i : Int) : Bool := decide (-(2 ^ 64) < i ∧ i < 2 ^ 64)
def addB : D → D → AH → R D
  | .int i, .int j, h => .ok (.int (i + j)) h
  | .str x, .str y, h => if x.length + y.length ≤ SZ then .ok (.str (x ++ y)) h else .bad
  | .tup x, .tup y, h => if x.length + y.length ≤ SZ then .ok (.tup (x ++ y)) h else .bad
  | .ref a, .ref b, h => match h[a]?, h[b]? with
    | some (.lst x), some (.lst y) => if x.length + y.length ≤ SZ then .ok (.ref h.length) (h ++ [.lst (x ++ y)]) else .bad
    | _, _ => .bad
  | _, _, _ => .bad
def rep {α : Type} (k : Int) (l : List α) : List α := (List.replicate k.toNat l).flatten
def mulB : D → D → AH → R D
  | .int i, .int j, h => if small i || small j then .ok (.int (i * j)) h else .bad
  | .tup x, .int k, h => if decide (-(2 ^ 63) ≤ k ∧ k < 2 ^ 63) && decide (x.length * k.toNat ≤ SZ) then .ok (.tup (rep k x)) h else .bad
  | .ref a, .int k, h => match h[a]? with
    | some (.lst x) => if decide (-(2 ^ 63) ≤ k ∧ k < 2 ^ 63) && decide (x.length * k.toNat ≤ SZ) then .ok (.ref h.length) (h ++ [.lst (rep k x)]) else .bad
    | _ => .bad
  | _, _, _ => .bad
def eqF (d e : D) (h : AH) : Option Bool :=
  match pd h d, pd h e with
  | some p, some q => some (PyData.eqv p q)
  | _, _ => none
def eqB : D → D → AH → Option Bool
  | .int i, .int j, _ => some (decide (i = j))
  | .str x, .str y, _ => some (decide (x = y))
  | .non, .non, _ => some true
  | .bl a, .bl b, _ => some (decide (a = b))
  | d, e, h => eqF d e h
def ltB (lt le : Bool → Bool) (f : Int → Int → Bool) : D → D → AH → Option Bool
  | .int i, .int j, _ => some (f i j)
  | _, _, _ => none
def items (h : AH) : D → Option (List D)
  | .tup l => some l
  | .wl l => some l
  | .ref a => match h[a]? with
    | some (.lst l) => some l
    | some (.dct k) => some (k.map (·.1))
    | some (.rod k) => some (k.map (·.1))
    | _ => none
  | _ => none
def anyEq (h : AH) (d : D) (l : List D) : Option Bool :=
  match mapO (pd h) l, pd h d with
  | some ps, some p => some (ps.any fun z => PyData.eqv z p)
  | _, _ => none
def sub? (x y : Str) : Bool := !(Builtin.Str.occurrences y x 0 y.length 1).isEmpty
def inB (d : D) (e : D) (h : AH) : Option Bool :=
  match e with
  | .ref a => match h[a]? with
    | some (.dct k) => if keyOk k d then some (dget k d).isSome else none
    | some (.rod k) => if keyOkR k d then some (dget k d).isSome else none
    | some (.lst l) => anyEq h d l
    | _ => none
  | .tup l => anyEq h d l
  | .wl l => anyEq h d l
  | .str y => match d with | .str x => some (sub? x y) | _ => none
  | .wd l => match d with | .str x => some (l.lookup x).isSome | _ => none
  | _ => none
def isB : D → D → Option Bool
  | .non, .non => some true
  | .bl a, .bl b => some (decide (a = b))
  | .bl _, .non => some false
  | .int _, .non => some false
  | .str _, .non => some false
  | .tup _, .non => some false
  | .wl _, .non => some false
  | .ref _, .non => some false
  | .fn _, .non => some false
  | _, _ => none
def itemB : D → D → AH → R D
  | .tup l, .int i, h => match at_ l i with | some d => .ok d h | none => .bad
  | .wl l, .int i, h => match at_ l i with | some d => .ok d h | none => .bad
  | .str z, .int i, h => match at_ z.cps.toList i with | some c => if z.length ≤ SZ then .ok (.str ⟨#[c]⟩) h else .bad | none => .bad
  | .wd l, .str x, h => match l.lookup x with | some d => .ok d h | none => .bad
  | .ref a, k, h => match h[a]? with
    | some (.lst l) => match k with | .int i => (match at_ l i with | some d => .ok d h | none => .bad) | _ => .bad
    | some (.dct kv) => if keyOk kv k then (match dget kv k with | some d => .ok d h | none => .bad) else .bad
    | some (.rod kv) => if keyOkR kv k then (match dget kv k with | some d => .ok d h | none => .bad) else .bad
    | _ => .bad
  | _, _, _ => .bad
def ob (o : Option Bool) (h : AH) : R D := match o with | some b => .ok (.bl b) h | none => .bad
theorem ob_some (b : Bool) (h : AH) : ob (some b) h = .ok (.bl b) h := rfl
def bop : B → D → D → AH → R D
  | .add, d, e, h => addB d e h
  | .sub, d, e, h => match d, e with | .int i, .int j => .ok (.int (i - j)) h | _, _ => .bad
  | .mul, d, e, h => mulB d e h
  | .fdiv, d, e, h => match d, e with | .int i, .int j => if 0 < j ∧ j < 1073741824 then .ok (.int (i / j)) h else .bad | _, _ => .bad
  | .mod, d, e, h => match d, e with | .int i, .int j => if 0 < j then .ok (.int (i % j)) h else .bad | _, _ => .bad
  | .eq, d, e, h => ob (eqB d e h) h
  | .ne, d, e, h => ob ((eqB d e h).map not) h
  | .lt, d, e, h => match d, e with | .int i, .int j => .ok (.bl (decide (i < j))) h | _, _ => .bad
  | .le, d, e, h => match d, e with | .int i, .int j => .ok (.bl (decide (i ≤ j))) h | _, _ => .bad
  | .gt, d, e, h => match d, e with | .int i, .int j => .ok (.bl (decide (j < i))) h | _, _ => .bad
  | .ge, d, e, h => match d, e with | .int i, .int j => .ok (.bl (decide (j ≤ i))) h | _, _ => .bad
  | .inn, d, e, h => ob (inB d e h) h
  | .nin, d, e, h => ob ((inB d e h).map not) h
  | .is, d, e, h => ob (isB d e) h
  | .isnt, d, e, h => ob ((isB d e).map not) h
  | .item, d, e, h => itemB d e h
/-- augmented, at ints -/
def iopB (b : B) (d e : D) (h : AH) : R D :=
  match d, e with
  | .int _, .int _ => bop b d e h
  | _, _ => .bad
def tru (h : AH) : D → Option Bool
  | .bl b => some b
  | .int i => some (decide (i ≠ 0))
  | .non => some false
  | .str x => if x.length ≤ SZ then some (decide (x.length ≠ 0)) else none
  | .tup l => some (!l.isEmpty)
  | .wl l => some (!l.isEmpty)
  | .ref a => match h[a]? with
    | some (.lst l) => some (!l.isEmpty)
    | _ => none
  | _ => none

/-! built-ins -/
inductive BI where
  | len | list | tuple | sorted | maxL | minL | maxD | max2 | min2 | sum | abs | int | str | repr | all | any | dict
def dints : List D → Option (List Int)
  | [] => some []
  | .int i :: r => (dints r).map (i :: ·)
  | _ :: _ => none
def dbools : List D → Option (List Bool)
  | [] => some []
  | .bl b :: r => (dbools r).map (b :: ·)
  | _ :: _ => none
def mx : List Int → Option Int
  | [] => none
  | x :: r => some (r.foldl (fun a b => if a < b then b else a) x)
def mn : List Int → Option Int
  | [] => none
  | x :: r => some (r.foldl (fun a b => if b < a then b else a) x)
/-- a built-in over one iterable, by its items -/
def biL (b : BI) (l : List D) (h : AH) : R D :=
  match b with
  | .len => .ok (.int l.length) h
  | .list => .ok (.ref h.length) (h ++ [.lst l])
  | .tuple => .ok (.tup l) h
  | .maxL => match (dints l).bind mx with | some m => .ok (.int m) h | none => .bad
  | .minL => match (dints l).bind mn with | some m => .ok (.int m) h | none => .bad
  | .sum => match dints l with | some ns => .ok (.int ns.sum) h | none => .bad
  | .all => match dbools l with | some bs => .ok (.bl (bs.all id)) h | none => .bad
  | .any => match dbools l with | some bs => .ok (.bl (bs.any id)) h | none => .bad
  | _ => .bad
def seqB (b : BI) : Bool := match b with | .len => true | .list => true | .tuple => true | .maxL => true | .minL => true | _ => false
def biD (b : BI) (k : List (D × D)) (h : AH) : R D :=
  match b with
  | .len => .ok (.int k.length) h
  | .list => .ok (.ref h.length) (h ++ [.lst (k.map (·.1))])
  | _ => .bad
def bi1 (b : BI) (d : D) (h : AH) : R D :=
  match d with
  | .tup l => if seqB b then biL b l h else .bad
  | .wl l => biL b l h
  | .ref a => match h[a]? with
    | some (.lst l) => biL b l h
    | some (.dct k) => biD b k h
    | _ => .bad
  | .str x => match b with | .len => if x.length ≤ SZ then .ok (.int x.length) h else .bad | _ => .bad
  | .int i => match b with | .abs => .ok (.int i.natAbs) h | .int => .ok (.int i) h | _ => .bad
  | .bl k => match b with | .int => .ok (.int (if k then 1 else 0)) h | _ => .bad
  | _ => .bad
def isSq : D → Bool
  | .tup _ => true
  | .wl _ => true
  | .ref _ => true
  | _ => false
mutual
def same : PyData → PyData → Bool
  | .none, .none => true
  | .bool a, .bool b => decide (a = b)
  | .int i, .int j => decide (i = j)
  | .str x, .str y => decide (x = y)
  | .list l, .list m => sameL l m
  | .tuple l, .tuple m => sameL l m
  | _, _ => false
def sameL : List PyData → List PyData → Bool
  | [], [] => true
  | a :: r, b :: s => same a b && sameL r s
  | _, _ => false
end
/- a bound of the length of the shown text -/
mutual
def shC : PyData → Nat
  | .none => 4
  | .bool _ => 5
  | .int i => i.natAbs.log2 + 2
  | .str _ => 16777217
  | .list l => shL l + 3
  | .tuple l => shL l + 3
  | .dict _ => 16777217
def shL : List PyData → Nat
  | [] => 0
  | a :: r => shC a + 2 + shL r
end
/-- data whose repr is looked at -/
def shO (d : D) (h : AH) : Option PyData :=
  match pd h d with
  | some p => if isSq d && (p.showable && decide (shC p ≤ SZ)) then some p else none
  | none => none
def reprB (d : D) (h : AH) : R D :=
  match pd h d with
  | some p => if isSq d && (p.showable && decide (p.shown.length ≤ SZ)) then .ok (.str p.shown) h else .bad
  | none => .bad
def bi (b : BI) (as : List D) (h : AH) : R D :=
  match as with
  | [d] => match b with | .repr => reprB d h | _ => bi1 b d h
  | [.int i, .int j] => match b with | .max2 => .ok (.int (if j > i then j else i)) h | .min2 => .ok (.int (if j < i then j else i)) h | _ => .bad
  | _ => .bad

/-! methods of built-in types -/
inductive M where
  | append | pop | extend | index | get | setdefault | join | split | count
def idxF (h : AH) (d : D) (l : List D) : Option Nat :=
  match mapO (pd h) l, pd h d with
  | some ps, some p => ps.findIdx? fun z => PyData.eqv z p
  | _, _ => none
def mth (m : M) (o : D) (as : List D) (h : AH) : R D :=
  match o with
  | .ref a =>
    match h[a]? with
    | some (.lst l) =>
      match m, as with
      | .append, [d] => if l.length < SZ then .ok .non (h.set a (.lst (l ++ [d]))) else .bad
      | .pop, [] => match l.getLast? with | some d => .ok d (h.set a (.lst l.dropLast)) | none => .bad
      | .extend, [.ref b] => match h[b]? with | some (.lst x) => if l.length + x.length ≤ SZ then .ok .non (h.set a (.lst (l ++ x))) else .bad | _ => .bad
      | .index, [d] => match idxF h d l with | some n => .ok (.int n) h | none => .bad
      | _, _ => .bad
    | some (.dct kv) =>
      match m, as with
      | .get, [k, d] => if keyOk kv k then .ok ((dget kv k).getD d) h else .bad
      | .setdefault, [k, d] => if (keyOk kv k && !isTup k) && decide (kv.length < SZ) then (match dget kv k with | some v => .ok v h | none => .ok d (h.set a (.dct (dput kv k d)))) else .bad
      | _, _ => .bad
    | some (.rod kv) =>
      match m, as with
      | .get, [k, d] => if keyOkR kv k then .ok ((dget kv k).getD d) h else .bad
      | _, _ => .bad
    | _ => .bad
  | _ => .bad

def isLs (x : D) (h : AH) : Bool := match x with | .ref a => (match h[a]? with | some (.lst _) => true | _ => false) | _ => false
def isDc (x : D) (h : AH) : Bool := match x with | .ref a => (match h[a]? with | some (.dct _) => true | some (.rod _) => true | _ => false) | _ => false
def isSt (x : D) : Bool := match x with | .str _ => true | _ => false
/-- the receiver is of the method's type -/
def bmOk (m : M) (x : D) (h : AH) : Bool :=
  match m with
  | .append => isLs x h
  | .pop => isLs x h
  | .extend => isLs x h
  | .index => isLs x h
  | .get => isDc x h
  | .setdefault => isDc x h
  | .join => isSt x
  | .split => isSt x
  | .count => isSt x

/-! the core -/
inductive TyN where
  | int | bool | str | tuple | list | non
deriving DecidableEq

mutual
inductive CE where
  | var (i : Nat) | con (d : D)
  | tup (es : List CE) | lst (es : List CE) | dnew | ddisp (ks vs : List CE)
  | bop (o : B) (a b : CE) | chain (o p : B) (a b c : CE) | neg (a : CE)
  | reqr (ne : Bool) (a b : CE) | andE (a b : CE) | orE (a b : CE) | notE (a : CE) | ife (c a b : CE)
  | slice (a : CE) (lo hi : Option CE) | rev (a : CE)
  | attr (a : CE) (f : Str)
  | call (f : Str) (es : List CE) | callv (i : Nat) (es : List CE) | new (c : Str) (es : List CE)
  | bi (b : BI) (es : List CE)
  | isi (a : CE) (ts : List TyN)
  | meth (o : CE) (m : Str) (es : List CE)
  | bm (o : CE) (m : M) (es : List CE)
  | comp (elt : CE) (t : CT) (it : CI) (cs : List CE) (own : List Nat)
  | dcomp (k v : CE) (t : CT) (it : CI) (cs : List CE) (own : List Nat)
inductive CT where
  | name (i : Nat) | tup (ts : List CT) | attr (o : CE) (f : Str) | sub (o i : CE)
inductive CI where
  | seq (e : CE) | rng1 (a : CE) | rng2 (a b : CE) | rng3 (a b c : CE) | enum (e : CE) | zip (a b : CE) | rev (e : CE)
end
inductive CS where
  | asg (t : CT) (e : CE) | aug (t : CT) (o : B) (e : CE) | fld (o : CE) (f : Str) (e : CE) | ex (e : CE) | ret (e : CE) | pass | brk | cont
  | ifs (c : CE) (a b : List CS) | whl (c : CE) (b : List CS) | for_ (t : CT) (it : CI) (b : List CS) | forK (t : CT) (e : CE) (b : List CS)
  | raise (c : Str) | tryx (b : List CS) (c : Str) (n : Option Nat) (s : List CS)

/-- what is asked of the program around: calls, classes of errors -/
structure Cf where
  call : Str → Str → List D → AH → R D
  sub : Str → Str → Bool
  fuel : Nat
  has : Str → Str → Bool
  isx : Str → Bool

mutual
/-- no place within -/
def noR : D → Bool
  | .tup l => noRL l
  | .wl l => noRL l
  | .wd l => noRW l
  | .ref _ => false
  | .non => true
  | .bl _ => true
  | .int _ => true
  | .str _ => true
  | .fn _ => true
  | .exn _ => true
def noRL : List D → Bool
  | [] => true
  | d :: r => noR d && noRL r
def noRW : List (Str × D) → Bool
  | [] => true
  | (_, d) :: r => noR d && noRW r
end
def wipeE (env : AE) : List Nat → AE
  | [] => env
  | v :: vs => (wipeE env vs).set v none

/-- what a loop walks: items that stay, a list that is read turn by turn, a dict that is locked meanwhile -/
inductive Src where
  | its (l : List D) | at_ (a : Nat) (en : Bool)
def src (d : D) (h : AH) : R Src :=
  match d with
  | .tup l => .ok (.its l) h
  | .wl l => .ok (.its l) h
  | .str x => if x.length ≤ SZ then .ok (.its (x.cps.toList.map fun c => .str ⟨#[c]⟩)) h else .bad
  | .ref a => match h[a]? with
    | some (.lst _) => .ok (.at_ a false) h
    | _ => .bad
  | _ => .bad
def rng (lo : Int) (n : Nat) (c : Int) : List D := (List.range n).map fun (i : Nat) => D.int (lo + (i : Int) * c)
def big (i : Int) : Bool := decide (-(2 ^ 62) ≤ i ∧ i < 2 ^ 62)
def enumL : List D → Nat → List D
  | [], _ => []
  | d :: r, n => .tup [.int n, d] :: enumL r (n + 1)
def zipL : List D → List D → List D
  | a :: r, b :: s => .tup [a, b] :: zipL r s
  | _, _ => []
def seqD (d : D) (h : AH) : Option (List D) :=
  match d with
  | .tup l => some l
  | .wl l => some l
  | .ref a => match h[a]? with | some (.lst l) => some l | _ => none
  | _ => none
def enumS (d : D) (h : AH) : R Src :=
  match d with
  | .tup l => .ok (.its (enumL l 0)) h
  | .wl l => .ok (.its (enumL l 0)) h
  | .ref a => match h[a]? with | some (.lst _) => .ok (.at_ a true) h | _ => .bad
  | _ => .bad
def fixD (d : D) : Option (List D) :=
  match d with
  | .tup l => some l
  | .wl l => some l
  | _ => none
def itm (en : Bool) (i : Nat) (x : D) : D := if en then .tup [.int i, x] else x

/-- the i-th item of a walk: none where it can't be told, some none at its end -/
def nxt (s : Src) (i : Nat) (h : AH) : Option (Option D) :=
  match s with
  | .its l => some l[i]?
  | .at_ a en => match h[a]? with | some (.lst xs) => some (xs[i]?.map (itm en i)) | _ => none
/-- the end of a turn -/
def loopS (r : S) (f : AE → AH → S) : S :=
  match r with
  | .nx e h => f e h
  | .ct e h => f e h
  | .bk e h => .nx e h
  | r => r
def forN (nx : Nat → AH → Option (Option D)) (step : D → AE → AH → S) : Nat → Nat → AE → AH → S
  | 0, _, _, _ => .bad
  | n + 1, i, env, h =>
    match nx i h with
    | none => .bad
    | some none => .nx env h
    | some (some x) => loopS (step x env h) (forN nx step n (i + 1))
def unrod (a : Nat) (h : AH) : AH := match h[a]? with | some (.rod k) => h.set a (.dct k) | _ => h
def S.mapH (f : AH → AH) : S → S
  | .nx e h => .nx e (f h)
  | .rt d h => .rt d (f h)
  | .bk e h => .bk e (f h)
  | .ct e h => .ct e (f h)
  | .exc c e h => .exc c e (f h)
  | .bad => .bad
def turns (fuel : Nat) : Src → Nat
  | .its l => l.length + 1
  | _ => fuel
def forS (fuel : Nat) (step : D → AE → AH → S) (s : Src) (env : AE) (h : AH) : S := forN (nxt s) step (turns fuel s) 0 env h
/-- the keys of a dict that is locked meanwhile -/
def forK (step : D → AE → AH → S) (d : D) (env : AE) (h : AH) : S :=
  match d with
  | .ref a => (match h[a]? with
    | some (.dct k) => (forN (nxt (.its (k.map (·.1)))) step (k.length + 1) 0 env (h.set a (.rod k))).mapH (unrod a)
    | _ => .bad)
  | _ => .bad

/-- comprehensions: what is made stands at a from the beginning -/
def putL (a : Nat) (d : D) (h : AH) : R Unit :=
  match h[a]? with
  | some (.lst l) => if l.length < SZ then .ok () (h.set a (.lst (l ++ [d]))) else .bad
  | _ => .bad
def putD (a : Nat) (k v : D) (h : AH) : R Unit :=
  match h[a]? with
  | some (.dct kv) => if keyOk kv k && decide (kv.length < SZ) then .ok () (h.set a (.dct (dput kv k v))) else .bad
  | _ => .bad
def colN (nx : Nat → AH → Option (Option D)) (step : D → AH → R Unit) : Nat → Nat → AH → R Unit
  | 0, _, _ => .bad
  | n + 1, i, h =>
    match nx i h with
    | none => .bad
    | some none => .ok () h
    | some (some x) =>
      (step x h).nb.bind fun _ h1 => colN nx step n (i + 1) h1

def lk (env : AE) (i : Nat) (h : AH) : R D := match env[i]? with | some (some d) => .ok d h | _ => .bad
def getF (d : D) (f : Str) (h : AH) : R D :=
  match d with
  | .ref a => match h[a]? with | some (.ins _ fs) => (match fs.lookup f with | some v => .ok v h | none => .bad) | _ => .bad
  | _ => .bad
def putF : Str → D → List (Str × D) → List (Str × D)
  | f, v, [] => [(f, v)]
  | f, v, (g, w) :: r => if f = g then (g, v) :: r else (g, w) :: putF f v r
def setF (d : D) (f : Str) (v : D) (h : AH) : R Unit :=
  match d with
  | .ref a => match h[a]? with | some (.ins c fs) => if fs.length < 1000 then .ok () (h.set a (.ins c (putF f v fs))) else .bad | _ => .bad
  | _ => .bad
def setI (o i v : D) (h : AH) : R Unit :=
  match o with
  | .ref a => match h[a]? with
    | some (.lst l) => (match i with
      | .int j => (match at_ l j with | some _ => .ok () (h.set a (.lst (l.set (if 0 ≤ j then j.toNat else (j + l.length).toNat) v))) | none => .bad)
      | _ => .bad)
    | some (.dct kv) => if keyOk kv i && decide (kv.length < SZ) then .ok () (h.set a (.dct (dput kv i v))) else .bad
    | _ => .bad
  | _ => .bad
def sliceD (d : D) (lo hi : Option Int) (h : AH) : R D :=
  match d with
  | .tup l => .ok (.tup (cut l lo hi)) h
  | .wl l => .ok (.ref h.length) (h ++ [.lst (cut l lo hi)])
  | .str _ => .bad
  | .ref a => match h[a]? with | some (.lst l) => .ok (.ref h.length) (h ++ [.lst (cut l lo hi)]) | _ => .bad
  | _ => .bad
def revD (d : D) (h : AH) : R D :=
  match d with
  | .tup l => .ok (.tup l.reverse) h
  | .ref a => match h[a]? with | some (.lst l) => .ok (.ref h.length) (h ++ [.lst l.reverse]) | _ => .bad
  | _ => .bad
/-- isinstance against the named built-in types -/
def tyN (h : AH) : D → Option TyN
  | .non => some .non
  | .bl _ => some .bool
  | .int _ => some .int
  | .str _ => some .str
  | .tup _ => some .tuple
  | .wl _ => some .list
  | .ref a => match h[a]? with | some (.lst _) => some .list | _ => none
  | _ => none
def tyLe (a b : TyN) : Bool := decide (a = b) || (decide (a = .bool) && decide (b = .int))
def isAny (h : AH) (d : D) (ts : List TyN) : Option Bool := (tyN h d).map fun T => ts.any (tyLe T)
def unI (d : D) : Option Int := match d with | .int i => some i | _ => none

mutual
def ev (cf : Cf) : CE → AE → AH → R D
  | .var i, env, h => lk env i h
  | .con d, _, h => match noR d with | true => .ok d h | false => .bad
  | .tup es, env, h => (evs cf es env h).bind fun l h1 => .ok (.tup l) h1
  | .lst es, env, h => (evs cf es env h).bind fun l h1 => .ok (.ref h1.length) (h1 ++ [.lst l])
  | .dnew, _, h => .ok (.ref h.length) (h ++ [.dct []])
  | .ddisp ks vs, env, h => (evs cf ks env h).bind fun l h1 => (evs cf vs env h1).bind fun m h2 => .ok (.ref h2.length) (h2 ++ [.dct ((l.zip m).foldl (fun kv p => dput kv p.1 p.2) [])])
  | .bop o a b, env, h => (ev cf a env h).bind fun x h1 => (ev cf b env h1).bind fun y h2 => bop o x y h2
  | .chain o p a b c, env, h => (ev cf a env h).bind fun x h1 => (ev cf b env h1).bind fun y h2 => (bop o x y h2).bind fun z h3 =>
      match z with
      | .bl true => (ev cf c env h3).bind fun w h4 => bop p y w h4
      | .bl false => .ok (.bl false) h3
      | _ => .bad
  | .reqr ne a b, env, h => (ev cf a env h).bind fun x h1 => match shO x h1 with
      | none => .bad
      | some p => (ev cf b env h1).bind fun y h2 => match shO y h2 with
        | none => .bad
        | some q => if same p q then .ok (.bl (!ne)) h2 else .bad
  | .neg a, env, h => (ev cf a env h).bind fun x h1 => match x with | .int i => .ok (.int (-i)) h1 | _ => .bad
  | .andE a b, env, h => (ev cf a env h).bind fun x h1 => match tru h1 x with | some true => ev cf b env h1 | some false => .ok x h1 | none => .bad
  | .orE a b, env, h => (ev cf a env h).bind fun x h1 => match tru h1 x with | some true => .ok x h1 | some false => ev cf b env h1 | none => .bad
  | .notE a, env, h => (ev cf a env h).bind fun x h1 => match tru h1 x with | some b => .ok (.bl (!b)) h1 | none => .bad
  | .ife c a b, env, h => (ev cf c env h).bind fun x h1 => match tru h1 x with | some true => ev cf a env h1 | some false => ev cf b env h1 | none => .bad
  | .slice a lo hi, env, h => (ev cf a env h).bind fun x h1 => (evo cf lo env h1).bind fun i h2 => (evo cf hi env h2).bind fun j h3 => sliceD x i j h3
  | .rev a, env, h => (ev cf a env h).bind fun x h1 => revD x h1
  | .attr a f, env, h => (ev cf a env h).bind fun x h1 => getF x f h1
  | .call f es, env, h => (evs cf es env h).bind fun l h1 => cf.call "" f l h1
  | .callv i es, env, h => (lk env i h).bind fun x _ => (evs cf es env h).bind fun l h1 => match x with | .fn f => cf.call "" f l h1 | _ => .bad
  | .new c es, env, h => (evs cf es env h).bind fun l h1 => (cf.call c "__init__" (.ref h1.length :: l) (h1 ++ [.ins c []])).bind fun v h2 => match v with | .non => .ok (.ref h1.length) h2 | _ => .bad
  | .bi b es, env, h => (evs cf es env h).bind fun l h1 => bi b l h1
  | .isi a ts, env, h => (ev cf a env h).bind fun x h1 => ob (isAny h1 x ts) h1
  | .meth o m es, env, h => (ev cf o env h).bind fun x h1 =>
      match x with
      | .ref a =>
        match h1[a]? with
        | some (.ins c fs) => if (fs.lookup m).isNone && cf.has c m then (evs cf es env h1).bind fun l h2 => cf.call c m (x :: l) h2 else .bad
        | _ => .bad
      | _ => .bad
  | .bm o m es, env, h => (ev cf o env h).bind fun x h1 => if bmOk m x h1 then (evs cf es env h1).bind fun l h2 => mth m x l h2 else .bad
  | .comp e t it cs own, env, h => (evi cf it env h).bind fun s h1 =>
      (colN (nxt s) (fun x h2 => (asg cf t x (wipeE env own) h2).bind fun env1 h3 => (evc cf cs env1 h3).bind fun k h4 =>
        if k then (ev cf e env1 h4).bind fun d h5 => putL h1.length d h5 else .ok () h4) (turns cf.fuel s) 0 (h1 ++ [.lst []])).bind fun _ h2 => .ok (.ref h1.length) h2
  | .dcomp k v t it cs own, env, h => (evi cf it env h).bind fun s h1 =>
      (colN (nxt s) (fun x h2 => (asg cf t x (wipeE env own) h2).bind fun env1 h3 => (evc cf cs env1 h3).bind fun q h4 =>
        if q then (ev cf k env1 h4).bind fun d h5 => (ev cf v env1 h5).bind fun w h6 => putD h1.length d w h6 else .ok () h4) (turns cf.fuel s) 0 (h1 ++ [.dct []])).bind fun _ h2 => .ok (.ref h1.length) h2
def evs (cf : Cf) : List CE → AE → AH → R (List D)
  | [], _, h => .ok [] h
  | e :: es, env, h => (ev cf e env h).bind fun d h1 => (evs cf es env h1).bind fun l h2 => .ok (d :: l) h2
def evo (cf : Cf) : Option CE → AE → AH → R (Option Int)
  | none, _, h => .ok none h
  | some e, env, h => (ev cf e env h).bind fun d h1 => match d with | .int i => .ok (some i) h1 | _ => .bad
/-- the tests of a comprehension -/
def evc (cf : Cf) : List CE → AE → AH → R Bool
  | [], _, h => .ok true h
  | e :: es, env, h => (ev cf e env h).bind fun d h1 => match tru h1 d with | some true => evc cf es env h1 | some false => .ok false h1 | none => .bad
def evi (cf : Cf) : CI → AE → AH → R Src
  | .seq e, env, h => (ev cf e env h).bind fun d h1 => src d h1
  | .rng1 a, env, h => (ev cf a env h).bind fun x h1 => match x with | .int j => if big j then .ok (.its (rng 0 j.toNat 1)) h1 else .bad | _ => .bad
  | .rng2 a b, env, h => (ev cf a env h).bind fun x h1 => (ev cf b env h1).bind fun y h2 =>
      match x, y with | .int i, .int j => if big i && big j then .ok (.its (rng i (j - i).toNat 1)) h2 else .bad | _, _ => .bad
  | .rng3 a b c, env, h => (ev cf a env h).bind fun x h1 => (ev cf b env h1).bind fun y h2 => (ev cf c env h2).bind fun z h3 =>
      match x, y, z with
      | .int i, .int j, .int k => if decide (k ≠ 0 ∧ k.natAbs < 1073741824) && Builtin.Range.small i j k && decide (0 ≤ Builtin.Range.rangeSize i j k) then .ok (.its (rng i (Builtin.Range.rangeSize i j k).toNat k)) h3 else .bad
      | _, _, _ => .bad
  | .enum e, env, h => (ev cf e env h).bind fun d h1 => enumS d h1
  | .zip a b, env, h => (ev cf a env h).bind fun x h1 => (ev cf b env h1).bind fun y h2 => match fixD x, fixD y with | some l, some m => .ok (.its (zipL l m)) h2 | _, _ => .bad
  | .rev e, env, h => (ev cf e env h).bind fun d h1 => match fixD d with | some l => .ok (.its l.reverse) h1 | none => .bad
def asg (cf : Cf) : CT → D → AE → AH → R AE
  | .name i, d, env, h => .ok (env.set i (some d)) h
  | .tup ts, d, env, h => match seqD d h with | some l => if l.length = ts.length then asgs cf ts l env h else .bad | none => .bad
  | .attr o f, d, env, h => (ev cf o env h).bind fun x h1 => (setF x f d h1).bind fun _ h2 => .ok env h2
  | .sub o i, d, env, h => (ev cf o env h).bind fun x h1 => (ev cf i env h1).bind fun y h2 => (setI x y d h2).bind fun _ h3 => .ok env h3
def asgs (cf : Cf) : List CT → List D → AE → AH → R AE
  | [], l, env, h => match l with | [] => .ok env h | _ => .bad
  | t :: ts, l, env, h => match l with | [] => .bad | d :: ds => (asg cf t d env h).bind fun e1 h1 => asgs cf ts ds e1 h1
end

def whlF (c : AE → AH → R Bool) (b : AE → AH → S) : Nat → AE → AH → S
  | 0, _, _ => .bad
  | n + 1, env, h => (c env h).st env fun k h1 =>
      if k then loopS (b env h1) (whlF c b n)
      else .nx env h1
def tst (cf : Cf) (e : CE) (env : AE) (h : AH) : R Bool := (ev cf e env h).bind fun d h1 => match tru h1 d with | some b => .ok b h1 | none => .bad
mutual
def exec (cf : Cf) : CS → AE → AH → S
  | .asg t e, env, h => (ev cf e env h).st env fun d h1 => (asg cf t d env h1).sb fun env2 h2 => .nx env2 h2
  | .aug t o e, env, h =>
    match t with
    | .name i => (lk env i h).st env fun x h1 => (ev cf e env h1).st env fun y h2 => (iopB o x y h2).sb fun z h3 => .nx (env.set i (some z)) h3
    | .attr a f => (ev cf a env h).st env fun ov h1 => (getF ov f h1).sb fun x h2 => (ev cf e env h2).st env fun y h3 => (iopB o x y h3).sb fun z h4 => (setF ov f z h4).sb fun _ h5 => .nx env h5
    | _ => .bad
  | .fld o f e, env, h => (ev cf e env h).st env fun y h1 => (ev cf o env h1).st env fun x h2 => (setF x f y h2).sb fun _ h3 => .nx env h3
  | .ex e, env, h => (ev cf e env h).st env fun _ h1 => .nx env h1
  | .ret e, env, h => (ev cf e env h).st env fun d h1 => .rt d h1
  | .pass, env, h => .nx env h
  | .brk, env, h => .bk env h
  | .cont, env, h => .ct env h
  | .ifs c a b, env, h => (tst cf c env h).st env fun k h1 => if k then execs cf a env h1 else execs cf b env h1
  | .whl c b, env, h => whlF (tst cf c) (execs cf b) cf.fuel env h
  | .for_ t it b, env, h => (evi cf it env h).st env fun s h1 => forS cf.fuel (fun x e h2 => (asg cf t x e h2).sb fun e1 h3 => execs cf b e1 h3) s env h1
  | .forK t e b, env, h => (ev cf e env h).st env fun d h1 => forK (fun x e h2 => (asg cf t x e h2).sb fun e1 h3 => execs cf b e1 h3) d env h1
  | .raise c, env, h => .exc c env h
  | .tryx b c n s, env, h =>
    match execs cf b env h with
    | .exc k e h1 => if cf.isx k then (if cf.sub k c then (match n with
        | none => (execs cf s e h1).nb
        | some i => (match execs cf s (e.set i (some (.exn k))) h1 with
          | .nx e2 h2 => .nx (e2.set i none) h2
          | .bk e2 h2 => .bk (e2.set i none) h2
          | .ct e2 h2 => .ct (e2.set i none) h2
          | .rt d h2 => .rt d h2
          | _ => .bad))
      else .exc k e h1) else .bad
    | r => r
def execs (cf : Cf) : List CS → AE → AH → S
  | [], env, h => .nx env h
  | s :: ss, env, h => (exec cf s env h).seq fun e h1 => execs cf ss e h1
end

/-! programs -/
structure Fd where
  ps : Nat
  slots : Nat
  body : List CS
structure Pg where
  funs : List ((Str × Str) × Fd)
  excs : List (Str × Str)
def Pg.sub (p : Pg) : Nat → Str → Str → Bool
  | 0, c, t => decide (c = t)
  | n + 1, c, t => decide (c = t) || match p.excs.lookup c with | some b => p.sub n b t | none => false
def outS (s : S) : R D :=
  match s with
  | .nx _ h => .ok .non h
  | .rt d h => .ok d h
  | .exc c _ h => .exc c h
  | _ => .bad
def frame (fd : Fd) (as : List D) : AE := as.map some ++ List.replicate (fd.slots - fd.ps) none
def Pg.has (p : Pg) (c m : Str) : Bool := (p.funs.lookup (c, m)).isSome
def Pg.isx (p : Pg) (c : Str) : Bool := (p.excs.lookup c).isSome
def runF (o : Option Fd) (cf : Cf) (as : List D) (h : AH) : R D :=
  match o with
  | some fd => if as.length = fd.ps then outS (execs cf fd.body (frame fd as) h) else .bad
  | none => .bad
def Pg.run (p : Pg) (fuel : Nat) : Nat → Str → Str → List D → AH → R D
  | 0, _, _, _, _ => .bad
  | n + 1, c, f, as, h => runF (p.funs.lookup (c, f)) ⟨p.run fuel n, p.sub 4, fuel, p.has, p.isx⟩ as h
def Pg.cf (p : Pg) (fuel n : Nat) : Cf := ⟨p.run fuel n, p.sub 4, fuel, p.has, p.isx⟩
end DL

/-! DL, part b: how data stand in HandS's abstract heap, and what a reading of the evaluator is. -/
namespace DL
open PySem L2

/-- the written part, the module's names, where a class stands -/
structure Ew where
  P : Program
  w : World
  K : PySem.W.Frag
  mg : Str → Option Value
  cls : Str → Addr
  own : List Str

/-- the program's classes and where they stand -/
structure Ka where
  at_ : Str → Addr
  own : List Str

/-- a list that nobody writes: locked, or the module's own -/
def Fz (K : PySem.W.Frag) (H : Hp) (a : Addr) (xs : List V) : Prop :=
  (∃ o, H a = some (.frz o (.lst xs))) ∨
    ∃ (o : Obj) (its : Array Value) (n : Nat), K.lookup a = some o ∧ o.cls = .type "list" ∧ o.dict = none ∧ o.data = .seq its n ∧ its.size ≤ sizeLine ∧ Vals xs its.toList
/-- a tuple: tracked, or the module's own -/
def Tq (K : PySem.W.Frag) (H : Hp) (a : Addr) (xs : List V) : Prop :=
  H a = some (.tup xs) ∨
    ∃ (o : Obj) (its : Array Value) (n : Nat), K.lookup a = some o ∧ o.cls = .type "tuple" ∧ o.data = .seq its n ∧ its.size ≤ sizeLine ∧ Vals xs its.toList
theorem Tq.sq {K : PySem.W.Frag} {H : Hp} {a : Addr} {xs : List V} (h : Tq K H a xs) : SqT K H a xs := by
  rcases h with h | h
  · exact .inl (.inl h)
  · exact .inr h
theorem Fz.sq {K : PySem.W.Frag} {H : Hp} {a : Addr} {xs : List V} (h : Fz K H a xs) : SqL K H a xs := by
  rcases h with ⟨o, h⟩ | h
  · exact .inl (.inr ⟨o, h⟩)
  · exact .inr h

mutual
def Rep (E : Ew) (ρ : List Addr) (H : Hp) : D → V → Prop
  | .non, v => v = .non
  | .bl b, v => v = .bl b
  | .int i, v => v = .int i
  | .str x, v => v = .str x
  | .tup ds, v => ∃ a xs, v = .ref a ∧ Tq E.K H a xs ∧ RepL E ρ H ds xs
  | .wl ds, v => ∃ a xs, v = .ref a ∧ Fz E.K H a xs ∧ RepL E ρ H ds xs
  | .wd _, _ => False
  | .ref l, v => ∃ a, v = .ref a ∧ ρ[l]? = some a
  | .fn x, v => ∃ a, v = .ref a ∧ E.mg x = some (.ref a)
  | .exn _, _ => False
def RepL (E : Ew) (ρ : List Addr) (H : Hp) : List D → List V → Prop
  | [], vs => vs = []
  | d :: ds, vs => ∃ v r, vs = v :: r ∧ Rep E ρ H d v ∧ RepL E ρ H ds r
end

/-- more places, and what stands for good stands on -/
structure Gr (E : Ew) (ρ : List Addr) (H : Hp) (ρ' : List Addr) (H' : Hp) : Prop where
  pl : ∀ (l : Nat) (a : Addr), ρ[l]? = some a → ρ'[l]? = some a
  tp : ∀ a xs, H a = some (.tup xs) → H' a = some (.tup xs)
  fz : ∀ a o xs, H a = some (.frz o (.lst xs)) → H' a = some (.frz o (.lst xs))
theorem Gr.refl {E : Ew} {ρ : List Addr} {H : Hp} : Gr E ρ H ρ H := ⟨fun _ _ h => h, fun _ _ h => h, fun _ _ _ h => h⟩
theorem Gr.trans {E : Ew} {ρ ρ1 ρ2 : List Addr} {H H1 H2 : Hp} (a : Gr E ρ H ρ1 H1) (b : Gr E ρ1 H1 ρ2 H2) : Gr E ρ H ρ2 H2 :=
  ⟨fun l x h => b.pl l x (a.pl l x h), fun x y h => b.tp x y (a.tp x y h), fun x o u h => b.fz x o u (a.fz x o u h)⟩
theorem Gr.tq {E : Ew} {ρ ρ' : List Addr} {H H' : Hp} {K : PySem.W.Frag} (g : Gr E ρ H ρ' H') {a : Addr} {xs : List V} (h : Tq K H a xs) : Tq K H' a xs := by
  rcases h with h | h
  · exact .inl (g.tp _ _ h)
  · exact .inr h
theorem Gr.fzL {E : Ew} {ρ ρ' : List Addr} {H H' : Hp} {K : PySem.W.Frag} (g : Gr E ρ H ρ' H') {a : Addr} {xs : List V} (h : Fz K H a xs) : Fz K H' a xs := by
  rcases h with ⟨o, h⟩ | h
  · exact .inl ⟨o, g.fz _ _ _ h⟩
  · exact .inr h

section
variable {E : Ew} {ρ ρ' : List Addr} {H H' : Hp}
mutual
theorem Rep.mono (g : Gr E ρ H ρ' H') : ∀ (d : D) (v : V), Rep E ρ H d v → Rep E ρ' H' d v
  | .non, _, h => by simpa only [Rep] using h
  | .bl _, _, h => by simpa only [Rep] using h
  | .int _, _, h => by simpa only [Rep] using h
  | .str _, _, h => by simpa only [Rep] using h
  | .tup ds, _, h => by
    simp only [Rep] at h ⊢
    obtain ⟨a, xs, e, s, r⟩ := h
    exact ⟨a, xs, e, g.tq s, RepL.mono g ds xs r⟩
  | .wl ds, _, h => by
    simp only [Rep] at h ⊢
    obtain ⟨a, xs, e, s, r⟩ := h
    exact ⟨a, xs, e, g.fzL s, RepL.mono g ds xs r⟩
  | .wd _, _, h => by simp only [Rep] at h
  | .ref _, _, h => by
    simp only [Rep] at h ⊢
    obtain ⟨a, e, r⟩ := h
    exact ⟨a, e, g.pl _ _ r⟩
  | .fn _, _, h => by simpa only [Rep] using h
  | .exn _, _, h => by simp only [Rep] at h
theorem RepL.mono (g : Gr E ρ H ρ' H') : ∀ (ds : List D) (vs : List V), RepL E ρ H ds vs → RepL E ρ' H' ds vs
  | [], _, h => by simpa only [RepL] using h
  | d :: ds, _, h => by
    simp only [RepL] at h ⊢
    obtain ⟨v, r, e, h1, h2⟩ := h
    exact ⟨v, r, e, Rep.mono g d v h1, RepL.mono g ds r h2⟩
end
theorem RepL.nil_iff {vs : List V} : RepL E ρ H [] vs ↔ vs = [] := by simp only [RepL]
theorem RepL.cons {d : D} {ds : List D} {v : V} {vs : List V} (h : Rep E ρ H d v) (t : RepL E ρ H ds vs) : RepL E ρ H (d :: ds) (v :: vs) := by
  simp only [RepL]
  exact ⟨v, vs, rfl, h, t⟩
theorem RepL.uncons {d : D} {ds : List D} {vs : List V} (h : RepL E ρ H (d :: ds) vs) : ∃ v r, vs = v :: r ∧ Rep E ρ H d v ∧ RepL E ρ H ds r := by
  simpa only [RepL] using h
theorem RepL.nil : RepL E ρ H [] [] := by simp only [RepL]
theorem RepL.length : ∀ {ds : List D} {vs : List V}, RepL E ρ H ds vs → ds.length = vs.length
  | [], _, h => by rw [RepL.nil_iff] at h; subst h; rfl
  | _ :: _, _, h => by
    obtain ⟨v, r, rfl, _, t⟩ := h.uncons
    simp [RepL.length t]
theorem RepL.get : ∀ {ds : List D} {vs : List V} {i : Nat} {d : D}, RepL E ρ H ds vs → ds[i]? = some d → ∃ v, vs[i]? = some v ∧ Rep E ρ H d v
  | [], _, _, _, _, e => by simp at e
  | c :: _, _, 0, d, h, e => by
    obtain ⟨v, r, rfl, h1, _⟩ := h.uncons
    simp only [List.getElem?_cons_zero, Option.some.injEq] at e
    subst e
    exact ⟨v, rfl, h1⟩
  | _ :: ds, _, i + 1, d, h, e => by
    obtain ⟨v, r, rfl, _, t⟩ := h.uncons
    simp only [List.getElem?_cons_succ] at e ⊢
    exact RepL.get t e
theorem RepL.append : ∀ {ds es : List D} {vs us : List V}, RepL E ρ H ds vs → RepL E ρ H es us → RepL E ρ H (ds ++ es) (vs ++ us)
  | [], _, _, _, h, t => by rw [RepL.nil_iff] at h; subst h; exact t
  | _ :: _, _, _, _, h, t => by
    obtain ⟨v, r, rfl, h1, h2⟩ := h.uncons
    exact .cons h1 (RepL.append h2 t)
theorem RepL.take : ∀ {ds : List D} {vs : List V} (n : Nat), RepL E ρ H ds vs → RepL E ρ H (ds.take n) (vs.take n)
  | _, _, 0, _ => by simp [RepL.nil]
  | [], _, _ + 1, h => by rw [RepL.nil_iff] at h; subst h; exact .nil
  | _ :: _, _, n + 1, h => by
    obtain ⟨v, r, rfl, h1, h2⟩ := h.uncons
    exact .cons h1 (RepL.take n h2)
theorem RepL.drop : ∀ {ds : List D} {vs : List V} (n : Nat), RepL E ρ H ds vs → RepL E ρ H (ds.drop n) (vs.drop n)
  | _, _, 0, h => h
  | [], _, _ + 1, h => by rw [RepL.nil_iff] at h; subst h; exact .nil
  | _ :: _, _, n + 1, h => by
    obtain ⟨v, r, rfl, _, h2⟩ := h.uncons
    exact RepL.drop n h2
theorem RepL.set : ∀ {ds : List D} {vs : List V} {d : D} {v : V} (n : Nat), RepL E ρ H ds vs → Rep E ρ H d v → RepL E ρ H (ds.set n d) (vs.set n v)
  | [], _, _, _, _, h, _ => by rw [RepL.nil_iff] at h; subst h; exact .nil
  | _ :: _, _, _, _, 0, h, q => by
    obtain ⟨v, r, rfl, _, h2⟩ := h.uncons
    exact .cons q h2
  | _ :: _, _, _, _, n + 1, h, q => by
    obtain ⟨v, r, rfl, h1, h2⟩ := h.uncons
    exact .cons h1 (RepL.set n h2 q)
theorem RepL.reverse : ∀ {ds : List D} {vs : List V}, RepL E ρ H ds vs → RepL E ρ H ds.reverse vs.reverse
  | [], _, h => by rw [RepL.nil_iff] at h; subst h; exact .nil
  | _ :: _, _, h => by
    obtain ⟨v, r, rfl, h1, h2⟩ := h.uncons
    rw [List.reverse_cons, List.reverse_cons]
    exact (RepL.reverse h2).append (.cons h1 .nil)
theorem RepL.flat : ∀ {ds : List D} {vs : List V} (n : Nat), RepL E ρ H ds vs → RepL E ρ H (List.replicate n ds).flatten (List.replicate n vs).flatten
  | _, _, 0, _ => by simp [RepL.nil]
  | _, _, n + 1, h => by
    rw [List.replicate_succ, List.replicate_succ, List.flatten_cons, List.flatten_cons]
    exact h.append (RepL.flat n h)
end

/-! dicts with tuple keys, raw: one object with fixed entries -/
def NTup (P : Program) (w : World) (a : Addr) (xs : List (NestedKey × Addr × Value)) (h : Heap) : Prop :=
  ∃ o es ep, h.get? a = some o ∧ o.ExactDict ∧ o.data = .dict es ep ∧ es.toList = xs.map (entryOfKey (nestedKind P w))
def NT (P : Program) (w : World) (a : Addr) (xs : List (NestedKey × Addr × Value)) : HO := .ext (NTup P w a xs)
def keyD : L2.Key → D
  | .inl i => .int i
  | .inr x => .str x
/-- one entry of a dict with int and text keys -/
def RepK (E : Ew) (ρ : List Addr) (H : Hp) : List (D × D) → List (L2.Key × V) → Prop
  | [], ks => ks = []
  | p :: r, ks => ∃ k v t, ks = (k, v) :: t ∧ p.1 = keyD k ∧ Rep E ρ H p.2 v ∧ RepK E ρ H r t
def RepT (E : Ew) (ρ : List Addr) (H : Hp) : List (D × D) → List (NestedKey × Addr × Value) → Prop
  | [], xs => xs = []
  | p :: r, xs => ∃ b u v t, xs = (nk p.1, b, u) :: t ∧ isTup p.1 = true ∧ kOk p.1 8 = true ∧ Rep E ρ H p.1 (.ref b) ∧ RelV v u ∧ Rep E ρ H p.2 v ∧ RepT E ρ H r t
def RepF (E : Ew) (ρ : List Addr) (H : Hp) : List (Str × D) → List (Str × V) → Prop
  | [], fs => fs = []
  | p :: r, fs => ∃ v t, fs = (p.1, v) :: t ∧ Rep E ρ H p.2 v ∧ RepF E ρ H r t
def RDct (E : Ew) (ρ : List Addr) (H : Hp) (u : Option HO) (a : Addr) (k : List (D × D)) : Prop :=
  k.length ≤ sizeLine ∧ (a == sysModules) = false ∧ (k.map fun p => nk p.1).Nodup ∧
  ((∃ ks, u = some (.dK ks) ∧ RepK E ρ H k ks) ∨ ∃ xs, u = some (NT E.P E.w a xs) ∧ RepT E ρ H k xs)
def RO (E : Ew) (ρ : List Addr) (H : Hp) (a : Addr) : O → Prop
  | .lst ds => ∃ xs, H a = some (.lst xs) ∧ RepL E ρ H ds xs
  | .dct k => RDct E ρ H (H a) a k
  | .rod k => ∃ o u, H a = some (.frz o u) ∧ RDct E ρ H (some u) a k
  | .ins c fs => c ∈ E.own ∧ ∃ dx gs, H a = some (.ins (E.cls c) dx gs) ∧ RepF E ρ H fs gs

/-- the abstract heap in HandS's -/
structure RH (E : Ew) (ρ : List Addr) (H : Hp) (h : AH) : Prop where
  len : ρ.length = h.length
  nd : ρ.Nodup
  ob : ∀ (l : Nat) (a : Addr) (o : O), ρ[l]? = some a → h[l]? = some o → RO E ρ H a o

section
variable {E : Ew} {ρ ρ' : List Addr} {H H' : Hp}
theorem RepK.mono (g : Gr E ρ H ρ' H') : ∀ {k : List (D × D)} {ks : List (L2.Key × V)}, RepK E ρ H k ks → RepK E ρ' H' k ks
  | [], _, h => h
  | _ :: _, _, ⟨k, v, t, e, e1, r, q⟩ => ⟨k, v, t, e, e1, r.mono g, RepK.mono g q⟩
theorem RepT.mono (g : Gr E ρ H ρ' H') : ∀ {k : List (D × D)} {xs : List (NestedKey × Addr × Value)}, RepT E ρ H k xs → RepT E ρ' H' k xs
  | [], _, h => h
  | _ :: _, _, ⟨b, u, v, t, e, e1, e2, r0, rv, r, q⟩ => ⟨b, u, v, t, e, e1, e2, r0.mono g, rv, r.mono g, RepT.mono g q⟩
theorem RepF.mono (g : Gr E ρ H ρ' H') : ∀ {fs : List (Str × D)} {gs : List (Str × V)}, RepF E ρ H fs gs → RepF E ρ' H' fs gs
  | [], _, h => h
  | _ :: _, _, ⟨v, t, e, r, q⟩ => ⟨v, t, e, r.mono g, RepF.mono g q⟩
theorem RDct.mono (g : Gr E ρ H ρ' H') {u : Option HO} {a : Addr} {k : List (D × D)} (h : RDct E ρ H u a k) : RDct E ρ' H' u a k := by
  obtain ⟨h1, h2, h3, h4⟩ := h
  refine ⟨h1, h2, h3, ?_⟩
  rcases h4 with ⟨ks, e, r⟩ | ⟨xs, e, r⟩
  · exact .inl ⟨ks, e, r.mono g⟩
  · exact .inr ⟨xs, e, r.mono g⟩
theorem RO.mono (g : Gr E ρ H ρ' H') {a : Addr} (e : H' a = H a) {o : O} (h : RO E ρ H a o) : RO E ρ' H' a o := by
  cases o with
  | lst ds => obtain ⟨xs, q, r⟩ := h; exact ⟨xs, e.trans q, r.mono g⟩
  | dct k => have h : RDct E ρ H (H a) a k := h; show RDct E ρ' H' (H' a) a k; rw [e]; exact h.mono g
  | rod k => obtain ⟨ob, u, q, r⟩ := h; exact ⟨ob, u, e.trans q, r.mono g⟩
  | ins c fs => obtain ⟨m, dx, gs, q, r⟩ := h; exact ⟨m, dx, gs, e.trans q, r.mono g⟩
/-- what is tracked for the abstract heap is tracked -/
theorem RO.tracked {a : Addr} {o : O} (h : RO E ρ H a o) : ∃ u, H a = some u := by
  cases o with
  | lst ds => obtain ⟨xs, q, _⟩ := h; exact ⟨_, q⟩
  | dct k =>
    obtain ⟨_, _, _, ⟨ks, e, _⟩ | ⟨xs, e, _⟩⟩ := h
    · exact ⟨_, e⟩
    · exact ⟨_, e⟩
  | rod k => obtain ⟨ob, u, q, _⟩ := h; exact ⟨_, q⟩
  | ins c fs => obtain ⟨_, dx, gs, q, _⟩ := h; exact ⟨_, q⟩
theorem RH.tracked {h : AH} (r : RH E ρ H h) {a : Addr} (m : a ∈ ρ) : ∃ u, H a = some u := by
  obtain ⟨l, hl⟩ := List.getElem?_of_mem m
  have h1 : l < h.length := by rw [← r.len]; exact (List.getElem?_eq_some_iff.mp hl).1
  exact (r.ob l a h[l] hl (List.getElem?_eq_getElem h1)).tracked
theorem RH.fresh {h : AH} (r : RH E ρ H h) {p : Addr} (n : H p = none) : p ∉ ρ := fun m => by
  obtain ⟨u, e⟩ := r.tracked m
  rw [n] at e; cases e
theorem RH.at {h : AH} (r : RH E ρ H h) {l : Nat} {o : O} (e : h[l]? = some o) : ∃ a, ρ[l]? = some a ∧ RO E ρ H a o := by
  have h1 : l < ρ.length := by rw [r.len]; exact (List.getElem?_eq_some_iff.mp e).1
  exact ⟨ρ[l], List.getElem?_eq_getElem h1, r.ob l _ o (List.getElem?_eq_getElem h1) e⟩
/-- the heap around has grown, what is tracked here stands -/
theorem RH.grow {h : AH} (r : RH E ρ H h) (g : Gr E ρ H ρ H') (e : ∀ a ∈ ρ, H' a = H a) : RH E ρ H' h :=
  ⟨r.len, r.nd, fun l a o h1 h2 => (r.ob l a o h1 h2).mono g (e a (List.mem_of_getElem? h1))⟩
theorem Gr.lay {p : Addr} {o : HO} (n : H p = none) : Gr E ρ H ρ (upd H p o) :=
  ⟨fun _ _ h => h, fun a _ h => by rw [upd_ne (ne_of_none h n)]; exact h, fun a _ _ h => by rw [upd_ne (ne_of_none h n)]; exact h⟩
/-- something new that the abstract heap does not hold (a tuple) -/
theorem RH.side {h : AH} (r : RH E ρ H h) {p : Addr} {o : HO} (n : H p = none) : RH E ρ (upd H p o) h :=
  r.grow (Gr.lay n) fun a m => upd_ne fun e => r.fresh n (e ▸ m)
theorem Gr.push {p : Addr} : Gr E ρ H (ρ ++ [p]) H :=
  ⟨fun l a h => by rw [List.getElem?_append_left (List.getElem?_eq_some_iff.mp h).1]; exact h, fun _ _ h => h, fun _ _ _ h => h⟩
/-- a tracked object joins -/
theorem RH.push {h : AH} (r : RH E ρ H h) {p : Addr} {o : O} (n : p ∉ ρ) (new : RO E (ρ ++ [p]) H p o) : RH E (ρ ++ [p]) H (h ++ [o]) := by
  refine ⟨by simp [r.len], ?_, fun l a q h1 h2 => ?_⟩
  · rw [List.nodup_append]
    refine ⟨r.nd, by simp, fun a ha b hb => ?_⟩
    rw [List.mem_singleton] at hb
    subst hb
    exact fun e => n (e ▸ ha)
  · by_cases hl : l < ρ.length
    · rw [List.getElem?_append_left hl] at h1
      rw [List.getElem?_append_left (by rw [← r.len]; exact hl)] at h2
      exact (r.ob l a q h1 h2).mono Gr.push rfl
    · have h3 := (List.getElem?_eq_some_iff.mp h1).1
      rw [List.length_append, List.length_singleton] at h3
      have e : l = ρ.length := by omega
      subst e
      rw [List.getElem?_append_right (Nat.le_refl _), Nat.sub_self] at h1
      rw [r.len, List.getElem?_append_right (Nat.le_refl _), Nat.sub_self] at h2
      cases h1
      cases h2
      exact new
/-- a new object is laid and joins -/
theorem RH.new {h : AH} (r : RH E ρ H h) {p : Addr} {u : HO} {o : O} (n : H p = none) (new : RO E (ρ ++ [p]) (upd H p u) p o) : RH E (ρ ++ [p]) (upd H p u) (h ++ [o]) :=
  (r.side n).push (r.fresh n) new
/-- what is written is neither a tuple nor locked -/
theorem Gr.write {a : Addr} {u : HO} (hm : Mut (H a)) : Gr E ρ H ρ (upd H a u) :=
  ⟨fun _ _ h => h, fun b _ h => by rw [upd_ne fun e => by subst e; rw [h] at hm; exact hm]; exact h, fun b _ _ h => by rw [upd_ne fun e => by subst e; rw [h] at hm; exact hm]; exact h⟩
theorem RH.set {h : AH} (r : RH E ρ H h) {l : Nat} {a : Addr} {u : HO} {o : O} (ha : ρ[l]? = some a) (g : Gr E ρ H ρ (upd H a u)) (new : RO E ρ (upd H a u) a o) : RH E ρ (upd H a u) (h.set l o) := by
  refine ⟨by rw [List.length_set]; exact r.len, r.nd, fun k b q h1 h2 => ?_⟩
  by_cases e : k = l
  · subst e
    rw [ha] at h1; cases h1
    rw [List.getElem?_set_self (by rw [← r.len]; exact (List.getElem?_eq_some_iff.mp ha).1)] at h2
    cases h2
    exact new
  · rw [List.getElem?_set_ne (Ne.symm e)] at h2
    have hb : b ≠ a := fun z => by
      subst z
      obtain ⟨l1, e1⟩ := List.getElem?_eq_some_iff.mp h1
      obtain ⟨l2, e2⟩ := List.getElem?_eq_some_iff.mp ha
      exact e ((List.getElem_inj r.nd).mp (e1.trans e2.symm))
    exact (r.ob k b q h1 h2).mono g (upd_ne hb)
end

/-! slots -/
def RepE (E : Ew) (ρ : List Addr) (H : Hp) : AE → List (Option V) → Prop
  | [], σ => σ = []
  | d :: r, σ => ∃ o t, σ = o :: t ∧ (∀ x, d = some x → ∃ v, o = some v ∧ Rep E ρ H x v) ∧ RepE E ρ H r t
section
variable {E : Ew} {ρ ρ' : List Addr} {H H' : Hp}
theorem RepE.mono (g : Gr E ρ H ρ' H') : ∀ {env : AE} {σ : List (Option V)}, RepE E ρ H env σ → RepE E ρ' H' env σ
  | [], _, h => h
  | _ :: _, _, ⟨o, t, e, h1, h2⟩ => ⟨o, t, e, fun x q => let ⟨v, a, b⟩ := h1 x q; ⟨v, a, b.mono g⟩, RepE.mono g h2⟩
theorem RepE.length : ∀ {env : AE} {σ : List (Option V)}, RepE E ρ H env σ → env.length = σ.length
  | [], _, h => by subst h; rfl
  | _ :: _, _, ⟨o, t, e, h1, h2⟩ => by subst e; simp [RepE.length h2]
theorem RepE.get : ∀ {env : AE} {σ : List (Option V)} {i : Nat} {d : D}, RepE E ρ H env σ → env[i]? = some (some d) → ∃ v, σ[i]? = some (some v) ∧ Rep E ρ H d v
  | [], _, _, _, _, q => by simp at q
  | _ :: _, _, 0, d, ⟨o, t, e, h1, h2⟩, q => by
    subst e
    simp only [List.getElem?_cons_zero, Option.some.injEq] at q
    obtain ⟨v, a, b⟩ := h1 d q
    exact ⟨v, by rw [a]; rfl, b⟩
  | _ :: _, _, i + 1, d, ⟨o, t, e, h1, h2⟩, q => by
    subst e
    simp only [List.getElem?_cons_succ] at q ⊢
    exact RepE.get h2 q
theorem RepE.set : ∀ {env : AE} {σ : List (Option V)} {d : D} {v : V} (i : Nat), RepE E ρ H env σ → Rep E ρ H d v → RepE E ρ H (env.set i (some d)) (σ.set i (some v))
  | [], _, _, _, _, h, _ => by subst h; rfl
  | _ :: _, _, _, _, 0, ⟨o, t, e, h1, h2⟩, q => by subst e; exact ⟨_, _, rfl, fun x z => by cases z; exact ⟨_, rfl, q⟩, h2⟩
  | _ :: _, _, _, _, i + 1, ⟨o, t, e, h1, h2⟩, q => by subst e; exact ⟨_, _, rfl, h1, RepE.set i h2 q⟩
theorem RepE.clear : ∀ {env : AE} {σ : List (Option V)} (i : Nat) (o : Option V), RepE E ρ H env σ → RepE E ρ H (env.set i none) (σ.set i o)
  | [], _, _, _, h => by subst h; rfl
  | _ :: _, _, 0, _, ⟨o, t, e, h1, h2⟩ => by subst e; exact ⟨_, _, rfl, (fun x z => by cases z), h2⟩
  | _ :: _, _, i + 1, _, ⟨o, t, e, h1, h2⟩ => by subst e; exact ⟨_, _, rfl, h1, RepE.clear i _ h2⟩
theorem RepE.wipe {env : AE} {σ : List (Option V)} (h : RepE E ρ H env σ) : ∀ vs : List Nat, RepE E ρ H (wipeE env vs) (L2.wipe σ vs)
  | [] => h
  | v :: vs => RepE.clear v none (RepE.wipe h vs)
end
structure RS (E : Ew) (ρ : List Addr) (H : Hp) (σ : List (Option V)) (env : AE) (h : AH) : Prop where
  e : RepE E ρ H env σ
  h : RH E ρ H h
theorem RS.step {E : Ew} {ρ ρ' : List Addr} {H H' : Hp} {σ : List (Option V)} {env : AE} {h h' : AH} (r : RS E ρ H σ env h) (g : Gr E ρ H ρ' H') (q : RH E ρ' H' h') : RS E ρ' H' σ env h' := ⟨r.e.mono g, q⟩

/-! readings -/
/-- what a wish of errors is, at the class c -/
abbrev exW (E : Ew) (W : WX) (c : Str) (σ : List (Option V)) (H : Hp) : Prop := W (.ref (E.cls c)) none σ H
def Af {α : Type} (E : Ew) (W : WX) (ρ : List Addr) (H : Hp) (σ : List (Option V)) (r : R α) (Q : List Addr → α → AH → Hp → Prop) : Prop :=
  match r with
  | .ok a h => ∀ ρ' H', Gr E ρ H ρ' H' → RH E ρ' H' h → Q ρ' a h H'
  | .exc c h => ∀ ρ' H', Gr E ρ H ρ' H' → RH E ρ' H' h → exW E W c σ H'
  | .bad => False
section
variable {E : Ew} {W : WX} {ρ ρ' : List Addr} {H H' : Hp} {σ : List (Option V)}
theorem Af.up {α : Type} {r : R α} {Q : List Addr → α → AH → Hp → Prop} (h : Af E W ρ H σ r Q) (g : Gr E ρ H ρ' H') : Af E W ρ' H' σ r Q := by
  cases r with
  | ok a h' => exact fun ρ2 H2 g2 r2 => h ρ2 H2 (g.trans g2) r2
  | exc c h' => exact fun ρ2 H2 g2 r2 => h ρ2 H2 (g.trans g2) r2
  | bad => exact h
theorem Af.imp {α : Type} {r : R α} {Q Q' : List Addr → α → AH → Hp → Prop} (h : Af E W ρ H σ r Q) (k : ∀ ρ' a h' H', Gr E ρ H ρ' H' → RH E ρ' H' h' → Q ρ' a h' H' → Q' ρ' a h' H') : Af E W ρ H σ r Q' := by
  cases r with
  | ok a h' => exact fun ρ2 H2 g2 r2 => k _ _ _ _ g2 r2 (h ρ2 H2 g2 r2)
  | exc c h' => exact h
  | bad => exact h
theorem Af.bind {α β : Type} {r : R α} {f : α → AH → R β} {Q : List Addr → β → AH → Hp → Prop} (h : Af E W ρ H σ (r.bind f) Q) : Af E W ρ H σ r (fun ρ' a h' H' => Af E W ρ' H' σ (f a h') Q) := by
  cases r with
  | ok a h' =>
    rw [R.bind_ok] at h
    exact fun ρ2 H2 g2 r2 => h.up g2
  | exc c h' => exact h
  | bad => exact h
end
/-- the reading of an expression by its evaluator -/
def TEof (E : Ew) (W : WX) (f : AE → AH → R D) : TE := fun σ H Q => ∃ ρ env h, RS E ρ H σ env h ∧ Af E W ρ H σ (f env h) fun ρ' d _ H' => ∀ v, Rep E ρ' H' d v → Q v H'
def TTof (E : Ew) (W : WX) (f : AE → AH → R Bool) : TT := fun σ H Q => ∃ ρ env h, RS E ρ H σ env h ∧ Af E W ρ H σ (f env h) fun _ b _ H' => Q b H'
def TAof (E : Ew) (W : WX) (f : AE → AH → R (List D)) : TA := fun σ H Q => ∃ ρ env h, RS E ρ H σ env h ∧ Af E W ρ H σ (f env h) fun ρ' ds _ H' => ∀ vs, RepL E ρ' H' ds vs → Q vs H'
/-- what the rest knows behind a part -/
structure Kn (E : Ew) (W : WX) (ρ0 : List Addr) (H0 : Hp) (σ : List (Option V)) (env : AE) (ρ : List Addr) (H : Hp) (h : AH) : Prop where
  g : Gr E ρ0 H0 ρ H
  s : RS E ρ H σ env h
section
variable {E : Ew} {W : WX} {ρ ρ' : List Addr} {H H' : Hp} {σ : List (Option V)} {env : AE} {h : AH}
theorem TEof.use {f : AE → AH → R D} {K : List Addr → D → AH → Hp → Prop} {Q : VK} (r : RS E ρ H σ env h) (a : Af E W ρ H σ (f env h) K) (q : ∀ v ρ' d h' H', Kn E W ρ H σ env ρ' H' h' → Rep E ρ' H' d v → K ρ' d h' H' → Q v H') : TEof E W f σ H Q :=
  ⟨ρ, env, h, r, a.imp fun _ _ _ _ g r2 k v rv => q _ _ _ _ _ ⟨g, r.step g r2⟩ rv k⟩
theorem TAof.use {f : AE → AH → R (List D)} {K : List Addr → List D → AH → Hp → Prop} {Q : List V → Hp → Prop} (r : RS E ρ H σ env h) (a : Af E W ρ H σ (f env h) K) (q : ∀ vs ρ' ds h' H', Kn E W ρ H σ env ρ' H' h' → RepL E ρ' H' ds vs → K ρ' ds h' H' → Q vs H') : TAof E W f σ H Q :=
  ⟨ρ, env, h, r, a.imp fun _ _ _ _ g r2 k v rv => q _ _ _ _ _ ⟨g, r.step g r2⟩ rv k⟩
theorem TTof.use {f : AE → AH → R Bool} {K : List Addr → Bool → AH → Hp → Prop} {Q : Bool → Hp → Prop} (r : RS E ρ H σ env h) (a : Af E W ρ H σ (f env h) K) (q : ∀ b ρ' h' H', Kn E W ρ H σ env ρ' H' h' → K ρ' b h' H' → Q b H') : TTof E W f σ H Q :=
  ⟨ρ, env, h, r, a.imp fun _ _ _ _ g r2 k => q _ _ _ _ ⟨g, r.step g r2⟩ k⟩
theorem Af.ok {α : Type} {r : R α} {a : α} {h' : AH} {Q : List Addr → α → AH → Hp → Prop} (x : Af E W ρ H σ r Q) (e : r = .ok a h') (g : Gr E ρ H ρ' H') (q : RH E ρ' H' h') : Q ρ' a h' H' := by
  subst e
  exact x _ _ g q
end
theorem PE.imp {X : Cx} {e : Expr} {t t' : TE} (p : PE X e t) (h : ∀ σ H Q, t' σ H Q → t σ H Q) : PE X e t' := ⟨fun pins s σ H Q I q => p.run pins s σ H Q I (h σ H Q q)⟩
theorem PT.imp {X : Cx} {e : Expr} {t t' : TT} (p : PT X e t) (h : ∀ σ H Q, t' σ H Q → t σ H Q) : PT X e t' := ⟨fun pins s σ H Q I q => p.run pins s σ H Q I (h σ H Q q)⟩
theorem PW.imp {X : Cx} {e : Expr} {t t' : TT} (p : PW X e t) (h : ∀ σ H Q, t' σ H Q → t σ H Q) : PW X e t' := ⟨fun wh pins s σ H Q I q => p.run wh pins s σ H Q I (h σ H Q q)⟩
theorem PA.imp {X : Cx} {e : List Expr} {t t' : TA} (p : PA X e t) (h : ∀ σ H Q, t' σ H Q → t σ H Q) : PA X e t' := ⟨fun pos pins s σ H Q I q => p.run pos pins s σ H Q I (h σ H Q q)⟩
theorem PS.imp {X : Cx} {e : Stmt} {t t' : TS} (p : PS X e t) (h : ∀ D σ H, t' D σ H → t D σ H) : PS X e t' := ⟨fun pins s σ H D I q => p.run pins s σ H D I (h D σ H q)⟩
theorem PSs.imp {X : Cx} {e : List Stmt} {t t' : TS} (p : PSs X e t) (h : ∀ D σ H, t' D σ H → t D σ H) : PSs X e t' := ⟨fun pins s σ H D I q => p.run pins s σ H D I (h D σ H q)⟩
end DL

/-! DL, part c: the operators' rules, by data. -/
namespace DL
open PySem PySem.Spec PyProof.Rows L2

abbrev ew (X : Cx) (cls : Ka) : Ew := ⟨X.prog, X.w, X.K, X.mg, cls.at_, cls.own⟩
/-- an operator's reading by its function on data -/
def rD (E : Ew) (g : D → D → AH → R D) : R2 := fun x y H Q =>
  ∃ ρ d e h z h', RH E ρ H h ∧ Rep E ρ H d x ∧ Rep E ρ H e y ∧ g d e h = .ok z h' ∧ ∀ ρ' H' v, Gr E ρ H ρ' H' → RH E ρ' H' h' → Rep E ρ' H' z v → Q v H'

section
variable {X : Cx} {cls : Ka} {ρ : List Addr} {H : Hp} {h : AH}
theorem RH.lst {E : Ew} (r : RH E ρ H h) {l : Nat} {v : V} {ds : List D} (rv : Rep E ρ H (.ref l) v) (e : h[l]? = some (.lst ds)) : ∃ a xs, v = .ref a ∧ ρ[l]? = some a ∧ H a = some (.lst xs) ∧ RepL E ρ H ds xs := by
  simp only [Rep] at rv
  obtain ⟨a, ev, ha⟩ := rv
  obtain ⟨xs, q, t⟩ := r.ob l a _ ha e
  exact ⟨a, xs, ev, ha, q, t⟩
/-- a new list joins -/
theorem RH.newL {E : Ew} (r : RH E ρ H h) {p : Addr} {ds : List D} {xs : List V} (n : H p = none) (t : RepL E ρ H ds xs) : Gr E ρ H (ρ ++ [p]) (upd H p (.lst xs)) ∧ RH E (ρ ++ [p]) (upd H p (.lst xs)) (h ++ [.lst ds]) ∧ Rep E (ρ ++ [p]) (upd H p (.lst xs)) (.ref h.length) (.ref p) := by
  have g : Gr E ρ H (ρ ++ [p]) (upd H p (.lst xs)) := Gr.push.trans (Gr.lay n)
  refine ⟨g, r.new n ⟨xs, upd_same, t.mono g⟩, ?_⟩
  simp only [Rep]
  exact ⟨p, rfl, by rw [← r.len, List.getElem?_append_right (Nat.le_refl _), Nat.sub_self]; rfl⟩
/-- a new tuple -/
theorem RH.newT {E : Ew} (r : RH E ρ H h) {p : Addr} {ds : List D} {xs : List V} (n : H p = none) (t : RepL E ρ H ds xs) : Gr E ρ H ρ (upd H p (.tup xs)) ∧ RH E ρ (upd H p (.tup xs)) h ∧ Rep E ρ (upd H p (.tup xs)) (.tup ds) (.ref p) := by
  refine ⟨Gr.lay n, r.side n, ?_⟩
  simp only [Rep]
  exact ⟨p, xs, rfl, .inl upd_same, t.mono (Gr.lay n)⟩
theorem Rep.tupOf {E : Ew} {ds : List D} {v : V} (rv : Rep E ρ H (.tup ds) v) : ∃ a xs, v = .ref a ∧ Tq E.K H a xs ∧ RepL E ρ H ds xs := by simpa only [Rep] using rv
theorem Rep.wlOf {E : Ew} {ds : List D} {v : V} (rv : Rep E ρ H (.wl ds) v) : ∃ a xs, v = .ref a ∧ Fz E.K H a xs ∧ RepL E ρ H ds xs := by simpa only [Rep] using rv
theorem Rep.intOf {E : Ew} {i : Int} {v : V} (rv : Rep E ρ H (.int i) v) : v = .int i := by simpa only [Rep] using rv
theorem Rep.strOf {E : Ew} {i : Str} {v : V} (rv : Rep E ρ H (.str i) v) : v = .str i := by simpa only [Rep] using rv
theorem Rep.blOf {E : Ew} {i : Bool} {v : V} (rv : Rep E ρ H (.bl i) v) : v = .bl i := by simpa only [Rep] using rv
theorem Rep.nonOf {E : Ew} {v : V} (rv : Rep E ρ H .non v) : v = .non := by simpa only [Rep] using rv
theorem Rep.int {E : Ew} (i : Int) : Rep E ρ H (.int i) (.int i) := by simp only [Rep]
theorem Rep.str {E : Ew} (i : Str) : Rep E ρ H (.str i) (.str i) := by simp only [Rep]
theorem Rep.bl {E : Ew} (i : Bool) : Rep E ρ H (.bl i) (.bl i) := by simp only [Rep]
theorem Rep.non {E : Ew} : Rep E ρ H .non .non := by simp only [Rep]

theorem RepL.of_nil {E : Ew} {ds : List D} (t : RepL E ρ H ds []) : ds = [] := List.eq_nil_of_length_eq_zero (by simpa using t.length)
theorem SZ_eq : SZ = sizeLine := by rw [sizeLine_eq]; rfl
theorem length_rep {α : Type} (k : Int) (l : List α) : (rep k l).length = l.length * k.toNat := by
  unfold rep
  rw [PyProof.Rows.lm_len_rep_flat, Nat.mul_comm]

theorem repS_same {α : Type} {k : Int} {l : List α} (h : l = [] ∨ k = 1) : rep k l = l := by
  unfold rep
  rcases h with h | h
  · subst h
    simp
  · subst h
    simp
section
variable (l : Addr) (items : Array Value) (n : Nat) (dd : Option Addr) (sl : Array (Option Value)) (x : Int) (u : Tok)
theorem tmul_same (c0 : (decide (x < -(2 ^ 63)) || decide (x ≥ 2 ^ 63)) = false) (c1 : (items.isEmpty || x == 1) = true) :
    Meets (Builtin.«tuple.__mul__» ⟨[.ref l, .int x u], []⟩) (fun _ R s => s.heap.get? l = some { cls := .type "tuple", dict := dd, data := .seq items n, slots := sl } ∧ R (.ok (.ret (.ref l))) s) :=
  .of_wp fun prog w A R s h => by
    obtain ⟨hp, g, d, tk, os⟩ := s
    obtain ⟨hl, h⟩ := h
    have f1 := AutoSeq1.idx_int
    wp_walk using wpAny_loadPart' hl
    repeat (first
      | (refine wpAny_ite_false (decide_eq_false (by rw [c0]; exact Bool.false_ne_true)) ?_; wp_walk using wpAny_loadPart' hl)
      | (refine wpAny_ite_true (decide_eq_true c1) ?_; wp_walk using wpAny_loadPart' hl))
    exact ⟨_, rfl, h⟩
theorem tmul_none (c0 : (decide (x < -(2 ^ 63)) || decide (x ≥ 2 ^ 63)) = false) (c1 : (items.isEmpty || x == 1) = false) (c2 : (decide (x ≤ 0) || items.isEmpty) = true) :
    Meets (Builtin.«tuple.__mul__» ⟨[.ref l, .int x u], []⟩) (fun _ R s => s.heap.get? l = some { cls := .type "tuple", dict := dd, data := .seq items n, slots := sl } ∧
      R (.ok (.ret (Value.ref s.heap.objs.size))) { s with heap := s.heap.push { cls := Value.type "tuple", data := Data.seq #[] }, toks := s.toks }) :=
  .of_wp fun prog w A R s h => by
    obtain ⟨hp, g, d, tk, os⟩ := s
    obtain ⟨hl, h⟩ := h
    have f1 := AutoSeq1.idx_int
    wp_walk using wpAny_loadPart' hl
    repeat (first
      | (refine wpAny_ite_false (decide_eq_false (by rw [c0]; exact Bool.false_ne_true)) ?_; wp_walk using wpAny_loadPart' hl)
      | (refine wpAny_ite_false (decide_eq_false (by rw [c1]; exact Bool.false_ne_true)) ?_; wp_walk using wpAny_loadPart' hl)
      | (refine wpAny_ite_true (decide_eq_true c2) ?_; wp_walk using wpAny_loadPart' hl))
    exact ⟨_, rfl, h⟩
end
/-- t * k, every k -/
def rRepU (K : PySem.W.Frag) : R2 := fun x y H Q => ∃ l k xs, x = .ref l ∧ y = .int k ∧ SqT K H l xs ∧ -(2 ^ 63) ≤ k ∧ k < 2 ^ 63 ∧ xs.length * k.toNat ≤ sizeLine ∧
  (xs = [] ∨ k = 1 → Q (.ref l) H) ∧ (¬ (xs = [] ∨ k = 1) → ∀ p, H p = none → Q (.ref p) (upd H p (.tup (List.replicate k.toNat xs).flatten)))
theorem op_repU : OpR X (binaryOp .Mult) (rRepU X.K) := by
  intro pins s σ H x y v u Q I rx ry h
  obtain ⟨l, k, xs, rfl, rfl, hT, h1, h2, hz, q1, q2⟩ := h
  cases rx
  obtain ⟨t, rfl⟩ := ry
  obtain ⟨its, r, ⟨⟨oc, dd, data, sl⟩, ho, hc, n, hd⟩, hs⟩ := I.tuple hT
  simp only at hc hd
  subst hc hd
  have hle : its.length = xs.length := r.length.symm
  have c0 : (decide (k < -(2 ^ 63)) || decide (k ≥ 2 ^ 63)) = false := by
    rw [decide_eq_false (by omega), decide_eq_false (by omega)] <;> rfl
  have hi : its.toArray.isEmpty = decide (xs = []) := by
    cases its with
    | nil => rw [List.eq_nil_of_length_eq_zero (l := xs) (by simpa using hle.symm)]; rfl
    | cons a b =>
      cases xs with
      | nil => simp at hle
      | cons c d => simp
  refine wpAny_binaryOp_repeat_ref (T := "tuple") (U := "int") (by decide) ⟨_, ho, rfl⟩ (fun s' => typeIs_int s' k t) noFill_tuple_mul F.fills_int_mul F.slot_int_rmul repeat_tuple F.slot_int_index.lookup
    (call_meets F.slot_int_rmul (typeIs_int s k t) F.entry_int_rmul (F.args_int_rmul_2 _ _) (int_rmul_tuple k t l its.toArray n dd sl) ⟨ho, rfl, ⟨_, ho, rfl⟩, ?_⟩)
  by_cases hsame : xs = [] ∨ k = 1
  · have c1 : (its.toArray.isEmpty || k == 1) = true := by
      rw [hi]
      rcases hsame with e | e
      · rw [decide_eq_true e]; rfl
      · subst e; simp
    exact call_meets F.slot_tuple_mul ⟨_, ho, rfl⟩ F.entry_tuple_mul (F.args_tuple_mul_2 _ _) (tmul_same l its.toArray n dd sl k t c0 c1) ⟨ho, ⟨.ref l, H, I, rfl, q1 hsame⟩⟩
  · rw [not_or] at hsame
    have c1 : (its.toArray.isEmpty || k == 1) = false := by
      rw [hi, decide_eq_false hsame.1, Bool.false_or]
      exact beq_eq_false_iff_ne.mpr hsame.2
    by_cases hk : k ≤ 0
    · have c2 : (decide (k ≤ 0) || its.toArray.isEmpty) = true := by rw [decide_eq_true hk]; rfl
      refine call_meets F.slot_tuple_mul ⟨_, ho, rfl⟩ F.entry_tuple_mul (F.args_tuple_mul_2 _ _) (tmul_none l its.toArray n dd sl k t c0 c1 c2) ⟨ho, ?_⟩
      have e0 : (List.replicate k.toNat xs).flatten = [] := by rw [Int.toNat_of_nonpos hk]; rfl
      have qq := q2 (not_or.mpr hsame)
      rw [e0] at qq
      refine ⟨.ref s.heap.objs.size, _, I.laid (t' := s.toks) (o := .tup []) (fun b ob q => Heap.get?_push_of_some _ q) (Nat.le_refl _) ?_, rfl, qq _ (I.hok.fresh (Nat.le_refl _))⟩
      exact ⟨Nat.zero_le _, [], .nil, IsTup.new _ _⟩
    · have c2 : (decide (k ≤ 0) || its.toArray.isEmpty) = false := by rw [decide_eq_false hk, hi, decide_eq_false hsame.1]; rfl
      have hm : ((its.toArray.size : Nat) : Int) * k ≤ 16777216 := by
        rw [sizeLine_eq] at hz
        rw [List.size_toArray, hle]
        have e3 : ((xs.length * k.toNat : Nat) : Int) = (xs.length : Int) * k := by rw [Int.natCast_mul, Int.toNat_of_nonneg (by omega)]
        omega
      have c4 : Builtin.Tuple.tupleTooMany (((its.toArray.size : Nat) : Int) * k) = false := by
        unfold Builtin.Tuple.tupleTooMany
        rw [sizeLine_eq]
        exact decide_eq_false (by omega)
      have fl : (List.replicate k.toNat its).flatten.length ≤ sizeLine := by
        rw [PyProof.Rows.lm_len_rep_flat, hle, Nat.mul_comm]; exact hz
      refine call_meets F.slot_tuple_mul ⟨_, ho, rfl⟩ F.entry_tuple_mul (F.args_tuple_mul_2 _ _) (tuple_mulW l its.toArray n dd sl k t c0 c1 c2 (by omega) c4 (by rw [size_rep, List.size_toArray]; exact fl)) ⟨ho, ?_⟩
      rw [size_rep]
      refine ⟨.ref s.heap.objs.size, _, I.laid (t' := s.toks) (o := .tup (List.replicate k.toNat xs).flatten) (fun b ob q => Heap.get?_push_of_some _ q) (Nat.le_refl _) ?_, rfl, q2 (not_or.mpr hsame) _ (I.hok.fresh (Nat.le_refl _))⟩
      exact ⟨by rw [PyProof.Rows.lm_len_rep_flat, Nat.mul_comm]; exact hz, _, r.rep k.toNat, IsTup.new _ _⟩
theorem o_add : OpR X (binaryOp .Add) (rD (ew X cls) addB) := by
  intro pins s σ H x y v u Q I rx ry ⟨ρ, d, e, h, z, h', r, rd, re, g, q⟩
  unfold addB at g
  split at g
  · cases g
    rw [rd.intOf] at rx; rw [re.intOf] at ry
    exact op_add pins s σ H _ _ v u Q I rx ry ⟨_, _, rfl, rfl, q _ _ _ .refl r (.int _)⟩
  · split at g
    · rename_i hz
      cases g
      rw [rd.strOf] at rx; rw [re.strOf] at ry
      exact op_add_str pins s σ H _ _ v u Q I rx ry ⟨_, _, rfl, rfl, by rw [← SZ_eq]; exact hz, q _ _ _ .refl r (.str _)⟩
    · cases g
  · split at g
    · rename_i hz
      cases g
      obtain ⟨a, xs, rfl, ta, la⟩ := rd.tupOf
      obtain ⟨b, ys, rfl, tb, lb⟩ := re.tupOf
      have e1 := la.length
      have e2 := lb.length
      refine op_catA pins s σ H _ _ v u Q I rx ry ⟨a, b, xs, ys, rfl, rfl, ta.sq, tb.sq, by rw [← SZ_eq]; omega, fun e => ?_, fun _ e => ?_, fun _ _ p n => ?_⟩
      · subst e
        rw [la.of_nil, List.nil_append] at q
        exact q _ _ _ .refl r re
      · subst e
        rw [lb.of_nil, List.append_nil] at q
        exact q _ _ _ .refl r rd
      · obtain ⟨g1, g2, g3⟩ := r.newT n (la.append lb)
        exact q _ _ _ g1 g2 g3
    · cases g
  · split at g
    · rename_i h1 h2
      split at g
      · rename_i hz
        cases g
        obtain ⟨a, xs, rfl, ha, ta, la⟩ := r.lst rd h1
        obtain ⟨b, ys, rfl, hb, tb, lb⟩ := r.lst re h2
        have e1 := la.length
        have e2 := lb.length
        refine op_cat pins s σ H _ _ v u Q I rx ry ⟨a, b, xs, ys, rfl, rfl, ta, tb, by rw [← SZ_eq]; omega, fun p n => ?_⟩
        obtain ⟨g1, g2, g3⟩ := r.newL n (la.append lb)
        exact q _ _ _ g1 g2 g3
      · cases g
    · cases g
  · cases g

theorem o_sub : OpR X (binaryOp .Sub) (rD (ew X cls) (bop .sub)) := by
  intro pins s σ H x y v u Q I rx ry ⟨ρ, d, e, h, z, h', r, rd, re, g, q⟩
  simp only [bop] at g
  split at g
  · cases g
    rw [rd.intOf] at rx; rw [re.intOf] at ry
    exact op_sub pins s σ H _ _ v u Q I rx ry ⟨_, _, rfl, rfl, q _ _ _ .refl r (.int _)⟩
  · cases g
theorem o_mul : OpR X (binaryOp .Mult) (rD (ew X cls) mulB) := by
  intro pins s σ H x y v u Q I rx ry ⟨ρ, d, e, h, z, h', r, rd, re, g, q⟩
  unfold mulB at g
  split at g
  · split at g
    · rename_i hs
      cases g
      rw [rd.intOf] at rx; rw [re.intOf] at ry
      simp only [small, Bool.or_eq_true, decide_eq_true_eq] at hs
      exact op_mul pins s σ H _ _ v u Q I rx ry ⟨_, _, rfl, rfl, hs, q _ _ _ .refl r (.int _)⟩
    · cases g
  · split at g
    · rename_i hz
      cases g
      simp only [Bool.and_eq_true, decide_eq_true_eq] at hz
      obtain ⟨a, xs, rfl, ta, la⟩ := rd.tupOf
      rw [re.intOf] at ry
      have e1 := la.length
      refine op_repU pins s σ H _ _ v u Q I rx ry ⟨a, _, xs, rfl, rfl, ta.sq, hz.1.1, hz.1.2, by rw [← SZ_eq, ← e1]; exact hz.2, fun e => ?_, fun _ p n => ?_⟩
      · have e2 := repS_same (by rcases e with e | e; exact .inl (by subst e; exact la.of_nil); exact .inr e)
        rw [e2] at q
        exact q _ _ _ .refl r rd
      · obtain ⟨g1, g2, g3⟩ := r.newT n (la.flat _)
        exact q _ _ _ g1 g2 g3
    · cases g
  · split at g
    · rename_i h1
      split at g
      · rename_i hz
        cases g
        simp only [Bool.and_eq_true, decide_eq_true_eq] at hz
        obtain ⟨a, xs, rfl, ha, ta, la⟩ := r.lst rd h1
        rw [re.intOf] at ry
        have e1 := la.length
        refine op_rep pins s σ H _ _ v u Q I rx ry ⟨a, _, xs, rfl, rfl, ta, hz.1.1, hz.1.2, by rw [← SZ_eq, ← e1]; exact hz.2, fun p n => ?_⟩
        obtain ⟨g1, g2, g3⟩ := r.newL n (la.flat _)
        exact q _ _ _ g1 g2 g3
      · cases g
    · cases g
  · cases g
theorem o_fdiv : OpR X (binaryOp .FloorDiv) (rD (ew X cls) (bop .fdiv)) := by
  intro pins s σ H x y v u Q I rx ry ⟨ρ, d, e, h, z, h', r, rd, re, g, q⟩
  simp only [bop] at g
  split at g
  · split at g
    · rename_i hs
      cases g
      rw [rd.intOf] at rx; rw [re.intOf] at ry
      exact op_fdiv pins s σ H _ _ v u Q I rx ry ⟨_, _, rfl, rfl, hs, q _ _ _ .refl r (.int _)⟩
    · cases g
  · cases g
theorem o_mod : OpR X (binaryOp .Mod) (rD (ew X cls) (bop .mod)) := by
  intro pins s σ H x y v u Q I rx ry ⟨ρ, d, e, h, z, h', r, rd, re, g, q⟩
  simp only [bop] at g
  split at g
  · split at g
    · rename_i hs
      cases g
      rw [rd.intOf] at rx; rw [re.intOf] at ry
      exact op_mod pins s σ H _ _ v u Q I rx ry ⟨_, _, rfl, rfl, hs, q _ _ _ .refl r (.int _)⟩
    · cases g
  · cases g
/-- comparisons of ints -/
theorem o_cmp {f : Value → Value → Sem Value} {p : Int → Int → Bool} {b : B} (hb : ∀ d e h, bop b d e h = match d, e with | .int i, .int j => .ok (.bl (p i j)) h | _, _ => .bad)
    (o : OpR X f (rI0 fun i j => .bl (p i j))) : OpR X f (rD (ew X cls) (bop b)) := by
  intro pins s σ H x y v u Q I rx ry ⟨ρ, d, e, h, z, h', r, rd, re, g, q⟩
  rw [hb] at g
  split at g
  · cases g
    rw [rd.intOf] at rx; rw [re.intOf] at ry
    exact o pins s σ H _ _ v u Q I rx ry ⟨_, _, rfl, rfl, q _ _ _ .refl r (.bl _)⟩
  · cases g
theorem o_lt : OpR X (compareOp .Lt) (rD (ew X cls) (bop .lt)) := o_cmp (fun _ _ _ => rfl) op_lt
theorem o_le : OpR X (compareOp .LtE) (rD (ew X cls) (bop .le)) := o_cmp (fun _ _ _ => rfl) op_le
theorem o_gt : OpR X (compareOp .Gt) (rD (ew X cls) (bop .gt)) := o_cmp (fun _ _ _ => rfl) op_gt
theorem o_ge : OpR X (compareOp .GtE) (rD (ew X cls) (bop .ge)) := o_cmp (fun _ _ _ => rfl) op_ge

/-! data read as PyData -/
section
variable {E : Ew}
theorem mapO_dp {f : D → Option PyData} (hf : ∀ d p v, f d = some p → Rep E ρ H d v → Dp E.K H v p) : ∀ (ds : List D) (ps : List PyData) (vs : List V), mapO f ds = some ps → RepL E ρ H ds vs → DpAll E.K H vs ps
  | [], ps, vs, e, q => by
    simp only [mapO, Option.some.injEq] at e
    subst e
    rw [RepL.nil_iff.mp q]
    exact .nil
  | d :: ds, ps, vs, e, q => by
    simp only [mapO] at e
    obtain ⟨v, t, rfl, q1, q2⟩ := q.uncons
    split at e
    · rename_i p' ps' e1 e2
      cases e
      exact .cons (hf d p' v e1 q1) (mapO_dp hf ds ps' t e2 q2)
    · cases e
theorem pdN_dp (rh : RH E ρ H h) : ∀ (n : Nat) (d : D) (p : PyData) (v : V), pdN h n d = some p → Rep E ρ H d v → Dp E.K H v p := by
  intro n
  induction n with
  | zero =>
    intro d p v e q
    unfold pdN at e
    split at e
    · cases e; rw [q.nonOf]; exact .non
    · cases e; rw [q.blOf]; exact .bl _
    · cases e; rw [q.intOf]; exact .int _
    · cases e; rw [q.strOf]; exact .str _
    all_goals cases e
  | succ n ih =>
    intro d p v e q
    unfold pdN at e
    split at e
    · cases e; rw [q.nonOf]; exact .non
    · cases e; rw [q.blOf]; exact .bl _
    · cases e; rw [q.intOf]; exact .int _
    · cases e; rw [q.strOf]; exact .str _
    · simp only [Option.map_eq_some_iff] at e
      obtain ⟨ps, e, rfl⟩ := e
      obtain ⟨a, xs, rfl, t, tl⟩ := q.tupOf
      exact .tup t.sq (mapO_dp ih _ ps xs e tl)
    · simp only [Option.map_eq_some_iff] at e
      obtain ⟨ps, e, rfl⟩ := e
      obtain ⟨a, xs, rfl, t, tl⟩ := q.wlOf
      exact .lst t.sq (mapO_dp ih _ ps xs e tl)
    · simp only at e
      split at e
      · rename_i l hl
        simp only [Option.map_eq_some_iff] at e
        obtain ⟨ps, e, rfl⟩ := e
        obtain ⟨a, ys, rfl, _, ta, la⟩ := rh.lst q hl
        exact .lst (.inl (.inl ta)) (mapO_dp ih _ ps ys e la)
      · cases e
    · cases e
theorem pd_dp (rh : RH E ρ H h) {d : D} {p : PyData} {v : V} (e : pd h d = some p) (q : Rep E ρ H d v) : Dp E.K H v p := pdN_dp rh 8 d p v e q
theorem mapO_plain {n : Nat} {f : D → Option PyData} (hf : ∀ d p, f d = some p → p.plain = true ∧ p.depth ≤ n) : ∀ (ds : List D) (ps : List PyData), mapO f ds = some ps → PyData.plainAll ps = true ∧ PyData.depthAll ps ≤ n
  | [], ps, e => by
    simp only [mapO, Option.some.injEq] at e
    subst e
    exact ⟨rfl, by simp [PyData.depthAll]⟩
  | d :: ds, ps, e => by
    simp only [mapO] at e
    split at e
    · rename_i p' ps' e1 e2
      cases e
      obtain ⟨a, b⟩ := hf d p' e1
      obtain ⟨a2, b2⟩ := mapO_plain hf ds ps' e2
      exact ⟨by simp [PyData.plainAll, a, a2], by simp only [PyData.depthAll]; omega⟩
    · cases e
theorem pdN_plain : ∀ (n : Nat) (d : D) (p : PyData), pdN h n d = some p → p.plain = true ∧ p.depth ≤ n := by
  intro n
  induction n with
  | zero =>
    intro d p e
    unfold pdN at e
    split at e
    · cases e; exact ⟨rfl, by simp [PyData.depth]⟩
    · cases e; exact ⟨rfl, by simp [PyData.depth]⟩
    · cases e; exact ⟨rfl, by simp [PyData.depth]⟩
    · cases e; exact ⟨rfl, by simp [PyData.depth]⟩
    all_goals cases e
  | succ n ih =>
    intro d p e
    unfold pdN at e
    split at e
    · cases e; exact ⟨rfl, by simp [PyData.depth]⟩
    · cases e; exact ⟨rfl, by simp [PyData.depth]⟩
    · cases e; exact ⟨rfl, by simp [PyData.depth]⟩
    · cases e; exact ⟨rfl, by simp [PyData.depth]⟩
    · simp only [Option.map_eq_some_iff] at e
      obtain ⟨ps, e, rfl⟩ := e
      obtain ⟨a, b⟩ := mapO_plain ih _ ps e
      exact ⟨by simpa [PyData.plain] using a, by simp only [PyData.depth]; omega⟩
    · simp only [Option.map_eq_some_iff] at e
      obtain ⟨ps, e, rfl⟩ := e
      obtain ⟨a, b⟩ := mapO_plain ih _ ps e
      exact ⟨by simpa [PyData.plain] using a, by simp only [PyData.depth]; omega⟩
    · simp only at e
      split at e
      · simp only [Option.map_eq_some_iff] at e
        obtain ⟨ps, e, rfl⟩ := e
        obtain ⟨a, b⟩ := mapO_plain ih _ ps e
        exact ⟨by simpa [PyData.plain] using a, by simp only [PyData.depth]; omega⟩
      · cases e
    · cases e
theorem pd_plain {d : D} {p : PyData} (e : pd h d = some p) : p.plain = true ∧ p.depth ≤ 8 := pdN_plain 8 d p e
theorem pds_plain {ds : List D} {ps : List PyData} (e : mapO (pd h) ds = some ps) : PyData.plainAll ps = true ∧ PyData.depthAll ps ≤ 8 := mapO_plain (fun _ _ e => pd_plain e) ds ps e
end
/-- == by data -/
theorem eq_cases {E : Ew} (rh : RH E ρ H h) {d e : D} {b : Bool} {x y : V} (g : eqB d e h = some b) (rd : Rep E ρ H d x) (re : Rep E ρ H e y) :
    (scal x y = true ∧ b = decide (x = y)) ∨ ∃ p q, Dp E.K H x p ∧ Dp E.K H y q ∧ p.plain = true ∧ q.plain = true ∧ p.depth ≤ 8 ∧ b = PyData.eqv p q := by
  unfold eqB at g
  split at g
  · rw [rd.intOf, re.intOf]
    cases g
    exact .inl ⟨rfl, by simp⟩
  · rw [rd.strOf, re.strOf]
    cases g
    exact .inl ⟨rfl, by simp⟩
  · cases g
    rw [rd.nonOf, re.nonOf]
    exact .inl ⟨rfl, rfl⟩
  · rw [rd.blOf, re.blOf]
    cases g
    exact .inl ⟨rfl, by simp⟩
  · unfold eqF at g
    split at g
    · rename_i p q hp hq
      cases g
      exact .inr ⟨p, q, pd_dp rh hp rd, pd_dp rh hq re, (pd_plain hp).1, (pd_plain hq).1, (pd_plain hp).2, rfl⟩
    · cases g
theorem ob_ok {o : Option Bool} {z : D} {h' : AH} (g : ob o h = .ok z h') : ∃ b, o = some b ∧ z = .bl b ∧ h' = h := by
  unfold ob at g
  cases o with
  | none => cases g
  | some b => cases g; exact ⟨b, rfl, rfl, rfl⟩
theorem o_eq (hu : X.A.units + 64 < cLine) : OpR X (compareOp .Eq) (rD (ew X cls) (bop .eq)) := by
  intro pins s σ H x y v u Q I rx ry ⟨ρ, d, e, h, z, h', r, rd, re, g, q⟩
  obtain ⟨b, g1, rfl, rfl⟩ := ob_ok g
  clear g
  have qq : Q (.bl b) H := q _ _ _ .refl r (.bl _)
  rcases eq_cases r g1 rd re with ⟨sc, rfl⟩ | ⟨p, p', h1, h2, h3, h4, h5, rfl⟩
  · exact op_eq pins s σ H _ _ v u Q I rx ry ⟨sc, qq⟩
  · obtain ⟨as, r1⟩ := Dp.reads I p x v h1 rx
    obtain ⟨bs, r2⟩ := Dp.reads I p' y u h2 ry
    exact SeqAt.eq_plain r1 r2 h3 h4 (by omega) ⟨.bl _, H, I, rfl, qq⟩
theorem o_ne (hu : X.A.units + 64 < cLine) : OpR X (compareOp .NotEq) (rD (ew X cls) (bop .ne)) := by
  intro pins s σ H x y v u Q I rx ry ⟨ρ, d, e, h, z, h', r, rd, re, g, q⟩
  obtain ⟨b, g1, rfl, rfl⟩ := ob_ok g
  clear g
  have qq : Q (.bl b) H := q _ _ _ .refl r (.bl _)
  obtain ⟨c, g2, rfl⟩ := Option.map_eq_some_iff.mp g1
  rcases eq_cases r g2 rd re with ⟨sc, rfl⟩ | ⟨p, p', h1, h2, h3, h4, h5, rfl⟩
  · exact op_ne pins s σ H _ _ v u Q I rx ry ⟨sc, qq⟩
  · obtain ⟨as, r1⟩ := Dp.reads I p x v h1 rx
    obtain ⟨bs, r2⟩ := Dp.reads I p' y u h2 ry
    exact SeqAt.ne_plain r1 r2 h3 h4 (by omega) ⟨.bl _, H, I, rfl, qq⟩
theorem is_cases {E : Ew} {d e : D} {b : Bool} {x y : V} (g : isB d e = some b) (rd : Rep E ρ H d x) (re : Rep E ρ H e y) : (y = .non ∧ b = decide (x = .non)) ∨ ∃ i j, x = .bl i ∧ y = .bl j ∧ b = decide (i = j) := by
  unfold isB at g
  split at g
  · cases g; rw [rd.nonOf, re.nonOf]; exact .inl ⟨rfl, rfl⟩
  · cases g; exact .inr ⟨_, _, rd.blOf, re.blOf, rfl⟩
  · cases g; rw [rd.blOf, re.nonOf]; exact .inl ⟨rfl, rfl⟩
  · cases g; rw [rd.intOf, re.nonOf]; exact .inl ⟨rfl, rfl⟩
  · cases g; rw [rd.strOf, re.nonOf]; exact .inl ⟨rfl, rfl⟩
  · cases g; obtain ⟨a, xs, rfl, _⟩ := rd.tupOf; rw [re.nonOf]; exact .inl ⟨rfl, rfl⟩
  · cases g; obtain ⟨a, xs, rfl, _⟩ := rd.wlOf; rw [re.nonOf]; exact .inl ⟨rfl, rfl⟩
  · cases g
    simp only [Rep] at rd
    obtain ⟨a, rfl, _⟩ := rd
    rw [re.nonOf]; exact .inl ⟨rfl, rfl⟩
  · cases g
    simp only [Rep] at rd
    obtain ⟨a, rfl, _⟩ := rd
    rw [re.nonOf]; exact .inl ⟨rfl, rfl⟩
  · cases g
theorem o_is : OpR X (compareOp .Is) (rD (ew X cls) (bop .is)) := by
  intro pins s σ H x y v u Q I rx ry ⟨ρ, d, e, h, z, h', r, rd, re, g, q⟩
  obtain ⟨b, g1, rfl, rfl⟩ := ob_ok g
  clear g
  have qq : Q (.bl b) H := q _ _ _ .refl r (.bl _)
  rcases is_cases g1 rd re with ⟨ey, rfl⟩ | ⟨i, j, rfl, rfl, rfl⟩
  · exact op_isN pins s σ H _ _ v u Q I rx ry ⟨ey, qq⟩
  · exact op_isBl pins s σ H _ _ v u Q I rx ry ⟨_, _, rfl, rfl, qq⟩
theorem o_isnt : OpR X (compareOp .IsNot) (rD (ew X cls) (bop .isnt)) := by
  intro pins s σ H x y v u Q I rx ry ⟨ρ, d, e, h, z, h', r, rd, re, g, q⟩
  obtain ⟨b, g1, rfl, rfl⟩ := ob_ok g
  clear g
  have qq : Q (.bl b) H := q _ _ _ .refl r (.bl _)
  obtain ⟨c, g2, rfl⟩ := Option.map_eq_some_iff.mp g1
  rcases is_cases g2 rd re with ⟨ey, rfl⟩ | ⟨i, j, rfl, rfl, rfl⟩
  · exact op_notN pins s σ H _ _ v u Q I rx ry ⟨ey, qq⟩
  · exact op_notBl pins s σ H _ _ v u Q I rx ry ⟨_, _, rfl, rfl, qq⟩
end
end DL

/-! DL, part d: dicts. -/
namespace DL
open PySem PySem.Spec PyProof.Rows L2

theorem keyD_nk (a b : L2.Key) : nk (keyD a) = nk (keyD b) ↔ a = b := by
  cases a with
  | inl i => cases b with
    | inl j => simp [keyD, nk]
    | inr y => simp [keyD, nk]
  | inr x => cases b with
    | inl j => simp [keyD, nk]
    | inr y => simp [keyD, nk]
theorem keyD_tup (a : L2.Key) : isTup (keyD a) = false := by cases a <;> rfl
section
mutual
theorem kOk_depth : ∀ (d : D) (n : Nat), kOk d n = true → (nk d).depth ≤ n
  | .non, n, _ => by simp [nk, NestedKey.depth]
  | .bl _, n, _ => by simp [nk, NestedKey.depth]
  | .int _, n, _ => by simp [nk, NestedKey.depth]
  | .str _, n, _ => by simp [nk, NestedKey.depth]
  | .tup l, 0, h => by simp [kOk] at h
  | .tup l, n + 1, h => by
    simp only [kOk] at h
    have := kOk_depthL l n h
    simp only [nk, NestedKey.depth]
    omega
  | .wl _, n, _ => by simp [nk, NestedKey.depth]
  | .wd _, n, _ => by simp [nk, NestedKey.depth]
  | .ref _, n, _ => by simp [nk, NestedKey.depth]
  | .fn _, n, _ => by simp [nk, NestedKey.depth]
  | .exn _, n, _ => by simp [nk, NestedKey.depth]
theorem kOk_depthL : ∀ (l : List D) (n : Nat), kOkL l n = true → NestedKey.depthAll (nkL l) ≤ n
  | [], n, _ => by simp [nkL, NestedKey.depthAll]
  | d :: r, n, h => by
    simp only [kOkL, Bool.and_eq_true] at h
    have h1 := kOk_depth d n h.1
    have h2 := kOk_depthL r n h.2
    simp only [nkL, NestedKey.depthAll]
    omega
end
end
section
variable {X : Cx} {pins : List (Addr × Obj)} {σ : L2.St} {H : Hp} {s : Shared} {cls : Ka} {ρ : List Addr}
mutual
theorem key_is (I : Inv X pins σ H s) : ∀ (d : D) (n : Nat) (v : V) (u : Value), kOk d n = true → Rep (ew X cls) ρ H d v → RelV v u → NestedIs s.heap (nk d) u
  | .non, n, v, u, _, q, r => by rw [q.nonOf] at r; cases r; exact .none
  | .bl b, n, v, u, _, q, r => by rw [q.blOf] at r; cases r; simp only [nk]; exact .bool rfl
  | .int i, n, v, u, _, q, r => by rw [q.intOf] at r; obtain ⟨t, rfl⟩ := r; exact .int i t
  | .str x, n, v, u, _, q, r => by rw [q.strOf] at r; obtain ⟨t, rfl⟩ := r; exact .text x t
  | .tup l, 0, v, u, h, _, _ => by simp [kOk] at h
  | .tup l, n + 1, v, u, h, q, r => by
    simp only [kOk] at h
    obtain ⟨a, xs, rfl, t, tl⟩ := q.tupOf
    cases r
    obtain ⟨its, rv, ⟨o, ho, hc, m, hd⟩, _⟩ := I.tuple t.sq
    simp only [nk]
    exact .tup ho hc hd (key_isL I l n xs its h tl rv)
  | .wl _, n, _, _, h, _, _ => by simp [kOk] at h
  | .wd _, n, _, _, h, _, _ => by simp [kOk] at h
  | .ref _, n, _, _, h, _, _ => by simp [kOk] at h
  | .fn _, n, _, _, h, _, _ => by simp [kOk] at h
  | .exn _, n, _, _, h, _, _ => by simp [kOk] at h
theorem key_isL (I : Inv X pins σ H s) : ∀ (l : List D) (n : Nat) (vs : List V) (us : List Value), kOkL l n = true → RepL (ew X cls) ρ H l vs → Vals vs us → NestedAll s.heap (nkL l) us
  | [], n, vs, us, _, q, r => by rw [RepL.nil_iff.mp q] at r; cases r; exact .nil
  | d :: l, n, vs, us, h, q, r => by
    simp only [kOkL, Bool.and_eq_true] at h
    obtain ⟨v, t, rfl, q1, q2⟩ := q.uncons
    cases r with
    | cons r1 r2 =>
      simp only [nkL]
      exact .cons (key_is I d n v _ h.1 q1 r1) (key_isL I l n t _ h.2 q2 r2)
end
theorem keyT_is (I : Inv X pins σ H s) {d : D} {b : Addr} (h : kOk d 8 = true) (q : Rep (ew X cls) ρ H d (.ref b)) : (nestedKind X.prog X.w).is s.heap (nk d) b :=
  ⟨key_is I d 8 _ _ h q rfl, kOk_depth d 8 h⟩

/-! what a dict holds -/
theorem RepK.get {E : Ew} {kd : L2.Key} : ∀ {k : List (D × D)} {ks : List (L2.Key × V)}, RepK E ρ H k ks → match dget k (keyD kd) with | some d => ∃ v, valV ks kd = some v ∧ Rep E ρ H d v | none => valV ks kd = none
  | [], _, h => by cases h; rfl
  | p :: r, _, ⟨k, v, t, e, e1, rv, q⟩ => by
    subst e
    by_cases hk : k = kd
    · have : dget (p :: r) (keyD kd) = some p.2 := by simp [dget, List.find?_cons, e1, hk]
      rw [this]
      exact ⟨v, valV_pos hk, rv⟩
    · have : dget (p :: r) (keyD kd) = dget r (keyD kd) := by simp [dget, List.find?_cons, e1, keyD_nk, hk]
      rw [this, valV_neg (p := (k, v)) hk]
      exact RepK.get q
theorem RepK.length {E : Ew} : ∀ {k : List (D × D)} {ks : List (L2.Key × V)}, RepK E ρ H k ks → k.length = ks.length
  | [], _, h => by cases h; rfl
  | p :: r, _, ⟨k, v, t, e, e1, rv, q⟩ => by subst e; simp [RepK.length q]
theorem RepK.any {E : Ew} {kd : L2.Key} : ∀ {k : List (D × D)} {ks : List (L2.Key × V)}, RepK E ρ H k ks → (k.any fun p => decide (nk p.1 = nk (keyD kd))) = ks.any fun kv => decide (kv.1 = kd)
  | [], _, h => by cases h; rfl
  | p :: r, _, ⟨k, v, t, e, e1, rv, q⟩ => by
    subst e
    rw [List.any_cons, List.any_cons, RepK.any q, e1]
    congr 1
    exact decide_eq_decide.mpr (keyD_nk k kd)
theorem RepK.repl {E : Ew} {kd : L2.Key} {d : D} {v : V} (rv : Rep E ρ H d v) : ∀ {k : List (D × D)} {ks : List (L2.Key × V)}, RepK E ρ H k ks →
    RepK E ρ H (k.map fun p => if nk p.1 = nk (keyD kd) then (p.1, d) else p) (ks.map fun kv => if kv.1 = kd then (kv.1, v) else kv)
  | [], _, h => by cases h; rfl
  | p :: r, _, ⟨k, w, t, e, e1, rw', q⟩ => by
    subst e
    rw [List.map_cons, List.map_cons]
    by_cases hk : k = kd
    · rw [if_pos (by rw [e1]; exact (keyD_nk k kd).mpr hk), if_pos hk]
      exact ⟨k, v, _, rfl, e1, rv, RepK.repl rv q⟩
    · rw [if_neg (by rw [e1]; exact fun z => hk ((keyD_nk k kd).mp z)), if_neg hk]
      exact ⟨k, w, _, rfl, e1, rw', RepK.repl rv q⟩
theorem RepK.snoc {E : Ew} {kd : L2.Key} {d : D} {v : V} (rv : Rep E ρ H d v) : ∀ {k : List (D × D)} {ks : List (L2.Key × V)}, RepK E ρ H k ks → RepK E ρ H (k ++ [(keyD kd, d)]) (ks ++ [(kd, v)])
  | [], _, h => by cases h; exact ⟨kd, v, _, rfl, rfl, rv, rfl⟩
  | p :: r, _, ⟨k, w, t, e, e1, rw', q⟩ => by subst e; exact ⟨k, w, _, rfl, e1, rw', RepK.snoc rv q⟩
theorem RepK.put {E : Ew} {kd : L2.Key} {d : D} {v : V} {k : List (D × D)} {ks : List (L2.Key × V)} (h : RepK E ρ H k ks) (rv : Rep E ρ H d v) : RepK E ρ H (dput k (keyD kd) d) (putK ks kd v) := by
  unfold dput putK
  rw [h.any]
  split
  · exact h.repl rv
  · exact h.snoc rv

theorem RepT.get {E : Ew} {kd : D} : ∀ {k : List (D × D)} {xs : List (NestedKey × Addr × Value)}, RepT E ρ H k xs → match dget k kd with | some d => ∃ v p, atKey xs (nk kd) = some p ∧ RelV v p.2 ∧ Rep E ρ H d v | none => atKey xs (nk kd) = none
  | [], _, h => by cases h; rfl
  | p :: r, _, ⟨b, u, v, t, e, e1, e2, rk, ru, rv, q⟩ => by
    subst e
    by_cases hk : nk p.1 = nk kd
    · have : dget (p :: r) kd = some p.2 := by simp [dget, List.find?_cons, hk]
      rw [this]
      exact ⟨v, (b, u), by simp [atKey, List.find?_cons, hk], ru, rv⟩
    · have : dget (p :: r) kd = dget r kd := by simp [dget, List.find?_cons, hk]
      have h2 : atKey ((nk p.1, b, u) :: t) (nk kd) = atKey t (nk kd) := by simp [atKey, List.find?_cons, hk]
      rw [this, h2]
      exact RepT.get q
theorem RepT.length {E : Ew} : ∀ {k : List (D × D)} {ks : List (NestedKey × Addr × Value)}, RepT E ρ H k ks → k.length = ks.length
  | [], _, h => by cases h; rfl
  | p :: r, _, ⟨b, u, v, t, e, e1, e2, rk, ru, rv, q⟩ => by subst e; simp [RepT.length q]
theorem RepT.keys {E : Ew} : ∀ {k : List (D × D)} {ks : List (NestedKey × Addr × Value)}, RepT E ρ H k ks → (k.map fun p => nk p.1) = ks.map (·.1)
  | [], _, h => by cases h; rfl
  | p :: r, _, ⟨b, u, v, t, e, e1, e2, rk, ru, rv, q⟩ => by subst e; simp [RepT.keys q]
theorem RepT.any {E : Ew} {kd : D} {k : List (D × D)} {xs : List (NestedKey × Addr × Value)} (h : RepT E ρ H k xs) : (k.any fun p => decide (nk p.1 = nk kd)) = (atKey xs (nk kd)).isSome := by
  have e : (k.any fun p => decide (nk p.1 = nk kd)) = (dget k kd).isSome := by
    unfold dget
    rw [Option.isSome_map, List.isSome_find?]
  rw [e]
  have g := h.get (kd := kd)
  split at g
  · rename_i d hd
    obtain ⟨v, p, e1, _⟩ := g
    rw [hd, e1]; rfl
  · rename_i hd
    rw [hd, g]; rfl
theorem RepT.repl {E : Ew} {kd d : D} {v : V} {u : Value} (ru : RelV v u) (rv : Rep E ρ H d v) : ∀ {k : List (D × D)} {xs : List (NestedKey × Addr × Value)}, RepT E ρ H k xs →
    RepT E ρ H (k.map fun p => if nk p.1 = nk kd then (p.1, d) else p) (xs.map (putAt (nk kd) u))
  | [], _, h => by cases h; rfl
  | p :: r, _, ⟨b, u', v', t, e, e1, e2, rk, ru', rv', q⟩ => by
    subst e
    rw [List.map_cons, List.map_cons]
    unfold putAt
    by_cases hk : nk p.1 = nk kd
    · rw [if_pos hk, if_pos hk]
      exact ⟨b, u, v, _, rfl, e1, e2, rk, ru, rv, RepT.repl ru rv q⟩
    · rw [if_neg hk, if_neg hk]
      exact ⟨b, u', v', _, rfl, e1, e2, rk, ru', rv', RepT.repl ru rv q⟩
theorem RepT.snoc {E : Ew} {kd d : D} {b : Addr} {v : V} {u : Value} (h1 : isTup kd = true) (h2 : kOk kd 8 = true) (rk : Rep E ρ H kd (.ref b)) (ru : RelV v u) (rv : Rep E ρ H d v) :
    ∀ {k : List (D × D)} {xs : List (NestedKey × Addr × Value)}, RepT E ρ H k xs → RepT E ρ H (k ++ [(kd, d)]) (xs ++ [(nk kd, b, u)])
  | [], _, h => by cases h; exact ⟨b, u, v, _, rfl, h1, h2, rk, ru, rv, rfl⟩
  | p :: r, _, ⟨b', u', v', t, e, e1, e2, rk', ru', rv', q⟩ => by subst e; exact ⟨b', u', v', _, rfl, e1, e2, rk', ru', rv', RepT.snoc h1 h2 rk ru rv q⟩
theorem RepT.put {E : Ew} {kd d : D} {b : Addr} {v : V} {u : Value} {k : List (D × D)} {xs : List (NestedKey × Addr × Value)} (h : RepT E ρ H k xs) (h1 : isTup kd = true) (h2 : kOk kd 8 = true) (rk : Rep E ρ H kd (.ref b)) (ru : RelV v u) (rv : Rep E ρ H d v) :
    RepT E ρ H (dput k kd d) (storedH xs (nk kd) b u) := by
  unfold dput storedH
  rw [h.any]
  split
  · exact h.repl ru rv
  · exact h.snoc h1 h2 rk ru rv
theorem RepT.all {k : List (D × D)} {xs : List (NestedKey × Addr × Value)} (I : Inv X pins σ H s) : ∀ {k : List (D × D)} {xs : List (NestedKey × Addr × Value)}, RepT (ew X cls) ρ H k xs → ∀ x ∈ xs, (nestedKind X.prog X.w).is s.heap x.1 x.2.1
  | [], _, h, x, hx => by cases h; exact nomatch hx
  | p :: r, _, ⟨b, u, v, t, e, e1, e2, rk, ru, rv, q⟩, x, hx => by
    subst e
    rcases List.mem_cons.mp hx with rfl | hx
    · exact keyT_is I e2 rk
    · exact RepT.all (k := []) (xs := []) I q x hx
theorem dput_keys (k : List (D × D)) (kd d : D) (n : (k.map fun p => nk p.1).Nodup) : ((dput k kd d).map fun p => nk p.1).Nodup := by
  unfold dput
  split
  · have : (List.map (fun p => nk p.1) (k.map fun p => if nk p.1 = nk kd then (p.1, d) else p)) = k.map fun p => nk p.1 := by
      rw [List.map_map]
      refine List.map_congr_left fun p _ => ?_
      simp only [Function.comp_apply]
      split <;> rfl
    rw [this]; exact n
  · rename_i h
    rw [List.map_append, List.nodup_append]
    refine ⟨n, by simp, fun a ha b hb => ?_⟩
    simp only [List.map_cons, List.map_nil, List.mem_singleton] at hb
    subst hb
    intro e
    subst e
    obtain ⟨p, hp, e⟩ := List.mem_map.mp ha
    exact h (List.any_eq_true.mpr ⟨p, hp, decide_eq_true e⟩)
theorem dput_length (k : List (D × D)) (kd d : D) : (dput k kd d).length ≤ k.length + 1 := by
  unfold dput
  split
  · rw [List.length_map]; omega
  · rw [List.length_append]; simp
/-- the raw dict as the library tells it -/
theorem nt_of {a : Addr} {k : List (D × D)} {xs : List (NestedKey × Addr × Value)} (I : Inv X pins σ H s) (hn : NTup X.prog X.w a xs s.heap) (t : RepT (ew X cls) ρ H k xs) (n : (k.map fun p => nk p.1).Nodup) : s.heap.DictOfH (nestedKind X.prog X.w) a xs := by
  obtain ⟨o, es, ep, h1, h2, h3, h4⟩ := hn
  exact ⟨o, es, ep, h1, h2, h3, h4, RepT.all (k := []) (xs := []) I t, by rw [← t.keys]; exact n⟩
theorem nt_back {a : Addr} {xs : List (NestedKey × Addr × Value)} {h : Heap} {P : Program} {w : World} (x : h.DictOfH (nestedKind P w) a xs) : NTup P w a xs h :=
  let ⟨o, es, ep, h1, h2, h3, h4, _, _⟩ := x; ⟨o, es, ep, h1, h2, h3, h4⟩
theorem nt_ok {a : Addr} {xs : List (NestedKey × Addr × Value)} {h : Heap} {P : Program} {w : World} {H' : Hp} (x : NTup P w a xs h) : ObjOk P w H' h a (NT P w a xs) := by
  refine ⟨x, let ⟨o, _, _, h1, _⟩ := x; ⟨o, h1⟩, fun h1 h2 p k => ?_⟩
  obtain ⟨o, es, ep, e1, e2⟩ := p
  exact ⟨o, es, ep, k o e1, e2⟩

theorem RepK.leaf {E : Ew} : ∀ {k : List (D × D)} {ks : List (L2.Key × V)}, RepK E ρ H k ks → ∀ p ∈ k, isTup p.1 = false
  | [], _, _, p, hp => nomatch hp
  | p :: r, _, ⟨k, v, t, e, e1, rv, q⟩, x, hx => by
    rcases List.mem_cons.mp hx with rfl | hx
    · rw [e1]; exact keyD_tup k
    · exact RepK.leaf q x hx
theorem RepT.tupl {E : Ew} : ∀ {k : List (D × D)} {ks : List (NestedKey × Addr × Value)}, RepT E ρ H k ks → ∀ p ∈ k, isTup p.1 = true
  | [], _, _, p, hp => nomatch hp
  | p :: r, _, ⟨b, u, v, t, e, e1, e2, rk, ru, rv, q⟩, x, hx => by
    rcases List.mem_cons.mp hx with rfl | hx
    · exact e1
    · exact RepT.tupl q x hx
theorem keyOk_of {k : List (D × D)} {kd : D} (h : keyOk k kd = true) : top kd = true ∧ ∀ p ∈ k, isTup p.1 = isTup kd := by
  unfold keyOk at h
  rw [Bool.and_eq_true, List.all_eq_true] at h
  exact ⟨h.1, fun p hp => by simpa using h.2 p hp⟩
/-- a key at the top is an int, a text, or a tuple -/
theorem top_cases {kd : D} (h : top kd = true) : (∃ k, kd = keyD k ∧ isTup kd = false) ∨ (isTup kd = true ∧ kOk kd 8 = true) := by
  unfold top at h
  split at h
  · rename_i i; exact .inl ⟨.inl i, rfl, rfl⟩
  · rename_i x; exact .inl ⟨.inr x, rfl, rfl⟩
  · exact .inr ⟨rfl, h⟩
  · cases h
theorem Rep.keyV {E : Ew} {k : L2.Key} {v : V} (h : Rep E ρ H (keyD k) v) : v = kV k := by
  cases k with
  | inl i => exact Rep.intOf (i := i) h
  | inr x => exact Rep.strOf (i := x) h
/-- what is read: the dict's road for this key -/
theorem rd_dict {E : Ew} {u : Option HO} {a : Addr} {k : List (D × D)} {kd : D} (d : RDct E ρ H u a k) (hk : keyOk k kd = true) (ne : k ≠ []) :
    (∃ kk ks, kd = keyD kk ∧ u = some (.dK ks) ∧ RepK E ρ H k ks) ∨ (∃ xs, isTup kd = true ∧ kOk kd 8 = true ∧ u = some (NT E.P E.w a xs) ∧ RepT E ρ H k xs) := by
  obtain ⟨ht, hall⟩ := keyOk_of hk
  obtain ⟨_, _, _, d⟩ := d
  obtain ⟨p, hp⟩ := List.exists_mem_of_ne_nil k ne
  rcases top_cases ht with ⟨kk, e, f⟩ | ⟨f, g⟩
  · rcases d with ⟨ks, e1, r⟩ | ⟨xs, e1, r⟩
    · exact .inl ⟨kk, ks, e, e1, r⟩
    · have h1 := hall p hp
      rw [r.tupl p hp, f] at h1
      cases h1
  · rcases d with ⟨ks, e1, r⟩ | ⟨xs, e1, r⟩
    · have h1 := hall p hp
      rw [r.leaf p hp, f] at h1
      cases h1
    · exact .inr ⟨xs, f, g, e1, r⟩
/-- the same heap, the dict told as this key wants it -/
theorem norm (I : Inv X pins σ H s) {h : AH} (r : RH (ew X cls) ρ H h) {l : Nat} {a : Addr} {k : List (D × D)} {kd : D} (ha : ρ[l]? = some a) (hl : h[l]? = some (.dct k)) (hk : keyOk k kd = true) :
    ∃ H', Inv X pins σ H' s ∧ Gr (ew X cls) ρ H ρ H' ∧ RH (ew X cls) ρ H' h ∧ k.length ≤ sizeLine ∧ (a == sysModules) = false ∧ (k.map fun p => nk p.1).Nodup ∧
      ((∃ kk ks, kd = keyD kk ∧ H' a = some (.dK ks) ∧ RepK (ew X cls) ρ H' k ks) ∨ (∃ xs, isTup kd = true ∧ kOk kd 8 = true ∧ H' a = some (NT X.prog X.w a xs) ∧ RepT (ew X cls) ρ H' k xs)) := by
  have d : RDct (ew X cls) ρ H (H a) a k := r.ob l a _ ha hl
  obtain ⟨d1, d2, d3, d4⟩ := id d
  by_cases ne : k = []
  · subst ne
    -- the empty dict is both
    have key : ∀ u : HO, ObjOk X.prog X.w (upd H a u) s.heap a u → RDct (ew X cls) ρ H (some u) a [] → Mut (H a) →
        ∃ H', Inv X pins σ H' s ∧ Gr (ew X cls) ρ H ρ H' ∧ RH (ew X cls) ρ H' h ∧ H' a = some u := fun u ok rd mu => by
      have g : Gr (ew X cls) ρ H ρ (upd H a u) := Gr.write mu
      refine ⟨upd H a u, ?_, g, ?_, upd_same⟩
      · have w := I.write (x := a) (e := a) (o := u) (h' := s.heap) (t' := s.toks) mu (.inl rfl) (fun _ _ _ q => q) (let ⟨o, q⟩ := objOk_get ok; ⟨o, q⟩) ok
        exact w
      · have w := r.set (o := .dct []) ha g (by
          show RDct (ew X cls) ρ (upd H a u) (upd H a u a) a []
          rw [upd_same]
          exact rd.mono g)
        have e : h.set l (.dct []) = h := by
          apply List.ext_getElem?
          intro i
          by_cases hi : i = l
          · subst hi; rw [List.getElem?_set_self (List.getElem?_eq_some_iff.mp hl).1, hl]
          · rw [List.getElem?_set_ne (Ne.symm hi)]
        rw [e] at w
        exact w
    have mu : Mut (H a) := by
      rcases d4 with ⟨ks, e, _⟩ | ⟨xs, e, _⟩
      · rw [e]; trivial
      · rw [e]; trivial
    -- the object itself
    have ob : ∃ o ep, s.heap.get? a = some o ∧ o.ExactDict ∧ o.data = .dict #[] ep := by
      rcases d4 with ⟨ks, e, q⟩ | ⟨xs, e, q⟩
      · cases q
        obtain ⟨_, _, vs, rel, o, es, ep, h1, h2, h3, _, h5, _⟩ := dk_of I.hok e
        cases rel
        have : es.toList = [] := by cases h5' : es.toList with
          | nil => rfl
          | cons x y => rw [h5'] at h5; cases h5
        exact ⟨o, ep, h1, h2, by rw [h3, show es = #[] from by rw [← Array.toList_inj]; exact this]⟩
      · cases q
        obtain ⟨⟨o, es, ep, h1, h2, h3, h4⟩, _⟩ := (show ObjOk X.prog X.w H s.heap a (NT X.prog X.w a []) from I.hok a _ e)
        exact ⟨o, ep, h1, h2, by rw [h3, show es = #[] from by rw [← Array.toList_inj]; exact h4]⟩
    obtain ⟨o, ep, h1, h2, h3⟩ := ob
    rcases top_cases (keyOk_of hk).1 with ⟨kk, e, f⟩ | ⟨f, g⟩
    · obtain ⟨H', I', g', r', e'⟩ := key (.dK []) ⟨Nat.zero_le _, d2, [], .nil, o, #[], ep, h1, h2, h3, (by intro e he; exact nomatch he), .nil, List.nodup_nil⟩ ⟨Nat.zero_le _, d2, List.nodup_nil, .inl ⟨[], rfl, rfl⟩⟩ mu
      exact ⟨H', I', g', r', Nat.zero_le _, d2, List.nodup_nil, .inl ⟨kk, [], e, e', rfl⟩⟩
    · obtain ⟨H', I', g', r', e'⟩ := key (NT X.prog X.w a []) (nt_ok ⟨o, #[], ep, h1, h2, h3, rfl⟩) ⟨Nat.zero_le _, d2, List.nodup_nil, .inr ⟨[], rfl, rfl⟩⟩ mu
      exact ⟨H', I', g', r', Nat.zero_le _, d2, List.nodup_nil, .inr ⟨[], f, g, e', rfl⟩⟩
  · exact ⟨H, I, .refl, r, d1, d2, d3, rd_dict d hk ne⟩
end
end DL

/-! DL, part e: what is done with dicts; in, items, truth, stores by place. -/
namespace DL
open PySem PySem.Spec PyProof.Rows L2

/-- how a dict lies, for this key -/
inductive Rode (E : Ew) (ρ : List Addr) (H : Hp) (a : Addr) (k : List (D × D)) (kd : D) : Prop
  | leaf (kk : L2.Key) (ks : List (L2.Key × V)) : kd = keyD kk → Rd H a (.dK ks) → RepK E ρ H k ks → Rode E ρ H a k kd
  | tup (xs : List (NestedKey × Addr × Value)) : isTup kd = true → kOk kd 8 = true → Rd H a (NT E.P E.w a xs) → RepT E ρ H k xs → (k.map fun p => nk p.1).Nodup → (a == sysModules) = false → Rode E ρ H a k kd
section
variable {X : Cx} {pins : List (Addr × Obj)} {σ : L2.St} {H : Hp} {s : Shared} {cls : Ka} {ρ : List Addr} {a : Addr} {k : List (D × D)} {kd : D} {y : V} {u : Value} {A : Around} {E : Value → Shared → Prop}
theorem rode_get (g : Rode (ew X cls) ρ H a k kd) (I : Inv X pins σ H s) (ry : Rep (ew X cls) ρ H kd y) :
    (∃ kk vs, y = kV kk ∧ kd = keyD kk ∧ (a == sysModules) = false ∧ s.heap.DictOf (mixKind X.prog X.w) a vs ∧ match dget k kd with | some d => ∃ v w, valueAt vs kk = some w ∧ RelV v w ∧ Rep (ew X cls) ρ H d v | none => valueAt vs kk = none) ∨
    (∃ b xs, y = .ref b ∧ (nestedKind X.prog X.w).is s.heap (nk kd) b ∧ (a == sysModules) = false ∧ s.heap.DictOfH (nestedKind X.prog X.w) a xs ∧ match dget k kd with | some d => ∃ v p, atKey xs (nk kd) = some p ∧ RelV v p.2 ∧ Rep (ew X cls) ρ H d v | none => atKey xs (nk kd) = none) := by
  cases g with
  | leaf kk ks e hr r =>
    subst e
    obtain ⟨_, hd, vs, rel, dd⟩ := dk_rd I.hok hr
    refine .inl ⟨kk, vs, ry.keyV, rfl, hd, dd, ?_⟩
    have g := r.get (kd := kk)
    split at g
    · rename_i d hg
      obtain ⟨v, e1, rv⟩ := g
      obtain ⟨w, e2, rw'⟩ := RelO.some_of (v := v) (o := valueAt vs kk) (by rw [← e1]; exact rel.val kk)
      try rw [hg]
      exact ⟨v, w, e2, rw', rv⟩
    · rename_i hg
      try rw [hg]
      exact RelO.none_of (by rw [← g]; exact rel.val kk)
  | tup xs h1 h2 hr r n hd =>
    have hb : ∃ b, y = .ref b := by
      cases kd with
      | tup l => obtain ⟨b, _, e, _⟩ := ry.tupOf; exact ⟨b, e⟩
      | _ => exact absurd h1 (by simp [isTup])
    obtain ⟨b, rfl⟩ := hb
    obtain ⟨nt, _⟩ := (show ObjOk X.prog X.w H s.heap a (NT X.prog X.w a xs) from hr.ok I.hok)
    exact .inr ⟨b, xs, rfl, keyT_is I h2 ry, hd, nt_of I nt r n, r.get⟩
theorem rode_in {Q : Value → Shared → Prop} (hu : A.units + 64 < cLine) (g : Rode (ew X cls) ρ H a k kd) (I : Inv X pins σ H s) (rd : Rep (ew X cls) ρ H kd y) (ry : RelV y u) (h : ∀ s', Inv X pins σ H s' → Q (.bool (dget k kd).isSome) s') :
    wpAny (model X.prog X.w) A (compareOp .In u (.ref a)) Q E s := by
  rcases rode_get g I rd with ⟨kk, vs, rfl, _, hd, dd, m⟩ | ⟨b, xs, rfl, hk, hd, dd, m⟩
  · refine wpAny_in_of (kV_is ry) hd dd.mapOf ?_
    have e : (valueAt vs kk).isSome = (dget k kd).isSome := by
      split at m
      · rename_i d hg; obtain ⟨v, w, e2, _⟩ := m; rw [e2, hg]; rfl
      · rename_i hg; rw [m, hg]; rfl
    rw [e]
    exact h _ (I.tok _)
  · cases (show u = Value.ref b from ry)
    refine wpAny_in_heap (by show A.units + 1 + 8 < cLine; omega) hk hd dd ?_
    have e : (atKey xs (nk kd)).isSome = (dget k kd).isSome := by
      split at m
      · rename_i d hg; obtain ⟨v, w, e2, _⟩ := m; rw [e2, hg]; rfl
      · rename_i hg; rw [m, hg]; rfl
    rw [e]
    exact h _ (I.tok _)
theorem rode_notIn {Q : Value → Shared → Prop} (hu : A.units + 64 < cLine) (g : Rode (ew X cls) ρ H a k kd) (I : Inv X pins σ H s) (rd : Rep (ew X cls) ρ H kd y) (ry : RelV y u) (h : ∀ s', Inv X pins σ H s' → Q (.bool (!(dget k kd).isSome)) s') :
    wpAny (model X.prog X.w) A (compareOp .NotIn u (.ref a)) Q E s := by
  rcases rode_get g I rd with ⟨kk, vs, rfl, _, hd, dd, m⟩ | ⟨b, xs, rfl, hk, hd, dd, m⟩
  · refine wpAny_notIn_of (kV_is ry) hd dd.mapOf ?_
    have e : (valueAt vs kk).isSome = (dget k kd).isSome := by
      split at m
      · rename_i d hg; obtain ⟨v, w, e2, _⟩ := m; rw [e2, hg]; rfl
      · rename_i hg; rw [m, hg]; rfl
    rw [e]
    exact h _ (I.tok _)
  · cases (show u = Value.ref b from ry)
    refine wpAny_notIn_heap (by show A.units + 1 + 8 < cLine; omega) hk hd dd ?_
    have e : (atKey xs (nk kd)).isSome = (dget k kd).isSome := by
      split at m
      · rename_i d hg; obtain ⟨v, w, e2, _⟩ := m; rw [e2, hg]; rfl
      · rename_i hg; rw [m, hg]; rfl
    rw [e]
    exact h _ (I.tok _)
theorem rode_item {Q : Value → Shared → Prop} {d : D} (hu : A.units + 64 < cLine) (g : Rode (ew X cls) ρ H a k kd) (I : Inv X pins σ H s) (rd : Rep (ew X cls) ρ H kd y) (ry : RelV y u) (e : dget k kd = some d)
    (h : ∀ w v s', Inv X pins σ H s' → RelV v w → Rep (ew X cls) ρ H d v → Q w s') : wpAny (model X.prog X.w) A (getItem (.ref a) u) Q E s := by
  rcases rode_get g I rd with ⟨kk, vs, rfl, _, hd, dd, m⟩ | ⟨b, xs, rfl, hk, hd, dd, m⟩
  · rw [e] at m
    obtain ⟨v, w, e2, rv, rr⟩ := m
    exact wpAny_getItem_of (kV_is ry) dd.mapOf e2 (h w v _ (I.tok _) rv rr)
  · cases (show u = Value.ref b from ry)
    rw [e] at m
    obtain ⟨v, p, e2, rv, rr⟩ := m
    exact wpAny_getItem_heap (by show A.units + 1 + 8 < cLine; omega) hk dd e2 (h _ v _ (I.tok _) rv rr)
theorem rode_get2 {Q : Value → Shared → Prop} {d : D} {x : V} {r : Value} (hu : A.units + 64 < cLine) (g : Rode (ew X cls) ρ H a k kd) (I : Inv X pins σ H s) (rd : Rep (ew X cls) ρ H kd y) (ry : RelV y u) (rx : Rep (ew X cls) ρ H d x) (rr : RelV x r)
    (h : ∀ w v s', Inv X pins σ H s' → RelV v w → Rep (ew X cls) ρ H ((dget k kd).getD d) v → Q w s') : wpAny (model X.prog X.w) A (call (.builtin "dict.get") [.ref a, u, r]) Q E s := by
  rcases rode_get g I rd with ⟨kk, vs, rfl, _, hd, dd, m⟩ | ⟨b, xs, rfl, hk, hd, dd, m⟩
  · have e : ∃ v, RelV v ((valueAt vs kk).getD r) ∧ Rep (ew X cls) ρ H ((dget k kd).getD d) v := by
      split at m
      · rename_i hg; obtain ⟨v, w, e2, rv, r2⟩ := m; rw [e2, hg]; exact ⟨v, rv, r2⟩
      · rename_i hg; rw [m, hg]; exact ⟨x, rr, rx⟩
    obtain ⟨v, e1, e2⟩ := e
    exact call_meetsIn PySem.F.slot_dict_get dd.typeIs PySem.F.entry_dict_get (PySem.F.args_dict_get_3 _ _ _) (meets_dict_get_default (mixKind X.prog X.w) a (kV_is ry) hd r) ⟨_, dd.mapOf, h _ v _ (I.tok _) e1 e2⟩
  · cases (show u = Value.ref b from ry)
    have e : ∃ v, RelV v (((atKey xs (nk kd)).map (·.2)).getD r) ∧ Rep (ew X cls) ρ H ((dget k kd).getD d) v := by
      split at m
      · rename_i hg; obtain ⟨v, w, e2, rv, r2⟩ := m; rw [e2, hg]; exact ⟨v, rv, r2⟩
      · rename_i hg; rw [m, hg]; exact ⟨x, rr, rx⟩
    obtain ⟨v, e1, e2⟩ := e
    exact call_meetsIn PySem.F.slot_dict_get dd.typeIs PySem.F.entry_dict_get (PySem.F.args_dict_get_3 _ _ _) (meetsH_dict_get_default (nestedKind X.prog X.w) a b hd r) ⟨by show A.units + 1 + 8 < cLine; omega, nk kd, xs, hk, dd, h _ v _ (I.tok _) e1 e2⟩
end

/-! the roads as they come from the abstract heap -/
section
variable {X : Cx} {pins : List (Addr × Obj)} {σ : L2.St} {H : Hp} {s : Shared} {cls : Ka} {ρ : List Addr} {h : AH}
theorem rode_dct (I : Inv X pins σ H s) (r : RH (ew X cls) ρ H h) {l : Nat} {a : Addr} {k : List (D × D)} {kd : D} (ha : ρ[l]? = some a) (hl : h[l]? = some (.dct k)) (hk : keyOk k kd = true) :
    ∃ H', Inv X pins σ H' s ∧ Gr (ew X cls) ρ H ρ H' ∧ RH (ew X cls) ρ H' h ∧ Rode (ew X cls) ρ H' a k kd := by
  obtain ⟨H', I', g, r', d1, d2, d3, ⟨kk, ks, e, q, rk⟩ | ⟨xs, f1, f2, q, rt⟩⟩ := norm I r ha hl hk
  · exact ⟨H', I', g, r', .leaf kk ks e (.inl q) rk⟩
  · exact ⟨H', I', g, r', .tup xs f1 f2 (.inl q) rt d3 d2⟩
theorem rode_rod (r : RH (ew X cls) ρ H h) {l : Nat} {a : Addr} {k : List (D × D)} {kd : D} (ha : ρ[l]? = some a) (hl : h[l]? = some (.rod k)) (hk : keyOkR k kd = true) : Rode (ew X cls) ρ H a k kd := by
  unfold keyOkR at hk
  rw [Bool.and_eq_true] at hk
  obtain ⟨o, u, q, d⟩ := (show RO (ew X cls) ρ H a (.rod k) from r.ob l a _ ha hl)
  obtain ⟨d1, d2, d3, _⟩ := id d
  rcases rd_dict d hk.2 (by intro e; subst e; simp at hk) with ⟨kk, ks, e, e1, rk⟩ | ⟨xs, f1, f2, e1, rt⟩
  · cases e1
    exact .leaf kk ks e (.inr ⟨o, q⟩) rk
  · cases e1
    exact .tup xs f1 f2 (.inr ⟨o, q⟩) rt d3 d2
/-- the dict is written -/
theorem rode_set (I : Inv X pins σ H s) (r : RH (ew X cls) ρ H h) {l : Nat} {a : Addr} {k : List (D × D)} {kd d : D} {y v : V} {u w : Value} {A : Around} {E : Value → Shared → Prop} {Q : Unit → Shared → Prop} (hu : A.units + 64 < cLine)
    (ha : ρ[l]? = some a) (hl : h[l]? = some (.dct k)) (hk : keyOk k kd = true) (hz : k.length < SZ) (rd : Rep (ew X cls) ρ H kd y) (ry : RelV y u) (rv : Rep (ew X cls) ρ H d v) (rw' : RelV v w)
    (q : ∀ H' s', Inv X pins σ H' s' → Gr (ew X cls) ρ H ρ H' → RH (ew X cls) ρ H' (h.set l (.dct (dput k kd d))) → Q () s') : wpAny (model X.prog X.w) A (setItem (.ref a) u w) Q E s := by
  obtain ⟨H1, I1, g1, r1, d1, d2, d3, road⟩ := norm I r ha hl hk
  have rd1 := rd.mono g1
  have rv1 := rv.mono g1
  have hz' : (dput k kd d).length ≤ sizeLine := by have := dput_length k kd d; rw [SZ_eq] at hz; omega
  have nd' := dput_keys k kd d d3
  rcases road with ⟨kk, ks, rfl, e, rk⟩ | ⟨xs, f1, f2, e, rt⟩
  · rw [rd1.keyV] at ry
    obtain ⟨z, hd, vs, rel, dd⟩ := dk_of I1.hok e
    refine wpAny_setItem_pairs (hsz := by rw [← rel.length]; exact z) (kV_is ry) dd fun h' dd' hs => ?_
    have he : ∃ q, h'.get? a = some q := let ⟨q, _, _, hq, _⟩ := dd'; ⟨q, hq⟩
    have mu : Mut (H1 a) := by rw [e]; trivial
    have rk' : RepK (ew X cls) ρ H1 (dput k (keyD kk) d) (putK ks kk v) := rk.put rv1
    have g2 : Gr (ew X cls) ρ H1 ρ (upd H1 a (.dK (putK ks kk v))) := Gr.write mu
    refine q _ _ (d_write (t' := _) I1 mu hs he (dk_new (by rw [← rk'.length]; exact hz') hd (rel.put kk rw') dd')) (g1.trans g2) (r1.set ha g2 ?_)
    show RDct (ew X cls) ρ _ (upd H1 a _ a) a _
    rw [upd_same]
    exact ⟨hz', d2, nd', .inl ⟨_, rfl, rk'.mono g2⟩⟩
  · have hb : ∃ b, y = .ref b := by
      cases kd with
      | tup l => obtain ⟨b, _, e, _⟩ := rd.tupOf; exact ⟨b, e⟩
      | _ => exact absurd f1 (by simp [isTup])
    obtain ⟨b, rfl⟩ := hb
    cases (show u = Value.ref b from ry)
    obtain ⟨nt, _⟩ := (show ObjOk X.prog X.w H1 s.heap a (NT X.prog X.w a xs) from I1.hok a _ e)
    have dd := nt_of I1 nt rt d3
    refine wpAny_setItem_heap (hsz := by rw [← rt.length]; exact d1) (by show A.units + 1 + 8 < cLine; omega) (keyT_is I1 f2 rd1) dd fun h' dd' hs => ?_
    have he : ∃ q, h'.get? a = some q := let ⟨q, _, _, hq, _⟩ := dd'; ⟨q, hq⟩
    have mu : Mut (H1 a) := by rw [e]; trivial
    have rt' : RepT (ew X cls) ρ H1 (dput k kd d) (storedH xs (nk kd) b w) := rt.put f1 f2 rd1 rw' rv1
    have g2 : Gr (ew X cls) ρ H1 ρ (upd H1 a (NT X.prog X.w a (storedH xs (nk kd) b w))) := Gr.write mu
    refine q _ _ (d_write (t' := _) I1 mu hs he (nt_ok (nt_back dd'))) (g1.trans g2) (r1.set ha g2 ?_)
    show RDct (ew X cls) ρ _ (upd H1 a _ a) a _
    rw [upd_same]
    exact ⟨hz', d2, nd', .inr ⟨_, rfl, rt'.mono g2⟩⟩
end
end DL

/-! DL, part f: in, items, truth, stores. -/
namespace DL
open PySem PySem.Spec PyProof.Rows L2

section
variable {X : Cx} {cls : Ka}
/-- in, not in: what is to be shown of the model's word -/
theorem in_core (hu : X.A.units + 64 < cLine) {neg : Bool} {pins : List (Addr × Obj)} {s : Shared} {σ : L2.St} {H : Hp} {x y : V} {v u : Value} {Q : Value → Shared → Prop} {ρ : List Addr} {d e : D} {h : AH} {b : Bool}
    (I : Inv X pins σ H s) (rx : RelV x v) (ry : RelV y u) (r : RH (ew X cls) ρ H h) (rd : Rep (ew X cls) ρ H d x) (re : Rep (ew X cls) ρ H e y) (g : inB d e h = some b)
    (q : ∀ H' s', Inv X pins σ H' s' → Gr (ew X cls) ρ H ρ H' → RH (ew X cls) ρ H' h → Q (.bool (if neg then !b else b)) s') :
    wpAny (model X.prog X.w) X.A (compareOp (if neg then .NotIn else .In) v u) Q X.xe s := by
  have q0 : Q (.bool (if neg then !b else b)) s := q H s I .refl r
  unfold inB at g
  split at g
  · -- a place
    rename_i l
    simp only [Rep] at re
    obtain ⟨a, rfl, ha⟩ := re
    cases ry
    split at g
    · rename_i k hl
      split at g
      · rename_i hk
        cases g
        obtain ⟨H1, I1, g1, r1, road⟩ := rode_dct I r ha hl hk
        cases neg with
        | false => exact rode_in hu road I1 (rd.mono g1) rx fun s' I' => q H1 s' I' g1 r1
        | true => exact rode_notIn hu road I1 (rd.mono g1) rx fun s' I' => q H1 s' I' g1 r1
      · cases g
    · rename_i k hl
      split at g
      · rename_i hk
        cases g
        have road := rode_rod r ha hl hk
        cases neg with
        | false => exact rode_in hu road I rd rx fun s' I' => q H s' I' .refl r
        | true => exact rode_notIn hu road I rd rx fun s' I' => q H s' I' .refl r
      · cases g
    · rename_i ls hl
      unfold anyEq at g
      split at g
      · rename_i ps p h1 h2
        cases g
        obtain ⟨xs, t, tl⟩ := (show RO (ew X cls) ρ H a (.lst ls) from r.ob l a _ ha hl)
        obtain ⟨as, r1⟩ := Dp.reads I p x v (pd_dp r h2 rd) rx
        obtain ⟨bs, r2⟩ := Dp.reads I (.list ps) (.ref a) _ (.lst (.inl (.inl t)) (mapO_dp (fun d p v e q => pd_dp r e q) _ ps xs h1 tl)) rfl
        have e1 := pd_plain h2
        have e2 := pds_plain h1
        have room : X.A.units + 1 + min (PyData.depthAll ps) p.depth < cLine := by omega
        cases neg with
        | false => exact SeqAt.in_list_data r2 r1 e2.1 e1.1 room q0
        | true => exact SeqAt.notIn_list_data r2 r1 e2.1 e1.1 room q0
      · cases g
    · cases g
  · -- a tuple
    rename_i ls
    unfold anyEq at g
    split at g
    · rename_i ps p h1 h2
      cases g
      obtain ⟨a, xs, rfl, t, tl⟩ := re.tupOf
      obtain ⟨as, r1⟩ := Dp.reads I p x v (pd_dp r h2 rd) rx
      obtain ⟨bs, r2⟩ := Dp.reads I (.tuple ps) (.ref a) u (.tup t.sq (mapO_dp (fun d p v e q => pd_dp r e q) _ ps xs h1 tl)) ry
      have e1 := pd_plain h2
      have e2 := pds_plain h1
      have room : X.A.units + 1 + min (PyData.depthAll ps) p.depth < cLine := by omega
      cases neg with
      | false => exact SeqAt.in_tuple_data r2 r1 e2.1 e1.1 room q0
      | true => exact SeqAt.notIn_tuple_data r2 r1 e2.1 e1.1 room q0
    · cases g
  · -- a list nobody writes
    rename_i ls
    unfold anyEq at g
    split at g
    · rename_i ps p h1 h2
      cases g
      obtain ⟨a, xs, rfl, t, tl⟩ := re.wlOf
      obtain ⟨as, r1⟩ := Dp.reads I p x v (pd_dp r h2 rd) rx
      obtain ⟨bs, r2⟩ := Dp.reads I (.list ps) (.ref a) u (.lst t.sq (mapO_dp (fun d p v e q => pd_dp r e q) _ ps xs h1 tl)) ry
      have e1 := pd_plain h2
      have e2 := pds_plain h1
      have room : X.A.units + 1 + min (PyData.depthAll ps) p.depth < cLine := by omega
      cases neg with
      | false => exact SeqAt.in_list_data r2 r1 e2.1 e1.1 room q0
      | true => exact SeqAt.notIn_list_data r2 r1 e2.1 e1.1 room q0
    · cases g
  · -- a text
    split at g
    · cases g
      rw [rd.strOf] at rx; rw [re.strOf] at ry
      obtain ⟨t, rfl⟩ := rx
      obtain ⟨t', rfl⟩ := ry
      cases neg with
      | false => exact in_str q0
      | true => exact notIn_str q0
    · cases g
  · simp only [Rep] at re
  · cases g
theorem o_in (hu : X.A.units + 64 < cLine) : OpR X (compareOp .In) (rD (ew X cls) (bop .inn)) := by
  intro pins s σ H x y v u Q I rx ry ⟨ρ, d, e, h, z, h', r, rd, re, g, q⟩
  obtain ⟨b, g1, rfl, rfl⟩ := ob_ok g
  exact in_core (neg := false) hu I rx ry r rd re g1 fun H' s' I' g' r' => ⟨.bl b, H', I', rfl, q _ _ _ g' r' (.bl _)⟩
theorem o_nin (hu : X.A.units + 64 < cLine) : OpR X (compareOp .NotIn) (rD (ew X cls) (bop .nin)) := by
  intro pins s σ H x y v u Q I rx ry ⟨ρ, d, e, h, z, h', r, rd, re, g, q⟩
  obtain ⟨b, g1, rfl, rfl⟩ := ob_ok g
  obtain ⟨c, g2, rfl⟩ := Option.map_eq_some_iff.mp g1
  exact in_core (neg := true) hu I rx ry r rd re g2 fun H' s' I' g' r' => ⟨.bl _, H', I', rfl, q _ _ _ g' r' (.bl _)⟩

/-! items -/
theorem at_atI {α : Type} (l : List α) (i : Int) : at_ l i = atI l i := by
  unfold at_ atI ixN
  by_cases h : 0 ≤ i
  · rw [if_pos h, if_pos h]
    by_cases h2 : i < l.length
    · rw [if_pos h2]; rfl
    · rw [if_neg h2, List.getElem?_eq_none (by omega)]; rfl
  · rw [if_neg h, if_neg h]
    by_cases h2 : -(l.length : Int) ≤ i
    · rw [if_pos h2, if_pos h2]; rfl
    · rw [if_neg h2, if_neg h2]; rfl
theorem RepL.atI {E : Ew} {ρ : List Addr} {H : Hp} {ds : List D} {vs : List V} {i : Int} {d : D} (t : RepL E ρ H ds vs) (e : at_ ds i = some d) : ∃ v, L2.atI vs i = some v ∧ Rep E ρ H d v := by
  rw [at_atI] at e
  unfold L2.atI at e ⊢
  rw [t.length] at e
  cases q : ixN vs.length i with
  | none => rw [q] at e; cases e
  | some j =>
    rw [q] at e
    exact t.get e
theorem ix_D (hu : X.A.units + 64 < cLine) : IxR X (rD (ew X cls) (bop .item)) := by
  intro value slice pins s σ H x y v u Q I rx ry ⟨ρ, d, e, h, z, h', r, rd, re, g, q⟩ hs
  have g : itemB d e h = .ok z h' := g
  unfold itemB at g
  split at g
  · split at g
    · rename_i hz
      cases g
      obtain ⟨a, xs, rfl, t, tl⟩ := rd.tupOf
      rw [re.intOf] at ry
      obtain ⟨w, e1, rw'⟩ := tl.atI hz
      exact ix_tup value slice pins s σ H _ _ v u Q I rx ry ⟨a, xs, _, w, rfl, rfl, t.sq, e1, q _ _ _ .refl r rw'⟩ hs
    · cases g
  · split at g
    · rename_i hz
      cases g
      obtain ⟨a, xs, rfl, t, tl⟩ := rd.wlOf
      rw [re.intOf] at ry
      obtain ⟨w, e1, rw'⟩ := tl.atI hz
      exact ix_list value slice pins s σ H _ _ v u Q I rx ry ⟨a, xs, _, w, rfl, rfl, t.sq, e1, q _ _ _ .refl r rw'⟩ hs
    · cases g
  · split at g
    · rename_i hz
      split at g
      · rename_i hl
        cases g
        rw [rd.strOf] at rx; rw [re.intOf] at ry
        rw [at_atI] at hz
        exact ix_str value slice pins s σ H _ _ v u Q I rx ry ⟨_, _, _, rfl, rfl, by rw [← SZ_eq]; exact hl, hz, q _ _ _ .refl r (.str _)⟩ hs
      · cases g
    · cases g
  · simp only [Rep] at rd
  · rename_i l _
    have rd0 := rd
    simp only [Rep] at rd
    obtain ⟨a, rfl, ha⟩ := rd
    split at g
    · rename_i ls hl
      split at g
      · split at g
        · rename_i hz
          cases g
          obtain ⟨xs, t, tl⟩ := (show RO (ew X cls) ρ H a (.lst ls) from r.ob l a _ ha hl)
          rw [re.intOf] at ry
          obtain ⟨w, e1, rw'⟩ := tl.atI hz
          exact ix_list value slice pins s σ H _ _ v u Q I rx ry ⟨a, xs, _, w, rfl, rfl, .inl (.inl t), e1, q _ _ _ .refl r rw'⟩ hs
        · cases g
      · cases g
    · rename_i k hl
      split at g
      · rename_i hk
        split at g
        · rename_i dd hd
          cases g
          cases rx
          obtain ⟨H1, I1, g1, r1, road⟩ := rode_dct I r ha hl hk
          have hT : s.TypeIs (.ref a) "dict" := by
            rcases rode_get road I1 (re.mono g1) with ⟨_, vs, _, _, _, dd, _⟩ | ⟨_, xs, _, _, _, dd, _⟩
            · exact dd.typeIs
            · exact dd.typeIs
          exact tail_any hT PySem.F.slot_dict_getitem.lookup (rode_item hu road I1 (re.mono g1) ry hd fun w' v' s' I' rv' rr => ⟨v', H1, I', rv', q _ _ _ g1 r1 rr⟩) hs
        · cases g
      · cases g
    · rename_i k hl
      split at g
      · rename_i hk
        split at g
        · rename_i dd hd
          cases g
          cases rx
          have road := rode_rod r ha hl hk
          have hT : s.TypeIs (.ref a) "dict" := by
            rcases rode_get road I re with ⟨_, vs, _, _, _, dd, _⟩ | ⟨_, xs, _, _, _, dd, _⟩
            · exact dd.typeIs
            · exact dd.typeIs
          exact tail_any hT PySem.F.slot_dict_getitem.lookup (rode_item hu road I re ry hd fun w' v' s' I' rv' rr => ⟨v', H, I', rv', q _ _ _ .refl r rr⟩) hs
        · cases g
      · cases g
    · cases g
  · cases g

/-! stores by place -/
def rSet (E : Ew) : TSet := fun o i v H Q => ∃ ρ dO dI dV h h', RH E ρ H h ∧ Rep E ρ H dO o ∧ Rep E ρ H dI i ∧ Rep E ρ H dV v ∧ setI dO dI dV h = .ok () h' ∧ ∀ H', Gr E ρ H ρ H' → RH E ρ H' h' → Q H'
theorem set_D (hu : X.A.units + 64 < cLine) : PSet X (rSet (ew X cls)) := by
  intro pins s σ H o i v ov iv u Q I ro ri rv ⟨ρ, dO, dI, dV, h, h', r, rdO, rdI, rdV, g, q⟩
  unfold setI at g
  split at g
  · rename_i l
    have rd0 := rdO
    simp only [Rep] at rdO
    obtain ⟨a, rfl, ha⟩ := rdO
    split at g
    · rename_i ls hl
      split at g
      · rename_i j
        split at g
        · rename_i d0 hz
          cases g
          obtain ⟨xs, t, tl⟩ := (show RO (ew X cls) ρ H a (.lst ls) from r.ob l a _ ha hl)
          rw [rdI.intOf] at ri
          have e0 := tl.length
          -- the place
          have hj : ixN xs.length j = some (if 0 ≤ j then j.toNat else (j + (ls.length : Int)).toNat) := by
            unfold at_ at hz
            unfold ixN
            by_cases h0 : 0 ≤ j
            · rw [if_pos h0] at hz ⊢
              have := (List.getElem?_eq_some_iff.mp hz).1
              rw [if_pos (by omega), if_pos h0]
            · rw [if_neg h0] at hz ⊢
              split at hz
              · rename_i h1
                rw [if_pos (by omega), if_neg h0, e0]
              · cases hz
          have g2 : Gr (ew X cls) ρ H ρ (upd H a (.lst (xs.set (if 0 ≤ j then j.toNat else (j + (ls.length : Int)).toNat) v))) := Gr.write (by rw [t]; trivial)
          exact set_list pins s σ H _ _ v ov iv u Q I ro ri rv ⟨a, xs, j, _, rfl, rfl, t, hj, q _ g2 (r.set ha g2 ⟨_, upd_same, (tl.set _ rdV).mono g2⟩)⟩
        · cases g
      · cases g
    · rename_i k hl
      split at g
      · rename_i hk
        cases g
        simp only [Bool.and_eq_true, decide_eq_true_eq] at hk
        cases ro
        exact rode_set I r hu ha hl hk.1 hk.2 rdI ri rdV rv fun H' s' I' g' r' => ⟨H', I', q H' g' r'⟩
      · cases g
    · cases g
  · cases g

/-! truth -/
theorem tru_D : TruR X (fun x H Q => ∃ ρ d h b, RH (ew X cls) ρ H h ∧ Rep (ew X cls) ρ H d x ∧ tru h d = some b ∧ Q b H) := by
  intro pins s σ H x v Q I rx ⟨ρ, d, h, b, r, rd, g, q⟩
  refine tru_ok pins s σ H x v Q I rx ⟨b, ?_, q⟩
  unfold tru at g
  split at g
  · cases g; rw [rd.blOf]; rfl
  · cases g
    rename_i i
    rw [rd.intOf]
    show decide (i ≠ 0) = (i != 0)
    simp only [bne, Bool.beq_eq_decide_eq, ne_eq, decide_not]
  · cases g; rw [rd.nonOf]; rfl
  · split at g
    · rename_i x hx
      cases g
      rw [rd.strOf]
      refine ⟨by rw [← SZ_eq]; exact hx, ?_⟩
      simp only [bne, Bool.beq_eq_decide_eq, ne_eq, decide_not]
      congr 1
      exact decide_eq_decide.mpr (by omega)
    · cases g
  · cases g
    obtain ⟨a, xs, rfl, t, tl⟩ := rd.tupOf
    refine .inr (.inl ⟨xs, t.sq, ?_⟩)
    have := tl.length
    rename_i l
    cases l with
    | nil => rw [RepL.nil_iff.mp tl]; rfl
    | cons c e => obtain ⟨_, _, rfl, _⟩ := tl.uncons; rfl
  · cases g
    obtain ⟨a, xs, rfl, t, tl⟩ := rd.wlOf
    refine .inl ⟨xs, t.sq, ?_⟩
    rename_i l
    cases l with
    | nil => rw [RepL.nil_iff.mp tl]; rfl
    | cons c e => obtain ⟨_, _, rfl, _⟩ := tl.uncons; rfl
  · rename_i p
    split at g
    · rename_i l hl
      cases g
      obtain ⟨a, xs, rfl, ha, t, tl⟩ := r.lst rd hl
      refine .inl ⟨xs, .inl (.inl t), ?_⟩
      cases l with
      | nil => rw [RepL.nil_iff.mp tl]; rfl
      | cons c e => obtain ⟨_, _, rfl, _⟩ := tl.uncons; rfl
    · cases g
  · cases g

/-! slices -/
theorem RepL.cut {E : Ew} {ρ : List Addr} {H : Hp} {ds : List D} {vs : List V} (t : RepL E ρ H ds vs) (lo hi : Option Int) : RepL E ρ H (cut ds lo hi) (cutV vs lo hi) := by
  unfold DL.cut cutV
  rw [t.length]
  exact (t.drop _).take _
theorem sl_D : SlR X (fun x lo hi H Q => ∃ ρ d h z h', RH (ew X cls) ρ H h ∧ Rep (ew X cls) ρ H d x ∧ sliceD d lo hi h = .ok z h' ∧ ∀ ρ' H' v, Gr (ew X cls) ρ H ρ' H' → RH (ew X cls) ρ' H' h' → Rep (ew X cls) ρ' H' z v → Q v H') := by
  intro pins s σ H x v vl vu lo hi sl Q I rx hs pl pu ⟨ρ, d, h, z, h', r, rd, g, q⟩
  unfold sliceD at g
  split at g
  · cases g
    obtain ⟨a, xs, rfl, t, tl⟩ := rd.tupOf
    refine sl_tupA pins s σ H _ v vl vu lo hi sl Q I rx hs pl pu ⟨a, xs, rfl, t.sq, fun e => ?_, fun _ p n => ?_⟩
    · have e1 := tl.cut lo hi
      have e2 : cutV xs lo hi = xs := by
        unfold cutV
        rw [e.1, e.2]; simp
      rename_i ls
      have e3 : cut ls lo hi = ls := by
        unfold DL.cut
        rw [tl.length]
        have a1 : ix0 xs.length 0 lo = 0 := e.1
        have a2 : ix0 xs.length xs.length hi = xs.length := e.2
        rw [a1, a2, ← tl.length]; simp
      rw [e3] at q
      exact q _ _ _ .refl r rd
    · obtain ⟨g1, g2, g3⟩ := r.newT n (tl.cut lo hi)
      exact q _ _ _ g1 g2 g3
  · cases g
    obtain ⟨a, xs, rfl, t, tl⟩ := rd.wlOf
    refine sl_list pins s σ H _ v vl vu lo hi sl Q I rx hs pl pu ⟨a, xs, rfl, t.sq, fun p n => ?_⟩
    obtain ⟨g1, g2, g3⟩ := r.newL n (tl.cut lo hi)
    exact q _ _ _ g1 g2 g3
  · cases g
  · split at g
    · rename_i ls hl
      cases g
      obtain ⟨a, xs, rfl, ha, t, tl⟩ := r.lst rd hl
      refine sl_list pins s σ H _ v vl vu lo hi sl Q I rx hs pl pu ⟨a, xs, rfl, .inl (.inl t), fun p n => ?_⟩
      obtain ⟨g1, g2, g3⟩ := r.newL n (tl.cut lo hi)
      exact q _ _ _ g1 g2 g3
    · cases g
  · cases g
end
end DL

/-! DL, part g: built-in functions. -/
namespace DL
open PySem PySem.Spec PyProof.Rows L2

/-- a call by data -/
def rC (E : Ew) (g : List D → AH → R D) : List V → Hp → VK → Prop := fun vs H Q =>
  ∃ ρ ds h z h', RH E ρ H h ∧ RepL E ρ H ds vs ∧ g ds h = .ok z h' ∧ ∀ ρ' H' v, Gr E ρ H ρ' H' → RH E ρ' H' h' → Rep E ρ' H' z v → Q v H'
/-- a call on one sequence -/
def rCL (E : Ew) (b : BI) : List V → Hp → VK → Prop := fun vs H Q =>
  ∃ ρ l h z h' a xs, RH E ρ H h ∧ vs = [.ref a] ∧ SqL E.K H a xs ∧ RepL E ρ H l xs ∧ biL b l h = .ok z h' ∧ ∀ ρ' H' v, Gr E ρ H ρ' H' → RH E ρ' H' h' → Rep E ρ' H' z v → Q v H'

section
variable {E : Ew} {ρ : List Addr} {H : Hp}
theorem RepL.ints : ∀ {l : List D} {xs : List V} {ns : List Int}, dints l = some ns → RepL E ρ H l xs → xs = ns.map V.int
  | [], xs, ns, e, t => by simp only [dints, Option.some.injEq] at e; subst e; exact RepL.nil_iff.mp t
  | .int i :: r, xs, ns, e, t => by
    simp only [dints, Option.map_eq_some_iff] at e
    obtain ⟨ms, e, rfl⟩ := e
    obtain ⟨v, u, rfl, h1, h2⟩ := t.uncons
    rw [h1.intOf, RepL.ints e h2]; rfl
  | .non :: _, _, _, e, _ => by simp [dints] at e
  | .bl _ :: _, _, _, e, _ => by simp [dints] at e
  | .str _ :: _, _, _, e, _ => by simp [dints] at e
  | .tup _ :: _, _, _, e, _ => by simp [dints] at e
  | .wl _ :: _, _, _, e, _ => by simp [dints] at e
  | .wd _ :: _, _, _, e, _ => by simp [dints] at e
  | .ref _ :: _, _, _, e, _ => by simp [dints] at e
  | .fn _ :: _, _, _, e, _ => by simp [dints] at e
  | .exn _ :: _, _, _, e, _ => by simp [dints] at e
theorem RepL.bools : ∀ {l : List D} {xs : List V} {ns : List Bool}, dbools l = some ns → RepL E ρ H l xs → xs = ns.map V.bl
  | [], xs, ns, e, t => by simp only [dbools, Option.some.injEq] at e; subst e; exact RepL.nil_iff.mp t
  | .bl i :: r, xs, ns, e, t => by
    simp only [dbools, Option.map_eq_some_iff] at e
    obtain ⟨ms, e, rfl⟩ := e
    obtain ⟨v, u, rfl, h1, h2⟩ := t.uncons
    rw [h1.blOf, RepL.bools e h2]; rfl
  | .non :: _, _, _, e, _ => by simp [dbools] at e
  | .int _ :: _, _, _, e, _ => by simp [dbools] at e
  | .str _ :: _, _, _, e, _ => by simp [dbools] at e
  | .tup _ :: _, _, _, e, _ => by simp [dbools] at e
  | .wl _ :: _, _, _, e, _ => by simp [dbools] at e
  | .wd _ :: _, _, _, e, _ => by simp [dbools] at e
  | .ref _ :: _, _, _, e, _ => by simp [dbools] at e
  | .fn _ :: _, _, _, e, _ => by simp [dbools] at e
  | .exn _ :: _, _, _, e, _ => by simp [dbools] at e
theorem fold_max : ∀ (r : List Int) (x : Int), let m := r.foldl (fun a b => if a < b then b else a) x; (m = x ∨ m ∈ r) ∧ x ≤ m ∧ ∀ y ∈ r, y ≤ m
  | [], x => ⟨.inl rfl, Int.le_refl _, fun _ h => nomatch h⟩
  | y :: r, x => by
    obtain ⟨h1, h2, h3⟩ := fold_max r (if x < y then y else x)
    simp only [List.foldl_cons]
    refine ⟨?_, ?_, fun z hz => ?_⟩
    · rcases h1 with h1 | h1
      · rw [h1]
        split
        · exact .inr List.mem_cons_self
        · exact .inl rfl
      · exact .inr (List.mem_cons_of_mem _ h1)
    · refine Int.le_trans ?_ h2
      split <;> omega
    · rcases List.mem_cons.mp hz with rfl | hz
      · refine Int.le_trans ?_ h2
        split <;> omega
      · exact h3 z hz
theorem fold_min : ∀ (r : List Int) (x : Int), let m := r.foldl (fun a b => if b < a then b else a) x; (m = x ∨ m ∈ r) ∧ m ≤ x ∧ ∀ y ∈ r, m ≤ y
  | [], x => ⟨.inl rfl, Int.le_refl _, fun _ h => nomatch h⟩
  | y :: r, x => by
    obtain ⟨h1, h2, h3⟩ := fold_min r (if y < x then y else x)
    simp only [List.foldl_cons]
    refine ⟨?_, ?_, fun z hz => ?_⟩
    · rcases h1 with h1 | h1
      · rw [h1]
        split
        · exact .inr List.mem_cons_self
        · exact .inl rfl
      · exact .inr (List.mem_cons_of_mem _ h1)
    · refine Int.le_trans h2 ?_
      split <;> omega
    · rcases List.mem_cons.mp hz with rfl | hz
      · refine Int.le_trans h2 ?_
        split <;> omega
      · exact h3 z hz
theorem mx_is {ns : List Int} {m k : Int} (e : mx ns = some m) (h : k ∈ ns) (h2 : ∀ y ∈ ns, y ≤ k) : k = m := by
  cases ns with
  | nil => cases e
  | cons x r =>
    simp only [mx, Option.some.injEq] at e
    obtain ⟨a, b, c⟩ := fold_max r x
    rw [e] at a b c
    have h3 : m ≤ k := by
      rcases a with a | a
      · rw [a]; exact h2 x List.mem_cons_self
      · exact h2 m (List.mem_cons_of_mem _ a)
    rcases List.mem_cons.mp h with rfl | h
    · omega
    · have := c k h; omega
theorem mn_is {ns : List Int} {m k : Int} (e : mn ns = some m) (h : k ∈ ns) (h2 : ∀ y ∈ ns, k ≤ y) : k = m := by
  cases ns with
  | nil => cases e
  | cons x r =>
    simp only [mn, Option.some.injEq] at e
    obtain ⟨a, b, c⟩ := fold_min r x
    rw [e] at a b c
    have h3 : k ≤ m := by
      rcases a with a | a
      · rw [a]; exact h2 x List.mem_cons_self
      · exact h2 m (List.mem_cons_of_mem _ a)
    rcases List.mem_cons.mp h with rfl | h
    · omega
    · have := c k h; omega
end

/-- which value of the model a built-in is -/
def biV : BI → Value
  | .len => .builtin "len"
  | .list => .type "list"
  | .tuple => .type "tuple"
  | .sorted => .builtin "sorted"
  | .maxL => .builtin "max"
  | .minL => .builtin "min"
  | .maxD => .builtin "max"
  | .max2 => .builtin "max"
  | .min2 => .builtin "min"
  | .sum => .builtin "sum"
  | .abs => .builtin "abs"
  | .int => .type "int"
  | .str => .type "str"
  | .repr => .builtin "repr"
  | .all => .builtin "all"
  | .any => .builtin "any"
  | .dict => .type "dict"
section
variable {X : Cx} {cls : Ka}
/-- those that take one list (a comprehension's among them) -/
theorem c_list (b : BI) (hc : b ≠ .len → X.calm = true) : CallR X (biV b) (rCL (ew X cls) b) := by
  intro pins s σ H vs us Q I rv ⟨ρ, l, h, z, h', a, xs, r, e, t, tl, g, q⟩
  subst e
  unfold biL at g
  cases b with
  | len =>
    cases g
    exact call_len_seq pins s σ H _ us Q I rv ⟨a, xs, rfl, .inl t, by rw [← tl.length]; exact q _ _ _ .refl r (.int _)⟩
  | list =>
    cases g
    refine call_list_of pins s σ H _ us Q I rv ⟨a, xs, rfl, .inl t, fun p n => ?_⟩
    obtain ⟨g1, g2, g3⟩ := r.newL n tl
    exact q _ _ _ g1 g2 g3
  | tuple =>
    cases g
    refine call_tuple_of pins s σ H _ us Q I rv ⟨a, xs, rfl, .inl ⟨t, fun p n => ?_⟩⟩
    obtain ⟨g1, g2, g3⟩ := r.newT n tl
    exact q _ _ _ g1 g2 g3
  | maxL =>
    simp only at g
    split at g
    · rename_i m hm
      cases g
      obtain ⟨ns, e1, e2⟩ := Option.bind_eq_some_iff.mp hm
      have ex := tl.ints e1
      subst ex
      exact cr_max (hc nofun) pins s σ H _ us Q I rv ⟨a, ns, rfl, t, by cases ns with | nil => cases e2 | cons _ _ => exact Nat.succ_pos _, fun k h1 h2 => by rw [mx_is e2 h1 h2]; exact q _ _ _ .refl r (.int _)⟩
    · cases g
  | minL =>
    simp only at g
    split at g
    · rename_i m hm
      cases g
      obtain ⟨ns, e1, e2⟩ := Option.bind_eq_some_iff.mp hm
      have ex := tl.ints e1
      subst ex
      exact cr_min (hc nofun) pins s σ H _ us Q I rv ⟨a, ns, rfl, t, by cases ns with | nil => cases e2 | cons _ _ => exact Nat.succ_pos _, fun k h1 h2 => by rw [mn_is e2 h1 h2]; exact q _ _ _ .refl r (.int _)⟩
    · cases g
  | sum =>
    simp only at g
    split at g
    · rename_i ns e1
      cases g
      have ex := tl.ints e1
      subst ex
      exact cr_sum (hc nofun) pins s σ H _ us Q I rv ⟨a, ns, rfl, t, q _ _ _ .refl r (.int _)⟩
    · cases g
  | all =>
    simp only at g
    split at g
    · rename_i ns e1
      cases g
      have ex := tl.bools e1
      subst ex
      exact cr_all (hc nofun) pins s σ H _ us Q I rv ⟨a, ns, rfl, t, q _ _ _ .refl r (.bl _)⟩
    · cases g
  | any =>
    simp only at g
    split at g
    · rename_i ns e1
      cases g
      have ex := tl.bools e1
      subst ex
      exact cr_any (hc nofun) pins s σ H _ us Q I rv ⟨a, ns, rfl, t, q _ _ _ .refl r (.bl _)⟩
    · cases g
  | sorted => cases g
  | maxD => cases g
  | max2 => cases g
  | min2 => cases g
  | abs => cases g
  | int => cases g
  | str => cases g
  | repr => cases g
  | dict => cases g

theorem bi1_pre (b : BI) (d : D) (h : AH) (z : D) (h' : AH) (g : bi1 b d h = .ok z h') : b ≠ .repr := by
  rintro rfl
  unfold bi1 at g
  split at g
  · cases g
  · cases g
  · split at g
    · cases g
    · cases g
    · cases g
  all_goals cases g
theorem RepK.keys {E : Ew} {ρ : List Addr} {H : Hp} : ∀ {k : List (D × D)} {ks : List (L2.Key × V)}, RepK E ρ H k ks → RepL E ρ H (k.map (·.1)) (ks.map fun kv => kV kv.1)
  | [], _, h => by cases h; exact .nil
  | p :: r, _, ⟨k, v, t, e, e1, rv, q⟩ => by
    subst e
    rw [List.map_cons, List.map_cons]
    refine .cons ?_ (RepK.keys q)
    rw [e1]
    cases k with
    | inl i => exact .int i
    | inr x => exact .str x
theorem RepT.keysL {E : Ew} {ρ : List Addr} {H : Hp} : ∀ {k : List (D × D)} {xs : List (NestedKey × Addr × Value)}, RepT E ρ H k xs → RepL E ρ H (k.map (·.1)) (xs.map fun x => V.ref x.2.1)
  | [], _, h => by cases h; exact .nil
  | p :: r, _, ⟨b, u, v, t, e, e1, e2, rk, ru, rv, q⟩ => by
    subst e
    rw [List.map_cons, List.map_cons]
    exact .cons rk (RepT.keysL q)
theorem vals_refs : ∀ (l : List Addr), Vals (l.map V.ref) (l.map Value.ref)
  | [] => .nil
  | _ :: r => .cons rfl (vals_refs r)
/-- list(d) of a raw dict -/
theorem reads_ints {h : Heap} : ∀ {vs : List Value} {ns : List Int}, IntsAre vs ns → ∃ as, ReadsAll h vs (ns.map PyData.int) as
  | _, _, .nil => ⟨_, .nil⟩
  | _, _, .cons n t r => let ⟨_, q⟩ := reads_ints r; ⟨_, .cons (.int n t) q⟩
theorem alike_ints (ns : List Int) : PySem.W.AlikeAll (ns.map PyData.int) := by
  refine ⟨fun x hx y hy => ?_, fun x hx => ?_⟩
  · obtain ⟨a, _, rfl⟩ := List.mem_map.mp hx
    obtain ⟨b, _, rfl⟩ := List.mem_map.mp hy
    rfl
  · obtain ⟨a, _, rfl⟩ := List.mem_map.mp hx
    exact fun e => nomatch e
theorem depth_ints : ∀ ns : List Int, PyData.depthAll (ns.map PyData.int) ≤ 1
  | [] => by simp [PyData.depthAll]
  | n :: ns => by
    simp only [List.map_cons, PyData.depthAll, PyData.depth]
    have := depth_ints ns
    omega
theorem foldl_max (ns : List Int) (x : Int) : ns.foldl max x = ns.foldl (fun a b => if a < b then b else a) x := by
  congr 1
  funext a b
  split <;> omega
theorem foldl_min (ns : List Int) (x : Int) : ns.foldl min x = ns.foldl (fun a b => if b < a then b else a) x := by
  congr 1
  funext a b
  split <;> omega
theorem max_T {pins : List (Addr × Obj)} {s : Shared} {σ : L2.St} {H : Hp} {a : Addr} {ns : List Int} {m : Int} {Q : VK} (hc : X.calm = true) (hu : X.A.units + 64 < cLine) (I : Inv X pins σ H s) (t : SqT X.K H a (ns.map V.int)) (e : mx ns = some m) (q : Q (.int m) H) :
    wpAny (model X.prog X.w) X.A (call (.builtin "max") [.ref a]) (EP X pins σ Q) X.xe s := by
  obtain ⟨its, rv, ht, hz⟩ := I.tuple t
  obtain ⟨as, r⟩ := reads_ints (h := s.heap) rv.ints
  cases ns with
  | nil => cases e
  | cons n ns =>
    simp only [mx, Option.some.injEq] at e
    have hd := depth_ints (n :: ns)
    refine PySem.W.max_tuple_data (x := .int n) (xs := ns.map .int) (as := as) (I.ok.hd hc) ht (by simpa using r) (alike_ints (n :: ns)) (by simp only [List.map_cons] at hd; omega) fun i v h' tk bs _ rr hk => ?_
    rw [PySem.W.maxD_ints, foldl_max, e] at rr
    cases rr
    exact ⟨.int m, H, I.kept hk, ⟨_, rfl⟩, q⟩
theorem min_T {pins : List (Addr × Obj)} {s : Shared} {σ : L2.St} {H : Hp} {a : Addr} {ns : List Int} {m : Int} {Q : VK} (hc : X.calm = true) (hu : X.A.units + 64 < cLine) (I : Inv X pins σ H s) (t : SqT X.K H a (ns.map V.int)) (e : mn ns = some m) (q : Q (.int m) H) :
    wpAny (model X.prog X.w) X.A (call (.builtin "min") [.ref a]) (EP X pins σ Q) X.xe s := by
  obtain ⟨its, rv, ht, hz⟩ := I.tuple t
  obtain ⟨as, r⟩ := reads_ints (h := s.heap) rv.ints
  cases ns with
  | nil => cases e
  | cons n ns =>
    simp only [mn, Option.some.injEq] at e
    have hd := depth_ints (n :: ns)
    refine PySem.W.min_tuple_data (x := .int n) (xs := ns.map .int) (as := as) (I.ok.hd hc) ht (by simpa using r) (alike_ints (n :: ns)) (by simp only [List.map_cons] at hd; omega) fun i v h' tk bs _ rr hk => ?_
    rw [PySem.W.minD_ints, foldl_min, e] at rr
    cases rr
    exact ⟨.int m, H, I.kept hk, ⟨_, rfl⟩, q⟩
theorem max_B {pins : List (Addr × Obj)} {s : Shared} {σ : L2.St} {H : Hp} {ρ : List Addr} {h h' : AH} {z : D} {a : Addr} {l : List D} {xs : List V} {Q : VK} (hc : X.calm = true) (hu : X.A.units + 64 < cLine) (I : Inv X pins σ H s) (r : RH (ew X cls) ρ H h) (t : SqT X.K H a xs) (tl : RepL (ew X cls) ρ H l xs)
    (g : biL .maxL l h = .ok z h') (q : ∀ ρ' H' v, Gr (ew X cls) ρ H ρ' H' → RH (ew X cls) ρ' H' h' → Rep (ew X cls) ρ' H' z v → Q v H') : wpAny (model X.prog X.w) X.A (call (.builtin "max") [.ref a]) (EP X pins σ Q) X.xe s := by
  simp only [biL] at g
  cases e1 : dints l with
  | none => rw [e1] at g; cases g
  | some ns =>
    rw [e1] at g
    cases e2 : mx ns with
    | none => simp only [Option.bind, e2] at g; cases g
    | some m =>
      simp only [Option.bind, e2] at g
      cases g
      have tx := tl.ints e1
      subst tx
      exact max_T hc hu I t e2 (q _ _ _ .refl r (.int _))
theorem min_B {pins : List (Addr × Obj)} {s : Shared} {σ : L2.St} {H : Hp} {ρ : List Addr} {h h' : AH} {z : D} {a : Addr} {l : List D} {xs : List V} {Q : VK} (hc : X.calm = true) (hu : X.A.units + 64 < cLine) (I : Inv X pins σ H s) (r : RH (ew X cls) ρ H h) (t : SqT X.K H a xs) (tl : RepL (ew X cls) ρ H l xs)
    (g : biL .minL l h = .ok z h') (q : ∀ ρ' H' v, Gr (ew X cls) ρ H ρ' H' → RH (ew X cls) ρ' H' h' → Rep (ew X cls) ρ' H' z v → Q v H') : wpAny (model X.prog X.w) X.A (call (.builtin "min") [.ref a]) (EP X pins σ Q) X.xe s := by
  simp only [biL] at g
  cases e1 : dints l with
  | none => rw [e1] at g; cases g
  | some ns =>
    rw [e1] at g
    cases e2 : mn ns with
    | none => simp only [Option.bind, e2] at g; cases g
    | some m =>
      simp only [Option.bind, e2] at g
      cases g
      have tx := tl.ints e1
      subst tx
      exact min_T hc hu I t e2 (q _ _ _ .refl r (.int _))
theorem list_raw {pins : List (Addr × Obj)} {s : Shared} {σ : L2.St} {H : Hp} {a : Addr} {xs : List (NestedKey × Addr × Value)} {Q : VK} (hc : X.calm = true) (I : Inv X pins σ H s) (e : H a = some (NT X.prog X.w a xs)) (lo : (a == sysModules) = false) (hz : xs.length ≤ sizeLine)
    (q : ∀ p, H p = none → Q (.ref p) (upd H p (.lst (xs.map fun x => V.ref x.2.1)))) : wpAny (model X.prog X.w) X.A (call (.type "list") [.ref a]) (EP X pins σ Q) X.xe s := by
  obtain ⟨⟨o, es, ep, h1, h2, h3, h4⟩, _⟩ := (show ObjOk X.prog X.w H s.heap a (NT X.prog X.w a xs) from I.hok a _ e)
  have l1 : es.size = xs.length := size_of_entries h4
  refine PySem.W.kdl_call (KdlSrc.rawDict (es := es) (ep := ep) lo) (I.ok.hd hc) ⟨o, h1, h2, h3⟩ (by omega) fun h' tk acc' c' hk hS hacc => ?_
  have ea : acc'.toList = (xs.map fun x => x.2.1).map Value.ref := by
    apply List.ext_getElem?
    intro j
    rw [Array.getElem?_toList, List.getElem?_map, List.getElem?_map]
    cases hj : acc'[j]? with
    | none =>
      have := Array.getElem?_eq_none_iff.mp hj
      rw [List.getElem?_eq_none (by have := hacc.1; omega)]; rfl
    | some v =>
      obtain ⟨hi, hv⟩ := hacc.2 j v hj
      have qe := entry_at h4 j
      rw [Array.getElem?_eq_getElem hi] at qe
      obtain ⟨x, hx, ex⟩ := Option.map_eq_some_iff.mp qe.symm
      rw [hx, hv, ← ex]
      rfl
  refine ⟨.ref s.heap.objs.size, upd H s.heap.objs.size (.lst (xs.map fun x => V.ref x.2.1)), I.laid hk (Nat.le_refl _) ?_, rfl, q _ (I.hok.fresh (Nat.le_refl _))⟩
  refine ⟨by rw [List.length_map]; exact hz, acc'.toList, c', ?_, by simpa using hS⟩
  rw [ea]
  have := vals_refs (xs.map fun x => x.2.1)
  rwa [List.map_map] at this
theorem len_raw {pins : List (Addr × Obj)} {s : Shared} {σ : L2.St} {H : Hp} {a : Addr} {xs : List (NestedKey × Addr × Value)} {Q : VK} (I : Inv X pins σ H s) (e : H a = some (NT X.prog X.w a xs)) (lo : (a == sysModules) = false) (hz : xs.length ≤ sizeLine)
    (q : Q (.int xs.length) H) : wpAny (model X.prog X.w) X.A (call (.builtin "len") [.ref a]) (EP X pins σ Q) X.xe s := by
  obtain ⟨⟨o, es, ep, h1, h2, h3, h4⟩, _⟩ := (show ObjOk X.prog X.w H s.heap a (NT X.prog X.w a xs) from I.hok a _ e)
  have l1 : es.size = xs.length := size_of_entries h4
  have hr : s.heap.DictRaw a es ep := ⟨o, h1, h2, h3⟩
  have l63 := line63
  refine PyProof.Rows.call_len_slot (n := xs.length) hr.typeIs F.slot_dict_len (fun Q' hq => call_len_raw lo hr (by rw [l1]; exact hq)) (by omega) (by omega) ?_
  exact ⟨.int xs.length, H, I.tok _, ⟨_, rfl⟩, q⟩
/-- a built-in with values -/
theorem c_bi (b : BI) (hc : b ≠ .len → X.calm = true) (hu : X.A.units + 64 < cLine) (hb : b ≠ .repr) : CallR X (biV b) (rC (ew X cls) (bi b)) := by
  intro pins s σ H vs us Q I rv ⟨ρ, ds, h, z, h', r, tl, g, q⟩
  unfold bi at g
  split at g
  · rename_i d
    have g : bi1 b d h = .ok z h' := by cases b <;> first | exact g | exact absurd rfl hb
    obtain ⟨v, rest, rfl, rd, rest0⟩ := tl.uncons
    rw [RepL.nil_iff.mp rest0] at rv
    clear rest0 tl
    unfold bi1 at g
    split at g
    · split at g
      · rename_i l hs
        obtain ⟨a, xs, rfl, t, tl⟩ := rd.tupOf
        cases b with
        | len => cases g; exact call_len_seq pins s σ H _ us Q I rv ⟨a, xs, rfl, .inr t.sq, by rw [← tl.length]; exact q _ _ _ .refl r (.int _)⟩
        | list =>
          cases g
          refine call_list_of pins s σ H _ us Q I rv ⟨a, xs, rfl, .inr t.sq, fun p n => ?_⟩
          obtain ⟨g1, g2, g3⟩ := r.newL n tl
          exact q _ _ _ g1 g2 g3
        | tuple => cases g; exact call_tuple_of pins s σ H _ us Q I rv ⟨a, xs, rfl, .inr ⟨t.sq, q _ _ _ .refl r rd⟩⟩
        | maxL => rw [Vals.ref1 rv]; exact max_B (hc nofun) hu I r t.sq tl g q
        | minL => rw [Vals.ref1 rv]; exact min_B (hc nofun) hu I r t.sq tl g q
        | _ => cases hs
      · cases g
    · obtain ⟨a, xs, rfl, t, tl⟩ := rd.wlOf
      exact c_list b hc pins s σ H _ us Q I rv ⟨ρ, _, h, z, h', a, xs, r, rfl, t.sq, tl, g, q⟩
    · rename_i l
      split at g
      · rename_i ls hl
        obtain ⟨a, xs, rfl, ha, t, tl⟩ := r.lst rd hl
        exact c_list b hc pins s σ H _ us Q I rv ⟨ρ, _, h, z, h', a, xs, r, rfl, .inl (.inl t), tl, g, q⟩
      · rename_i k hl
        simp only [Rep] at rd
        obtain ⟨a, rfl, ha⟩ := rd
        obtain ⟨d1, d2, d3, d4⟩ := (show RDct (ew X cls) ρ H (H a) a k from r.ob _ a _ ha hl)
        unfold biD at g
        cases b with
        | len =>
          cases g
          rcases d4 with ⟨ks, e, rk⟩ | ⟨xs, e, rt⟩
          · exact call_lenD pins s σ H _ us Q I rv ⟨a, ks, rfl, e, by rw [← rk.length]; exact q _ _ _ .refl r (.int _)⟩
          · rw [Vals.ref1 rv]
            exact len_raw I e d2 (by rw [← rt.length]; exact d1) (by rw [← rt.length]; exact q _ _ _ .refl r (.int _))
        | list =>
          cases g
          rcases d4 with ⟨ks, e, rk⟩ | ⟨xs, e, rt⟩
          · refine call_list_dK (hc nofun) pins s σ H _ us Q I rv ⟨a, ks, rfl, e, fun p n => ?_⟩
            obtain ⟨g1, g2, g3⟩ := r.newL n rk.keys
            exact q _ _ _ g1 g2 g3
          · rw [Vals.ref1 rv]
            refine list_raw (hc nofun) I e d2 (by rw [← rt.length]; exact d1) fun p n => ?_
            obtain ⟨g1, g2, g3⟩ := r.newL n rt.keysL
            exact q _ _ _ g1 g2 g3
        | _ => cases g
      · cases g
    · cases b with
      | len =>
        simp only at g
        split at g
        · rename_i hx
          cases g
          rw [rd.strOf] at rv
          exact call_len_str pins s σ H _ us Q I rv ⟨_, rfl, by rw [← SZ_eq]; exact hx, q _ _ _ .refl r (.int _)⟩
        · cases g
      | _ => cases g
    · rename_i i
      rw [rd.intOf] at rv
      cases b with
      | abs =>
        cases g
        refine call_abs pins s σ H _ us Q I rv ⟨_, rfl, ?_⟩
        have e : ∀ i : Int, (if i < 0 then -i else i) = (i.natAbs : Int) := fun i => by split <;> omega
        rw [e]
        exact q _ _ _ .refl r (.int _)
      | int => cases g; exact call_int1 pins s σ H _ us Q I rv (.inl ⟨_, rfl, q _ _ _ .refl r (.int _)⟩)
      | _ => cases g
    · rename_i k
      rw [rd.blOf] at rv
      cases b with
      | int => cases g; exact call_int1 pins s σ H _ us Q I rv (.inr ⟨_, rfl, q _ _ _ .refl r (.int _)⟩)
      | _ => cases g
    · cases g
  · rename_i i j
    obtain ⟨v, rest, rfl, rd, tl⟩ := tl.uncons
    obtain ⟨v2, rest2, rfl, rd2, tl⟩ := tl.uncons
    rw [RepL.nil_iff.mp tl, rd.intOf, rd2.intOf] at rv
    cases b with
    | max2 => cases g; exact call_max2 (hc nofun) pins s σ H _ us Q I rv ⟨_, _, rfl, q _ _ _ .refl r (.int _)⟩
    | min2 => cases g; exact call_min2 (hc nofun) pins s σ H _ us Q I rv ⟨_, _, rfl, q _ _ _ .refl r (.int _)⟩
    | _ => cases g
  · cases g
end
end DL

/-! DL, part h: methods of lists and dicts. -/
namespace DL
open PySem PySem.Spec PyProof.Rows L2

def mId : M → String
  | .append => "list.append"
  | .pop => "list.pop"
  | .extend => "list.extend"
  | .index => "list.index"
  | .get => "dict.get"
  | .setdefault => "dict.setdefault"
  | .join => "str.join"
  | .split => "str.split"
  | .count => "str.count"
def mTy : M → String
  | .append => "list"
  | .pop => "list"
  | .extend => "list"
  | .index => "list"
  | .get => "dict"
  | .setdefault => "dict"
  | .join => "str"
  | .split => "str"
  | .count => "str"
/-- a method by data -/
def rM (E : Ew) (m : M) : V → List V → Hp → VK → Prop := fun x vs H Q =>
  ∃ ρ d ds h z h', RH E ρ H h ∧ Rep E ρ H d x ∧ RepL E ρ H ds vs ∧ mth m d ds h = .ok z h' ∧ ∀ ρ' H' v, Gr E ρ H ρ' H' → RH E ρ' H' h' → Rep E ρ' H' z v → Q v H'
section
variable {X : Cx} {cls : Ka}
theorem RepL.last {E : Ew} {ρ : List Addr} {H : Hp} : ∀ {ds : List D} {vs : List V} {d : D}, RepL E ρ H ds vs → ds.getLast? = some d → ∃ v, vs[vs.length - 1]? = some v ∧ Rep E ρ H d v := by
  intro ds vs d t e
  rw [List.getLast?_eq_getElem?] at e
  obtain ⟨v, e1, r⟩ := t.get e
  rw [t.length] at e1
  exact ⟨v, e1, r⟩
theorem RepL.dropLast {E : Ew} {ρ : List Addr} {H : Hp} {ds : List D} {vs : List V} (t : RepL E ρ H ds vs) : RepL E ρ H ds.dropLast vs.dropLast := by
  rw [List.dropLast_eq_take, List.dropLast_eq_take, t.length]
  exact t.take _
/-- l.index(x), whatever is read -/
theorem index_plain {pins : List (Addr × Obj)} {s : Shared} {σ : L2.St} {H : Hp} {a : Addr} {xs : List V} {y : V} {u : Value} {d : PyData} {ds : List PyData} {j : Nat} {Q : VK} (hu : X.A.units + 64 < cLine) (I : Inv X pins σ H s) (hH : H a = some (.lst xs)) (hl : DpAll X.K H xs ds) (hy : Dp X.K H y d) (ry : RelV y u)
    (p1 : PyData.plainAll ds = true) (p2 : d.plain = true) (p3 : d.depth ≤ 8) (e : ds.findIdx? (fun z => PyData.eqv z d) = some j) (q : Q (.int (j : Nat)) H) : wpAny (model X.prog X.w) X.A (call (.builtin "list.index") [.ref a, u]) (EP X pins σ Q) X.xe s := by
  obtain ⟨bs, r1⟩ := Dp.reads I d y u hy ry
  obtain ⟨its, rv, ⟨⟨oc, dd, data, sls⟩, n, ho, hc, hdn, hdt⟩, hlen⟩ := I.list (xs := xs) (.inl (.inl hH))
  simp only at hc hdt
  subst hc hdt
  obtain ⟨as, h4⟩ := Dp.readsAll I ds _ its hl rv
  have hmap : its.map (SeqAt.readOf s.heap) = ds := SeqAt.readsAll_map_plain ds its as p1 h4
  have hn : its.length = ds.length := by rw [← hmap, List.length_map]
  have hvl := rv.length
  have hsl := sizeLine_eq
  rw [List.findIdx?_eq_some_iff_getElem] at e
  obtain ⟨hjd, he1, he2⟩ := e
  have hjl : j < its.length := by omega
  have hj : j < its.toArray.size := by simpa using hjl
  have look : ∀ (m : Nat) (hm : m < its.toArray.size) (hm2 : m < ds.length), SeqAt.readOf s.heap its.toArray[m] = ds[m] := by
    intro m hm hm2
    have e3 : (its.map (SeqAt.readOf s.heap))[m]? = ds[m]? := by rw [hmap]
    have hml : m < its.length := by simpa using hm
    rw [List.getElem?_map, List.getElem?_eq_getElem hml, List.getElem?_eq_getElem hm2] at e3
    simpa using e3
  refine call_meets PySem.F.slot_list_index ⟨_, ho, rfl⟩ PySem.F.entry_list_index (PySem.F.args_list_index_2 _ _)
    (SeqAt.list_indexAt a its.toArray n dd sls u (fun w => PyData.eqv (SeqAt.readOf s.heap w) d) j hj (by omega) ?_ ?_)
    ⟨ho, SeqAt.items_plain (vs := its.toArray) (show ReadsAll s.heap its.toArray.toList ds as from h4) r1 p1 p2 (by omega), ?_⟩
  · show PyData.eqv (SeqAt.readOf s.heap its.toArray[j]) d = true
    rw [look j hj hjd]
    exact he1
  · intro m hm hmj
    show PyData.eqv (SeqAt.readOf s.heap its.toArray[m]) d = false
    rw [look m hm (by omega)]
    simpa using he2 m hmj
  · exact ⟨.int (j : Nat), H, I.tok _, ⟨_, rfl⟩, q⟩
theorem m_D (hu : X.A.units + 64 < cLine) (m : M) : MtR X (mId m) (rM (ew X cls) m) := by
  intro pins s σ H x vs v us Q I rx rv ⟨ρ, d, ds, h, z, h', r, rd, tl, g, q⟩
  unfold mth at g
  split at g
  · rename_i l
    have rd0 := rd
    simp only [Rep] at rd
    obtain ⟨a, rfl, ha⟩ := rd
    split at g
    · rename_i ls hl
      obtain ⟨xs, t, tls⟩ := (show RO (ew X cls) ρ H a (.lst ls) from r.ob l a _ ha hl)
      have mu : Mut (H a) := by rw [t]; trivial
      split at g
      · -- append
        rename_i dd
        split at g
        · rename_i hz
          cases g
          obtain ⟨w, rest, rfl, rw', t0⟩ := tl.uncons
          rw [RepL.nil_iff.mp t0] at rv
          have g2 : Gr (ew X cls) ρ H ρ (upd H a (.lst (xs ++ [w]))) := Gr.write mu
          exact mt_append pins s σ H _ _ v us Q I rx rv ⟨a, xs, w, rfl, rfl, t, by rw [← tls.length, ← SZ_eq]; exact hz, q _ _ _ g2 (r.set ha g2 ⟨_, upd_same, (tls.append (.cons rw' .nil)).mono g2⟩) .non⟩
        · cases g
      · -- pop
        split at g
        · rename_i dd hd
          cases g
          rw [RepL.nil_iff.mp tl] at rv
          obtain ⟨w, e1, rw'⟩ := tls.last hd
          have g2 : Gr (ew X cls) ρ H ρ (upd H a (.lst xs.dropLast)) := Gr.write mu
          exact mt_pop pins s σ H _ _ v us Q I rx rv ⟨a, xs, w, rfl, rfl, t, e1, q _ _ _ g2 (r.set ha g2 ⟨_, upd_same, tls.dropLast.mono g2⟩) (rw'.mono g2)⟩
        · cases g
      · -- extend
        rename_i b
        split at g
        · rename_i ys hb
          split at g
          · rename_i hz
            cases g
            obtain ⟨w, rest, rfl, rw', t0⟩ := tl.uncons
            rw [RepL.nil_iff.mp t0] at rv
            obtain ⟨a2, zs, rfl, ha2, t2, tl2⟩ := r.lst rw' hb
            have g2 : Gr (ew X cls) ρ H ρ (upd H a (.lst (xs ++ zs))) := Gr.write mu
            exact mt_extend pins s σ H _ _ v us Q I rx rv ⟨a, a2, xs, zs, rfl, rfl, t, t2, by rw [← tls.length, ← tl2.length, ← SZ_eq]; exact hz, q _ _ _ g2 (r.set ha g2 ⟨_, upd_same, (tls.append tl2).mono g2⟩) .non⟩
          · cases g
        · cases g
      · -- index
        rename_i dd
        split at g
        · rename_i n hn
          cases g
          unfold idxF at hn
          split at hn
          · rename_i ps p h1 h2
            obtain ⟨w, rest, rfl, rw', t0⟩ := tl.uncons
            rw [RepL.nil_iff.mp t0] at rv
            cases rv with
            | cons r1 r0 =>
              cases r0
              cases rx
              exact index_plain hu I t (mapO_dp (fun d p v e q => pd_dp r e q) _ ps xs h1 tls) (pd_dp r h2 rw') r1 (pds_plain h1).1 (pd_plain h2).1 (pd_plain h2).2 hn (q _ _ _ .refl r (.int _))
          · cases hn
        · cases g
      · cases g
    · rename_i kv hl
      split at g
      · -- get
        split at g
        · rename_i hk
          cases g
          obtain ⟨w, rest, rfl, rk, t0⟩ := tl.uncons
          obtain ⟨w2, rest2, rfl, rdd, t1⟩ := t0.uncons
          rw [RepL.nil_iff.mp t1] at rv
          obtain ⟨H1, I1, g1, r1, road⟩ := rode_dct I r ha hl hk
          cases rx
          cases rv with
          | cons v1 r0 =>
            cases r0 with
            | cons v2 r00 =>
              cases r00
              exact rode_get2 hu road I1 (rk.mono g1) v1 (rdd.mono g1) v2 fun w' v' s' I' rv' rr => ⟨v', H1, I', rv', q _ _ _ g1 r1 rr⟩
        · cases g
      · -- setdefault
        rename_i kd dd0
        split at g
        · rename_i hk
          simp only [Bool.and_eq_true, decide_eq_true_eq] at hk
          obtain ⟨w, rest, rfl, rk, t0⟩ := tl.uncons
          obtain ⟨w2, rest2, rfl, rdd, t1⟩ := t0.uncons
          rw [RepL.nil_iff.mp t1] at rv
          cases rx
          cases rv with
          | cons v1 r0 =>
            cases r0 with
            | cons v2 r00 =>
              cases r00
              obtain ⟨H1, I1, g1, r1, d1, d2, d3, road⟩ := norm I r ha hl hk.1.1
              have rk1 := rk.mono g1
              have rd1 := rdd.mono g1
              rcases road with ⟨kk, ks, rfl, e, rK⟩ | ⟨xs, f1, f2, e, rt⟩
              · rw [rk1.keyV] at v1
                have hks := rK.length
                have gg := rK.get (kd := kk)
                refine d_setd I1 e v1 v2 (by rw [← hks, ← SZ_eq]; exact hk.2) (fun v0 hv w' s' I' rw2 => ?_) (fun hn w' s' I' rw2 => ?_)
                · split at gg
                  · rename_i d0 hd0
                    obtain ⟨v00, e1, rr⟩ := gg
                    rw [hv] at e1
                    cases e1
                    rw [hd0] at g
                    cases g
                    exact ⟨v0, H1, I', rw2, q _ _ _ g1 r1 rr⟩
                  · rw [gg] at hv; cases hv
                · split at gg
                  · rename_i d0 hd0
                    obtain ⟨v00, e1, rr⟩ := gg
                    rw [hn] at e1
                    cases e1
                  · rename_i hd0
                    rw [hd0] at g
                    cases g
                    have rk' := rK.put (kd := kk) rd1
                    have g2 : Gr (ew X cls) ρ H1 ρ (upd H1 a (.dK (putK ks kk w2))) := Gr.write (by rw [e]; trivial)
                    refine ⟨w2, _, I', rw2, q _ _ _ (g1.trans g2) (r1.set ha g2 ?_) (rd1.mono g2)⟩
                    show RDct (ew X cls) ρ _ (upd H1 a _ a) a _
                    rw [upd_same]
                    exact ⟨by have := dput_length kv (keyD kk) z; have := hk.2; rw [SZ_eq] at this; omega, d2, dput_keys kv _ _ d3, .inl ⟨_, rfl, rk'.mono g2⟩⟩
              · have := hk.1.2
                rw [f1] at this
                cases this
        · cases g
      · cases g
    · rename_i kv hl
      split at g
      · split at g
        · rename_i hk
          cases g
          obtain ⟨w, rest, rfl, rk, t0⟩ := tl.uncons
          obtain ⟨w2, rest2, rfl, rdd, t1⟩ := t0.uncons
          rw [RepL.nil_iff.mp t1] at rv
          have road := rode_rod r ha hl hk
          cases rx
          cases rv with
          | cons v1 r0 =>
            cases r0 with
            | cons v2 r00 =>
              cases r00
              exact rode_get2 hu road I rk v1 rdd v2 fun w' v' s' I' rv' rr => ⟨v', H, I', rv', q _ _ _ .refl r rr⟩
        · cases g
      · cases g
    · cases g
  · cases g
end
end DL

/-! DL, part i: what stands around a body; expressions. -/
namespace DL
open PySem PySem.Spec PyProof.Rows L2

/-- the promise of a def, by its function on data -/
def spD (E : Ew) (g : List D → AH → R D) : Sp := fun vs H Q Ex =>
  ∃ ρ ds h, RH E ρ H h ∧ RepL E ρ H ds vs ∧
    match g ds h with
    | .ok d h' => ∀ ρ' H' v, Gr E ρ H ρ' H' → RH E ρ' H' h' → Rep E ρ' H' d v → Q v H'
    | .exc c h' => ∀ ρ' H', Gr E ρ H ρ' H' → RH E ρ' H' h' → Ex (.ref (E.cls c)) none H'
    | .bad => False
structure CalD (E : Ew) (base : Heap) (k : Nat) (cf : Cf) (f : Str) : Prop where
  ex : ∃ (a : Addr) (fd : FuncData) (ps : List Str), FnOk E.P E.w E.K E.mg base (L2.CX E.P E.w) k a fd ps (spD E (cf.call "" f)) ∧ E.mg f = some (.ref a) ∧ PySem.W.keepIn E.K (.ref a) = true ∧ Binds E.K fd ps []
structure MetD (E : Ew) (base : Heap) (k : Nat) (cf : Cf) (c m : Str) : Prop where
  ex : ∃ (a : Addr) (fd : FuncData) (ps : List Str), FnOk E.P E.w E.K E.mg base (L2.CX E.P E.w) k a fd ps (spD E (cf.call c m)) ∧ Cls E.K (E.cls c) ∧ Meth E.K (E.cls c) m a ∧ Binds E.K fd ps []
structure MakD (E : Ew) (base : Heap) (k : Nat) (cf : Cf) (c : Str) : Prop where
  ex : ∃ (a : Addr) (fd : FuncData) (ps : List Str), FnOk E.P E.w E.K E.mg base (L2.CX E.P E.w) k a fd ps (spD E (cf.call c "__init__")) ∧ Mk E.K (E.cls c) a ∧ E.mg c = some (.ref (E.cls c)) ∧ Binds E.K fd ps []
/-- the names: defs, methods, classes, fields -/
structure Nm where
  fs : List Str
  cs : List Str
  fl : List Str
/-- what may be called -/
structure Pk (E : Ew) (base : Heap) (k : Nat) (cf : Cf) (n : Nm) : Prop where
  fn : ∀ f ∈ n.fs, CalD E base k cf f
  mt : ∀ c ∈ E.own, ∀ m, cf.has c m = true → MetD E base k cf c m
  mak : ∀ c ∈ n.cs, c ∈ E.own ∧ MakD E base k cf c
  cl : ∀ c ∈ E.own, Cls E.K (E.cls c)
  na : ∀ c ∈ E.own, ∀ f ∈ n.fl, NoAttr E.K (E.cls c) f
structure Ck (X : Cx) (cls : Ka) (W : WX) (k : Nat) (cf : Cf) (n : Nm) : Prop where
  nd : X.N.Nodup
  calm : X.calm = true
  room : Room (k + 1) X.A
  tk : Takes X W
  pk : Pk (ew X cls) X.base k cf n
abbrev W0 : WX := fun _ _ _ _ => False

section
variable {X : Cx} {cls : Ka} {W : WX} {k : Nat} {cf : Cf} {n : Nm}
theorem Ck.un (c : Ck X cls W k cf n) : X.A.units + 64 < cLine := c.room.units
theorem Ck.blk (c : Ck X cls W k cf n) (s : Shared) (H : Hp) (scope : Scope) (cenv : Env) (fp : List Addr) : Ck (X.blk s H scope cenv fp) cls W0 k cf n :=
  ⟨c.nd, c.calm, c.room, L2.takes0, c.pk⟩
theorem spD_of {E : Ew} {ρ : List Addr} {H : Hp} {h : AH} {ds : List D} {vs : List V} {σ : L2.St} {g : List D → AH → R D} {Q : VK} {h2 : AH}
    (r : RH E ρ H h) (rl : RepL E ρ H ds vs) (a : Af E W ρ H σ (g ds h) fun ρ' d _ H' => ∀ v, Rep E ρ' H' d v → Q v H') : spD E g vs H Q (WE W σ) := by
  refine ⟨ρ, ds, h, r, rl, ?_⟩
  generalize g ds h = z at a
  cases z with
  | ok d h' => exact fun ρ' H' v g1 r1 rv => a ρ' H' g1 r1 v rv
  | exc c h' => exact fun ρ' H' g1 r1 => a ρ' H' g1 r1
  | bad => exact a

/-- the reading of an expression of the text by one of the core -/
abbrev EX (X : Cx) (cls : Ka) (W : WX) (cf : Cf) (e : Expr) (c : CE) : Prop := PE X e (TEof (ew X cls) W (ev cf c))
abbrev EXs (X : Cx) (cls : Ka) (W : WX) (cf : Cf) (e : List Expr) (c : List CE) : Prop := PA X e (TAof (ew X cls) W (evs cf c))
abbrev TX (X : Cx) (cls : Ka) (W : WX) (cf : Cf) (e : Expr) (c : CE) : Prop := PT X e (TTof (ew X cls) W (tst cf c))

variable {e e1 e2 e3 : Expr} {c c1 c2 c3 : CE} {es : List Expr} {ces : List CE} {pos p : Pos}

theorem e_var (i : Nat) {x : Str} (hN : X.N[i]? = some x := by rfl) (hv : Vis X.env.scope x := by first | exact Or.inl rfl | exact Or.inr (Or.inl rfl) | exact Or.inr (Or.inr rfl)) (hd : (x == ("__debug__" : Str)) = false := by decide)
    (hcd : (x == ("__classdict__" : Str)) = false := by decide) : EX X cls W cf (.Name x pos) (.var i) := by
  refine PE.imp (pe_var hN hv hd hcd) fun σ H Q h => ?_
  obtain ⟨ρ, env, h0, rs, af⟩ := h
  simp only [ev, lk] at af
  split at af
  · rename_i d q
    obtain ⟨v, q1, rv⟩ := rs.e.get q
    exact ⟨v, q1, af ρ H .refl rs.h v rv⟩
  · exact af.elim
theorem e_con_of {x : V} {d : D} (hp : PE X e (tC x)) (hr : ∀ ρ H, Rep (ew X cls) ρ H d x) : EX X cls W cf e (.con d) := by
  refine PE.imp hp fun σ H Q h => ?_
  obtain ⟨ρ, env, h0, rs, af⟩ := h
  simp only [ev] at af
  split at af
  · exact af ρ H .refl rs.h x (hr ρ H)
  · exact (af : False).elim
theorem e_int {i : Int} {j : Nat} : EX X cls W cf (.Constant (.int i) j pos) (.con (.int i)) := e_con_of pe_int fun _ _ => Rep.int i
theorem e_bl {i : Bool} {j : Nat} : EX X cls W cf (.Constant (.bool i) j pos) (.con (.bl i)) := e_con_of pe_bl fun _ _ => Rep.bl i
theorem e_str {i : Str} {j : Nat} : EX X cls W cf (.Constant (.str i) j pos) (.con (.str i)) := e_con_of pe_str fun _ _ => Rep.str i
theorem e_non {j : Nat} : EX X cls W cf (.Constant .none j pos) (.con .non) := e_con_of pe_non fun _ _ => Rep.non
/-- a constant of the module -/
def ConD (E : Ew) (x : Str) (d : D) : Prop := ∃ v u, E.mg x = some u ∧ RelV v u ∧ ∀ ρ H, Rep E ρ H d v
theorem e_glob {x : Str} {d : D} (h : ConD (ew X cls) x d) (hg : Gl X x := by rfl) (hd : (x == ("__debug__" : Str)) = false := by decide) : EX X cls W cf (.Name x pos) (.con d) := by
  obtain ⟨v, u, hm, r, q⟩ := h
  exact e_con_of (pe_glob hg hm r hd) q
theorem es_nil : EXs X cls W cf [] [] := by
  refine PA.imp pa_nil fun σ H Q h => ?_
  obtain ⟨ρ, env, h0, rs, af⟩ := h
  simp only [evs] at af
  exact af ρ H .refl rs.h [] .nil
theorem es_cons (h1 : EX X cls W cf e c) (h2 : EXs X cls W cf es ces) (hs : starEach (e :: es) X.env = (false, eval e X.env) :: starEach es X.env := by rfl) : EXs X cls W cf (e :: es) (c :: ces) := by
  refine PA.imp (pa_cons h1 h2 hs) fun σ H Q h => ?_
  obtain ⟨ρ, env, h0, rs, af⟩ := h
  simp only [evs] at af
  refine TEof.use rs (Af.bind af) fun v ρ1 d h1 H1 kn rv af1 => ?_
  refine TAof.use kn.s (Af.bind af1) fun vs ρ2 ds h2 H2 kn2 rl af2 => ?_
  exact af2 ρ2 H2 .refl kn2.s.h (v :: vs) (.cons (rv.mono kn2.g) rl)

theorem evs_len : ∀ (es : List CE) (env : AE) (h : AH) (l : List D) (h' : AH), evs cf es env h = .ok l h' → l.length = es.length
  | [], _, _, _, _, e => by
    simp only [evs] at e
    cases e; rfl
  | c :: es, env, h, l, h', e => by
    simp only [evs] at e
    cases q : ev cf c env h with
    | ok d h1 =>
      rw [q, R.bind_ok] at e
      cases q2 : evs cf es env h1 with
      | ok l2 h2 =>
        rw [q2, R.bind_ok] at e
        cases e
        rw [List.length_cons, List.length_cons, evs_len es env h1 l2 _ q2]
      | exc c h2 => rw [q2] at e; cases e
      | bad => rw [q2] at e; cases e
    | exc c h2 => rw [q] at e; cases e
    | bad => rw [q] at e; cases e
theorem Af.and {α : Type} {E : Ew} {ρ : List Addr} {H : Hp} {σ : L2.St} {r : R α} {Q : List Addr → α → AH → Hp → Prop} (p : α → Prop) (hp : ∀ a h, r = .ok a h → p a) (x : Af E W ρ H σ r Q) : Af E W ρ H σ r (fun ρ' a h' H' => p a ∧ Q ρ' a h' H') := by
  cases r with
  | ok a h' => exact fun ρ2 H2 g2 r2 => ⟨hp _ _ rfl, x ρ2 H2 g2 r2⟩
  | exc c h' => exact x
  | bad => exact x
theorem e_tup {x1 : _} (h : EXs X cls W cf es ces) (hl : ces.length ≤ SZ := by decide) : EX X cls W cf (.Tuple es x1 pos) (.tup ces) := by
  refine PE.imp (pe_tup h) fun σ H Q h => ?_
  obtain ⟨ρ, env, h0, rs, af⟩ := h
  simp only [ev] at af
  refine TAof.use rs (Af.and (fun l => l.length = ces.length) (fun a h' e => evs_len ces env h0 a h' e) (Af.bind af)) fun vs ρ1 ds h1 H1 kn rl ⟨hd, af1⟩ => ?_
  refine ⟨by rw [← rl.length, hd, ← SZ_eq]; exact hl, fun q hq => ?_⟩
  obtain ⟨g, r2, rv⟩ := kn.s.h.newT hq rl
  exact af1 ρ1 _ g r2 _ rv
theorem e_lst (h : EXs X cls W cf es ces) (hl : ces.length ≤ SZ := by decide) : EX X cls W cf (.List es pos) (.lst ces) := by
  refine PE.imp (pe_lst h) fun σ H Q h => ?_
  obtain ⟨ρ, env, h0, rs, af⟩ := h
  simp only [ev] at af
  refine TAof.use rs (Af.and (fun l => l.length = ces.length) (fun a h' e => evs_len ces env h0 a h' e) (Af.bind af)) fun vs ρ1 ds h1 H1 kn rl ⟨hd, af1⟩ => ?_
  refine ⟨by rw [← rl.length, hd, ← SZ_eq]; exact hl, fun q hq => ?_⟩
  have z := kn.s.h.newL hq rl
  exact af1 _ _ z.1 z.2.1 _ z.2.2

/-- operators -/
theorem rD_of {ρ : List Addr} {H : Hp} {h : AH} {σ : L2.St} {g : D → D → AH → R D} {d e : D} {x y : V} {Q : VK} (hg : ∀ d e h c h', g d e h ≠ .exc c h') (r : RH (ew X cls) ρ H h) (rd : Rep (ew X cls) ρ H d x) (re : Rep (ew X cls) ρ H e y)
    (a : Af (ew X cls) W ρ H σ (g d e h) fun ρ' z _ H' => ∀ v, Rep (ew X cls) ρ' H' z v → Q v H') : rD (ew X cls) g x y H Q := by
  cases q : g d e h with
  | ok z h' =>
    rw [q] at a
    exact ⟨ρ, d, e, h, z, h', r, rd, re, q, fun ρ' H' v g1 r1 rv => a ρ' H' g1 r1 v rv⟩
  | exc c h' => exact absurd q (hg d e h c h')
  | bad => rw [q] at a; exact a.elim
theorem ob_ne (o : Option Bool) (h : AH) (c : Str) (h' : AH) : ob o h ≠ .exc c h' := by
  cases o <;> exact fun e => nomatch e
theorem bop_ne (b : B) (d e : D) (h : AH) (c : Str) (h' : AH) : bop b d e h ≠ .exc c h' := by
  intro q
  cases b <;> simp only [bop] at q
  case eq => exact ob_ne _ _ _ _ q
  case ne => exact ob_ne _ _ _ _ q
  case inn => exact ob_ne _ _ _ _ q
  case nin => exact ob_ne _ _ _ _ q
  case is => exact ob_ne _ _ _ _ q
  case isnt => exact ob_ne _ _ _ _ q
  case add => unfold addB at q; (repeat' split at q) <;> cases q
  case mul => unfold mulB at q; (repeat' split at q) <;> cases q
  case item => unfold itemB at q; (repeat' split at q) <;> cases q
  all_goals ((repeat' split at q) <;> cases q)
theorem tOp_of {b : B} {Q : VK} {σ : L2.St} {H : Hp} (h : TEof (ew X cls) W (ev cf (.bop b c1 c2)) σ H Q) :
    tOp (rD (ew X cls) (bop b)) (TEof (ew X cls) W (ev cf c1)) (TEof (ew X cls) W (ev cf c2)) σ H Q := by
  obtain ⟨ρ, env, h0, rs, af⟩ := h
  simp only [ev] at af
  refine TEof.use rs (Af.bind af) fun v ρ1 d h1 H1 kn rv af1 => ?_
  refine TEof.use kn.s (Af.bind af1) fun u ρ2 e h2 H2 kn2 ru af2 => ?_
  exact rD_of (fun d e h c h' => bop_ne b d e h c h') kn2.s.h (rv.mono kn2.g) ru af2
theorem e_bin {op : Operator} {b : B} (ho : OpR X (binaryOp op) (rD (ew X cls) (bop b))) (h1 : EX X cls W cf e1 c1) (h2 : EX X cls W cf e2 c2) : EX X cls W cf (.BinOp e1 op e2 pos) (.bop b c1 c2) :=
  PE.imp (pe_op ho h1 h2) fun _ _ _ h => tOp_of h
theorem e_cmp {op : CmpOp} {b : B} (ho : OpR X (compareOp op) (rD (ew X cls) (bop b))) (h1 : EX X cls W cf e1 c1) (h2 : EX X cls W cf e2 c2) (hm : behindInMarks op e2 = false := by with_unfolding_all rfl) : EX X cls W cf (.Compare e1 [op] [e2] pos) (.bop b c1 c2) :=
  PE.imp (pe_cmpR ho h1 h2 hm) fun _ _ _ h => tOp_of h
theorem tBl_of {o : Option Bool} {f : D → D → AH → R D} {d e : D} {h : AH} {z : D} {h' : AH} (b : B) (q : bop b d e h = .ok z h') (hb : ∀ d e h z h', bop b d e h = .ok z h' → ∃ t, z = .bl t) : ∃ t, z = .bl t := hb _ _ _ _ _ q
/-- the comparisons -/
def isC : B → Bool
  | .eq => true | .ne => true | .lt => true | .le => true | .gt => true | .ge => true | .inn => true | .nin => true | .is => true | .isnt => true
  | _ => false
theorem isC_bl {b : B} (hb : isC b = true) {d e : D} {h : AH} {z : D} {h' : AH} (q : bop b d e h = .ok z h') : ∃ t, z = .bl t := by
  have oc : ∀ {o : Option Bool}, ob o h = .ok z h' → ∃ t, z = .bl t := fun {o} q => by
    cases o with
    | none => cases q
    | some t => cases q; exact ⟨t, rfl⟩
  cases b <;> simp only [bop] at q
  case eq => exact oc q
  case ne => exact oc q
  case inn => exact oc q
  case nin => exact oc q
  case is => exact oc q
  case isnt => exact oc q
  case lt => (repeat' split at q) <;> first | cases q; done | (cases q; exact ⟨_, rfl⟩)
  case le => (repeat' split at q) <;> first | cases q; done | (cases q; exact ⟨_, rfl⟩)
  case gt => (repeat' split at q) <;> first | cases q; done | (cases q; exact ⟨_, rfl⟩)
  case ge => (repeat' split at q) <;> first | cases q; done | (cases q; exact ⟨_, rfl⟩)
  all_goals exact absurd hb (by decide)
/-- as a test -/
theorem t_cmp {op : CmpOp} {b : B} (ho : OpR X (compareOp op) (rD (ew X cls) (bop b))) (hb : isC b = true) (h1 : EX X cls W cf e1 c1) (h2 : EX X cls W cf e2 c2) (hm : behindInMarks op e2 = false := by with_unfolding_all rfl) : TX X cls W cf (.Compare e1 [op] [e2] pos) (.bop b c1 c2) :=
  PT.imp (pt_cmpR ho h1 h2 hm) fun σ H Q h => by
    refine tOp_of ?_
    obtain ⟨ρ, env, h0, rs, af⟩ := h
    refine ⟨ρ, env, h0, rs, ?_⟩
    have af := Af.bind af
    have z : ∀ d h', ev cf (.bop b c1 c2) env h0 = .ok d h' → ∃ t, d = .bl t := fun d h' q => by
      simp only [ev] at q
      cases q1 : ev cf c1 env h0 with
      | ok d1 h1 =>
        rw [q1, R.bind_ok] at q
        cases q2 : ev cf c2 env h1 with
        | ok d2 h2 => rw [q2, R.bind_ok] at q; exact isC_bl hb q
        | exc c h2 => rw [q2] at q; cases q
        | bad => rw [q2] at q; cases q
      | exc c h2 => rw [q1] at q; cases q
      | bad => rw [q1] at q; cases q
    refine Af.imp (Af.and (fun d => ∃ t, d = .bl t) z af) fun ρ' d h' H' g r2 ⟨⟨t, e⟩, q⟩ v rv => ?_
    subst e
    obtain rfl := rv.blOf
    exact ⟨t, rfl, q ρ' H' .refl r2⟩

theorem pt_tr {r : V → Hp → (Bool → Hp → Prop) → Prop} {te : TE} (ha : PE X e te) (hr : TruR X r) (he : ∀ whole, isTrue e X.env whole = (do let v ← whole; standAt e.pos; holding [v] (truthy v))) : PT X e (fun σ H Q => te σ H fun x H' => r x H' Q) :=
  ⟨fun pins s σ H Q I hw => isTrue_plain (thn (ha.run pins s σ H _ I hw) fun v s1 ⟨x, H1, I1, r1, q1⟩ => hr pins s1 σ H1 x v Q I1 r1 q1) (he _)⟩
theorem tru_of {ρ : List Addr} {H : Hp} {h1 : AH} {σ : L2.St} {d : D} {v : V} {f : Option Bool → R D} {Q : Bool → Hp → Prop} (r : RH (ew X cls) ρ H h1) (rv : Rep (ew X cls) ρ H d v) {b : Bool} (e : tru h1 d = some b) (q : Q b H) :
    ∃ ρ d h b, RH (ew X cls) ρ H h ∧ Rep (ew X cls) ρ H d v ∧ tru h d = some b ∧ Q b H := ⟨ρ, d, h1, b, r, rv, e, q⟩
/-- any test that is its value's truth -/
theorem t_val (h : EX X cls W cf e c) (he : ∀ whole, isTrue e X.env whole = (do let v ← whole; standAt e.pos; holding [v] (truthy v)) := by intro _; rfl) : TX X cls W cf e c := by
  refine PT.imp (pt_tr h (tru_D (cls := cls)) he) fun σ H Q h => ?_
  obtain ⟨ρ, env, h0, rs, af⟩ := h
  refine TEof.use rs (Af.bind af) fun v ρ1 d h1 H1 kn rv af1 => ?_
  cases q : tru h1 d with
  | none => rw [q] at af1; exact af1.elim
  | some b =>
    rw [q] at af1
    exact ⟨ρ1, d, h1, b, kn.s.h, rv, q, af1 ρ1 H1 .refl kn.s.h⟩
theorem tst_and (env : AE) (h : AH) : tst cf (.andE c1 c2) env h = (tst cf c1 env h).bind fun k h1 => if k then tst cf c2 env h1 else .ok false h1 := by
  simp only [tst, ev]
  cases ev cf c1 env h with
  | ok d h1 =>
    simp only [R.bind_ok]
    cases q : tru h1 d with
    | none => simp only [R.bind_bad]
    | some b => cases b <;> simp only [R.bind_ok, q] <;> rfl
  | exc c h1 => rfl
  | bad => rfl
theorem tst_or (env : AE) (h : AH) : tst cf (.orE c1 c2) env h = (tst cf c1 env h).bind fun k h1 => if k then .ok true h1 else tst cf c2 env h1 := by
  simp only [tst, ev]
  cases ev cf c1 env h with
  | ok d h1 =>
    simp only [R.bind_ok]
    cases q : tru h1 d with
    | none => simp only [R.bind_bad]
    | some b => cases b <;> simp only [R.bind_ok, q] <;> rfl
  | exc c h1 => rfl
  | bad => rfl
theorem tst_not (env : AE) (h : AH) : tst cf (.notE c1) env h = (tst cf c1 env h).bind fun k h1 => .ok (!k) h1 := by
  simp only [tst, ev]
  cases ev cf c1 env h with
  | ok d h1 =>
    simp only [R.bind_ok]
    cases q : tru h1 d with
    | none => simp only [R.bind_bad]
    | some b => cases b <;> simp only [R.bind_ok, tru] <;> rfl
  | exc c h1 => rfl
  | bad => rfl
abbrev WXt (X : Cx) (cls : Ka) (W : WX) (cf : Cf) (e : Expr) (c : CE) : Prop := PW X e (TTof (ew X cls) W (tst cf c))
theorem w_and1 (h : TX X cls W cf e c) : WXt X cls W cf (.BoolOp .And [e] pos) c := pw_and1 h
theorem w_or1 (h : TX X cls W cf e c) : WXt X cls W cf (.BoolOp .Or [e] pos) c := pw_or1 h
theorem w_and (h1 : TX X cls W cf e1 c1) (h2 : WXt X cls W cf (.BoolOp .And (e2 :: es) pos) c2) : WXt X cls W cf (.BoolOp .And (e1 :: e2 :: es) pos) (.andE c1 c2) := by
  refine PW.imp (pw_and h1 h2) fun σ H Q h => ?_
  obtain ⟨ρ, env, h0, rs, af⟩ := h
  rw [tst_and] at af
  refine TTof.use rs (Af.bind af) fun b ρ1 h1 H1 kn af1 => ?_
  cases b with
  | true => exact ⟨ρ1, env, h1, kn.s, af1⟩
  | false => exact af1 ρ1 H1 .refl kn.s.h
theorem w_or (h1 : TX X cls W cf e1 c1) (h2 : WXt X cls W cf (.BoolOp .Or (e2 :: es) pos) c2) : WXt X cls W cf (.BoolOp .Or (e1 :: e2 :: es) pos) (.orE c1 c2) := by
  refine PW.imp (pw_or h1 h2) fun σ H Q h => ?_
  obtain ⟨ρ, env, h0, rs, af⟩ := h
  rw [tst_or] at af
  refine TTof.use rs (Af.bind af) fun b ρ1 h1 H1 kn af1 => ?_
  cases b with
  | false => exact ⟨ρ1, env, h1, kn.s, af1⟩
  | true => exact af1 ρ1 H1 .refl kn.s.h
theorem t_bool (h : WXt X cls W cf e c) : TX X cls W cf e c := h.pt
theorem t_not (h : TX X cls W cf e c) : TX X cls W cf (.UnaryOp .Not e pos) (.notE c) := by
  refine PT.imp (pt_not h) fun σ H Q h => ?_
  obtain ⟨ρ, env, h0, rs, af⟩ := h
  rw [tst_not] at af
  refine TTof.use rs (Af.bind af) fun b ρ1 h1 H1 kn af1 => ?_
  exact af1 ρ1 H1 .refl kn.s.h

/-! as values -/
theorem e_one {op : BoolOp} (h : EX X cls W cf e c) : EX X cls W cf (.BoolOp op [e] pos) c := pe_one h

abbrev rTru (X : Cx) (cls : Ka) : V → Hp → (Bool → Hp → Prop) → Prop := fun x H Q => ∃ ρ d h b, RH (ew X cls) ρ H h ∧ Rep (ew X cls) ρ H d x ∧ tru h d = some b ∧ Q b H
theorem pe_andG {r : V → Hp → (Bool → Hp → Prop) → Prop} {ta tb : TE} (hr : TruR X r) (ha : PE X e1 ta) (hb : PE X (.BoolOp .And (e2 :: es) pos) tb) :
    PE X (.BoolOp .And (e1 :: e2 :: es) pos) (fun σ H Q => ta σ H fun x H1 => r x H1 fun k H2 => if k = true then tb σ H2 Q else Q x H2) := by
  refine ⟨fun pins s σ H Q I h => ?_⟩
  refine BoolOp_and (thn (ha.run pins s σ H _ I h) fun v s1 ⟨x, H1, I1, r1, q1⟩ => ?_)
  refine thn (hr pins s1 σ H1 x v _ I1 r1 q1) fun k s2 ⟨H2, I2, q2⟩ => ?_
  cases k with
  | true => exact hb.run pins s2 σ H2 Q I2 q2
  | false => exact ⟨x, H2, I2, r1, q2⟩
theorem pe_orG {r : V → Hp → (Bool → Hp → Prop) → Prop} {ta tb : TE} (hr : TruR X r) (ha : PE X e1 ta) (hb : PE X (.BoolOp .Or (e2 :: es) pos) tb) :
    PE X (.BoolOp .Or (e1 :: e2 :: es) pos) (fun σ H Q => ta σ H fun x H1 => r x H1 fun k H2 => if k = true then Q x H2 else tb σ H2 Q) := by
  refine ⟨fun pins s σ H Q I h => ?_⟩
  refine BoolOp_or (thn (ha.run pins s σ H _ I h) fun v s1 ⟨x, H1, I1, r1, q1⟩ => ?_)
  refine thn (hr pins s1 σ H1 x v _ I1 r1 q1) fun k s2 ⟨H2, I2, q2⟩ => ?_
  cases k with
  | false => exact hb.run pins s2 σ H2 Q I2 q2
  | true => exact ⟨x, H2, I2, r1, q2⟩
theorem pe_notG {r : V → Hp → (Bool → Hp → Prop) → Prop} {ta : TE} (hr : TruR X r) (ha : PE X e1 ta) :
    PE X (.UnaryOp .Not e1 pos) (fun σ H Q => ta σ H fun x H1 => r x H1 fun k H2 => Q (.bl (!k)) H2) := by
  refine ⟨fun pins s σ H Q I h => ?_⟩
  refine UnaryOp_ (thn (ha.run pins s σ H _ I h) fun v s1 ⟨x, H1, I1, r1, q1⟩ => ?_)
  exact not_of (thn (hr pins s1 σ H1 x v (fun k H2 => Q (.bl (!k)) H2) I1 r1 q1) fun k s2 ⟨H2, I2, q2⟩ => ⟨.bl (!k), H2, I2, rfl, q2⟩)
theorem e_and (h1 : EX X cls W cf e1 c1) (h2 : EX X cls W cf (.BoolOp .And (e2 :: es) pos) c2) : EX X cls W cf (.BoolOp .And (e1 :: e2 :: es) pos) (.andE c1 c2) := by
  refine PE.imp (pe_andG (tru_D (cls := cls)) h1 h2) fun σ H Q h => ?_
  obtain ⟨ρ, env, h0, rs, af⟩ := h
  simp only [ev] at af
  refine TEof.use rs (Af.bind af) fun v ρ1 d h1 H1 kn rv af1 => ?_
  cases q : tru h1 d with
  | none => rw [q] at af1; exact af1.elim
  | some b =>
    rw [q] at af1
    refine ⟨ρ1, d, h1, b, kn.s.h, rv, q, ?_⟩
    cases b with
    | true => exact ⟨ρ1, env, h1, kn.s, af1⟩
    | false => exact af1 ρ1 H1 .refl kn.s.h v rv
theorem e_or (h1 : EX X cls W cf e1 c1) (h2 : EX X cls W cf (.BoolOp .Or (e2 :: es) pos) c2) : EX X cls W cf (.BoolOp .Or (e1 :: e2 :: es) pos) (.orE c1 c2) := by
  refine PE.imp (pe_orG (tru_D (cls := cls)) h1 h2) fun σ H Q h => ?_
  obtain ⟨ρ, env, h0, rs, af⟩ := h
  simp only [ev] at af
  refine TEof.use rs (Af.bind af) fun v ρ1 d h1 H1 kn rv af1 => ?_
  cases q : tru h1 d with
  | none => rw [q] at af1; exact af1.elim
  | some b =>
    rw [q] at af1
    refine ⟨ρ1, d, h1, b, kn.s.h, rv, q, ?_⟩
    cases b with
    | false => exact ⟨ρ1, env, h1, kn.s, af1⟩
    | true => exact af1 ρ1 H1 .refl kn.s.h v rv
theorem e_not (h1 : EX X cls W cf e1 c1) : EX X cls W cf (.UnaryOp .Not e1 pos) (.notE c1) := by
  refine PE.imp (pe_notG (tru_D (cls := cls)) h1) fun σ H Q h => ?_
  obtain ⟨ρ, env, h0, rs, af⟩ := h
  simp only [ev] at af
  refine TEof.use rs (Af.bind af) fun v ρ1 d h1 H1 kn rv af1 => ?_
  cases q : tru h1 d with
  | none => rw [q] at af1; exact af1.elim
  | some b =>
    rw [q] at af1
    exact ⟨ρ1, d, h1, b, kn.s.h, rv, q, af1 ρ1 H1 .refl kn.s.h _ (Rep.bl _)⟩
theorem e_neg (h1 : EX X cls W cf e1 c1) : EX X cls W cf (.UnaryOp .USub e1 pos) (.neg c1) := by
  refine PE.imp (pe_un un_neg h1) fun σ H Q h => ?_
  obtain ⟨ρ, env, h0, rs, af⟩ := h
  simp only [ev] at af
  refine TEof.use rs (Af.bind af) fun v ρ1 d h1 H1 kn rv af1 => ?_
  split at af1
  · rename_i i
    exact ⟨i, rv.intOf, af1 ρ1 H1 .refl kn.s.h _ (Rep.int _)⟩
  · exact af1.elim
theorem e_ife (h3 : TX X cls W cf e3 c3) (h1 : EX X cls W cf e1 c1) (h2 : EX X cls W cf e2 c2) : EX X cls W cf (.IfExp e3 e1 e2 pos) (.ife c3 c1 c2) := by
  refine PE.imp (pe_ifExp h3 h1 h2) fun σ H Q h => ?_
  obtain ⟨ρ, env, h0, rs, af⟩ := h
  have z : ev cf (.ife c3 c1 c2) env h0 = (tst cf c3 env h0).bind fun k h1 => if k then ev cf c1 env h1 else ev cf c2 env h1 := by
    simp only [tst, ev]
    cases ev cf c3 env h0 with
    | ok d h1 =>
      simp only [R.bind_ok]
      cases q : tru h1 d with
      | none => simp only [R.bind_bad]
      | some b => cases b <;> simp only [R.bind_ok] <;> rfl
    | exc c h1 => rfl
    | bad => rfl
  rw [z] at af
  refine TTof.use rs (Af.bind af) fun b ρ1 h1 H1 kn af1 => ?_
  cases b with
  | true => exact ⟨ρ1, env, h1, kn.s, af1⟩
  | false => exact ⟨ρ1, env, h1, kn.s, af1⟩
theorem chain_of {b b' : B} (hb : isC b = true) {Q : VK} {σ : L2.St} {H : Hp} (h : TEof (ew X cls) W (ev cf (.chain b b' c1 c2 c3)) σ H Q) :
    tChain (rD (ew X cls) (bop b)) (rD (ew X cls) (bop b')) (TEof (ew X cls) W (ev cf c1)) (TEof (ew X cls) W (ev cf c2)) (TEof (ew X cls) W (ev cf c3)) σ H Q := by
  obtain ⟨ρ, env, h0, rs, af⟩ := h
  simp only [ev] at af
  refine TEof.use rs (Af.bind af) fun v ρ1 d h1 H1 kn rv af1 => ?_
  refine TEof.use kn.s (Af.bind af1) fun u ρ2 e h2 H2 kn2 ru af2 => ?_
  cases q : bop b d e h2 with
  | exc c h' => exact absurd q (bop_ne _ _ _ _ _ _)
  | bad => rw [q] at af2; exact af2.elim
  | ok z h3 =>
    rw [q, R.bind_ok] at af2
    obtain ⟨t, rfl⟩ := isC_bl hb q
    refine ⟨ρ2, d, e, h2, .bl t, h3, kn2.s.h, rv.mono kn2.g, ru, q, fun ρ3 H3 w g3 r3 rw' => ?_⟩
    obtain rfl := rw'.blOf
    refine ⟨t, rfl, ?_⟩
    have af3 := Af.up af2 g3
    cases t with
    | false => exact af3 ρ3 H3 .refl r3 _ (Rep.bl _)
    | true =>
      refine TEof.use (kn2.s.step g3 r3) (Af.bind af3) fun w2 ρ4 f h4 H4 kn4 rw4 af4 => ?_
      exact rD_of (fun d e h c h' => bop_ne b' d e h c h') kn4.s.h ((ru.mono g3).mono kn4.g) rw4 af4
theorem e_chain {op op' : CmpOp} {b b' : B} (ho : OpR X (compareOp op) (rD (ew X cls) (bop b))) (ho' : OpR X (compareOp op') (rD (ew X cls) (bop b'))) (hb : isC b = true) (h1 : EX X cls W cf e1 c1) (h2 : EX X cls W cf e2 c2) (h3 : EX X cls W cf e3 c3)
    (hm : lastMarks [op, op'] [e2, e3] = false := by with_unfolding_all rfl) : EX X cls W cf (.Compare e1 [op, op'] [e2, e3] pos) (.chain b b' c1 c2 c3) :=
  PE.imp (pe_chain ho ho' h1 h2 h3 hm) fun _ _ _ h => chain_of hb h
theorem t_chain {op op' : CmpOp} {b b' : B} (ho : OpR X (compareOp op) (rD (ew X cls) (bop b))) (ho' : OpR X (compareOp op') (rD (ew X cls) (bop b'))) (hb : isC b = true) (hb' : isC b' = true) (h1 : EX X cls W cf e1 c1) (h2 : EX X cls W cf e2 c2) (h3 : EX X cls W cf e3 c3)
    (hm : lastMarks [op, op'] [e2, e3] = false := by with_unfolding_all rfl) : TX X cls W cf (.Compare e1 [op, op'] [e2, e3] pos) (.chain b b' c1 c2 c3) :=
  PT.imp (pt_chain ho ho' h1 h2 h3 hm) fun σ H Q h => by
    refine chain_of hb ?_
    obtain ⟨ρ, env, h0, rs, af⟩ := h
    refine ⟨ρ, env, h0, rs, ?_⟩
    have z : ∀ d h', ev cf (.chain b b' c1 c2 c3) env h0 = .ok d h' → ∃ t, d = .bl t := fun d h' q => by
      simp only [ev] at q
      cases q1 : ev cf c1 env h0 with
      | ok d1 h1 =>
        rw [q1, R.bind_ok] at q
        cases q2 : ev cf c2 env h1 with
        | ok d2 h2 =>
          rw [q2, R.bind_ok] at q
          cases q3 : bop b d1 d2 h2 with
          | ok d3 h3 =>
            rw [q3, R.bind_ok] at q
            obtain ⟨t, rfl⟩ := isC_bl hb q3
            cases t with
            | false => cases q; exact ⟨_, rfl⟩
            | true =>
              cases q4 : ev cf c3 env h3 with
              | ok d4 h4 => simp only [q4, R.bind_ok] at q; exact isC_bl hb' q
              | exc c h4 => simp only [q4] at q; cases q
              | bad => simp only [q4] at q; cases q
          | exc c h2 => rw [q3] at q; cases q
          | bad => rw [q3] at q; cases q
        | exc c h2 => rw [q2] at q; cases q
        | bad => rw [q2] at q; cases q
      | exc c h2 => rw [q1] at q; cases q
      | bad => rw [q1] at q; cases q
    refine Af.imp (Af.and (fun d => ∃ t, d = .bl t) z (Af.bind af)) fun ρ' d h' H' g r2 ⟨⟨t, e⟩, q⟩ v rv => ?_
    subst e
    obtain rfl := rv.blOf
    exact ⟨t, rfl, q ρ' H' .refl r2⟩

/-! subscripts, attributes -/
theorem e_ix (hu : X.A.units + 64 < cLine) (h1 : EX X cls W cf e1 c1) (h2 : EX X cls W cf e2 c2) (hs : PlainIx e2 := by intro _ _; rfl) : EX X cls W cf (.Subscript e1 e2 pos) (.bop .item c1 c2) :=
  PE.imp (pe_ix (ix_D hu) h1 h2 hs) fun _ _ _ h => tOp_of h
abbrev OX (X : Cx) (cls : Ka) (W : WX) (cf : Cf) (e : Option Expr) (c : Option CE) : Prop := PO X e (fun σ H Q => ∃ ρ env h, RS (ew X cls) ρ H σ env h ∧ Af (ew X cls) W ρ H σ (evo cf c env h) fun _ o _ H' => Q o H')
theorem PO.imp {o : Option Expr} {t t' : TO} (p : PO X o t) (h : ∀ σ H Q, t' σ H Q → t σ H Q) : PO X o t' := ⟨fun pins s σ H Q I q => p.run pins s σ H Q I (h σ H Q q)⟩
theorem o_non : OX X cls W cf none none := by
  refine PO.imp po_none fun σ H Q h => ?_
  obtain ⟨ρ, env, h0, rs, af⟩ := h
  simp only [evo] at af
  exact af ρ H .refl rs.h
theorem o_som (h : EX X cls W cf e c) : OX X cls W cf (some e) (some c) := by
  refine PO.imp (po_some h) fun σ H Q h => ?_
  obtain ⟨ρ, env, h0, rs, af⟩ := h
  simp only [evo] at af
  refine TEof.use rs (Af.bind af) fun v ρ1 d h1 H1 kn rv af1 => ?_
  split at af1
  · rename_i i
    exact ⟨i, rv.intOf, af1 ρ1 H1 .refl kn.s.h⟩
  · exact af1.elim
theorem sliceD_ne (d : D) (lo hi : Option Int) (h : AH) (c : Str) (h' : AH) : sliceD d lo hi h ≠ .exc c h' := by
  intro q
  unfold sliceD at q
  (repeat' split at q) <;> cases q
theorem e_slice {lo hi : Option Expr} {cl ch : Option CE} {p2 : Pos} (h1 : EX X cls W cf e1 c1) (hl : OX X cls W cf lo cl) (hh : OX X cls W cf hi ch) : EX X cls W cf (.Subscript e1 (.Slice lo hi none p2) pos) (.slice c1 cl ch) := by
  refine PE.imp (pe_slice (sl_D (cls := cls)) h1 hl hh) fun σ H Q h => ?_
  obtain ⟨ρ, env, h0, rs, af⟩ := h
  simp only [ev] at af
  refine TEof.use rs (Af.bind af) fun v ρ1 d h1 H1 kn rv af1 => ?_
  refine ⟨ρ1, env, h1, kn.s, Af.imp (Af.bind af1) fun ρ2 i h2 H2 g2 r2 af2 => ?_⟩
  have s2 := kn.s.step g2 r2
  refine ⟨ρ2, env, h2, s2, Af.imp (Af.bind af2) fun ρ3 j h3 H3 g3 r3 af3 => ?_⟩
  cases q : sliceD d i j h3 with
  | ok z h4 => rw [q] at af3; exact ⟨ρ3, d, h3, z, h4, r3, (rv.mono g2).mono g3, q, fun ρ' H' v g1 r1 rv' => af3 ρ' H' g1 r1 v rv'⟩
  | exc c h' => exact absurd q (sliceD_ne _ _ _ _ _ _)
  | bad => rw [q] at af3; exact af3.elim
end
end DL

/-! DL, part j: calls, attributes, methods. -/
namespace DL
open PySem PySem.Spec PyProof.Rows L2
section
variable {X : Cx} {cls : Ka} {W : WX} {k : Nat} {cf : Cf} {n : Nm}
variable {e e1 e2 e3 o : Expr} {c c1 c2 c3 co : CE} {es : List Expr} {ces : List CE} {pos p apos : Pos}

theorem e_call (ck : Ck X cls W k cf n) (i : Nat) {f : Str} (ha : EXs X cls W cf (e :: es) ces) (hf : n.fs[i]? = some f := by rfl) (hg : Gl X f := by rfl)
    (hdb : (f == ("__debug__" : Str)) = false := by decide) (he : starEach (e :: es) X.env = (false, eval e X.env) :: starEach es X.env := by rfl) (hpl : (backTo pos (starEach es X.env)).any (·.1) = false := by rfl) :
    EX X cls W cf (.Call (.Name f p) (e :: es) [] pos) (.call f ces) := by
  obtain ⟨a, fd, ps, F, hm, kp, b⟩ := (ck.pk.fn f (List.mem_of_getElem? hf)).ex
  refine PE.imp (pe_callS F (ck.room.mono (Nat.le_succ k)) hg hm kp b (passAt ck.tk) ha hdb he hpl) fun σ H Q h => ?_
  obtain ⟨ρ, env, h0, rs, af⟩ := h
  simp only [ev] at af
  refine TAof.use rs (Af.bind af) fun vs ρ1 ds h1 H1 kn rl af1 => ?_
  exact spD_of (h2 := h1) kn.s.h rl af1
theorem e_call0 (ck : Ck X cls W k cf n) (i : Nat) {f : Str} (hf : n.fs[i]? = some f := by rfl) (hg : Gl X f := by rfl)
    (hdb : (f == ("__debug__" : Str)) = false := by decide) : EX X cls W cf (.Call (.Name f p) [] [] pos) (.call f []) := by
  obtain ⟨a, fd, ps, F, hm, kp, b⟩ := (ck.pk.fn f (List.mem_of_getElem? hf)).ex
  refine ⟨fun pins s σ H Q I h => ?_⟩
  obtain ⟨ρ, env, h0, rs, af⟩ := h
  simp only [ev, evs, R.bind_ok] at af
  refine wpAny_Call_Name_kw (ld_glob I hg hm ?_ hdb)
  exact PySem.W.callWith_K0 I.kIn kp (run_fnS (us := []) F (ck.room.mono (Nat.le_succ k)) b (passAt ck.tk σ) I .nil (spD_of (h2 := h0) rs.h .nil af))

theorem run_makeS {CX : CXT} {C f : Addr} {fd : FuncData} {ps : List Str} {sp : Sp} {Ex : XK} {pins : List (Addr × Obj)} {σ : L2.St} {H : Hp} {s : Shared} {Q : VK} {us : List Value} {vs : List V} (M : Mk X.K C f) (F : FnOk X.prog X.w X.K X.mg X.base CX k f fd ps sp) (hr : Room (k + 1) X.A) (hb : Binds X.K fd ps [])
    (hx : PassesAt CX X σ Ex) (I : Inv X pins σ H s) (r : Vals vs us)
    (h : ∀ x dx, H x = none → H dx = none → dx ≠ x → sp (.ref x :: vs) (upd (upd H dx (.own x)) x (.ins C dx [])) (fun v H2 => v = .non ∧ Q (.ref x) H2) Ex) :
    wpAny (model X.prog X.w) X.A (call (.ref C) us) (EP X pins σ Q) X.xe s := by
  have hq := h (s.heap.objs.size + 1) s.heap.objs.size (I.hok.fresh (Nat.le_succ _)) (I.hok.fresh (Nat.le_refl _)) (Nat.ne_of_lt (Nat.lt_succ_self _))
  have I2 := Inv.made (C := C) I
  have r2 : Vals (V.ref (s.heap.objs.size + 1) :: vs) (Value.ref (s.heap.objs.size + 1) :: us) := .cons rfl r
  have hl : (Value.ref (s.heap.objs.size + 1) :: us).length = ps.length := by
    rw [← r2.length]
    exact F.len _ _ _ _ hq
  have b := hb _ (Value.ref (s.heap.objs.size + 1) :: us) I2.kIn (by rw [List.append_nil]; exact hl)
  rw [List.append_nil] at b
  refine wpAny_call (make_map (f := f) I.kIn M.makes M.init (beq_iff_eq.mp M.fn) (codeAny_mono (F.run _ X.stack _ _ ⟨Value.ref (s.heap.objs.size + 1) :: us, []⟩ (Value.ref (s.heap.objs.size + 1) :: us) _ _ Ex (hr.make C us [])
    (I2.env0.make C us []) b r2 hq) fun r s' hq' => ?_))
  cases r with
  | error e => exact hx pins _ _ e s' I2 hq'
  | ok fl =>
    cases fl with
    | ret u =>
      obtain ⟨v, H', I3, rv, ev, q3⟩ := I2.after hq'
      subst ev
      exact ⟨rv, ⟨V.ref (s.heap.objs.size + 1), H', I3, rfl, q3⟩⟩
    | next => exact False.elim hq'
    | brk => exact False.elim hq'
    | cont => exact False.elim hq'
theorem upd_comm {H : Hp} {a b : Addr} {o u : HO} (h : a ≠ b) : upd (upd H a o) b u = upd (upd H b u) a o := by
  funext x
  by_cases e1 : x = b
  · subst e1; rw [upd_same, upd_ne (Ne.symm h), upd_same]
  · by_cases e2 : x = a
    · subst e2; rw [upd_ne e1, upd_same, upd_same]
    · rw [upd_ne e1, upd_ne e2, upd_ne e2, upd_ne e1]
theorem new_of {σ : L2.St} {ρ : List Addr} {H : Hp} {h1 : AH} {C : Str} {Q : VK} {vs : List V} {l : List D} (rh : RH (ew X cls) ρ H h1) (rl : RepL (ew X cls) ρ H l vs) (hc : C ∈ cls.own)
    (a : Af (ew X cls) W ρ H σ ((cf.call C "__init__" (.ref h1.length :: l) (h1 ++ [.ins C []])).bind fun v h2 => match v with | .non => .ok (.ref h1.length) h2 | _ => .bad) fun ρ' d _ H' => ∀ v, Rep (ew X cls) ρ' H' d v → Q v H')
    (x dx : Addr) (hx : H x = none) (hdx : H dx = none) (hne : dx ≠ x) : spD (ew X cls) (cf.call C "__init__") (.ref x :: vs) (upd (upd H dx (.own x)) x (.ins (cls.at_ C) dx [])) (fun v H2 => v = .non ∧ Q (.ref x) H2) (WE W σ) := by
  have g1 : Gr (ew X cls) ρ H ρ (upd H dx (.own x)) := Gr.lay hdx
  have r1 : RH (ew X cls) ρ (upd H dx (.own x)) h1 := rh.side hdx
  have hx1 : upd H dx (.own x) x = none := by rw [upd_ne (Ne.symm hne)]; exact hx
  have r2 : RH (ew X cls) (ρ ++ [x]) (upd (upd H dx (.own x)) x (.ins (cls.at_ C) dx [])) (h1 ++ [.ins C []]) := r1.new hx1 ⟨hc, dx, [], by rw [upd_same], rfl⟩
  have g2 : Gr (ew X cls) ρ H (ρ ++ [x]) (upd (upd H dx (.own x)) x (.ins (cls.at_ C) dx [])) := (g1.trans (Gr.lay hx1)).trans Gr.push
  have rx : ∀ {ρ' : List Addr} {H' : Hp}, Gr (ew X cls) (ρ ++ [x]) (upd (upd H dx (.own x)) x (.ins (cls.at_ C) dx [])) ρ' H' → Rep (ew X cls) ρ' H' (.ref h1.length) (.ref x) := fun {ρ' H'} g => by
    simp only [Rep]
    exact ⟨x, rfl, g.pl _ _ (by rw [← rh.len, List.getElem?_append_right (Nat.le_refl _), Nat.sub_self]; rfl)⟩
  have a2 := Af.bind (Af.up a g2)
  refine ⟨ρ ++ [x], .ref h1.length :: l, h1 ++ [.ins C []], r2, .cons (rx .refl) (RepL.mono g2 l vs rl), ?_⟩
  cases q : cf.call C "__init__" (.ref h1.length :: l) (h1 ++ [.ins C []]) with
  | bad => rw [q] at a2; exact a2.elim
  | exc c h' => rw [q] at a2; exact fun ρ' H' g r => a2 ρ' H' g r
  | ok d h' =>
    rw [q] at a2
    intro ρ' H' v g r rv
    have a3 := a2 ρ' H' g r
    dsimp only at a3
    split at a3
    · exact ⟨rv.nonOf, a3 ρ' H' .refl r _ (rx g)⟩
    · exact a3.elim
theorem e_new (ck : Ck X cls W k cf n) (i : Nat) {C : Str} (ha : EXs X cls W cf (e :: es) ces) (hf : n.cs[i]? = some C := by rfl) (hg : Gl X C := by rfl)
    (hdb : (C == ("__debug__" : Str)) = false := by decide) (he : starEach (e :: es) X.env = (false, eval e X.env) :: starEach es X.env := by rfl) (hpl : (backTo pos (starEach es X.env)).any (·.1) = false := by rfl) :
    EX X cls W cf (.Call (.Name C p) (e :: es) [] pos) (.new C ces) := by
  obtain ⟨ho, mk⟩ := ck.pk.mak C (List.mem_of_getElem? hf)
  obtain ⟨a, fd, ps, F, M, hm, b⟩ := mk.ex
  refine ⟨fun pins s σ H Q I h => ?_⟩
  obtain ⟨ρ, env, h0, rs, af⟩ := h
  simp only [ev] at af
  refine wpAny_Call_Name_kw (ld_glob I hg hm ?_ hdb)
  refine PySem.W.callWith_K (h₀ := X.base) I.ok.mod.kin M.kp (thn (ha.run pos pins s σ H _ I (TAof.use rs (Af.bind af) fun vs ρ1 ds h1 H1 kn rl af1 => new_of kn.s.h rl ho af1)) fun us s1 ⟨vs, H1, I1, r, q⟩ => ⟨I1.kIn, ?_⟩) he hpl
  exact run_makeS M F ck.room b (passAt ck.tk σ) I1 r q
theorem e_new0 (ck : Ck X cls W k cf n) (i : Nat) {C : Str} (hf : n.cs[i]? = some C := by rfl) (hg : Gl X C := by rfl)
    (hdb : (C == ("__debug__" : Str)) = false := by decide) : EX X cls W cf (.Call (.Name C p) [] [] pos) (.new C []) := by
  obtain ⟨ho, mk⟩ := ck.pk.mak C (List.mem_of_getElem? hf)
  obtain ⟨a, fd, ps, F, M, hm, b⟩ := mk.ex
  refine ⟨fun pins s σ H Q I h => ?_⟩
  obtain ⟨ρ, env, h0, rs, af⟩ := h
  simp only [ev, evs, R.bind_ok] at af
  refine wpAny_Call_Name_kw (ld_glob I hg hm ?_ hdb)
  exact PySem.W.callWith_K0 I.kIn M.kp (run_makeS (us := []) M F ck.room b (passAt ck.tk σ) I .nil (new_of rs.h .nil ho af))

/-! attributes -/
theorem RepF.look {E : Ew} {ρ : List Addr} {H : Hp} {f : Str} {d : D} : ∀ {fs : List (Str × D)} {gs : List (Str × V)}, RepF E ρ H fs gs → fs.lookup f = some d → ∃ v, gs.lookup f = some v ∧ Rep E ρ H d v
  | [], _, _, e => by simp at e
  | (g, d0) :: r, _, ⟨v, t, e, r1, q⟩, z => by
    subst e
    simp only [List.lookup_cons] at z ⊢
    cases b : f == g with
    | true => rw [b] at z; cases z; exact ⟨v, rfl, r1⟩
    | false => rw [b] at z; exact RepF.look q z
theorem RepF.looks {E : Ew} {ρ : List Addr} {H : Hp} {f : Str} : ∀ {fs : List (Str × D)} {gs : List (Str × V)}, RepF E ρ H fs gs → (fs.lookup f).isNone = true → gs.lookup f = none
  | [], _, h, _ => by subst h; rfl
  | (g, d0) :: r, _, ⟨v, t, e, r1, q⟩, z => by
    subst e
    simp only [List.lookup_cons] at z ⊢
    cases b : f == g with
    | true => rw [b] at z; cases z
    | false => rw [b] at z; exact RepF.looks q z
theorem RepF.length {E : Ew} {ρ : List Addr} {H : Hp} : ∀ {fs : List (Str × D)} {gs : List (Str × V)}, RepF E ρ H fs gs → fs.length = gs.length
  | [], _, h => by subst h; rfl
  | _ :: _, _, ⟨v, t, e, r1, q⟩ => by subst e; simp [RepF.length q]
theorem RepF.put {E : Ew} {ρ : List Addr} {H : Hp} {f : Str} {d : D} {v : V} (rv : Rep E ρ H d v) : ∀ {fs : List (Str × D)} {gs : List (Str × V)}, RepF E ρ H fs gs → RepF E ρ H (putF f d fs) (L2.putF f v gs)
  | [], _, h => by subst h; exact ⟨v, [], rfl, rv, rfl⟩
  | (g, d0) :: r, _, ⟨w, t, e, r1, q⟩ => by
    subst e
    unfold putF L2.putF
    by_cases z : f = g
    · subst z
      rw [if_pos rfl, if_pos rfl]
      exact ⟨v, t, rfl, rv, q⟩
    · rw [if_neg z, if_neg (Ne.symm z)]
      exact ⟨w, _, rfl, r1, RepF.put rv q⟩
theorem RH.inst {E : Ew} {ρ : List Addr} {H : Hp} {h : AH} (r : RH E ρ H h) {l : Nat} {v : V} {C : Str} {fs : List (Str × D)} (rv : Rep E ρ H (.ref l) v) (e : h[l]? = some (.ins C fs)) : ∃ a dx gs, v = .ref a ∧ ρ[l]? = some a ∧ C ∈ E.own ∧ H a = some (.ins (E.cls C) dx gs) ∧ RepF E ρ H fs gs := by
  simp only [Rep] at rv
  obtain ⟨a, rfl, ha⟩ := rv
  obtain ⟨m, dx, gs, q, rf⟩ := r.ob l a _ ha e
  exact ⟨a, dx, gs, rfl, ha, m, q, rf⟩
theorem e_attr (ck : Ck X cls W k cf n) (i : Nat) {f : Str} (h1 : EX X cls W cf e c) (hf : n.fl[i]? = some f := by rfl) (hb : attributeBase e f X.env (eval e X.env) = eval e X.env := by rfl) : EX X cls W cf (.Attribute e f pos) (.attr c f) := by
  refine PE.imp (pe_fld h1 hb) fun σ H Q h => ?_
  obtain ⟨ρ, env, h0, rs, af⟩ := h
  simp only [ev] at af
  refine TEof.use rs (Af.bind af) fun v ρ1 d h1 H1 kn rv af1 => ?_
  unfold getF at af1
  split at af1
  · rename_i l
    split at af1
    · rename_i C fs q
      split at af1
      · rename_i z hz
        obtain ⟨a, dx, gs, rfl, ha, m, hi, rf⟩ := kn.s.h.inst rv q
        obtain ⟨u, hu, ru⟩ := rf.look hz
        exact ⟨a, cls.at_ C, dx, gs, u, rfl, hi, ck.pk.cl C m, ck.pk.na C m f (List.mem_of_getElem? hf), hu, af1 ρ1 H1 .refl kn.s.h u ru⟩
      · exact af1.elim
    · exact af1.elim
  · exact af1.elim
theorem e_meth (ck : Ck X cls W k cf n) {m : Str} (ho : EX X cls W cf o co) (ha : EXs X cls W cf (e :: es) ces)
    (hst : starEach (e :: es) X.env = (false, eval e X.env) :: starEach es X.env := by rfl) (hpl : (backTo pos (starEach es X.env)).any (·.1) = false := by rfl) {pl : Sem Bool}
    (ht : eval (.Call (.Attribute o m apos) (e :: es) [] pos) X.env = (do
      let ov ← eval o X.env
      standAt apos.atName
      let (f, first) ← holding [ov] (getMethod ov m pl)
      callWith pos f first (backTo pos (starEach (e :: es) X.env)) (backToKw pos (keywordEach [] X.env))) := by rfl) :
    EX X cls W cf (.Call (.Attribute o m apos) (e :: es) [] pos) (.meth co m ces) := by
  refine ⟨fun pins s σ H Q I h => ?_⟩
  obtain ⟨ρ, env, h0, rs, af⟩ := h
  simp only [ev] at af
  refine PySem.W.methodCall_KW (pl := pl) (thn (ho.run pins s σ H (fun v H1 => ∃ ρ1 d h1, Kn (ew X cls) W ρ H σ env ρ1 H1 h1 ∧ Rep (ew X cls) ρ1 H1 d v ∧ Af (ew X cls) W ρ1 H1 σ _ _) I (TEof.use rs (Af.bind af) fun v ρ1 d h1 H1 kn rv af1 => ⟨ρ1, d, h1, kn, rv, af1⟩)) fun u s1 ⟨x, H1, I1, rx, ρ1, d, h1, kn, rv, af1⟩ => ?_) ht
  split at af1
  · rename_i l
    split at af1
    · rename_i C fl q
      split at af1
      · rename_i hc
        rw [Bool.and_eq_true] at hc
        obtain ⟨a, dx, gs, rfl, ha2, mo, hi, rf⟩ := kn.s.h.inst rv q
        obtain ⟨b, fd, ps, F, cl, hm, bi⟩ := (ck.pk.mt C mo m hc.2).ex
        obtain rfl : u = Value.ref a := rx
        refine getmeth_ok I1 hi cl hm (rf.looks hc.1) ?_
        refine PySem.W.callWith_K (first := [.ref a]) (h₀ := X.base) I.ok.mod.kin hm.kp (thn (ha.run pos pins s1 σ H1 _ I1 (TAof.use kn.s (Af.bind af1) fun vs ρ2 ds h2 H2 kn2 rl af2 =>
          spD_of (h2 := h2) kn2.s.h (.cons (rv.mono kn2.g) rl) af2)) fun us s2 ⟨vs, H2, I2, r, q2⟩ => ⟨I2.kIn, ?_⟩) hst hpl
        exact run_fnS (us := .ref a :: us) (vs := .ref a :: vs) F (ck.room.mono (Nat.le_succ k)) bi (passAt ck.tk σ) I2 (.cons rfl r) q2
      · exact af1.elim
    · exact af1.elim
  · exact af1.elim
theorem e_meth0 (ck : Ck X cls W k cf n) {m : Str} (ho : EX X cls W cf o co) {pl : Sem Bool}
    (ht : eval (.Call (.Attribute o m apos) [] [] pos) X.env = (do
      let ov ← eval o X.env
      standAt apos.atName
      let (f, first) ← holding [ov] (getMethod ov m pl)
      callWith pos f first (backTo pos (starEach [] X.env)) (backToKw pos (keywordEach [] X.env))) := by rfl) :
    EX X cls W cf (.Call (.Attribute o m apos) [] [] pos) (.meth co m []) := by
  refine ⟨fun pins s σ H Q I h => ?_⟩
  obtain ⟨ρ, env, h0, rs, af⟩ := h
  simp only [ev, evs, R.bind_ok] at af
  refine PySem.W.methodCall_KW (pl := pl) (thn (ho.run pins s σ H (fun v H1 => ∃ ρ1 d h1, Kn (ew X cls) W ρ H σ env ρ1 H1 h1 ∧ Rep (ew X cls) ρ1 H1 d v ∧ Af (ew X cls) W ρ1 H1 σ _ _) I (TEof.use rs (Af.bind af) fun v ρ1 d h1 H1 kn rv af1 => ⟨ρ1, d, h1, kn, rv, af1⟩)) fun u s1 ⟨x, H1, I1, rx, ρ1, d, h1, kn, rv, af1⟩ => ?_) ht
  split at af1
  · rename_i l
    split at af1
    · rename_i C fl q
      split at af1
      · rename_i hc
        rw [Bool.and_eq_true] at hc
        obtain ⟨a, dx, gs, rfl, ha2, mo, hi, rf⟩ := kn.s.h.inst rv q
        obtain ⟨b, fd, ps, F, cl, hm, bi⟩ := (ck.pk.mt C mo m hc.2).ex
        obtain rfl : u = Value.ref a := rx
        refine getmeth_ok I1 hi cl hm (rf.looks hc.1) ?_
        exact PySem.W.callWith_K0 (first := [.ref a]) I1.kIn hm.kp (run_fnS (us := [.ref a]) (vs := [.ref a]) F (ck.room.mono (Nat.le_succ k)) bi (passAt ck.tk σ) I1 (.cons rfl .nil) (spD_of (h2 := h1) kn.s.h (.cons rv .nil) af1))
      · exact af1.elim
    · exact af1.elim
  · exact af1.elim

/-! methods of built-in types -/
theorem ty_dct {E : Ew} {ρ : List Addr} {H : Hp} {a : Addr} {kv : List (D × D)} {u : HO} {P : Program} {w : World} {h : Heap} (hu : RDct E ρ H (some u) a kv) (ok : ObjOk P w H h a u) (hP : E.P = P) (hw : E.w = w) : ∃ ob, h.get? a = some ob ∧ ob.ExactDict := by
  obtain ⟨_, _, _, ⟨ks, e, _⟩ | ⟨xs, e, _⟩⟩ := hu
  · cases e
    obtain ⟨_, _, vs, _, ob, _, _, e, ex, _⟩ := ok
    exact ⟨ob, e, ex⟩
  · cases e
    obtain ⟨⟨ob, es, ep, e, ex, _⟩, _⟩ := ok
    exact ⟨ob, e, ex⟩
theorem ty_lst {pins : List (Addr × Obj)} {s : Shared} {σ : L2.St} {H : Hp} {a : Addr} {xs : List V} (I : Inv X pins σ H s) (e : H a = some (.lst xs)) : s.TypeIs (.ref a) "list" ∧ ∀ b, Value.ref a = .ref b → ∃ ob, s.heap.get? b = some ob ∧ ob.dict = none :=
  tyV_is (T := "list") (x := .ref a) I rfl (.inl ⟨rfl, xs, .of e⟩)
theorem ty_dc {pins : List (Addr × Obj)} {s : Shared} {σ : L2.St} {H : Hp} {a : Addr} (I : Inv X pins σ H s) (e : ∃ ob, s.heap.get? a = some ob ∧ ob.ExactDict) : s.TypeIs (.ref a) "dict" ∧ ∀ b, Value.ref a = .ref b → ∃ ob, s.heap.get? b = some ob ∧ ob.dict = none := by
  obtain ⟨ob, h1, ex⟩ := e
  exact ⟨⟨ob, h1, ex.1⟩, fun b q => by cases q; exact ⟨ob, h1, ex.2.1⟩⟩
theorem bm_lst {pins : List (Addr × Obj)} {s : Shared} {σ : L2.St} {H : Hp} {ρ : List Addr} {h : AH} {d : D} {x : V} {v : Value} (I : Inv X pins σ H s) (rh : RH (ew X cls) ρ H h) (rx : RelV x v) (rv : Rep (ew X cls) ρ H d x)
    (ok : isLs d h = true) : s.TypeIs v "list" ∧ ∀ a, v = .ref a → ∃ ob, s.heap.get? a = some ob ∧ ob.dict = none := by
  unfold isLs at ok
  split at ok
  · split at ok
    · rename_i q
      obtain ⟨a, xs, rfl, _, e, _⟩ := rh.lst rv q
      obtain rfl : v = Value.ref a := rx
      exact ty_lst I e
    · cases ok
  · cases ok
theorem bm_dct {pins : List (Addr × Obj)} {s : Shared} {σ : L2.St} {H : Hp} {ρ : List Addr} {h : AH} {d : D} {x : V} {v : Value} (I : Inv X pins σ H s) (rh : RH (ew X cls) ρ H h) (rx : RelV x v) (rv : Rep (ew X cls) ρ H d x)
    (ok : isDc d h = true) : s.TypeIs v "dict" ∧ ∀ a, v = .ref a → ∃ ob, s.heap.get? a = some ob ∧ ob.dict = none := by
  unfold isDc at ok
  split at ok
  · rename_i l
    simp only [Rep] at rv
    obtain ⟨a, rfl, ha⟩ := rv
    obtain rfl : v = Value.ref a := rx
    split at ok
    · rename_i kv q
      have z : RDct (ew X cls) ρ H (H a) a kv := rh.ob l a _ ha q
      cases e : H a with
      | none => rw [e] at z; obtain ⟨_, _, _, ⟨ks, z, _⟩ | ⟨xs, z, _⟩⟩ := z <;> cases z
      | some u => rw [e] at z; exact ty_dc I (ty_dct z (I.hok a u e) rfl rfl)
    · rename_i kv q
      obtain ⟨ob, u, e, z⟩ := rh.ob l a _ ha q
      exact ty_dc I (ty_dct z (I.hok a _ e).2 rfl rfl)
    · cases ok
  · cases ok
theorem bm_str {pins : List (Addr × Obj)} {s : Shared} {σ : L2.St} {H : Hp} {ρ : List Addr} {h : AH} {d : D} {x : V} {v : Value} (I : Inv X pins σ H s) (rx : RelV x v) (rv : Rep (ew X cls) ρ H d x)
    (ok : isSt d = true) : s.TypeIs v "str" ∧ ∀ a, v = .ref a → ∃ ob, s.heap.get? a = some ob ∧ ob.dict = none := by
  unfold isSt at ok
  split at ok
  · obtain rfl := rv.strOf
    exact tyV_is (T := "str") I rx rfl
  · cases ok
theorem bm_ty {m : M} {pins : List (Addr × Obj)} {s : Shared} {σ : L2.St} {H : Hp} {ρ : List Addr} {h : AH} {d : D} {x : V} {v : Value} (I : Inv X pins σ H s) (rh : RH (ew X cls) ρ H h) (rx : RelV x v) (rv : Rep (ew X cls) ρ H d x) (ok : bmOk m d h = true) :
    s.TypeIs v (mTy m) ∧ ∀ a, v = .ref a → ∃ ob, s.heap.get? a = some ob ∧ ob.dict = none := by
  cases m
  case append => exact bm_lst I rh rx rv ok
  case pop => exact bm_lst I rh rx rv ok
  case extend => exact bm_lst I rh rx rv ok
  case index => exact bm_lst I rh rx rv ok
  case get => exact bm_dct I rh rx rv ok
  case setdefault => exact bm_dct I rh rx rv ok
  case join => exact bm_str (h := h) I rx rv ok
  case split => exact bm_str (h := h) I rx rv ok
  case count => exact bm_str (h := h) I rx rv ok
def mNm : M → Str
  | .append => "append"
  | .pop => "pop"
  | .extend => "extend"
  | .index => "index"
  | .get => "get"
  | .setdefault => "setdefault"
  | .join => "join"
  | .split => "split"
  | .count => "count"
theorem bm_pa (m : M) : PlainAttrs (mTy m) := by
  cases m <;> first | exact PySem.F.plainAttrs_list | exact PySem.F.plainAttrs_dict | exact PySem.F.plainAttrs_str
theorem bm_slot (m : M) : Slot (mTy m) (mNm m) (mId m) := by
  cases m
  · exact PySem.F.slot_list_append
  · exact PySem.F.slot_list_pop
  · exact PySem.F.slot_list_extend
  · exact PySem.F.slot_list_index
  · exact PySem.F.slot_dict_get
  · exact PySem.F.slot_dict_setdefault
  · exact PySem.F.slot_str_join
  · exact PySem.F.slot_str_split
  · exact PySem.F.slot_str_count
theorem bm_type (m : M) : typeOf (.builtin (mId m)) = pure (.type "method_descriptor") := by
  cases m
  · exact PySem.F.type_list_append
  · exact PySem.F.type_list_pop
  · exact PySem.F.type_list_extend
  · exact PySem.F.type_list_index
  · exact PySem.F.type_dict_get
  · exact PySem.F.type_dict_setdefault
  · exact PySem.F.type_str_join
  · exact PySem.F.type_str_split
  · exact PySem.F.type_str_count
theorem mth_ne (m : M) (d : D) (l : List D) (h : AH) (c : Str) (h' : AH) : mth m d l h ≠ .exc c h' := by
  intro q
  unfold mth at q
  (repeat' split at q) <;> cases q
theorem rM_of {ρ : List Addr} {H : Hp} {h : AH} {σ : L2.St} {m : M} {d : D} {l : List D} {x : V} {vs : List V} {Q : VK} (r : RH (ew X cls) ρ H h) (rd : Rep (ew X cls) ρ H d x) (rl : RepL (ew X cls) ρ H l vs)
    (a : Af (ew X cls) W ρ H σ (mth m d l h) fun ρ' z _ H' => ∀ v, Rep (ew X cls) ρ' H' z v → Q v H') : rM (ew X cls) m x vs H Q := by
  cases q : mth m d l h with
  | ok z h' => rw [q] at a; exact ⟨ρ, d, l, h, z, h', r, rd, rl, q, fun ρ' H' v g1 r1 rv => a ρ' H' g1 r1 v rv⟩
  | exc c h' => exact absurd q (mth_ne _ _ _ _ _ _)
  | bad => rw [q] at a; exact a.elim
theorem e_bm (ck : Ck X cls W k cf n) (m : M) {x : Str} (ho : EX X cls W cf o co) (ha : EXs X cls W cf (e :: es) ces) (hx : x = mNm m := by rfl)
    (hbase : attributeBase o x X.env (eval o X.env) = eval o X.env := by rfl)
    (hfew : ((backTo pos (starEach (e :: es) X.env)).all (fun x => !x.1) && (backToKw pos (keywordEach [] X.env)).all (fun x => x.1.isSome)
      && decide ((e :: es).length + ([] : List Keyword).length + (if ([] : List Keyword).isEmpty then 0 else 1) < 30)) = true := by rfl)
    (hline : (apos.endLine == pos.line) = true := by rfl) (hs : starEach (e :: es) X.env = (false, eval e X.env) :: starEach es X.env := by rfl) (hplain : (backTo pos (starEach es X.env)).any (·.1) = false := by rfl) :
    EX X cls W cf (.Call (.Attribute o x apos) (e :: es) [] pos) (.bm co m ces) := by
  refine ⟨fun pins s σ H Q I h => ?_⟩
  obtain ⟨ρ, env, h0, rs, af⟩ := h
  simp only [ev] at af
  refine wpAny_Call_method_late hbase hfew hline rfl (thn (ho.run pins s σ H (fun v H1 => ∃ ρ1 d h1, Kn (ew X cls) W ρ H σ env ρ1 H1 h1 ∧ Rep (ew X cls) ρ1 H1 d v ∧ Af (ew X cls) W ρ1 H1 σ _ _) I (TEof.use rs (Af.bind af) fun v ρ1 d h1 H1 kn rv af1 => ⟨ρ1, d, h1, kn, rv, af1⟩)) fun v s1 ⟨y, H1, I1, r1, ρ1, d, h1, kn, rv, af1⟩ => ?_)
  split at af1
  · rename_i hok
    obtain ⟨h1', h2'⟩ := bm_ty I1 kn.s.h r1 rv hok
    refine ⟨mTy m, mId m, bm_pa m, by rw [hx]; exact bm_slot m, bm_type m, h1', h2', ?_⟩
    have hA := ha.run pos pins s1 σ H1 _ I1 (TAof.use (Q := fun vs H2 => rM (ew X cls) m y vs H2 Q) kn.s (Af.bind af1) fun vs ρ2 ds h2 H2 kn2 rl af2 => rM_of kn2.s.h (rv.mono kn2.g) rl af2)
    rw [hs] at hA ⊢
    refine Calls.callWith_builtin (by show (false || (backTo pos (starEach es X.env)).any (·.1)) = false; rw [hplain] <;> rfl) (Calls.evalArgs_plain ?_)
    exact thn hA fun us s2 ⟨vs, H2, I2, r2, q2⟩ => m_D ck.un m pins s2 σ H2 y vs v us Q I2 r1 r2 q2
  · exact af1.elim
theorem e_bm0 (ck : Ck X cls W k cf n) (m : M) {x : Str} (ho : EX X cls W cf o co) (hx : x = mNm m := by rfl)
    (hbase : attributeBase o x X.env (eval o X.env) = eval o X.env := by rfl) (hline : (apos.endLine == pos.line) = true := by rfl) :
    EX X cls W cf (.Call (.Attribute o x apos) [] [] pos) (.bm co m []) := by
  refine ⟨fun pins s σ H Q I h => ?_⟩
  obtain ⟨ρ, env, h0, rs, af⟩ := h
  simp only [ev, evs, R.bind_ok] at af
  refine wpAny_Call_method0_late hbase hline (thn (ho.run pins s σ H (fun v H1 => ∃ ρ1 d h1, Kn (ew X cls) W ρ H σ env ρ1 H1 h1 ∧ Rep (ew X cls) ρ1 H1 d v ∧ Af (ew X cls) W ρ1 H1 σ _ _) I (TEof.use rs (Af.bind af) fun v ρ1 d h1 H1 kn rv af1 => ⟨ρ1, d, h1, kn, rv, af1⟩)) fun v s1 ⟨y, H1, I1, r1, ρ1, d, h1, kn, rv, af1⟩ => ?_)
  split at af1
  · rename_i hok
    obtain ⟨h1', h2'⟩ := bm_ty I1 kn.s.h r1 rv hok
    refine ⟨mTy m, mId m, bm_pa m, by rw [hx]; exact bm_slot m, bm_type m, h1', h2', ?_⟩
    exact Calls.callWith_builtin rfl (PySem.evalArgs_none (m_D ck.un m pins s1 σ H1 y [] v [] Q I1 r1 .nil (rM_of kn.s.h rv .nil af1)))
  · exact af1.elim

/-! built-ins by name -/
theorem biD_ne (b : BI) (d : List (D × D)) (h : AH) (c : Str) (h' : AH) : biD b d h ≠ .exc c h' := by
  intro q
  unfold biD at q
  (repeat' split at q) <;> cases q
theorem biL_ne (b : BI) (d : List D) (h : AH) (c : Str) (h' : AH) : biL b d h ≠ .exc c h' := by
  intro q
  unfold biL at q
  (repeat' split at q) <;> cases q
theorem bi_ne (b : BI) (l : List D) (h : AH) (c : Str) (h' : AH) : bi b l h ≠ .exc c h' := by
  intro q
  unfold bi at q
  split at q
  · split at q
    · unfold reprB at q
      (repeat' split at q) <;> cases q
    · unfold bi1 at q
      split at q
      · split at q
        · exact biL_ne _ _ _ _ _ q
        · cases q
      · exact biL_ne _ _ _ _ _ q
      · split at q
        · exact biL_ne _ _ _ _ _ q
        · exact biD_ne _ _ _ _ _ q
        · cases q
      all_goals ((repeat' split at q) <;> cases q)
  · (repeat' split at q) <;> cases q
  · cases q
theorem rC_of {ρ : List Addr} {H : Hp} {h : AH} {σ : L2.St} {b : BI} {l : List D} {vs : List V} {Q : VK} (r : RH (ew X cls) ρ H h) (rl : RepL (ew X cls) ρ H l vs)
    (a : Af (ew X cls) W ρ H σ (bi b l h) fun ρ' z _ H' => ∀ v, Rep (ew X cls) ρ' H' z v → Q v H') : rC (ew X cls) (bi b) vs H Q := by
  cases q : bi b l h with
  | ok z h' => rw [q] at a; exact ⟨ρ, l, h, z, h', r, rl, q, fun ρ' H' v g1 r1 rv => a ρ' H' g1 r1 v rv⟩
  | exc c h' => exact absurd q (bi_ne _ _ _ _ _)
  | bad => rw [q] at a; exact a.elim
theorem tB_of {b : BI} {Q : VK} {σ : L2.St} {H : Hp} (h : TEof (ew X cls) W (ev cf (.bi b ces)) σ H Q) : tCB (rC (ew X cls) (bi b)) (TAof (ew X cls) W (evs cf ces)) σ H Q := by
  obtain ⟨ρ, env, h0, rs, af⟩ := h
  simp only [ev] at af
  refine TAof.use rs (Af.bind af) fun vs ρ1 ds h1 H1 kn rl af1 => ?_
  exact rC_of kn.s.h rl af1
/-- a built-in def by its name -/
theorem e_bf (ck : Ck X cls W k cf n) (b : BI) {x : Str} {id : String} (ha : EXs X cls W cf (e :: es) ces) (hm : X.mg x = none) (hb : b ≠ .repr := by intro h; cases h) (hid : biV b = .builtin id := by rfl) (hv : bootBuiltins x = some (.builtin id) := by rfl) (hg : Gl X x := by rfl)
    (hn : x ≠ "__name__" := by decide) (hdb : (x == ("__debug__" : Str)) = false := by decide) (he : starEach (e :: es) X.env = (false, eval e X.env) :: starEach es X.env := by rfl) (hpl : (backTo pos (starEach es X.env)).any (·.1) = false := by rfl) :
    EX X cls W cf (.Call (.Name x p) (e :: es) [] pos) (.bi b ces) :=
  PE.imp (pe_callB (by rw [← hid]; exact c_bi b (fun _ => ck.calm) ck.un hb) hg hm hv ha hn hdb he hpl) fun _ _ _ h => tB_of h
theorem e_bt (ck : Ck X cls W k cf n) (b : BI) {x : Str} {T : String} (ha : EXs X cls W cf (e :: es) ces) (hm : X.mg x = none) (hb : b ≠ .repr := by intro h; cases h) (hid : biV b = .type T := by rfl) (hv : bootBuiltins x = some (.type T) := by rfl) (hg : Gl X x := by rfl)
    (hn : x ≠ "__name__" := by decide) (hdb : (x == ("__debug__" : Str)) = false := by decide) (he : starEach (e :: es) X.env = (false, eval e X.env) :: starEach es X.env := by rfl) (hpl : (backTo pos (starEach es X.env)).any (·.1) = false := by rfl) :
    EX X cls W cf (.Call (.Name x p) (e :: es) [] pos) (.bi b ces) :=
  PE.imp (pe_callTy (by rw [← hid]; exact c_bi b (fun _ => ck.calm) ck.un hb) hg hm hv ha hn hdb he hpl) fun _ _ _ h => tB_of h
theorem e_len (hu : X.A.units + 64 < cLine) {x : Str} (ha : EXs X cls W cf (e :: es) ces) (hm : X.mg x = none) (hv : bootBuiltins x = some (.builtin "len") := by rfl) (hg : Gl X x := by rfl)
    (hn : x ≠ "__name__" := by decide) (hdb : (x == ("__debug__" : Str)) = false := by decide) (he : starEach (e :: es) X.env = (false, eval e X.env) :: starEach es X.env := by rfl) (hpl : (backTo pos (starEach es X.env)).any (·.1) = false := by rfl) :
    EX X cls W cf (.Call (.Name x p) (e :: es) [] pos) (.bi .len ces) :=
  PE.imp (pe_callB (c_bi .len (fun h => absurd rfl h) hu nofun) hg hm hv ha hn hdb he hpl) fun _ _ _ h => tB_of h
theorem pe_dnewS : PE X (.Dict [] [] pos) (fun _ H Q => ∀ q, H q = none → (q == sysModules) = false → Q (.ref q) (upd H q (.dK []))) :=
  ⟨fun pins s σ H Q I h => wpAny_Dict_empty ⟨.ref s.heap.objs.size, _, I.laid (o := .dK []) (t' := s.toks) (fun _ _ z => Heap.get?_push_of_some _ z) (Nat.le_refl _) (dk_empty s.heap I.big), rfl, h _ (I.hok.fresh (Nat.le_refl _)) (beq_eq_false_iff_ne.mpr (Ne.symm (Nat.ne_of_lt I.big)))⟩⟩
theorem e_dnew : EX X cls W cf (.Dict [] [] pos) .dnew := by
  refine PE.imp pe_dnewS fun σ H Q h => ?_
  obtain ⟨ρ, env, h0, rs, af⟩ := h
  simp only [ev] at af
  intro q hq hs
  have new : RO (ew X cls) (ρ ++ [q]) (upd H q (.dK [])) q (.dct []) :=
    (⟨Nat.zero_le _, hs, List.nodup_nil, .inl ⟨[], by rw [upd_same], rfl⟩⟩ : RDct (ew X cls) (ρ ++ [q]) (upd H q (.dK [])) (upd H q (.dK []) q) q [])
  exact af _ _ ((Gr.lay hq).trans Gr.push) (rs.h.new hq new) _ (by simp only [Rep]; exact ⟨q, rfl, by rw [← rs.h.len, List.getElem?_append_right (Nat.le_refl _), Nat.sub_self]; rfl⟩)
end
end DL

/-! DL, part k: what a loop walks, targets, comprehensions. -/
namespace DL
open PySem PySem.Spec PyProof.Rows L2

/-- J walks s from here on -/
def ItOf (E : Ew) (ρ : List Addr) (H : Hp) (s : Src) (J : It) : Prop := ∀ (ρ' : List Addr) (H' : Hp) (h' : AH) (i : Nat), Gr E ρ H ρ' H' → RH E ρ' H' h' →
  (nxt s i h' = some none → J.stop i H') ∧ ∀ d, nxt s i h' = some (some d) → J.go i H' ∧ ∀ x H'', J.yld i H' x H'' → Gr E ρ' H' ρ' H'' ∧ RH E ρ' H'' h' ∧ (∀ b o, H' b = some o → H'' b = some o) ∧ Rep E ρ' H'' d x
def TIof (E : Ew) (W : WX) (f : AE → AH → R Src) : TI := fun σ H R => ∃ ρ env h, RS E ρ H σ env h ∧ Af E W ρ H σ (f env h) fun ρ' s _ H' => ∀ J, ItOf E ρ' H' s J → R J H'
theorem PI.imp {X : Cx} {tg e : Expr} {t t' : TI} (p : PI X tg e t) (h : ∀ σ H Q, t' σ H Q → t σ H Q) : PI X tg e t' := ⟨fun pins s σ H Q I q => p.run pins s σ H Q I (h σ H Q q)⟩
theorem PTs.imp {X : Cx} {e : List Expr} {t t' : TT} (p : PTs X e t) (h : ∀ σ H Q, t' σ H Q → t σ H Q) : PTs X e t' := ⟨fun pins s σ H Q I q => p.run pins s σ H Q I (h σ H Q q)⟩

section
variable {E : Ew} {ρ : List Addr} {H : Hp} {a : Addr}
theorem sqL_eq {K : PySem.W.Frag} {H : Hp} {a : Addr} {xs ys : List V} (e : H a = some (.lst xs)) (q : Rd H a (.lst ys)) : ys = xs := by
  rcases q with q | ⟨o, q⟩
  · rw [e] at q; cases q; rfl
  · rw [e] at q; cases q
theorem RepL.len_get {ds : List D} {xs : List V} (t : RepL E ρ H ds xs) {i : Nat} (e : ds[i]? = none) : xs.length ≤ i := by
  rw [List.getElem?_eq_none_iff] at e
  rw [← t.length]
  exact e
end
section
variable {X : Cx} {cls : Ka} {W : WX} {k : Nat} {cf : Cf} {n : Nm}
variable {e e1 e2 e3 o : Expr} {c c1 c2 c3 co : CE} {es : List Expr} {ces : List CE} {pos p apos : Pos} {tg : Expr} {ρ : List Addr} {H : Hp}

abbrev IX (X : Cx) (cls : Ka) (W : WX) (cf : Cf) (tg e : Expr) (c : CI) : Prop := PI X tg e (TIof (ew X cls) W (evi cf c))

theorem it_lst {a : Addr} {l : Nat} (ha : ρ[l]? = some a) : ItOf (ew X cls) ρ H (.at_ l false) (Itl X.K a) := by
  intro ρ' H' h' i g r
  cases e : h'[l]? with
  | none => simp only [nxt, e]; exact ⟨(fun q => nomatch q), (fun d q => nomatch q)⟩
  | some ob =>
    cases ob with
    | lst ds =>
      obtain ⟨xs, hx, t⟩ := r.ob l a _ (g.pl _ _ ha) e
      simp only [nxt, e]
      refine ⟨fun q => ⟨xs, .of hx, t.len_get (i := i) ?_⟩, fun d q => ?_⟩
      · cases z : ds[i]? with
        | none => rfl
        | some d => rw [z] at q; cases q
      · cases z : ds[i]? with
        | none => rw [z] at q; cases q
        | some d' =>
          rw [z] at q
          cases q
          obtain ⟨v, hv, rv⟩ := t.get z
          refine ⟨⟨xs, v, .of hx, hv⟩, fun x H'' ⟨y1, y2⟩ => ?_⟩
          subst y1
          have y3 := y2 xs (.of hx)
          rw [hv] at y3
          cases y3
          exact ⟨.refl, r, fun _ _ h => h, rv⟩
    | dct _ => simp only [nxt, e]; exact ⟨(fun q => nomatch q), (fun d q => nomatch q)⟩
    | rod _ => simp only [nxt, e]; exact ⟨(fun q => nomatch q), (fun d q => nomatch q)⟩
    | ins _ _ => simp only [nxt, e]; exact ⟨(fun q => nomatch q), (fun d q => nomatch q)⟩
theorem its_of {ds : List D} {J : It} (st : ∀ ρ' H' i, Gr (ew X cls) ρ H ρ' H' → ds[i]? = none → J.stop i H')
    (go : ∀ ρ' H' i d, Gr (ew X cls) ρ H ρ' H' → ds[i]? = some d → J.go i H' ∧ ∀ x H'', J.yld i H' x H'' → H'' = H' ∧ Rep (ew X cls) ρ' H' d x) : ItOf (ew X cls) ρ H (.its ds) J := by
  intro ρ' H' h' i g r
  unfold nxt
  refine ⟨fun q => st ρ' H' i g (by simpa using q), fun d q => ?_⟩
  obtain ⟨h1, h2⟩ := go ρ' H' i d g (by simpa using q)
  refine ⟨h1, fun x H'' y => ?_⟩
  obtain ⟨rfl, rv⟩ := h2 x H'' y
  exact ⟨.refl, r, fun _ _ h => h, rv⟩
theorem it_tup {a : Addr} {ds : List D} {xs : List V} (hx : Tq X.K H a xs) (t : RepL (ew X cls) ρ H ds xs) : ItOf (ew X cls) ρ H (.its ds) (Itt X.K a) := by
  refine its_of (fun ρ' H' i g e => ⟨xs, (g.tq hx).sq, t.len_get e⟩) fun ρ' H' i d g e => ?_
  obtain ⟨v, hv, rv⟩ := t.get e
  refine ⟨⟨xs, v, (g.tq hx).sq, hv⟩, fun x H'' ⟨y1, y2⟩ => ⟨y1, ?_⟩⟩
  have y3 := y2 xs (g.tq hx).sq
  rw [hv] at y3
  cases y3
  exact rv.mono g
theorem it_wl {a : Addr} {ds : List D} {xs : List V} (hx : Fz X.K H a xs) (t : RepL (ew X cls) ρ H ds xs) : ItOf (ew X cls) ρ H (.its ds) (Itl X.K a) := by
  refine its_of (fun ρ' H' i g e => ⟨xs, (g.fzL hx).sq, t.len_get e⟩) fun ρ' H' i d g e => ?_
  obtain ⟨v, hv, rv⟩ := t.get e
  refine ⟨⟨xs, v, (g.fzL hx).sq, hv⟩, fun x H'' ⟨y1, y2⟩ => ⟨y1, ?_⟩⟩
  have y3 := y2 xs (g.fzL hx).sq
  rw [hv] at y3
  cases y3
  exact rv.mono g
theorem rng_get (lo : Int) (m : Nat) (c : Int) (i : Nat) : (rng lo m c)[i]? = if i < m then some (.int (lo + (i : Nat) * c)) else none := by
  unfold rng
  rw [List.getElem?_map]
  by_cases h : i < m
  · rw [if_pos h, List.getElem?_range h]; rfl
  · rw [if_neg h, List.getElem?_eq_none (by simpa using h)]; rfl
theorem it_rng {lo : Int} {m : Nat} : ItOf (ew X cls) ρ H (.its (rng lo m 1)) (Itr lo m) := by
  refine its_of (fun ρ' H' i g e => ?_) fun ρ' H' i d g e => ?_
  · rw [rng_get] at e
    split at e
    · cases e
    · rename_i h; exact Nat.le_of_not_lt h
  · rw [rng_get] at e
    split at e
    · rename_i h
      cases e
      exact ⟨h, fun x H'' ⟨y1, y2⟩ => ⟨y1, by rw [y2, Int.mul_one]; exact Rep.int _⟩⟩
    · cases e
theorem it_rngC {lo c : Int} {m : Nat} : ItOf (ew X cls) ρ H (.its (rng lo m c)) (Itc lo c m) := by
  refine its_of (fun ρ' H' i g e => ?_) fun ρ' H' i d g e => ?_
  · rw [rng_get] at e
    split at e
    · cases e
    · rename_i h; exact Nat.le_of_not_lt h
  · rw [rng_get] at e
    split at e
    · rename_i h
      cases e
      exact ⟨h, fun x H'' ⟨y1, y2⟩ => ⟨y1, by rw [y2]; exact Rep.int _⟩⟩
    · cases e
theorem it_str {z : Str} : ItOf (ew X cls) ρ H (.its (z.cps.toList.map fun c => .str ⟨#[c]⟩)) (Its z) := by
  refine its_of (fun ρ' H' i g e => ?_) fun ρ' H' i d g e => ?_
  · rw [List.getElem?_eq_none_iff] at e
    show z.cps.size ≤ i
    simpa using e
  · rw [List.getElem?_map] at e
    cases q : z.cps.toList[i]? with
    | none => rw [q] at e; cases e
    | some c =>
      rw [q] at e
      cases e
      rw [Array.getElem?_toList] at q
      refine ⟨(Array.getElem?_eq_some_iff.mp q).1, fun x H'' ⟨y1, c', y2, y3⟩ => ⟨y1, ?_⟩⟩
      rw [q] at y2
      cases y2
      rw [y3]
      exact Rep.str _
/-- any sequence -/
theorem i_seq (he : EX X cls W cf e c) : IX X cls W cf tg e (.seq c) := by
  refine ⟨fun pins s σ H R I h => ?_⟩
  obtain ⟨ρ, env, h0, rs, af⟩ := h
  simp only [evi] at af
  refine thn (he.run pins s σ H (fun v H1 => ∃ ρ1 d h1, Kn (ew X cls) W ρ H σ env ρ1 H1 h1 ∧ Rep (ew X cls) ρ1 H1 d v ∧ Af (ew X cls) W ρ1 H1 σ _ _) I (TEof.use rs (Af.bind af) fun v ρ1 d h1 H1 kn rv af1 => ⟨ρ1, d, h1, kn, rv, af1⟩)) fun v s1 ⟨x, H1, I1, r1, ρ1, d, h1, kn, rv, af1⟩ => ?_
  unfold src at af1
  split at af1
  · rename_i l
    obtain ⟨a, xs, rfl, hq, t⟩ := rv.tupOf
    obtain rfl : v = Value.ref a := r1
    have hR := af1 ρ1 H1 .refl kn.s.h _ (it_tup hq t)
    obtain ⟨its, rv, p, hz⟩ := I1.tuple hq.sq
    refine wpAny_pyIter_tuple (show s1.heap.IsTuple a its.toArray from p) ?_
    refine ⟨s1.heap.objs.size, [s1.heap.objs.size], _, _, H1, rfl, I1.kept (t' := s1.toks) fun b o e => Heap.get?_push_of_some _ e, turn_tuple a _, ⟨_, Heap.get?_push_size _ rfl, rfl, rfl⟩, fun b hb => ?_, hR⟩
    obtain rfl : b = s1.heap.objs.size := by simpa using hb
    exact I1.fpOk (Nat.le_refl _) (I1.hok.fresh (Nat.le_refl _))
  · rename_i l
    obtain ⟨a, xs, rfl, hq, t⟩ := rv.wlOf
    obtain rfl : v = Value.ref a := r1
    have hR := af1 ρ1 H1 .refl kn.s.h _ (it_wl hq t)
    obtain ⟨its, rv, p, hz⟩ := I1.list hq.sq
    refine wpAny_pyIter_list p.isList ?_
    refine ⟨s1.heap.objs.size, [s1.heap.objs.size], _, _, H1, rfl, I1.kept (t' := s1.toks) fun b o e => Heap.get?_push_of_some _ e, turn_list a _, ⟨_, Heap.get?_push_size _ rfl, rfl, rfl⟩, fun b hb => ?_, hR⟩
    obtain rfl : b = s1.heap.objs.size := by simpa using hb
    exact I1.fpOk (Nat.le_refl _) (I1.hok.fresh (Nat.le_refl _))
  · rename_i x
    split at af1
    · obtain rfl := rv.strOf
      have hR := af1 ρ1 H1 .refl kn.s.h _ it_str
      obtain ⟨t, rfl⟩ := r1
      cases ha : x.cps.all (· < 128)
      · exact wpAny_pyIter_wide ha (pi_one (tk := s1.toks) I1 _ (turn_str _ x t "str_iterator" (.inr rfl)) ⟨_, Heap.get?_push_size _ rfl, rfl, rfl⟩ hR)
      · exact wpAny_pyIter_ascii ha (pi_one (tk := s1.toks) I1 _ (turn_str _ x t "str_ascii_iterator" (.inl rfl)) ⟨_, Heap.get?_push_size _ rfl, rfl, rfl⟩ hR)
    · exact af1.elim
  · rename_i l
    split at af1
    · rename_i ds q
      obtain ⟨a, xs, rfl, ha, hx, t⟩ := kn.s.h.lst rv q
      obtain rfl : v = Value.ref a := r1
      have hR := af1 ρ1 H1 .refl kn.s.h _ (it_lst ha)
      obtain ⟨its, rv, p, hz⟩ := I1.list (.of hx)
      refine wpAny_pyIter_list p.isList ?_
      refine ⟨s1.heap.objs.size, [s1.heap.objs.size], _, _, H1, rfl, I1.kept (t' := s1.toks) fun b o e => Heap.get?_push_of_some _ e, turn_list a _, ⟨_, Heap.get?_push_size _ rfl, rfl, rfl⟩, fun b hb => ?_, hR⟩
      obtain rfl : b = s1.heap.objs.size := by simpa using hb
      exact I1.fpOk (Nat.le_refl _) (I1.hok.fresh (Nat.le_refl _))
    · exact af1.elim
  · exact af1.elim
theorem big_of {i : Int} (h : big i = true) : -(2 ^ 62) ≤ i ∧ i < 2 ^ 62 := by unfold big at h; exact of_decide_eq_true h
theorem i_rng1 (he : EX X cls W cf e c) (hm : X.mg "range" = none) (hg : Gl X "range" := by rfl) (hs : starEach [e] X.env = [(false, eval e X.env)] := by rfl) : IX X cls W cf tg (.Call (.Name "range" p) [e] [] pos) (.rng1 c) := by
  refine PI.imp (pi_range1 hg hm (es_cons he es_nil hs) hs) fun σ H R h => ?_
  obtain ⟨ρ, env, h0, rs, af⟩ := h
  simp only [evi] at af
  refine ⟨ρ, env, h0, rs, ?_⟩
  simp only [evs]
  cases q : ev cf c env h0 with
  | bad => rw [q] at af; exact af.elim
  | exc c h1 => rw [q] at af; exact af
  | ok d h1 =>
    rw [q, DL.R.bind_ok] at af
    simp only [DL.R.bind_ok]
    split at af
    · rename_i j
      split at af
      · rename_i hb
        intro ρ' H' g r vs t
        obtain ⟨v, r2, rfl, rv, t2⟩ := t.uncons
        rw [RepL.nil_iff] at t2
        subst t2
        obtain rfl := rv.intOf
        exact ⟨j, rfl, (big_of hb).1, (big_of hb).2, af ρ' H' g r _ it_rng⟩
      · exact af.elim
    · exact af.elim
theorem i_rng2 (h1 : EX X cls W cf e1 c1) (h2 : EX X cls W cf e2 c2) (hm : X.mg "range" = none) (hg : Gl X "range" := by rfl) (hs : starEach [e1, e2] X.env = [(false, eval e1 X.env), (false, eval e2 X.env)] := by rfl) (hs2 : starEach [e2] X.env = [(false, eval e2 X.env)] := by rfl) :
    IX X cls W cf tg (.Call (.Name "range" p) [e1, e2] [] pos) (.rng2 c1 c2) := by
  refine PI.imp (pi_range2 hg hm (es_cons h1 (es_cons h2 es_nil hs2) (by rw [hs, hs2])) hs hs2) fun σ H R h => ?_
  obtain ⟨ρ, env, h0, rs, af⟩ := h
  simp only [evi] at af
  refine ⟨ρ, env, h0, rs, ?_⟩
  simp only [evs]
  cases q : ev cf c1 env h0 with
  | bad => rw [q] at af; exact af.elim
  | exc c h1 => rw [q] at af; exact af
  | ok d h1 =>
    rw [q, DL.R.bind_ok] at af
    simp only [DL.R.bind_ok]
    cases q2 : ev cf c2 env h1 with
    | bad => rw [q2] at af; exact af.elim
    | exc c h1 => rw [q2] at af; exact af
    | ok d2 h2 =>
      rw [q2, DL.R.bind_ok] at af
      simp only [DL.R.bind_ok]
      split at af
      · rename_i i j
        split at af
        · rename_i hb
          rw [Bool.and_eq_true] at hb
          intro ρ' H' g r vs t
          obtain ⟨v, r2, rfl, rv, t2⟩ := t.uncons
          obtain ⟨v2, r3, rfl, rv2, t3⟩ := t2.uncons
          rw [RepL.nil_iff] at t3
          subst t3
          obtain rfl := rv.intOf
          obtain rfl := rv2.intOf
          exact ⟨i, j, rfl, ⟨(big_of hb.1).1, (big_of hb.1).2, (big_of hb.2).1, (big_of hb.2).2⟩, af ρ' H' g r _ it_rng⟩
        · exact af.elim
      · exact af.elim
theorem i_rng3 (h1 : EX X cls W cf e1 c1) (h2 : EX X cls W cf e2 c2) (h3 : EX X cls W cf e3 c3) (hm : X.mg "range" = none) (hg : Gl X "range" := by rfl) (hs : starEach [e1, e2, e3] X.env = (false, eval e1 X.env) :: starEach [e2, e3] X.env := by rfl) (hs2 : starEach [e2, e3] X.env = (false, eval e2 X.env) :: starEach [e3] X.env := by rfl)
    (hs3 : starEach [e3] X.env = (false, eval e3 X.env) :: starEach [] X.env := by rfl) (hpl : (backTo pos (starEach [e2, e3] X.env)).any (·.1) = false := by rfl) :
    IX X cls W cf tg (.Call (.Name "range" p) [e1, e2, e3] [] pos) (.rng3 c1 c2 c3) := by
  refine PI.imp (pi_range3 hg hm (es_cons h1 (es_cons h2 (es_cons h3 es_nil hs3) hs2) hs) hs hpl) fun σ H R h => ?_
  obtain ⟨ρ, env, h0, rs, af⟩ := h
  simp only [evi] at af
  refine ⟨ρ, env, h0, rs, ?_⟩
  simp only [evs]
  cases q : ev cf c1 env h0 with
  | bad => rw [q] at af; exact af.elim
  | exc c h1 => rw [q] at af; exact af
  | ok d h1 =>
    rw [q, DL.R.bind_ok] at af
    simp only [DL.R.bind_ok]
    cases q2 : ev cf c2 env h1 with
    | bad => rw [q2] at af; exact af.elim
    | exc c h1 => rw [q2] at af; exact af
    | ok d2 h2 =>
      rw [q2, DL.R.bind_ok] at af
      simp only [DL.R.bind_ok]
      cases q3 : ev cf c3 env h2 with
      | bad => rw [q3] at af; exact af.elim
      | exc c h1 => rw [q3] at af; exact af
      | ok d3 h3 =>
        rw [q3, DL.R.bind_ok] at af
        simp only [DL.R.bind_ok]
        split at af
        · rename_i i j k
          split at af
          · rename_i hb
            rw [Bool.and_eq_true, Bool.and_eq_true, decide_eq_true_eq, decide_eq_true_eq] at hb
            obtain ⟨⟨⟨hb1, hb2⟩, hb3⟩, hb4⟩ := hb
            intro ρ' H' g r vs t
            obtain ⟨v, r2, rfl, rv, t2⟩ := t.uncons
            obtain ⟨v2, r3, rfl, rv2, t3⟩ := t2.uncons
            obtain ⟨v3, r4, rfl, rv3, t4⟩ := t3.uncons
            rw [RepL.nil_iff] at t4
            subst t4
            obtain rfl := rv.intOf
            obtain rfl := rv2.intOf
            obtain rfl := rv3.intOf
            exact ⟨i, j, k, _, rfl, ⟨hb1, hb2, hb3, (Int.toNat_of_nonneg hb4).symm⟩, af ρ' H' g r _ it_rngC⟩
          · exact af.elim
        · exact af.elim

/-! targets -/
abbrev Zt := L2.St → L2.St → Prop
def TGof (E : Ew) (Z : Zt) (f : D → AE → AH → R AE) : TG := fun v σ H Q => ∃ ρ d env h, RS E ρ H σ env h ∧ Rep E ρ H d v ∧ Af E W0 ρ H σ (f d env h) fun ρ' env' _ H' => ∀ σ', RepE E ρ' H' env' σ' → Z σ σ' → Q σ' H'
def TGsof (E : Ew) (Z : Zt) (f : List D → AE → AH → R AE) : TGs := fun vs σ H Q => ∃ ρ ds env h, RS E ρ H σ env h ∧ RepL E ρ H ds vs ∧ Af E W0 ρ H σ (f ds env h) fun ρ' env' _ H' => ∀ σ', RepE E ρ' H' env' σ' → Z σ σ' → Q σ' H'
theorem PG.imp {e : Expr} {t t' : TG} (p : PG X e t) (h : ∀ v σ H Q, t' v σ H Q → t v σ H Q) : PG X e t' := ⟨fun pins s σ H v u Q I r q => p.run pins s σ H v u Q I r (h v σ H Q q)⟩
theorem PGs.imp {e : List Expr} {t t' : TGs} (p : PGs X e t) (h : ∀ v σ H Q, t' v σ H Q → t v σ H Q) : PGs X e t' := ⟨fun pins s σ H v u Q I r q => p.run pins s σ H v u Q I r (h v σ H Q q)⟩
theorem PG.or {e : Expr} {t t' : TG} (p : PG X e t) (p' : PG X e t') : PG X e (fun v σ H Q => t v σ H Q ∨ t' v σ H Q) :=
  ⟨fun pins s σ H v u Q I r q => q.elim (p.run pins s σ H v u Q I r) (p'.run pins s σ H v u Q I r)⟩
abbrev GX (X : Cx) (cls : Ka) (Z : Zt) (cf : Cf) (e : Expr) (t : CT) : Prop := PG X e (TGof (ew X cls) Z (asg cf t))
abbrev GXs (X : Cx) (cls : Ka) (Z : Zt) (cf : Cf) (e : List Expr) (t : List CT) : Prop := PGs X e (TGsof (ew X cls) Z (asgs cf t))
structure Zok (Z : Zt) (own : Nat → Prop) : Prop where
  rf : ∀ σ, Z σ σ
  tr : ∀ a b c, Z a b → Z b c → Z a c
  st : ∀ σ i v, own i → Z σ (σ.set i v)
abbrev ZT : Zt := fun _ _ => True
theorem zokT : Zok ZT fun _ => True := ⟨fun _ => trivial, fun _ _ _ _ _ => trivial, fun _ _ _ _ => trivial⟩
variable {Z : Zt} {ow : Nat → Prop} {ts : List CT} {t t1 : CT}
theorem g_name (ck : Ck X cls W k cf n) (z : Zok Z ow) (i : Nat) {x : Str} (ho : ow i) (hi : X.N[i]? = some x := by rfl) (hx : Loc X.env.scope x := by first | exact Or.inl rfl | exact Or.inr rfl) (hf : X.fn x = true ∨ X.env.scope.names.lookup x = some .local := by first | exact .inl rfl | exact .inr rfl) : GX X cls Z cf (.Name x pos) (.name i) := by
  refine PG.imp (pg_name ck.nd hi hx hf) fun v σ H Q h => ?_
  obtain ⟨ρ, d, env, h0, rs, rv, af⟩ := h
  simp only [asg] at af
  exact af ρ H .refl rs.h _ (rs.e.set i rv) (z.st σ i _ ho)
theorem gs_nil (z : Zok Z ow) : GXs X cls Z cf [] [] := by
  refine PGs.imp pgs_nil fun v σ H Q h => ?_
  obtain ⟨ρ, ds, env, h0, rs, rv, af⟩ := h
  cases ds with
  | nil =>
    simp only [asgs] at af
    rw [RepL.nil_iff] at rv
    exact ⟨rv, af ρ H .refl rs.h σ rs.e (z.rf σ)⟩
  | cons d r => simp only [asgs] at af; exact (af : False).elim
theorem gs_cons (z : Zok Z ow) (h1 : GX X cls Z cf e t) (h2 : GXs X cls Z cf es ts) (hs : (assignEach (e :: es) X.env).map (·.2) = assign e X.env :: (assignEach es X.env).map (·.2) := by rfl) : GXs X cls Z cf (e :: es) (t :: ts) := by
  refine PGs.imp (pgs_cons h1 h2 hs) fun v σ H Q h => ?_
  obtain ⟨ρ, ds, env, h0, rs, rv, af⟩ := h
  cases ds with
  | nil => simp only [asgs] at af; exact af.elim
  | cons d r =>
    simp only [asgs] at af
    obtain ⟨x, xs, rfl, rx, rr⟩ := rv.uncons
    refine ⟨x, xs, rfl, ρ, d, env, h0, rs, rx, Af.imp (Af.bind af) fun ρ1 env1 h1 H1 g1 r1 af1 σ1 e1 z1 => ?_⟩
    refine ⟨ρ1, r, env1, h1, ⟨e1, r1⟩, RepL.mono g1 r xs rr, ?_⟩
    have af2 : Af (ew X cls) W0 ρ1 H1 σ1 (asgs cf ts r env1 h1) fun ρ' env' _ H' => ∀ σ', RepE (ew X cls) ρ' H' env' σ' → Z σ σ' → Q σ' H' := by
      cases q : asgs cf ts r env1 h1 with
      | ok a h' => rw [q] at af1; exact af1
      | exc c h' => rw [q] at af1; exact af1
      | bad => rw [q] at af1; exact af1
    exact Af.imp af2 fun ρ2 env2 h2 H2 g2 r2 k σ2 e2 z2 => k σ2 e2 (z.tr _ _ _ z1 z2)
theorem g_tup (ck : Ck X cls W k cf n) {kk : _} (h : GXs X cls Z cf es ts)
    (hn : (assignEach es X.env).length = ts.length := by rfl) (hst : (assignEach es X.env).findIdx? (·.1) = none := by rfl) : GX X cls Z cf (.Tuple es kk pos) (.tup ts) := by
  refine PG.imp (PG.or (pg_tup ck.calm h hn hst) (pg_lst ck.calm h hn hst)) fun v σ H Q h => ?_
  obtain ⟨ρ, d, env, h0, rs, rv, af⟩ := h
  simp only [asg] at af
  split at af
  · rename_i l q
    split at af
    · rename_i hl
      unfold seqD at q
      split at q
      · cases q
        obtain ⟨a, xs, rfl, hq, t⟩ := rv.tupOf
        exact .inl ⟨a, xs, rfl, hq.sq, by rw [← t.length]; exact hl, ρ, _, env, h0, rs, t, af⟩
      · cases q
        obtain ⟨a, xs, rfl, hq, t⟩ := rv.wlOf
        exact .inr ⟨a, xs, rfl, hq.sq, by rw [← t.length]; exact hl, ρ, _, env, h0, rs, t, af⟩
      · split at q
        · rename_i q2
          cases q
          obtain ⟨a, xs, rfl, ha, hx, t⟩ := rs.h.lst rv q2
          exact .inr ⟨a, xs, rfl, .of hx, by rw [← t.length]; exact hl, ρ, _, env, h0, rs, t, af⟩
        · cases q
      · cases q
    · exact af.elim
  · exact af.elim
theorem Af.weak {α : Type} {E : Ew} {W' : WX} {ρ : List Addr} {H : Hp} {σ : L2.St} {r : R α} {Q : List Addr → α → AH → Hp → Prop} (x : Af E W0 ρ H σ r Q) : Af E W' ρ H σ r Q := by
  cases r with
  | ok a h' => exact x
  | exc c h' => exact fun ρ' H' g r => (x ρ' H' g r).elim
  | bad => exact x
end
end DL

/-! DL, part l: comprehensions, statements. -/
namespace DL
open PySem PySem.Spec PyProof.Rows L2

/-! slots of a block's own -/
theorem wipe_out {σ : L2.St} {i : Nat} {x : Option V} : ∀ {vs : List Nat}, i ∉ vs → L2.wipe (σ.set i x) vs = (L2.wipe σ vs).set i x
  | [], _ => rfl
  | v :: vs, h => by
    simp only [List.mem_cons, not_or] at h
    unfold L2.wipe
    rw [wipe_out h.2, List.set_comm _ _ h.1]
theorem wipe_in {σ : L2.St} {i : Nat} {x : Option V} : ∀ {vs : List Nat}, i ∈ vs → L2.wipe (σ.set i x) vs = L2.wipe σ vs
  | [], h => by simp at h
  | v :: vs, h => by
    unfold L2.wipe
    by_cases m : i ∈ vs
    · rw [wipe_in m]
    · rw [wipe_out m]
      have e : i = v := by
        rcases List.mem_cons.mp h with e | e
        · exact e
        · exact absurd e m
      subst e
      rw [List.set_set]
theorem wipe_sub {σ : L2.St} {vs : List Nat} : ∀ {us : List Nat}, (∀ u ∈ us, u ∈ vs) → L2.wipe (L2.wipe σ us) vs = L2.wipe σ vs
  | [], _ => rfl
  | u :: us, h => by
    rw [show L2.wipe σ (u :: us) = (L2.wipe σ us).set u none from rfl, wipe_in (h u List.mem_cons_self)]
    exact wipe_sub fun x hx => h x (List.mem_cons_of_mem _ hx)
def Zw (vs : List Nat) : Zt := fun σ σ' => L2.wipe σ' vs = L2.wipe σ vs
theorem zokW (vs : List Nat) : Zok (Zw vs) (· ∈ vs) := ⟨fun _ => rfl, fun a b c h1 h2 => Eq.trans h2 h1, fun σ i v h => wipe_in h⟩

theorem Af.nb {α : Type} {E : Ew} {W : WX} {ρ : List Addr} {H : Hp} {σ σ' : L2.St} {r : R α} {Q : List Addr → α → AH → Hp → Prop} (x : Af E W ρ H σ r.nb Q) : Af E W0 ρ H σ' r Q := by
  cases r with
  | ok a h' => exact x
  | exc c h' => exact (x : False).elim
  | bad => exact x
theorem Af.sig {α : Type} {E : Ew} {ρ : List Addr} {H : Hp} {σ σ' : L2.St} {r : R α} {Q : List Addr → α → AH → Hp → Prop} (x : Af E W0 ρ H σ r Q) : Af E W0 ρ H σ' r Q := by
  cases r with
  | ok a h' => exact x
  | exc c h' => exact x
  | bad => exact x

section
variable {X : Cx} {cls : Ka} {W : WX} {k : Nat} {cf : Cf} {n : Nm}
variable {e e1 e2 e3 o : Expr} {c c1 c2 c3 co : CE} {es : List Expr} {ces : List CE} {pos p apos : Pos} {tg : Expr}

/-- the tests of a comprehension -/
abbrev CX1 (X : Cx) (cls : Ka) (W : WX) (cf : Cf) (e : List Expr) (c : List CE) : Prop := PTs X e (TTof (ew X cls) W (evc cf c))
theorem c_nil : CX1 X cls W cf [] [] := by
  refine PTs.imp pts_nil fun σ H Q h => ?_
  obtain ⟨ρ, env, h0, rs, af⟩ := h
  simp only [evc] at af
  exact af ρ H .refl rs.h
theorem c_one (h1 : TX X cls W cf e c) : CX1 X cls W cf [e] [c] := by
  refine PTs.imp (pts_one h1) fun σ H Q h => ?_
  obtain ⟨ρ, env, h0, rs, af⟩ := h
  refine ⟨ρ, env, h0, rs, ?_⟩
  have z : evc cf [c] env h0 = tst cf c env h0 := by
    simp only [evc, tst]
    cases ev cf c env h0 with
    | ok d h1 =>
      simp only [R.bind_ok]
      cases tru h1 d with
      | none => rfl
      | some b => cases b <;> rfl
    | exc c h1 => rfl
    | bad => rfl
  rw [← z]
  exact af
theorem lc_of {ce : CE} {t : CT} {ci : CI} {cs : List CE} {vs : List Nat} {σ : L2.St} {H : Hp} {Q : VK} (h : TEof (ew X cls) W (ev cf (.comp ce t ci cs vs)) σ H Q) :
    tLc (TIof (ew X cls) W (evi cf ci)) (TGof (ew X cls) (Zw vs) (asg cf t)) (TTof (ew X cls) W0 (evc cf cs)) (TEof (ew X cls) W0 (ev cf ce)) vs σ H Q := by
  obtain ⟨ρ, env, h0, rs, af⟩ := h
  simp only [ev] at af
  refine ⟨ρ, env, h0, rs, Af.imp (Af.bind af) fun ρ1 s h1 H1 g1 r1 af1 J hJ A0 hD => ?_⟩
  clear af
  obtain ⟨g2, r2, rvD⟩ := r1.newL hD (ds := []) RepL.nil
  have hρD : (ρ1 ++ [A0])[h1.length]? = some A0 := by rw [← r1.len, List.getElem?_append_right (Nat.le_refl _), Nat.sub_self]; rfl
  have e2 := (rs.e.mono g1).mono g2
  have af2 := Af.imp (Q' := fun _ _ _ H' => Q (.ref A0) H') (Af.bind (Af.up af1 g2)) fun ρ' a h' H' g r q => q ρ' H' .refl r (.ref A0) (Rep.mono g _ _ rvD)
  clear af1
  generalize hstep : (fun x h2 => (asg cf t x (wipeE env vs) h2).bind fun env1 h3 => (evc cf cs env1 h3).bind fun k h4 =>
        if k = true then (ev cf ce env1 h4).bind fun d h5 => putL h1.length d h5 else R.ok () h4 : D → AH → R Unit) = step at af2
  refine ⟨fun i m H => ∃ ρ h, Gr (ew X cls) (ρ1 ++ [A0]) (upd H1 A0 (.lst [])) ρ H ∧ RH (ew X cls) ρ H h ∧ Af (ew X cls) W ρ H σ (colN (nxt s) step m i h) (fun _ _ _ H' => Q (.ref A0) H'), ⟨_, ρ1 ++ [A0], _, .refl, r2, af2⟩, ?_⟩
  rintro i m H ⟨ρ, h, g, r, a⟩
  cases m with
  | zero => exact (a : False).elim
  | succ m =>
    have it := hJ ρ H h i (g2.trans g) r
    simp only [colN] at a
    cases q : nxt s i h with
    | none => rw [q] at a; exact (a : False).elim
    | some z =>
      rw [q] at a
      cases z with
      | none => exact .inl ⟨it.1 q, a ρ H .refl r⟩
      | some x =>
        obtain ⟨go, yl⟩ := it.2 x q
        refine .inr ⟨go, fun H' => ∃ ρ h, Gr (ew X cls) (ρ1 ++ [A0]) (upd H1 A0 (.lst [])) ρ H' ∧ RH (ew X cls) ρ H' h ∧ Af (ew X cls) W ρ H' σ (colN (nxt s) step m (i + 1) h) (fun _ _ _ H' => Q (.ref A0) H'), fun H' w => ⟨m, Nat.lt_succ_self m, w⟩, fun xv H' y => ?_⟩
        obtain ⟨gy, ry, _, rvx⟩ := yl xv H' y
        have a1 := Af.up (Af.bind a) gy
        have a2 := Af.nb (σ' := L2.wipe σ vs) a1
        clear a a1
        subst hstep
        have a3 := Af.bind a2
        clear a2
        refine ⟨ρ, x, wipeE env vs, h, ⟨((e2.mono g).mono gy).wipe vs, ry⟩, rvx, Af.imp a3 fun ρ3 env1 h3 H3 g3 r3 a4 σ3 e3 z3 => ⟨?_, ?_⟩⟩
        · exact Eq.trans z3 (wipe_sub fun u hu => hu)
        · refine ⟨ρ3, env1, h3, ⟨e3, r3⟩, Af.imp (Af.bind (Af.sig a4)) fun ρ4 b h4 H4 g4 r4 a5 => ?_⟩
          cases b with
          | false =>
            rw [if_neg Bool.false_ne_true] at a5
            rw [if_neg Bool.false_ne_true]
            exact ⟨ρ4, h4, ((g.trans gy).trans g3).trans g4, r4, a5 ρ4 H4 .refl r4⟩
          | true =>
            rw [if_pos rfl] at a5
            rw [if_pos rfl]
            refine ⟨ρ4, env1, h4, ⟨e3.mono g4, r4⟩, Af.imp (Af.bind a5) fun ρ5 d h5 H5 g5 r5 a6 v rv => ?_⟩
            unfold putL at a6
            split at a6
            · rename_i l q5
              split at a6
              · rename_i hl
                have gD : ρ5[h1.length]? = some A0 := ((((g.trans gy).trans g3).trans g4).trans g5).pl _ _ hρD
                obtain ⟨xs, hx, t⟩ := r5.ob _ _ _ gD q5
                have mu : Mut (H5 A0) := by rw [hx]; exact True.intro
                refine ⟨xs, hx, by rw [← t.length, ← SZ_eq]; exact hl, ?_⟩
                have gw : Gr (ew X cls) ρ5 H5 ρ5 (upd H5 A0 (.lst (xs ++ [v]))) := Gr.write mu
                have rw' := r5.set (u := .lst (xs ++ [v])) (o := .lst (l ++ [d])) gD gw ⟨xs ++ [v], upd_same, (RepL.mono gw _ _ t).append (.cons (Rep.mono gw _ _ rv) .nil)⟩
                exact ⟨ρ5, _, ((((g.trans gy).trans g3).trans g4).trans g5).trans gw, rw', a6 ρ5 _ gw rw'⟩
              · exact (a6 : False).elim
            · exact (a6 : False).elim
/-- a list comprehension -/
theorem e_comp (ck : Ck X cls W k cf n) {elt tg iter : Expr} {ifs : List Expr} {scope : Scope} {ce : CE} {t : CT} {ci : CI} {cs : List CE} (own : List (Str × Nat)) (hi : IX X cls W cf tg iter ci) (ok : BlkOk X.N X.env.scope scope own)
    (hg : ∀ (s : Shared) (H : Hp) (C : Addr) (cl : List (Str × Addr)) (fp : List Addr), Ck (X.blk s H scope (compEnvC scope cl C X.env) fp) cls W0 k cf n → GX (X.blk s H scope (compEnvC scope cl C X.env) fp) cls (Zw (own.map (·.2))) cf tg t)
    (ht : ∀ (s : Shared) (H : Hp) (C : Addr) (cl : List (Str × Addr)) (fp : List Addr), Ck (X.blk s H scope (compEnvC scope cl C X.env) fp) cls W0 k cf n → CX1 (X.blk s H scope (compEnvC scope cl C X.env) fp) cls W0 cf ifs cs)
    (he : ∀ (s : Shared) (H : Hp) (C : Addr) (cl : List (Str × Addr)) (fp : List Addr), Ck (X.blk s H scope (compEnvC scope cl C X.env) fp) cls W0 k cf n → EX (X.blk s H scope (compEnvC scope cl C X.env) fp) cls W0 cf elt ce)
    (hs : ∀ x, foldedSetIterable iter X.env x = pure x := by intro _; rfl) : EX X cls W cf (.ListComp elt [⟨tg, iter, ifs, 0⟩] scope pos) (.comp ce t ci cs (own.map (·.2))) :=
  PE.imp (pe_lc ck.calm ck.nd hi ok (fun s H C cl fp => hg s H C cl fp (ck.blk ..)) (fun s H C cl fp => ht s H C cl fp (ck.blk ..)) (fun s H C cl fp => he s H C cl fp (ck.blk ..)) hs) fun _ _ _ h => lc_of h
end
end DL

/-! DL, part m: statements. -/
namespace DL
open PySem PySem.Spec PyProof.Rows L2

/-- what a statement's end is to bring -/
def Sf (E : Ew) (W : WX) (ρ : List Addr) (H : Hp) (r : S) (D : Ends) : Prop :=
  match r with
  | .nx env h => ∀ ρ' H' σ', Gr E ρ H ρ' H' → RS E ρ' H' σ' env h → D.nx σ' H'
  | .rt d h => ∀ ρ' H' v, Gr E ρ H ρ' H' → RH E ρ' H' h → Rep E ρ' H' d v → D.rt v H'
  | .bk env h => ∀ ρ' H' σ', Gr E ρ H ρ' H' → RS E ρ' H' σ' env h → D.bk σ' H'
  | .ct env h => ∀ ρ' H' σ', Gr E ρ H ρ' H' → RS E ρ' H' σ' env h → D.ct σ' H'
  | .exc c env h => ∀ ρ' H' σ', Gr E ρ H ρ' H' → RS E ρ' H' σ' env h → exW E W c σ' H'
  | .bad => False
def TSof (E : Ew) (W : WX) (f : AE → AH → S) : TS := fun D σ H => ∃ ρ env h, RS E ρ H σ env h ∧ Sf E W ρ H (f env h) D
section
variable {E : Ew} {W : WX} {ρ ρ' : List Addr} {H H' : Hp} {σ : L2.St} {D : Ends}
theorem Sf.up {r : S} (x : Sf E W ρ H r D) (g : Gr E ρ H ρ' H') : Sf E W ρ' H' r D := by
  cases r with
  | nx env h => exact fun ρ2 H2 σ2 g2 r2 => x ρ2 H2 σ2 (g.trans g2) r2
  | rt d h => exact fun ρ2 H2 v g2 r2 rv => x ρ2 H2 v (g.trans g2) r2 rv
  | bk env h => exact fun ρ2 H2 σ2 g2 r2 => x ρ2 H2 σ2 (g.trans g2) r2
  | ct env h => exact fun ρ2 H2 σ2 g2 r2 => x ρ2 H2 σ2 (g.trans g2) r2
  | exc c env h => exact fun ρ2 H2 σ2 g2 r2 => x ρ2 H2 σ2 (g.trans g2) r2
  | bad => exact x
theorem Sf.st {α : Type} {r : R α} {env : AE} {h0 : AH} {f : α → AH → S} (x : Sf E W ρ H (r.st env f) D) (rs : RS E ρ H σ env h0) : Af E W ρ H σ r fun ρ' a h' H' => Sf E W ρ' H' (f a h') D := by
  cases r with
  | ok a h' =>
    rw [R.st_ok] at x
    exact fun ρ2 H2 g2 r2 => x.up g2
  | exc c h' => exact fun ρ2 H2 g2 r2 => x ρ2 H2 σ g2 ⟨rs.e.mono g2, r2⟩
  | bad => exact x
theorem Sf.sb {α : Type} {r : R α} {f : α → AH → S} (x : Sf E W ρ H (r.sb f) D) : Af E W0 ρ H σ r fun ρ' a h' H' => Sf E W ρ' H' (f a h') D := by
  cases r with
  | ok a h' =>
    rw [R.sb_ok] at x
    exact fun ρ2 H2 g2 r2 => x.up g2
  | exc c h' => exact (x : False).elim
  | bad => exact x
theorem Sf.seq {r : S} {f : AE → AH → S} (x : Sf E W ρ H (r.seq f) D) : Sf E W ρ H r { D with nx := TSof E W f D } := by
  cases r with
  | nx env h =>
    rw [S.seq_nx] at x
    exact fun ρ2 H2 σ2 g2 r2 => ⟨ρ2, env, h, r2, x.up g2⟩
  | rt d h => exact x
  | bk env h => exact x
  | ct env h => exact x
  | exc c env h => exact x
  | bad => exact x
end
/-- what statements ask of their def -/
structure Sk (X : Cx) (cls : Ka) (W : WX) (k : Nat) (cf : Cf) (n : Nm) : Prop where
  ck : Ck X cls W k cf n
  po : PassesOwn (model X.prog X.w) X.A X.env X.xe
  hs : X.stack = X.env :: X.outer
  hf : X.env.frame = some X.env.locals
section
variable {X : Cx} {cls : Ka} {W : WX} {k : Nat} {cf : Cf} {n : Nm}
variable {e e1 e2 e3 o : Expr} {c c1 c2 c3 co : CE} {es : List Expr} {ces : List CE} {pos p apos : Pos} {tg : Expr} {st : Stmt} {cs : CS} {sts body orelse : List Stmt} {css cb ce : List CS} {t : CT} {ci : CI}

abbrev SX (X : Cx) (cls : Ka) (W : WX) (cf : Cf) (s : Stmt) (c : CS) : Prop := PS X s (TSof (ew X cls) W (exec cf c))
abbrev SXs (X : Cx) (cls : Ka) (W : WX) (cf : Cf) (s : List Stmt) (c : List CS) : Prop := PSs X s (TSof (ew X cls) W (execs cf c))
theorem ss_nil : SXs X cls W cf [] [] := by
  refine PSs.imp pss_nil fun D σ H h => ?_
  obtain ⟨ρ, env, h0, rs, sf⟩ := h
  simp only [execs] at sf
  exact sf ρ H σ .refl rs
theorem ss_cons (h1 : SX X cls W cf st cs) (h2 : SXs X cls W cf sts css) : SXs X cls W cf (st :: sts) (cs :: css) := by
  refine PSs.imp (pss_cons h1 h2) fun D σ H h => ?_
  obtain ⟨ρ, env, h0, rs, sf⟩ := h
  simp only [execs] at sf
  exact ⟨ρ, env, h0, rs, sf.seq⟩
/-- a docstring or any text -/
theorem ss_doc {x : Str} {j : Nat} {pos' : Pos} (h2 : SXs X cls W cf sts css) : SXs X cls W cf (.Expr (.Constant (.str x) j pos) pos' :: sts) css := by
  refine PSs.imp (pss_cons ps_doc h2) fun D σ H h => ?_
  exact h
theorem s_pass : SX X cls W cf (.Pass pos) .pass := by
  refine PS.imp ps_pass fun D σ H h => ?_
  obtain ⟨ρ, env, h0, rs, sf⟩ := h
  simp only [exec] at sf
  exact sf ρ H σ .refl rs
theorem s_brk : SX X cls W cf (.Break pos) .brk := by
  refine PS.imp ps_break fun D σ H h => ?_
  obtain ⟨ρ, env, h0, rs, sf⟩ := h
  simp only [exec] at sf
  exact sf ρ H σ .refl rs
theorem s_cont : SX X cls W cf (.Continue pos) .cont := by
  refine PS.imp ps_continue fun D σ H h => ?_
  obtain ⟨ρ, env, h0, rs, sf⟩ := h
  simp only [exec] at sf
  exact sf ρ H σ .refl rs
theorem s_ret (h1 : EX X cls W cf e c) : SX X cls W cf (.Return (some e) pos) (.ret c) := by
  refine PS.imp (ps_ret h1) fun D σ H h => ?_
  obtain ⟨ρ, env, h0, rs, sf⟩ := h
  simp only [exec] at sf
  exact ⟨ρ, env, h0, rs, Af.imp (sf.st rs) fun ρ' d h' H' g r k v rv => k ρ' H' v .refl r rv⟩
theorem s_retN : SX X cls W cf (.Return none pos) (.ret (.con .non)) := by
  refine PS.imp ps_retN fun D σ H h => ?_
  obtain ⟨ρ, env, h0, rs, sf⟩ := h
  simp only [exec, ev, noR, R.st_ok] at sf
  exact sf ρ H .non .refl rs.h Rep.non
theorem s_ex (h1 : EX X cls W cf e c) (hs : swapsWith e none pos.line X.env = pure false := by rfl) : SX X cls W cf (.Expr e pos) (.ex c) := by
  refine PS.imp (ps_expr h1 hs) fun D σ H h => ?_
  obtain ⟨ρ, env, h0, rs, sf⟩ := h
  simp only [exec] at sf
  exact ⟨ρ, env, h0, rs, Af.imp (sf.st rs) fun ρ' d h' H' g r k v rv => k ρ' H' σ .refl ⟨rs.e.mono g, r⟩⟩
theorem s_asg (h1 : EX X cls W cf e c) (h2 : GX X cls ZT cf tg t) (hs : swapsWithSole [tg] e pos.line X.env = pure false := by rfl) (hw : swappedStores [tg] e X.env = pure none := by rfl)
    (h3 : (assignEach [tg] X.env).map (·.2) = [assign tg X.env] := by rfl) : SX X cls W cf (.Assign [tg] e pos) (.asg t c) := by
  refine PS.imp (ps_asg h1 h2 hs hw h3) fun D σ H h => ?_
  obtain ⟨ρ, env, h0, rs, sf⟩ := h
  simp only [exec] at sf
  refine TEof.use rs (sf.st rs) fun v ρ1 d h1 H1 kn rv sf1 => ?_
  refine ⟨ρ1, d, env, h1, kn.s, rv, Af.imp (Sf.sb sf1) fun ρ2 env2 h2 H2 g2 r2 k σ2 e2 _ => k ρ2 H2 σ2 .refl ⟨e2, r2⟩⟩
/-- name = [..] on one line -/
theorem s_setc (ck : Ck X cls W k cf n) (i : Nat) {y : Str} {py spos : Pos} {elt tg iter : Expr} {ifs : List Expr} {scope : Scope} {ce : CE} {t : CT} {ci : CI} {cs : List CE} (own : List (Str × Nat)) (hi : IX X cls W cf tg iter ci) (ok : BlkOk X.N X.env.scope scope own)
    (hg : ∀ (s : Shared) (H : Hp) (C : Addr) (cl : List (Str × Addr)) (fp : List Addr), Ck (X.blk s H scope (compEnvC scope cl C X.env) fp) cls W0 k cf n → GX (X.blk s H scope (compEnvC scope cl C X.env) fp) cls (Zw (own.map (·.2))) cf tg t)
    (ht : ∀ (s : Shared) (H : Hp) (C : Addr) (cl : List (Str × Addr)) (fp : List Addr), Ck (X.blk s H scope (compEnvC scope cl C X.env) fp) cls W0 k cf n → CX1 (X.blk s H scope (compEnvC scope cl C X.env) fp) cls W0 cf ifs cs)
    (he : ∀ (s : Shared) (H : Hp) (C : Addr) (cl : List (Str × Addr)) (fp : List Addr), Ck (X.blk s H scope (compEnvC scope cl C X.env) fp) cls W0 k cf n → EX (X.blk s H scope (compEnvC scope cl C X.env) fp) cls W0 cf elt ce)
    (hy : X.N[i]? = some y := by rfl) (hyl : X.env.scope.names.lookup y = some .local := by rfl)
    (hsw : swapsWith (.ListComp elt [⟨tg, iter, ifs, 0⟩] scope pos) (some (.Name y py)) spos.line X.env = pure true := by rfl)
    (hs : ∀ x, foldedSetIterable iter X.env x = pure x := by intro _; rfl) : SX X cls W cf (.Assign [.Name y py] (.ListComp elt [⟨tg, iter, ifs, 0⟩] scope pos) spos) (.asg (.name i) (.comp ce t ci cs (own.map (·.2)))) := by
  refine PS.imp (ps_setLc (tt := TTof (ew X cls) W0 (evc cf cs)) (g := TGof (ew X cls) (Zw (own.map (·.2))) (asg cf t)) (te := TEof (ew X cls) W0 (ev cf ce)) ck.calm ck.nd hy hyl hsw hi ok (fun s H C cl fp => hg s H C cl fp (ck.blk ..)) (fun s H C cl fp => ht s H C cl fp (ck.blk ..)) (fun s H C cl fp => he s H C cl fp (ck.blk ..)) hs) fun D σ H h => ?_
  obtain ⟨ρ, env, h0, rs, sf⟩ := h
  rw [exec] at sf
  refine lc_of (W := W) (cf := cf) (TEof.use rs (sf.st rs) fun v ρ1 d h1 H1 kn rv sf1 => ?_)
  rw [asg, R.sb_ok] at sf1
  exact sf1 ρ1 H1 _ .refl ⟨kn.s.e.set i rv, kn.s.h⟩
theorem s_if (h1 : TX X cls W cf e c) (h2 : SXs X cls W cf body cb) (h3 : SXs X cls W cf orelse ce) : SX X cls W cf (.If e body orelse pos) (.ifs c cb ce) := by
  refine PS.imp (ps_if h1 h2 h3) fun D σ H h => ?_
  obtain ⟨ρ, env, h0, rs, sf⟩ := h
  simp only [exec] at sf
  refine TTof.use rs (sf.st rs) fun b ρ1 h1 H1 kn sf1 => ?_
  cases b with
  | true => exact ⟨ρ1, env, h1, kn.s, sf1⟩
  | false => exact ⟨ρ1, env, h1, kn.s, sf1⟩
def TSg (E : Ew) (W : WX) (ρ0 : List Addr) (H0 : Hp) (f : AE → AH → S) (D : Ends) : L2.St → Hp → Prop := fun σ H => ∃ ρ env h, Gr E ρ0 H0 ρ H ∧ RS E ρ H σ env h ∧ Sf E W ρ H (f env h) D
theorem Sf.loop {E : Ew} {ρ ρ0 : List Addr} {H H0 : Hp} {D : Ends} {r : S} {f : AE → AH → S} (x : Sf E W ρ H (loopS r f) D) (g : Gr E ρ0 H0 ρ H) : Sf E W ρ H r { D with nx := TSg E W ρ0 H0 f D, ct := TSg E W ρ0 H0 f D, bk := D.nx } := by
  cases r with
  | nx env h => exact fun ρ2 H2 σ2 g2 r2 => ⟨ρ2, env, h, g.trans g2, r2, x.up g2⟩
  | rt d h => exact x
  | bk env h => exact x
  | ct env h => exact fun ρ2 H2 σ2 g2 r2 => ⟨ρ2, env, h, g.trans g2, r2, x.up g2⟩
  | exc c env h => exact x
  | bad => exact x
theorem s_while (sk : Sk X cls W k cf n) (h1 : TX X cls W cf e c) (h2 : SXs X cls W cf body cb) : SX X cls W cf (.While e body [] pos) (.whl c cb) := by
  refine PS.imp (ps_while sk.po h1 h2) fun D σ H h => ?_
  obtain ⟨ρ, env, h0, rs, sf⟩ := h
  simp only [exec] at sf
  refine ⟨fun m σ H' => TSg (ew X cls) W ρ H (whlF (tst cf c) (execs cf cb) m) D σ H', ⟨_, ρ, env, h0, .refl, rs, sf⟩, ?_⟩
  clear sf rs
  rintro m σ H1 ⟨ρ, env, h0, g, rs, sf⟩
  cases m with
  | zero => exact (sf : False).elim
  | succ m =>
    simp only [whlF] at sf
    refine TTof.use rs (sf.st rs) fun b ρ1 h1 H1 kn sf1 => ?_
    cases b with
    | false => rw [if_neg Bool.false_ne_true] at sf1; exact sf1 ρ1 H1 σ .refl kn.s
    | true =>
      rw [if_pos rfl] at sf1 ⊢
      exact ⟨_, fun σ' H' w => ⟨m, Nat.lt_succ_self m, w⟩, ρ1, env, h1, kn.s, sf1.loop (g.trans kn.g)⟩
theorem s_for (sk : Sk X cls W k cf n) (hi : IX X cls W cf tg e ci) (hg : GX X cls ZT cf tg t) (hb : SXs X cls W cf body cb)
    (hs : ∀ x, foldedSetIterable e X.env x = pure x := by intro _; rfl) : SX X cls W cf (.For tg e body [] pos) (.for_ t ci cb) := by
  refine PS.imp (ps_for sk.po sk.ck.calm hi hg hb hs) fun D σ H h => ?_
  obtain ⟨ρ, env, h0, rs, sf⟩ := h
  simp only [exec] at sf
  refine ⟨ρ, env, h0, rs, Af.imp (sf.st rs) fun ρ1 s h1 H1 g1 r1 sf1 J hJ => ?_⟩
  unfold forS at sf1
  refine ⟨fun i m σ H => TSg (ew X cls) W ρ1 H1 (forN (nxt s) (fun x e h2 => (asg cf t x e h2).sb fun e1 h3 => execs cf cb e1 h3) m i) D σ H, ⟨_, ρ1, env, h1, .refl, ⟨rs.e.mono g1, r1⟩, sf1⟩, ?_⟩
  clear sf1 sf rs
  rintro i m σ H ⟨ρ, env, h, g, rs, sf⟩
  cases m with
  | zero => exact (sf : False).elim
  | succ m =>
    have it := hJ ρ H h i g rs.h
    simp only [forN] at sf
    cases q : nxt s i h with
    | none => rw [q] at sf; exact (sf : False).elim
    | some z =>
      rw [q] at sf
      cases z with
      | none => exact .inl ⟨it.1 q, sf ρ H σ .refl rs⟩
      | some x =>
        obtain ⟨go, yl⟩ := it.2 x q
        refine .inr ⟨go, _, fun σ' H' w => ⟨m, Nat.lt_succ_self m, w⟩, fun xv H' y => ?_⟩
        obtain ⟨gy, ry, _, rvx⟩ := yl xv H' y
        have sf3 := (Sf.up sf gy).loop (g.trans gy)
        exact ⟨ρ, x, env, h, ⟨rs.e.mono gy, ry⟩, rvx, Af.imp (Sf.sb sf3) fun ρ2 env2 h2 H2 g2 r2 sf4 σ2 e2 _ => ⟨ρ2, env2, h2, ⟨e2, r2⟩, sf4⟩⟩

/-! raise, try -/
/-- an own exception class -/
structure ExD (E : Ew) (C : Str) : Prop where
  ex : ∃ (B newId initId : String) (bmB : List Value), ExcBaseFacts B newId initId bmB ∧ PySem.W.excIn E.K (E.cls C) bmB newId = true
  mg : E.mg C = some (.ref (E.cls C))
  kp : PySem.W.keepIn E.K (.ref (E.cls C)) = true
  sb : PySem.W.subIn E.K (.ref (E.cls C)) (.type "BaseException") = some true
  ty : PySem.W.typeIn E.K (.ref (E.cls C)) = some (.type "type")
theorem s_raise (ck : Ck X cls W k cf n) {C m : Str} {j : Nat} {p2 pos' : Pos} (x : ExD (ew X cls) C) (hg : Gl X C := by rfl) (hdb : (C == ("__debug__" : Str)) = false := by decide) : SX X cls W cf (.Raise (some (.Call (.Name C p) [.Constant (.str m) j p2] [] pos')) none pos) (.raise C) := by
  obtain ⟨B, newId, initId, bmB, F, q⟩ := x.ex
  refine PS.imp (ps_raise ck.calm ck.tk (pmk_own F q x.mg x.kp (raises_own x.sb x.ty) hg hdb)) fun D σ H h => ?_
  obtain ⟨ρ, env, h0, rs, sf⟩ := h
  simp only [exec] at sf
  exact sf ρ H σ .refl rs
/-- what a clause knows of the classes that may come -/
structure ClD (E : Ew) (cf : Cf) (C : Str) : Prop where
  mg : E.mg C = some (.ref (E.cls C))
  an : ∀ c, cf.isx c = true → PySem.W.exmOne E.K (.ref (E.cls c)) (.ref (E.cls C)) = some (cf.sub c C)
theorem Ck.tr (ck : Ck X cls W k cf n) {W' : WX} {pn : List (Addr × Obj)} {xe : Value → Shared → Prop} (tk : Takes (X.tr pn xe) W') : Ck (X.tr pn xe) cls W' k cf n := ⟨ck.nd, ck.calm, ck.room, tk, ck.pk⟩
theorem Sk.tr (sk : Sk X cls W k cf n) {W' : WX} {pn : List (Addr × Obj)} {xe : Value → Shared → Prop} (tk : Takes (X.tr pn xe) W') (po : PassesOwn (model X.prog X.w) X.A X.env xe) : Sk (X.tr pn xe) cls W' k cf n := ⟨sk.ck.tr tk, po, sk.hs, sk.hf⟩
theorem s_try (sk : Sk X cls W k cf n) {C : Str} {b0 : Stmt} {suite : List Stmt} {np pos' : Pos} {cs : List CS} (x : ClD (ew X cls) cf C)
    (hb : ∀ (W' : WX) (pn : List (Addr × Obj)) (xe : Value → Shared → Prop), Sk (X.tr pn xe) cls W' k cf n → SXs (X.tr pn xe) cls W' cf body cb)
    (hsu : ∀ (a : Addr) (oe : Obj) (pn : List (Addr × Obj)), SXs (X.suite a ((a, oe) :: pn)) cls W0 cf (b0 :: suite) cs) (hg : Gl X C := by rfl) (hdb : (C == ("__debug__" : Str)) = false := by decide) :
    SX X cls W cf (.Try body [.ExceptHandler (some (.Name C np)) none (b0 :: suite) pos'] [] [] pos) (.tryx cb C none cs) := by
  refine PS.imp (ps_try_only (tb := fun W' => TSof (ew X cls) W' (execs cf cb)) (ts := fun _ _ _ => TSof (ew X cls) W0 (execs cf cs)) sk.hs sk.hf ⟨hg, hdb, .inl x.mg⟩ sk.ck.tk (fun W' pn xe tk po => hb W' pn xe (sk.tr tk po)) (fun a oe c d pn _ _ => hsu a oe pn)) fun D σ H h => ?_
  obtain ⟨ρ, env, h0, rs, sf⟩ := h
  simp only [exec] at sf
  refine ⟨ρ, env, h0, rs, ?_⟩
  cases q : execs cf cb env h0 with
  | nx e h => rw [q] at sf; exact sf
  | rt d h => rw [q] at sf; exact sf
  | bk e h => rw [q] at sf; exact sf
  | ct e h => rw [q] at sf; exact sf
  | bad => rw [q] at sf; exact sf
  | exc c e h =>
    rw [q] at sf
    intro ρ' H' σ' g r
    have sf : Sf (ew X cls) W ρ H (if cf.isx c = true then if cf.sub c C = true then (execs cf cs e h).nb else S.exc c e h else S.bad) D := sf
    split at sf
    · rename_i hx
      refine ⟨cf.sub c C, x.an c hx, fun hs a _ => ?_, fun hs => ?_⟩
      · rw [if_pos hs] at sf
        refine ⟨ρ', e, h, r, ?_⟩
        have sf2 := Sf.up sf g
        cases q2 : execs cf cs e h <;> rw [q2] at sf2 <;> first | exact sf2 | exact (sf2 : False).elim
      · rw [if_neg (by rw [hs]; exact Bool.false_ne_true)] at sf
        exact sf ρ' H' σ' g r
    · exact (sf : False).elim
end
end DL

/-! DL, part n: stores by place and by field, augmented stores, defs. -/
namespace DL
open PySem PySem.Spec PyProof.Rows L2
section
variable {X : Cx} {cls : Ka} {W : WX} {k : Nat} {cf : Cf} {n : Nm}
variable {e e1 e2 e3 o : Expr} {c c1 c2 c3 co : CE} {es : List Expr} {ces : List CE} {pos p apos : Pos} {tg : Expr} {Z : Zt} {ow : Nat → Prop}
theorem setI_ne (o i v : D) (h : AH) (c : Str) (h' : AH) : setI o i v h ≠ .exc c h' := by
  intro q
  unfold setI at q
  (repeat' split at q) <;> cases q
theorem setF_ne (o : D) (f : Str) (v : D) (h : AH) (c : Str) (h' : AH) : setF o f v h ≠ .exc c h' := by
  intro q
  unfold setF at q
  (repeat' split at q) <;> cases q
theorem TEof.weak {f : AE → AH → R D} {σ : L2.St} {H : Hp} {Q : VK} (x : TEof (ew X cls) W0 f σ H Q) : TEof (ew X cls) W f σ H Q := by
  obtain ⟨ρ, env, h, rs, af⟩ := x
  exact ⟨ρ, env, h, rs, Af.weak af⟩
/-- o[i] = .. -/
theorem g_sub (ck : Ck X cls W k cf n) (z : Zok Z ow) (h1 : EX X cls W cf o co) (h2 : EX X cls W cf e c)
    (ha : ∀ v, assign (.Subscript o e pos) X.env v = (do
      let ov ← holding [v] (eval o X.env)
      let iv ← holding [v, ov] (eval e X.env)
      standAt pos
      holding [v, ov, iv] (setItem ov iv v)
      release [v, ov, iv] []) := by intro _; rfl) : GX X cls Z cf (.Subscript o e pos) (.sub co c) := by
  refine PG.imp (pg_sub h1 h2 (set_D (cls := cls) ck.un) ha) fun v σ H Q h => ?_
  obtain ⟨ρ, d, env, h0, rs, rv, af⟩ := h
  simp only [asg] at af
  refine TEof.weak ⟨ρ, env, h0, rs, Af.imp (Af.bind af) fun ρ1 x h1 H1 g1 r1 af1 vo ro => ?_⟩
  have s1 := rs.step g1 r1
  refine TEof.weak ⟨ρ1, env, h1, s1, Af.imp (Af.bind af1) fun ρ2 y h2 H2 g2 r2 af2 vi ri => ?_⟩
  have s2 := s1.step g2 r2
  cases q : setI x y d h2 with
  | ok u h3 =>
    rw [q, R.bind_ok] at af2
    exact ⟨ρ2, x, y, d, h2, h3, r2, ro.mono g2, ri, (rv.mono g1).mono g2, q, fun H' g r => af2 ρ2 H' g r σ (s2.e.mono g) (z.rf σ)⟩
  | exc c h' => exact absurd q (setI_ne _ _ _ _ _ _)
  | bad => rw [q] at af2; exact (af2 : False).elim

/-! augmented stores -/
theorem io_of {op : Operator} {b : B} {r : R2} (ho : OpR X (inplaceOp op) r) (hr : ∀ i j h z h' H Q, bop b (.int i) (.int j) h = .ok z h' → (h' = h ∧ ∃ t, z = .int t ∧ (Q (.int t) H → r (.int i) (.int j) H Q))) : OpR X (inplaceOp op) (rD (ew X cls) (iopB b)) := by
  intro pins s σ H x y v u Q I rx ry ⟨ρ, d, e, h, z, h', r1, rd, re, g, q⟩
  unfold iopB at g
  split at g
  · rename_i i j
    obtain rfl := rd.intOf
    obtain rfl := re.intOf
    obtain ⟨e1, t, e2, k⟩ := hr i j h z h' H Q g
    subst e1 e2
    exact ho pins s σ H _ _ v u Q I rx ry (k (q ρ H _ .refl r1 (Rep.int _)))
  · cases g
theorem i_add : OpR X (inplaceOp .Add) (rD (ew X cls) (iopB .add)) := io_of iop_add fun i j h z h' H Q g => by
  simp only [bop, addB] at g
  cases g
  exact ⟨rfl, _, rfl, fun q => ⟨i, j, rfl, rfl, q⟩⟩
theorem i_sub : OpR X (inplaceOp .Sub) (rD (ew X cls) (iopB .sub)) := io_of iop_sub fun i j h z h' H Q g => by
  simp only [bop] at g
  cases g
  exact ⟨rfl, _, rfl, fun q => ⟨i, j, rfl, rfl, q⟩⟩
theorem i_mul : OpR X (inplaceOp .Mult) (rD (ew X cls) (iopB .mul)) := io_of iop_mul fun i j h z h' H Q g => by
  simp only [bop, mulB] at g
  split at g
  · rename_i hs
    cases g
    simp only [small, Bool.or_eq_true, decide_eq_true_eq] at hs
    exact ⟨rfl, _, rfl, fun q => ⟨i, j, rfl, rfl, hs, q⟩⟩
  · cases g
theorem iopB_ne (b : B) (d e : D) (h : AH) (c : Str) (h' : AH) : iopB b d e h ≠ .exc c h' := by
  intro q
  unfold iopB at q
  split at q
  · exact bop_ne _ _ _ _ _ _ q
  · cases q
theorem iop_use {b : B} {ρ : List Addr} {H : Hp} {h : AH} {d e : D} {x y : V} {Q : VK} {Df : Ends} {f : D → AH → S} (r : RH (ew X cls) ρ H h) (rd : Rep (ew X cls) ρ H d x) (re : Rep (ew X cls) ρ H e y)
    (sf : Sf (ew X cls) W ρ H ((iopB b d e h).sb f) Df) (q : ∀ z h' ρ' H' v, Gr (ew X cls) ρ H ρ' H' → RH (ew X cls) ρ' H' h' → Rep (ew X cls) ρ' H' z v → Sf (ew X cls) W ρ' H' (f z h') Df → Q v H') : rD (ew X cls) (iopB b) x y H Q := by
  cases g : iopB b d e h with
  | ok z h' =>
    rw [g, R.sb_ok] at sf
    exact ⟨ρ, d, e, h, z, h', r, rd, re, g, fun ρ' H' v g1 r1 rv => q z h' ρ' H' v g1 r1 rv (sf.up g1)⟩
  | exc c h' => exact absurd g (iopB_ne _ _ _ _ _ _)
  | bad => rw [g] at sf; exact (sf : False).elim
theorem s_aug (ck : Ck X cls W k cf n) (i : Nat) {x : Str} {op : Operator} {b : B} {pos' : Pos} (ho : OpR X (inplaceOp op) (rD (ew X cls) (iopB b))) (h1 : EX X cls W cf e c) (hi : X.N[i]? = some x := by rfl) (hx : Loc X.env.scope x := by first | exact Or.inl rfl | exact Or.inr rfl)
    (hf : X.fn x = true ∨ X.env.scope.names.lookup x = some .local := by first | exact .inl rfl | exact .inr rfl) : SX X cls W cf (.AugAssign (.Name x pos') op e pos) (.aug (.name i) b c) := by
  refine PS.imp (ps_aug ck.nd hi hx h1 ho hf) fun D σ H h => ?_
  obtain ⟨ρ, env, h0, rs, sf⟩ := h
  simp only [exec] at sf
  unfold lk at sf
  split at sf
  · rename_i d q
    obtain ⟨v, q1, rv⟩ := rs.e.get q
    refine ⟨v, q1, TEof.use rs (Sf.st sf rs) fun u ρ1 y h1 H1 kn ru sf1 => ?_⟩
    exact iop_use kn.s.h (rv.mono kn.g) ru sf1 fun z h' ρ' H' w g r rw' sf2 => sf2 ρ' H' _ .refl ⟨(kn.s.e.mono g).set i rw', r⟩
  · exact (sf : False).elim
/-! fields -/
theorem setF_use {ρ : List Addr} {H : Hp} {h : AH} {d dv : D} {f : Str} {x v : V} {Df : Ends} {g : Unit → AH → S} {σ : L2.St} (ck : Ck X cls W k cf n) (r : RH (ew X cls) ρ H h) (rd : Rep (ew X cls) ρ H d x) (rv : Rep (ew X cls) ρ H dv v)
    (sf : Sf (ew X cls) W ρ H ((setF d f dv h).sb g) Df) : ∃ a C dx gs, x = .ref a ∧ H a = some (.ins (cls.at_ C) dx gs) ∧ C ∈ cls.own ∧ gs.length < 1000 ∧
      ∃ h', RH (ew X cls) ρ (upd H a (.ins (cls.at_ C) dx (L2.putF f v gs))) h' ∧ Gr (ew X cls) ρ H ρ (upd H a (.ins (cls.at_ C) dx (L2.putF f v gs))) ∧ Sf (ew X cls) W ρ (upd H a (.ins (cls.at_ C) dx (L2.putF f v gs))) (g () h') Df := by
  cases q : setF d f dv h with
  | exc c h' => exact absurd q (setF_ne _ _ _ _ _ _)
  | bad => rw [q] at sf; exact (sf : False).elim
  | ok u h' =>
    rw [q, R.sb_ok] at sf
    unfold setF at q
    split at q
    · rename_i l
      split at q
      · rename_i C fs e
        split at q
        · rename_i hl
          cases q
          obtain ⟨a, dx, gs, rfl, ha, mo, hi, rf⟩ := r.inst rd e
          have gw : Gr (ew X cls) ρ H ρ (upd H a (.ins (cls.at_ C) dx (L2.putF f v gs))) := Gr.write (by rw [hi]; exact True.intro)
          have rw' := r.set (u := .ins (cls.at_ C) dx (L2.putF f v gs)) (o := .ins C (putF f dv fs)) ha gw ⟨mo, dx, _, upd_same, RepF.mono gw (RepF.put rv rf)⟩
          exact ⟨a, C, dx, gs, rfl, hi, mo, by rw [← rf.length]; exact hl, _, rw', gw, sf.up gw⟩
        · cases q
      · cases q
    · cases q
theorem s_fld (ck : Ck X cls W k cf n) (i : Nat) {f : Str} {pos' : Pos} (h1 : EX X cls W cf o co) (h2 : EX X cls W cf e c) (hf : n.fl[i]? = some f := by rfl) (hs : swapsWith e (some (.Attribute o f pos')) pos.line X.env = pure false := by rfl) :
    SX X cls W cf (.Assign [.Attribute o f pos'] e pos) (.fld co f c) := by
  refine PS.imp (ps_fld h1 h2 hs) fun D σ H h => ?_
  obtain ⟨ρ, env, h0, rs, sf⟩ := h
  simp only [exec] at sf
  refine TEof.use rs (Sf.st sf rs) fun y ρ1 dy h1 H1 kn ry sf1 => ?_
  refine TEof.use kn.s (Sf.st sf1 kn.s) fun x ρ2 dx h2 H2 kn2 rx sf2 => ?_
  obtain ⟨a, C, dx', gs, rfl, hi, mo, hl, h', r', g', sf3⟩ := setF_use (σ := σ) ck kn2.s.h rx (ry.mono kn2.g) sf2
  exact ⟨a, cls.at_ C, dx', gs, rfl, hi, ck.pk.cl C mo, ck.pk.na C mo f (List.mem_of_getElem? hf), hl, sf3 ρ2 _ σ .refl ⟨kn2.s.e.mono g', r'⟩⟩
/-- o.f op= e, whatever the operand does to the object -/
def rFldAug (K : PySem.W.Frag) (to tv : TE) (rd : R2) (f : Str) : TS := fun D σ H => to σ H fun x H1 => ∃ a C dx fs v, x = .ref a ∧ H1 a = some (.ins C dx fs) ∧ Cls K C ∧ NoAttr K C f ∧ fs.lookup f = some v ∧
  tv σ H1 fun y H2 => rd v y H2 fun z H3 => ∃ C' dx' fs', H3 a = some (.ins C' dx' fs') ∧ Cls K C' ∧ NoAttr K C' f ∧ fs'.length < 1000 ∧ D.nx σ (upd H3 a (.ins C' dx' (L2.putF f z fs')))
theorem ps_fldaugG {op : Operator} {rd : R2} {to tv : TE} {f : Str} {tpos : Pos} (h1 : PE X o to) (h2 : PE X e tv) (ho : OpR X (inplaceOp op) rd) : PS X (.AugAssign (.Attribute o f tpos) op e pos) (rFldAug X.K to tv rd f) := by
  refine ⟨fun pins s σ H D I h => ?_⟩
  refine wpAny_AugAssign_AttributeAny (thn (h1.run pins s σ H _ I h) fun w1 s1 ⟨x, H1, I1, rx, a, C, dx, fs, v, ex, ea, cl, na, lo, q⟩ => ?_)
  subst ex
  obtain rfl : w1 = Value.ref a := rx
  refine getattr_ok I1 ea cl na lo fun u s2 I2 ru => ?_
  refine thn (h2.run pins s2 σ H1 _ I2 q) fun w3 s3 ⟨y, H2, I3, ry, q3⟩ => ?_
  refine thn (ho pins s3 σ H2 v y u w3 _ I3 ru ry q3) fun w4 s4 ⟨z, H3, I4, rz, C', dx', fs', ea', cl', na', lo', q4⟩ => ?_
  exact setattr_ok I4 ea' cl' na' lo' rz fun s5 I5 => ⟨σ, _, I5, q4⟩
theorem s_fldaug (ck : Ck X cls W k cf n) (i : Nat) {f : Str} {tpos : Pos} {op : Operator} {b : B} (ho : OpR X (inplaceOp op) (rD (ew X cls) (iopB b))) (h1 : EX X cls W cf o co) (h2 : EX X cls W cf e c) (hf : n.fl[i]? = some f := by rfl) :
    SX X cls W cf (.AugAssign (.Attribute o f tpos) op e pos) (.aug (.attr co f) b c) := by
  refine PS.imp (ps_fldaugG h1 h2 ho) fun D σ H h => ?_
  obtain ⟨ρ, env, h0, rs, sf⟩ := h
  simp only [exec] at sf
  refine TEof.use rs (Sf.st sf rs) fun ov ρ1 d h1 H1 kn rv sf1 => ?_
  unfold getF at sf1
  split at sf1
  · rename_i l
    split at sf1
    · rename_i C fs q
      split at sf1
      · rename_i z hz
        rw [R.sb_ok] at sf1
        obtain ⟨a, dx, gs, rfl, ha, mo, hi, rf⟩ := kn.s.h.inst rv q
        obtain ⟨u, hu, ru⟩ := rf.look hz
        refine ⟨a, cls.at_ C, dx, gs, u, rfl, hi, ck.pk.cl C mo, ck.pk.na C mo f (List.mem_of_getElem? hf), hu, TEof.use kn.s (Sf.st sf1 kn.s) fun y ρ2 dy h2 H2 kn2 ry sf2 => ?_⟩
        refine iop_use kn2.s.h (ru.mono kn2.g) ry sf2 fun z h3 ρ3 H3 w g3 r3 rw' sf3 => ?_
        obtain ⟨a', C', dx', gs', e1, hi', mo', hl', h', r', g', sf4⟩ := setF_use (σ := σ) ck r3 ((rv.mono kn2.g).mono g3) rw' sf3
        cases e1
        exact ⟨cls.at_ C', dx', gs', hi', ck.pk.cl C' mo', ck.pk.na C' mo' f (List.mem_of_getElem? hf), hl', sf4 ρ3 _ σ .refl ⟨(kn2.s.e.mono g3).mono g', r'⟩⟩
      · exact (sf1 : False).elim
    · exact (sf1 : False).elim
  · exact (sf1 : False).elim
end

/-! defs -/
theorem RepE.frame {E : Ew} {ρ : List Addr} {H : Hp} (m : Nat) : ∀ {ds : List D} {vs : List V}, RepL E ρ H ds vs → RepE E ρ H (ds.map some ++ List.replicate m none) (vs.map some ++ List.replicate m none)
  | [], _, h => by
    rw [RepL.nil_iff] at h
    subst h
    simp only [List.map_nil, List.nil_append]
    induction m with
    | zero => rfl
    | succ m ih => exact ⟨none, _, rfl, (fun x z => nomatch z), ih⟩
  | d :: ds, _, h => by
    obtain ⟨v, r, rfl, rv, t⟩ := h.uncons
    exact ⟨some v, _, rfl, (fun x z => by cases z; exact ⟨v, rfl, rv⟩), RepE.frame m t⟩
theorem fn_zero {E : Ew} {base : Heap} {k : Nat} {f : Addr} {fd : FuncData} {ps : List Str} {g : List D → AH → R D} (hg : ∀ l h, g l h = .bad) : FnOk E.P E.w E.K E.mg base (L2.CX E.P E.w) k f fd ps (spD E g) := by
  have no : ∀ {vs H Q Ex}, spD E g vs H Q Ex → False := fun {vs H Q Ex} ⟨ρ, ds, h, _, _, m⟩ => by rw [hg] at m; exact m
  exact ⟨fun _ _ _ _ h => (no h).elim, fun _ _ _ _ _ _ _ _ _ _ _ _ _ h => (no h).elim⟩
abbrev eK (P : Program) (w : World) (K : PySem.W.Frag) (mg : Str → Option Value) (cls : Ka) : Ew := ⟨P, w, K, mg, cls.at_, cls.own⟩
theorem fn_body {P : Program} {w : World} {K : PySem.W.Frag} {mg : Str → Option Value} {base : Heap} {cls : Ka} {qual : Str} {st : Stmt} {f : Addr} {N ps : List Str} {k : Nat} {cf : Cf} {n : Nm} {d : Fd}
    (S : FnScope N ps (defScope st)) (hp : ps.length = d.ps) (hN : N.length = d.slots) (pk : Pk (eK P w K mg cls) base k cf n)
    (cdv : Value) (A : Around) (outer : List Env) (s : Shared) (H : Hp) (vs : List V) (Q : VK) (E : XK) (hb : Sk (cxOf (L2.CX P w) P w K mg base N qual (defScope st) f cdv A outer s H E) cls (fun c d _ H => E c d H) k cf n →
      SXs (cxOf (L2.CX P w) P w K mg base N qual (defScope st) f cdv A outer s H E) cls (fun c d _ H => E c d H) cf (defBody st) d.body)
    (hr : Room (k + 1) (A.deeper (envOfC qual (defScope st) s.heap.objs.size f cdv))) (h : spD (eK P w K mg cls) (runF (some d) cf) vs H Q E) :
      ∃ t, PSs (cxOf (L2.CX P w) P w K mg base N qual (defScope st) f cdv A outer s H E) (defBody st) t ∧ t { nx := fun _ H' => Q .non H', rt := Q } (L2.start N vs) H := by
  obtain ⟨ρ, ds, h, r, rl, m⟩ := h
  by_cases hl : ds.length = d.ps
  · rw [show runF (some d) cf ds h = outS (execs cf d.body (frame d ds) h) from if_pos hl] at m
    refine ⟨_, hb ⟨⟨S.nd, rfl, hr, takes_of rfl rfl rfl rfl, pk⟩, passes_of rfl, rfl, rfl⟩, ρ, frame d ds, h, ⟨?_, r⟩, ?_⟩
    · unfold frame L2.start
      rw [← rl.length, hl, hN]
      exact RepE.frame _ rl
    · generalize execs cf d.body (frame d ds) h = z at m
      cases z with
      | nx env h' => exact fun ρ' H' σ' g r' => m ρ' H' .non g r'.h Rep.non
      | rt v h' => exact fun ρ' H' w g r' rv => m ρ' H' w g r' rv
      | exc c env h' => exact fun ρ' H' σ' g r' => m ρ' H' g r'.h
      | bk env h' => exact (m : False).elim
      | ct env h' => exact (m : False).elim
      | bad => exact (m : False).elim
  · rw [show runF (some d) cf ds h = .bad from if_neg hl] at m
    exact m.elim
theorem spD_len {E : Ew} {d : Fd} {cf : Cf} {vs : List V} {H : Hp} {Q : VK} {Ex : XK} (h : spD E (runF (some d) cf) vs H Q Ex) : vs.length = d.ps := by
  obtain ⟨ρ, ds, h, r, rl, m⟩ := h
  by_cases hl : ds.length = d.ps
  · rw [← rl.length, hl]
  · rw [show runF (some d) cf ds h = .bad from if_neg hl] at m
    exact m.elim
/-- a def of the text keeps the promise of its core -/
theorem fn_D {P : Program} {w : World} {K : PySem.W.Frag} {mg : Str → Option Value} {base : Heap} {cls : Ka} {x qual : Str} {st : Stmt} {f : Addr} {fd : FuncData} (N ps : List Str) {k : Nat} {cf : Cf} {n : Nm} {d : Fd} (F : Fun K x qual st f fd)
    (S : FnScope N ps (defScope st)) (hp : ps.length = d.ps) (hN : N.length = d.slots) (pk : Pk (eK P w K mg cls) base k cf n)
    (hb : ∀ (cdv : Value) (A : Around) (outer : List Env) (s : Shared) (H : Hp) (E : XK), Sk (cxOf (L2.CX P w) P w K mg base N qual (defScope st) f cdv A outer s H E) cls (fun c d _ H => E c d H) k cf n →
      SXs (cxOf (L2.CX P w) P w K mg base N qual (defScope st) f cdv A outer s H E) cls (fun c d _ H => E c d H) cf (defBody st) d.body) :
    FnOk P w K mg base (L2.CX P w) (k + 2) f fd ps (spD (eK P w K mg cls) (runF (some d) cf)) :=
  F.okX S (fun vs H Q E h => (spD_len h).trans hp.symm) (fun cdv A outer s H vs Q E hr h => fn_body S hp hN pk cdv A outer s H vs Q E (hb cdv A outer s H E) hr h)
end DL

/-! DL, part o: repr, isinstance. -/
namespace DL
open PySem PySem.Spec PyProof.Rows L2
mutual
theorem plain_nodict : ∀ p : PyData, p.plain = true → p.hasDict = false
  | .none, _ => rfl
  | .bool _, _ => rfl
  | .int _, _ => rfl
  | .str _, _ => rfl
  | .tuple l, h => by simp only [PyData.plain] at h; simp only [PyData.hasDict]; exact plain_nodictL l h
  | .list l, h => by simp only [PyData.plain] at h; simp only [PyData.hasDict]; exact plain_nodictL l h
  | .dict _, h => by simp [PyData.plain] at h
theorem plain_nodictL : ∀ p : List PyData, PyData.plainAll p = true → PyData.hasDictAll p = false
  | [], _ => rfl
  | a :: r, h => by
    simp only [PyData.plainAll, Bool.and_eq_true] at h
    simp only [PyData.hasDictAll, Bool.or_eq_false_iff]
    exact ⟨plain_nodict a h.1, plain_nodictL r h.2⟩
end
section
variable {X : Cx} {cls : Ka} {W : WX} {k : Nat} {cf : Cf} {n : Nm}
variable {e e1 e2 e3 o : Expr} {c c1 c2 c3 co : CE} {es : List Expr} {ces : List CE} {pos p apos : Pos} {tg : Expr}
theorem c_repr (hg : X.A.guards = some []) (hu : X.A.units + 64 < cLine) : CallR X (.builtin "repr") (rC (ew X cls) (bi .repr)) := by
  intro pins s σ H vs us Q I rv ⟨ρ, ds, h, z, h', r, tl, g, q⟩
  unfold bi at g
  split at g
  · rename_i d
    obtain ⟨v, rest, rfl, rd, rest0⟩ := tl.uncons
    rw [RepL.nil_iff.mp rest0] at rv
    obtain ⟨u, rfl, ru⟩ := vals1 rv
    have g : reprB d h = .ok z h' := g
    unfold reprB at g
    split at g
    · rename_i p e
      split at g
      · rename_i hc
        simp only [Bool.and_eq_true, decide_eq_true_eq] at hc
        obtain ⟨h1, h2, h3⟩ := hc
        cases g
        have dp := pd_dp r e rd
        obtain ⟨pl, dep⟩ := pd_plain e
        obtain ⟨a, rfl⟩ : ∃ a, v = V.ref a := by
          cases d <;> simp only [isSq] at h1 <;> first | (obtain ⟨a, _, rfl, _⟩ := rd.tupOf; exact ⟨a, rfl⟩) | (obtain ⟨a, _, rfl, _⟩ := rd.wlOf; exact ⟨a, rfl⟩) | (simp only [Rep] at rd; obtain ⟨a, rfl, _⟩ := rd; exact ⟨a, rfl⟩) | cases h1
        obtain rfl : u = Value.ref a := ru
        obtain ⟨as, rr⟩ := Dp.reads I p _ _ dp rfl
        refine repr_of_reads' rr h2 (fun z => by rw [plain_nodict p pl] at z; cases z) hg (by omega) (fun _ _ e => e) (fun h2 t tk hk => ?_) (by rw [← SZ_eq]; exact h3)
        exact ⟨.str p.shown, H, I.kept hk, ⟨_, rfl⟩, q ρ H _ .refl r (Rep.str _)⟩
      · cases g
    · cases g
  · cases g
  · cases g
theorem e_repr (ck : Ck X cls W k cf n) {x : Str} (hgd : X.A.guards = some []) (ha : EXs X cls W cf (e :: es) ces) (hm : X.mg x = none) (hv : bootBuiltins x = some (.builtin "repr") := by rfl) (hg : Gl X x := by rfl)
    (hn : x ≠ "__name__" := by decide) (hdb : (x == ("__debug__" : Str)) = false := by decide) (he : starEach (e :: es) X.env = (false, eval e X.env) :: starEach es X.env := by rfl) (hpl : (backTo pos (starEach es X.env)).any (·.1) = false := by rfl) :
    EX X cls W cf (.Call (.Name x p) (e :: es) [] pos) (.bi .repr ces) :=
  PE.imp (pe_callB (c_repr hgd ck.un) hg hm hv ha hn hdb he hpl) fun _ _ _ h => tB_of h

/-! repr(x) == repr(y) -/
mutual
theorem same_eq : ∀ p q : PyData, same p q = true → p = q
  | .none, q, h => by cases q <;> simp [same] at h <;> rfl
  | .bool a, q, h => by cases q <;> simp [same] at h <;> simp [h]
  | .int a, q, h => by cases q <;> simp [same] at h <;> simp [h]
  | .str a, q, h => by cases q <;> simp [same] at h <;> simp [h]
  | .list l, q, h => by
    cases q <;> simp [same] at h
    rw [sameL_eq l _ h]
  | .tuple l, q, h => by
    cases q <;> simp [same] at h
    rw [sameL_eq l _ h]
  | .dict l, q, h => by cases q <;> simp [same] at h
theorem sameL_eq : ∀ p q : List PyData, sameL p q = true → p = q
  | [], [], _ => rfl
  | [], _ :: _, h => by simp [sameL] at h
  | _ :: _, [], h => by simp [sameL] at h
  | a :: r, b :: s, h => by
    simp only [sameL, Bool.and_eq_true] at h
    rw [same_eq a b h.1, sameL_eq r s h.2]
end
theorem ofString_len (x : String) : (Str.ofString x).length = x.length := by
  rw [Str.ofString_eq_toList]
  show (x.toList.map Char.toNat).toArray.size = _
  rw [List.size_toArray, List.length_map]
  exact String.length_toList
mutual
theorem shown_le : ∀ p : PyData, shC p ≤ 16777216 → p.shown.length ≤ shC p
  | .none, _ => by simp only [PyData.shown, shC]; decide +kernel
  | .bool b, _ => by cases b <;> simp only [PyData.shown, shC] <;> decide +kernel
  | .int i, _ => by
    simp only [PyData.shown, shC]
    have := int_text_length_le (a := i) (k := i.natAbs.log2 + 1) (by omega) (by omega)
    rw [ofString_len]
    omega
  | .str x, h => by simp only [shC] at h; omega
  | .list l, h => by
    simp only [PyData.shown, shC] at h ⊢
    have h1 := listText_len_le (PyData.shownAll l)
    have h2 := shownL_le l (by omega)
    omega
  | .tuple l, h => by
    simp only [PyData.shown, shC] at h ⊢
    have h1 := tupleText_len_le (PyData.shownAll l)
    have h2 := shownL_le l (by omega)
    omega
  | .dict _, h => by simp only [shC] at h; omega
theorem shownL_le : ∀ l : List PyData, shL l ≤ 16777216 → ((PyData.shownAll l).map (·.length)).sum + 2 * (PyData.shownAll l).length ≤ shL l
  | [], _ => by simp [PyData.shownAll, shL]
  | a :: r, h => by
    simp only [shL] at h
    have h1 := shown_le a (by omega)
    have h2 := shownL_le r (by omega)
    simp only [PyData.shownAll, List.map_cons, List.sum_cons, List.length_cons, shL]
    omega
end
theorem repr_shO {d : D} {h : AH} {p : PyData} (e : shO d h = some p) : reprB d h = .ok (.str p.shown) h := by
  unfold shO at e
  unfold reprB
  cases q : pd h d with
  | none => rw [q] at e; cases e
  | some p' =>
    rw [q] at e
    simp only at e ⊢
    split at e
    · rename_i c
      cases e
      simp only [Bool.and_eq_true, decide_eq_true_eq] at c
      have := shown_le p (show shC p ≤ 16777216 from c.2.2)
      have z : (isSq d && (p.showable && decide (p.shown.length ≤ SZ))) = true := by
        simp only [Bool.and_eq_true, decide_eq_true_eq]
        exact ⟨c.1, c.2.1, Nat.le_trans this c.2.2⟩
      rw [if_pos z]
    · cases e
theorem reqr_ev (ne : Bool) (env : AE) (h : AH) : ev cf (.reqr ne c1 c2) env h = .bad ∨ ev cf (.reqr ne c1 c2) env h = ev cf (.bop (if ne then .ne else .eq) (.bi .repr [c1]) (.bi .repr [c2])) env h := by
  simp only [ev, evs]
  cases ev cf c1 env h with
  | bad => exact .inl rfl
  | exc c h' => exact .inr rfl
  | ok x h1 =>
    simp only [R.bind_ok]
    cases q1 : shO x h1 with
    | none => exact .inl rfl
    | some p =>
      have e1 : bi .repr [x] h1 = .ok (.str p.shown) h1 := repr_shO q1
      rw [e1]
      simp only [R.bind_ok]
      cases ev cf c2 env h1 with
      | bad => exact .inl rfl
      | exc c h' => exact .inr rfl
      | ok y h2 =>
        simp only [R.bind_ok]
        cases q2 : shO y h2 with
        | none => exact .inl rfl
        | some p2 =>
          have e2 : bi .repr [y] h2 = .ok (.str p2.shown) h2 := repr_shO q2
          rw [e2]
          simp only [R.bind_ok]
          cases q3 : same p p2 with
          | false => exact .inl rfl
          | true =>
            right
            have e3 := same_eq p p2 q3
            subst e3
            rw [if_pos rfl]
            cases ne <;> simp [bop, eqB, ob]
theorem reqr_TE {ne : Bool} {σ : L2.St} {H : Hp} {Q : VK} (h : TEof (ew X cls) W (ev cf (.reqr ne c1 c2)) σ H Q) : TEof (ew X cls) W (ev cf (.bop (if ne then .ne else .eq) (.bi .repr [c1]) (.bi .repr [c2]))) σ H Q := by
  obtain ⟨ρ, env, h0, rs, af⟩ := h
  rcases reqr_ev (cf := cf) (c1 := c1) (c2 := c2) ne env h0 with z | z
  · rw [z] at af; exact (af : False).elim
  · rw [z] at af; exact ⟨ρ, env, h0, rs, af⟩
theorem e_reqr (ne : Bool) (h : EX X cls W cf e (.bop (if ne then .ne else .eq) (.bi .repr [c1]) (.bi .repr [c2]))) : EX X cls W cf e (.reqr ne c1 c2) := PE.imp h fun _ _ _ z => reqr_TE z
theorem t_reqr (ne : Bool) (h : TX X cls W cf e (.bop (if ne then .ne else .eq) (.bi .repr [c1]) (.bi .repr [c2]))) : TX X cls W cf e (.reqr ne c1 c2) := PT.imp h fun σ H Q z => by
  obtain ⟨ρ, env, h0, rs, af⟩ := z
  refine ⟨ρ, env, h0, rs, ?_⟩
  unfold tst at af ⊢
  rcases reqr_ev (cf := cf) (c1 := c1) (c2 := c2) ne env h0 with z | z
  · rw [z] at af; exact (af : False).elim
  · rw [z] at af; exact af
/-! isinstance -/
def tyS : TyN → String
  | .int => "int"
  | .bool => "bool"
  | .str => "str"
  | .tuple => "tuple"
  | .list => "list"
  | .non => "NoneType"
theorem kit_le (a b : TyN) : b ≠ .non → kitB (tyS a) (tyS b) = some (tyLe a b) := by
  intro h
  cases a <;> cases b <;> first | exact absurd rfl h | decide +kernel
theorem ty_of {ρ : List Addr} {H : Hp} {h : AH} {d : D} {v : V} {T : TyN} (r : RH (ew X cls) ρ H h) (rd : Rep (ew X cls) ρ H d v) (e : tyN h d = some T) : TyX X.K H v (.type (tyS T)) := by
  unfold tyN at e
  split at e
  · cases e; obtain rfl := rd.nonOf; exact .base .non
  · cases e; obtain rfl := rd.blOf; exact .base (.bl _)
  · cases e; obtain rfl := rd.intOf; exact .base (.int _)
  · cases e; obtain rfl := rd.strOf; exact .base (.str _)
  · cases e
    obtain ⟨a, xs, rfl, hq, _⟩ := rd.tupOf
    rcases hq with hq | ⟨o, _, _, hk, hc, _⟩
    · exact .base (.tup hq)
    · exact .kTuple hk hc
  · cases e
    obtain ⟨a, xs, rfl, hq, _⟩ := rd.wlOf
    rcases hq with ⟨o, hq⟩ | ⟨o, _, _, hk, hc, _⟩
    · exact .base (.frz hq)
    · exact .kList hk hc
  · split at e
    · rename_i q
      cases e
      obtain ⟨a, xs, rfl, _, hx, _⟩ := r.lst rd q
      exact .base (.lst hx)
    · cases e
  · cases e
/-- isinstance(x, T) -/
theorem e_isi (t : TyN) {y : Str} {p2 : Pos} (h1 : EX X cls W cf e c) (hm : X.mg "isinstance" = none) (hm2 : X.mg y = none) (ht : t ≠ .non := by nofun) (hv2 : bootBuiltins y = some (.type (tyS t)) := by rfl) (hg : Gl X "isinstance" := by rfl) (hg2 : Gl X y := by rfl)
    (hn : y ≠ "__name__" := by decide) (hdb : (y == ("__debug__" : Str)) = false := by decide)
    (hs : starEach [e, .Name y p2] X.env = (false, eval e X.env) :: starEach [.Name y p2] X.env := by rfl) (hs2 : starEach [.Name y p2] X.env = (false, eval (.Name y p2) X.env) :: starEach [] X.env := by rfl) (hpl : (backTo pos (starEach [.Name y p2] X.env)).any (·.1) = false := by rfl) :
    EX X cls W cf (.Call (.Name "isinstance" p) [e, .Name y p2] [] pos) (.isi c [t]) := by
  refine PE.imp (pe_callB (call_isi (X := X)) hg hm rfl (pa_cons h1 (pa_cons (pe_bltn (v := .ty (tyS t)) hg2 hm2 hv2 rfl hn hdb) pa_nil hs2) hs) (by decide) (by decide) hs hpl) fun σ H Q h => ?_
  obtain ⟨ρ, env, h0, rs, af⟩ := h
  simp only [ev] at af
  refine TEof.use rs (Af.bind af) fun v ρ1 d h1 H1 kn rv af1 => ?_
  show rIsi X.K _ H1 Q
  unfold isAny at af1
  cases q : tyN h1 d with
  | none => rw [q] at af1; exact (af1 : False).elim
  | some T =>
    rw [q] at af1
    have z : List.any [t] (tyLe T) = tyLe T t := by simp
    refine ⟨v, .ty (tyS t), _, _, tyLe T t, rfl, .ty _, ty_of kn.s.h rv q, kit_ty (kit_le T t ht), ?_⟩
    have af2 := af1 ρ1 H1 .refl kn.s.h (.bl (tyLe T t)) (by show Rep _ _ _ (.bl ([t].any (tyLe T))) _; rw [z]; exact Rep.bl _)
    exact af2
end
end DL

/-! DL, part p: the law's own def, called by the caller; the row's end. -/
namespace DL
open PySem PySem.Spec PyProof.Rows L2
section
variable {P : Program} {w : World} {K : PySem.W.Frag} {mg : Str → Option Value} {base : Heap} {cls : Ka}
/-- a def at one place of the stack: what its body gives there -/
theorem fn_here {x qual : Str} {st : Stmt} {f : Addr} {fd : FuncData} {N ps : List Str} {k : Nat} {A : Around} {outer : List Env} {s : Shared} {H : Hp} {args : Args} {us : List Value} {vs : List V} {Q : VK} {Ex : XK} (F : Fun K x qual st f fd)
    (S : FnScope N ps (defScope st)) (hl : vs.length = ps.length) (room : Room (k + 1) A) (e0 : Env0 P w K mg base A outer s H) (bi : BindsTo s fd args (ps.zip us)) (rv : Vals vs us)
    (body : ∀ cdv : Value, ∃ t, PSs (cxOf (L2.CX P w) P w K mg base N qual (defScope st) f cdv A outer s H Ex) (defBody st) t ∧ t { nx := fun _ H' => Q .non H', rt := Q } (L2.start N vs) H) :
    codeAny (model P w) A (.call (.ref f) args) (CR (L2.CX P w) outer P w H s Q Ex) s := by
  obtain ⟨oc, od, kV, doc, pm, an, cdv, ct, osl, rfl, lk, hcd⟩ := F.ex
  have hK : K.In s.heap := e0.mod.kin.keeps fun b o q => (e0.bs b o q).1
  have hL : s.heap.NoLimit := e0.mod.nolimit.keeps fun b o q => (e0.bs b o q).1
  have hkd : ∀ y ∈ ps.zip us, (defScope st).names.lookup y.1 = some .local ∨ ((defScope st).names.lookup y.1 = some .cell ∧ ((cellsFrom (s.heap.objs.size + 1) (defScope st).names []).lookup y.1).isSome = true) := by
    rintro ⟨nm, v⟩ hy
    exact (S.par nm (List.of_mem_zip hy).1).imp id fun q => ⟨q, PySem.W.cellsFrom_some _ _ _ (.inl q)⟩
  refine codeAny_call_function room.depth (hK _ _ lk) rfl S.co S.gen rfl (PySem.W.codeRec_of hK hcd) (bi _ _ _ _ ?_)
  refine wpAny_newFunctionEnv_cells S.kind hkd fun env he s1 ic => ?_
  subst he
  refine ⟨hL.keeps ic.toInCall.keep, codeAny_func ?_⟩
  obtain ⟨t, ht, hq⟩ := body cdv
  have I := inv_start (CX := L2.CX P w) (E := Ex) (P := P) (qual := qual) (f := f) (cd := cdv) S room.hd e0 hl rv ic
  refine wpAny_mono (ht.run [] s1 (L2.start N vs) H _ I hq) (fun fl s2 hs => ?_) fun _ _ z => z
  cases fl with
  | next => obtain ⟨σ2, H2, J, q⟩ := hs; exact ⟨.non, H2, J.os, J.bare, J.base, J.hok, (rfl : Value.none = Value.none), q⟩
  | ret u => obtain ⟨v, σ2, H2, J, r, q⟩ := hs; exact ⟨v, H2, J.os, J.bare, J.base, J.hok, r, q⟩
  | brk => obtain ⟨_, _, _, q⟩ := hs; exact q.elim
  | cont => obtain ⟨_, _, _, q⟩ := hs; exact q.elim

/-- what the law's def promises to the caller -/
def LawOk (P : Program) (w : World) (K : PySem.W.Frag) (mg : Str → Option Value) (base : Heap) (fa : Addr) (a : Addr) (ns : List Int) : Prop :=
  ∀ (s : Shared) (H : Hp), Env0 P w K mg base callerA [] s H → Fz K H a (ns.map V.int) →
    codeAny (model P w) callerA (.call (.ref fa) ⟨[.ref a], []⟩) (CR (L2.CX P w) [] P w H s (fun v _ => v = .bl true) fun _ _ _ => False) s
theorem cx_no {s s' : Shared} {H : Hp} {e : Value} (h : L2.CX P w [] H s (fun _ _ _ => False) e s') : False := by
  obtain ⟨_, _, _, _, _, _, _, _, _, _, _, _, z⟩ := h
  exact z
/-- the caller's view -/
theorem law_run {mb : Str → Option Value} {fa a : Addr} {s : Shared} {vs : List Value} {ns : List Int}
    (KX : K.In s.heap) (hns : s.heap.Ns mainGlobals mg) (hb : s.heap.Ns builtinsNs mb) (hbb : ∀ x : Str, x ≠ "__name__" → mb x = bootBuiltins x) (hlim : s.heap.NoLimit) (hg : s.gens = #[])
    (ha : s.heap.get? a = some { cls := .type "list", data := .seq vs.toArray }) (hi : IntsAre vs ns) (hl : ns.length ≤ sizeLine)
    (F : ∀ base : Heap, K.In base → base.Ns mainGlobals mg → LawOk P w K mg base fa a ns) :
    codeAny (model P w) callerA (.call (.ref fa) ⟨[.ref a], []⟩) (fun r s' => r = .ok (.ret (.bool true)) ∧ OldK s.heap s'.heap ∧ s'.os = s.os ∧ AllBare s'.gens) s := by
  have rv := vals_ints hi
  -- one abstract heap: empty, or the script alone, locked
  suffices main : ∀ H : Hp, (∀ b u, H b = some u → b = a ∧ K.lookup a = none ∧ ∃ o xs, u = .frz o (.lst xs)) → Fz K H a (ns.map V.int) → HOk P w H s.heap →
      codeAny (model P w) callerA (.call (.ref fa) ⟨[.ref a], []⟩) (fun r s' => r = .ok (.ret (.bool true)) ∧ OldK s.heap s'.heap ∧ s'.os = s.os ∧ AllBare s'.gens) s by
    cases hk : K.lookup a with
    | some o =>
      have e := KX a o hk
      rw [ha] at e
      cases e
      exact main (fun _ => none) (fun _ _ z => nomatch z) (.inr ⟨_, vs.toArray, _, hk, rfl, rfl, rfl, by rw [List.size_toArray, hi.length]; exact hl, by simpa using rv⟩) (fun _ _ z => nomatch z)
    | none =>
      have e1 : ∀ b u, (if b = a then some (HO.frz { cls := .type "list", data := .seq vs.toArray } (.lst (ns.map V.int))) else none) = some u → b = a ∧ u = HO.frz { cls := .type "list", data := .seq vs.toArray } (.lst (ns.map V.int)) := fun b u z => by
        by_cases hb : b = a
        · rw [if_pos hb] at z; cases z; exact ⟨hb, rfl⟩
        · rw [if_neg hb] at z; cases z
      refine main (fun b => if b = a then some (.frz { cls := .type "list", data := .seq vs.toArray } (.lst (ns.map V.int))) else none) (fun b u z => ⟨(e1 b u z).1, hk, _, _, (e1 b u z).2⟩) (.inl ⟨_, if_pos rfl⟩) fun b u z => ?_
      obtain ⟨rfl, rfl⟩ := e1 b u z
      exact ⟨ha, by rw [List.length_map]; exact hl, vs, _, rv, ha⟩
  intro H hO hS hok
  have keep : ∀ {b : Addr} {o : Obj}, s.heap.get? b = some o → H b = none → (hidT s.heap H).get? b = some o := fun e z => hidT_get e z
  have free : ∀ {b : Addr} {o : Obj} {es : Array DictEntry} {ep : Nat}, s.heap.get? b = some o → o.data = .dict es ep → H b = none := fun {b o es ep} e d => by
    cases q : H b with
    | none => rfl
    | some u =>
      obtain ⟨rfl, _⟩ := hO b u q
      rw [ha] at e
      cases e
      exact nomatch (show Data.seq vs.toArray _ = Data.dict es ep from d)
  have ns' : ∀ {b : Addr} {m : Str → Option Value}, s.heap.Ns b m → (hidT s.heap H).Ns b m := fun {b m} ⟨o, es, ep, e, d, r⟩ => ⟨o, es, ep, keep e (free e d), d, r⟩
  have K' : K.In (hidT s.heap H) := fun b o e => keep (KX b o e) (by
    cases q : H b with
    | none => rfl
    | some u =>
      obtain ⟨rfl, z, _⟩ := hO b u q
      rw [z] at e
      cases e)
  have M' : Mod K mg (hidT s.heap H) := ⟨K', ns' hns, ⟨mb, ns' hb, hbb⟩, let ⟨mc, h1, h2⟩ := hlim; ⟨mc, ns' h1, h2⟩⟩
  have E' : Env0 P w K mg (hidT s.heap H) callerA [] s H := ⟨rfl, M', fun b o e => of_hidT e, Nat.le_of_eq (hidT_size _ _), trivial, (fun b hb => nomatch hb), hok, .of_eq hg⟩
  refine codeAny_mono (F _ K' (ns' hns) s H E' hS) fun r s' h => ?_
  cases r with
  | error e => exact (cx_no h).elim
  | ok fl =>
    cases fl with
    | next => exact False.elim h
    | brk => exact False.elim h
    | cont => exact False.elim h
    | ret u =>
      obtain ⟨v, H', os, bare, un, hok', r', q⟩ := h
      obtain rfl : v = .bl true := q
      obtain rfl : u = Value.bool true := r'
      refine ⟨rfl, OldK.of_keep fun b o e => ?_, os, bare⟩
      cases q : H b with
      | none => exact un.keep b o e q (fun z => nomatch z) (fun z => nomatch z)
      | some u =>
        obtain ⟨rfl, _, ob, xs, rfl⟩ := hO b u q
        have z1 := (hok b _ q).1
        have z2 := (hok' b _ (un.frzs b ob _ q)).1
        rw [e] at z1
        cases z1
        exact z2
end
/-- the row's end: the goal that stands behind the head -/
theorem walk_D {l : PySem.W.OpenLaw} {n : Nat} {q : Program} {loose : List Str} {XP : (Str → Option Value) → Heap → Prop} {YP : World → Heap → Prop} {d : DefRec} {K : Params → PySem.W.Frag}
    (hn : l.most = some n) (hn2 : n ≤ sizeLine) (hdf : d.params.defaults = [])
    (hY : ∀ (w : World) (h : Heap), YP w h → (K w.params).In h)
    (F : ∀ (w : World) (mg : Str → Option Value) (fa : Addr) (h : Heap), (K w.params).In h → h.Ns mainGlobals mg → mg d.name = some (.ref fa) →
      ∀ (a : Addr) (ns : List Int), ns.length ≤ n → (∀ z ∈ ns, Builtin.Int.intBits z ≤ 1048576) → ∀ base : Heap, (K w.params).In base → base.Ns mainGlobals mg → LawOk l.prog w (K w.params) mg base fa a ns) :
    PySem.W.WalkO q loose XP YP l.row.toRowW d [] (fun f vs => PySem.call f vs) := by
  refine Att.attach_callB hn hdf fun w s₀ s₁ mg mb fa o pm cd doc a vs ns G Y ho hd hcd hmg hobj hints hlen hbits hg => ?_
  exact law_run (hY w _ Y) G.T.g G.T.b G.T.builtins G.T.nolimit hg hobj hints (Nat.le_trans hlen hn2) (F w mg fa _ (hY w _ Y) G.T.g hmg a ns hlen hbits)
/-- the law's def by its core -/
theorem law_D {P : Program} {w : World} {K : PySem.W.Frag} {mg : Str → Option Value} {base : Heap} {cls : Ka} {x qual : Str} {st : Stmt} {fa : Addr} {fd : FuncData} (N : List Str) (y : Str) {k : Nat} {cf : Cf} {n : Nm} {d : Fd} {a : Addr} {ns : List Int} (F : Fun K x qual st fa fd)
    (S : FnScope N [y] (defScope st)) (hp : d.ps = 1) (hN : N.length = d.slots) (bi : Binds K fd [y] []) (room : Room (k + 2) callerA) (pk : Pk (eK P w K mg cls) base k cf n)
    (hb : ∀ (cdv : Value) (A : Around) (outer : List Env) (s : Shared) (H : Hp) (E : XK), A.guards = some [] → Sk (cxOf (L2.CX P w) P w K mg base N qual (defScope st) fa cdv A outer s H E) cls (fun c d _ H => E c d H) k cf n →
      SXs (cxOf (L2.CX P w) P w K mg base N qual (defScope st) fa cdv A outer s H E) cls (fun c d _ H => E c d H) cf (defBody st) d.body)
    (pure : ∃ h, runF (some d) cf [.wl (ns.map .int)] [] = .ok (.bl true) h) : LawOk P w K mg base fa a ns := by
  intro s H e0 hS
  have hK : K.In s.heap := e0.mod.kin.keeps fun b o q => (e0.bs b o q).1
  have bd := bi s [.ref a] hK (by simp)
  have hsp : spD (eK P w K mg cls) (runF (some d) cf) [.ref a] H (fun v _ => v = .bl true) fun _ _ _ => False := by
    obtain ⟨h', e⟩ := pure
    have ri : ∀ ns : List Int, RepL (eK P w K mg cls) [] H (ns.map D.int) (ns.map V.int) := fun ns => by
      induction ns with
      | nil => exact .nil
      | cons i r ih => exact .cons (Rep.int i) ih
    refine ⟨[], [.wl (ns.map .int)], [], ⟨rfl, List.nodup_nil, fun l b o z => by simp at z⟩, .cons ?_ .nil, ?_⟩
    · simp only [Rep]
      exact ⟨a, _, rfl, hS, ri ns⟩
    · rw [e]
      exact fun ρ' H' v _ _ rv => rv.blOf
  refine fn_here (args := ⟨[.ref a], []⟩) (us := [.ref a]) (vs := [.ref a]) F S rfl room e0 bd (.cons rfl .nil) fun cdv => ?_
  exact fn_body S (by rw [hp]; rfl) hN pk cdv callerA [] s H [.ref a] _ _ (hb cdv callerA [] s H _ rfl) (room.deeper _) hsp
end DL

/-! DL, part q: a program's defs, level by level. -/
namespace DL
open PySem PySem.Spec PyProof.Rows L2
section
variable {P : Program} {w : World} {K : PySem.W.Frag} {mg : Str → Option Value} {base : Heap} {cls : Ka} {k n fuel : Nat} {p : Pg} {x qual : Str} {st : Stmt} {a : Addr} {fd : FuncData} {ps : List Str} {d : Fd}
theorem cal_zero (F : Fun K x qual st a fd) (hm : mg x = some (.ref a)) (bi : Binds K fd ps []) : CalD (eK P w K mg cls) base k (p.cf fuel 0) x := ⟨a, fd, ps, fn_zero (E := eK P w K mg cls) (fun _ _ => rfl), hm, F.kp, bi⟩
theorem run_at {c f : Str} (lk : p.funs.lookup (c, f) = some d) : (p.cf fuel (n + 1)).call c f = runF (some d) (p.cf fuel n) := by
  funext l h
  show runF (p.funs.lookup (c, f)) (p.cf fuel n) l h = _
  rw [lk]
theorem cal_succ (lk : p.funs.lookup (("" : Str), x) = some d) (F : Fun K x qual st a fd) (hm : mg x = some (.ref a)) (bi : Binds K fd ps []) (ok : FnOk P w K mg base (L2.CX P w) k a fd ps (spD (eK P w K mg cls) (runF (some d) (p.cf fuel n)))) :
    CalD (eK P w K mg cls) base k (p.cf fuel (n + 1)) x := ⟨a, fd, ps, by rw [run_at lk]; exact ok, hm, F.kp, bi⟩
theorem conInt {x : Str} {i : Int} {t : Tok} (h : mg x = some (.int i t)) : ConD (eK P w K mg cls) x (.int i) := ⟨.int i, .int i t, h, ⟨t, rfl⟩, fun _ _ => Rep.int i⟩
end
end DL

/-! DL, part r: the evaluator does not look at what lies below: places may be shifted. -/
namespace DL
open PySem
mutual
def sh (k : Nat) : D → D
  | .tup l => .tup (shS k l)
  | .wl l => .wl (shS k l)
  | .wd l => .wd (shW k l)
  | .ref l => .ref (l + k)
  | .non => .non
  | .bl b => .bl b
  | .int i => .int i
  | .str x => .str x
  | .fn x => .fn x
  | .exn c => .exn c
def shS (k : Nat) : List D → List D
  | [] => []
  | d :: r => sh k d :: shS k r
def shW (k : Nat) : List (Str × D) → List (Str × D)
  | [] => []
  | (x, d) :: r => (x, sh k d) :: shW k r
end
theorem shS_map (k : Nat) : ∀ l : List D, shS k l = l.map (sh k)
  | [] => by simp only [shS, List.map_nil]
  | d :: r => by simp only [shS, List.map_cons, shS_map k r]
theorem shW_map (k : Nat) : ∀ l : List (Str × D), shW k l = l.map fun p => (p.1, sh k p.2)
  | [] => by simp only [shW, List.map_nil]
  | (x, d) :: r => by simp only [shW, List.map_cons, shW_map k r]
def shKV (k : Nat) (l : List (D × D)) : List (D × D) := l.map fun p => (sh k p.1, sh k p.2)
def shF (k : Nat) (l : List (Str × D)) : List (Str × D) := l.map fun p => (p.1, sh k p.2)
def shOb (k : Nat) : O → O
  | .lst l => .lst (l.map (sh k))
  | .dct l => .dct (shKV k l)
  | .rod l => .rod (shKV k l)
  | .ins c f => .ins c (shF k f)
def shE (k : Nat) (e : AE) : AE := e.map (Option.map (sh k))
/-- the heap above another -/
def shH (pre : AH) (h : AH) : AH := pre ++ h.map (shOb pre.length)
def R.mp {α β : Type} (g : α → β) (t : AH → AH) : R α → R β
  | .ok a h => .ok (g a) (t h)
  | .exc c h => .exc c (t h)
  | .bad => .bad
def S.mp (k : Nat) (t : AH → AH) : S → S
  | .nx e h => .nx (shE k e) (t h)
  | .rt d h => .rt (sh k d) (t h)
  | .bk e h => .bk (shE k e) (t h)
  | .ct e h => .ct (shE k e) (t h)
  | .exc c e h => .exc c (shE k e) (t h)
  | .bad => .bad
section
variable (pre : AH)
theorem shH_get (h : AH) (l : Nat) : (shH pre h)[l + pre.length]? = (h[l]?).map (shOb pre.length) := by
  unfold shH
  rw [List.getElem?_append_right (by omega), Nat.add_sub_cancel, List.getElem?_map]
theorem shH_len (h : AH) : (shH pre h).length = h.length + pre.length := by
  unfold shH
  rw [List.length_append, List.length_map]; omega
theorem shH_push (h : AH) (o : O) : shH pre h ++ [shOb pre.length o] = shH pre (h ++ [o]) := by
  unfold shH
  rw [List.map_append, List.append_assoc]; rfl
theorem shH_set (h : AH) (l : Nat) (o : O) : (shH pre h).set (l + pre.length) (shOb pre.length o) = shH pre (h.set l o) := by
  unfold shH
  rw [List.set_append, if_neg (by omega), Nat.add_sub_cancel, List.map_set]
theorem R.mp_bind {α β α' β' : Type} {x : R α} {f : α → AH → R β} {g : α → α'} {g' : β → β'} {t : AH → AH} {f' : α' → AH → R β'} (hf : ∀ a h, (f a h).mp g' t = f' (g a) (t h)) : (x.bind f).mp g' t = (x.mp g t).bind f' := by
  cases x with
  | ok a h => exact hf a h
  | exc c h => rfl
  | bad => rfl
theorem R.mp_nb {α β : Type} {x : R α} {g : α → β} {t : AH → AH} : (x.mp g t).nb = x.nb.mp g t := by cases x <;> rfl
theorem R.mp_st {α α' : Type} {x : R α} {f : α → AH → S} {g : α → α'} {k : Nat} {t : AH → AH} {f' : α' → AH → S} {e : AE} (hf : ∀ a h, (f a h).mp k t = f' (g a) (t h)) : (x.st e f).mp k t = (x.mp g t).st (shE k e) f' := by
  cases x with
  | ok a h => exact hf a h
  | exc c h => rfl
  | bad => rfl
theorem R.mp_sb {α α' : Type} {x : R α} {f : α → AH → S} {g : α → α'} {k : Nat} {t : AH → AH} {f' : α' → AH → S} (hf : ∀ a h, (f a h).mp k t = f' (g a) (t h)) : (x.sb f).mp k t = (x.mp g t).sb f' := by
  cases x with
  | ok a h => exact hf a h
  | exc c h => rfl
  | bad => rfl
theorem S.mp_seq {x : S} {f f' : AE → AH → S} {k : Nat} {t : AH → AH} (hf : ∀ e h, (f e h).mp k t = f' (shE k e) (t h)) : (x.seq f).mp k t = (x.mp k t).seq f' := by
  cases x <;> first | rfl | exact hf _ _
theorem S.mp_loop {x : S} {f f' : AE → AH → S} {k : Nat} {t : AH → AH} (hf : ∀ e h, (f e h).mp k t = f' (shE k e) (t h)) : (loopS x f).mp k t = loopS (x.mp k t) f' := by
  cases x <;> first | rfl | exact hf _ _
theorem shE_get (k : Nat) (e : AE) (i : Nat) : (shE k e)[i]? = (e[i]?).map (Option.map (sh k)) := by
  unfold shE; rw [List.getElem?_map]
theorem shE_set (k : Nat) (e : AE) (i : Nat) (d : Option D) : (shE k e).set i (d.map (sh k)) = shE k (e.set i d) := by
  unfold shE; rw [List.map_set]
theorem shE_wipe (k : Nat) (e : AE) : ∀ vs, wipeE (shE k e) vs = shE k (wipeE e vs)
  | [] => rfl
  | v :: vs => by
    unfold wipeE
    rw [shE_wipe k e vs, ← shE_set k _ v none]
    rfl

/-! data -/
mutual
theorem nk_sh (k : Nat) : ∀ d : D, nk (sh k d) = nk d
  | .tup l => by simp only [sh, nk, nkL_sh k l]
  | .wl _ => by simp only [sh, nk]
  | .wd _ => by simp only [sh, nk]
  | .ref _ => by simp only [sh, nk]
  | .non => by simp only [sh]
  | .bl _ => by simp only [sh]
  | .int _ => by simp only [sh]
  | .str _ => by simp only [sh]
  | .fn _ => by simp only [sh]
  | .exn _ => by simp only [sh]
theorem nkL_sh (k : Nat) : ∀ l : List D, nkL (shS k l) = nkL l
  | [] => by simp only [shS]
  | d :: r => by simp only [shS, nkL, nk_sh k d, nkL_sh k r]
end
mutual
theorem kOk_sh (k : Nat) : ∀ (d : D) (n : Nat), kOk (sh k d) n = kOk d n
  | .tup l, n => by
    cases n with
    | zero => simp only [sh, kOk]
    | succ m => simp only [sh, kOk, kOkL_sh k l m]
  | .wl _, _ => by simp only [sh, kOk]
  | .wd _, _ => by simp only [sh, kOk]
  | .ref _, _ => by simp only [sh, kOk]
  | .non, _ => by simp only [sh]
  | .bl _, _ => by simp only [sh]
  | .int _, _ => by simp only [sh]
  | .str _, _ => by simp only [sh]
  | .fn _, _ => by simp only [sh]
  | .exn _, _ => by simp only [sh]
theorem kOkL_sh (k : Nat) : ∀ (l : List D) (n : Nat), kOkL (shS k l) n = kOkL l n
  | [], _ => by simp only [shS]
  | d :: r, n => by simp only [shS, kOkL, kOk_sh k d n, kOkL_sh k r n]
end
theorem isTup_sh (k : Nat) (d : D) : isTup (sh k d) = isTup d := by cases d <;> simp only [sh, isTup]
theorem top_sh (k : Nat) (d : D) : top (sh k d) = top d := by
  cases d <;> simp only [sh, top]
  rename_i l
  exact kOk_sh k (.tup l) 8 ▸ by simp only [sh]
theorem keyOk_sh (k : Nat) (kv : List (D × D)) (d : D) : keyOk (shKV k kv) (sh k d) = keyOk kv d := by
  unfold keyOk shKV
  rw [top_sh, List.all_map]
  congr 1
  congr 1
  funext p
  simp only [Function.comp, isTup_sh]
theorem keyOkR_sh (k : Nat) (kv : List (D × D)) (d : D) : keyOkR (shKV k kv) (sh k d) = keyOkR kv d := by
  unfold keyOkR
  rw [keyOk_sh]
  congr 2
  unfold shKV
  cases kv <;> rfl
theorem dget_sh (k : Nat) (kv : List (D × D)) (d : D) : dget (shKV k kv) (sh k d) = (dget kv d).map (sh k) := by
  unfold dget shKV
  rw [List.find?_map]
  simp only [Function.comp_def, nk_sh, Option.map_map]
theorem dput_sh (k : Nat) (kv : List (D × D)) (d v : D) : dput (shKV k kv) (sh k d) (sh k v) = shKV k (dput kv d v) := by
  unfold dput shKV
  rw [List.any_map]
  simp only [Function.comp_def, nk_sh]
  split
  · rw [List.map_map, List.map_map]
    congr 1
    funext p
    simp only [Function.comp_def, nk_sh]
    split <;> rfl
  · rw [List.map_append]; rfl
theorem shKV_len (k : Nat) (kv : List (D × D)) : (shKV k kv).length = kv.length := by unfold shKV; rw [List.length_map]
theorem mapO_sh {β : Type} (k : Nat) {f f' : D → Option β} (hf : ∀ d, f' (sh k d) = f d) : ∀ l : List D, mapO f' (l.map (sh k)) = mapO f l
  | [] => rfl
  | d :: r => by simp only [List.map_cons, mapO, hf d, mapO_sh k hf r]
theorem pdN_sh (h : AH) : ∀ (n : Nat) (d : D), pdN (shH pre h) n (sh pre.length d) = pdN h n d
  | n, .non => by simp only [sh]; cases n <;> rfl
  | n, .bl _ => by simp only [sh]; cases n <;> rfl
  | n, .int _ => by simp only [sh]; cases n <;> rfl
  | n, .str _ => by simp only [sh]; cases n <;> rfl
  | n, .wd _ => by simp only [sh]; cases n <;> rfl
  | n, .fn _ => by simp only [sh]; cases n <;> rfl
  | n, .exn _ => by simp only [sh]; cases n <;> rfl
  | 0, .tup _ => by simp only [sh]; rfl
  | 0, .wl _ => by simp only [sh]; rfl
  | 0, .ref _ => by simp only [sh]; rfl
  | n + 1, .tup l => by
    simp only [sh, pdN, shS_map]
    rw [mapO_sh pre.length (fun d => pdN_sh h n d)]
  | n + 1, .wl l => by
    simp only [sh, pdN, shS_map]
    rw [mapO_sh pre.length (fun d => pdN_sh h n d)]
  | n + 1, .ref l => by
    simp only [sh, pdN, shH_get]
    cases h[l]? with
    | none => rfl
    | some o =>
      cases o with
      | lst l => simp only [Option.map, shOb]; rw [mapO_sh pre.length (fun d => pdN_sh h n d)]
      | dct _ => rfl
      | rod _ => rfl
      | ins _ _ => rfl
theorem pd_sh (h : AH) (d : D) : pd (shH pre h) (sh pre.length d) = pd h d := pdN_sh pre h 8 d
theorem eqF_sh (d e : D) (h : AH) : eqF (sh pre.length d) (sh pre.length e) (shH pre h) = eqF d e h := by unfold eqF; rw [pd_sh, pd_sh]
theorem eqB_sh (d e : D) (h : AH) : eqB (sh pre.length d) (sh pre.length e) (shH pre h) = eqB d e h := by
  have z := eqF_sh pre d e h
  cases d <;> cases e <;> simp only [sh] at z ⊢ <;> first | rfl | exact z
theorem anyEq_sh (d : D) (l : List D) (h : AH) : anyEq (shH pre h) (sh pre.length d) (l.map (sh pre.length)) = anyEq h d l := by
  unfold anyEq
  rw [mapO_sh pre.length (fun d => pd_sh pre h d), pd_sh]
theorem look_sh (k : Nat) (x : Str) : ∀ l : List (Str × D), (l.map fun p => (p.1, sh k p.2)).lookup x = (l.lookup x).map (sh k)
  | [] => rfl
  | (y, d) :: r => by
    simp only [List.map_cons, List.lookup_cons]
    cases x == y with
    | true => rfl
    | false => exact look_sh k x r
theorem inB_sh (d e : D) (h : AH) : inB (sh pre.length d) (sh pre.length e) (shH pre h) = inB d e h := by
  cases e with
  | ref a =>
    simp only [sh, inB, shH_get]
    cases h[a]? with
    | none => rfl
    | some o =>
      cases o with
      | lst l => exact anyEq_sh pre d l h
      | dct kv => simp only [Option.map, shOb, keyOk_sh, dget_sh, Option.isSome_map]; cases dget kv d <;> rfl
      | rod kv => simp only [Option.map, shOb, keyOkR_sh, dget_sh, Option.isSome_map]; cases dget kv d <;> rfl
      | ins _ _ => rfl
  | tup l => simp only [sh, inB, shS_map]; exact anyEq_sh pre d l h
  | wl l => simp only [sh, inB, shS_map]; exact anyEq_sh pre d l h
  | str y => cases d <;> simp only [sh, inB]
  | wd l => cases d <;> simp only [sh, inB, shW_map, look_sh, Option.isSome_map]
  | _ => cases d <;> simp only [sh, inB]
theorem isB_sh (d e : D) (k : Nat) : isB (sh k d) (sh k e) = isB d e := by
  cases d <;> cases e <;> simp only [sh, isB]
theorem at_sh (k : Nat) (l : List D) (i : Int) : at_ (l.map (sh k)) i = (at_ l i).map (sh k) := by
  unfold at_
  rw [List.length_map]
  split
  · rw [List.getElem?_map]
  · split
    · rw [List.getElem?_map]
    · rfl
abbrev RM (x : R D) : R D := x.mp (sh pre.length) (shH pre)
theorem itemB_sh (d e : D) (h : AH) : itemB (sh pre.length d) (sh pre.length e) (shH pre h) = RM pre (itemB d e h) := by
  cases d with
  | ref a =>
    simp only [sh, itemB, shH_get]
    cases h[a]? with
    | none => rfl
    | some o =>
      cases o with
      | lst l =>
        simp only [Option.map, shOb]
        cases e <;> simp only [sh] <;> first | rfl | (rw [at_sh]; rename_i i; cases at_ l i <;> rfl)
      | dct kv =>
        simp only [Option.map, shOb, keyOk_sh, dget_sh]
        split
        · cases dget kv e <;> rfl
        · rfl
      | rod kv =>
        simp only [Option.map, shOb, keyOkR_sh, dget_sh]
        split
        · cases dget kv e <;> rfl
        · rfl
      | ins _ _ => rfl
  | tup l => cases e <;> simp only [sh, itemB, shS_map] <;> first | rfl | (rw [at_sh]; rename_i i; cases at_ l i <;> rfl)
  | wl l => cases e <;> simp only [sh, itemB, shS_map] <;> first | rfl | (rw [at_sh]; rename_i i; cases at_ l i <;> rfl)
  | wd l => cases e <;> simp only [sh, itemB, shW_map] <;> first | rfl | (rw [look_sh]; rename_i i; cases l.lookup i <;> rfl)
  | str z =>
    cases e <;> simp only [sh, itemB] <;> first | rfl | (rename_i i; cases at_ z.cps.toList i with | none => rfl | some c => by_cases hz : z.length ≤ SZ <;> simp only [hz, if_true, if_false, R.mp, sh])
  | _ => cases e <;> simp only [sh, itemB] <;> rfl
theorem ob_sh (o : Option Bool) (h : AH) : ob o (shH pre h) = RM pre (ob o h) := by cases o <;> simp only [ob, R.mp, sh]
theorem rep_map {α β : Type} (f : α → β) (k : Int) (l : List α) : rep k (l.map f) = (rep k l).map f := by
  unfold rep
  rw [List.map_flatten, List.map_replicate]
theorem addB_sh (d e : D) (h : AH) : addB (sh pre.length d) (sh pre.length e) (shH pre h) = RM pre (addB d e h) := by
  cases d with
  | ref a =>
    cases e with
    | ref b =>
      simp only [sh, addB, shH_get]
      cases h[a]? with
      | none => rfl
      | some o =>
        cases o with
        | lst x =>
          cases h[b]? with
          | none => rfl
          | some u =>
            cases u with
            | lst y =>
              simp only [Option.map, shOb, List.length_map, shH_len]
              split
              · simp only [R.mp, sh]
                rw [← List.map_append, ← shH_push]; rfl
              · rfl
            | _ => rfl
        | _ => rfl
    | _ => simp only [sh, addB]; rfl
  | tup l =>
    cases e <;> simp only [sh, addB] <;> first | rfl | skip
    simp only [shS_map, List.length_map]
    split
    · simp only [R.mp, sh, shS_map, List.map_append]
    · rfl
  | str z =>
    cases e <;> simp only [sh, addB] <;> first | rfl | skip
    split <;> simp only [R.mp, sh]
  | int i => cases e <;> simp only [sh, addB] <;> simp only [R.mp, sh]
  | _ => cases e <;> simp only [sh, addB] <;> rfl
theorem mulB_sh (d e : D) (h : AH) : mulB (sh pre.length d) (sh pre.length e) (shH pre h) = RM pre (mulB d e h) := by
  cases d with
  | ref a =>
    cases e with
    | int k =>
      simp only [sh, mulB, shH_get]
      cases h[a]? with
      | none => rfl
      | some o =>
        cases o with
        | lst x =>
          simp only [Option.map, shOb, List.length_map, shH_len]
          split
          · simp only [R.mp, sh]
            rw [rep_map, ← shH_push]; rfl
          · rfl
        | _ => rfl
    | _ => simp only [sh, mulB]; rfl
  | tup l =>
    cases e <;> simp only [sh, mulB] <;> first | rfl | skip
    simp only [shS_map, List.length_map]
    split
    · simp only [R.mp, sh, shS_map, rep_map]
    · rfl
  | int i =>
    cases e <;> simp only [sh, mulB] <;> first | rfl | skip
    split <;> simp only [R.mp, sh]
  | _ => cases e <;> simp only [sh, mulB] <;> rfl
theorem bop_sh (b : B) (d e : D) (h : AH) : bop b (sh pre.length d) (sh pre.length e) (shH pre h) = RM pre (bop b d e h) := by
  cases b with
  | add => exact addB_sh pre d e h
  | mul => exact mulB_sh pre d e h
  | item => exact itemB_sh pre d e h
  | eq => simp only [bop, eqB_sh]; exact ob_sh pre _ h
  | ne => simp only [bop, eqB_sh]; exact ob_sh pre _ h
  | inn => simp only [bop, inB_sh]; exact ob_sh pre _ h
  | nin => simp only [bop, inB_sh]; exact ob_sh pre _ h
  | is => simp only [bop, isB_sh]; exact ob_sh pre _ h
  | isnt => simp only [bop, isB_sh]; exact ob_sh pre _ h
  | fdiv => cases d <;> cases e <;> simp only [sh, bop] <;> first | rfl | (split <;> simp only [R.mp, sh])
  | mod => cases d <;> cases e <;> simp only [sh, bop] <;> first | rfl | (split <;> simp only [R.mp, sh])
  | _ => cases d <;> cases e <;> simp only [sh, bop] <;> first | rfl | simp only [R.mp, sh]
theorem iopB_sh (b : B) (d e : D) (h : AH) : iopB b (sh pre.length d) (sh pre.length e) (shH pre h) = RM pre (iopB b d e h) := by
  have z := bop_sh pre b d e h
  cases d <;> cases e <;> simp only [sh, iopB] at z ⊢ <;> first | rfl | exact z
theorem tru_sh (d : D) (h : AH) : tru (shH pre h) (sh pre.length d) = tru h d := by
  cases d with
  | ref a =>
    simp only [sh, tru, shH_get]
    cases h[a]? with
    | none => rfl
    | some o => cases o <;> simp only [Option.map, shOb] <;> first | rfl | (rename_i l; cases l <;> rfl)
  | tup l => simp only [sh, tru, shS_map]; cases l <;> rfl
  | wl l => simp only [sh, tru, shS_map]; cases l <;> rfl
  | _ => simp only [sh, tru]
theorem dints_sh (k : Nat) : ∀ l : List D, dints (l.map (sh k)) = dints l
  | [] => rfl
  | d :: r => by cases d <;> simp only [List.map_cons, sh, dints, dints_sh k r]
theorem dbools_sh (k : Nat) : ∀ l : List D, dbools (l.map (sh k)) = dbools l
  | [] => rfl
  | d :: r => by cases d <;> simp only [List.map_cons, sh, dbools, dbools_sh k r]
theorem biL_sh (b : BI) (l : List D) (h : AH) : biL b (l.map (sh pre.length)) (shH pre h) = RM pre (biL b l h) := by
  cases b <;> simp only [biL, dints_sh, dbools_sh, List.length_map, shH_len] <;> first
    | rfl
    | (simp only [R.mp, sh]; done)
    | (simp only [R.mp, sh, shS_map]; done)
    | (simp only [R.mp, sh]; rw [← shH_push]; rfl)
    | (split <;> simp only [R.mp, sh])
theorem biD_sh (b : BI) (l : List (D × D)) (h : AH) : biD b (shKV pre.length l) (shH pre h) = RM pre (biD b l h) := by
  cases b <;> simp only [biD, shKV_len, shH_len] <;> first
    | rfl
    | (simp only [R.mp, sh]; done)
    | skip
  simp only [R.mp, sh]
  rw [← shH_push]
  simp only [shOb, shKV, List.map_map, Function.comp_def]
theorem bi1_sh (b : BI) (d : D) (h : AH) : bi1 b (sh pre.length d) (shH pre h) = RM pre (bi1 b d h) := by
  cases d with
  | ref a =>
    simp only [sh, bi1, shH_get]
    cases h[a]? with
    | none => rfl
    | some o =>
      cases o with
      | lst l => exact biL_sh pre b l h
      | dct l => exact biD_sh pre b l h
      | _ => rfl
  | tup l =>
    simp only [sh, bi1, shS_map]
    split
    · exact biL_sh pre b l h
    · rfl
  | wl l => simp only [sh, bi1, shS_map]; exact biL_sh pre b l h
  | str x => cases b <;> simp only [sh, bi1] <;> first | rfl | (split <;> simp only [R.mp, sh])
  | _ => cases b <;> simp only [sh, bi1] <;> first | rfl | simp only [R.mp, sh]
theorem isSq_sh (k : Nat) (d : D) : isSq (sh k d) = isSq d := by cases d <;> simp only [sh, isSq]
theorem reprB_sh (d : D) (h : AH) : reprB (sh pre.length d) (shH pre h) = RM pre (reprB d h) := by
  unfold reprB
  rw [pd_sh, isSq_sh]
  cases pd h d with
  | none => rfl
  | some p =>
    dsimp only
    split <;> simp only [R.mp, sh]
theorem shO_sh (d : D) (h : AH) : shO (sh pre.length d) (shH pre h) = shO d h := by
  unfold shO
  rw [pd_sh, isSq_sh]
theorem bi_sh (b : BI) (l : List D) (h : AH) : bi b (l.map (sh pre.length)) (shH pre h) = RM pre (bi b l h) := by
  match l with
  | [] => rfl
  | [d] =>
    have z1 := bi1_sh pre b d h
    have z2 := reprB_sh pre d h
    simp only [List.map_cons, List.map_nil, bi]
    cases b <;> first | exact z1 | exact z2
  | [d, e] =>
    cases d <;> cases e <;> simp only [List.map_cons, List.map_nil, sh, bi] <;> first | rfl | (cases b <;> first | rfl | simp only [R.mp, sh])
  | d :: e :: f :: r =>
    cases d <;> cases e <;> simp only [List.map_cons, sh, bi] <;> rfl
end
end DL

/-! DL, part s: .. the whole evaluator. -/
namespace DL
open PySem
def Src.sh (k : Nat) : Src → Src
  | .its l => .its (l.map (DL.sh k))
  | .at_ a en => .at_ (a + k) en
mutual
theorem sh_noR (k : Nat) : ∀ d : D, noR d = true → sh k d = d
  | .tup l, h => by simp only [noR] at h; simp only [sh, shS_noR k l h]
  | .wl l, h => by simp only [noR] at h; simp only [sh, shS_noR k l h]
  | .wd l, h => by simp only [noR] at h; simp only [sh, shW_noR k l h]
  | .ref _, h => by simp only [noR] at h; cases h
  | .non, _ => by simp only [sh]
  | .bl _, _ => by simp only [sh]
  | .int _, _ => by simp only [sh]
  | .str _, _ => by simp only [sh]
  | .fn _, _ => by simp only [sh]
  | .exn _, _ => by simp only [sh]
theorem shS_noR (k : Nat) : ∀ l : List D, noRL l = true → shS k l = l
  | [], _ => by simp only [shS]
  | d :: r, h => by
    simp only [noRL, Bool.and_eq_true] at h
    simp only [shS, sh_noR k d h.1, shS_noR k r h.2]
theorem shW_noR (k : Nat) : ∀ l : List (Str × D), noRW l = true → shW k l = l
  | [], _ => by simp only [shW]
  | (x, d) :: r, h => by
    simp only [noRW, Bool.and_eq_true] at h
    simp only [shW, sh_noR k d h.1, shW_noR k r h.2]
end
section
variable (pre : AH)
theorem idxF_sh (h : AH) (d : D) (l : List D) : idxF (shH pre h) (sh pre.length d) (l.map (sh pre.length)) = idxF h d l := by
  unfold idxF
  rw [mapO_sh pre.length (fun d => pd_sh pre h d), pd_sh]
theorem last_map {α β : Type} (f : α → β) (l : List α) : (l.map f).getLast? = (l.getLast?).map f := by rw [List.getLast?_map]
theorem mth_sh (m : M) (o : D) (as : List D) (h : AH) : mth m (sh pre.length o) (as.map (sh pre.length)) (shH pre h) = RM pre (mth m o as h) := by
  cases o with
  | ref a =>
    simp only [sh, mth, shH_get]
    cases h[a]? with
    | none => rfl
    | some ob =>
      cases ob with
      | lst l =>
        cases m with
        | append =>
          match as with
          | [] => rfl
          | [d] =>
            simp only [Option.map, shOb, List.map_cons, List.map_nil, List.length_map]
            split
            · simp only [R.mp, sh]
              rw [← shH_set]
              simp only [shOb, List.map_append, List.map_cons, List.map_nil]
            · rfl
          | _ :: _ :: _ => rfl
        | pop =>
          match as with
          | [] =>
            simp only [Option.map, shOb, List.map_nil, last_map]
            cases l.getLast? with
            | none => rfl
            | some d =>
              simp only [R.mp]
              rw [← shH_set]
              simp only [shOb, List.map_dropLast]
          | _ :: _ => rfl
        | extend =>
          match as with
          | [] => rfl
          | [d] =>
            cases d with
            | ref b =>
              simp only [Option.map, shOb, List.map_cons, List.map_nil, sh, shH_get]
              cases h[b]? with
              | none => rfl
              | some u =>
                cases u with
                | lst x =>
                  simp only [shOb, List.length_map]
                  split
                  · simp only [R.mp, sh]
                    rw [← shH_set]
                    simp only [shOb, List.map_append]
                  · rfl
                | _ => rfl
            | _ => rfl
          | d :: _ :: _ => cases d <;> rfl
        | index =>
          match as with
          | [] => rfl
          | [d] =>
            simp only [Option.map, shOb, List.map_cons, List.map_nil, idxF_sh]
            cases idxF h d l with
            | none => rfl
            | some n => simp only [R.mp, sh]
          | _ :: _ :: _ => rfl
        | _ => rfl
      | dct kv =>
        cases m with
        | get =>
          match as with
          | [] => rfl
          | [_] => rfl
          | [k, d] =>
            simp only [Option.map, shOb, List.map_cons, List.map_nil, keyOk_sh, dget_sh]
            split
            · cases dget kv k <;> rfl
            · rfl
          | _ :: _ :: _ :: _ => rfl
        | setdefault =>
          match as with
          | [] => rfl
          | [_] => rfl
          | [k, d] =>
            simp only [Option.map, shOb, List.map_cons, List.map_nil, keyOk_sh, isTup_sh, shKV_len, dget_sh]
            split
            · cases dget kv k with
              | some v => rfl
              | none =>
                simp only [R.mp]
                rw [← shH_set]
                simp only [shOb, dput_sh]
            · rfl
          | _ :: _ :: _ :: _ => rfl
        | _ => rfl
      | rod kv =>
        cases m with
        | get =>
          match as with
          | [] => rfl
          | [_] => rfl
          | [k, d] =>
            simp only [Option.map, shOb, List.map_cons, List.map_nil, keyOkR_sh, dget_sh]
            split
            · cases dget kv k <;> rfl
            · rfl
          | _ :: _ :: _ :: _ => rfl
        | _ => rfl
      | ins _ _ => rfl
  | _ => rfl
theorem isLs_sh (d : D) (h : AH) : isLs (sh pre.length d) (shH pre h) = isLs d h := by
  cases d <;> simp only [sh, isLs]
  rename_i a
  rw [shH_get]
  cases h[a]? with
  | none => rfl
  | some o => cases o <;> rfl
theorem isDc_sh (d : D) (h : AH) : isDc (sh pre.length d) (shH pre h) = isDc d h := by
  cases d <;> simp only [sh, isDc]
  rename_i a
  rw [shH_get]
  cases h[a]? with
  | none => rfl
  | some o => cases o <;> rfl
theorem isSt_sh (k : Nat) (d : D) : isSt (sh k d) = isSt d := by cases d <;> simp only [sh, isSt]
theorem bmOk_sh (m : M) (d : D) (h : AH) : bmOk m (sh pre.length d) (shH pre h) = bmOk m d h := by
  cases m <;> simp only [bmOk, isLs_sh, isDc_sh, isSt_sh]
theorem tyN_sh (d : D) (h : AH) : tyN (shH pre h) (sh pre.length d) = tyN h d := by
  cases d <;> simp only [sh, tyN]
  rename_i a
  rw [shH_get]
  cases h[a]? with
  | none => rfl
  | some o => cases o <;> rfl
theorem isAny_sh (d : D) (h : AH) (ts : List TyN) : isAny (shH pre h) (sh pre.length d) ts = isAny h d ts := by unfold isAny; rw [tyN_sh]
theorem src_sh (d : D) (h : AH) : src (sh pre.length d) (shH pre h) = (src d h).mp (Src.sh pre.length) (shH pre) := by
  cases d with
  | ref a =>
    simp only [sh, src, shH_get]
    cases h[a]? with
    | none => rfl
    | some o => cases o <;> rfl
  | tup l => simp only [sh, src, shS_map, R.mp, Src.sh]
  | wl l => simp only [sh, src, shS_map, R.mp, Src.sh]
  | str x =>
    simp only [sh, src]
    split
    · simp only [R.mp, Src.sh, List.map_map]
      congr 2
    · rfl
  | _ => rfl
theorem enumL_sh (k : Nat) : ∀ (l : List D) (n : Nat), (enumL l n).map (sh k) = enumL (l.map (sh k)) n
  | [], _ => rfl
  | d :: r, n => by simp only [enumL, List.map_cons, sh, shS, enumL_sh k r]
theorem enumS_sh (d : D) (h : AH) : enumS (sh pre.length d) (shH pre h) = (enumS d h).mp (Src.sh pre.length) (shH pre) := by
  cases d with
  | ref a =>
    simp only [sh, enumS, shH_get]
    cases h[a]? with
    | none => rfl
    | some o => cases o <;> rfl
  | tup l => simp only [sh, enumS, shS_map, R.mp, Src.sh, enumL_sh]
  | wl l => simp only [sh, enumS, shS_map, R.mp, Src.sh, enumL_sh]
  | _ => rfl
theorem rng_sh (k : Nat) (lo : Int) (n : Nat) (c : Int) : (rng lo n c).map (sh k) = rng lo n c := by
  unfold rng
  rw [List.map_map]
  congr 1
theorem zipL_sh (k : Nat) : ∀ (l m : List D), (zipL l m).map (sh k) = zipL (l.map (sh k)) (m.map (sh k))
  | [], _ => by simp only [zipL, List.map_nil]
  | _ :: _, [] => rfl
  | a :: r, b :: s => by simp only [zipL, List.map_cons, sh, shS, zipL_sh k r s]
theorem fixD_sh (k : Nat) (d : D) : fixD (sh k d) = (fixD d).map (List.map (sh k)) := by cases d <;> simp only [sh, fixD, shS_map] <;> rfl
theorem seqD_sh (d : D) (h : AH) : seqD (sh pre.length d) (shH pre h) = (seqD d h).map (List.map (sh pre.length)) := by
  cases d <;> simp only [sh, seqD, shS_map] <;> first | rfl | skip
  rename_i a
  rw [shH_get]
  cases h[a]? with
  | none => rfl
  | some o => cases o <;> rfl
theorem itm_sh (k : Nat) (en : Bool) (i : Nat) (d : D) : itm en i (sh k d) = sh k (itm en i d) := by
  cases en <;> simp only [itm, sh, shS, if_true, if_false, Bool.false_eq_true]
theorem nxt_sh (s : Src) (i : Nat) (h : AH) : nxt (s.sh pre.length) i (shH pre h) = (nxt s i h).map (Option.map (sh pre.length)) := by
  cases s with
  | its l => simp only [Src.sh, nxt, List.getElem?_map, Option.map]
  | at_ a en =>
    simp only [Src.sh, nxt, shH_get]
    cases h[a]? with
    | none => rfl
    | some o =>
      cases o with
      | lst l =>
        simp only [Option.map, shOb, List.getElem?_map]
        cases l[i]? with
        | none => rfl
        | some d => simp only [itm_sh]
      | _ => rfl
theorem turns_sh (fuel : Nat) (s : Src) (k : Nat) : turns fuel (s.sh k) = turns fuel s := by cases s <;> simp only [Src.sh, turns, List.length_map]
theorem putL_sh (a : Nat) (d : D) (h : AH) : putL (a + pre.length) (sh pre.length d) (shH pre h) = (putL a d h).mp id (shH pre) := by
  unfold putL
  rw [shH_get]
  cases h[a]? with
  | none => rfl
  | some o =>
    cases o with
    | lst l =>
      simp only [Option.map, shOb, List.length_map]
      split
      · simp only [R.mp]
        rw [← shH_set]
        simp only [shOb, List.map_append, List.map_cons, List.map_nil, id]
      · rfl
    | _ => rfl
theorem putD_sh (a : Nat) (k v : D) (h : AH) : putD (a + pre.length) (sh pre.length k) (sh pre.length v) (shH pre h) = (putD a k v h).mp id (shH pre) := by
  unfold putD
  rw [shH_get]
  cases h[a]? with
  | none => rfl
  | some o =>
    cases o with
    | dct l =>
      simp only [Option.map, shOb, keyOk_sh, shKV_len]
      split
      · simp only [R.mp]
        rw [← shH_set]
        simp only [shOb, dput_sh, id]
      · rfl
    | _ => rfl
theorem lk_sh (env : AE) (i : Nat) (h : AH) : lk (shE pre.length env) i (shH pre h) = RM pre (lk env i h) := by
  unfold lk
  rw [shE_get]
  cases env[i]? with
  | none => rfl
  | some o => cases o <;> rfl
theorem getF_sh (d : D) (f : Str) (h : AH) : getF (sh pre.length d) f (shH pre h) = RM pre (getF d f h) := by
  cases d <;> simp only [sh, getF] <;> first | rfl | skip
  rename_i a
  rw [shH_get]
  cases h[a]? with
  | none => rfl
  | some o =>
    cases o with
    | ins c fs =>
      simp only [Option.map, shOb, shF, look_sh]
      cases fs.lookup f <;> rfl
    | _ => rfl
theorem putF_sh (k : Nat) (f : Str) (v : D) : ∀ fs : List (Str × D), putF f (sh k v) (shF k fs) = shF k (putF f v fs)
  | [] => rfl
  | (g, w) :: r => by
    have ih := putF_sh k f v r
    unfold shF at ih ⊢
    simp only [List.map_cons, putF]
    split
    · rfl
    · rw [ih]; rfl
theorem setF_sh (d : D) (f : Str) (v : D) (h : AH) : setF (sh pre.length d) f (sh pre.length v) (shH pre h) = (setF d f v h).mp id (shH pre) := by
  cases d <;> simp only [sh, setF] <;> first | rfl | skip
  rename_i a
  rw [shH_get]
  cases h[a]? with
  | none => rfl
  | some o =>
    cases o with
    | ins c fs =>
      simp only [Option.map, shOb]
      have e : (shF pre.length fs).length = fs.length := by unfold shF; rw [List.length_map]
      rw [e]
      split
      · simp only [R.mp]
        rw [← shH_set]
        simp only [shOb, putF_sh, id]
      · rfl
    | _ => rfl
theorem setI_sh (o i v : D) (h : AH) : setI (sh pre.length o) (sh pre.length i) (sh pre.length v) (shH pre h) = (setI o i v h).mp id (shH pre) := by
  cases o with
  | ref a =>
    simp only [sh, setI, shH_get]
    cases h[a]? with
    | none => rfl
    | some ob =>
      cases ob with
      | lst l =>
        cases i with
        | int j =>
          simp only [Option.map, shOb, sh, at_sh, List.length_map]
          cases at_ l j with
          | none => rfl
          | some d =>
            simp only [R.mp]
            rw [← shH_set]
            simp only [shOb, List.map_set, id]
        | _ => rfl
      | dct kv =>
        simp only [Option.map, shOb, keyOk_sh, shKV_len]
        split
        · simp only [R.mp]
          rw [← shH_set]
          simp only [shOb, dput_sh, id]
        · rfl
      | _ => rfl
  | _ => rfl
theorem cut_map {α β : Type} (f : α → β) (l : List α) (lo hi : Option Int) : cut (l.map f) lo hi = (cut l lo hi).map f := by
  unfold cut
  rw [List.length_map, ← List.map_drop, ← List.map_take]
theorem sliceD_sh (d : D) (lo hi : Option Int) (h : AH) : sliceD (sh pre.length d) lo hi (shH pre h) = RM pre (sliceD d lo hi h) := by
  cases d <;> simp only [sh, sliceD, shS_map] <;> first | rfl | skip
  · simp only [cut_map, R.mp, sh, shS_map]
  · simp only [cut_map, R.mp, sh, shH_len]
    rw [← shH_push]; rfl
  · rename_i a
    rw [shH_get]
    cases h[a]? with
    | none => rfl
    | some o =>
      cases o with
      | lst l =>
        simp only [Option.map, shOb, cut_map, R.mp, sh, shH_len]
        rw [← shH_push]; rfl
      | _ => rfl
theorem revD_sh (d : D) (h : AH) : revD (sh pre.length d) (shH pre h) = RM pre (revD d h) := by
  cases d <;> simp only [sh, revD, shS_map] <;> first | rfl | skip
  · simp only [R.mp, sh, shS_map, List.map_reverse]
  · rename_i a
    rw [shH_get]
    cases h[a]? with
    | none => rfl
    | some o =>
      cases o with
      | lst l =>
        simp only [Option.map, shOb, R.mp, sh, shH_len]
        rw [← shH_push, ← List.map_reverse]; rfl
      | _ => rfl
theorem colN_sh {nx nx' : Nat → AH → Option (Option D)} {st st' : D → AH → R Unit} (hx : ∀ i h, nx' i (shH pre h) = (nx i h).map (Option.map (sh pre.length))) (hs : ∀ d h, (st d h).mp id (shH pre) = st' (sh pre.length d) (shH pre h)) :
    ∀ (n i : Nat) (h : AH), (colN nx st n i h).mp id (shH pre) = colN nx' st' n i (shH pre h)
  | 0, _, _ => rfl
  | n + 1, i, h => by
    simp only [colN, hx]
    cases nx i h with
    | none => rfl
    | some o =>
      cases o with
      | none => rfl
      | some d =>
        simp only [Option.map]
        rw [← hs, R.mp_nb]
        exact R.mp_bind fun _ h' => colN_sh hx hs n (i + 1) h'
theorem forN_sh {nx nx' : Nat → AH → Option (Option D)} {st st' : D → AE → AH → S} (hx : ∀ i h, nx' i (shH pre h) = (nx i h).map (Option.map (sh pre.length))) (hs : ∀ d e h, (st d e h).mp pre.length (shH pre) = st' (sh pre.length d) (shE pre.length e) (shH pre h)) :
    ∀ (n i : Nat) (e : AE) (h : AH), (forN nx st n i e h).mp pre.length (shH pre) = forN nx' st' n i (shE pre.length e) (shH pre h)
  | 0, _, _, _ => rfl
  | n + 1, i, e, h => by
    simp only [forN, hx]
    cases nx i h with
    | none => rfl
    | some o =>
      cases o with
      | none => rfl
      | some d =>
        simp only [Option.map]
        rw [← hs]
        exact S.mp_loop fun e' h' => forN_sh hx hs n (i + 1) e' h'
end
end DL

/-! DL, part t: .. by the syntax. -/
namespace DL
open PySem
/-- calls do not look below -/
def CallSh (cf : Cf) (pre : AH) : Prop := ∀ (c f : Str) (l : List D) (h : AH), cf.call c f (l.map (sh pre.length)) (shH pre h) = RM pre (cf.call c f l h)
section
variable {cf : Cf} {pre : AH} (hc : CallSh cf pre)
include hc
mutual
theorem ev_sh : ∀ (c : CE) (env : AE) (h : AH), (ev cf c env h).mp (sh pre.length) (shH pre) = ev cf c (shE pre.length env) (shH pre h)
  | .var i, env, h => by simp only [ev]; exact (lk_sh pre env i h).symm
  | .con d, env, h => by
    simp only [ev]
    cases q : noR d with
    | true => simp only [R.mp, sh_noR _ d q]
    | false => rfl
  | .tup es, env, h => by
    simp only [ev]
    rw [← evs_sh es env h]
    exact R.mp_bind fun l h => by simp only [R.mp, sh, shS_map]
  | .lst es, env, h => by
    simp only [ev]
    rw [← evs_sh es env h]
    exact R.mp_bind fun l h => by simp only [R.mp, sh, shH_len, ← shH_push]; rfl
  | .dnew, env, h => by
    simp only [ev, R.mp, sh, shH_len, ← shH_push]; rfl
  | .ddisp ks vs, env, h => by
    simp only [ev]
    rw [← evs_sh ks env h]
    refine R.mp_bind fun l h => ?_
    rw [← evs_sh vs env h]
    refine R.mp_bind fun m h => ?_
    have fold : ∀ (ps : List (D × D)) (kv : List (D × D)), (ps.map fun p => (sh pre.length p.1, sh pre.length p.2)).foldl (fun kv p => dput kv p.1 p.2) (shKV pre.length kv) = shKV pre.length (ps.foldl (fun kv p => dput kv p.1 p.2) kv) := fun ps => by
      induction ps with
      | nil => intro kv; rfl
      | cons p ps ih => intro kv; simp only [List.map_cons, List.foldl_cons, dput_sh, ih]
    have e : (l.map (sh pre.length)).zip (m.map (sh pre.length)) = (l.zip m).map fun p => (sh pre.length p.1, sh pre.length p.2) := by
      rw [List.zip_map]; rfl
    simp only [R.mp, sh, shH_len, ← shH_push, shOb]
    rw [e]
    have := fold (l.zip m) []
    rw [show shKV pre.length [] = [] from rfl] at this
    rw [this]
  | .bop o a b, env, h => by
    simp only [ev]
    rw [← ev_sh a env h]
    refine R.mp_bind fun x h => ?_
    rw [← ev_sh b env h]
    exact R.mp_bind fun y h => (bop_sh pre o x y h).symm
  | .reqr ne a b, env, h => by
    simp only [ev]
    rw [← ev_sh a env h]
    refine R.mp_bind fun x h => ?_
    rw [shO_sh]
    cases shO x h with
    | none => rfl
    | some p =>
      dsimp only
      rw [← ev_sh b env h]
      refine R.mp_bind fun y h => ?_
      rw [shO_sh]
      cases shO y h with
      | none => rfl
      | some q => dsimp only; split <;> simp only [R.mp, sh]
  | .chain o p a b c, env, h => by
    simp only [ev]
    rw [← ev_sh a env h]
    refine R.mp_bind fun x h => ?_
    rw [← ev_sh b env h]
    refine R.mp_bind fun y h => ?_
    rw [bop_sh]
    refine R.mp_bind fun z h => ?_
    cases z with
    | bl k =>
      cases k with
      | true =>
        simp only [sh]
        rw [← ev_sh c env h]
        exact R.mp_bind fun w h => (bop_sh pre p y w h).symm
      | false => simp only [sh, R.mp]
    | _ => simp only [sh, R.mp]
  | .neg a, env, h => by
    simp only [ev]
    rw [← ev_sh a env h]
    exact R.mp_bind fun x h => by cases x <;> simp only [sh, R.mp]
  | .andE a b, env, h => by
    simp only [ev]
    rw [← ev_sh a env h]
    refine R.mp_bind fun x h => ?_
    rw [tru_sh]
    cases tru h x with
    | none => rfl
    | some k => cases k <;> first | exact ev_sh b env h | rfl
  | .orE a b, env, h => by
    simp only [ev]
    rw [← ev_sh a env h]
    refine R.mp_bind fun x h => ?_
    rw [tru_sh]
    cases tru h x with
    | none => rfl
    | some k => cases k <;> first | exact ev_sh b env h | rfl
  | .notE a, env, h => by
    simp only [ev]
    rw [← ev_sh a env h]
    refine R.mp_bind fun x h => ?_
    rw [tru_sh]
    cases tru h x with
    | none => rfl
    | some k => simp only [R.mp, sh]
  | .ife c a b, env, h => by
    simp only [ev]
    rw [← ev_sh c env h]
    refine R.mp_bind fun x h => ?_
    rw [tru_sh]
    cases tru h x with
    | none => rfl
    | some k => cases k <;> first | exact ev_sh a env h | exact ev_sh b env h
  | .slice a lo hi, env, h => by
    simp only [ev]
    rw [← ev_sh a env h]
    refine R.mp_bind fun x h => ?_
    rw [← evo_sh lo env h]
    refine R.mp_bind fun i h => ?_
    rw [← evo_sh hi env h]
    exact R.mp_bind fun j h => (sliceD_sh pre x i j h).symm
  | .rev a, env, h => by
    simp only [ev]
    rw [← ev_sh a env h]
    exact R.mp_bind fun x h => (revD_sh pre x h).symm
  | .attr a f, env, h => by
    simp only [ev]
    rw [← ev_sh a env h]
    exact R.mp_bind fun x h => (getF_sh pre x f h).symm
  | .call f es, env, h => by
    simp only [ev]
    rw [← evs_sh es env h]
    exact R.mp_bind fun l h => (hc "" f l h).symm
  | .callv i es, env, h => by
    simp only [ev]
    rw [lk_sh]
    refine R.mp_bind fun x h' => ?_
    rw [← evs_sh es env h]
    refine R.mp_bind fun l h => ?_
    cases x with
    | fn f => simp only [sh]; exact (hc "" f l h).symm
    | _ => simp only [sh, R.mp]
  | .new c es, env, h => by
    simp only [ev]
    rw [← evs_sh es env h]
    refine R.mp_bind fun l h => ?_
    have e := hc c "__init__" (.ref h.length :: l) (h ++ [.ins c []])
    rw [← shH_push, List.map_cons] at e
    simp only [sh] at e
    rw [shH_len]
    have e2 : shOb pre.length (.ins c []) = .ins c [] := rfl
    rw [e2] at e
    rw [e]
    exact R.mp_bind fun v h => by cases v <;> simp only [sh, R.mp]
  | .bi b es, env, h => by
    simp only [ev]
    rw [← evs_sh es env h]
    exact R.mp_bind fun l h => (bi_sh pre b l h).symm
  | .isi a ts, env, h => by
    simp only [ev]
    rw [← ev_sh a env h]
    refine R.mp_bind fun x h => ?_
    rw [isAny_sh]
    exact (ob_sh pre _ h).symm
  | .meth o m es, env, h => by
    simp only [ev]
    rw [← ev_sh o env h]
    refine R.mp_bind fun x h => ?_
    cases x with
    | ref a =>
      simp only [sh, shH_get]
      cases h[a]? with
      | none => rfl
      | some ob =>
        cases ob with
        | ins c fs =>
          simp only [Option.map, shOb, shF, look_sh]
          cases fs.lookup m with
          | some v => rfl
          | none =>
            dsimp only [Option.isNone, Bool.true_and]
            split
            · rw [← evs_sh es env h]
              refine R.mp_bind fun l h => ?_
              have e := hc c m (.ref a :: l) h
              rw [List.map_cons] at e
              simp only [sh] at e
              exact e.symm
            · rfl
        | _ => rfl
    | _ => simp only [sh, R.mp]
  | .bm o m es, env, h => by
    simp only [ev]
    rw [← ev_sh o env h]
    refine R.mp_bind fun x h => ?_
    rw [bmOk_sh]
    split
    · rw [← evs_sh es env h]
      exact R.mp_bind fun l h => (mth_sh pre m x l h).symm
    · rfl
  | .comp e t it cs own, env, h => by
    simp only [ev]
    rw [← evi_sh it env h]
    refine R.mp_bind fun s h1 => ?_
    rw [turns_sh, shH_len]
    have e0 : shH pre h1 ++ [O.lst []] = shH pre (h1 ++ [O.lst []]) := by rw [← shH_push]; rfl
    rw [e0]
    rw [← colN_sh pre (nx := nxt s) (nxt_sh pre s) (fun x h2 => ?step) (turns cf.fuel s) 0 (h1 ++ [O.lst []])]
    · exact R.mp_bind fun _ h => by simp only [R.mp, sh]
    case step =>
      rw [shE_wipe]
      rw [← asg_sh t x (wipeE env own) h2]
      refine R.mp_bind fun env1 h3 => ?_
      rw [← evc_sh cs env1 h3]
      refine R.mp_bind fun k h4 => ?_
      cases k with
      | false => rfl
      | true =>
        dsimp only [id]
        rw [if_pos rfl, if_pos rfl]
        rw [← ev_sh e env1 h4]
        exact R.mp_bind fun d h5 => (putL_sh pre _ d h5).symm
  | .dcomp k v t it cs own, env, h => by
    simp only [ev]
    rw [← evi_sh it env h]
    refine R.mp_bind fun s h1 => ?_
    rw [turns_sh, shH_len]
    have e0 : shH pre h1 ++ [O.dct []] = shH pre (h1 ++ [O.dct []]) := by rw [← shH_push]; rfl
    rw [e0]
    rw [← colN_sh pre (nx := nxt s) (nxt_sh pre s) (fun x h2 => ?step) (turns cf.fuel s) 0 (h1 ++ [O.dct []])]
    · exact R.mp_bind fun _ h => by simp only [R.mp, sh]
    case step =>
      rw [shE_wipe]
      rw [← asg_sh t x (wipeE env own) h2]
      refine R.mp_bind fun env1 h3 => ?_
      rw [← evc_sh cs env1 h3]
      refine R.mp_bind fun q h4 => ?_
      cases q with
      | false => rfl
      | true =>
        dsimp only [id]
        rw [if_pos rfl, if_pos rfl]
        rw [← ev_sh k env1 h4]
        refine R.mp_bind fun d h5 => ?_
        rw [← ev_sh v env1 h5]
        exact R.mp_bind fun w h6 => (putD_sh pre _ d w h6).symm
theorem evs_sh : ∀ (es : List CE) (env : AE) (h : AH), (evs cf es env h).mp (List.map (sh pre.length)) (shH pre) = evs cf es (shE pre.length env) (shH pre h)
  | [], _, _ => by simp only [evs, R.mp, List.map_nil]
  | e :: es, env, h => by
    simp only [evs]
    rw [← ev_sh e env h]
    refine R.mp_bind fun d h => ?_
    rw [← evs_sh es env h]
    exact R.mp_bind fun l h => by simp only [R.mp, List.map_cons]
theorem evo_sh : ∀ (e : Option CE) (env : AE) (h : AH), (evo cf e env h).mp id (shH pre) = evo cf e (shE pre.length env) (shH pre h)
  | none, _, _ => by simp only [evo, R.mp, id]
  | some e, env, h => by
    simp only [evo]
    rw [← ev_sh e env h]
    exact R.mp_bind fun d h => by cases d <;> simp only [sh, R.mp, id]
theorem evc_sh : ∀ (es : List CE) (env : AE) (h : AH), (evc cf es env h).mp id (shH pre) = evc cf es (shE pre.length env) (shH pre h)
  | [], _, _ => by simp only [evc, R.mp, id]
  | e :: es, env, h => by
    simp only [evc]
    rw [← ev_sh e env h]
    refine R.mp_bind fun d h => ?_
    rw [tru_sh]
    cases tru h d with
    | none => rfl
    | some k => cases k <;> first | exact evc_sh es env h | rfl
theorem evi_sh : ∀ (c : CI) (env : AE) (h : AH), (evi cf c env h).mp (Src.sh pre.length) (shH pre) = evi cf c (shE pre.length env) (shH pre h)
  | .seq e, env, h => by
    simp only [evi]
    rw [← ev_sh e env h]
    exact R.mp_bind fun d h => (src_sh pre d h).symm
  | .rng1 a, env, h => by
    simp only [evi]
    rw [← ev_sh a env h]
    refine R.mp_bind fun x h => ?_
    cases x <;> simp only [sh] <;> first | rfl | skip
    split
    · simp only [R.mp, Src.sh, rng_sh]
    · rfl
  | .rng2 a b, env, h => by
    simp only [evi]
    rw [← ev_sh a env h]
    refine R.mp_bind fun x h => ?_
    rw [← ev_sh b env h]
    refine R.mp_bind fun y h => ?_
    cases x <;> cases y <;> simp only [sh] <;> first | rfl | skip
    split
    · simp only [R.mp, Src.sh, rng_sh]
    · rfl
  | .rng3 a b c, env, h => by
    simp only [evi]
    rw [← ev_sh a env h]
    refine R.mp_bind fun x h => ?_
    rw [← ev_sh b env h]
    refine R.mp_bind fun y h => ?_
    rw [← ev_sh c env h]
    refine R.mp_bind fun z h => ?_
    cases x with
    | int i =>
      cases y with
      | int j =>
        cases z with
        | int k =>
          simp only [sh]
          split
          · simp only [R.mp, Src.sh, rng_sh]
          · rfl
        | _ => rfl
      | _ => cases z <;> rfl
    | _ => cases y <;> cases z <;> rfl
  | .enum e, env, h => by
    simp only [evi]
    rw [← ev_sh e env h]
    exact R.mp_bind fun d h => (enumS_sh pre d h).symm
  | .zip a b, env, h => by
    simp only [evi]
    rw [← ev_sh a env h]
    refine R.mp_bind fun x h => ?_
    rw [← ev_sh b env h]
    refine R.mp_bind fun y h => ?_
    rw [fixD_sh, fixD_sh]
    cases fixD x with
    | none => rfl
    | some l =>
      cases fixD y with
      | none => rfl
      | some m => simp only [Option.map, R.mp, Src.sh, zipL_sh]
  | .rev e, env, h => by
    simp only [evi]
    rw [← ev_sh e env h]
    refine R.mp_bind fun d h => ?_
    rw [fixD_sh]
    cases fixD d with
    | none => rfl
    | some l => simp only [Option.map, R.mp, Src.sh, List.map_reverse]
theorem asg_sh : ∀ (t : CT) (d : D) (env : AE) (h : AH), (asg cf t d env h).mp (shE pre.length) (shH pre) = asg cf t (sh pre.length d) (shE pre.length env) (shH pre h)
  | .name i, d, env, h => by simp only [asg, R.mp]; rw [← shE_set]; rfl
  | .tup ts, d, env, h => by
    simp only [asg, seqD_sh]
    cases seqD d h with
    | none => rfl
    | some l =>
      simp only [Option.map, List.length_map]
      split
      · exact asgs_sh ts l env h
      · rfl
  | .attr o f, d, env, h => by
    simp only [asg]
    rw [← ev_sh o env h]
    refine R.mp_bind fun x h => ?_
    rw [setF_sh]
    exact R.mp_bind fun _ h => by simp only [R.mp]
  | .sub o i, d, env, h => by
    simp only [asg]
    rw [← ev_sh o env h]
    refine R.mp_bind fun x h => ?_
    rw [← ev_sh i env h]
    refine R.mp_bind fun y h => ?_
    rw [setI_sh]
    exact R.mp_bind fun _ h => by simp only [R.mp]
theorem asgs_sh : ∀ (ts : List CT) (l : List D) (env : AE) (h : AH), (asgs cf ts l env h).mp (shE pre.length) (shH pre) = asgs cf ts (l.map (sh pre.length)) (shE pre.length env) (shH pre h)
  | [], l, env, h => by cases l <;> simp only [asgs, List.map_nil, List.map_cons, R.mp]
  | t :: ts, [], env, h => by simp only [asgs, List.map_nil, R.mp]
  | t :: ts, d :: ds, env, h => by
    simp only [asgs, List.map_cons]
    rw [← asg_sh t d env h]
    exact R.mp_bind fun e1 h1 => asgs_sh ts ds e1 h1
end
theorem tst_sh (e : CE) (env : AE) (h : AH) : (tst cf e env h).mp id (shH pre) = tst cf e (shE pre.length env) (shH pre h) := by
  unfold tst
  rw [← ev_sh hc e env h]
  refine R.mp_bind fun d h => ?_
  rw [tru_sh]
  cases tru h d <;> rfl
theorem whlF_sh {c : AE → AH → R Bool} {b : AE → AH → S} (h1 : ∀ e h, (c e h).mp id (shH pre) = c (shE pre.length e) (shH pre h)) (h2 : ∀ e h, (b e h).mp pre.length (shH pre) = b (shE pre.length e) (shH pre h)) :
    ∀ (n : Nat) (e : AE) (h : AH), (whlF c b n e h).mp pre.length (shH pre) = whlF c b n (shE pre.length e) (shH pre h)
  | 0, _, _ => rfl
  | n + 1, e, h => by
    simp only [whlF]
    rw [← h1]
    refine R.mp_st fun k h => ?_
    cases k with
    | false => rfl
    | true =>
      dsimp only [id]
      rw [if_pos rfl, if_pos rfl, ← h2]
      exact S.mp_loop fun e h => whlF_sh h1 h2 n e h

omit hc in
theorem S.mp_mapH {x : S} {k : Nat} {t f f' : AH → AH} (hf : ∀ h, t (f h) = f' (t h)) : (x.mapH f).mp k t = (x.mp k t).mapH f' := by
  cases x <;> simp only [S.mapH, S.mp, hf]
omit hc in
theorem unrod_sh (a : Nat) (h : AH) : shH pre (unrod a h) = unrod (a + pre.length) (shH pre h) := by
  unfold unrod
  rw [shH_get]
  cases h[a]? with
  | none => rfl
  | some o => cases o <;> simp only [Option.map, shOb] <;> first | rfl | (rw [← shH_set]; rfl)
theorem forK_sh {st st' : D → AE → AH → S} (hs : ∀ d e h, (st d e h).mp pre.length (shH pre) = st' (sh pre.length d) (shE pre.length e) (shH pre h)) (d : D) (e : AE) (h : AH) :
    (forK st d e h).mp pre.length (shH pre) = forK st' (sh pre.length d) (shE pre.length e) (shH pre h) := by
  cases d with
  | ref a =>
    simp only [sh, forK, shH_get]
    cases h[a]? with
    | none => rfl
    | some o =>
      cases o with
      | dct k =>
        simp only [Option.map, shOb, shKV_len]
        rw [S.mp_mapH (f' := unrod (a + pre.length)) (unrod_sh a)]
        have e1 : (shH pre h).set (a + pre.length) (O.rod (shKV pre.length k)) = shH pre (h.set a (.rod k)) := by rw [← shH_set]; rfl
        have e2 : (shKV pre.length k).map Prod.fst = (k.map Prod.fst).map (sh pre.length) := by unfold shKV; simp only [List.map_map, Function.comp_def]
        rw [e1]
        congr 1
        refine (forN_sh pre (nx := nxt (.its (k.map Prod.fst))) (nx' := nxt (.its ((k.map Prod.fst).map (sh pre.length)))) (nxt_sh pre (.its (k.map Prod.fst))) hs _ 0 e _).trans ?_
        rw [← e2]
      | _ => rfl
  | _ => rfl
mutual
theorem exec_sh : ∀ (c : CS) (env : AE) (h : AH), (exec cf c env h).mp pre.length (shH pre) = exec cf c (shE pre.length env) (shH pre h)
  | .asg t e, env, h => by
    simp only [exec]
    rw [← ev_sh hc e env h]
    refine R.mp_st fun d h => ?_
    rw [← asg_sh hc t d env h]
    exact R.mp_sb fun e h => rfl
  | .aug t o e, env, h => by
    cases t with
    | name i =>
      simp only [exec]
      rw [lk_sh]
      refine R.mp_st fun x h => ?_
      rw [← ev_sh hc e env h]
      refine R.mp_st fun y h => ?_
      rw [iopB_sh]
      exact R.mp_sb fun z h => by simp only [S.mp]; rw [← shE_set]; rfl
    | attr a f =>
      simp only [exec]
      rw [← ev_sh hc a env h]
      refine R.mp_st fun ov h => ?_
      rw [getF_sh]
      refine R.mp_sb fun x h => ?_
      rw [← ev_sh hc e env h]
      refine R.mp_st fun y h => ?_
      rw [iopB_sh]
      refine R.mp_sb fun z h => ?_
      rw [setF_sh]
      exact R.mp_sb fun _ h => rfl
    | tup _ => simp only [exec, S.mp]
    | sub _ _ => simp only [exec, S.mp]
  | .fld o f e, env, h => by
    simp only [exec]
    rw [← ev_sh hc e env h]
    refine R.mp_st fun y h => ?_
    rw [← ev_sh hc o env h]
    refine R.mp_st fun x h => ?_
    rw [setF_sh]
    exact R.mp_sb fun _ h => rfl
  | .ex e, env, h => by
    simp only [exec]
    rw [← ev_sh hc e env h]
    exact R.mp_st fun _ h => rfl
  | .ret e, env, h => by
    simp only [exec]
    rw [← ev_sh hc e env h]
    exact R.mp_st fun _ h => rfl
  | .pass, env, h => by simp only [exec, S.mp]
  | .brk, env, h => by simp only [exec, S.mp]
  | .cont, env, h => by simp only [exec, S.mp]
  | .ifs c a b, env, h => by
    simp only [exec]
    rw [← tst_sh hc c env h]
    refine R.mp_st fun k h => ?_
    cases k with
    | true => exact execs_sh a env h
    | false => exact execs_sh b env h
  | .whl c b, env, h => by
    simp only [exec]
    exact whlF_sh hc (tst_sh hc c) (execs_sh b) cf.fuel env h
  | .for_ t it b, env, h => by
    simp only [exec]
    rw [← evi_sh hc it env h]
    refine R.mp_st fun s h => ?_
    unfold forS
    rw [turns_sh]
    refine forN_sh pre (nx := nxt s) (nxt_sh pre s) (fun x e h => ?_) _ 0 env h
    rw [← asg_sh hc t x e h]
    exact R.mp_sb fun e h => execs_sh b e h
  | .forK t e b, env, h => by
    simp only [exec]
    rw [← ev_sh hc e env h]
    refine R.mp_st fun d h => ?_
    refine forK_sh hc (fun x e h => ?_) d env h
    rw [← asg_sh hc t x e h]
    exact R.mp_sb fun e h => execs_sh b e h
  | .raise c, env, h => by simp only [exec, S.mp]
  | .tryx b c n s, env, h => by
    simp only [exec]
    rw [← execs_sh b env h]
    cases execs cf b env h with
    | exc k e h1 =>
      show S.mp pre.length (shH pre) (if cf.isx k = true then (if cf.sub k c = true then _ else S.exc k e h1) else S.bad) = (if cf.isx k = true then (if cf.sub k c = true then _ else S.exc k (shE pre.length e) (shH pre h1)) else S.bad)
      cases cf.isx k with
      | false => rfl
      | true =>
        rw [if_pos rfl, if_pos rfl]
        cases cf.sub k c with
        | false => rfl
        | true =>
          rw [if_pos rfl, if_pos rfl]
          cases n with
          | none =>
            dsimp only
            rw [← execs_sh s e h1]
            cases execs cf s e h1 <;> rfl
          | some i =>
            dsimp only
            have e1 : (shE pre.length e).set i (some (D.exn k)) = shE pre.length (e.set i (some (.exn k))) := by rw [← shE_set]; simp only [Option.map, sh]
            rw [e1, ← execs_sh s (e.set i (some (.exn k))) h1]
            have e2 : ∀ e : AE, (shE pre.length e).set i none = shE pre.length (e.set i none) := fun e => by rw [← shE_set]; rfl
            cases execs cf s (e.set i (some (.exn k))) h1 <;> simp only [S.mp, e2]
    | _ => rfl
theorem execs_sh : ∀ (l : List CS) (env : AE) (h : AH), (execs cf l env h).mp pre.length (shH pre) = execs cf l (shE pre.length env) (shH pre h)
  | [], env, h => by simp only [execs, S.mp]
  | s :: ss, env, h => by
    simp only [execs]
    rw [← exec_sh s env h]
    exact S.mp_seq fun e h => execs_sh ss e h
end
theorem runF_sh (o : Option Fd) (l : List D) (h : AH) : runF o cf (l.map (sh pre.length)) (shH pre h) = RM pre (runF o cf l h) := by
  cases o with
  | none => rfl
  | some d =>
    simp only [runF, List.length_map]
    split
    · have e : frame d (l.map (sh pre.length)) = shE pre.length (frame d l) := by
        unfold frame shE
        simp only [List.map_append, List.map_map, List.map_replicate, Function.comp_def, Option.map]
      rw [e, ← execs_sh hc]
      cases execs cf d.body (frame d l) h <;> simp only [S.mp, outS, R.mp, sh]
    · rfl
end
/-- a call does not look below -/
theorem run_sh (p : Pg) (fuel : Nat) (pre : AH) : ∀ n, CallSh (p.cf fuel n) pre
  | 0 => fun _ _ _ _ => rfl
  | n + 1 => fun c f l h => runF_sh (run_sh p fuel pre n) (p.funs.lookup (c, f)) l h
theorem shH_nil (pre : AH) : shH pre [] = pre := by unfold shH; simp
/-- a call with arguments of no place: as over the empty heap -/
theorem call_sh {p : Pg} {fuel n : Nat} {c f : Str} {l : List D} (hl : noRL l = true) (pre : AH) : (p.cf fuel n).call c f l pre = RM pre ((p.cf fuel n).call c f l []) := by
  have e := run_sh p fuel pre n c f l []
  rw [shH_nil, ← shS_map, shS_noR _ l hl] at e
  exact e
end DL

/-! DL, part u: the laws' stream and draw. -/
namespace DL
open PySem
def dS : Fd := ⟨1, 3, [.asg (.name 1) (.con (.int 17)),
    .for_ (.name 2) (.seq (.var 0)) [.asg (.name 1) (.bop .mod (.bi .int [.bop .add (.bop .add (.bop .mul (.var 1) (.con (.int 48271))) (.bop .mod (.bi .int [.var 2]) (.con (.int 65521)))) (.con (.int 1))]) (.con (.int 2147483647)))],
    .ret (.lst [.bi .list [.var 0], .con (.int 0), .con (.int 0), .var 1])]⟩
def dD : Fd := ⟨2, 3, [.ifs (.andE (.bop .eq (.bop .item (.var 0) (.con (.int 1))) (.con (.int 0))) (.bop .lt (.bop .item (.var 0) (.con (.int 2))) (.bi .len [.bop .item (.var 0) (.con (.int 0))]))) [.asg (.sub (.var 0) (.con (.int 1))) (.bi .abs [.bi .int [.bop .item (.bop .item (.var 0) (.con (.int 0))) (.bop .item (.var 0) (.con (.int 2)))]]),
    .asg (.sub (.var 0) (.con (.int 2))) (.bop .add (.bop .item (.var 0) (.con (.int 2))) (.con (.int 1)))] [],
    .ifs (.bop .eq (.bop .item (.var 0) (.con (.int 1))) (.con (.int 0))) [.asg (.sub (.var 0) (.con (.int 3))) (.bop .mod (.bi .int [.bop .add (.bop .mul (.bop .item (.var 0) (.con (.int 3))) (.con (.int 48271))) (.con (.int 11))]) (.con (.int 2147483647))),
    .ret (.bop .mod (.bi .int [.bop .fdiv (.bop .item (.var 0) (.con (.int 3))) (.con (.int 97))]) (.var 1))] [],
    .asg (.name 2) (.bop .mod (.bi .int [.bop .item (.var 0) (.con (.int 1))]) (.var 1)),
    .asg (.sub (.var 0) (.con (.int 1))) (.bop .fdiv (.bop .item (.var 0) (.con (.int 1))) (.var 1)),
    .ret (.var 2)]⟩
/-- the mixing step -/
def mixB : CS := .asg (.name 1) (.bop .mod (.bi .int [.bop .add (.bop .add (.bop .mul (.var 1) (.con (.int 48271))) (.bop .mod (.bi .int [.var 2]) (.con (.int 65521)))) (.con (.int 1))]) (.con (.int 2147483647)))
theorem small_c : small 48271 = true := by decide
theorem mix_step (cf : Cf) (w : D) (m x : Int) (e2 : Option D) (h : AH) : ∃ m' : Int, 0 ≤ m' ∧ m' < 2147483647 ∧ ((asg cf (.name 2) (.int x) [some w, some (.int m), e2] h).sb fun e1 h3 => execs cf [mixB] e1 h3) = .nx [some w, some (.int m'), some (.int x)] h := by
  refine ⟨(m * 48271 + x % 65521 + 1) % 2147483647, Int.emod_nonneg _ (by decide), Int.emod_lt_of_pos _ (by decide), ?_⟩
  simp [mixB, asg, execs, exec, ev, evs, lk, bop, mulB, addB, bi, bi1, noR, small_c, R.sb, R.bind, R.st, S.seq]
theorem mix_loop (cf : Cf) (ns : List Int) (h : AH) : ∀ (k i : Nat) (m : Int) (e2 : Option D), i + k = ns.length → 0 ≤ m → m < 2147483647 →
    ∃ (m' : Int) (e2' : Option D), 0 ≤ m' ∧ m' < 2147483647 ∧ forN (nxt (.its (ns.map .int))) (fun x e h => (asg cf (.name 2) x e h).sb fun e1 h3 => execs cf [mixB] e1 h3) (k + 1) i [some (.wl (ns.map .int)), some (.int m), e2] h = .nx [some (.wl (ns.map .int)), some (.int m'), e2'] h
  | 0, i, m, e2, hi, h0, h1 => ⟨m, e2, h0, h1, by
      have : (ns.map D.int)[i]? = none := by rw [List.getElem?_eq_none_iff, List.length_map]; omega
      simp only [forN, nxt, this]⟩
  | k + 1, i, m, e2, hi, h0, h1 => by
    have hl : i < ns.length := by omega
    have e : (ns.map D.int)[i]? = some (.int ns[i]) := by rw [List.getElem?_map, List.getElem?_eq_getElem hl]; rfl
    obtain ⟨m1, a1, a2, a3⟩ := mix_step cf (.wl (ns.map .int)) m ns[i] e2 h
    obtain ⟨m2, e3, b1, b2, b3⟩ := mix_loop cf ns h k (i + 1) m1 (some (.int ns[i])) (by omega) a1 a2
    refine ⟨m2, e3, b1, b2, ?_⟩
    rw [forN]
    simp only [nxt, e]
    rw [a3]
    exact b3
theorem stream_run (cf : Cf) (ns : List Int) (h : AH) : ∃ m : Int, 0 ≤ m ∧ m < 2147483647 ∧
    runF (some dS) cf [.wl (ns.map .int)] h = .ok (.ref (h.length + 1)) (h ++ [.lst (ns.map .int), .lst [.ref h.length, .int 0, .int 0, .int m]]) := by
  obtain ⟨m, e2, h0, h1, e⟩ := mix_loop cf ns h ns.length 0 17 none (by omega) (by decide) (by decide)
  refine ⟨m, h0, h1, ?_⟩
  simp only [runF, dS, frame, List.length_cons, List.length_nil, if_true, List.map_cons, List.map_nil, execs]
  simp only [exec, ev, noR, R.st_ok, asg, R.sb_ok, S.seq_nx, evi, lk]
  simp only [List.replicate, List.cons_append, List.nil_append, List.set_cons_succ, List.set_cons_zero, List.getElem?_cons_zero, R.bind_ok, src, R.st_ok, forS, turns, List.length_map]
  have e' : forN (nxt (Src.its (List.map D.int ns))) (fun x e h2 => execs cf [mixB] (List.set e 2 (some x)) h2) (ns.length + 1) 0 [some (.wl (ns.map .int)), some (.int 17), none] h = _ := e
  simp only [mixB] at e'
  rw [e']
  simp [S.seq, exec, ev, evs, lk, bi, bi1, biL, noR, R.bind, R.st, outS]

/-- the stream stands at a, its script at b -/
structure StAt (ns : List Int) (a b : Nat) (h : AH) (x y z : Int) : Prop where
  ob : h[a]? = some (.lst [.ref b, .int x, .int y, .int z])
  sc : h[b]? = some (.lst (ns.map .int))
  ne : a ≠ b
  x0 : 0 ≤ x
  y0 : 0 ≤ y
theorem StAt.set {ns : List Int} {a b : Nat} {h : AH} {x y z x' y' z' : Int} (s : StAt ns a b h x y z) (hx : 0 ≤ x') (hy : 0 ≤ y') : StAt ns a b (h.set a (.lst [.ref b, .int x', .int y', .int z'])) x' y' z' :=
  ⟨by rw [List.getElem?_set_self (List.getElem?_eq_some_iff.mp s.ob).1], by rw [List.getElem?_set_ne s.ne]; exact s.sc, s.ne, hx, hy⟩
section
variable {cf : Cf} {ns : List Int} {a b : Nat} {h : AH} {x y z many : Int}
theorem it_a (s : StAt ns a b h x y z) (i : Int) {d : D} (e : at_ [.ref b, .int x, .int y, .int z] i = some d) : bop .item (.ref a) (.int i) h = .ok d h := by
  simp only [bop, itemB, s.ob, e]
theorem set_a (s : StAt ns a b h x y z) (j : Int) (v : D) (hj : 0 ≤ j) (hj4 : j < 4) : setI (.ref a) (.int j) v h = .ok () (h.set a (.lst ([D.ref b, .int x, .int y, .int z].set j.toNat v))) := by
  have e : ∃ d, at_ [D.ref b, .int x, .int y, .int z] j = some d := by
    unfold at_
    rw [if_pos hj]
    exact ⟨_, List.getElem?_eq_getElem (by simp; omega)⟩
  obtain ⟨d, e⟩ := e
  simp only [setI, s.ob, e, if_pos hj]
theorem draw_end (s : StAt ns a b h x y z) (hm : 0 < many) (hm2 : many < 1073741824) (hx : x ≠ 0) (e2 : Option D) :
    execs cf [.asg (.name 2) (.bop .mod (.bi .int [.bop .item (.var 0) (.con (.int 1))]) (.var 1)),
    .asg (.sub (.var 0) (.con (.int 1))) (.bop .fdiv (.bop .item (.var 0) (.con (.int 1))) (.var 1)),
    .ret (.var 2)] [some (.ref a), some (.int many), e2] h = .rt (.int (x % many)) (h.set a (.lst [.ref b, .int (x / many), .int y, .int z])) := by
  have i1 := it_a s 1 (d := .int x) rfl
  have g1 : bop .mod (.int x) (.int many) h = .ok (.int (x % many)) h := by simp only [bop, if_pos hm]
  have g2 : bop .fdiv (.int x) (.int many) h = .ok (.int (x / many)) h := by simp only [bop, if_pos (And.intro hm hm2)]
  have g3 := set_a s 1 (.int (x / many)) (by decide) (by decide)
  simp [execs, exec, ev, evs, lk, asg, noR, i1, g1, g2, g3, bi, bi1, R.bind, R.st, R.sb, S.seq]
theorem draw_mid (s : StAt ns a b h 0 y z) (hm : 0 < many) (e2 : Option D) (rest : List CS) :
    execs cf (.asg (.sub (.var 0) (.con (.int 3))) (.bop .mod (.bi .int [.bop .add (.bop .mul (.bop .item (.var 0) (.con (.int 3))) (.con (.int 48271))) (.con (.int 11))]) (.con (.int 2147483647))) ::
    .ret (.bop .mod (.bi .int [.bop .fdiv (.bop .item (.var 0) (.con (.int 3))) (.con (.int 97))]) (.var 1)) :: rest) [some (.ref a), some (.int many), e2] h = .rt (.int ((z * 48271 + 11) % 2147483647 / 97 % many)) (h.set a (.lst [.ref b, .int 0, .int y, .int ((z * 48271 + 11) % 2147483647)])) := by
  have i1 := it_a s 3 (d := .int z) rfl
  have g3 := set_a s 3 (.int ((z * 48271 + 11) % 2147483647)) (by decide) (by decide)
  have s2 := s.set (x' := 0) (y' := y) (z' := (z * 48271 + 11) % 2147483647) (Int.le_refl _) s.y0
  have i2 := it_a s2 3 (d := .int ((z * 48271 + 11) % 2147483647)) rfl
  have g4 : ∀ h w, bop .mod (.int w) (.int many) h = .ok (.int (w % many)) h := fun h w => by simp only [bop, if_pos hm]
  have g5 : ∀ h, bop .mul (.int z) (.int 48271) h = .ok (.int (z * 48271)) h := fun h => by simp [bop, mulB, small_c]
  have g6 : ∀ h (w : Int), bop .mod (.int w) (.int 2147483647) h = .ok (.int (w % 2147483647)) h := fun h w => by simp [bop]
  have g7 : ∀ h (w : Int), bop .fdiv (.int w) (.int 97) h = .ok (.int (w / 97)) h := fun h w => by simp [bop]
  have g8 : ∀ h (w v : Int), bop .add (.int w) (.int v) h = .ok (.int (w + v)) h := fun h w v => rfl
  have g3' : setI (.ref a) (.int 3) (.int ((z * 48271 + 11) % 2147483647)) h = .ok () (h.set a (.lst [.ref b, .int 0, .int y, .int ((z * 48271 + 11) % 2147483647)])) := g3
  simp [execs, exec, ev, evs, lk, asg, noR, i1, g3', i2, g4, g5, g6, g7, g8, bi, bi1, R.bind, R.st, R.sb, S.seq]

theorem at_nat {α : Type} (l : List α) (n : Nat) : at_ l (n : Int) = l[n]? := by
  unfold at_
  rw [if_pos (by omega)]
  simp
/-- a draw: a number below many, the stream goes on -/
theorem draw_run (s : StAt ns a b h x y z) (hm : 0 < many) (hm2 : many < 1073741824) :
    ∃ v x' y' z' : Int, 0 ≤ v ∧ v < many ∧ 0 ≤ x' ∧ 0 ≤ y' ∧ runF (some dD) cf [.ref a, .int many] h = .ok (.int v) (h.set a (.lst [.ref b, .int x', .int y', .int z'])) := by
  have go : ∀ {x y z : Int} {h : AH}, StAt ns a b h x y z → ∃ v x' y' z' : Int, 0 ≤ v ∧ v < many ∧ 0 ≤ x' ∧ 0 ≤ y' ∧
      execs cf (dD.body.drop 1) [some (.ref a), some (.int many), none] h = .rt (.int v) (h.set a (.lst [.ref b, .int x', .int y', .int z'])) := fun {x y z h} s => by
    have i1 := it_a s 1 (d := .int x) rfl
    by_cases hx : x = 0
    · subst hx
      have e := draw_mid (cf := cf) s hm none []
      refine ⟨(z * 48271 + 11) % 2147483647 / 97 % many, 0, y, (z * 48271 + 11) % 2147483647, Int.emod_nonneg _ (by omega), Int.emod_lt_of_pos _ hm, Int.le_refl _, s.y0, ?_⟩
      simp only [dD, List.drop, execs]
      rw [exec]
      have t : tst cf (.bop .eq (.bop .item (.var 0) (.con (.int 1))) (.con (.int 0))) [some (.ref a), some (.int many), none] h = .ok true h := by
        have j1 : itemB (.ref a) (.int 1) h = .ok (.int 0) h := i1
        simp [tst, ev, lk, noR, bop, j1, eqB, ob, tru, R.bind]
      rw [t, R.st_ok, if_pos rfl, e]
      rfl
    · have e := draw_end (cf := cf) s hm hm2 hx none
      refine ⟨x % many, x / many, y, z, Int.emod_nonneg _ (by omega), Int.emod_lt_of_pos _ hm, Int.ediv_nonneg s.x0 (by omega), s.y0, ?_⟩
      simp only [dD, List.drop]
      rw [execs, exec]
      have t : tst cf (.bop .eq (.bop .item (.var 0) (.con (.int 1))) (.con (.int 0))) [some (.ref a), some (.int many), none] h = .ok false h := by
        simp only [bop] at i1
        simp [tst, ev, lk, noR, bop, i1, eqB, ob, tru, R.bind, hx]
      rw [t, R.st_ok, if_neg Bool.false_ne_true, execs, S.seq_nx, e]
  have fin : ∀ {h' : AH}, (∃ x y z, StAt ns a b h' x y z ∧ ∃ o, h' = h.set a o) → execs cf (dD.body.take 1) [some (.ref a), some (.int many), none] h = .nx [some (.ref a), some (.int many), none] h' →
      ∃ v x' y' z' : Int, 0 ≤ v ∧ v < many ∧ 0 ≤ x' ∧ 0 ≤ y' ∧ runF (some dD) cf [.ref a, .int many] h = .ok (.int v) (h.set a (.lst [.ref b, .int x', .int y', .int z'])) := fun {h'} ⟨x1, y1, z1, s1, o, e0⟩ e => by
    obtain ⟨v, x', y', z', h1, h2, h3, h4, h5⟩ := go s1
    refine ⟨v, x', y', z', h1, h2, h3, h4, ?_⟩
    have e1 : execs cf dD.body [some (.ref a), some (.int many), none] h = .rt (.int v) (h.set a (.lst [.ref b, .int x', .int y', .int z'])) := by
      have sp : dD.body = dD.body.take 1 ++ dD.body.drop 1 := (List.take_append_drop 1 _).symm
      have app : ∀ (l m : List CS) (e : AE) (h : AH), execs cf (l ++ m) e h = (execs cf l e h).seq fun e h => execs cf m e h := fun l => by
        induction l with
        | nil => intro m e h; rfl
        | cons c l ih =>
          intro m e h
          simp only [List.cons_append, execs]
          cases exec cf c e h <;> first | rfl | exact ih _ _ _
      rw [sp, app, e, S.seq_nx, h5, e0, List.set_set]
    show (if ([D.ref a, D.int many] : List D).length = 2 then outS (execs cf dD.body [some (.ref a), some (.int many), none] h) else .bad) = _
    rw [if_pos (show ([D.ref a, D.int many] : List D).length = 2 from rfl), e1]
    rfl
  have i0 := it_a s 0 (d := .ref b) rfl
  have i1 := it_a s 1 (d := .int x) rfl
  have i2 := it_a s 2 (d := .int y) rfl
  have ln : ∀ h : AH, h[b]? = some (.lst (ns.map .int)) → bi .len [.ref b] h = .ok (.int ns.length) h := fun h e => by
    simp only [bi, bi1, e, biL, List.length_map]
  have cond : tst cf (.andE (.bop .eq (.bop .item (.var 0) (.con (.int 1))) (.con (.int 0))) (.bop .lt (.bop .item (.var 0) (.con (.int 2))) (.bi .len [.bop .item (.var 0) (.con (.int 0))]))) [some (.ref a), some (.int many), none] h = .ok (decide (x = 0) && decide (y < ns.length)) h := by
    by_cases hx : x = 0
    · subst hx
      have j0 : itemB (.ref a) (.int 0) h = .ok (.ref b) h := i0
      have j1 : itemB (.ref a) (.int 1) h = .ok (.int 0) h := i1
      have j2 : itemB (.ref a) (.int 2) h = .ok (.int y) h := i2
      have j3 := ln h s.sc
      simp [tst, ev, evs, lk, noR, bop, j0, j1, j2, j3, eqB, ob, tru, R.bind]
    · have j1 : itemB (.ref a) (.int 1) h = .ok (.int x) h := i1
      simp [tst, ev, evs, lk, noR, bop, j1, eqB, ob, tru, R.bind, hx]
  by_cases hc : x = 0 ∧ y < ns.length
  · obtain ⟨rfl, hy⟩ := hc
    obtain ⟨yn, rfl⟩ := Int.eq_ofNat_of_zero_le s.y0
    have hyn : yn < ns.length := by omega
    have it : bop .item (.ref b) (.int yn) h = .ok (.int ns[yn]) h := by
      simp only [bop, itemB, s.sc, at_nat, List.getElem?_map, List.getElem?_eq_getElem hyn, Option.map]
    have g1 := set_a s 1 (.int (ns[yn].natAbs : Int)) (by decide) (by decide)
    have g1' : setI (.ref a) (.int 1) (.int (ns[yn].natAbs : Int)) h = .ok () (h.set a (.lst [.ref b, .int (ns[yn].natAbs : Int), .int yn, .int z])) := g1
    have s2 := s.set (x' := (ns[yn].natAbs : Int)) (y' := yn) (z' := z) (by omega) s.y0
    have i3 := it_a s2 2 (d := .int yn) rfl
    have g2 := set_a s2 2 (.int ((yn : Int) + 1)) (by decide) (by decide)
    have g2' : setI (.ref a) (.int 2) (.int ((yn : Int) + 1)) (h.set a (.lst [.ref b, .int (ns[yn].natAbs : Int), .int yn, .int z])) = .ok () ((h.set a (.lst [.ref b, .int (ns[yn].natAbs : Int), .int yn, .int z])).set a (.lst [.ref b, .int (ns[yn].natAbs : Int), .int (yn + 1), .int z])) := g2
    have s3 := s2.set (x' := (ns[yn].natAbs : Int)) (y' := (yn : Int) + 1) (z' := z) (by omega) (by omega)
    refine fin (h' := (h.set a (.lst [.ref b, .int (ns[yn].natAbs : Int), .int yn, .int z])).set a (.lst [.ref b, .int (ns[yn].natAbs : Int), .int (yn + 1), .int z])) ⟨_, _, _, s3, _, List.set_set _⟩ ?_
    simp only [dD, List.take, execs]
    rw [exec, cond, R.st_ok, if_pos (by simp; omega)]
    have ab : ∀ h, bi .abs [.int ns[yn]] h = .ok (.int (ns[yn].natAbs : Int)) h := fun _ => rfl
    have ii : ∀ h, bi .int [.int ns[yn]] h = .ok (.int ns[yn]) h := fun _ => rfl
    have ad : ∀ h, bop .add (.int (yn : Int)) (.int 1) h = .ok (.int ((yn : Int) + 1)) h := fun _ => rfl
    simp [execs, exec, ev, evs, lk, asg, noR, i0, i2, it, ii, ab, g1', i3, ad, g2', R.bind, R.st, R.sb, S.seq]
  · refine fin (h' := h) ⟨x, y, z, s, .lst [.ref b, .int x, .int y, .int z], ?_⟩ ?_
    · apply List.ext_getElem?
      intro i
      by_cases hi : i = a
      · subst hi; rw [s.ob, List.getElem?_set_self (List.getElem?_eq_some_iff.mp s.ob).1]
      · rw [List.getElem?_set_ne (Ne.symm hi)]
    · simp only [dD, List.take, execs]
      rw [exec, cond, R.st_ok, if_neg (by simp; intro z; exact Int.not_lt.mp fun q => hc ⟨z, q⟩)]
      simp only [execs, S.seq_nx]
end
end DL

/-! DL, part v: a slot that the code does not name. -/
namespace DL
open PySem
mutual
def avE (j : Nat) : CE → Bool
  | .var i => decide (i ≠ j)
  | .con _ => true
  | .tup es => avEs j es
  | .lst es => avEs j es
  | .dnew => true
  | .ddisp ks vs => avEs j ks && avEs j vs
  | .bop _ a b => avE j a && avE j b
  | .reqr _ a b => avE j a && avE j b
  | .chain _ _ a b c => avE j a && avE j b && avE j c
  | .neg a => avE j a
  | .andE a b => avE j a && avE j b
  | .orE a b => avE j a && avE j b
  | .notE a => avE j a
  | .ife c a b => avE j c && avE j a && avE j b
  | .slice a lo hi => avE j a && avO j lo && avO j hi
  | .rev a => avE j a
  | .attr a _ => avE j a
  | .call _ es => avEs j es
  | .callv i es => decide (i ≠ j) && avEs j es
  | .new _ es => avEs j es
  | .bi _ es => avEs j es
  | .isi a _ => avE j a
  | .meth o _ es => avE j o && avEs j es
  | .bm o _ es => avE j o && avEs j es
  | .comp e t it cs own => avE j e && avT j t && avI j it && avEs j cs && decide (j ∉ own)
  | .dcomp k v t it cs own => avE j k && avE j v && avT j t && avI j it && avEs j cs && decide (j ∉ own)
def avEs (j : Nat) : List CE → Bool
  | [] => true
  | e :: r => avE j e && avEs j r
def avO (j : Nat) : Option CE → Bool
  | none => true
  | some e => avE j e
def avI (j : Nat) : CI → Bool
  | .seq e => avE j e
  | .rng1 a => avE j a
  | .rng2 a b => avE j a && avE j b
  | .rng3 a b c => avE j a && avE j b && avE j c
  | .enum e => avE j e
  | .zip a b => avE j a && avE j b
  | .rev e => avE j e
def avT (j : Nat) : CT → Bool
  | .name i => decide (i ≠ j)
  | .tup ts => avTs j ts
  | .attr o _ => avE j o
  | .sub o i => avE j o && avE j i
def avTs (j : Nat) : List CT → Bool
  | [] => true
  | t :: r => avT j t && avTs j r
end
mutual
def avS (j : Nat) : CS → Bool
  | .asg t e => avT j t && avE j e
  | .aug t _ e => avT j t && avE j e
  | .fld o _ e => avE j o && avE j e
  | .ex e => avE j e
  | .ret e => avE j e
  | .pass => true
  | .brk => true
  | .cont => true
  | .ifs c a b => avE j c && avSs j a && avSs j b
  | .whl c b => avE j c && avSs j b
  | .for_ t it b => avT j t && avI j it && avSs j b
  | .forK t e b => avT j t && avE j e && avSs j b
  | .raise _ => true
  | .tryx b _ n s => avSs j b && avSs j s && decide (n ≠ some j)
def avSs (j : Nat) : List CS → Bool
  | [] => true
  | s :: r => avS j s && avSs j r
end
def S.mpE (f : AE → AE) : S → S
  | .nx e h => .nx (f e) h
  | .rt d h => .rt d h
  | .bk e h => .bk (f e) h
  | .ct e h => .ct (f e) h
  | .exc c e h => .exc c (f e) h
  | .bad => .bad
section
variable {cf : Cf} {j : Nat} {x : Option D}
theorem lk_av {i : Nat} (hi : i ≠ j) (env : AE) (h : AH) : lk (env.set j x) i h = lk env i h := by
  unfold lk
  rw [List.getElem?_set_ne (Ne.symm hi)]
theorem wipe_av : ∀ (vs : List Nat) (env : AE), j ∉ vs → wipeE (env.set j x) vs = (wipeE env vs).set j x
  | [], _, _ => rfl
  | v :: vs, env, h => by
    simp only [List.mem_cons, not_or] at h
    unfold wipeE
    rw [wipe_av vs env h.2, List.set_comm _ _ h.1]
theorem R.mp_id {α β γ : Type} {r : R α} {g : α → γ} {f : α → AH → R β} {f' : γ → AH → R β} (hf : ∀ a h, f' (g a) h = f a h) : (r.mp g id).bind f' = r.bind f := by
  cases r with
  | ok a h => exact hf a h
  | exc c h => rfl
  | bad => rfl
theorem bind_congr {α β : Type} {r : R α} {f f' : α → AH → R β} (hf : ∀ a h, f a h = f' a h) : r.bind f = r.bind f' := by
  cases r with
  | ok a h => exact hf a h
  | exc c h => rfl
  | bad => rfl
theorem bind_mp {α β γ : Type} {r : R α} {g : β → γ} {f : α → AH → R β} {f' : α → AH → R γ} (hf : ∀ a h, f' a h = (f a h).mp g id) : r.bind f' = (r.bind f).mp g id := by
  cases r with
  | ok a h => exact hf a h
  | exc c h => rfl
  | bad => rfl
mutual
theorem ev_av : ∀ (c : CE) (env : AE) (h : AH), avE j c = true → ev cf c (env.set j x) h = ev cf c env h
  | .var i, env, h, a => by simp only [avE, decide_eq_true_eq] at a; simp only [ev]; exact lk_av a env h
  | .con d, env, h, _ => by simp only [ev]
  | .tup es, env, h, a => by simp only [avE] at a; simp only [ev, evs_av es env h a]
  | .lst es, env, h, a => by simp only [avE] at a; simp only [ev, evs_av es env h a]
  | .dnew, env, h, _ => by simp only [ev]
  | .ddisp ks vs, env, h, a => by simp only [avE, Bool.and_eq_true] at a; simp only [ev, evs_av ks env h a.1]; exact bind_congr fun _ h => by simp only [evs_av vs env h a.2]
  | .bop o p q, env, h, a => by simp only [avE, Bool.and_eq_true] at a; simp only [ev, ev_av p env h a.1]; exact bind_congr fun _ h => by simp only [ev_av q env h a.2]
  | .reqr o p q, env, h, a => by
    simp only [avE, Bool.and_eq_true] at a; simp only [ev, ev_av p env h a.1]
    refine bind_congr fun y h => ?_
    cases shO y h with
    | none => rfl
    | some z => simp only [ev_av q env h a.2]
  | .chain o o2 p q r, env, h, a => by
    simp only [avE, Bool.and_eq_true] at a; simp only [ev, ev_av p env h a.1.1]
    refine bind_congr fun y h => ?_
    simp only [ev_av q env h a.1.2]
    refine bind_congr fun z h => bind_congr fun w h => ?_
    cases w with
    | bl k => cases k <;> simp only [ev_av r env h a.2]
    | _ => rfl
  | .neg p, env, h, a => by simp only [avE] at a; simp only [ev, ev_av p env h a]
  | .andE p q, env, h, a => by
    simp only [avE, Bool.and_eq_true] at a; simp only [ev, ev_av p env h a.1]
    refine bind_congr fun y h => ?_
    simp only [ev_av q env h a.2]
  | .orE p q, env, h, a => by
    simp only [avE, Bool.and_eq_true] at a; simp only [ev, ev_av p env h a.1]
    refine bind_congr fun y h => ?_
    simp only [ev_av q env h a.2]
  | .notE p, env, h, a => by simp only [avE] at a; simp only [ev, ev_av p env h a]
  | .ife p q r, env, h, a => by
    simp only [avE, Bool.and_eq_true] at a; simp only [ev, ev_av p env h a.1.1]
    refine bind_congr fun y h => ?_
    simp only [ev_av q env h a.1.2, ev_av r env h a.2]
  | .slice p lo hi, env, h, a => by
    simp only [avE, Bool.and_eq_true] at a; simp only [ev, ev_av p env h a.1.1]
    refine bind_congr fun y h => ?_
    simp only [evo_av lo env h a.1.2]
    refine bind_congr fun z h => ?_
    simp only [evo_av hi env h a.2]
  | .rev p, env, h, a => by simp only [avE] at a; simp only [ev, ev_av p env h a]
  | .attr p f, env, h, a => by simp only [avE] at a; simp only [ev, ev_av p env h a]
  | .call f es, env, h, a => by simp only [avE] at a; simp only [ev, evs_av es env h a]
  | .callv i es, env, h, a => by
    simp only [avE, Bool.and_eq_true, decide_eq_true_eq] at a
    simp only [ev, lk_av a.1, evs_av es env h a.2]
  | .new c es, env, h, a => by simp only [avE] at a; simp only [ev, evs_av es env h a]
  | .bi b es, env, h, a => by simp only [avE] at a; simp only [ev, evs_av es env h a]
  | .isi p ts, env, h, a => by simp only [avE] at a; simp only [ev, ev_av p env h a]
  | .meth p m es, env, h, a => by
    simp only [avE, Bool.and_eq_true] at a; simp only [ev, ev_av p env h a.1]
    refine bind_congr fun y h => ?_
    cases y with
    | ref b =>
      dsimp only
      cases h[b]? with
      | none => rfl
      | some o => cases o <;> simp only [evs_av es env h a.2]
    | _ => rfl
  | .bm p m es, env, h, a => by
    simp only [avE, Bool.and_eq_true] at a; simp only [ev, ev_av p env h a.1]
    refine bind_congr fun y h => ?_
    simp only [evs_av es env h a.2]
  | .comp e t it cs own, env, h, a => by
    simp only [avE, Bool.and_eq_true, decide_eq_true_eq] at a
    obtain ⟨⟨⟨⟨a1, a2⟩, a3⟩, a4⟩, a5⟩ := a
    simp only [ev, evi_av it env h a3]
    refine bind_congr fun s h1 => ?_
    congr 2
    funext y h2
    rw [wipe_av own env a5, asg_av t y _ h2 a2]
    refine R.mp_id fun e1 h3 => ?_
    rw [evc_av cs e1 h3 a4]
    refine bind_congr fun k h4 => ?_
    rw [ev_av e e1 h4 a1]
  | .dcomp k v t it cs own, env, h, a => by
    simp only [avE, Bool.and_eq_true, decide_eq_true_eq] at a
    obtain ⟨⟨⟨⟨⟨a1, a0⟩, a2⟩, a3⟩, a4⟩, a5⟩ := a
    simp only [ev, evi_av it env h a3]
    refine bind_congr fun s h1 => ?_
    congr 2
    funext y h2
    rw [wipe_av own env a5, asg_av t y _ h2 a2]
    refine R.mp_id fun e1 h3 => ?_
    rw [evc_av cs e1 h3 a4]
    refine bind_congr fun q h4 => ?_
    rw [ev_av k e1 h4 a1]
    split
    · exact bind_congr fun d h5 => by rw [ev_av v e1 h5 a0]
    · rfl
theorem evs_av : ∀ (es : List CE) (env : AE) (h : AH), avEs j es = true → evs cf es (env.set j x) h = evs cf es env h
  | [], _, _, _ => by simp only [evs]
  | e :: es, env, h, a => by
    simp only [avEs, Bool.and_eq_true] at a; simp only [evs, ev_av e env h a.1]
    exact bind_congr fun _ h => by simp only [evs_av es env h a.2]
theorem evo_av : ∀ (e : Option CE) (env : AE) (h : AH), avO j e = true → evo cf e (env.set j x) h = evo cf e env h
  | none, _, _, _ => by simp only [evo]
  | some e, env, h, a => by simp only [avO] at a; simp only [evo, ev_av e env h a]
theorem evc_av : ∀ (es : List CE) (env : AE) (h : AH), avEs j es = true → evc cf es (env.set j x) h = evc cf es env h
  | [], _, _, _ => by simp only [evc]
  | e :: es, env, h, a => by
    simp only [avEs, Bool.and_eq_true] at a; simp only [evc, ev_av e env h a.1]
    refine bind_congr fun d h => ?_
    simp only [evc_av es env h a.2]
theorem evi_av : ∀ (c : CI) (env : AE) (h : AH), avI j c = true → evi cf c (env.set j x) h = evi cf c env h
  | .seq e, env, h, a => by simp only [avI] at a; simp only [evi, ev_av e env h a]
  | .rng1 e, env, h, a => by simp only [avI] at a; simp only [evi, ev_av e env h a]
  | .rng2 p q, env, h, a => by
    simp only [avI, Bool.and_eq_true] at a; simp only [evi, ev_av p env h a.1]
    exact bind_congr fun _ h => by simp only [ev_av q env h a.2]
  | .rng3 p q r, env, h, a => by
    simp only [avI, Bool.and_eq_true] at a; simp only [evi, ev_av p env h a.1.1]
    refine bind_congr fun _ h => ?_
    simp only [ev_av q env h a.1.2]
    exact bind_congr fun _ h => by simp only [ev_av r env h a.2]
  | .enum e, env, h, a => by simp only [avI] at a; simp only [evi, ev_av e env h a]
  | .zip p q, env, h, a => by
    simp only [avI, Bool.and_eq_true] at a; simp only [evi, ev_av p env h a.1]
    exact bind_congr fun _ h => by simp only [ev_av q env h a.2]
  | .rev e, env, h, a => by simp only [avI] at a; simp only [evi, ev_av e env h a]
theorem asg_av : ∀ (t : CT) (d : D) (env : AE) (h : AH), avT j t = true → asg cf t d (env.set j x) h = (asg cf t d env h).mp (fun e => e.set j x) id
  | .name i, d, env, h, a => by
    simp only [avT, decide_eq_true_eq] at a
    simp only [asg, R.mp, id]
    rw [List.set_comm _ _ (Ne.symm a)]
  | .tup ts, d, env, h, a => by
    simp only [avT] at a
    simp only [asg]
    cases seqD d h with
    | none => rfl
    | some l =>
      dsimp only
      split
      · exact asgs_av ts l env h a
      · rfl
  | .attr o f, d, env, h, a => by
    simp only [avT] at a
    simp only [asg, ev_av o env h a]
    exact bind_mp fun y h => bind_mp fun _ h => rfl
  | .sub o i, d, env, h, a => by
    simp only [avT, Bool.and_eq_true] at a
    simp only [asg, ev_av o env h a.1]
    refine bind_mp fun y h => ?_
    rw [ev_av i env h a.2]
    exact bind_mp fun z h => bind_mp fun _ h => rfl
theorem asgs_av : ∀ (ts : List CT) (l : List D) (env : AE) (h : AH), avTs j ts = true → asgs cf ts l (env.set j x) h = (asgs cf ts l env h).mp (fun e => e.set j x) id
  | [], l, env, h, _ => by cases l <;> simp only [asgs, R.mp, id]
  | t :: ts, [], env, h, _ => by simp only [asgs, R.mp]
  | t :: ts, d :: ds, env, h, a => by
    simp only [avTs, Bool.and_eq_true] at a
    simp only [asgs, asg_av t d env h a.1]
    cases asg cf t d env h with
    | ok e1 h1 => exact asgs_av ts ds e1 h1 a.2
    | exc c h1 => rfl
    | bad => rfl
end
theorem st_av {α : Type} {r : R α} {e : AE} {g : AE → AE} {f f' : α → AH → S} (hf : ∀ a h, f' a h = (f a h).mpE g) : r.st (g e) f' = (r.st e f).mpE g := by
  cases r with
  | ok a h => exact hf a h
  | exc c h => rfl
  | bad => rfl
theorem sb_av {α β : Type} {r : R α} {g : AE → AE} {p : α → β} {f : α → AH → S} {f' : β → AH → S} (hf : ∀ a h, f' (p a) h = (f a h).mpE g) : (r.mp p id).sb f' = (r.sb f).mpE g := by
  cases r with
  | ok a h => exact hf a h
  | exc c h => rfl
  | bad => rfl
theorem sb_av1 {α : Type} {r : R α} {g : AE → AE} {f f' : α → AH → S} (hf : ∀ a h, f' a h = (f a h).mpE g) : r.sb f' = (r.sb f).mpE g := by
  cases r with
  | ok a h => exact hf a h
  | exc c h => rfl
  | bad => rfl
theorem loop_av {r : S} {g : AE → AE} {f f' : AE → AH → S} (hf : ∀ e h, f' (g e) h = (f e h).mpE g) : loopS (r.mpE g) f' = (loopS r f).mpE g := by
  cases r <;> first | rfl | exact hf _ _
theorem seq_av {r : S} {g : AE → AE} {f f' : AE → AH → S} (hf : ∀ e h, f' (g e) h = (f e h).mpE g) : (r.mpE g).seq f' = (r.seq f).mpE g := by
  cases r <;> first | rfl | exact hf _ _
theorem forN_av {nx : Nat → AH → Option (Option D)} {st : D → AE → AH → S} {g : AE → AE} (hs : ∀ d e h, st d (g e) h = (st d e h).mpE g) : ∀ (n i : Nat) (e : AE) (h : AH), forN nx st n i (g e) h = (forN nx st n i e h).mpE g
  | 0, _, _, _ => rfl
  | n + 1, i, e, h => by
    simp only [forN]
    cases nx i h with
    | none => rfl
    | some o =>
      cases o with
      | none => rfl
      | some d =>
        dsimp only
        rw [hs]
        exact loop_av fun e' h' => forN_av hs n (i + 1) e' h'
theorem tst_av (e : CE) (env : AE) (h : AH) (a : avE j e = true) : tst cf e (env.set j x) h = tst cf e env h := by
  unfold tst
  rw [ev_av e env h a]
theorem whlF_av {c : AE → AH → R Bool} {b : AE → AH → S} {g : AE → AE} (h1 : ∀ e h, c (g e) h = c e h) (h2 : ∀ e h, b (g e) h = (b e h).mpE g) : ∀ (n : Nat) (e : AE) (h : AH), whlF c b n (g e) h = (whlF c b n e h).mpE g
  | 0, _, _ => rfl
  | n + 1, e, h => by
    simp only [whlF]
    rw [h1]
    refine st_av fun k h => ?_
    cases k with
    | false => rfl
    | true =>
      rw [if_pos rfl, if_pos rfl, h2]
      exact loop_av fun e h => whlF_av h1 h2 n e h
theorem mapH_av {r : S} {g : AE → AE} {f : AH → AH} : (r.mpE g).mapH f = (r.mapH f).mpE g := by cases r <;> rfl
theorem forK_av {st : D → AE → AH → S} {g : AE → AE} (hs : ∀ d e h, st d (g e) h = (st d e h).mpE g) (d : D) (e : AE) (h : AH) : forK st d (g e) h = (forK st d e h).mpE g := by
  cases d with
  | ref a =>
    simp only [forK]
    cases h[a]? with
    | none => rfl
    | some o =>
      cases o with
      | dct k =>
        dsimp only
        rw [forN_av hs, mapH_av]
      | _ => rfl
  | _ => rfl
theorem set2_av (i : Nat) (hi : i ≠ j) (env : AE) (d : Option D) : (env.set j x).set i d = (env.set i d).set j x := List.set_comm _ _ (Ne.symm hi)
mutual
theorem exec_av : ∀ (c : CS) (env : AE) (h : AH), avS j c = true → exec cf c (env.set j x) h = (exec cf c env h).mpE fun e => e.set j x
  | .asg t e, env, h, a => by
    simp only [avS, Bool.and_eq_true] at a
    simp only [exec]
    rw [ev_av e env h a.2]
    refine st_av (g := fun e => e.set j x) fun d h => ?_
    rw [asg_av t d env h a.1]
    exact sb_av fun e h => rfl
  | .aug t o e, env, h, a => by
    simp only [avS, Bool.and_eq_true] at a
    cases t with
    | name i =>
      have hi := a.1
      simp only [avT, decide_eq_true_eq] at hi
      simp only [exec]
      rw [lk_av hi]
      refine st_av (g := fun e => e.set j x) fun y h => ?_
      rw [ev_av e env h a.2]
      refine st_av (g := fun e => e.set j x) fun z h => sb_av1 fun w h => ?_
      rw [set2_av i hi]; rfl
    | attr o' f =>
      have hi := a.1
      simp only [avT] at hi
      simp only [exec]
      rw [ev_av o' env h hi]
      refine st_av (g := fun e => e.set j x) fun y h => sb_av1 fun z h => ?_
      rw [ev_av e env h a.2]
      exact st_av (g := fun e => e.set j x) fun w h => sb_av1 fun _ h => sb_av1 fun _ h => rfl
    | tup _ => simp only [exec, S.mpE]
    | sub _ _ => simp only [exec, S.mpE]
  | .fld o f e, env, h, a => by
    simp only [avS, Bool.and_eq_true] at a
    simp only [exec]
    rw [ev_av e env h a.2]
    refine st_av (g := fun e => e.set j x) fun y h => ?_
    rw [ev_av o env h a.1]
    exact st_av (g := fun e => e.set j x) fun w h => sb_av1 fun _ h => rfl
  | .ex e, env, h, a => by
    simp only [avS] at a
    simp only [exec]
    rw [ev_av e env h a]
    exact st_av (g := fun e => e.set j x) fun _ h => rfl
  | .ret e, env, h, a => by
    simp only [avS] at a
    simp only [exec]
    rw [ev_av e env h a]
    exact st_av (g := fun e => e.set j x) fun _ h => rfl
  | .pass, env, h, _ => by simp only [exec, S.mpE]
  | .brk, env, h, _ => by simp only [exec, S.mpE]
  | .cont, env, h, _ => by simp only [exec, S.mpE]
  | .ifs c p q, env, h, a => by
    simp only [avS, Bool.and_eq_true] at a
    simp only [exec]
    rw [tst_av c env h a.1.1]
    refine st_av (g := fun e => e.set j x) fun k h => ?_
    cases k with
    | true => exact execs_av p env h a.1.2
    | false => exact execs_av q env h a.2
  | .whl c b, env, h, a => by
    simp only [avS, Bool.and_eq_true] at a
    simp only [exec]
    exact whlF_av (g := fun e => e.set j x) (fun e h => tst_av c e h a.1) (fun e h => execs_av b e h a.2) _ env h
  | .for_ t it b, env, h, a => by
    simp only [avS, Bool.and_eq_true] at a
    simp only [exec]
    rw [evi_av it env h a.1.2]
    refine st_av (g := fun e => e.set j x) fun s h => ?_
    refine forN_av (g := fun e => e.set j x) (fun y e h => ?_) _ 0 env h
    rw [asg_av t y e h a.1.1]
    exact sb_av fun e h => execs_av b e h a.2
  | .forK t e b, env, h, a => by
    simp only [avS, Bool.and_eq_true] at a
    simp only [exec]
    rw [ev_av e env h a.1.2]
    refine st_av (g := fun e => e.set j x) fun s h => ?_
    refine forK_av (g := fun e => e.set j x) (fun y e h => ?_) s env h
    rw [asg_av t y e h a.1.1]
    exact sb_av fun e h => execs_av b e h a.2
  | .raise c, env, h, _ => by simp only [exec, S.mpE]
  | .tryx b c n s, env, h, a => by
    simp only [avS, Bool.and_eq_true, decide_eq_true_eq] at a
    simp only [exec]
    rw [execs_av b env h a.1.1]
    cases execs cf b env h with
    | exc k e h1 =>
      show (if cf.isx k = true then (if cf.sub k c = true then _ else S.exc k (e.set j x) h1) else S.bad) = S.mpE _ (if cf.isx k = true then (if cf.sub k c = true then _ else S.exc k e h1) else S.bad)
      cases cf.isx k with
      | false => rfl
      | true =>
        rw [if_pos rfl, if_pos rfl]
        cases cf.sub k c with
        | false => rfl
        | true =>
          rw [if_pos rfl, if_pos rfl]
          cases n with
          | none =>
            dsimp only
            rw [execs_av s e h1 a.1.2]
            cases execs cf s e h1 <;> rfl
          | some i =>
            have hi : i ≠ j := fun z => a.2 (by rw [z])
            dsimp only
            rw [set2_av i hi, execs_av s _ h1 a.1.2]
            cases execs cf s (e.set i (some (.exn k))) h1 <;> simp only [S.mpE] <;> first | rfl | rw [set2_av i hi]
    | _ => rfl
theorem execs_av : ∀ (l : List CS) (env : AE) (h : AH), avSs j l = true → execs cf l (env.set j x) h = (execs cf l env h).mpE fun e => e.set j x
  | [], env, h, _ => by simp only [execs, S.mpE]
  | s :: ss, env, h, a => by
    simp only [avSs, Bool.and_eq_true] at a
    simp only [execs]
    rw [exec_av s env h a.1]
    exact seq_av fun e h => execs_av ss e h a.2
end
end
theorem outS_mpE (r : S) (f : AE → AE) : outS (r.mpE f) = outS r := by cases r <;> rfl
/-- the rest of a body: as over an empty heap, where its slots hold no place but one that it does not name -/
theorem rest_sh {p : Pg} {fuel n : Nat} {l : List CS} {j : Nat} {env : AE} {pre : AH} (hj : avSs j l = true) (he : ∀ d ∈ env.set j none, ∀ v, d = some v → noR v = true) :
    outS (execs (p.cf fuel n) l env pre) = RM pre (outS (execs (p.cf fuel n) l (env.set j none) [])) := by
  have e1 := execs_av (cf := p.cf fuel n) (x := none) l env pre hj
  have e2 := execs_sh (run_sh p fuel pre n) l (env.set j none) []
  have e3 : shE pre.length (env.set j none) = env.set j none := by
    unfold shE
    refine (List.map_congr_left fun d hd => ?_).trans (List.map_id _)
    cases d with
    | none => rfl
    | some v => simp only [Option.map, sh_noR _ v (he _ hd v rfl), id]
  rw [e3, shH_nil] at e2
  rw [← outS_mpE (execs (p.cf fuel n) l env pre) (fun e => e.set j none), ← e1, ← e2]
  cases execs (p.cf fuel n) l (env.set j none) [] <;> simp only [S.mp, outS, R.mp, sh]
end DL

/-! DL, part w: what stays under a heap that grows; the first draws of a law. -/
namespace DL
open PySem
theorem get_app {h : AH} {x : AH} {l : Nat} {o : O} (e : h[l]? = some o) : (h ++ x)[l]? = some o := by
  rw [List.getElem?_append_left (List.getElem?_eq_some_iff.mp e).1]; exact e
theorem mapO_mono {f f' : D → Option PyData} (hf : ∀ d p, f d = some p → f' d = some p) : ∀ (l : List D) (ps : List PyData), mapO f l = some ps → mapO f' l = some ps
  | [], _, e => e
  | d :: r, ps, e => by
    simp only [mapO] at e ⊢
    cases q : f d with
    | none => rw [q] at e; cases e
    | some p =>
      rw [q] at e
      cases q2 : mapO f r with
      | none => rw [q2] at e; cases e
      | some t =>
        rw [q2] at e
        rw [hf d p q, mapO_mono hf r t q2]
        exact e
theorem pdN_app (h x : AH) : ∀ (n : Nat) (d : D) (p : PyData), pdN h n d = some p → pdN (h ++ x) n d = some p
  | n, .non, _, e => by cases n <;> exact e
  | n, .bl _, _, e => by cases n <;> exact e
  | n, .int _, _, e => by cases n <;> exact e
  | n, .str _, _, e => by cases n <;> exact e
  | n, .wd _, _, e => by cases n <;> cases e
  | n, .fn _, _, e => by cases n <;> cases e
  | n, .exn _, _, e => by cases n <;> cases e
  | 0, .tup _, _, e => by cases e
  | 0, .wl _, _, e => by cases e
  | 0, .ref _, _, e => by cases e
  | n + 1, .tup l, p, e => by
    simp only [pdN] at e ⊢
    cases q : mapO (pdN h n) l with
    | none => rw [q] at e; cases e
    | some ps => rw [mapO_mono (pdN_app h x n) l ps q]; rw [q] at e; exact e
  | n + 1, .wl l, p, e => by
    simp only [pdN] at e ⊢
    cases q : mapO (pdN h n) l with
    | none => rw [q] at e; cases e
    | some ps => rw [mapO_mono (pdN_app h x n) l ps q]; rw [q] at e; exact e
  | n + 1, .ref l, p, e => by
    simp only [pdN] at e ⊢
    cases q : h[l]? with
    | none => rw [q] at e; cases e
    | some o =>
      rw [q] at e
      rw [get_app q]
      cases o with
      | lst l =>
        simp only at e ⊢
        cases q2 : mapO (pdN h n) l with
        | none => rw [q2] at e; cases e
        | some ps => rw [mapO_mono (pdN_app h x n) l ps q2]; rw [q2] at e; exact e
      | _ => cases e
theorem pd_app {h x : AH} {d : D} {p : PyData} (e : pd h d = some p) : pd (h ++ x) d = some p := pdN_app h x 8 d p e
theorem shO_app {h x : AH} {d : D} {p : PyData} (e : shO d h = some p) : shO d (h ++ x) = some p := by
  unfold shO at e ⊢
  cases q : pd h d with
  | none => rw [q] at e; cases e
  | some p' => rw [pd_app q]; rw [q] at e; exact e
theorem shO_pd {h : AH} {d : D} {p : PyData} (e : shO d h = some p) : pd h d = some p := by
  unfold shO at e
  cases q : pd h d with
  | none => rw [q] at e; cases e
  | some p' =>
    rw [q] at e
    simp only at e
    split at e
    · exact e
    · cases e
/-- what has no place: over any heap -/
theorem shO_any {d : D} {p : PyData} (hd : noR d = true) (e : shO d [] = some p) (h : AH) : shO d h = some p := by
  have z := shO_sh h d []
  rw [shH_nil, sh_noR _ d hd] at z
  rw [z]; exact e
theorem StAt.app {ns : List Int} {a b : Nat} {h : AH} {x y z : Int} (s : StAt ns a b h x y z) (t : AH) : StAt ns a b (h ++ t) x y z := ⟨get_app s.ob, get_app s.sc, s.ne, s.x0, s.y0⟩
theorem shH_app (h g : AH) : ∃ t, shH h g = h ++ t := ⟨_, rfl⟩
theorem noRL_ints : ∀ ns : List Int, noRL (ns.map .int) = true
  | [] => rfl
  | n :: r => by simp only [List.map_cons, noRL, noR, Bool.true_and, noRL_ints r]
/-- a function that is a call -/
def Fn' (F : List D → AH → R D) : Prop := ∀ l, noRL l = true → ∀ pre, F l pre = RM pre (F l [])
theorem fn_call {p : Pg} {fuel n : Nat} {f : Str} {F : List D → AH → R D} (e : (p.cf fuel n).call "" f = F) : Fn' F := fun l hl pre => by
  rw [← e]; exact call_sh hl pre
theorem fn_val {F : List D → AH → R D} (hF : Fn' F) {l : List D} (hl : noRL l = true) {v : D} {g : AH} (e : F l [] = .ok v g) (pre : AH) : F l pre = .ok (sh pre.length v) (shH pre g) := by
  rw [hF l hl pre, e]; rfl
end DL

namespace DL
open PySem PySem.Spec PyProof.Rows L2
def lawTop (i : Nat) : Stmt := PySem.Challenge.pw_tacet_k43_grams_and_plain_automata.main.body.getD i (.Pass ⟨0, 0, 0, 0⟩)
def d_gram : Fd := ⟨2, 6, [.asg (.name 2) (.con (.int 1)),
    .for_ (.name 3) (.rng1 (.var 0)) [.aug (.name 2) .mul (.var 1)],
    .ifs (.bop .gt (.var 2) (.con (.int 64))) [.ret (.con .non)] [],
    .ret (.bi .tuple [.comp (.bi .tuple [.comp (.bop .mod (.bop .add (.bop .mul (.var 4) (.var 1)) (.var 5)) (.var 2)) (.name 5) (.rng1 (.var 1)) [] [5]]) (.name 4) (.rng1 (.var 2)) [] [4]])]⟩
def d_extended : Fd := ⟨3, 10, [.asg (.name 3) (.lst []),
    .for_ (.name 4) (.seq (.var 0)) [.asg (.name 5) (.bi .maxL [.bop .add (.tup [.con (.int 0)]) (.var 4)]),
    .asg (.name 6) (.bop .eq (.bop .mod (.bi .len [.var 4]) (.var 2)) (.bop .sub (.var 2) (.con (.int 1)))),
    .asg (.name 7) (.con (.int 0)),
    .ifs (.andE (.var 6) (.chain .lt .lt (.var 5) (.bop .add (.bop .fdiv (.bi .len [.var 4]) (.var 2)) (.con (.int 1))) (.var 1))) [.asg (.name 7) (.bop .add (.var 5) (.con (.int 1)))] [],
    .asg (.name 8) (.bi .min2 [.bop .add (.var 5) (.con (.int 1)), .bop .sub (.var 1) (.con (.int 1))]),
    .ifs (.notE (.var 4)) [.asg (.name 8) (.con (.int 0))] [],
    .for_ (.name 9) (.rng2 (.var 7) (.bop .add (.var 8) (.con (.int 1)))) [.ex (.bm (.var 3) .append [.bop .add (.var 4) (.tup [.var 9])])]],
    .ret (.var 3)]⟩
def d_plain_automata : Fd := ⟨2, 9, [.asg (.name 2) (.lst []),
    .for_ (.name 3) (.rng2 (.con (.int 1)) (.bop .add (.var 0) (.con (.int 1)))) [.asg (.name 4) (.lst [.tup []]),
    .for_ (.name 5) (.rng1 (.bop .mul (.var 3) (.var 1))) [.asg (.name 4) (.call "extended" [.var 4, .var 3, .var 1])],
    .for_ (.name 6) (.seq (.var 4)) [.asg (.name 7) (.comp (.slice (.var 6) (some (.var 8)) (some (.bop .add (.var 8) (.var 1)))) (.name 8) (.rng3 (.con (.int 0)) (.bi .len [.var 6]) (.var 1)) [] [8]),
    .ex (.bm (.var 2) .append [.bi .tuple [.var 7]])]],
    .ret (.var 2)]⟩
def d__law_stream : Fd := ⟨1, 3, [.asg (.name 1) (.con (.int 17)),
    .for_ (.name 2) (.seq (.var 0)) [.asg (.name 1) (.bop .mod (.bi .int [.bop .add (.bop .add (.bop .mul (.var 1) (.con (.int 48271))) (.bop .mod (.bi .int [.var 2]) (.con (.int 65521)))) (.con (.int 1))]) (.con (.int 2147483647)))],
    .ret (.lst [.bi .list [.var 0], .con (.int 0), .con (.int 0), .var 1])]⟩
def d__law_draw : Fd := ⟨2, 3, [.ifs (.andE (.bop .eq (.bop .item (.var 0) (.con (.int 1))) (.con (.int 0))) (.bop .lt (.bop .item (.var 0) (.con (.int 2))) (.bi .len [.bop .item (.var 0) (.con (.int 0))]))) [.asg (.sub (.var 0) (.con (.int 1))) (.bi .abs [.bi .int [.bop .item (.bop .item (.var 0) (.con (.int 0))) (.bop .item (.var 0) (.con (.int 2)))]]),
    .asg (.sub (.var 0) (.con (.int 2))) (.bop .add (.bop .item (.var 0) (.con (.int 2))) (.con (.int 1)))] [],
    .ifs (.bop .eq (.bop .item (.var 0) (.con (.int 1))) (.con (.int 0))) [.asg (.sub (.var 0) (.con (.int 3))) (.bop .mod (.bi .int [.bop .add (.bop .mul (.bop .item (.var 0) (.con (.int 3))) (.con (.int 48271))) (.con (.int 11))]) (.con (.int 2147483647))),
    .ret (.bop .mod (.bi .int [.bop .fdiv (.bop .item (.var 0) (.con (.int 3))) (.con (.int 97))]) (.var 1))] [],
    .asg (.name 2) (.bop .mod (.bi .int [.bop .item (.var 0) (.con (.int 1))]) (.var 1)),
    .asg (.sub (.var 0) (.con (.int 1))) (.bop .fdiv (.bop .item (.var 0) (.con (.int 1))) (.var 1)),
    .ret (.var 2)]⟩
def d__law_gram : Fd := ⟨2, 6, [.asg (.name 2) (.con (.int 1)),
    .for_ (.name 3) (.rng1 (.var 0)) [.asg (.name 2) (.bop .mul (.var 2) (.var 1))],
    .ret (.bi .tuple [.comp (.bi .tuple [.comp (.bop .mod (.bi .int [.bop .add (.bop .mul (.var 4) (.var 1)) (.var 5)]) (.var 2)) (.name 5) (.rng1 (.var 1)) [] [5]]) (.name 4) (.rng1 (.var 2)) [] [4]])]⟩
def d__law_tables : Fd := ⟨2, 7, [.asg (.name 2) (.lst [.tup []]),
    .for_ (.name 3) (.rng1 (.bop .mul (.var 0) (.var 1))) [.asg (.name 4) (.lst []),
    .for_ (.name 5) (.seq (.var 2)) [.for_ (.name 6) (.rng1 (.var 0)) [.ifs (.orE (.bop .gt (.var 3) (.con (.int 0))) (.bop .eq (.var 6) (.con (.int 0)))) [.ex (.bm (.var 4) .append [.bop .add (.var 5) (.tup [.var 6])])] []]],
    .asg (.name 2) (.var 4)],
    .ret (.var 2)]⟩
def d__law_is_plain : Fd := ⟨3, 5, [.asg (.name 3) (.con (.int 0)),
    .for_ (.name 4) (.rng1 (.bi .len [.var 0])) [.ifs (.bop .gt (.bop .item (.var 0) (.var 4)) (.bop .add (.var 3) (.con (.int 1)))) [.ret (.con (.bl false))] [],
    .ifs (.bop .eq (.bop .item (.var 0) (.var 4)) (.bop .add (.var 3) (.con (.int 1)))) [.ifs (.bop .gt (.bop .fdiv (.var 4) (.var 2)) (.var 3)) [.ret (.con (.bl false))] [],
    .asg (.name 3) (.bop .add (.var 3) (.con (.int 1)))] []],
    .ret (.bop .eq (.var 3) (.bop .sub (.var 1) (.con (.int 1))))]⟩
def d_law : Fd := ⟨1, 13, [.asg (.name 1) (.call "_law_stream" [.var 0]),
    .asg (.name 2) (.call "_law_draw" [.var 1, .con (.int 6)]),
    .asg (.name 3) (.bop .add (.con (.int 2)) (.call "_law_draw" [.var 1, .con (.int 3)])),
    .asg (.name 4) (.call "gram" [.var 2, .var 3]),
    .asg (.name 5) (.con (.int 1)),
    .for_ (.name 6) (.rng1 (.var 2)) [.asg (.name 5) (.bop .mul (.var 5) (.var 3))],
    .ifs (.bop .gt (.var 5) (.con (.int 64))) [.ifs (.bop .isnt (.var 4) (.con .non)) [.ret (.con (.bl false))] []] [.ifs (.orE (.reqr true (.var 4) (.call "_law_gram" [.var 2, .var 3])) (.bop .ne (.con (.int 5)) (.con (.int 5)))) [.ret (.con (.bl false))] []],
    .asg (.name 7) (.bop .add (.con (.int 1)) (.call "_law_draw" [.var 1, .bop .add (.con (.int 2)) (.bi .int [.bop .eq (.var 3) (.con (.int 2))])])),
    .asg (.name 8) (.lst []),
    .for_ (.name 9) (.rng2 (.con (.int 1)) (.bop .add (.var 7) (.con (.int 1)))) [.for_ (.name 11) (.seq (.call "_law_tables" [.var 9, .var 3])) [.ifs (.call "_law_is_plain" [.var 11, .var 9, .var 3]) [.ex (.bm (.var 8) .append [.bi .tuple [.comp (.slice (.var 11) (some (.bop .mul (.var 12) (.var 3))) (some (.bop .add (.bop .mul (.var 12) (.var 3)) (.var 3)))) (.name 12) (.rng1 (.var 9)) [] [12]]])] []]],
    .asg (.name 10) (.call "plain_automata" [.var 7, .var 3]),
    .ifs (.orE (.notE (.isi (.var 10) [.list])) (.reqr true (.var 10) (.var 8))) [.ret (.con (.bl false))] [],
    .ex (.bm (.var 10) .append [.tup []]),
    .ret (.bop .eq (.call "plain_automata" [.var 7, .var 3]) (.var 8))]⟩
def pg : Pg := ⟨[(("", "gram"), d_gram), (("", "extended"), d_extended), (("", "plain_automata"), d_plain_automata), (("", "_law_stream"), d__law_stream), (("", "_law_draw"), d__law_draw), (("", "_law_gram"), d__law_gram), (("", "_law_tables"), d__law_tables), (("", "_law_is_plain"), d__law_is_plain), (("", "law"), d_law)], []⟩
def nm : Nm := ⟨["gram", "extended", "plain_automata", "_law_stream", "_law_draw", "_law_gram", "_law_tables", "_law_is_plain"], [], []⟩
structure Gx (P : Program) (w : World) (K : PySem.W.Frag) (mg : Str → Option Value) (cls : Ka) (cf : Cf) : Prop where
  z_abs : mg "abs" = none
  z_int : mg "int" = none
  z_isinstance : mg "isinstance" = none
  z_len : mg "len" = none
  z_list : mg "list" = none
  z_max : mg "max" = none
  z_min : mg "min" = none
  z_range : mg "range" = none
  z_repr : mg "repr" = none
  z_tuple : mg "tuple" = none
  m_MOST_GRAM : ConD (eK P w K mg cls) "MOST_GRAM" (.int 5)
  m_MOST_ROWS : ConD (eK P w K mg cls) "MOST_ROWS" (.int 64)
section
variable {P : Program} {w : World} {K : PySem.W.Frag} {mg : Str → Option Value} {base : Heap} {cls : Ka} {W : WX} {k : Nat} {cf : Cf}
abbrev st_gram : Stmt := lawTop 3
def N_gram : List Str := ["count", "symbols", "many", "_", "row", "symbol"]
theorem sc_gram : FnScope N_gram ["count", "symbols"] (defScope st_gram) := ⟨rfl, rfl, rfl, by decide +kernel, rfl, by decide +kernel, by decide +kernel⟩
theorem b_gram (g : Gx P w K mg cls cf) (cdv : Value) (A : Around) (outer : List Env) (s : Shared) (H : Hp) (E : XK) (f : Addr) (sk : Sk (cxOf (L2.CX P w) P w K mg base N_gram "gram" (defScope st_gram) f cdv A outer s H E) cls W k cf nm) :
    SXs (cxOf (L2.CX P w) P w K mg base N_gram "gram" (defScope st_gram) f cdv A outer s H E) cls W cf (defBody st_gram) d_gram.body :=
  (ss_cons (s_asg e_int (g_name sk.ck zokT 2 (by first | trivial | decide)))
    (ss_cons (s_for sk (i_rng1 (e_var 0) g.z_range) (g_name sk.ck zokT 3 (by first | trivial | decide)) (ss_cons (s_aug sk.ck 2 i_mul (e_var 1))
    ss_nil))
    (ss_cons (s_if (t_cmp o_gt rfl (e_var 2) (e_glob g.m_MOST_ROWS)) (ss_cons (s_ret e_non)
    ss_nil) ss_nil)
    (ss_cons (s_ret (e_bt sk.ck .tuple (es_cons (e_comp sk.ck [("row", 4)] (i_rng1 (e_var 2) g.z_range) (blkOk_by (by rfl)) (fun _ _ _ _ _ ck => (g_name ck (zokW _) 4 (by first | trivial | decide))) (fun _ _ _ _ _ ck => c_nil) (fun _ _ _ _ _ ck => (e_bt ck .tuple (es_cons (e_comp ck [("symbol", 5)] (i_rng1 (e_var 1) g.z_range) (blkOk_by (by rfl)) (fun _ _ _ _ _ ck => (g_name ck (zokW _) 5 (by first | trivial | decide))) (fun _ _ _ _ _ ck => c_nil) (fun _ _ _ _ _ ck => (e_bin o_mod (e_bin o_add (e_bin o_mul (e_var 4) (e_var 1)) (e_var 5)) (e_var 2)))) es_nil) g.z_tuple))) es_nil) g.z_tuple))
    ss_nil))))
abbrev st_extended : Stmt := lawTop 4
def N_extended : List Str := ["parts", "states", "symbols", "found", "numbers", "greatest", "last", "low", "high", "number"]
theorem sc_extended : FnScope N_extended ["parts", "states", "symbols"] (defScope st_extended) := ⟨rfl, rfl, rfl, by decide +kernel, rfl, by decide +kernel, by decide +kernel⟩
theorem b_extended (g : Gx P w K mg cls cf) (cdv : Value) (A : Around) (outer : List Env) (s : Shared) (H : Hp) (E : XK) (f : Addr) (sk : Sk (cxOf (L2.CX P w) P w K mg base N_extended "extended" (defScope st_extended) f cdv A outer s H E) cls W k cf nm) :
    SXs (cxOf (L2.CX P w) P w K mg base N_extended "extended" (defScope st_extended) f cdv A outer s H E) cls W cf (defBody st_extended) d_extended.body :=
  (ss_cons (s_asg (e_lst es_nil) (g_name sk.ck zokT 3 (by first | trivial | decide)))
    (ss_cons (s_for sk (i_seq (e_var 0)) (g_name sk.ck zokT 4 (by first | trivial | decide)) (ss_cons (s_asg (e_bf sk.ck .maxL (es_cons (e_bin o_add (e_tup (es_cons e_int es_nil)) (e_var 4)) es_nil) g.z_max) (g_name sk.ck zokT 5 (by first | trivial | decide)))
    (ss_cons (s_asg (e_cmp (o_eq sk.ck.un) (e_bin o_mod (e_len sk.ck.un (es_cons (e_var 4) es_nil) g.z_len) (e_var 2)) (e_bin o_sub (e_var 2) e_int)) (g_name sk.ck zokT 6 (by first | trivial | decide)))
    (ss_cons (s_asg e_int (g_name sk.ck zokT 7 (by first | trivial | decide)))
    (ss_cons (s_if (t_bool (w_and (t_val (e_var 6)) (w_and1 (t_chain o_lt o_lt rfl rfl (e_var 5) (e_bin o_add (e_bin o_fdiv (e_len sk.ck.un (es_cons (e_var 4) es_nil) g.z_len) (e_var 2)) e_int) (e_var 1))))) (ss_cons (s_asg (e_bin o_add (e_var 5) e_int) (g_name sk.ck zokT 7 (by first | trivial | decide)))
    ss_nil) ss_nil)
    (ss_cons (s_asg (e_bf sk.ck .min2 (es_cons (e_bin o_add (e_var 5) e_int) (es_cons (e_bin o_sub (e_var 1) e_int) es_nil)) g.z_min) (g_name sk.ck zokT 8 (by first | trivial | decide)))
    (ss_cons (s_if (t_not (t_val (e_var 4))) (ss_cons (s_asg e_int (g_name sk.ck zokT 8 (by first | trivial | decide)))
    ss_nil) ss_nil)
    (ss_cons (s_for sk (i_rng2 (e_var 7) (e_bin o_add (e_var 8) e_int) g.z_range) (g_name sk.ck zokT 9 (by first | trivial | decide)) (ss_cons (s_ex (e_bm sk.ck .append (e_var 3) (es_cons (e_bin o_add (e_var 4) (e_tup (es_cons (e_var 9) es_nil))) es_nil)))
    ss_nil))
    ss_nil))))))))
    (ss_cons (s_ret (e_var 3))
    ss_nil)))
abbrev st_plain_automata : Stmt := lawTop 5
def N_plain_automata : List Str := ["count", "symbols", "found", "states", "parts", "_", "numbers", "rows", "at"]
theorem sc_plain_automata : FnScope N_plain_automata ["count", "symbols"] (defScope st_plain_automata) := ⟨rfl, rfl, rfl, by decide +kernel, rfl, by decide +kernel, by decide +kernel⟩
theorem b_plain_automata (g : Gx P w K mg cls cf) (cdv : Value) (A : Around) (outer : List Env) (s : Shared) (H : Hp) (E : XK) (f : Addr) (sk : Sk (cxOf (L2.CX P w) P w K mg base N_plain_automata "plain_automata" (defScope st_plain_automata) f cdv A outer s H E) cls W k cf nm) :
    SXs (cxOf (L2.CX P w) P w K mg base N_plain_automata "plain_automata" (defScope st_plain_automata) f cdv A outer s H E) cls W cf (defBody st_plain_automata) d_plain_automata.body :=
  (ss_cons (s_asg (e_lst es_nil) (g_name sk.ck zokT 2 (by first | trivial | decide)))
    (ss_cons (s_for sk (i_rng2 e_int (e_bin o_add (e_var 0) e_int) g.z_range) (g_name sk.ck zokT 3 (by first | trivial | decide)) (ss_cons (s_asg (e_lst (es_cons (e_tup es_nil) es_nil)) (g_name sk.ck zokT 4 (by first | trivial | decide)))
    (ss_cons (s_for sk (i_rng1 (e_bin o_mul (e_var 3) (e_var 1)) g.z_range) (g_name sk.ck zokT 5 (by first | trivial | decide)) (ss_cons (s_asg (e_call sk.ck 1 (es_cons (e_var 4) (es_cons (e_var 3) (es_cons (e_var 1) es_nil)))) (g_name sk.ck zokT 4 (by first | trivial | decide)))
    ss_nil))
    (ss_cons (s_for sk (i_seq (e_var 4)) (g_name sk.ck zokT 6 (by first | trivial | decide)) (ss_cons (s_setc sk.ck 7 [("at", 8)] (i_rng3 e_int (e_len sk.ck.un (es_cons (e_var 6) es_nil) g.z_len) (e_var 1) g.z_range) (blkOk_by (by rfl)) (fun _ _ _ _ _ ck => (g_name ck (zokW _) 8 (by first | trivial | decide))) (fun _ _ _ _ _ ck => c_nil) (fun _ _ _ _ _ ck => (e_slice (e_var 6) (o_som (e_var 8)) (o_som (e_bin o_add (e_var 8) (e_var 1))))))
    (ss_cons (s_ex (e_bm sk.ck .append (e_var 2) (es_cons (e_bt sk.ck .tuple (es_cons (e_var 7) es_nil) g.z_tuple) es_nil)))
    ss_nil)))
    ss_nil))))
    (ss_cons (s_ret (e_var 2))
    ss_nil)))
abbrev st__law_stream : Stmt := lawTop 7
def N__law_stream : List Str := ["_law_script", "_law_mixed", "_law_cell"]
theorem sc__law_stream : FnScope N__law_stream ["_law_script"] (defScope st__law_stream) := ⟨rfl, rfl, rfl, by decide +kernel, rfl, by decide +kernel, by decide +kernel⟩
theorem b__law_stream (g : Gx P w K mg cls cf) (cdv : Value) (A : Around) (outer : List Env) (s : Shared) (H : Hp) (E : XK) (f : Addr) (sk : Sk (cxOf (L2.CX P w) P w K mg base N__law_stream "_law_stream" (defScope st__law_stream) f cdv A outer s H E) cls W k cf nm) :
    SXs (cxOf (L2.CX P w) P w K mg base N__law_stream "_law_stream" (defScope st__law_stream) f cdv A outer s H E) cls W cf (defBody st__law_stream) d__law_stream.body :=
  (ss_cons (s_asg e_int (g_name sk.ck zokT 1 (by first | trivial | decide)))
    (ss_cons (s_for sk (i_seq (e_var 0)) (g_name sk.ck zokT 2 (by first | trivial | decide)) (ss_cons (s_asg (e_bin o_mod (e_bt sk.ck .int (es_cons (e_bin o_add (e_bin o_add (e_bin o_mul (e_var 1) e_int) (e_bin o_mod (e_bt sk.ck .int (es_cons (e_var 2) es_nil) g.z_int) e_int)) e_int) es_nil) g.z_int) e_int) (g_name sk.ck zokT 1 (by first | trivial | decide)))
    ss_nil))
    (ss_cons (s_ret (e_lst (es_cons (e_bt sk.ck .list (es_cons (e_var 0) es_nil) g.z_list) (es_cons e_int (es_cons e_int (es_cons (e_var 1) es_nil))))))
    ss_nil)))
abbrev st__law_draw : Stmt := lawTop 8
def N__law_draw : List Str := ["_law_stream_here", "_law_many", "_law_value"]
theorem sc__law_draw : FnScope N__law_draw ["_law_stream_here", "_law_many"] (defScope st__law_draw) := ⟨rfl, rfl, rfl, by decide +kernel, rfl, by decide +kernel, by decide +kernel⟩
theorem b__law_draw (g : Gx P w K mg cls cf) (cdv : Value) (A : Around) (outer : List Env) (s : Shared) (H : Hp) (E : XK) (f : Addr) (sk : Sk (cxOf (L2.CX P w) P w K mg base N__law_draw "_law_draw" (defScope st__law_draw) f cdv A outer s H E) cls W k cf nm) :
    SXs (cxOf (L2.CX P w) P w K mg base N__law_draw "_law_draw" (defScope st__law_draw) f cdv A outer s H E) cls W cf (defBody st__law_draw) d__law_draw.body :=
  (ss_cons (s_if (t_bool (w_and (t_cmp (o_eq sk.ck.un) rfl (e_ix sk.ck.un (e_var 0) e_int) e_int) (w_and1 (t_cmp o_lt rfl (e_ix sk.ck.un (e_var 0) e_int) (e_len sk.ck.un (es_cons (e_ix sk.ck.un (e_var 0) e_int) es_nil) g.z_len))))) (ss_cons (s_asg (e_bf sk.ck .abs (es_cons (e_bt sk.ck .int (es_cons (e_ix sk.ck.un (e_ix sk.ck.un (e_var 0) e_int) (e_ix sk.ck.un (e_var 0) e_int)) es_nil) g.z_int) es_nil) g.z_abs) (g_sub sk.ck zokT (e_var 0) e_int))
    (ss_cons (s_asg (e_bin o_add (e_ix sk.ck.un (e_var 0) e_int) e_int) (g_sub sk.ck zokT (e_var 0) e_int))
    ss_nil)) ss_nil)
    (ss_cons (s_if (t_cmp (o_eq sk.ck.un) rfl (e_ix sk.ck.un (e_var 0) e_int) e_int) (ss_cons (s_asg (e_bin o_mod (e_bt sk.ck .int (es_cons (e_bin o_add (e_bin o_mul (e_ix sk.ck.un (e_var 0) e_int) e_int) e_int) es_nil) g.z_int) e_int) (g_sub sk.ck zokT (e_var 0) e_int))
    (ss_cons (s_ret (e_bin o_mod (e_bt sk.ck .int (es_cons (e_bin o_fdiv (e_ix sk.ck.un (e_var 0) e_int) e_int) es_nil) g.z_int) (e_var 1)))
    ss_nil)) ss_nil)
    (ss_cons (s_asg (e_bin o_mod (e_bt sk.ck .int (es_cons (e_ix sk.ck.un (e_var 0) e_int) es_nil) g.z_int) (e_var 1)) (g_name sk.ck zokT 2 (by first | trivial | decide)))
    (ss_cons (s_asg (e_bin o_fdiv (e_ix sk.ck.un (e_var 0) e_int) (e_var 1)) (g_sub sk.ck zokT (e_var 0) e_int))
    (ss_cons (s_ret (e_var 2))
    ss_nil)))))
abbrev st__law_gram : Stmt := lawTop 9
def N__law_gram : List Str := ["_law_count", "_law_symbols", "_law_many", "_law_k", "_law_q", "_law_x"]
theorem sc__law_gram : FnScope N__law_gram ["_law_count", "_law_symbols"] (defScope st__law_gram) := ⟨rfl, rfl, rfl, by decide +kernel, rfl, by decide +kernel, by decide +kernel⟩
theorem b__law_gram (g : Gx P w K mg cls cf) (cdv : Value) (A : Around) (outer : List Env) (s : Shared) (H : Hp) (E : XK) (f : Addr) (sk : Sk (cxOf (L2.CX P w) P w K mg base N__law_gram "_law_gram" (defScope st__law_gram) f cdv A outer s H E) cls W k cf nm) :
    SXs (cxOf (L2.CX P w) P w K mg base N__law_gram "_law_gram" (defScope st__law_gram) f cdv A outer s H E) cls W cf (defBody st__law_gram) d__law_gram.body :=
  (ss_cons (s_asg e_int (g_name sk.ck zokT 2 (by first | trivial | decide)))
    (ss_cons (s_for sk (i_rng1 (e_var 0) g.z_range) (g_name sk.ck zokT 3 (by first | trivial | decide)) (ss_cons (s_asg (e_bin o_mul (e_var 2) (e_var 1)) (g_name sk.ck zokT 2 (by first | trivial | decide)))
    ss_nil))
    (ss_cons (s_ret (e_bt sk.ck .tuple (es_cons (e_comp sk.ck [("_law_q", 4)] (i_rng1 (e_var 2) g.z_range) (blkOk_by (by rfl)) (fun _ _ _ _ _ ck => (g_name ck (zokW _) 4 (by first | trivial | decide))) (fun _ _ _ _ _ ck => c_nil) (fun _ _ _ _ _ ck => (e_bt ck .tuple (es_cons (e_comp ck [("_law_x", 5)] (i_rng1 (e_var 1) g.z_range) (blkOk_by (by rfl)) (fun _ _ _ _ _ ck => (g_name ck (zokW _) 5 (by first | trivial | decide))) (fun _ _ _ _ _ ck => c_nil) (fun _ _ _ _ _ ck => (e_bin o_mod (e_bt ck .int (es_cons (e_bin o_add (e_bin o_mul (e_var 4) (e_var 1)) (e_var 5)) es_nil) g.z_int) (e_var 2)))) es_nil) g.z_tuple))) es_nil) g.z_tuple))
    ss_nil)))
abbrev st__law_tables : Stmt := lawTop 10
def N__law_tables : List Str := ["_law_rows", "_law_symbols", "_law_found", "_law_k", "_law_longer", "_law_one", "_law_value"]
theorem sc__law_tables : FnScope N__law_tables ["_law_rows", "_law_symbols"] (defScope st__law_tables) := ⟨rfl, rfl, rfl, by decide +kernel, rfl, by decide +kernel, by decide +kernel⟩
theorem b__law_tables (g : Gx P w K mg cls cf) (cdv : Value) (A : Around) (outer : List Env) (s : Shared) (H : Hp) (E : XK) (f : Addr) (sk : Sk (cxOf (L2.CX P w) P w K mg base N__law_tables "_law_tables" (defScope st__law_tables) f cdv A outer s H E) cls W k cf nm) :
    SXs (cxOf (L2.CX P w) P w K mg base N__law_tables "_law_tables" (defScope st__law_tables) f cdv A outer s H E) cls W cf (defBody st__law_tables) d__law_tables.body :=
  (ss_cons (s_asg (e_lst (es_cons (e_tup es_nil) es_nil)) (g_name sk.ck zokT 2 (by first | trivial | decide)))
    (ss_cons (s_for sk (i_rng1 (e_bin o_mul (e_var 0) (e_var 1)) g.z_range) (g_name sk.ck zokT 3 (by first | trivial | decide)) (ss_cons (s_asg (e_lst es_nil) (g_name sk.ck zokT 4 (by first | trivial | decide)))
    (ss_cons (s_for sk (i_seq (e_var 2)) (g_name sk.ck zokT 5 (by first | trivial | decide)) (ss_cons (s_for sk (i_rng1 (e_var 0) g.z_range) (g_name sk.ck zokT 6 (by first | trivial | decide)) (ss_cons (s_if (t_bool (w_or (t_cmp o_gt rfl (e_var 3) e_int) (w_or1 (t_cmp (o_eq sk.ck.un) rfl (e_var 6) e_int)))) (ss_cons (s_ex (e_bm sk.ck .append (e_var 4) (es_cons (e_bin o_add (e_var 5) (e_tup (es_cons (e_var 6) es_nil))) es_nil)))
    ss_nil) ss_nil)
    ss_nil))
    ss_nil))
    (ss_cons (s_asg (e_var 4) (g_name sk.ck zokT 2 (by first | trivial | decide)))
    ss_nil))))
    (ss_cons (s_ret (e_var 2))
    ss_nil)))
abbrev st__law_is_plain : Stmt := lawTop 11
def N__law_is_plain : List Str := ["_law_table", "_law_rows", "_law_symbols", "_law_met", "_law_at"]
theorem sc__law_is_plain : FnScope N__law_is_plain ["_law_table", "_law_rows", "_law_symbols"] (defScope st__law_is_plain) := ⟨rfl, rfl, rfl, by decide +kernel, rfl, by decide +kernel, by decide +kernel⟩
theorem b__law_is_plain (g : Gx P w K mg cls cf) (cdv : Value) (A : Around) (outer : List Env) (s : Shared) (H : Hp) (E : XK) (f : Addr) (sk : Sk (cxOf (L2.CX P w) P w K mg base N__law_is_plain "_law_is_plain" (defScope st__law_is_plain) f cdv A outer s H E) cls W k cf nm) :
    SXs (cxOf (L2.CX P w) P w K mg base N__law_is_plain "_law_is_plain" (defScope st__law_is_plain) f cdv A outer s H E) cls W cf (defBody st__law_is_plain) d__law_is_plain.body :=
  (ss_cons (s_asg e_int (g_name sk.ck zokT 3 (by first | trivial | decide)))
    (ss_cons (s_for sk (i_rng1 (e_len sk.ck.un (es_cons (e_var 0) es_nil) g.z_len) g.z_range) (g_name sk.ck zokT 4 (by first | trivial | decide)) (ss_cons (s_if (t_cmp o_gt rfl (e_ix sk.ck.un (e_var 0) (e_var 4)) (e_bin o_add (e_var 3) e_int)) (ss_cons (s_ret e_bl)
    ss_nil) ss_nil)
    (ss_cons (s_if (t_cmp (o_eq sk.ck.un) rfl (e_ix sk.ck.un (e_var 0) (e_var 4)) (e_bin o_add (e_var 3) e_int)) (ss_cons (s_if (t_cmp o_gt rfl (e_bin o_fdiv (e_var 4) (e_var 2)) (e_var 3)) (ss_cons (s_ret e_bl)
    ss_nil) ss_nil)
    (ss_cons (s_asg (e_bin o_add (e_var 3) e_int) (g_name sk.ck zokT 3 (by first | trivial | decide)))
    ss_nil)) ss_nil)
    ss_nil)))
    (ss_cons (s_ret (e_cmp (o_eq sk.ck.un) (e_var 3) (e_bin o_sub (e_var 1) e_int)))
    ss_nil)))
abbrev st_law : Stmt := lawTop 12
def N_law : List Str := ["_law_script", "_law_stream_here", "_law_count", "_law_symbols", "_law_actual", "_law_size", "_law_k", "_law_rows", "_law_due", "_law_many", "_law_found", "_law_table", "_law_q"]
theorem sc_law : FnScope N_law ["_law_script"] (defScope st_law) := ⟨rfl, rfl, rfl, by decide +kernel, rfl, by decide +kernel, by decide +kernel⟩
theorem b_law (g : Gx P w K mg cls cf) (cdv : Value) (A : Around) (outer : List Env) (s : Shared) (H : Hp) (E : XK) (f : Addr) (hgd : A.guards = some []) (sk : Sk (cxOf (L2.CX P w) P w K mg base N_law "law" (defScope st_law) f cdv A outer s H E) cls W k cf nm) :
    SXs (cxOf (L2.CX P w) P w K mg base N_law "law" (defScope st_law) f cdv A outer s H E) cls W cf (defBody st_law) d_law.body :=
  (ss_cons (s_asg (e_call sk.ck 3 (es_cons (e_var 0) es_nil)) (g_name sk.ck zokT 1 (by first | trivial | decide)))
    (ss_cons (s_asg (e_call sk.ck 4 (es_cons (e_var 1) (es_cons e_int es_nil))) (g_name sk.ck zokT 2 (by first | trivial | decide)))
    (ss_cons (s_asg (e_bin o_add e_int (e_call sk.ck 4 (es_cons (e_var 1) (es_cons e_int es_nil)))) (g_name sk.ck zokT 3 (by first | trivial | decide)))
    (ss_cons (s_asg (e_call sk.ck 0 (es_cons (e_var 2) (es_cons (e_var 3) es_nil))) (g_name sk.ck zokT 4 (by first | trivial | decide)))
    (ss_cons (s_asg e_int (g_name sk.ck zokT 5 (by first | trivial | decide)))
    (ss_cons (s_for sk (i_rng1 (e_var 2) g.z_range) (g_name sk.ck zokT 6 (by first | trivial | decide)) (ss_cons (s_asg (e_bin o_mul (e_var 5) (e_var 3)) (g_name sk.ck zokT 5 (by first | trivial | decide)))
    ss_nil))
    (ss_cons (s_if (t_cmp o_gt rfl (e_var 5) e_int) (ss_cons (s_if (t_cmp o_isnt rfl (e_var 4) e_non) (ss_cons (s_ret e_bl)
    ss_nil) ss_nil)
    ss_nil) (ss_cons (s_if (t_bool (w_or (t_reqr true (t_cmp (o_ne sk.ck.un) rfl (e_repr sk.ck hgd (es_cons (e_var 4) es_nil) g.z_repr) (e_repr sk.ck hgd (es_cons (e_call sk.ck 5 (es_cons (e_var 2) (es_cons (e_var 3) es_nil))) es_nil) g.z_repr))) (w_or1 (t_cmp (o_ne sk.ck.un) rfl (e_glob g.m_MOST_GRAM) e_int)))) (ss_cons (s_ret e_bl)
    ss_nil) ss_nil)
    ss_nil))
    (ss_cons (s_asg (e_bin o_add e_int (e_call sk.ck 4 (es_cons (e_var 1) (es_cons (e_bin o_add e_int (e_bt sk.ck .int (es_cons (e_cmp (o_eq sk.ck.un) (e_var 3) e_int) es_nil) g.z_int)) es_nil)))) (g_name sk.ck zokT 7 (by first | trivial | decide)))
    (ss_cons (s_asg (e_lst es_nil) (g_name sk.ck zokT 8 (by first | trivial | decide)))
    (ss_cons (s_for sk (i_rng2 e_int (e_bin o_add (e_var 7) e_int) g.z_range) (g_name sk.ck zokT 9 (by first | trivial | decide)) (ss_cons (s_for sk (i_seq (e_call sk.ck 6 (es_cons (e_var 9) (es_cons (e_var 3) es_nil)))) (g_name sk.ck zokT 11 (by first | trivial | decide)) (ss_cons (s_if (t_val (e_call sk.ck 7 (es_cons (e_var 11) (es_cons (e_var 9) (es_cons (e_var 3) es_nil))))) (ss_cons (s_ex (e_bm sk.ck .append (e_var 8) (es_cons (e_bt sk.ck .tuple (es_cons (e_comp sk.ck [("_law_q", 12)] (i_rng1 (e_var 9) g.z_range) (blkOk_by (by rfl)) (fun _ _ _ _ _ ck => (g_name ck (zokW _) 12 (by first | trivial | decide))) (fun _ _ _ _ _ ck => c_nil) (fun _ _ _ _ _ ck => (e_slice (e_var 11) (o_som (e_bin o_mul (e_var 12) (e_var 3))) (o_som (e_bin o_add (e_bin o_mul (e_var 12) (e_var 3)) (e_var 3)))))) es_nil) g.z_tuple) es_nil)))
    ss_nil) ss_nil)
    ss_nil))
    ss_nil))
    (ss_cons (s_asg (e_call sk.ck 2 (es_cons (e_var 7) (es_cons (e_var 3) es_nil))) (g_name sk.ck zokT 10 (by first | trivial | decide)))
    (ss_cons (s_if (t_bool (w_or (t_not (t_val (e_isi .list (e_var 10) g.z_isinstance g.z_list))) (w_or1 (t_reqr true (t_cmp (o_ne sk.ck.un) rfl (e_repr sk.ck hgd (es_cons (e_var 10) es_nil) g.z_repr) (e_repr sk.ck hgd (es_cons (e_var 8) es_nil) g.z_repr)))))) (ss_cons (s_ret e_bl)
    ss_nil) ss_nil)
    (ss_cons (s_ex (e_bm sk.ck .append (e_var 10) (es_cons (e_tup es_nil) es_nil)))
    (ss_cons (s_ret (e_cmp (o_eq sk.ck.un) (e_call sk.ck 2 (es_cons (e_var 7) (es_cons (e_var 3) es_nil))) (e_var 8)))
    ss_nil))))))))))))))
end
theorem all_D {w : World} {K : PySem.W.Frag} {h : Heap} {mg : Str → Option Value} {P : Program} (X : K.In h) (G : h.Ns mainGlobals mg)
    {f0 : Addr} {od0 an0 : Option Addr} {sl0 : Array (Option Value)} {oc0 kV0 dc0 pm0 cd0 ct0 : Value}
    (a0 : PySem.W.nsIn K mainGlobals "gram" = some (some (.ref f0))) (l0 : K.lookup f0 = some ⟨oc0, od0, .func (PySem.W.fnOf "gram" "gram" (defArgs st_gram) (defBody st_gram) (defScope st_gram) .none kV0 dc0 pm0 an0 cd0 ct0), sl0⟩) (c0 : PySem.W.codeIn K cd0 "gram" = true) (k0 : PySem.W.keepIn K (.ref f0) = true)
    {f1 : Addr} {od1 an1 : Option Addr} {sl1 : Array (Option Value)} {oc1 kV1 dc1 pm1 cd1 ct1 : Value}
    (a1 : PySem.W.nsIn K mainGlobals "extended" = some (some (.ref f1))) (l1 : K.lookup f1 = some ⟨oc1, od1, .func (PySem.W.fnOf "extended" "extended" (defArgs st_extended) (defBody st_extended) (defScope st_extended) .none kV1 dc1 pm1 an1 cd1 ct1), sl1⟩) (c1 : PySem.W.codeIn K cd1 "extended" = true) (k1 : PySem.W.keepIn K (.ref f1) = true)
    {f2 : Addr} {od2 an2 : Option Addr} {sl2 : Array (Option Value)} {oc2 kV2 dc2 pm2 cd2 ct2 : Value}
    (a2 : PySem.W.nsIn K mainGlobals "plain_automata" = some (some (.ref f2))) (l2 : K.lookup f2 = some ⟨oc2, od2, .func (PySem.W.fnOf "plain_automata" "plain_automata" (defArgs st_plain_automata) (defBody st_plain_automata) (defScope st_plain_automata) .none kV2 dc2 pm2 an2 cd2 ct2), sl2⟩) (c2 : PySem.W.codeIn K cd2 "plain_automata" = true) (k2 : PySem.W.keepIn K (.ref f2) = true)
    {f3 : Addr} {od3 an3 : Option Addr} {sl3 : Array (Option Value)} {oc3 kV3 dc3 pm3 cd3 ct3 : Value}
    (a3 : PySem.W.nsIn K mainGlobals "_law_stream" = some (some (.ref f3))) (l3 : K.lookup f3 = some ⟨oc3, od3, .func (PySem.W.fnOf "_law_stream" "_law_stream" (defArgs st__law_stream) (defBody st__law_stream) (defScope st__law_stream) .none kV3 dc3 pm3 an3 cd3 ct3), sl3⟩) (c3 : PySem.W.codeIn K cd3 "_law_stream" = true) (k3 : PySem.W.keepIn K (.ref f3) = true)
    {f4 : Addr} {od4 an4 : Option Addr} {sl4 : Array (Option Value)} {oc4 kV4 dc4 pm4 cd4 ct4 : Value}
    (a4 : PySem.W.nsIn K mainGlobals "_law_draw" = some (some (.ref f4))) (l4 : K.lookup f4 = some ⟨oc4, od4, .func (PySem.W.fnOf "_law_draw" "_law_draw" (defArgs st__law_draw) (defBody st__law_draw) (defScope st__law_draw) .none kV4 dc4 pm4 an4 cd4 ct4), sl4⟩) (c4 : PySem.W.codeIn K cd4 "_law_draw" = true) (k4 : PySem.W.keepIn K (.ref f4) = true)
    {f5 : Addr} {od5 an5 : Option Addr} {sl5 : Array (Option Value)} {oc5 kV5 dc5 pm5 cd5 ct5 : Value}
    (a5 : PySem.W.nsIn K mainGlobals "_law_gram" = some (some (.ref f5))) (l5 : K.lookup f5 = some ⟨oc5, od5, .func (PySem.W.fnOf "_law_gram" "_law_gram" (defArgs st__law_gram) (defBody st__law_gram) (defScope st__law_gram) .none kV5 dc5 pm5 an5 cd5 ct5), sl5⟩) (c5 : PySem.W.codeIn K cd5 "_law_gram" = true) (k5 : PySem.W.keepIn K (.ref f5) = true)
    {f6 : Addr} {od6 an6 : Option Addr} {sl6 : Array (Option Value)} {oc6 kV6 dc6 pm6 cd6 ct6 : Value}
    (a6 : PySem.W.nsIn K mainGlobals "_law_tables" = some (some (.ref f6))) (l6 : K.lookup f6 = some ⟨oc6, od6, .func (PySem.W.fnOf "_law_tables" "_law_tables" (defArgs st__law_tables) (defBody st__law_tables) (defScope st__law_tables) .none kV6 dc6 pm6 an6 cd6 ct6), sl6⟩) (c6 : PySem.W.codeIn K cd6 "_law_tables" = true) (k6 : PySem.W.keepIn K (.ref f6) = true)
    {f7 : Addr} {od7 an7 : Option Addr} {sl7 : Array (Option Value)} {oc7 kV7 dc7 pm7 cd7 ct7 : Value}
    (a7 : PySem.W.nsIn K mainGlobals "_law_is_plain" = some (some (.ref f7))) (l7 : K.lookup f7 = some ⟨oc7, od7, .func (PySem.W.fnOf "_law_is_plain" "_law_is_plain" (defArgs st__law_is_plain) (defBody st__law_is_plain) (defScope st__law_is_plain) .none kV7 dc7 pm7 an7 cd7 ct7), sl7⟩) (c7 : PySem.W.codeIn K cd7 "_law_is_plain" = true) (k7 : PySem.W.keepIn K (.ref f7) = true)
    {f8 : Addr} {od8 an8 : Option Addr} {sl8 : Array (Option Value)} {oc8 kV8 dc8 pm8 cd8 ct8 : Value}
    (a8 : PySem.W.nsIn K mainGlobals "law" = some (some (.ref f8))) (l8 : K.lookup f8 = some ⟨oc8, od8, .func (PySem.W.fnOf "law" "law" (defArgs st_law) (defBody st_law) (defScope st_law) .none kV8 dc8 pm8 an8 cd8 ct8), sl8⟩) (c8 : PySem.W.codeIn K cd8 "law" = true) (k8 : PySem.W.keepIn K (.ref f8) = true)
    (z_abs : PySem.W.nsIn K mainGlobals "abs" = some none)
    (z_int : PySem.W.nsIn K mainGlobals "int" = some none)
    (z_isinstance : PySem.W.nsIn K mainGlobals "isinstance" = some none)
    (z_len : PySem.W.nsIn K mainGlobals "len" = some none)
    (z_list : PySem.W.nsIn K mainGlobals "list" = some none)
    (z_max : PySem.W.nsIn K mainGlobals "max" = some none)
    (z_min : PySem.W.nsIn K mainGlobals "min" = some none)
    (z_range : PySem.W.nsIn K mainGlobals "range" = some none)
    (z_repr : PySem.W.nsIn K mainGlobals "repr" = some none)
    (z_tuple : PySem.W.nsIn K mainGlobals "tuple" = some none)
    {t_MOST_GRAM : Tok} (m_MOST_GRAM : PySem.W.nsIn K mainGlobals "MOST_GRAM" = some (some (.int 5 t_MOST_GRAM)))
    {t_MOST_ROWS : Tok} (m_MOST_ROWS : PySem.W.nsIn K mainGlobals "MOST_ROWS" = some (some (.int 64 t_MOST_ROWS)))
    {fa : Addr} (hfa : mg "law" = some (.ref fa)) (a : Addr) (ns : List Int) (pure : ∃ h, runF (some d_law) (pg.cf 100000 20) [.wl (ns.map .int)] [] = .ok (.bl true) h) (base : Heap) (hb1 : K.In base) (hb2 : base.Ns mainGlobals mg) : LawOk P w K mg base fa a ns := by
  have e := hfa.symm.trans (PySem.W.mg_of X G a8)
  cases e
  let cls : Ka := ⟨fun _ => 0, []⟩
  have F0 := fun_mk (st := st_gram) l0 c0 k0
  have b0 := F0.binds (ps := ["count", "symbols"]) fun _ _ _ _ _ _ us hl => match us, hl with | [_, _], _ => rfl
  have m0 := PySem.W.mg_of X G a0
  have F1 := fun_mk (st := st_extended) l1 c1 k1
  have b1 := F1.binds (ps := ["parts", "states", "symbols"]) fun _ _ _ _ _ _ us hl => match us, hl with | [_, _, _], _ => rfl
  have m1 := PySem.W.mg_of X G a1
  have F2 := fun_mk (st := st_plain_automata) l2 c2 k2
  have b2 := F2.binds (ps := ["count", "symbols"]) fun _ _ _ _ _ _ us hl => match us, hl with | [_, _], _ => rfl
  have m2 := PySem.W.mg_of X G a2
  have F3 := fun_mk (st := st__law_stream) l3 c3 k3
  have b3 := F3.binds (ps := ["_law_script"]) fun _ _ _ _ _ _ us hl => match us, hl with | [_], _ => rfl
  have m3 := PySem.W.mg_of X G a3
  have F4 := fun_mk (st := st__law_draw) l4 c4 k4
  have b4 := F4.binds (ps := ["_law_stream_here", "_law_many"]) fun _ _ _ _ _ _ us hl => match us, hl with | [_, _], _ => rfl
  have m4 := PySem.W.mg_of X G a4
  have F5 := fun_mk (st := st__law_gram) l5 c5 k5
  have b5 := F5.binds (ps := ["_law_count", "_law_symbols"]) fun _ _ _ _ _ _ us hl => match us, hl with | [_, _], _ => rfl
  have m5 := PySem.W.mg_of X G a5
  have F6 := fun_mk (st := st__law_tables) l6 c6 k6
  have b6 := F6.binds (ps := ["_law_rows", "_law_symbols"]) fun _ _ _ _ _ _ us hl => match us, hl with | [_, _], _ => rfl
  have m6 := PySem.W.mg_of X G a6
  have F7 := fun_mk (st := st__law_is_plain) l7 c7 k7
  have b7 := F7.binds (ps := ["_law_table", "_law_rows", "_law_symbols"]) fun _ _ _ _ _ _ us hl => match us, hl with | [_, _, _], _ => rfl
  have m7 := PySem.W.mg_of X G a7
  have F8 := fun_mk (st := st_law) l8 c8 k8
  have b8 := F8.binds (ps := ["_law_script"]) fun _ _ _ _ _ _ us hl => match us, hl with | [_], _ => rfl
  have m8 := PySem.W.mg_of X G a8
  have g : ∀ n, Gx P w K mg cls (pg.cf 100000 n) := fun n => ⟨PySem.W.mg_none_of X G z_abs, PySem.W.mg_none_of X G z_int, PySem.W.mg_none_of X G z_isinstance, PySem.W.mg_none_of X G z_len, PySem.W.mg_none_of X G z_list, PySem.W.mg_none_of X G z_max, PySem.W.mg_none_of X G z_min, PySem.W.mg_none_of X G z_range, PySem.W.mg_none_of X G z_repr, PySem.W.mg_none_of X G z_tuple, conInt (PySem.W.mg_of X G m_MOST_GRAM), conInt (PySem.W.mg_of X G m_MOST_ROWS)⟩
  have pk : ∀ n, Pk (eK P w K mg cls) base (2 * n) (pg.cf 100000 n) nm := fun n => by
    induction n with
    | zero => exact ⟨(List.forall_mem_cons.mpr ⟨cal_zero F0 m0 b0, (List.forall_mem_cons.mpr ⟨cal_zero F1 m1 b1, (List.forall_mem_cons.mpr ⟨cal_zero F2 m2 b2, (List.forall_mem_cons.mpr ⟨cal_zero F3 m3 b3, (List.forall_mem_cons.mpr ⟨cal_zero F4 m4 b4, (List.forall_mem_cons.mpr ⟨cal_zero F5 m5 b5, (List.forall_mem_cons.mpr ⟨cal_zero F6 m6 b6, (List.forall_mem_cons.mpr ⟨cal_zero F7 m7 b7, (fun _ h => (nomatch h))⟩)⟩)⟩)⟩)⟩)⟩)⟩)⟩), fun _ h => (nomatch h), fun _ h => (nomatch h), fun _ h => (nomatch h), fun _ h => (nomatch h)⟩
    | succ n ih => exact ⟨(List.forall_mem_cons.mpr ⟨cal_succ (d := d_gram) rfl F0 m0 b0 (fn_D N_gram _ F0 sc_gram rfl rfl ih (b_gram (g n) · · · · · · _ ·)), (List.forall_mem_cons.mpr ⟨cal_succ (d := d_extended) rfl F1 m1 b1 (fn_D N_extended _ F1 sc_extended rfl rfl ih (b_extended (g n) · · · · · · _ ·)), (List.forall_mem_cons.mpr ⟨cal_succ (d := d_plain_automata) rfl F2 m2 b2 (fn_D N_plain_automata _ F2 sc_plain_automata rfl rfl ih (b_plain_automata (g n) · · · · · · _ ·)), (List.forall_mem_cons.mpr ⟨cal_succ (d := d__law_stream) rfl F3 m3 b3 (fn_D N__law_stream _ F3 sc__law_stream rfl rfl ih (b__law_stream (g n) · · · · · · _ ·)), (List.forall_mem_cons.mpr ⟨cal_succ (d := d__law_draw) rfl F4 m4 b4 (fn_D N__law_draw _ F4 sc__law_draw rfl rfl ih (b__law_draw (g n) · · · · · · _ ·)), (List.forall_mem_cons.mpr ⟨cal_succ (d := d__law_gram) rfl F5 m5 b5 (fn_D N__law_gram _ F5 sc__law_gram rfl rfl ih (b__law_gram (g n) · · · · · · _ ·)), (List.forall_mem_cons.mpr ⟨cal_succ (d := d__law_tables) rfl F6 m6 b6 (fn_D N__law_tables _ F6 sc__law_tables rfl rfl ih (b__law_tables (g n) · · · · · · _ ·)), (List.forall_mem_cons.mpr ⟨cal_succ (d := d__law_is_plain) rfl F7 m7 b7 (fn_D N__law_is_plain _ F7 sc__law_is_plain rfl rfl ih (b__law_is_plain (g n) · · · · · · _ ·)), (fun _ h => (nomatch h))⟩)⟩)⟩)⟩)⟩)⟩)⟩)⟩), fun _ h => (nomatch h), fun _ h => (nomatch h), fun _ h => (nomatch h), fun _ h => (nomatch h)⟩
  exact law_D N_law "_law_script" F8 sc_law rfl rfl b8 ⟨rfl, by decide, by decide⟩ (pk 20) (fun cdv A outer s H E hgd sk => b_law (g 20) cdv A outer s H E _ hgd sk) pure
end DL

namespace DL
open PySem
def B_gram  (fuel : Nat) (sub : Str → Str → Bool) (isx : Str → Bool) (env : AE) (h : AH) : S :=
    (((R.ok ((.int 1) : D) h).st env fun d h => (R.ok (env.set 2 (some d)) h).sb fun env h => S.nx env h).seq fun env h =>
    ((((lk env 0 h).bind fun x h => match x with | .int j => if big j then R.ok (Src.its (rng 0 j.toNat 1)) h else R.bad | _ => R.bad).st env fun s h => forS fuel (fun x env h => (R.ok (env.set 3 (some x)) h).sb fun env h => (((lk env 2 h).st env fun x h => (lk env 1 h).st env fun y h => (iopB B.mul x y h).sb fun z h => S.nx (env.set 2 (some z)) h).seq fun env h =>
    (S.nx env h))) s env h).seq fun env h =>
    (((((lk env 2 h).bind fun x h => (R.ok ((.int 64) : D) h).bind fun y h => bop B.gt x y h).bind fun d h => match tru h d with | some b => R.ok b h | none => R.bad).st env fun k h => if k then (((R.ok (.non : D) h).st env fun d h => S.rt d h).seq fun env h =>
    (S.nx env h)) else (S.nx env h)).seq fun env h =>
    (((((((lk env 2 h).bind fun x h => match x with | .int j => if big j then R.ok (Src.its (rng 0 j.toNat 1)) h else R.bad | _ => R.bad).bind fun s h1 => (colN (nxt s) (fun x h => (R.ok ((wipeE env [4]).set 4 (some x)) h).bind fun env h => (R.ok true h).bind fun k h => if k then (((((lk env 1 h).bind fun x h => match x with | .int j => if big j then R.ok (Src.its (rng 0 j.toNat 1)) h else R.bad | _ => R.bad).bind fun s h1 => (colN (nxt s) (fun x h => (R.ok ((wipeE env [5]).set 5 (some x)) h).bind fun env h => (R.ok true h).bind fun k h => if k then ((((lk env 4 h).bind fun x h => (lk env 1 h).bind fun y h => bop B.mul x y h).bind fun x h => (lk env 5 h).bind fun y h => bop B.add x y h).bind fun x h => (lk env 2 h).bind fun y h => bop B.mod x y h).bind fun d h => putL h1.length d h else R.ok () h) (turns fuel s) 0 (h1 ++ [O.lst []])).bind fun _ h => R.ok (D.ref h1.length) h).bind fun d h => (R.ok ([] : List D) h).bind fun l h => R.ok (d :: l) h).bind fun l h => bi BI.tuple l h).bind fun d h => putL h1.length d h else R.ok () h) (turns fuel s) 0 (h1 ++ [O.lst []])).bind fun _ h => R.ok (D.ref h1.length) h).bind fun d h => (R.ok ([] : List D) h).bind fun l h => R.ok (d :: l) h).bind fun l h => bi BI.tuple l h).st env fun d h => S.rt d h).seq fun env h =>
    (S.nx env h)))))
theorem B_gram_eq (cf : Cf) (env : AE) (h : AH) : execs cf d_gram.body env h = B_gram  cf.fuel cf.sub cf.isx env h := rfl
def F_gram (as : List D) (h : AH) : R D := if as.length = 2 then outS (B_gram  100000 (pg.sub 4) pg.isx (as.map some ++ List.replicate 4 none) h) else .bad
theorem F_gram_eq : ∀ n, 1 ≤ n → (pg.cf 100000 n).call "" "gram" = F_gram := fun n hn => by
  obtain ⟨k, rfl⟩ : ∃ k, n = k + 1 := ⟨n - 1, by omega⟩
  rw [run_at (show pg.funs.lookup (("" : Str), ("gram" : Str)) = some d_gram from rfl)]
  funext l h
  show (if l.length = 2 then outS (execs (pg.cf 100000 k) d_gram.body (frame d_gram l) h) else .bad) = _
  rw [B_gram_eq]
  rfl
def B_extended  (fuel : Nat) (sub : Str → Str → Bool) (isx : Str → Bool) (env : AE) (h : AH) : S :=
    ((((R.ok ([] : List D) h).bind fun l h => R.ok (D.ref h.length) (h ++ [O.lst l])).st env fun d h => (R.ok (env.set 3 (some d)) h).sb fun env h => S.nx env h).seq fun env h =>
    ((((lk env 0 h).bind fun d h => src d h).st env fun s h => forS fuel (fun x env h => (R.ok (env.set 4 (some x)) h).sb fun env h => ((((((((R.ok ((.int 0) : D) h).bind fun d h => (R.ok ([] : List D) h).bind fun l h => R.ok (d :: l) h).bind fun l h => R.ok (D.tup l) h).bind fun x h => (lk env 4 h).bind fun y h => bop B.add x y h).bind fun d h => (R.ok ([] : List D) h).bind fun l h => R.ok (d :: l) h).bind fun l h => bi BI.maxL l h).st env fun d h => (R.ok (env.set 5 (some d)) h).sb fun env h => S.nx env h).seq fun env h =>
    (((((((lk env 4 h).bind fun d h => (R.ok ([] : List D) h).bind fun l h => R.ok (d :: l) h).bind fun l h => bi BI.len l h).bind fun x h => (lk env 2 h).bind fun y h => bop B.mod x y h).bind fun x h => ((lk env 2 h).bind fun x h => (R.ok ((.int 1) : D) h).bind fun y h => bop B.sub x y h).bind fun y h => bop B.eq x y h).st env fun d h => (R.ok (env.set 6 (some d)) h).sb fun env h => S.nx env h).seq fun env h =>
    (((R.ok ((.int 0) : D) h).st env fun d h => (R.ok (env.set 7 (some d)) h).sb fun env h => S.nx env h).seq fun env h =>
    (((((lk env 6 h).bind fun x h => match tru h x with | some true => ((lk env 5 h).bind fun x h => (((((lk env 4 h).bind fun d h => (R.ok ([] : List D) h).bind fun l h => R.ok (d :: l) h).bind fun l h => bi BI.len l h).bind fun x h => (lk env 2 h).bind fun y h => bop B.fdiv x y h).bind fun x h => (R.ok ((.int 1) : D) h).bind fun y h => bop B.add x y h).bind fun y h => (bop B.lt x y h).bind fun z h => match z with | .bl true => (lk env 1 h).bind fun w h => bop B.lt y w h | .bl false => R.ok (D.bl false) h | _ => R.bad) | some false => R.ok x h | none => R.bad).bind fun d h => match tru h d with | some b => R.ok b h | none => R.bad).st env fun k h => if k then ((((lk env 5 h).bind fun x h => (R.ok ((.int 1) : D) h).bind fun y h => bop B.add x y h).st env fun d h => (R.ok (env.set 7 (some d)) h).sb fun env h => S.nx env h).seq fun env h =>
    (S.nx env h)) else (S.nx env h)).seq fun env h =>
    ((((((lk env 5 h).bind fun x h => (R.ok ((.int 1) : D) h).bind fun y h => bop B.add x y h).bind fun d h => (((lk env 1 h).bind fun x h => (R.ok ((.int 1) : D) h).bind fun y h => bop B.sub x y h).bind fun d h => (R.ok ([] : List D) h).bind fun l h => R.ok (d :: l) h).bind fun l h => R.ok (d :: l) h).bind fun l h => bi BI.min2 l h).st env fun d h => (R.ok (env.set 8 (some d)) h).sb fun env h => S.nx env h).seq fun env h =>
    (((((lk env 4 h).bind fun x h => match tru h x with | some b => R.ok (D.bl (!b)) h | none => R.bad).bind fun d h => match tru h d with | some b => R.ok b h | none => R.bad).st env fun k h => if k then (((R.ok ((.int 0) : D) h).st env fun d h => (R.ok (env.set 8 (some d)) h).sb fun env h => S.nx env h).seq fun env h =>
    (S.nx env h)) else (S.nx env h)).seq fun env h =>
    ((((lk env 7 h).bind fun x h => ((lk env 8 h).bind fun x h => (R.ok ((.int 1) : D) h).bind fun y h => bop B.add x y h).bind fun y h => match x, y with | .int i, .int j => if big i && big j then R.ok (Src.its (rng i (j - i).toNat 1)) h else R.bad | _, _ => R.bad).st env fun s h => forS fuel (fun x env h => (R.ok (env.set 9 (some x)) h).sb fun env h => ((((lk env 3 h).bind fun x h => if bmOk M.append x h then (((lk env 4 h).bind fun x h => (((lk env 9 h).bind fun d h => (R.ok ([] : List D) h).bind fun l h => R.ok (d :: l) h).bind fun l h => R.ok (D.tup l) h).bind fun y h => bop B.add x y h).bind fun d h => (R.ok ([] : List D) h).bind fun l h => R.ok (d :: l) h).bind fun l h => mth M.append x l h else R.bad).st env fun _ h => S.nx env h).seq fun env h =>
    (S.nx env h))) s env h).seq fun env h =>
    (S.nx env h))))))))) s env h).seq fun env h =>
    (((lk env 3 h).st env fun d h => S.rt d h).seq fun env h =>
    (S.nx env h))))
theorem B_extended_eq (cf : Cf) (env : AE) (h : AH) : execs cf d_extended.body env h = B_extended  cf.fuel cf.sub cf.isx env h := rfl
def F_extended (as : List D) (h : AH) : R D := if as.length = 3 then outS (B_extended  100000 (pg.sub 4) pg.isx (as.map some ++ List.replicate 7 none) h) else .bad
theorem F_extended_eq : ∀ n, 1 ≤ n → (pg.cf 100000 n).call "" "extended" = F_extended := fun n hn => by
  obtain ⟨k, rfl⟩ : ∃ k, n = k + 1 := ⟨n - 1, by omega⟩
  rw [run_at (show pg.funs.lookup (("" : Str), ("extended" : Str)) = some d_extended from rfl)]
  funext l h
  show (if l.length = 3 then outS (execs (pg.cf 100000 k) d_extended.body (frame d_extended l) h) else .bad) = _
  rw [B_extended_eq]
  rfl
def B__law_stream  (fuel : Nat) (sub : Str → Str → Bool) (isx : Str → Bool) (env : AE) (h : AH) : S :=
    (((R.ok ((.int 17) : D) h).st env fun d h => (R.ok (env.set 1 (some d)) h).sb fun env h => S.nx env h).seq fun env h =>
    ((((lk env 0 h).bind fun d h => src d h).st env fun s h => forS fuel (fun x env h => (R.ok (env.set 2 (some x)) h).sb fun env h => (((((((((lk env 1 h).bind fun x h => (R.ok ((.int 48271) : D) h).bind fun y h => bop B.mul x y h).bind fun x h => ((((lk env 2 h).bind fun d h => (R.ok ([] : List D) h).bind fun l h => R.ok (d :: l) h).bind fun l h => bi BI.int l h).bind fun x h => (R.ok ((.int 65521) : D) h).bind fun y h => bop B.mod x y h).bind fun y h => bop B.add x y h).bind fun x h => (R.ok ((.int 1) : D) h).bind fun y h => bop B.add x y h).bind fun d h => (R.ok ([] : List D) h).bind fun l h => R.ok (d :: l) h).bind fun l h => bi BI.int l h).bind fun x h => (R.ok ((.int 2147483647) : D) h).bind fun y h => bop B.mod x y h).st env fun d h => (R.ok (env.set 1 (some d)) h).sb fun env h => S.nx env h).seq fun env h =>
    (S.nx env h))) s env h).seq fun env h =>
    (((((((lk env 0 h).bind fun d h => (R.ok ([] : List D) h).bind fun l h => R.ok (d :: l) h).bind fun l h => bi BI.list l h).bind fun d h => ((R.ok ((.int 0) : D) h).bind fun d h => ((R.ok ((.int 0) : D) h).bind fun d h => ((lk env 1 h).bind fun d h => (R.ok ([] : List D) h).bind fun l h => R.ok (d :: l) h).bind fun l h => R.ok (d :: l) h).bind fun l h => R.ok (d :: l) h).bind fun l h => R.ok (d :: l) h).bind fun l h => R.ok (D.ref h.length) (h ++ [O.lst l])).st env fun d h => S.rt d h).seq fun env h =>
    (S.nx env h))))
theorem B__law_stream_eq (cf : Cf) (env : AE) (h : AH) : execs cf d__law_stream.body env h = B__law_stream  cf.fuel cf.sub cf.isx env h := rfl
def F__law_stream (as : List D) (h : AH) : R D := if as.length = 1 then outS (B__law_stream  100000 (pg.sub 4) pg.isx (as.map some ++ List.replicate 2 none) h) else .bad
theorem F__law_stream_eq : ∀ n, 1 ≤ n → (pg.cf 100000 n).call "" "_law_stream" = F__law_stream := fun n hn => by
  obtain ⟨k, rfl⟩ : ∃ k, n = k + 1 := ⟨n - 1, by omega⟩
  rw [run_at (show pg.funs.lookup (("" : Str), ("_law_stream" : Str)) = some d__law_stream from rfl)]
  funext l h
  show (if l.length = 1 then outS (execs (pg.cf 100000 k) d__law_stream.body (frame d__law_stream l) h) else .bad) = _
  rw [B__law_stream_eq]
  rfl
def B__law_draw  (fuel : Nat) (sub : Str → Str → Bool) (isx : Str → Bool) (env : AE) (h : AH) : S :=
    (((((((lk env 0 h).bind fun x h => (R.ok ((.int 1) : D) h).bind fun y h => bop B.item x y h).bind fun x h => (R.ok ((.int 0) : D) h).bind fun y h => bop B.eq x y h).bind fun x h => match tru h x with | some true => (((lk env 0 h).bind fun x h => (R.ok ((.int 2) : D) h).bind fun y h => bop B.item x y h).bind fun x h => ((((lk env 0 h).bind fun x h => (R.ok ((.int 0) : D) h).bind fun y h => bop B.item x y h).bind fun d h => (R.ok ([] : List D) h).bind fun l h => R.ok (d :: l) h).bind fun l h => bi BI.len l h).bind fun y h => bop B.lt x y h) | some false => R.ok x h | none => R.bad).bind fun d h => match tru h d with | some b => R.ok b h | none => R.bad).st env fun k h => if k then (((((((((lk env 0 h).bind fun x h => (R.ok ((.int 0) : D) h).bind fun y h => bop B.item x y h).bind fun x h => ((lk env 0 h).bind fun x h => (R.ok ((.int 2) : D) h).bind fun y h => bop B.item x y h).bind fun y h => bop B.item x y h).bind fun d h => (R.ok ([] : List D) h).bind fun l h => R.ok (d :: l) h).bind fun l h => bi BI.int l h).bind fun d h => (R.ok ([] : List D) h).bind fun l h => R.ok (d :: l) h).bind fun l h => bi BI.abs l h).st env fun d h => ((lk env 0 h).bind fun x1 h => (R.ok ((.int 1) : D) h).bind fun y1 h => (setI x1 y1 d h).bind fun _ h => R.ok env h).sb fun env h => S.nx env h).seq fun env h =>
    (((((lk env 0 h).bind fun x h => (R.ok ((.int 2) : D) h).bind fun y h => bop B.item x y h).bind fun x h => (R.ok ((.int 1) : D) h).bind fun y h => bop B.add x y h).st env fun d h => ((lk env 0 h).bind fun x1 h => (R.ok ((.int 2) : D) h).bind fun y1 h => (setI x1 y1 d h).bind fun _ h => R.ok env h).sb fun env h => S.nx env h).seq fun env h =>
    (S.nx env h))) else (S.nx env h)).seq fun env h =>
    ((((((lk env 0 h).bind fun x h => (R.ok ((.int 1) : D) h).bind fun y h => bop B.item x y h).bind fun x h => (R.ok ((.int 0) : D) h).bind fun y h => bop B.eq x y h).bind fun d h => match tru h d with | some b => R.ok b h | none => R.bad).st env fun k h => if k then (((((((((lk env 0 h).bind fun x h => (R.ok ((.int 3) : D) h).bind fun y h => bop B.item x y h).bind fun x h => (R.ok ((.int 48271) : D) h).bind fun y h => bop B.mul x y h).bind fun x h => (R.ok ((.int 11) : D) h).bind fun y h => bop B.add x y h).bind fun d h => (R.ok ([] : List D) h).bind fun l h => R.ok (d :: l) h).bind fun l h => bi BI.int l h).bind fun x h => (R.ok ((.int 2147483647) : D) h).bind fun y h => bop B.mod x y h).st env fun d h => ((lk env 0 h).bind fun x1 h => (R.ok ((.int 3) : D) h).bind fun y1 h => (setI x1 y1 d h).bind fun _ h => R.ok env h).sb fun env h => S.nx env h).seq fun env h =>
    ((((((((lk env 0 h).bind fun x h => (R.ok ((.int 3) : D) h).bind fun y h => bop B.item x y h).bind fun x h => (R.ok ((.int 97) : D) h).bind fun y h => bop B.fdiv x y h).bind fun d h => (R.ok ([] : List D) h).bind fun l h => R.ok (d :: l) h).bind fun l h => bi BI.int l h).bind fun x h => (lk env 1 h).bind fun y h => bop B.mod x y h).st env fun d h => S.rt d h).seq fun env h =>
    (S.nx env h))) else (S.nx env h)).seq fun env h =>
    (((((((lk env 0 h).bind fun x h => (R.ok ((.int 1) : D) h).bind fun y h => bop B.item x y h).bind fun d h => (R.ok ([] : List D) h).bind fun l h => R.ok (d :: l) h).bind fun l h => bi BI.int l h).bind fun x h => (lk env 1 h).bind fun y h => bop B.mod x y h).st env fun d h => (R.ok (env.set 2 (some d)) h).sb fun env h => S.nx env h).seq fun env h =>
    (((((lk env 0 h).bind fun x h => (R.ok ((.int 1) : D) h).bind fun y h => bop B.item x y h).bind fun x h => (lk env 1 h).bind fun y h => bop B.fdiv x y h).st env fun d h => ((lk env 0 h).bind fun x1 h => (R.ok ((.int 1) : D) h).bind fun y1 h => (setI x1 y1 d h).bind fun _ h => R.ok env h).sb fun env h => S.nx env h).seq fun env h =>
    (((lk env 2 h).st env fun d h => S.rt d h).seq fun env h =>
    (S.nx env h))))))
theorem B__law_draw_eq (cf : Cf) (env : AE) (h : AH) : execs cf d__law_draw.body env h = B__law_draw  cf.fuel cf.sub cf.isx env h := rfl
def F__law_draw (as : List D) (h : AH) : R D := if as.length = 2 then outS (B__law_draw  100000 (pg.sub 4) pg.isx (as.map some ++ List.replicate 1 none) h) else .bad
theorem F__law_draw_eq : ∀ n, 1 ≤ n → (pg.cf 100000 n).call "" "_law_draw" = F__law_draw := fun n hn => by
  obtain ⟨k, rfl⟩ : ∃ k, n = k + 1 := ⟨n - 1, by omega⟩
  rw [run_at (show pg.funs.lookup (("" : Str), ("_law_draw" : Str)) = some d__law_draw from rfl)]
  funext l h
  show (if l.length = 2 then outS (execs (pg.cf 100000 k) d__law_draw.body (frame d__law_draw l) h) else .bad) = _
  rw [B__law_draw_eq]
  rfl
def B__law_gram  (fuel : Nat) (sub : Str → Str → Bool) (isx : Str → Bool) (env : AE) (h : AH) : S :=
    (((R.ok ((.int 1) : D) h).st env fun d h => (R.ok (env.set 2 (some d)) h).sb fun env h => S.nx env h).seq fun env h =>
    ((((lk env 0 h).bind fun x h => match x with | .int j => if big j then R.ok (Src.its (rng 0 j.toNat 1)) h else R.bad | _ => R.bad).st env fun s h => forS fuel (fun x env h => (R.ok (env.set 3 (some x)) h).sb fun env h => ((((lk env 2 h).bind fun x h => (lk env 1 h).bind fun y h => bop B.mul x y h).st env fun d h => (R.ok (env.set 2 (some d)) h).sb fun env h => S.nx env h).seq fun env h =>
    (S.nx env h))) s env h).seq fun env h =>
    (((((((lk env 2 h).bind fun x h => match x with | .int j => if big j then R.ok (Src.its (rng 0 j.toNat 1)) h else R.bad | _ => R.bad).bind fun s h1 => (colN (nxt s) (fun x h => (R.ok ((wipeE env [4]).set 4 (some x)) h).bind fun env h => (R.ok true h).bind fun k h => if k then (((((lk env 1 h).bind fun x h => match x with | .int j => if big j then R.ok (Src.its (rng 0 j.toNat 1)) h else R.bad | _ => R.bad).bind fun s h1 => (colN (nxt s) (fun x h => (R.ok ((wipeE env [5]).set 5 (some x)) h).bind fun env h => (R.ok true h).bind fun k h => if k then ((((((lk env 4 h).bind fun x h => (lk env 1 h).bind fun y h => bop B.mul x y h).bind fun x h => (lk env 5 h).bind fun y h => bop B.add x y h).bind fun d h => (R.ok ([] : List D) h).bind fun l h => R.ok (d :: l) h).bind fun l h => bi BI.int l h).bind fun x h => (lk env 2 h).bind fun y h => bop B.mod x y h).bind fun d h => putL h1.length d h else R.ok () h) (turns fuel s) 0 (h1 ++ [O.lst []])).bind fun _ h => R.ok (D.ref h1.length) h).bind fun d h => (R.ok ([] : List D) h).bind fun l h => R.ok (d :: l) h).bind fun l h => bi BI.tuple l h).bind fun d h => putL h1.length d h else R.ok () h) (turns fuel s) 0 (h1 ++ [O.lst []])).bind fun _ h => R.ok (D.ref h1.length) h).bind fun d h => (R.ok ([] : List D) h).bind fun l h => R.ok (d :: l) h).bind fun l h => bi BI.tuple l h).st env fun d h => S.rt d h).seq fun env h =>
    (S.nx env h))))
theorem B__law_gram_eq (cf : Cf) (env : AE) (h : AH) : execs cf d__law_gram.body env h = B__law_gram  cf.fuel cf.sub cf.isx env h := rfl
def F__law_gram (as : List D) (h : AH) : R D := if as.length = 2 then outS (B__law_gram  100000 (pg.sub 4) pg.isx (as.map some ++ List.replicate 4 none) h) else .bad
theorem F__law_gram_eq : ∀ n, 1 ≤ n → (pg.cf 100000 n).call "" "_law_gram" = F__law_gram := fun n hn => by
  obtain ⟨k, rfl⟩ : ∃ k, n = k + 1 := ⟨n - 1, by omega⟩
  rw [run_at (show pg.funs.lookup (("" : Str), ("_law_gram" : Str)) = some d__law_gram from rfl)]
  funext l h
  show (if l.length = 2 then outS (execs (pg.cf 100000 k) d__law_gram.body (frame d__law_gram l) h) else .bad) = _
  rw [B__law_gram_eq]
  rfl
def B__law_tables  (fuel : Nat) (sub : Str → Str → Bool) (isx : Str → Bool) (env : AE) (h : AH) : S :=
    ((((((R.ok ([] : List D) h).bind fun l h => R.ok (D.tup l) h).bind fun d h => (R.ok ([] : List D) h).bind fun l h => R.ok (d :: l) h).bind fun l h => R.ok (D.ref h.length) (h ++ [O.lst l])).st env fun d h => (R.ok (env.set 2 (some d)) h).sb fun env h => S.nx env h).seq fun env h =>
    (((((lk env 0 h).bind fun x h => (lk env 1 h).bind fun y h => bop B.mul x y h).bind fun x h => match x with | .int j => if big j then R.ok (Src.its (rng 0 j.toNat 1)) h else R.bad | _ => R.bad).st env fun s h => forS fuel (fun x env h => (R.ok (env.set 3 (some x)) h).sb fun env h => ((((R.ok ([] : List D) h).bind fun l h => R.ok (D.ref h.length) (h ++ [O.lst l])).st env fun d h => (R.ok (env.set 4 (some d)) h).sb fun env h => S.nx env h).seq fun env h =>
    ((((lk env 2 h).bind fun d h => src d h).st env fun s h => forS fuel (fun x env h => (R.ok (env.set 5 (some x)) h).sb fun env h => ((((lk env 0 h).bind fun x h => match x with | .int j => if big j then R.ok (Src.its (rng 0 j.toNat 1)) h else R.bad | _ => R.bad).st env fun s h => forS fuel (fun x env h => (R.ok (env.set 6 (some x)) h).sb fun env h => ((((((lk env 3 h).bind fun x h => (R.ok ((.int 0) : D) h).bind fun y h => bop B.gt x y h).bind fun x h => match tru h x with | some true => R.ok x h | some false => ((lk env 6 h).bind fun x h => (R.ok ((.int 0) : D) h).bind fun y h => bop B.eq x y h) | none => R.bad).bind fun d h => match tru h d with | some b => R.ok b h | none => R.bad).st env fun k h => if k then ((((lk env 4 h).bind fun x h => if bmOk M.append x h then (((lk env 5 h).bind fun x h => (((lk env 6 h).bind fun d h => (R.ok ([] : List D) h).bind fun l h => R.ok (d :: l) h).bind fun l h => R.ok (D.tup l) h).bind fun y h => bop B.add x y h).bind fun d h => (R.ok ([] : List D) h).bind fun l h => R.ok (d :: l) h).bind fun l h => mth M.append x l h else R.bad).st env fun _ h => S.nx env h).seq fun env h =>
    (S.nx env h)) else (S.nx env h)).seq fun env h =>
    (S.nx env h))) s env h).seq fun env h =>
    (S.nx env h))) s env h).seq fun env h =>
    (((lk env 4 h).st env fun d h => (R.ok (env.set 2 (some d)) h).sb fun env h => S.nx env h).seq fun env h =>
    (S.nx env h))))) s env h).seq fun env h =>
    (((lk env 2 h).st env fun d h => S.rt d h).seq fun env h =>
    (S.nx env h))))
theorem B__law_tables_eq (cf : Cf) (env : AE) (h : AH) : execs cf d__law_tables.body env h = B__law_tables  cf.fuel cf.sub cf.isx env h := rfl
def F__law_tables (as : List D) (h : AH) : R D := if as.length = 2 then outS (B__law_tables  100000 (pg.sub 4) pg.isx (as.map some ++ List.replicate 5 none) h) else .bad
theorem F__law_tables_eq : ∀ n, 1 ≤ n → (pg.cf 100000 n).call "" "_law_tables" = F__law_tables := fun n hn => by
  obtain ⟨k, rfl⟩ : ∃ k, n = k + 1 := ⟨n - 1, by omega⟩
  rw [run_at (show pg.funs.lookup (("" : Str), ("_law_tables" : Str)) = some d__law_tables from rfl)]
  funext l h
  show (if l.length = 2 then outS (execs (pg.cf 100000 k) d__law_tables.body (frame d__law_tables l) h) else .bad) = _
  rw [B__law_tables_eq]
  rfl
def B__law_is_plain  (fuel : Nat) (sub : Str → Str → Bool) (isx : Str → Bool) (env : AE) (h : AH) : S :=
    (((R.ok ((.int 0) : D) h).st env fun d h => (R.ok (env.set 3 (some d)) h).sb fun env h => S.nx env h).seq fun env h =>
    ((((((lk env 0 h).bind fun d h => (R.ok ([] : List D) h).bind fun l h => R.ok (d :: l) h).bind fun l h => bi BI.len l h).bind fun x h => match x with | .int j => if big j then R.ok (Src.its (rng 0 j.toNat 1)) h else R.bad | _ => R.bad).st env fun s h => forS fuel (fun x env h => (R.ok (env.set 4 (some x)) h).sb fun env h => ((((((lk env 0 h).bind fun x h => (lk env 4 h).bind fun y h => bop B.item x y h).bind fun x h => ((lk env 3 h).bind fun x h => (R.ok ((.int 1) : D) h).bind fun y h => bop B.add x y h).bind fun y h => bop B.gt x y h).bind fun d h => match tru h d with | some b => R.ok b h | none => R.bad).st env fun k h => if k then (((R.ok ((.bl false) : D) h).st env fun d h => S.rt d h).seq fun env h =>
    (S.nx env h)) else (S.nx env h)).seq fun env h =>
    ((((((lk env 0 h).bind fun x h => (lk env 4 h).bind fun y h => bop B.item x y h).bind fun x h => ((lk env 3 h).bind fun x h => (R.ok ((.int 1) : D) h).bind fun y h => bop B.add x y h).bind fun y h => bop B.eq x y h).bind fun d h => match tru h d with | some b => R.ok b h | none => R.bad).st env fun k h => if k then ((((((lk env 4 h).bind fun x h => (lk env 2 h).bind fun y h => bop B.fdiv x y h).bind fun x h => (lk env 3 h).bind fun y h => bop B.gt x y h).bind fun d h => match tru h d with | some b => R.ok b h | none => R.bad).st env fun k h => if k then (((R.ok ((.bl false) : D) h).st env fun d h => S.rt d h).seq fun env h =>
    (S.nx env h)) else (S.nx env h)).seq fun env h =>
    ((((lk env 3 h).bind fun x h => (R.ok ((.int 1) : D) h).bind fun y h => bop B.add x y h).st env fun d h => (R.ok (env.set 3 (some d)) h).sb fun env h => S.nx env h).seq fun env h =>
    (S.nx env h))) else (S.nx env h)).seq fun env h =>
    (S.nx env h)))) s env h).seq fun env h =>
    ((((lk env 3 h).bind fun x h => ((lk env 1 h).bind fun x h => (R.ok ((.int 1) : D) h).bind fun y h => bop B.sub x y h).bind fun y h => bop B.eq x y h).st env fun d h => S.rt d h).seq fun env h =>
    (S.nx env h))))
theorem B__law_is_plain_eq (cf : Cf) (env : AE) (h : AH) : execs cf d__law_is_plain.body env h = B__law_is_plain  cf.fuel cf.sub cf.isx env h := rfl
def F__law_is_plain (as : List D) (h : AH) : R D := if as.length = 3 then outS (B__law_is_plain  100000 (pg.sub 4) pg.isx (as.map some ++ List.replicate 2 none) h) else .bad
theorem F__law_is_plain_eq : ∀ n, 1 ≤ n → (pg.cf 100000 n).call "" "_law_is_plain" = F__law_is_plain := fun n hn => by
  obtain ⟨k, rfl⟩ : ∃ k, n = k + 1 := ⟨n - 1, by omega⟩
  rw [run_at (show pg.funs.lookup (("" : Str), ("_law_is_plain" : Str)) = some d__law_is_plain from rfl)]
  funext l h
  show (if l.length = 3 then outS (execs (pg.cf 100000 k) d__law_is_plain.body (frame d__law_is_plain l) h) else .bad) = _
  rw [B__law_is_plain_eq]
  rfl
def B_plain_automata (k_extended : List D → AH → R D) (fuel : Nat) (sub : Str → Str → Bool) (isx : Str → Bool) (env : AE) (h : AH) : S :=
    ((((R.ok ([] : List D) h).bind fun l h => R.ok (D.ref h.length) (h ++ [O.lst l])).st env fun d h => (R.ok (env.set 2 (some d)) h).sb fun env h => S.nx env h).seq fun env h =>
    ((((R.ok ((.int 1) : D) h).bind fun x h => ((lk env 0 h).bind fun x h => (R.ok ((.int 1) : D) h).bind fun y h => bop B.add x y h).bind fun y h => match x, y with | .int i, .int j => if big i && big j then R.ok (Src.its (rng i (j - i).toNat 1)) h else R.bad | _, _ => R.bad).st env fun s h => forS fuel (fun x env h => (R.ok (env.set 3 (some x)) h).sb fun env h => ((((((R.ok ([] : List D) h).bind fun l h => R.ok (D.tup l) h).bind fun d h => (R.ok ([] : List D) h).bind fun l h => R.ok (d :: l) h).bind fun l h => R.ok (D.ref h.length) (h ++ [O.lst l])).st env fun d h => (R.ok (env.set 4 (some d)) h).sb fun env h => S.nx env h).seq fun env h =>
    (((((lk env 3 h).bind fun x h => (lk env 1 h).bind fun y h => bop B.mul x y h).bind fun x h => match x with | .int j => if big j then R.ok (Src.its (rng 0 j.toNat 1)) h else R.bad | _ => R.bad).st env fun s h => forS fuel (fun x env h => (R.ok (env.set 5 (some x)) h).sb fun env h => (((((lk env 4 h).bind fun d h => ((lk env 3 h).bind fun d h => ((lk env 1 h).bind fun d h => (R.ok ([] : List D) h).bind fun l h => R.ok (d :: l) h).bind fun l h => R.ok (d :: l) h).bind fun l h => R.ok (d :: l) h).bind fun l h => k_extended l h).st env fun d h => (R.ok (env.set 4 (some d)) h).sb fun env h => S.nx env h).seq fun env h =>
    (S.nx env h))) s env h).seq fun env h =>
    ((((lk env 4 h).bind fun d h => src d h).st env fun s h => forS fuel (fun x env h => (R.ok (env.set 6 (some x)) h).sb fun env h => (((((R.ok ((.int 0) : D) h).bind fun x h => (((lk env 6 h).bind fun d h => (R.ok ([] : List D) h).bind fun l h => R.ok (d :: l) h).bind fun l h => bi BI.len l h).bind fun y h => (lk env 1 h).bind fun z h => match x, y, z with | .int i, .int j, .int k => if decide (k ≠ 0 ∧ k.natAbs < 1073741824) && Builtin.Range.small i j k && decide (0 ≤ Builtin.Range.rangeSize i j k) then R.ok (Src.its (rng i (Builtin.Range.rangeSize i j k).toNat k)) h else R.bad | _, _, _ => R.bad).bind fun s h1 => (colN (nxt s) (fun x h => (R.ok ((wipeE env [8]).set 8 (some x)) h).bind fun env h => (R.ok true h).bind fun k h => if k then ((lk env 6 h).bind fun x h => ((lk env 8 h).bind fun d h => match d with | .int i => R.ok (some i) h | _ => R.bad).bind fun i h => (((lk env 8 h).bind fun x h => (lk env 1 h).bind fun y h => bop B.add x y h).bind fun d h => match d with | .int i => R.ok (some i) h | _ => R.bad).bind fun j h => sliceD x i j h).bind fun d h => putL h1.length d h else R.ok () h) (turns fuel s) 0 (h1 ++ [O.lst []])).bind fun _ h => R.ok (D.ref h1.length) h).st env fun d h => (R.ok (env.set 7 (some d)) h).sb fun env h => S.nx env h).seq fun env h =>
    ((((lk env 2 h).bind fun x h => if bmOk M.append x h then ((((lk env 7 h).bind fun d h => (R.ok ([] : List D) h).bind fun l h => R.ok (d :: l) h).bind fun l h => bi BI.tuple l h).bind fun d h => (R.ok ([] : List D) h).bind fun l h => R.ok (d :: l) h).bind fun l h => mth M.append x l h else R.bad).st env fun _ h => S.nx env h).seq fun env h =>
    (S.nx env h)))) s env h).seq fun env h =>
    (S.nx env h))))) s env h).seq fun env h =>
    (((lk env 2 h).st env fun d h => S.rt d h).seq fun env h =>
    (S.nx env h))))
theorem B_plain_automata_eq (cf : Cf) (env : AE) (h : AH) : execs cf d_plain_automata.body env h = B_plain_automata (cf.call "" "extended") cf.fuel cf.sub cf.isx env h := rfl
def F_plain_automata (as : List D) (h : AH) : R D := if as.length = 2 then outS (B_plain_automata F_extended 100000 (pg.sub 4) pg.isx (as.map some ++ List.replicate 7 none) h) else .bad
theorem F_plain_automata_eq : ∀ n, 2 ≤ n → (pg.cf 100000 n).call "" "plain_automata" = F_plain_automata := fun n hn => by
  obtain ⟨k, rfl⟩ : ∃ k, n = k + 1 := ⟨n - 1, by omega⟩
  rw [run_at (show pg.funs.lookup (("" : Str), ("plain_automata" : Str)) = some d_plain_automata from rfl)]
  funext l h
  show (if l.length = 2 then outS (execs (pg.cf 100000 k) d_plain_automata.body (frame d_plain_automata l) h) else .bad) = _
  rw [B_plain_automata_eq, F_extended_eq k (by omega)]
  rfl
def B_law (k_plain_automata : List D → AH → R D) (k__law_tables : List D → AH → R D) (k__law_is_plain : List D → AH → R D) (k__law_draw : List D → AH → R D) (k__law_gram : List D → AH → R D) (k_gram : List D → AH → R D) (k__law_stream : List D → AH → R D) (fuel : Nat) (sub : Str → Str → Bool) (isx : Str → Bool) (env : AE) (h : AH) : S :=
    (((((lk env 0 h).bind fun d h => (R.ok ([] : List D) h).bind fun l h => R.ok (d :: l) h).bind fun l h => k__law_stream l h).st env fun d h => (R.ok (env.set 1 (some d)) h).sb fun env h => S.nx env h).seq fun env h =>
    (((((lk env 1 h).bind fun d h => ((R.ok ((.int 6) : D) h).bind fun d h => (R.ok ([] : List D) h).bind fun l h => R.ok (d :: l) h).bind fun l h => R.ok (d :: l) h).bind fun l h => k__law_draw l h).st env fun d h => (R.ok (env.set 2 (some d)) h).sb fun env h => S.nx env h).seq fun env h =>
    ((((R.ok ((.int 2) : D) h).bind fun x h => (((lk env 1 h).bind fun d h => ((R.ok ((.int 3) : D) h).bind fun d h => (R.ok ([] : List D) h).bind fun l h => R.ok (d :: l) h).bind fun l h => R.ok (d :: l) h).bind fun l h => k__law_draw l h).bind fun y h => bop B.add x y h).st env fun d h => (R.ok (env.set 3 (some d)) h).sb fun env h => S.nx env h).seq fun env h =>
    (((((lk env 2 h).bind fun d h => ((lk env 3 h).bind fun d h => (R.ok ([] : List D) h).bind fun l h => R.ok (d :: l) h).bind fun l h => R.ok (d :: l) h).bind fun l h => k_gram l h).st env fun d h => (R.ok (env.set 4 (some d)) h).sb fun env h => S.nx env h).seq fun env h =>
    (((R.ok ((.int 1) : D) h).st env fun d h => (R.ok (env.set 5 (some d)) h).sb fun env h => S.nx env h).seq fun env h =>
    ((((lk env 2 h).bind fun x h => match x with | .int j => if big j then R.ok (Src.its (rng 0 j.toNat 1)) h else R.bad | _ => R.bad).st env fun s h => forS fuel (fun x env h => (R.ok (env.set 6 (some x)) h).sb fun env h => ((((lk env 5 h).bind fun x h => (lk env 3 h).bind fun y h => bop B.mul x y h).st env fun d h => (R.ok (env.set 5 (some d)) h).sb fun env h => S.nx env h).seq fun env h =>
    (S.nx env h))) s env h).seq fun env h =>
    (((((lk env 5 h).bind fun x h => (R.ok ((.int 64) : D) h).bind fun y h => bop B.gt x y h).bind fun d h => match tru h d with | some b => R.ok b h | none => R.bad).st env fun k h => if k then (((((lk env 4 h).bind fun x h => (R.ok (.non : D) h).bind fun y h => bop B.isnt x y h).bind fun d h => match tru h d with | some b => R.ok b h | none => R.bad).st env fun k h => if k then (((R.ok ((.bl false) : D) h).st env fun d h => S.rt d h).seq fun env h =>
    (S.nx env h)) else (S.nx env h)).seq fun env h =>
    (S.nx env h)) else ((((((lk env 4 h).bind fun x h => match shO x h with | none => R.bad | some p => (((lk env 2 h).bind fun d h => ((lk env 3 h).bind fun d h => (R.ok ([] : List D) h).bind fun l h => R.ok (d :: l) h).bind fun l h => R.ok (d :: l) h).bind fun l h => k__law_gram l h).bind fun y h => match shO y h with | none => R.bad | some q => if same p q then R.ok (D.bl (!true)) h else R.bad).bind fun x h => match tru h x with | some true => R.ok x h | some false => ((R.ok ((.int 5) : D) h).bind fun x h => (R.ok ((.int 5) : D) h).bind fun y h => bop B.ne x y h) | none => R.bad).bind fun d h => match tru h d with | some b => R.ok b h | none => R.bad).st env fun k h => if k then (((R.ok ((.bl false) : D) h).st env fun d h => S.rt d h).seq fun env h =>
    (S.nx env h)) else (S.nx env h)).seq fun env h =>
    (S.nx env h))).seq fun env h =>
    ((((R.ok ((.int 1) : D) h).bind fun x h => (((lk env 1 h).bind fun d h => (((R.ok ((.int 2) : D) h).bind fun x h => ((((lk env 3 h).bind fun x h => (R.ok ((.int 2) : D) h).bind fun y h => bop B.eq x y h).bind fun d h => (R.ok ([] : List D) h).bind fun l h => R.ok (d :: l) h).bind fun l h => bi BI.int l h).bind fun y h => bop B.add x y h).bind fun d h => (R.ok ([] : List D) h).bind fun l h => R.ok (d :: l) h).bind fun l h => R.ok (d :: l) h).bind fun l h => k__law_draw l h).bind fun y h => bop B.add x y h).st env fun d h => (R.ok (env.set 7 (some d)) h).sb fun env h => S.nx env h).seq fun env h =>
    ((((R.ok ([] : List D) h).bind fun l h => R.ok (D.ref h.length) (h ++ [O.lst l])).st env fun d h => (R.ok (env.set 8 (some d)) h).sb fun env h => S.nx env h).seq fun env h =>
    ((((R.ok ((.int 1) : D) h).bind fun x h => ((lk env 7 h).bind fun x h => (R.ok ((.int 1) : D) h).bind fun y h => bop B.add x y h).bind fun y h => match x, y with | .int i, .int j => if big i && big j then R.ok (Src.its (rng i (j - i).toNat 1)) h else R.bad | _, _ => R.bad).st env fun s h => forS fuel (fun x env h => (R.ok (env.set 9 (some x)) h).sb fun env h => ((((((lk env 9 h).bind fun d h => ((lk env 3 h).bind fun d h => (R.ok ([] : List D) h).bind fun l h => R.ok (d :: l) h).bind fun l h => R.ok (d :: l) h).bind fun l h => k__law_tables l h).bind fun d h => src d h).st env fun s h => forS fuel (fun x env h => (R.ok (env.set 11 (some x)) h).sb fun env h => ((((((lk env 11 h).bind fun d h => ((lk env 9 h).bind fun d h => ((lk env 3 h).bind fun d h => (R.ok ([] : List D) h).bind fun l h => R.ok (d :: l) h).bind fun l h => R.ok (d :: l) h).bind fun l h => R.ok (d :: l) h).bind fun l h => k__law_is_plain l h).bind fun d h => match tru h d with | some b => R.ok b h | none => R.bad).st env fun k h => if k then ((((lk env 8 h).bind fun x h => if bmOk M.append x h then ((((((lk env 9 h).bind fun x h => match x with | .int j => if big j then R.ok (Src.its (rng 0 j.toNat 1)) h else R.bad | _ => R.bad).bind fun s h1 => (colN (nxt s) (fun x h => (R.ok ((wipeE env [12]).set 12 (some x)) h).bind fun env h => (R.ok true h).bind fun k h => if k then ((lk env 11 h).bind fun x h => (((lk env 12 h).bind fun x h => (lk env 3 h).bind fun y h => bop B.mul x y h).bind fun d h => match d with | .int i => R.ok (some i) h | _ => R.bad).bind fun i h => ((((lk env 12 h).bind fun x h => (lk env 3 h).bind fun y h => bop B.mul x y h).bind fun x h => (lk env 3 h).bind fun y h => bop B.add x y h).bind fun d h => match d with | .int i => R.ok (some i) h | _ => R.bad).bind fun j h => sliceD x i j h).bind fun d h => putL h1.length d h else R.ok () h) (turns fuel s) 0 (h1 ++ [O.lst []])).bind fun _ h => R.ok (D.ref h1.length) h).bind fun d h => (R.ok ([] : List D) h).bind fun l h => R.ok (d :: l) h).bind fun l h => bi BI.tuple l h).bind fun d h => (R.ok ([] : List D) h).bind fun l h => R.ok (d :: l) h).bind fun l h => mth M.append x l h else R.bad).st env fun _ h => S.nx env h).seq fun env h =>
    (S.nx env h)) else (S.nx env h)).seq fun env h =>
    (S.nx env h))) s env h).seq fun env h =>
    (S.nx env h))) s env h).seq fun env h =>
    (((((lk env 7 h).bind fun d h => ((lk env 3 h).bind fun d h => (R.ok ([] : List D) h).bind fun l h => R.ok (d :: l) h).bind fun l h => R.ok (d :: l) h).bind fun l h => k_plain_automata l h).st env fun d h => (R.ok (env.set 10 (some d)) h).sb fun env h => S.nx env h).seq fun env h =>
    (((((((lk env 10 h).bind fun x h => ob (isAny h x [.list]) h).bind fun x h => match tru h x with | some b => R.ok (D.bl (!b)) h | none => R.bad).bind fun x h => match tru h x with | some true => R.ok x h | some false => ((lk env 10 h).bind fun x h => match shO x h with | none => R.bad | some p => (lk env 8 h).bind fun y h => match shO y h with | none => R.bad | some q => if same p q then R.ok (D.bl (!true)) h else R.bad) | none => R.bad).bind fun d h => match tru h d with | some b => R.ok b h | none => R.bad).st env fun k h => if k then (((R.ok ((.bl false) : D) h).st env fun d h => S.rt d h).seq fun env h =>
    (S.nx env h)) else (S.nx env h)).seq fun env h =>
    ((((lk env 10 h).bind fun x h => if bmOk M.append x h then (((R.ok ([] : List D) h).bind fun l h => R.ok (D.tup l) h).bind fun d h => (R.ok ([] : List D) h).bind fun l h => R.ok (d :: l) h).bind fun l h => mth M.append x l h else R.bad).st env fun _ h => S.nx env h).seq fun env h =>
    ((((((lk env 7 h).bind fun d h => ((lk env 3 h).bind fun d h => (R.ok ([] : List D) h).bind fun l h => R.ok (d :: l) h).bind fun l h => R.ok (d :: l) h).bind fun l h => k_plain_automata l h).bind fun x h => (lk env 8 h).bind fun y h => bop B.eq x y h).st env fun d h => S.rt d h).seq fun env h =>
    (S.nx env h)))))))))))))))
theorem B_law_eq (cf : Cf) (env : AE) (h : AH) : execs cf d_law.body env h = B_law (cf.call "" "plain_automata") (cf.call "" "_law_tables") (cf.call "" "_law_is_plain") (cf.call "" "_law_draw") (cf.call "" "_law_gram") (cf.call "" "gram") (cf.call "" "_law_stream") cf.fuel cf.sub cf.isx env h := rfl
def F_law (as : List D) (h : AH) : R D := if as.length = 1 then outS (B_law F_plain_automata F__law_tables F__law_is_plain F__law_draw F__law_gram F_gram F__law_stream 100000 (pg.sub 4) pg.isx (as.map some ++ List.replicate 12 none) h) else .bad
theorem F_law_eq (l : List D) (h : AH) : runF (some d_law) (pg.cf 100000 20) l h = F_law l h := by
  show (if l.length = 1 then outS (execs (pg.cf 100000 20) d_law.body (frame d_law l) h) else .bad) = _
  rw [B_law_eq, F_plain_automata_eq 20 (by omega), F__law_tables_eq 20 (by omega), F__law_is_plain_eq 20 (by omega), F__law_draw_eq 20 (by omega), F__law_gram_eq 20 (by omega), F_gram_eq 20 (by omega), F__law_stream_eq 20 (by omega)]
  rfl
def Lk_0 (k__law_stream : List D → AH → R D) (fuel : Nat) (sub : Str → Str → Bool) (isx : Str → Bool) (env : AE) (h : AH) : S := ((((lk env 0 h).bind fun d h => (R.ok ([] : List D) h).bind fun l h => R.ok (d :: l) h).bind fun l h => k__law_stream l h).st env fun d h => (R.ok (env.set 1 (some d)) h).sb fun env h => S.nx env h)
def L_0 : AE → AH → S := Lk_0 F__law_stream 100000 (pg.sub 4) pg.isx
theorem L_0_eq (env : AE) (h : AH) : exec (pg.cf 100000 20) (.asg (.name 1) (.call "_law_stream" [.var 0])) env h = L_0 env h := by
  show Lk_0 ((pg.cf 100000 20).call "" "_law_stream") 100000 (pg.sub 4) pg.isx env h = _
  rw [F__law_stream_eq 20 (by decide)]
  rfl
def Lk_1 (k__law_draw : List D → AH → R D) (fuel : Nat) (sub : Str → Str → Bool) (isx : Str → Bool) (env : AE) (h : AH) : S := ((((lk env 1 h).bind fun d h => ((R.ok ((.int 6) : D) h).bind fun d h => (R.ok ([] : List D) h).bind fun l h => R.ok (d :: l) h).bind fun l h => R.ok (d :: l) h).bind fun l h => k__law_draw l h).st env fun d h => (R.ok (env.set 2 (some d)) h).sb fun env h => S.nx env h)
def L_1 : AE → AH → S := Lk_1 F__law_draw 100000 (pg.sub 4) pg.isx
theorem L_1_eq (env : AE) (h : AH) : exec (pg.cf 100000 20) (.asg (.name 2) (.call "_law_draw" [.var 1, .con (.int 6)])) env h = L_1 env h := by
  show Lk_1 ((pg.cf 100000 20).call "" "_law_draw") 100000 (pg.sub 4) pg.isx env h = _
  rw [F__law_draw_eq 20 (by decide)]
  rfl
def Lk_2 (k__law_draw : List D → AH → R D) (fuel : Nat) (sub : Str → Str → Bool) (isx : Str → Bool) (env : AE) (h : AH) : S := (((R.ok ((.int 2) : D) h).bind fun x h => (((lk env 1 h).bind fun d h => ((R.ok ((.int 3) : D) h).bind fun d h => (R.ok ([] : List D) h).bind fun l h => R.ok (d :: l) h).bind fun l h => R.ok (d :: l) h).bind fun l h => k__law_draw l h).bind fun y h => bop B.add x y h).st env fun d h => (R.ok (env.set 3 (some d)) h).sb fun env h => S.nx env h)
def L_2 : AE → AH → S := Lk_2 F__law_draw 100000 (pg.sub 4) pg.isx
theorem L_2_eq (env : AE) (h : AH) : exec (pg.cf 100000 20) (.asg (.name 3) (.bop .add (.con (.int 2)) (.call "_law_draw" [.var 1, .con (.int 3)]))) env h = L_2 env h := by
  show Lk_2 ((pg.cf 100000 20).call "" "_law_draw") 100000 (pg.sub 4) pg.isx env h = _
  rw [F__law_draw_eq 20 (by decide)]
  rfl
def Lk_3 (k_gram : List D → AH → R D) (fuel : Nat) (sub : Str → Str → Bool) (isx : Str → Bool) (env : AE) (h : AH) : S := ((((lk env 2 h).bind fun d h => ((lk env 3 h).bind fun d h => (R.ok ([] : List D) h).bind fun l h => R.ok (d :: l) h).bind fun l h => R.ok (d :: l) h).bind fun l h => k_gram l h).st env fun d h => (R.ok (env.set 4 (some d)) h).sb fun env h => S.nx env h)
def L_3 : AE → AH → S := Lk_3 F_gram 100000 (pg.sub 4) pg.isx
theorem L_3_eq (env : AE) (h : AH) : exec (pg.cf 100000 20) (.asg (.name 4) (.call "gram" [.var 2, .var 3])) env h = L_3 env h := by
  show Lk_3 ((pg.cf 100000 20).call "" "gram") 100000 (pg.sub 4) pg.isx env h = _
  rw [F_gram_eq 20 (by decide)]
  rfl
def Lk_4  (fuel : Nat) (sub : Str → Str → Bool) (isx : Str → Bool) (env : AE) (h : AH) : S := ((R.ok ((.int 1) : D) h).st env fun d h => (R.ok (env.set 5 (some d)) h).sb fun env h => S.nx env h)
def L_4 : AE → AH → S := Lk_4  100000 (pg.sub 4) pg.isx
theorem L_4_eq (env : AE) (h : AH) : exec (pg.cf 100000 20) (.asg (.name 5) (.con (.int 1))) env h = L_4 env h := by
  show Lk_4  100000 (pg.sub 4) pg.isx env h = _
  rfl
def Lk_5  (fuel : Nat) (sub : Str → Str → Bool) (isx : Str → Bool) (env : AE) (h : AH) : S := (((lk env 2 h).bind fun x h => match x with | .int j => if big j then R.ok (Src.its (rng 0 j.toNat 1)) h else R.bad | _ => R.bad).st env fun s h => forS fuel (fun x env h => (R.ok (env.set 6 (some x)) h).sb fun env h => ((((lk env 5 h).bind fun x h => (lk env 3 h).bind fun y h => bop B.mul x y h).st env fun d h => (R.ok (env.set 5 (some d)) h).sb fun env h => S.nx env h).seq fun env h =>
    (S.nx env h))) s env h)
def L_5 : AE → AH → S := Lk_5  100000 (pg.sub 4) pg.isx
theorem L_5_eq (env : AE) (h : AH) : exec (pg.cf 100000 20) (.for_ (.name 6) (.rng1 (.var 2)) [.asg (.name 5) (.bop .mul (.var 5) (.var 3))]) env h = L_5 env h := by
  show Lk_5  100000 (pg.sub 4) pg.isx env h = _
  rfl
def Lk_6 (k__law_gram : List D → AH → R D) (fuel : Nat) (sub : Str → Str → Bool) (isx : Str → Bool) (env : AE) (h : AH) : S := ((((lk env 5 h).bind fun x h => (R.ok ((.int 64) : D) h).bind fun y h => bop B.gt x y h).bind fun d h => match tru h d with | some b => R.ok b h | none => R.bad).st env fun k h => if k then (((((lk env 4 h).bind fun x h => (R.ok (.non : D) h).bind fun y h => bop B.isnt x y h).bind fun d h => match tru h d with | some b => R.ok b h | none => R.bad).st env fun k h => if k then (((R.ok ((.bl false) : D) h).st env fun d h => S.rt d h).seq fun env h =>
    (S.nx env h)) else (S.nx env h)).seq fun env h =>
    (S.nx env h)) else ((((((lk env 4 h).bind fun x h => match shO x h with | none => R.bad | some p => (((lk env 2 h).bind fun d h => ((lk env 3 h).bind fun d h => (R.ok ([] : List D) h).bind fun l h => R.ok (d :: l) h).bind fun l h => R.ok (d :: l) h).bind fun l h => k__law_gram l h).bind fun y h => match shO y h with | none => R.bad | some q => if same p q then R.ok (D.bl (!true)) h else R.bad).bind fun x h => match tru h x with | some true => R.ok x h | some false => ((R.ok ((.int 5) : D) h).bind fun x h => (R.ok ((.int 5) : D) h).bind fun y h => bop B.ne x y h) | none => R.bad).bind fun d h => match tru h d with | some b => R.ok b h | none => R.bad).st env fun k h => if k then (((R.ok ((.bl false) : D) h).st env fun d h => S.rt d h).seq fun env h =>
    (S.nx env h)) else (S.nx env h)).seq fun env h =>
    (S.nx env h)))
def L_6 : AE → AH → S := Lk_6 F__law_gram 100000 (pg.sub 4) pg.isx
theorem L_6_eq (env : AE) (h : AH) : exec (pg.cf 100000 20) (.ifs (.bop .gt (.var 5) (.con (.int 64))) [.ifs (.bop .isnt (.var 4) (.con .non)) [.ret (.con (.bl false))] []] [.ifs (.orE (.reqr true (.var 4) (.call "_law_gram" [.var 2, .var 3])) (.bop .ne (.con (.int 5)) (.con (.int 5)))) [.ret (.con (.bl false))] []]) env h = L_6 env h := by
  show Lk_6 ((pg.cf 100000 20).call "" "_law_gram") 100000 (pg.sub 4) pg.isx env h = _
  rw [F__law_gram_eq 20 (by decide)]
  rfl
def Lk_7 (k__law_draw : List D → AH → R D) (fuel : Nat) (sub : Str → Str → Bool) (isx : Str → Bool) (env : AE) (h : AH) : S := (((R.ok ((.int 1) : D) h).bind fun x h => (((lk env 1 h).bind fun d h => (((R.ok ((.int 2) : D) h).bind fun x h => ((((lk env 3 h).bind fun x h => (R.ok ((.int 2) : D) h).bind fun y h => bop B.eq x y h).bind fun d h => (R.ok ([] : List D) h).bind fun l h => R.ok (d :: l) h).bind fun l h => bi BI.int l h).bind fun y h => bop B.add x y h).bind fun d h => (R.ok ([] : List D) h).bind fun l h => R.ok (d :: l) h).bind fun l h => R.ok (d :: l) h).bind fun l h => k__law_draw l h).bind fun y h => bop B.add x y h).st env fun d h => (R.ok (env.set 7 (some d)) h).sb fun env h => S.nx env h)
def L_7 : AE → AH → S := Lk_7 F__law_draw 100000 (pg.sub 4) pg.isx
theorem L_7_eq (env : AE) (h : AH) : exec (pg.cf 100000 20) (.asg (.name 7) (.bop .add (.con (.int 1)) (.call "_law_draw" [.var 1, .bop .add (.con (.int 2)) (.bi .int [.bop .eq (.var 3) (.con (.int 2))])]))) env h = L_7 env h := by
  show Lk_7 ((pg.cf 100000 20).call "" "_law_draw") 100000 (pg.sub 4) pg.isx env h = _
  rw [F__law_draw_eq 20 (by decide)]
  rfl
def Lk_8  (fuel : Nat) (sub : Str → Str → Bool) (isx : Str → Bool) (env : AE) (h : AH) : S := (((R.ok ([] : List D) h).bind fun l h => R.ok (D.ref h.length) (h ++ [O.lst l])).st env fun d h => (R.ok (env.set 8 (some d)) h).sb fun env h => S.nx env h)
def L_8 : AE → AH → S := Lk_8  100000 (pg.sub 4) pg.isx
theorem L_8_eq (env : AE) (h : AH) : exec (pg.cf 100000 20) (.asg (.name 8) (.lst [])) env h = L_8 env h := by
  show Lk_8  100000 (pg.sub 4) pg.isx env h = _
  rfl
def Lk_9 (k__law_tables : List D → AH → R D) (k__law_is_plain : List D → AH → R D) (fuel : Nat) (sub : Str → Str → Bool) (isx : Str → Bool) (env : AE) (h : AH) : S := (((R.ok ((.int 1) : D) h).bind fun x h => ((lk env 7 h).bind fun x h => (R.ok ((.int 1) : D) h).bind fun y h => bop B.add x y h).bind fun y h => match x, y with | .int i, .int j => if big i && big j then R.ok (Src.its (rng i (j - i).toNat 1)) h else R.bad | _, _ => R.bad).st env fun s h => forS fuel (fun x env h => (R.ok (env.set 9 (some x)) h).sb fun env h => ((((((lk env 9 h).bind fun d h => ((lk env 3 h).bind fun d h => (R.ok ([] : List D) h).bind fun l h => R.ok (d :: l) h).bind fun l h => R.ok (d :: l) h).bind fun l h => k__law_tables l h).bind fun d h => src d h).st env fun s h => forS fuel (fun x env h => (R.ok (env.set 11 (some x)) h).sb fun env h => ((((((lk env 11 h).bind fun d h => ((lk env 9 h).bind fun d h => ((lk env 3 h).bind fun d h => (R.ok ([] : List D) h).bind fun l h => R.ok (d :: l) h).bind fun l h => R.ok (d :: l) h).bind fun l h => R.ok (d :: l) h).bind fun l h => k__law_is_plain l h).bind fun d h => match tru h d with | some b => R.ok b h | none => R.bad).st env fun k h => if k then ((((lk env 8 h).bind fun x h => if bmOk M.append x h then ((((((lk env 9 h).bind fun x h => match x with | .int j => if big j then R.ok (Src.its (rng 0 j.toNat 1)) h else R.bad | _ => R.bad).bind fun s h1 => (colN (nxt s) (fun x h => (R.ok ((wipeE env [12]).set 12 (some x)) h).bind fun env h => (R.ok true h).bind fun k h => if k then ((lk env 11 h).bind fun x h => (((lk env 12 h).bind fun x h => (lk env 3 h).bind fun y h => bop B.mul x y h).bind fun d h => match d with | .int i => R.ok (some i) h | _ => R.bad).bind fun i h => ((((lk env 12 h).bind fun x h => (lk env 3 h).bind fun y h => bop B.mul x y h).bind fun x h => (lk env 3 h).bind fun y h => bop B.add x y h).bind fun d h => match d with | .int i => R.ok (some i) h | _ => R.bad).bind fun j h => sliceD x i j h).bind fun d h => putL h1.length d h else R.ok () h) (turns fuel s) 0 (h1 ++ [O.lst []])).bind fun _ h => R.ok (D.ref h1.length) h).bind fun d h => (R.ok ([] : List D) h).bind fun l h => R.ok (d :: l) h).bind fun l h => bi BI.tuple l h).bind fun d h => (R.ok ([] : List D) h).bind fun l h => R.ok (d :: l) h).bind fun l h => mth M.append x l h else R.bad).st env fun _ h => S.nx env h).seq fun env h =>
    (S.nx env h)) else (S.nx env h)).seq fun env h =>
    (S.nx env h))) s env h).seq fun env h =>
    (S.nx env h))) s env h)
def L_9 : AE → AH → S := Lk_9 F__law_tables F__law_is_plain 100000 (pg.sub 4) pg.isx
theorem L_9_eq (env : AE) (h : AH) : exec (pg.cf 100000 20) (.for_ (.name 9) (.rng2 (.con (.int 1)) (.bop .add (.var 7) (.con (.int 1)))) [.for_ (.name 11) (.seq (.call "_law_tables" [.var 9, .var 3])) [.ifs (.call "_law_is_plain" [.var 11, .var 9, .var 3]) [.ex (.bm (.var 8) .append [.bi .tuple [.comp (.slice (.var 11) (some (.bop .mul (.var 12) (.var 3))) (some (.bop .add (.bop .mul (.var 12) (.var 3)) (.var 3)))) (.name 12) (.rng1 (.var 9)) [] [12]]])] []]]) env h = L_9 env h := by
  show Lk_9 ((pg.cf 100000 20).call "" "_law_tables") ((pg.cf 100000 20).call "" "_law_is_plain") 100000 (pg.sub 4) pg.isx env h = _
  rw [F__law_tables_eq 20 (by decide), F__law_is_plain_eq 20 (by decide)]
  rfl
def Lk_10 (k_plain_automata : List D → AH → R D) (fuel : Nat) (sub : Str → Str → Bool) (isx : Str → Bool) (env : AE) (h : AH) : S := ((((lk env 7 h).bind fun d h => ((lk env 3 h).bind fun d h => (R.ok ([] : List D) h).bind fun l h => R.ok (d :: l) h).bind fun l h => R.ok (d :: l) h).bind fun l h => k_plain_automata l h).st env fun d h => (R.ok (env.set 10 (some d)) h).sb fun env h => S.nx env h)
def L_10 : AE → AH → S := Lk_10 F_plain_automata 100000 (pg.sub 4) pg.isx
theorem L_10_eq (env : AE) (h : AH) : exec (pg.cf 100000 20) (.asg (.name 10) (.call "plain_automata" [.var 7, .var 3])) env h = L_10 env h := by
  show Lk_10 ((pg.cf 100000 20).call "" "plain_automata") 100000 (pg.sub 4) pg.isx env h = _
  rw [F_plain_automata_eq 20 (by decide)]
  rfl
def Lk_11  (fuel : Nat) (sub : Str → Str → Bool) (isx : Str → Bool) (env : AE) (h : AH) : S := ((((((lk env 10 h).bind fun x h => ob (isAny h x [.list]) h).bind fun x h => match tru h x with | some b => R.ok (D.bl (!b)) h | none => R.bad).bind fun x h => match tru h x with | some true => R.ok x h | some false => ((lk env 10 h).bind fun x h => match shO x h with | none => R.bad | some p => (lk env 8 h).bind fun y h => match shO y h with | none => R.bad | some q => if same p q then R.ok (D.bl (!true)) h else R.bad) | none => R.bad).bind fun d h => match tru h d with | some b => R.ok b h | none => R.bad).st env fun k h => if k then (((R.ok ((.bl false) : D) h).st env fun d h => S.rt d h).seq fun env h =>
    (S.nx env h)) else (S.nx env h))
def L_11 : AE → AH → S := Lk_11  100000 (pg.sub 4) pg.isx
theorem L_11_eq (env : AE) (h : AH) : exec (pg.cf 100000 20) (.ifs (.orE (.notE (.isi (.var 10) [.list])) (.reqr true (.var 10) (.var 8))) [.ret (.con (.bl false))] []) env h = L_11 env h := by
  show Lk_11  100000 (pg.sub 4) pg.isx env h = _
  rfl
def Lk_12  (fuel : Nat) (sub : Str → Str → Bool) (isx : Str → Bool) (env : AE) (h : AH) : S := (((lk env 10 h).bind fun x h => if bmOk M.append x h then (((R.ok ([] : List D) h).bind fun l h => R.ok (D.tup l) h).bind fun d h => (R.ok ([] : List D) h).bind fun l h => R.ok (d :: l) h).bind fun l h => mth M.append x l h else R.bad).st env fun _ h => S.nx env h)
def L_12 : AE → AH → S := Lk_12  100000 (pg.sub 4) pg.isx
theorem L_12_eq (env : AE) (h : AH) : exec (pg.cf 100000 20) (.ex (.bm (.var 10) .append [.tup []])) env h = L_12 env h := by
  show Lk_12  100000 (pg.sub 4) pg.isx env h = _
  rfl
def Lk_13 (k_plain_automata : List D → AH → R D) (fuel : Nat) (sub : Str → Str → Bool) (isx : Str → Bool) (env : AE) (h : AH) : S := (((((lk env 7 h).bind fun d h => ((lk env 3 h).bind fun d h => (R.ok ([] : List D) h).bind fun l h => R.ok (d :: l) h).bind fun l h => R.ok (d :: l) h).bind fun l h => k_plain_automata l h).bind fun x h => (lk env 8 h).bind fun y h => bop B.eq x y h).st env fun d h => S.rt d h)
def L_13 : AE → AH → S := Lk_13 F_plain_automata 100000 (pg.sub 4) pg.isx
theorem L_13_eq (env : AE) (h : AH) : exec (pg.cf 100000 20) (.ret (.bop .eq (.call "plain_automata" [.var 7, .var 3]) (.var 8))) env h = L_13 env h := by
  show Lk_13 ((pg.cf 100000 20).call "" "plain_automata") 100000 (pg.sub 4) pg.isx env h = _
  rw [F_plain_automata_eq 20 (by decide)]
  rfl
def L_all (env : AE) (h : AH) : S := (L_0 env h).seq fun env h => (L_1 env h).seq fun env h => (L_2 env h).seq fun env h => (L_3 env h).seq fun env h => (L_4 env h).seq fun env h => (L_5 env h).seq fun env h => (L_6 env h).seq fun env h => (L_7 env h).seq fun env h => (L_8 env h).seq fun env h => (L_9 env h).seq fun env h => (L_10 env h).seq fun env h => (L_11 env h).seq fun env h => (L_12 env h).seq fun env h => (L_13 env h).seq fun env h => S.nx env h
theorem F_law_L (d : D) (h : AH) : F_law [d] h = outS (L_all (some d :: List.replicate 12 none) h) := rfl
end DL

namespace DL
open PySem
theorem fS : F__law_stream = runF (some dS) (pg.cf 100000 0) := by
  rw [← F__law_stream_eq 1 (by decide)]
  exact run_at rfl
theorem fD : F__law_draw = runF (some dD) (pg.cf 100000 0) := by
  rw [← F__law_draw_eq 1 (by decide)]
  exact run_at rfl
theorem fG : Fn' F_gram := fn_call (F_gram_eq 5 (by decide))
theorem fG2 : Fn' F__law_gram := fn_call (F__law_gram_eq 5 (by decide))
theorem fP : Fn' F_plain_automata := fn_call (F_plain_automata_eq 5 (by decide))
/-- the two grams -/
def big43 (c s : Int) : Bool := decide (s ^ c.toNat > 64)
def chkG (c s : Int) : Bool :=
  match F_gram [.int c, .int s] [] with
  | .ok v _ => noR v && (if big43 c s then (match v with | .non => true | _ => false) else match F__law_gram [.int c, .int s] [] with
    | .ok v2 _ => noR v2 && (match shO v [], shO v2 [] with | some p, some q => same p q | _, _ => false)
    | _ => false)
  | _ => false
theorem chkG_all : ([0, 1, 2, 3, 4, 5] : List Int).all (fun c => ([2, 3, 4] : List Int).all fun s => chkG c s) = true := by decide +kernel
/-- the two lists -/
def chkA (e0 e2 e4 e5 e6 : Option D) (r s : Int) : Bool :=
  match (L_8 [e0, none, e2, some (.int s), e4, e5, e6, some (.int r), none, none, none, none, none] []).seq L_9 with
  | .nx [_, _, _, some (.int s'), _, _, _, some (.int r'), some (.ref 0), _, _, _, _] H => decide (s' = s) && decide (r' = r) && (match shO (.ref 0) H, F_plain_automata [.int r, .int s] [] with
    | some p, .ok (.ref a) G => (match shO (.ref a) G, G[a]? with | some q, some (.lst l) => same q p && PyData.eqv q p && decide (l.length < SZ) | _, _ => false)
    | _, _ => false)
  | _ => false
theorem chkA_12 (e0 e2 e4 e5 e6 : Option D) : chkA e0 e2 e4 e5 e6 1 2 = true := by kernel_rfl
theorem chkA_13 (e0 e2 e4 e5 e6 : Option D) : chkA e0 e2 e4 e5 e6 1 3 = true := by kernel_rfl
theorem chkA_14 (e0 e2 e4 e5 e6 : Option D) : chkA e0 e2 e4 e5 e6 1 4 = true := by kernel_rfl
theorem chkA_22 (e0 e2 e4 e5 e6 : Option D) : chkA e0 e2 e4 e5 e6 2 2 = true := by kernel_rfl
theorem chkA_23 (e0 e2 e4 e5 e6 : Option D) : chkA e0 e2 e4 e5 e6 2 3 = true := by kernel_rfl
end DL

namespace DL
open PySem
theorem chkA_32 (e0 e2 e4 e5 e6 : Option D) : chkA e0 e2 e4 e5 e6 3 2 = true := by kernel_rfl
end DL

namespace DL
open PySem
theorem chkA_24 (e0 e2 e4 e5 e6 : Option D) : chkA e0 e2 e4 e5 e6 2 4 = true := by kernel_rfl
end DL

namespace DL
open PySem
theorem seq_assoc (x : S) (f g : AE → AH → S) : (x.seq f).seq g = x.seq fun e h => (f e h).seq g := by cases x <;> rfl
theorem rest_ok {e0 e2 e4 e5 e6 : Option D} {r s : Int} (hr : chkA e0 e2 e4 e5 e6 r s = true) :
    ∃ h, outS (execs (pg.cf 100000 20) (d_law.body.drop 8) [e0, none, e2, some (.int s), e4, e5, e6, some (.int r), none, none, none, none, none] []) = .ok (.bl true) h := by
  simp only [d_law, List.drop, execs, L_8_eq, L_9_eq, L_10_eq, L_11_eq, L_12_eq, L_13_eq]
  rw [← seq_assoc]
  unfold chkA at hr
  split at hr
  · rename_i env' a0 a1 a2 s' a4 a5 a6 r' b1 b2 b3 b4 H q
    rw [q, S.seq_nx]
    rw [Bool.and_eq_true, Bool.and_eq_true, decide_eq_true_eq, decide_eq_true_eq] at hr
    obtain ⟨⟨rfl, rfl⟩, hr⟩ := hr
    split at hr
    · rename_i p a G e1 e2
      split at hr
      · rename_i q2 l e3 e4
        rw [Bool.and_eq_true, Bool.and_eq_true, decide_eq_true_eq] at hr
        obtain ⟨⟨h1, h2⟩, h3⟩ := hr
        have h1 := same_eq _ _ h1
        subst h1
        have f1 := fn_val fP (l := [.int r', .int s']) rfl e2 H
        have z10 : L_10 [a0, a1, a2, some (.int s'), a4, a5, a6, some (.int r'), some (.ref 0), b1, b2, b3, b4] H = .nx [a0, a1, a2, some (.int s'), a4, a5, a6, some (.int r'), some (.ref 0), b1, some (.ref (a + H.length)), b3, b4] (shH H G) := by
          simp only [L_10, Lk_10, lk, List.getElem?_cons_succ, List.getElem?_cons_zero, R.bind_ok, f1, sh, R.st_ok, R.sb_ok, List.set_cons_succ, List.set_cons_zero]
        rw [z10, S.seq_nx]
        have ng : a < G.length := (List.getElem?_eq_some_iff.mp e4).1
        have gd : ∀ pre : AH, (shH pre G)[a + pre.length]? = some (.lst (l.map (sh pre.length))) := fun pre => by rw [shH_get, e4]; rfl
        have so : ∀ pre : AH, shO (.ref (a + pre.length)) (shH pre G) = some q2 := fun pre => by rw [← e3]; exact shO_sh pre (.ref a) G
        obtain ⟨t1, ht1⟩ := shH_app H G
        have so2 : shO (.ref 0) (shH H G) = some q2 := by rw [ht1]; exact shO_app e1
        have z11 : L_11 [a0, a1, a2, some (.int s'), a4, a5, a6, some (.int r'), some (.ref 0), b1, some (.ref (a + H.length)), b3, b4] (shH H G) = .nx [a0, a1, a2, some (.int s'), a4, a5, a6, some (.int r'), some (.ref 0), b1, some (.ref (a + H.length)), b3, b4] (shH H G) := by
          have ty : isAny (shH H G) (.ref (a + H.length)) [.list] = some true := by
            simp [isAny, tyN, gd H, tyLe]
          simp [L_11, Lk_11, lk, ty, so H, so2, h1, ob, tru, R.bind, R.st]
        rw [z11, S.seq_nx]
        have z12 : L_12 [a0, a1, a2, some (.int s'), a4, a5, a6, some (.int r'), some (.ref 0), b1, some (.ref (a + H.length)), b3, b4] (shH H G) = .nx [a0, a1, a2, some (.int s'), a4, a5, a6, some (.int r'), some (.ref 0), b1, some (.ref (a + H.length)), b3, b4] ((shH H G).set (a + H.length) (.lst (l.map (sh H.length) ++ [.tup []]))) := by
          have bo : bmOk .append (.ref (a + H.length)) (shH H G) = true := by simp [bmOk, isLs, gd H]
          have mt : mth .append (.ref (a + H.length)) [.tup []] (shH H G) = .ok .non ((shH H G).set (a + H.length) (.lst (l.map (sh H.length) ++ [.tup []]))) := by
            simp only [mth, gd H, List.length_map, if_pos h3]
          simp [L_12, Lk_12, lk, bo, mt, R.bind, R.st]
        rw [z12, S.seq_nx]
        obtain ⟨t2, ht2⟩ : ∃ t2, (shH H G).set (a + H.length) (.lst (l.map (sh H.length) ++ [.tup []])) = H ++ t2 := by
          rw [ht1, List.set_append, if_neg (by omega)]
          exact ⟨_, rfl⟩
        rw [ht2]
        have f2 := fn_val fP (l := [.int r', .int s']) rfl e2 (H ++ t2)
        obtain ⟨t3, ht3⟩ := shH_app (H ++ t2) G
        have z13 : L_13 [a0, a1, a2, some (.int s'), a4, a5, a6, some (.int r'), some (.ref 0), b1, some (.ref (a + H.length)), b3, b4] (H ++ t2) = .rt (.bl true) (shH (H ++ t2) G) := by
          have e5 : pd (shH (H ++ t2) G) (.ref (a + (H ++ t2).length)) = some q2 := shO_pd (so (H ++ t2))
          have e6 : pd (shH (H ++ t2) G) (.ref 0) = some q2 := by rw [ht3]; exact pd_app (pd_app (shO_pd e1))
          have e7 : bop .eq (.ref (a + (H ++ t2).length)) (.ref 0) (shH (H ++ t2) G) = .ok (.bl true) (shH (H ++ t2) G) := by
            simp only [bop, eqB, eqF, e5, e6, h2, ob]
          simp only [L_13, Lk_13, lk, List.getElem?_cons_succ, List.getElem?_cons_zero, R.bind_ok, f2, sh, e7, R.st_ok]
        rw [z13]
        exact ⟨_, rfl⟩
      · cases hr
    · cases hr
  · cases hr
end DL

namespace DL
open PySem
def hp2 (ns : List Int) (x y z : Int) : AH := [.lst (ns.map .int), .lst [.ref 0, .int x, .int y, .int z]]
theorem st2 (ns : List Int) {x y : Int} (z : Int) (hx : 0 ≤ x) (hy : 0 ≤ y) : StAt ns 1 0 (hp2 ns x y z) x y z := ⟨rfl, rfl, by decide, hx, hy⟩
/-- a draw on a heap that begins with the stream -/
theorem draw2 {ns : List Int} {x y z many : Int} {t : AH} (hx : 0 ≤ x) (hy : 0 ≤ y) (hm : 0 < many) (hm2 : many < 1073741824) :
    ∃ v x' y' z' : Int, 0 ≤ v ∧ v < many ∧ 0 ≤ x' ∧ 0 ≤ y' ∧ F__law_draw [.ref 1, .int many] (hp2 ns x y z ++ t) = .ok (.int v) (hp2 ns x' y' z' ++ t) := by
  obtain ⟨v, x', y', z', h1, h2, h3, h4, h5⟩ := draw_run (cf := pg.cf 100000 0) ((st2 ns z hx hy).app t) hm hm2
  refine ⟨v, x', y', z', h1, h2, h3, h4, ?_⟩
  rw [fD, h5]
  rfl
theorem chkG_at {c s : Int} (h0 : 0 ≤ c) (h1 : c < 6) (h2 : 2 ≤ s) (h3 : s < 5) : chkG c s = true := by
  have z := chkG_all
  rw [List.all_eq_true] at z
  have z := z c (by simp; omega)
  rw [List.all_eq_true] at z
  exact z s (by simp; omega)
theorem chkA_at (e0 e2 e4 e5 e6 : Option D) {r s : Int} (h0 : 0 < r) (h1 : r ≤ (if s = 2 then 3 else 2)) (h2 : 2 ≤ s) (h3 : s < 5) : chkA e0 e2 e4 e5 e6 r s = true := by
  by_cases e : s = 2
  · subst e
    rw [if_pos rfl] at h1
    obtain rfl | rfl | rfl : r = 1 ∨ r = 2 ∨ r = 3 := by omega
    · exact chkA_12 e0 e2 e4 e5 e6
    · exact chkA_22 e0 e2 e4 e5 e6
    · exact chkA_32 e0 e2 e4 e5 e6
  · rw [if_neg e] at h1
    obtain rfl | rfl : s = 3 ∨ s = 4 := by omega
    · obtain rfl | rfl : r = 1 ∨ r = 2 := by omega
      · exact chkA_13 e0 e2 e4 e5 e6
      · exact chkA_23 e0 e2 e4 e5 e6
    · obtain rfl | rfl : r = 1 ∨ r = 2 := by omega
      · exact chkA_14 e0 e2 e4 e5 e6
      · exact chkA_24 e0 e2 e4 e5 e6
/-- size = symbols ** count -/
theorem sizes (e0 e1 e4 : Option D) (n7 n8 n9 n10 n11 n12 : Option D) (h : AH) {c s : Int} (h0 : 0 ≤ c) (h1 : c < 6) (h2 : 2 ≤ s) (h3 : s < 5) :
    ∃ e6, (e6 = none ∨ ∃ i, e6 = some (.int i)) ∧ (L_4 [e0, e1, some (.int c), some (.int s), e4, none, none, n7, n8, n9, n10, n11, n12] h).seq L_5 = .nx [e0, e1, some (.int c), some (.int s), e4, some (.int (s ^ c.toNat)), e6, n7, n8, n9, n10, n11, n12] h := by
  obtain rfl | rfl | rfl | rfl | rfl | rfl : c = 0 ∨ c = 1 ∨ c = 2 ∨ c = 3 ∨ c = 4 ∨ c = 5 := by omega
  · obtain rfl | rfl | rfl : s = 2 ∨ s = 3 ∨ s = 4 := by omega
    · exact ⟨none, .inl rfl, by kernel_rfl⟩
    · exact ⟨none, .inl rfl, by kernel_rfl⟩
    · exact ⟨none, .inl rfl, by kernel_rfl⟩
  · obtain rfl | rfl | rfl : s = 2 ∨ s = 3 ∨ s = 4 := by omega
    · exact ⟨some (.int 0), .inr ⟨_, rfl⟩, by kernel_rfl⟩
    · exact ⟨some (.int 0), .inr ⟨_, rfl⟩, by kernel_rfl⟩
    · exact ⟨some (.int 0), .inr ⟨_, rfl⟩, by kernel_rfl⟩
  · obtain rfl | rfl | rfl : s = 2 ∨ s = 3 ∨ s = 4 := by omega
    · exact ⟨some (.int 1), .inr ⟨_, rfl⟩, by kernel_rfl⟩
    · exact ⟨some (.int 1), .inr ⟨_, rfl⟩, by kernel_rfl⟩
    · exact ⟨some (.int 1), .inr ⟨_, rfl⟩, by kernel_rfl⟩
  · obtain rfl | rfl | rfl : s = 2 ∨ s = 3 ∨ s = 4 := by omega
    · exact ⟨some (.int 2), .inr ⟨_, rfl⟩, by kernel_rfl⟩
    · exact ⟨some (.int 2), .inr ⟨_, rfl⟩, by kernel_rfl⟩
    · exact ⟨some (.int 2), .inr ⟨_, rfl⟩, by kernel_rfl⟩
  · obtain rfl | rfl | rfl : s = 2 ∨ s = 3 ∨ s = 4 := by omega
    · exact ⟨some (.int 3), .inr ⟨_, rfl⟩, by kernel_rfl⟩
    · exact ⟨some (.int 3), .inr ⟨_, rfl⟩, by kernel_rfl⟩
    · exact ⟨some (.int 3), .inr ⟨_, rfl⟩, by kernel_rfl⟩
  · obtain rfl | rfl | rfl : s = 2 ∨ s = 3 ∨ s = 4 := by omega
    · exact ⟨some (.int 4), .inr ⟨_, rfl⟩, by kernel_rfl⟩
    · exact ⟨some (.int 4), .inr ⟨_, rfl⟩, by kernel_rfl⟩
    · exact ⟨some (.int 4), .inr ⟨_, rfl⟩, by kernel_rfl⟩

theorem law_pure (ns : List Int) (hn : ns.length ≤ 63) : ∃ h, runF (some d_law) (pg.cf 100000 20) [.wl (ns.map .int)] [] = .ok (.bl true) h := by
  obtain ⟨m, m0, m1, em⟩ := stream_run (pg.cf 100000 0) ns []
  have em : F__law_stream [.wl (ns.map .int)] [] = .ok (.ref 1) (hp2 ns 0 0 m) := by rw [fS]; exact em
  obtain ⟨c, x1, y1, z1, c0, c1, hx1, hy1, d1⟩ := draw2 (ns := ns) (z := m) (t := []) (many := 6) (Int.le_refl 0) (Int.le_refl 0) (by decide) (by decide)
  obtain ⟨s, x2, y2, z2, s0, s1, hx2, hy2, d2⟩ := draw2 (ns := ns) (z := z1) (t := []) (many := 3) hx1 hy1 (by decide) (by decide)
  rw [List.append_nil, List.append_nil] at d1 d2
  show ∃ h, (if ([D.wl (ns.map .int)] : List D).length = 1 then outS (execs (pg.cf 100000 20) d_law.body (frame d_law [.wl (ns.map .int)]) []) else .bad) = _
  rw [if_pos (show ([D.wl (ns.map .int)] : List D).length = 1 from rfl)]
  have split8 : ∀ (e : AE) (h : AH), execs (pg.cf 100000 20) d_law.body e h = (L_0 e h).seq fun e h => (L_1 e h).seq fun e h => (L_2 e h).seq fun e h => (L_3 e h).seq fun e h => (L_4 e h).seq fun e h => (L_5 e h).seq fun e h => (L_6 e h).seq fun e h => (L_7 e h).seq fun e h => execs (pg.cf 100000 20) (d_law.body.drop 8) e h := fun e h => by
    simp only [d_law, List.drop, execs, L_0_eq, L_1_eq, L_2_eq, L_3_eq, L_4_eq, L_5_eq, L_6_eq, L_7_eq]
  rw [split8]
  have z0 : L_0 (frame d_law [.wl (ns.map .int)]) [] = .nx [some (.wl (ns.map .int)), some (.ref 1), none, none, none, none, none, none, none, none, none, none, none] (hp2 ns 0 0 m) := by
    simp [L_0, Lk_0, frame, d_law, lk, em, R.bind, R.st, R.sb, List.replicate]
  rw [z0, S.seq_nx]
  have z1' : L_1 [some (.wl (ns.map .int)), some (.ref 1), none, none, none, none, none, none, none, none, none, none, none] (hp2 ns 0 0 m) = .nx [some (.wl (ns.map .int)), some (.ref 1), some (.int c), none, none, none, none, none, none, none, none, none, none] (hp2 ns x1 y1 z1) := by
    simp [L_1, Lk_1, lk, d1, R.bind, R.st, R.sb]
  rw [z1', S.seq_nx]
  have z2' : L_2 [some (.wl (ns.map .int)), some (.ref 1), some (.int c), none, none, none, none, none, none, none, none, none, none] (hp2 ns x1 y1 z1) = .nx [some (.wl (ns.map .int)), some (.ref 1), some (.int c), some (.int (2 + s)), none, none, none, none, none, none, none, none, none] (hp2 ns x2 y2 z2) := by
    simp [L_2, Lk_2, lk, d2, bop, addB, R.bind, R.st, R.sb]
  rw [z2', S.seq_nx]
  generalize hs : 2 + s = sy
  have y2' : 2 ≤ sy := by omega
  have y3' : sy < 5 := by omega
  clear z0 z1' z2'
  -- gram
  have g := chkG_at c0 c1 y2' y3'
  unfold chkG at g
  split at g
  · rename_i v G ev
    rw [Bool.and_eq_true] at g
    obtain ⟨nv, g⟩ := g
    have fg := fn_val fG (l := [.int c, .int sy]) rfl ev (hp2 ns x2 y2 z2)
    rw [sh_noR _ v nv] at fg
    obtain ⟨t1, ht1⟩ := shH_app (hp2 ns x2 y2 z2) G
    rw [ht1] at fg
    have z3 : L_3 [some (.wl (ns.map .int)), some (.ref 1), some (.int c), some (.int sy), none, none, none, none, none, none, none, none, none] (hp2 ns x2 y2 z2) = .nx [some (.wl (ns.map .int)), some (.ref 1), some (.int c), some (.int sy), some v, none, none, none, none, none, none, none, none] (hp2 ns x2 y2 z2 ++ t1) := by
      simp [L_3, Lk_3, lk, fg, R.bind, R.st, R.sb]
    rw [z3, S.seq_nx]
    obtain ⟨e6, he6, z45⟩ := sizes (some (.wl (ns.map .int))) (some (.ref 1)) (some v) none none none none none none (hp2 ns x2 y2 z2 ++ t1) c0 c1 y2' y3'
    rw [← seq_assoc, z45, S.seq_nx]
    -- what stands behind the check of the grams
    have z6 : ∃ t2, L_6 [some (.wl (ns.map .int)), some (.ref 1), some (.int c), some (.int sy), some v, some (.int (sy ^ c.toNat)), e6, none, none, none, none, none, none] (hp2 ns x2 y2 z2 ++ t1) =
        .nx [some (.wl (ns.map .int)), some (.ref 1), some (.int c), some (.int sy), some v, some (.int (sy ^ c.toNat)), e6, none, none, none, none, none, none] (hp2 ns x2 y2 z2 ++ t2) := by
      cases hb : big43 c sy with
      | true =>
        rw [hb, if_pos rfl] at g
        have hb : sy ^ c.toNat > 64 := of_decide_eq_true hb
        split at g
        · exact ⟨t1, by simp [L_6, Lk_6, lk, bop, isB, ob, tru, R.bind, R.st, S.seq, hb]⟩
        · cases g
      | false =>
        rw [hb, if_neg Bool.false_ne_true] at g
        have hb : ¬ sy ^ c.toNat > 64 := of_decide_eq_false hb
        split at g
        · rename_i v2 G2 ev2
          rw [Bool.and_eq_true] at g
          obtain ⟨nv2, g⟩ := g
          split at g
          · rename_i p q e1 e2
            have fg2 := fn_val fG2 (l := [.int c, .int sy]) rfl ev2 (hp2 ns x2 y2 z2 ++ t1)
            rw [sh_noR _ v2 nv2] at fg2
            obtain ⟨t2, ht2⟩ := shH_app (hp2 ns x2 y2 z2 ++ t1) G2
            rw [ht2] at fg2
            have s1 := shO_any nv e1 (hp2 ns x2 y2 z2 ++ t1)
            have s2 := shO_any nv2 e2 (hp2 ns x2 y2 z2 ++ t1 ++ t2)
            rw [List.append_assoc] at fg2 s2
            refine ⟨t1 ++ t2, ?_⟩
            simp [L_6, Lk_6, lk, bop, eqB, ob, tru, R.bind, R.st, S.seq, hb, s1, fg2, s2, g]
          · cases g
        · cases g
    obtain ⟨t2, z6⟩ := z6
    rw [z6, S.seq_nx]
    obtain ⟨r, x3, y3, z3', r0, r1, hx3, hy3, d3⟩ := draw2 (ns := ns) (x := x2) (y := y2) (z := z2) (t := t2) (many := 2 + (if decide (sy = 2) = true then 1 else 0)) hx2 hy2 (by split <;> decide) (by split <;> decide)
    have z7 : L_7 [some (.wl (ns.map .int)), some (.ref 1), some (.int c), some (.int sy), some v, some (.int (sy ^ c.toNat)), e6, none, none, none, none, none, none] (hp2 ns x2 y2 z2 ++ t2) =
        .nx [some (.wl (ns.map .int)), some (.ref 1), some (.int c), some (.int sy), some v, some (.int (sy ^ c.toNat)), e6, some (.int (1 + r)), none, none, none, none, none] (hp2 ns x3 y3 z3' ++ t2) := by
      have q1 : ∀ h, bop .eq (.int sy) (.int 2) h = .ok (.bl (decide (sy = 2))) h := fun _ => rfl
      have q2 : ∀ (k : Bool) h, bi .int [.bl k] h = .ok (.int (if k then 1 else 0)) h := fun _ _ => rfl
      have q3 : ∀ (i j : Int) h, bop .add (.int i) (.int j) h = .ok (.int (i + j)) h := fun _ _ _ => rfl
      simp only [L_7, Lk_7, lk, List.getElem?_cons_succ, List.getElem?_cons_zero, R.bind_ok, q1, q2, q3, d3, R.st_ok, R.sb_ok, List.set_cons_succ, List.set_cons_zero]
    rw [z7, S.seq_nx]
    have rr : 1 + r ≤ (if sy = 2 then 3 else 2) := by
      by_cases e : sy = 2
      · rw [if_pos e]; rw [if_pos (decide_eq_true e)] at r1; omega
      · rw [if_neg e]; rw [if_neg (by simpa using e)] at r1; omega
    have fin := rest_ok (chkA_at (some (.wl (ns.map .int))) (some (.int c)) (some v) (some (.int (sy ^ c.toNat))) e6 (r := 1 + r) (s := sy) (by omega) rr y2' y3')
    rw [rest_sh (j := 1) rfl (fun d hd w hw => ?_)]
    · obtain ⟨h', e⟩ := fin
      refine ⟨shH (hp2 ns x3 y3 z3' ++ t2) h', ?_⟩
      simp only [List.set_cons_succ, List.set_cons_zero]
      rw [e]
      rfl
    · subst hw
      simp only [List.set_cons_succ, List.set_cons_zero, List.mem_cons, List.not_mem_nil, or_false, reduceCtorEq, false_or, Option.some.injEq] at hd
      rcases hd with rfl | rfl | rfl | rfl | rfl | hd | rfl
      · simp only [noR]; exact noRL_ints ns
      · rfl
      · rfl
      · exact nv
      · rfl
      · rcases he6 with e | ⟨i, e⟩
        · rw [e] at hd; cases hd
        · rw [e] at hd; cases hd; rfl
      · rfl
  · cases g
end DL

open PySem
open PySem PySem.W PyProof.Rows
set_option maxRecDepth 100000 in
set_option maxHeartbeats 0 in
theorem PySem.Challenge.cw_tacet_k43_grams_and_plain_automata_holds : PySem.Challenge.rw_tacet_k43_grams_and_plain_automata.Holds := by
  w_on; o_law; k_head; (case hw => w_witness2)
  k_fill
  refine DL.walk_D (l := PySem.Challenge.rw_tacet_k43_grams_and_plain_automata) (n := 63) rfl (by decide) rfl (fun w h Y => PySem.W.kIn_of Y) ?F
  case F =>
    intro w mg fa h KX G hmg a ns hlen hbits
    refine' DL.all_D KX G ?a0 ?l0 ?c0 ?k0 ?a1 ?l1 ?c1 ?k1 ?a2 ?l2 ?c2 ?k2 ?a3 ?l3 ?c3 ?k3 ?a4 ?l4 ?c4 ?k4 ?a5 ?l5 ?c5 ?k5 ?a6 ?l6 ?c6 ?k6 ?a7 ?l7 ?c7 ?k7 ?a8 ?l8 ?c8 ?k8 ?z_abs ?z_int ?z_isinstance ?z_len ?z_list ?z_max ?z_min ?z_range ?z_repr ?z_tuple ?m_MOST_GRAM ?m_MOST_ROWS hmg a ns (DL.law_pure ns hlen)
    (case a0 => k_is)
    (case l0 => k_is)
    (case c0 => k_is)
    (case k0 => k_is)
    (case a1 => k_is)
    (case l1 => k_is)
    (case c1 => k_is)
    (case k1 => k_is)
    (case a2 => k_is)
    (case l2 => k_is)
    (case c2 => k_is)
    (case k2 => k_is)
    (case a3 => k_is)
    (case l3 => k_is)
    (case c3 => k_is)
    (case k3 => k_is)
    (case a4 => k_is)
    (case l4 => k_is)
    (case c4 => k_is)
    (case k4 => k_is)
    (case a5 => k_is)
    (case l5 => k_is)
    (case c5 => k_is)
    (case k5 => k_is)
    (case a6 => k_is)
    (case l6 => k_is)
    (case c6 => k_is)
    (case k6 => k_is)
    (case a7 => k_is)
    (case l7 => k_is)
    (case c7 => k_is)
    (case k7 => k_is)
    (case a8 => k_is)
    (case l8 => k_is)
    (case c8 => k_is)
    (case k8 => k_is)
    (case z_abs => k_is)
    (case z_int => k_is)
    (case z_isinstance => k_is)
    (case z_len => k_is)
    (case z_list => k_is)
    (case z_max => k_is)
    (case z_min => k_is)
    (case z_range => k_is)
    (case z_repr => k_is)
    (case z_tuple => k_is)
    (case m_MOST_GRAM => k_is)
    (case m_MOST_ROWS => k_is)
